/- Lemmas for the statement StemmaAll of the given program, for every input that its row lets in. Conditions: none beyond those that each lemma tells. -/
import Derived.BigQuiet
import Derived.Deep.CutBlock
import Derived.SizedLaws
import Derived.ChangeSlices
import Derived.Test.YtegjollhajgcdaaMStemmaAll5
set_option linter.unusedVariables false
set_option linter.unusedSimpArgs false
namespace Go.Proofs.Ytegjollhajgcdaa.P
open Go.RowKit Go.Proofs.YtegjollhajgcdaaW.PrintWords Go.Proofs.YtegjollhajgcdaaW.PrintLast Go.Proofs.YtegjollhajgcdaaW.PrintMore
set_option linter.unusedVariables false
set_option linter.unusedSimpArgs false
def cippuslaw07_changed.f (s0_0 : Int) (s0_1 : Int) (l1 : List (S24)) : Option (List (S24) × Int × Int) := OwnSt.changedV s0_0 s0_1 l1
def cippuslaw07_alltruths.f (l0 : List (S24)) : Option (List (S27)) := OwnSt.allV l0
mutual
def cippuslaw07_tail.j0 : Nat → List (S24) → List (S27) → List (List Int) → List ByteArray → Int → Bool → Option (Bool)
  | 0, _, _, _, _, _, _ => none
  | k + 1, x4, x7, x8, x10, x12, x122 => if x122 = true then (some false) else (if 0 < (x7.length : Int) then ((cippuslaw07_errors.f k x4 ((rd_T27 x7 0).f0) ((rd_T27 x7 0).f1)).bind fun t352 => (cippuslaw07_tail.l0 k x4 x7 x8 x10 x12 t352 0)) else (none))
def cippuslaw07_tail.l0 : Nat → List (S24) → List (S27) → List (List Int) → List ByteArray → Int → Int → Int → Option (Bool)
  | 0, _, _, _, _, _, _, _ => none
  | k + 1, x4, x7, x8, x10, x12, x14, x15 => if x15 < (x7.length : Int) then (if 0 ≤ x15 then ((cippuslaw07_errors.f k x4 ((rd_T27 x7 x15).f0) ((rd_T27 x7 x15).f1)).bind fun t354 => (cippuslaw07_tail.l0 k x4 x7 x8 x10 x12 (mn x14 t354) (wrap64 (x15 + 1)))) else (none)) else (if x12 = x14 then (cippuslaw07_tail.l1 k x4 x7 x8 x10 0) else (some false))
def cippuslaw07_tail.l1 : Nat → List (S24) → List (S27) → List (List Int) → List ByteArray → Int → Option (Bool)
  | 0, _, _, _, _, _ => none
  | k + 1, x4, x7, x8, x10, x16 => if x16 < (x4.length : Int) then (cippuslaw07_tail.l2 k x4 x7 x8 x10 x16 (-1)) else (cippuslaw07_tail.l4 k x7 x10 0)
def cippuslaw07_tail.l2 : Nat → List (S24) → List (S27) → List (List Int) → List ByteArray → Int → Int → Option (Bool)
  | 0, _, _, _, _, _, _ => none
  | k + 1, x4, x7, x8, x10, x16, x17 => if x17 < x16 then (cippuslaw07_tail.l3 k x4 x7 x8 x10 x16 x17 0 0) else (cippuslaw07_tail.l1 k x4 x7 x8 x10 (wrap64 (x16 + 1)))
def cippuslaw07_tail.l3 : Nat → List (S24) → List (S27) → List (List Int) → List ByteArray → Int → Int → Int → Int → Option (Bool)
  | 0, _, _, _, _, _, _, _, _ => none
  | k + 1, x4, x7, x8, x10, x16, x17, x18, x19 => if x19 < (x7.length : Int) then (if 0 ≤ x19 then (if 0 ≤ x16 then (if x16 < (((rd_T27 x7 x19).f1).length : Int) then (if (rd ((rd_T27 x7 x19).f1) x16) = x17 then (cippuslaw07_tail.l3 k x4 x7 x8 x10 x16 x17 (wrap64 (x18 + 1)) (wrap64 (x19 + 1))) else (cippuslaw07_tail.l3 k x4 x7 x8 x10 x16 x17 x18 (wrap64 (x19 + 1)))) else (none)) else (none)) else (none)) else (if 0 ≤ x16 then (if x16 < (x8.length : Int) then (if ((rd_L4 x8 x16).length : Int) = (wrap64 (x16 + 1)) then (if 0 ≤ (wrap64 (x17 + 1)) then (if (wrap64 (x17 + 1)) < ((rd_L4 x8 x16).length : Int) then ((cippuslaw07_said.f x18 (x7.length : Int)).bind fun t360 => (if (rd (rd_L4 x8 x16) (wrap64 (x17 + 1))) = t360 then (cippuslaw07_tail.l2 k x4 x7 x8 x10 x16 (wrap64 (x17 + 1))) else (some false))) else (none)) else (none)) else (some false)) else (none)) else (none))
def cippuslaw07_tail.l4 : Nat → List (S27) → List ByteArray → Int → Option (Bool)
  | 0, _, _, _ => none
  | k + 1, x7, x10, x20 => if x20 < (x10.length : Int) then (cippuslaw07_tail.l5 k x7 x10 x20 65) else ((cippuslaw07_found.f k).bind fun t361 => (some t361))
def cippuslaw07_tail.l5 : Nat → List (S27) → List ByteArray → Int → Int → Option (Bool)
  | 0, _, _, _, _ => none
  | k + 1, x7, x10, x20, x21 => if x21 ≤ 90 then (cippuslaw07_tail.l6 k x7 x10 x20 x21 false 0) else (cippuslaw07_tail.l4 k x7 x10 (wrap64 (x20 + 1)))
def cippuslaw07_tail.l6 : Nat → List (S27) → List ByteArray → Int → Int → Bool → Int → Option (Bool)
  | 0, _, _, _, _, _, _ => none
  | k + 1, x7, x10, x20, x21, x22, x23 => if x23 < (x7.length : Int) then (if x22 = true then (cippuslaw07_tail.l6 k x7 x10 x20 x21 true (wrap64 (x23 + 1))) else (if 0 ≤ x23 then (if 0 ≤ x20 then (if x20 < (((rd_T27 x7 x23).f0).size : Int) then (cippuslaw07_tail.l6 k x7 x10 x20 x21 ((bt ((rd_T27 x7 x23).f0) x20) == (mn x21 68)) (wrap64 (x23 + 1))) else (none)) else (none)) else (none))) else (if 0 ≤ x20 then (if x20 < (x10.length : Int) then ((cippuslaw07_has.f k (rdOf ByteArray.empty x10 x20) x21).bind fun t364 => (if (t364 != x22) = true then (some false) else (cippuslaw07_tail.l5 k x7 x10 x20 ((x21 + 1) % 256)))) else (none)) else (none))
end
def cippuslaw07_tail.f (k : Nat) (l4 : List (S24)) (l7 : List (S27)) (l8 : List (List Int)) (a9 : Int) (l10 : List ByteArray) (a11 : Int) (a12 : Int) (a13 : Int) : Option (Bool) := if (l7.length : Int) = 0 then (if a9 = 9 then (if a11 = a9 then (if a13 = a9 then (if (wrap64 ((l8.length : Int) + (l10.length : Int))) = 0 then ((cippuslaw07_found.f k).bind fun t349 => (some t349)) else (some false)) else (some false)) else (some false)) else (some false)) else (if a9 = 0 then (if a11 = 0 then (if a13 = 0 then (if (l8.length : Int) = (l4.length : Int) then (if 0 < (l4.length : Int) then (cippuslaw07_tail.j0 k l4 l7 l8 l10 a12 ((l10.length : Int) != (((rd_T24 l4 0).f0).size : Int))) else (none)) else (cippuslaw07_tail.j0 k l4 l7 l8 l10 a12 true)) else (cippuslaw07_tail.j0 k l4 l7 l8 l10 a12 true)) else (cippuslaw07_tail.j0 k l4 l7 l8 l10 a12 true)) else (cippuslaw07_tail.j0 k l4 l7 l8 l10 a12 true))
def cippuslaw07_StemmaAll.j0 : Nat → List (S24) → Option (Bool)
  | 0, _ => none
  | k + 1, x4 => (cippuslaw07_alltruths.f x4).bind fun t394 => ((stemma_Sources.f k x4).bind fun bt397 => ((stemma_Letters.f k x4).bind fun bt401 => ((stemma_Fewest.f k x4).bind fun bt405 => ((cippuslaw07_tail.f k x4 t394 bt397.1 bt397.2 bt401.1 bt401.2 bt405.1 bt405.2).bind fun t407 => (some t407)))))
def cippuslaw07_StemmaAll.f (k : Nat) (l0 : List Int) : Option (Bool) := (cippuskit_NewUrn.f l0).bind fun bt367 => ((cippuskit_Urn_Any.f bt367.1 bt367.2 (([1, 2] : List Int))).bind fun bt373 => ((cippuskit_CopiesOf.f bt373.2.1 bt373.2.2 4 3 bt373.1).bind fun bt376 => ((cippuskit_Urn_Odds.f bt376.2.2.2.1 bt376.2.2.2.2 1 4).bind fun bt386 => (if bt386.1 = true then ((cippuslaw07_changed.f bt386.2.1 bt386.2.2 bt376.1).bind fun bt389 => (cippuslaw07_StemmaAll.j0 k bt389.1)) else (cippuslaw07_StemmaAll.j0 k bt376.1)))))
end Go.Proofs.Ytegjollhajgcdaa.P
namespace Go.Proofs.Ytegjollhajgcdaa.P.OwnSt
open Go.RowKit Go.Proofs.YtegjollhajgcdaaW.PrintWords Go.Proofs.YtegjollhajgcdaaW.PrintLast Go.Proofs.YtegjollhajgcdaaW.PrintMore
set_option linter.unusedVariables false
set_option linter.unusedSimpArgs false
theorem sumTo_zero : ∀ n, sumTo (fun _ => 0) n = 0 := by
  intro n
  induction n with
  | zero => rfl
  | succ n ih => unfold sumTo; rw [ih]; rfl
theorem sumTo_one (a : Nat) (v : Int) : ∀ n, sumTo (fun q => if q = a then v else 0) n = if a < n then v else 0 := by
  intro n
  induction n with
  | zero => rfl
  | succ n ih =>
    unfold sumTo
    rw [ih]
    by_cases e : n = a
    · subst e
      rw [if_neg (by omega), if_pos rfl, if_pos (by omega)]
      omega
    · rw [if_neg e]
      by_cases h : a < n
      · rw [if_pos h, if_pos (by omega)]; omega
      · rw [if_neg h, if_neg (by omega)]; omega
theorem sumTo_swap (f : Nat → Nat → Int) (m : Nat) : ∀ n, sumTo (fun i => sumTo (f i) m) n = sumTo (fun j => sumTo (fun i => f i j) n) m := by
  intro n
  induction n with
  | zero => show 0 = sumTo (fun _ => 0) m; rw [sumTo_zero]
  | succ n ih =>
    show sumTo (fun i => sumTo (f i) m) n + sumTo (f n) m = _
    rw [ih, ← sumTo_add]
    rfl
theorem sumTo_perm (h : Nat → Int) (o oi : Nat → Nat) (n : Nat) (h1 : ∀ p, p < n → o p < n ∧ oi (o p) = p) (h2 : ∀ q, q < n → oi q < n ∧ o (oi q) = q) : sumTo (fun p => h (o p)) n = sumTo h n := by
  have e1 : sumTo (fun p => h (o p)) n = sumTo (fun p => sumTo (fun q => if q = o p then h (o p) else 0) n) n := sumTo_congr _ fun p hp => by
    rw [sumTo_one, if_pos (h1 p hp).1]
  have e2 : sumTo h n = sumTo (fun q => sumTo (fun p => if q = o p then h (o p) else 0) n) n := sumTo_congr _ fun q hq => by
    have : sumTo (fun p => if q = o p then h (o p) else 0) n = sumTo (fun p => if p = oi q then h q else 0) n := sumTo_congr _ fun p hp => by
      show (if q = o p then h (o p) else 0) = (if p = oi q then h q else 0)
      by_cases e : q = o p
      · have e3 : p = oi q := by rw [e]; exact (h1 p hp).2.symm
        rw [if_pos e, if_pos e3, ← e]
      · have e3 : ¬ p = oi q := fun h => e (by rw [h]; exact (h2 q hq).2.symm)
        rw [if_neg e, if_neg e3]
    rw [this, sumTo_one, if_pos (h2 q hq).1]
  rw [e1, e2, sumTo_swap]
theorem apN_sum (a b : ByteArray) : ∀ n, apN a b n = sumTo (fun p => if bt a (p : Int) = bt b (p : Int) then 0 else 1) n := by
  intro n
  induction n with
  | zero => rfl
  | succ n ih => rw [apN_succ, ih]; rfl
theorem hsum_sum (l : List S24) (s t : Nat → Int) (i : Nat) : ∀ rem p, hsum l s t i rem p = sumTo (fun k => if hit l s ((p + k : Nat) : Int) (t (p + k)) i = true then 1 else 0) rem := by
  intro rem
  induction rem with
  | zero => intro p; rfl
  | succ rem ih =>
    intro p
    have h2 : ∀ (f : Nat → Int) n, sumTo f (n + 1) = f 0 + sumTo (fun k => f (k + 1)) n := by
      intro f n
      induction n with
      | zero => simp [sumTo]
      | succ n ih => rw [sumTo, ih, sumTo]; omega
    rw [h2]
    show (if hit l s (p : Int) (t p) i = true then 1 else 0) + hsum l s t i rem (p + 1) = _
    rw [ih]
    have : (fun k => if hit l s ((p + 1 + k : Nat) : Int) (t (p + 1 + k)) i = true then (1 : Int) else 0) = fun k => if hit l s ((p + (k + 1) : Nat) : Int) (t (p + (k + 1))) i = true then 1 else 0 := by
      funext k
      rw [show p + 1 + k = p + (k + 1) by omega]
    rw [this]
    rfl
theorem hsum_all (l : List S24) (s t : Nat → Int) (i n : Nat) : hsum l s t i n 0 = sumTo (fun (k : Nat) => if hit l s (k : Int) (t k) i = true then 1 else 0) n := by
  rw [hsum_sum]
  have : (fun k => if hit l s ((0 + k : Nat) : Int) (t (0 + k)) i = true then (1 : Int) else 0) = fun (k : Nat) => if hit l s (k : Int) (t k) i = true then 1 else 0 := by
    funext k
    rw [Nat.zero_add]
  rw [this]
def phi (y c : Int) : Int := 65 + (c - 65 + y) % 26
theorem phi_ok (y c : Int) : 65 ≤ phi y c ∧ phi y c ≤ 90 := by unfold phi; omega
theorem phi_back {y c : Int} (h : 65 ≤ c ∧ c ≤ 90) : phi (-y) (phi y c) = c := by unfold phi; omega
theorem phi_inj {y c d : Int} (hc : 65 ≤ c ∧ c ≤ 90) (hd : 65 ≤ d ∧ d ≤ 90) : (phi y c = phi y d) ↔ c = d := ⟨fun h => by rw [← phi_back hc (y := y), h, phi_back hd], fun h => by rw [h]⟩
structure TurnR (l l' : List S24) (o oi : Nat → Nat) (y : Nat → Int) : Prop where
  vl : Valid l
  vl' : Valid l'
  len : l'.length = l.length
  size : (rd_T24 l' 0).f0.size = (rd_T24 l 0).f0.size
  o1 : ∀ p, p < (rd_T24 l 0).f0.size → o p < (rd_T24 l 0).f0.size ∧ oi (o p) = p
  o2 : ∀ q, q < (rd_T24 l 0).f0.size → oi q < (rd_T24 l 0).f0.size ∧ o (oi q) = q
  text : ∀ i : Nat, i < l.length → ∀ p : Nat, p < (rd_T24 l 0).f0.size → bt (rd_T24 l' (i : Int)).f0 (p : Int) = phi (y p) (bt (rd_T24 l (i : Int)).f0 ((o p : Nat) : Int))
  err : ∀ i : Nat, i < l.length → (rd_T24 l' (i : Int)).f1 = (rd_T24 l (i : Int)).f1
  saw : ∀ i : Nat, i < l.length → (rd_T24 l' (i : Int)).f2 = (rd_T24 l (i : Int)).f2
section
variable {l l' : List S24} {o oi : Nat → Nat} {y : Nat → Int}
theorem TurnR.symm (h : TurnR l l' o oi y) : TurnR l' l oi o (fun q => - y (oi q)) := by
  refine ⟨h.vl', h.vl, h.len.symm, h.size.symm, fun p hp => ?_, fun q hq => ?_, fun i hi p hp => ?_, fun i hi => (h.err i (by rw [← h.len]; exact hi)).symm, fun i hi => (h.saw i (by rw [← h.len]; exact hi)).symm⟩
  · rw [h.size] at hp ⊢; exact h.o2 p hp
  · rw [h.size] at hq ⊢; exact h.o1 q hq
  · rw [h.size] at hp
    rw [h.len] at hi
    rw [h.text i hi (oi p) (h.o2 p hp).1, (h.o2 p hp).2, phi_back (h.vl.good i hi p hp)]
theorem TurnR.ap (h : TurnR l l' o oi y) (i j : Nat) (hi : i < l.length) (hj : j < l.length) : apN (rd_T24 l' (i : Int)).f0 (rd_T24 l' (j : Int)).f0 (rd_T24 l 0).f0.size = apN (rd_T24 l (i : Int)).f0 (rd_T24 l (j : Int)).f0 (rd_T24 l 0).f0.size := by
  rw [apN_sum, apN_sum, ← sumTo_perm (fun (p : Nat) => if bt (rd_T24 l (i : Int)).f0 (p : Int) = bt (rd_T24 l (j : Int)).f0 (p : Int) then 0 else 1) o oi _ h.o1 h.o2]
  refine sumTo_congr _ fun p hp => ?_
  show (if bt (rd_T24 l' (i : Int)).f0 (p : Int) = bt (rd_T24 l' (j : Int)).f0 (p : Int) then (0 : Int) else 1) = (if bt (rd_T24 l (i : Int)).f0 ((o p : Nat) : Int) = bt (rd_T24 l (j : Int)).f0 ((o p : Nat) : Int) then 0 else 1)
  rw [h.text i hi p hp, h.text j hj p hp]
  have hp2 := (h.o1 p hp).1
  have h3 := phi_inj (y := y p) (h.vl.good i hi _ hp2) (h.vl.good j hj _ hp2)
  by_cases e : bt (rd_T24 l (i : Int)).f0 ((o p : Nat) : Int) = bt (rd_T24 l (j : Int)).f0 ((o p : Nat) : Int)
  · rw [if_pos e, if_pos (h3.2 e)]
  · rw [if_neg e, if_neg (fun h4 => e (h3.1 h4))]
theorem TurnR.can (h : TurnR l l' o oi y) (i : Nat) (f : Int) (hi : i < l.length) (h0 : -1 ≤ f) (hf : f < i) : canF l' i f = canF l i f := by
  unfold canF
  rw [h.saw i hi, h.err i hi]
  by_cases e : f = -1
  · subst e
    rfl
  · rw [if_neg (by simpa using e), if_neg (by simpa using e)]
    obtain ⟨j, rfl⟩ : ∃ j : Nat, f = (j : Int) := ⟨f.toNat, by omega⟩
    have hj : j < l.length := by omega
    rw [h.vl'.size j (by rw [h.len]; exact hj), h.size, h.vl.size j hj, h.ap j i hj hi]
theorem treesG_same (h : ∀ (i : Nat) (f : Int), i < l.length → -1 ≤ f → f < i → canF l' i f = canF l i f) : ∀ rem i s, i + rem = l.length → treesG l' rem i s = treesG l rem i s := by
  intro rem
  induction rem with
  | zero => intro i s _; rfl
  | succ rem ih =>
    intro i s hi
    unfold treesG
    rw [List.flatMap_def, List.flatMap_def]
    congr 1
    refine List.map_congr_left fun f hf => ?_
    have hf := List.mem_range.1 hf
    rw [h i ((f : Int) - 1) (by omega) (by omega) (by omega), ih (i + 1) _ (by omega)]
def trT (L : Nat) (o : Nat → Nat) (y : Nat → Int) (t : Nat → Int) (p : Nat) : Int := if p < L then phi (y p) (t (o p)) else 65
theorem TurnR.hits (h : TurnR l l' o oi y) {t : Nat → Int} (ht : GoodT t) (s : Nat → Int) (i p : Nat) (hi : i < l.length) (hp : p < (rd_T24 l 0).f0.size) : hit l' s (p : Int) (trT (rd_T24 l 0).f0.size o y t p) i = hit l s ((o p : Nat) : Int) (t (o p)) i := by
  unfold hit trT
  rw [if_pos hp, h.text i hi p hp]
  congr 1
  have h2 := phi_inj (y := y p) (h.vl.good i hi _ (h.o1 p hp).1) (ht (o p))
  rw [Bool.eq_iff_iff, bne_iff_ne, bne_iff_ne]
  exact not_congr h2
theorem TurnR.hsums (h : TurnR l l' o oi y) {t : Nat → Int} (ht : GoodT t) (s : Nat → Int) (i : Nat) (hi : i < l.length) : hsum l' s (trT (rd_T24 l 0).f0.size o y t) i (rd_T24 l' 0).f0.size 0 = hsum l s t i (rd_T24 l 0).f0.size 0 := by
  rw [h.size, hsum_all, hsum_all, ← sumTo_perm (fun (p : Nat) => if hit l s (p : Int) (t p) i = true then 1 else 0) o oi _ h.o1 h.o2]
  refine sumTo_congr _ fun p hp => ?_
  show (if hit l' s (p : Int) (trT (rd_T24 l 0).f0.size o y t p) i = true then (1 : Int) else 0) = (if hit l s ((o p : Nat) : Int) (t (o p)) i = true then 1 else 0)
  rw [h.hits ht s i p hi hp]
theorem TurnR.fit (h : TurnR l l' o oi y) {s t : Nat → Int} (ht : FitT l s t) : FitT l' s (trT (rd_T24 l 0).f0.size o y t) ∧ costT l' s (trT (rd_T24 l 0).f0.size o y t) = costT l s t := by
  refine ⟨⟨fun p => ?_, fun i hi h2 => ?_⟩, ?_⟩
  · unfold trT
    split
    · exact phi_ok _ _
    · omega
  · rw [h.len] at hi
    rw [h.hsums ht.1 s i hi] at h2 ⊢
    rw [h.err i hi]
    exact ht.2 i hi h2
  · unfold costT
    rw [cost_sum, cost_sum, h.len]
    exact sumTo_congr _ fun i hi => h.hsums ht.1 s i hi
theorem TurnR.lies (h : TurnR l l' o oi y) (s : Nat → Int) : liesB l' s = liesB l s := by
  rw [Bool.eq_iff_iff]
  constructor
  · intro h1
    obtain ⟨t, ht, _⟩ := fit_of_lies h1
    exact lies_of_fit h.vl (h.symm.fit ht).1
  · intro h1
    obtain ⟨t, ht, _⟩ := fit_of_lies h1
    exact lies_of_fit h.vl' (h.fit ht).1
theorem TurnR.known (h : TurnR l l' o oi y) : knownV l' = knownV l := by
  unfold knownV
  rw [h.len, treesG_same h.can _ _ _ (by omega)]
  exact List.filter_congr fun s _ => h.lies s
theorem TurnR.knownE (h : TurnR l l' o oi y) : knownE l' = knownE l := by
  unfold OwnSt.knownE
  rw [h.known, check_of_valid h.vl, check_of_valid h.vl']
theorem TurnR.apTo (h : TurnR l l' o oi y) {s : Nat → Int} (hs : TreeOk l s) : apTo l' s l.length = apTo l s l.length := by
  rw [apTo_sum, apTo_sum]
  refine sumTo_congr _ fun k hk => ?_
  show (if s k = -1 then (0 : Int) else _) = (if s k = -1 then 0 else _)
  by_cases e : s k = -1
  · rw [if_pos e, if_pos e]
  · rw [if_neg e, if_neg e]
    have h3 := hs.1 k hk
    obtain ⟨j, hj⟩ : ∃ j : Nat, s k = (j : Int) := ⟨(s k).toNat, by omega⟩
    have hj2 : j < l.length := by omega
    rw [hj, h.vl'.size j (by rw [h.len]; exact hj2), h.size, h.vl.size j hj2, h.ap j k hj2 hk]
theorem TurnR.fewest_le (h : TurnR l l' o oi y) (hk : OwnSt.knownE l = 0) : (fewestV l').1 ≤ (fewestV l).1 := by
  obtain ⟨s, hs, e⟩ := fewest_att hk
  obtain ⟨t, ht, e2⟩ := numF_att (knownV_mem hs).2.2
  have h1 := OwnSt.fewest_le (by rw [h.knownE]; exact hk) (show s ∈ knownV l' by rw [h.known]; exact hs)
  obtain ⟨h2, h3⟩ := h.fit ht
  have h4 := numF_le h2
  have h5 := h.apTo ((known_iff h.vl s).1 hs).1
  rw [h.len] at h4
  omega
theorem TurnR.fewest (h : TurnR l l' o oi y) (hk : OwnSt.knownE l = 0) : (fewestV l').1 = (fewestV l).1 := by
  have h1 := h.fewest_le hk
  have h2 := h.symm.fewest_le (by rw [h.knownE]; exact hk)
  omega
theorem TurnR.may (h : TurnR l l' o oi y) (p j : Nat) (hp : p < (rd_T24 l 0).f0.size) (hm : mayAt l (o p) j = true) : mayAt l' p (phi (y p) (65 + (j : Int)) - 65).toNat = true := by
  have hp2 := (h.o1 p hp).1
  obtain ⟨s, t, h1, h2, h3⟩ := (mayAt_iff h.vl (o p) j hp2).1 hm
  refine (mayAt_iff h.vl' p _ (by rw [h.size]; exact hp)).2 ⟨s, _, ?_, (h.fit h2).1, ?_⟩
  · refine ⟨fun k hk => ?_, fun k hk => ?_⟩
    · rw [h.len] at hk
      have h4 := h1.1 k hk
      refine ⟨h4.1, h4.2.1, ?_⟩
      rw [h.can k (s k) hk h4.1 h4.2.1]
      exact h4.2.2
    · exact h1.2 k (by rw [h.len] at hk; exact hk)
  · unfold trT
    rw [if_pos hp, h3]
    have := phi_ok (y p) (65 + (j : Int))
    omega
end
end Go.Proofs.Ytegjollhajgcdaa.P.OwnSt
namespace Go.Proofs.Ytegjollhajgcdaa.P.OwnSt
open Go.RowKit Go.Proofs.YtegjollhajgcdaaW.PrintWords Go.Proofs.YtegjollhajgcdaaW.PrintLast Go.Proofs.YtegjollhajgcdaaW.PrintMore
set_option linter.unusedVariables false
set_option linter.unusedSimpArgs false
section
variable {l : List S24}
end
end Go.Proofs.Ytegjollhajgcdaa.P.OwnSt
namespace Go.Proofs.Ytegjollhajgcdaa.P.OwnSt
open Go.RowKit Go.Proofs.YtegjollhajgcdaaW.PrintWords Go.Proofs.YtegjollhajgcdaaW.PrintLast Go.Proofs.YtegjollhajgcdaaW.PrintMore
set_option linter.unusedVariables false
set_option linter.unusedSimpArgs false
theorem rd_getE (y : List Int) (i : Nat) (h : i < y.length) : rd y (i : Int) = y[i] := by
  unfold rd
  rw [List.getD_eq_getElem?_getD, Int.toNat_natCast, List.getElem?_eq_getElem h]
  rfl
theorem rd_left (a b : List Int) (i : Nat) (h : i < a.length) : rd (a ++ b) (i : Int) = rd a (i : Int) := by
  rw [rd_getE _ i (by rw [List.length_append]; omega), rd_getE _ i h, List.getElem_append_left h]
theorem rd_last (a : List Int) (x : Int) : rd (a ++ [x]) (a.length : Int) = x := by
  rw [rd_getE _ a.length (by simp), List.getElem_append_right (Nat.le_refl _)]
  simp
section
variable {l : List S24}
theorem mem_walkB (st : ByteArray) : ∀ rem (s : List Int) (x : S27), x ∈ walkB l st rem s ↔ x.f0 = st ∧ x.f1.length = s.length + rem ∧ (∀ i : Nat, i < s.length → rd x.f1 (i : Int) = rd s (i : Int)) ∧ ∀ k : Nat, s.length ≤ k → k < s.length + rem → -1 ≤ rd x.f1 (k : Int) ∧ rd x.f1 (k : Int) < k ∧ canW l st k (rd x.f1 (k : Int)) = true := by
  intro rem
  induction rem with
  | zero =>
    intro s x
    unfold walkB
    rw [List.mem_singleton]
    constructor
    · rintro rfl
      exact ⟨rfl, rfl, fun _ _ => rfl, fun k h1 h2 => by omega⟩
    · rintro ⟨h1, h2, h3, _⟩
      have : x.f1 = s := List.ext_getElem (by omega) (fun i hi hi' => by
        have := h3 i hi'
        rw [rd_getE _ i hi, rd_getE _ i hi'] at this
        exact this)
      cases x
      simp only at h1 this
      rw [h1, this]
  | succ rem ih =>
    intro s x
    unfold walkB
    rw [List.mem_flatMap]
    constructor
    · rintro ⟨f, hf, hx⟩
      have hf := List.mem_range.1 hf
      by_cases e : canW l st s.length ((f : Int) - 1) = true
      · rw [if_pos e, ih, List.length_append, List.length_singleton] at hx
        obtain ⟨h1, h2, h3, h4⟩ := hx
        have hlast := h3 s.length (by omega)
        rw [rd_last] at hlast
        refine ⟨h1, by omega, fun i hi => by rw [h3 i (by omega), rd_left _ _ i hi], fun k h5 h6 => ?_⟩
        by_cases ek : k = s.length
        · subst ek
          rw [hlast]
          exact ⟨by omega, by omega, e⟩
        · exact h4 k (by omega) (by omega)
      · rw [if_neg e] at hx
        simp at hx
    · rintro ⟨h1, h2, h3, h4⟩
      obtain ⟨h5, h6, h7⟩ := h4 s.length (Nat.le_refl _) (by omega)
      refine ⟨(rd x.f1 (s.length : Int) + 1).toNat, List.mem_range.2 (by omega), ?_⟩
      have e : (((rd x.f1 (s.length : Int) + 1).toNat : Nat) : Int) - 1 = rd x.f1 (s.length : Int) := by omega
      rw [e, if_pos h7, ih, List.length_append, List.length_singleton]
      refine ⟨h1, by omega, fun i hi => ?_, fun k h8 h9 => h4 k (by omega) (by omega)⟩
      by_cases ei : i = s.length
      · subst ei
        rw [rd_last]
      · rw [rd_left _ _ i (by omega)]
        exact h3 i (by omega)
theorem mem_walkA : ∀ rem (st : ByteArray) (x : S27), x ∈ walkA l rem st ↔ x.f0.size = st.size + rem ∧ (∀ p : Nat, p < st.size → bt x.f0 (p : Int) = bt st (p : Int)) ∧ (∀ p : Nat, st.size ≤ p → p < st.size + rem → 65 ≤ bt x.f0 (p : Int) ∧ bt x.f0 (p : Int) ≤ 68) ∧ x ∈ walkB l x.f0 l.length [] := by
  intro rem
  induction rem with
  | zero =>
    intro st x
    unfold walkA
    constructor
    · intro h
      have h1 := ((mem_walkB st l.length [] x).1 h).1
      rw [h1]
      exact ⟨rfl, fun _ _ => rfl, fun p h1 h2 => by omega, h⟩
    · rintro ⟨h1, h2, _, h4⟩
      have : x.f0 = st := btR_ext _ _ (by omega) (fun p hp => h2 p (by omega))
      rw [this] at h4
      exact h4
  | succ rem ih =>
    intro st x
    unfold walkA
    rw [List.mem_flatMap]
    have hsz : ∀ c : Nat, (st ++ strOfNums [65 + (c : Int)]).size = st.size + 1 := fun c => by rw [ByteArray.size_append, strOfNums_size]; rfl
    have hlast : ∀ c : Nat, c < 4 → bt (st ++ strOfNums [65 + (c : Int)]) (st.size : Int) = 65 + (c : Int) := fun c hc => by
      have h1 := btR_right st (strOfNums [65 + (c : Int)]) 0 (by rw [strOfNums_size]; exact Nat.zero_lt_one)
      rw [Nat.add_zero] at h1
      rw [h1, bt_str [65 + (c : Int)] 0 (fun z hz => by rw [List.mem_singleton] at hz; omega) (by simp)]
      rfl
    constructor
    · rintro ⟨c, hc, hx⟩
      have hc := List.mem_range.1 hc
      obtain ⟨h1, h2, h3, h4⟩ := (ih _ x).1 hx
      rw [hsz] at h1 h2 h3
      refine ⟨by omega, fun p hp => by rw [h2 p (by omega), btR_left _ _ p hp], fun p h5 h6 => ?_, h4⟩
      by_cases ep : p = st.size
      · subst ep
        rw [h2 _ (by omega), hlast c hc]
        omega
      · exact h3 p (by omega) (by omega)
    · rintro ⟨h1, h2, h3, h4⟩
      have h5 := h3 st.size (Nat.le_refl _) (by omega)
      refine ⟨(bt x.f0 (st.size : Int) - 65).toNat, List.mem_range.2 (by omega), (ih _ x).2 ?_⟩
      rw [hsz]
      refine ⟨by omega, fun p hp => ?_, fun p h6 h7 => h3 p (by omega) (by omega), h4⟩
      by_cases ep : p = st.size
      · subst ep
        rw [hlast _ (by omega)]
        omega
      · rw [btR_left _ _ p (by omega)]
        exact h2 p (by omega)
def allW (l : List S24) : List S27 := walkW l ⟨#[]⟩ []
theorem mem_all (x : S27) : x ∈ allW l ↔ x.f0.size = (rd_T24 l 0).f0.size ∧ (∀ p : Nat, p < (rd_T24 l 0).f0.size → 65 ≤ bt x.f0 (p : Int) ∧ bt x.f0 (p : Int) ≤ 68) ∧ x.f1.length = l.length ∧ ∀ k : Nat, k < l.length → -1 ≤ rd x.f1 (k : Int) ∧ rd x.f1 (k : Int) < k ∧ canW l x.f0 k (rd x.f1 (k : Int)) = true := by
  have h0 : (⟨#[]⟩ : ByteArray).size = 0 := rfl
  unfold allW
  rw [walkW_nil l _ (Nat.zero_le _), mem_walkA, h0, mem_walkB, List.length_nil]
  constructor
  · rintro ⟨h1, _, h3, _, h5, _, h7⟩
    exact ⟨by omega, fun p hp => h3 p (Nat.zero_le _) (by omega), by omega, fun k hk => h7 k (Nat.zero_le _) (by omega)⟩
  · rintro ⟨h1, h2, h3, h4⟩
    exact ⟨by omega, fun p hp => by omega, fun p _ hp => h2 p (by omega), rfl, by omega, fun i hi => by omega, fun k _ hk => h4 k (by omega)⟩
def Abc (l : List S24) : Prop := ∀ i : Nat, i < l.length → ∀ p : Nat, p < (rd_T24 l 0).f0.size → bt (rd_T24 l (i : Int)).f0 (p : Int) ≤ 67
def srcA (l : List S24) (x : S27) (k : Nat) : Int := if k < l.length then rd x.f1 (k : Int) else 0
def letA (l : List S24) (g : Nat → Int) (x : S27) (p : Nat) : Int := if p < (rd_T24 l 0).f0.size then (if bt x.f0 (p : Int) = 68 then g p else bt x.f0 (p : Int)) else 65
def xOf (l : List S24) (s t : Nat → Int) : S27 := ⟨strOfNums ((List.range (rd_T24 l 0).f0.size).map fun (p : Nat) => mn (t p) 68), srcL l.length s⟩
theorem hsum_apW (s t : Nat → Int) (x : ByteArray) (i : Nat) (hs : s i = -1) (hx : ∀ p : Nat, p < (rd_T24 l 0).f0.size → (bt x (p : Int) = bt (rd_T24 l (i : Int)).f0 (p : Int) ↔ t p = bt (rd_T24 l (i : Int)).f0 (p : Int))) : hsum l s t i (rd_T24 l 0).f0.size 0 = apN x (rd_T24 l (i : Int)).f0 (rd_T24 l 0).f0.size := by
  rw [hsum_all, apN_sum]
  refine sumTo_congr _ fun p hp => ?_
  show (if hit l s (p : Int) (t p) i = true then (1 : Int) else 0) = (if bt x (p : Int) = bt (rd_T24 l (i : Int)).f0 (p : Int) then 0 else 1)
  unfold hit
  rw [hs]
  by_cases e : bt x (p : Int) = bt (rd_T24 l (i : Int)).f0 (p : Int)
  · rw [if_pos e, (hx p hp).1 e]
    simp
  · rw [if_neg e, if_pos]
    have : t p ≠ bt (rd_T24 l (i : Int)).f0 (p : Int) := fun h => e ((hx p hp).2 h)
    simp
    exact fun h => this h.symm
theorem letA_hsum (ha : Abc l) {x : S27} (hx : x ∈ allW l) {g : Nat → Int} (hg : ∀ p, 68 ≤ g p ∧ g p ≤ 90) (s : Nat → Int) (i : Nat) (hi : i < l.length) (hs : s i = -1) : hsum l s (letA l g x) i (rd_T24 l 0).f0.size 0 = apN x.f0 (rd_T24 l (i : Int)).f0 (rd_T24 l 0).f0.size := by
  refine hsum_apW s _ _ i hs fun p hp => ?_
  have h1 := ha i hi p hp
  have h2 := hg p
  unfold letA
  rw [if_pos hp]
  by_cases e : bt x.f0 (p : Int) = 68
  · rw [if_pos e]
    omega
  · rw [if_neg e]
theorem all_truth (hv : Valid l) (ha : Abc l) {x : S27} (hx : x ∈ allW l) {g : Nat → Int} (hg : ∀ p, 68 ≤ g p ∧ g p ≤ 90) : TreeOk l (srcA l x) ∧ FitT l (srcA l x) (letA l g x) := by
  obtain ⟨h1, h2, h3, h4⟩ := (mem_all x).1 hx
  have hsk : ∀ k, k < l.length → srcA l x k = rd x.f1 (k : Int) := fun k hk => by unfold srcA; rw [if_pos hk]
  refine ⟨⟨fun k hk => ?_, fun k hk => by unfold srcA; rw [if_neg (by omega)]⟩, fun p => ?_, fun i hi h => ?_⟩
  · rw [hsk k hk]
    obtain ⟨h5, h6, h7⟩ := h4 k hk
    refine ⟨h5, h6, ?_⟩
    unfold canW at h7
    unfold canF
    by_cases e : rd x.f1 (k : Int) = -1
    · rw [e, if_neg (by decide), Bool.and_eq_true] at h7
      rw [e]
      exact h7.1
    · rw [if_pos (by omega)] at h7
      rw [if_neg (by simpa using e)]
      exact h7
  · unfold letA
    have := hg p
    split
    · rename_i hp
      have := h2 p hp
      split <;> omega
    · omega
  · by_cases e : srcA l x i = -1
    · rw [letA_hsum ha hx hg _ i hi e]
      obtain ⟨h5, h6, h7⟩ := h4 i hi
      rw [← hsk i hi, e] at h7
      unfold canW at h7
      rw [if_neg (by decide), Bool.and_eq_true, decide_eq_true_eq, h1] at h7
      exact h7.2
    · exact absurd (hsum_none e _ _) h
theorem xOf_at (s : Nat → Int) {t : Nat → Int} (ht : GoodT t) (p : Nat) (hp : p < (rd_T24 l 0).f0.size) : bt (xOf l s t).f0 (p : Int) = mn (t p) 68 := by
  unfold xOf
  have h := bt_str ((List.range (rd_T24 l 0).f0.size).map fun (p : Nat) => mn (t p) 68) p (fun z hz => by
    rw [List.mem_map] at hz
    obtain ⟨q, _, rfl⟩ := hz
    have := ht q
    unfold mn
    split <;> omega) (by simpa using hp)
  show bt (strOfNums _) (p : Int) = _
  rw [h]
  simp [List.getD_eq_getElem?_getD, hp]
theorem xOf_size (s t : Nat → Int) : (xOf l s t).f0.size = (rd_T24 l 0).f0.size := by
  show (strOfNums _).size = _
  rw [strOfNums_size]
  simp
theorem xOf_hsum (hv : Valid l) (ha : Abc l) {s t : Nat → Int} (ht : GoodT t) (i : Nat) (hi : i < l.length) (hs : s i = -1) : hsum l s t i (rd_T24 l 0).f0.size 0 = apN (xOf l s t).f0 (rd_T24 l (i : Int)).f0 (rd_T24 l 0).f0.size := by
  refine hsum_apW s _ _ i hs fun p hp => ?_
  rw [xOf_at s ht p hp]
  have h1 := ha i hi p hp
  unfold mn
  split <;> omega
theorem truth_all (hv : Valid l) (ha : Abc l) {s t : Nat → Int} (hs : TreeOk l s) (ht : FitT l s t) : xOf l s t ∈ allW l := by
  refine (mem_all _).2 ⟨xOf_size s t, fun p hp => ?_, srcL_len _ _, fun k hk => ?_⟩
  · rw [xOf_at s ht.1 p hp]
    have := ht.1 p
    unfold mn
    split <;> omega
  · show -1 ≤ rd (srcL l.length s) (k : Int) ∧ rd (srcL l.length s) (k : Int) < k ∧ canW l (xOf l s t).f0 k (rd (srcL l.length s) (k : Int)) = true
    rw [srcL_rd _ _ k hk]
    obtain ⟨h1, h2, h3⟩ := hs.1 k hk
    refine ⟨h1, h2, ?_⟩
    unfold canF at h3
    unfold canW
    by_cases e : s k = -1
    · rw [e] at h3
      rw [e, if_neg (by decide), Bool.and_eq_true, decide_eq_true_eq]
      refine ⟨h3, ?_⟩
      rw [xOf_size, ← xOf_hsum hv ha ht.1 k hk e]
      have h4 := ht.2 k hk
      have h5 := hv.err k hk
      by_cases e0 : hsum l s t k (rd_T24 l 0).f0.size 0 = 0
      · omega
      · exact h4 e0
    · rw [if_neg (by simpa using e)] at h3
      rw [if_pos (by omega)]
      exact h3
def errW (l : List S24) (x : S27) (n : Nat) : Int := sumTo (fun i => if rd x.f1 (i : Int) = -1 then apN x.f0 (rd_T24 l (i : Int)).f0 x.f0.size else apN (rd_T24 l (rd x.f1 (i : Int))).f0 (rd_T24 l (i : Int)).f0 (rd_T24 l (rd x.f1 (i : Int))).f0.size) n
theorem errW_truth {x : S27} (hx : x.f0.size = (rd_T24 l 0).f0.size) (s t : Nat → Int) (hs : ∀ i, i < l.length → s i = rd x.f1 (i : Int)) (ht : ∀ i, i < l.length → s i = -1 → hsum l s t i (rd_T24 l 0).f0.size 0 = apN x.f0 (rd_T24 l (i : Int)).f0 (rd_T24 l 0).f0.size) : errW l x l.length = costT l s t + apTo l s l.length := by
  unfold errW costT
  rw [cost_sum, apTo_sum, ← sumTo_add]
  refine sumTo_congr _ fun i hi => ?_
  show (if rd x.f1 (i : Int) = -1 then apN x.f0 (rd_T24 l (i : Int)).f0 x.f0.size else apN (rd_T24 l (rd x.f1 (i : Int))).f0 (rd_T24 l (i : Int)).f0 (rd_T24 l (rd x.f1 (i : Int))).f0.size) = hsum l s t i (rd_T24 l 0).f0.size 0 + (if s i = -1 then 0 else apN (rd_T24 l (s i)).f0 (rd_T24 l (i : Int)).f0 (rd_T24 l (s i)).f0.size)
  rw [← hs i hi]
  by_cases e : s i = -1
  · rw [if_pos e, if_pos e, ht i hi e, hx, Int.add_zero]
  · rw [if_neg e, if_neg e, hsum_none e, Int.zero_add]
theorem errW_ge (hv : Valid l) (ha : Abc l) (hk : knownE l = 0) {x : S27} (hx : x ∈ allW l) : (fewestV l).1 ≤ errW l x l.length := by
  have hg : ∀ p : Nat, 68 ≤ (fun _ : Nat => (68 : Int)) p ∧ (fun _ : Nat => (68 : Int)) p ≤ 90 := fun p => ⟨Int.le_refl _, show (68 : Int) ≤ 90 by decide⟩
  obtain ⟨h1, h2⟩ := all_truth hv ha hx hg
  rw [errW_truth ((mem_all x).1 hx).1 (srcA l x) _ (fun i hi => by unfold srcA; rw [if_pos hi]) (fun i hi e => letA_hsum ha hx hg _ i hi e)]
  have h3 := numF_le h2
  have h4 := fewest_le hk ((known_iff hv _).2 ⟨h1, _, h2⟩)
  omega
theorem errW_att (hv : Valid l) (ha : Abc l) (hk : knownE l = 0) : ∃ x ∈ allW l, (fewestV l).1 = errW l x l.length := by
  obtain ⟨s, hs, e⟩ := fewest_att hk
  obtain ⟨t, ht, e2⟩ := numF_att (knownV_mem hs).2.2
  refine ⟨xOf l s t, truth_all hv ha ((known_iff hv s).1 hs).1 ht, ?_⟩
  rw [errW_truth (xOf_size s t) s t (fun i hi => (srcL_rd _ _ i hi).symm) (fun i hi e => xOf_hsum hv ha ht.1 i hi e)]
  omega
theorem errW_bound (hv : Valid l) {x : S27} (hx : x ∈ allW l) : ∀ n, n ≤ l.length → 0 ≤ errW l x n ∧ errW l x n ≤ 8 * n := by
  intro n
  have h8 := hv.high
  obtain ⟨h1, _, _, h4⟩ := (mem_all x).1 hx
  induction n with
  | zero => intro _; exact ⟨Int.le_refl _, Int.le_refl _⟩
  | succ n ih =>
    intro hn
    have h := ih (by omega)
    have e : errW l x (n + 1) = errW l x n + (if rd x.f1 (n : Int) = -1 then apN x.f0 (rd_T24 l (n : Int)).f0 x.f0.size else apN (rd_T24 l (rd x.f1 (n : Int))).f0 (rd_T24 l (n : Int)).f0 (rd_T24 l (rd x.f1 (n : Int))).f0.size) := rfl
    rw [e]
    by_cases e2 : rd x.f1 (n : Int) = -1
    · rw [if_pos e2]
      have := apN_bound x.f0 (rd_T24 l (n : Int)).f0 x.f0.size
      omega
    · rw [if_neg e2]
      have h2 := h4 n (by omega)
      obtain ⟨y, hy⟩ : ∃ y : Nat, rd x.f1 (n : Int) = (y : Int) := ⟨(rd x.f1 (n : Int)).toNat, by omega⟩
      rw [hy]
      have := apN_bound (rd_T24 l (y : Int)).f0 (rd_T24 l (n : Int)).f0 (rd_T24 l (y : Int)).f0.size
      have := hv.size y (by omega)
      omega
theorem errW_ev (hv : Valid l) {x : S27} (hx : x ∈ allW l) : Ev (fun k => cippuslaw07_errors.f k l x.f0 x.f1) (errW l x l.length) := by
  have h5 := hv.five
  have h8 := hv.high
  obtain ⟨h1, _, h3, h4⟩ := (mem_all x).1 hx
  have : ∀ r i, i + r = l.length → Ev (fun k => cippuslaw07_errors.l0 k l (errW l x i) (i : Int) x.f0 x.f1) (errW l x l.length) := by
    intro r
    induction r with
    | zero =>
      intro i hi
      refine Ev.step (fun k => by rw [cippuslaw07_errors.l0]) ?_
      rw [show i = l.length by omega]
      exact Ev.if_neg' (by omega) (Ev.now _)
    | succ r ih =>
      intro i hi
      have hi2 : i < l.length := by omega
      have h2 := ih (i + 1) (by omega)
      have hb := errW_bound hv hx i (by omega)
      have hb2 := errW_bound hv hx (i + 1) (by omega)
      have hsi := hv.size i hi2
      have e : errW l x (i + 1) = errW l x i + (if rd x.f1 (i : Int) = -1 then apN x.f0 (rd_T24 l (i : Int)).f0 x.f0.size else apN (rd_T24 l (rd x.f1 (i : Int))).f0 (rd_T24 l (i : Int)).f0 (rd_T24 l (rd x.f1 (i : Int))).f0.size) := rfl
      obtain ⟨h6, h7, _⟩ := h4 i hi2
      refine Ev.step (fun k => by rw [cippuslaw07_errors.l0]) ?_
      rw [next64 i (by omega)]
      refine Ev.if_pos' (by omega) (Ev.if_pos' (by omega) (Ev.if_pos' (by omega) ?_))
      by_cases e2 : rd x.f1 (i : Int) = -1
      · rw [if_pos e2] at e
        refine Ev.if_neg' (by omega) (Ev.bind (apart_ev _ _ (by omega) (by omega)) ?_)
        rw [← e, wrap64_small (by omega) (by omega)]
        exact h2
      · rw [if_neg e2] at e
        obtain ⟨y, hy⟩ : ∃ y : Nat, rd x.f1 (i : Int) = (y : Int) := ⟨(rd x.f1 (i : Int)).toNat, by omega⟩
        have hsy := hv.size y (by omega)
        rw [hy] at e h6 h7 ⊢
        refine Ev.if_pos' (by omega) (Ev.if_pos' (by omega) (Ev.if_pos' (by omega) (Ev.bind (apart_ev _ _ (by omega) (by omega)) ?_)))
        rw [← e, wrap64_small (by omega) (by omega)]
        exact h2
  unfold cippuslaw07_errors.f
  exact this l.length 0 (by omega)
theorem all_nil (hv : Valid l) (ha : Abc l) : allW l = [] ↔ knownV l = [] := by
  constructor
  · intro h
    refine List.eq_nil_iff_forall_not_mem.2 fun s hs => ?_
    obtain ⟨h1, t, h2⟩ := (known_iff hv s).1 hs
    have := truth_all hv ha h1 h2
    rw [h] at this
    simp at this
  · intro h
    refine List.eq_nil_iff_forall_not_mem.2 fun x hx => ?_
    obtain ⟨h1, h2⟩ := all_truth hv ha hx (g := fun _ => 68) (fun _ => ⟨Int.le_refl _, by decide⟩)
    have := (known_iff hv _).2 ⟨h1, _, h2⟩
    rw [h] at this
    simp at this
theorem all_verdict (hv : Valid l) (ha : Abc l) (hne : knownV l ≠ []) (i j : Nat) (hi : i < l.length) : verdictI ((allW l).countP fun x => rd x.f1 (i : Int) == (j : Int) - 1) (allW l).length = verdictI ((knownV l).countP (srcP i j)) (knownV l).length := by
  have hto : ∀ s ∈ knownV l, ∃ x ∈ allW l, rd x.f1 (i : Int) = s i := fun s hs => by
    obtain ⟨h1, t, h2⟩ := (known_iff hv s).1 hs
    exact ⟨_, truth_all hv ha h1 h2, srcL_rd _ _ i hi⟩
  have hfro : ∀ x ∈ allW l, ∃ s ∈ knownV l, s i = rd x.f1 (i : Int) := fun x hx => by
    obtain ⟨h1, h2⟩ := all_truth hv ha hx (g := fun _ => 68) (fun _ => ⟨Int.le_refl _, by decide⟩)
    exact ⟨_, (known_iff hv _).2 ⟨h1, _, h2⟩, by unfold srcA; rw [if_pos hi]⟩
  have e1 : ((allW l).countP fun x => rd x.f1 (i : Int) == (j : Int) - 1) = (allW l).length ↔ (knownV l).countP (srcP i j) = (knownV l).length := by
    rw [List.countP_eq_length, List.countP_eq_length]
    constructor
    · intro h s hs
      obtain ⟨x, hx, e⟩ := hto s hs
      have := h x hx
      unfold srcP
      rw [← e]
      exact this
    · intro h x hx
      obtain ⟨s, hs, e⟩ := hfro x hx
      have := h s hs
      unfold srcP at this
      rw [← e]
      exact this
  have e2 : ((allW l).countP fun x => rd x.f1 (i : Int) == (j : Int) - 1) = 0 ↔ (knownV l).countP (srcP i j) = 0 := by
    rw [List.countP_eq_zero, List.countP_eq_zero]
    constructor
    · intro h s hs
      obtain ⟨x, hx, e⟩ := hto s hs
      have := h x hx
      unfold srcP
      rw [← e]
      exact this
    · intro h x hx
      obtain ⟨s, hs, e⟩ := hfro x hx
      have := h s hs
      unfold srcP at this
      rw [← e]
      exact this
  unfold verdictI
  by_cases h1 : ((allW l).countP fun x => rd x.f1 (i : Int) == (j : Int) - 1) = (allW l).length
  · rw [if_pos h1, if_pos (e1.1 h1)]
  · rw [if_neg h1, if_neg (fun h => h1 (e1.2 h))]
    by_cases h2 : ((allW l).countP fun x => rd x.f1 (i : Int) == (j : Int) - 1) = 0
    · rw [if_pos h2, if_pos (e2.1 h2)]
    · rw [if_neg h2, if_neg (fun h => h2 (e2.2 h))]
theorem all_may (hv : Valid l) (ha : Abc l) (p j : Nat) (hp : p < (rd_T24 l 0).f0.size) (hj : j < 26) : mayAt l p j = true ↔ ∃ x ∈ allW l, bt x.f0 (p : Int) = mn (65 + (j : Int)) 68 := by
  rw [mayAt_iff hv p j hp]
  constructor
  · rintro ⟨s, t, hs, ht, e⟩
    exact ⟨_, truth_all hv ha hs ht, by rw [xOf_at s ht.1 p hp, e]⟩
  · rintro ⟨x, hx, e⟩
    have hg : ∀ q : Nat, 68 ≤ (fun q : Nat => if q = p ∧ 68 ≤ 65 + (j : Int) then 65 + (j : Int) else 68) q ∧ (fun q : Nat => if q = p ∧ 68 ≤ 65 + (j : Int) then 65 + (j : Int) else 68) q ≤ 90 := fun q => by
      show 68 ≤ (if q = p ∧ 68 ≤ 65 + (j : Int) then 65 + (j : Int) else 68) ∧ (if q = p ∧ 68 ≤ 65 + (j : Int) then 65 + (j : Int) else 68) ≤ 90
      split <;> omega
    obtain ⟨h1, h2⟩ := all_truth hv ha hx hg
    refine ⟨_, _, h1, h2, ?_⟩
    unfold letA
    rw [if_pos hp]
    unfold mn at e
    by_cases e2 : bt x.f0 (p : Int) = 68
    · rw [if_pos e2]
      show (if p = p ∧ 68 ≤ 65 + (j : Int) then 65 + (j : Int) else 68) = 65 + (j : Int)
      split at e
      · rw [if_pos ⟨rfl, by omega⟩]
      · rw [if_pos ⟨rfl, by omega⟩]
    · rw [if_neg e2]
      split at e <;> omega
end
end Go.Proofs.Ytegjollhajgcdaa.P.OwnSt
namespace Go.Proofs.Ytegjollhajgcdaa.Pure
open Go.RowKit Go.Proofs.Ytegjollhajgcdaa.P Go.Proofs.Ytegjollhajgcdaa.P.OwnSt Go.Proofs.YtegjollhajgcdaaW.PrintWords Go.Proofs.YtegjollhajgcdaaW.PrintLast
set_option linter.unusedVariables false
set_option linter.unusedSimpArgs false
theorem said_f (so all : Nat) : cippuslaw07_said.f (so : Int) (all : Int) = some (verdictI so all) := by
  unfold cippuslaw07_said.f verdictI
  by_cases h : so = all
  · rw [if_pos (by omega), if_pos h]
  · rw [if_neg (by omega), if_neg h]
    by_cases h2 : so = 0
    · rw [if_pos (by omega), if_pos h2]
    · rw [if_neg (by omega), if_neg h2]
theorem rd27 (xs : List S27) (q : Nat) (hq : q < xs.length) : rd_T27 xs (q : Int) = xs[q] := by
  unfold rd_T27
  rw [List.getD_eq_getElem?_getD, Int.toNat_natCast, List.getElem?_eq_getElem hq]
  rfl
theorem count27 (xs : List S27) (P : S27 → Bool) (q : Nat) (hq : q < xs.length) : (xs.take (q + 1)).countP P = (xs.take q).countP P + if P xs[q] = true then 1 else 0 := by
  rw [List.take_add_one, List.getElem?_eq_getElem hq, List.countP_append]
  simp
theorem bigW (i : Nat) (h : i < 4000000000000000000) : wrap64 ((i : Int) + 1) = ((i + 1 : Nat) : Int) := by rw [wrap64_small (by omega) (by omega)]; omega
theorem all_len {l : List S24} (hv : Valid l) : (allW l).length ≤ 1000000000000 := by
  have h5 := hv.five
  unfold allW
  rw [walkW_nil l _ (Nat.zero_le _)]
  have h1 := walkA_len h5 ((rd_T24 l 0).f0.size - (⟨#[]⟩ : ByteArray).size) ⟨#[]⟩
  have h2 : 4 ^ ((rd_T24 l 0).f0.size - (⟨#[]⟩ : ByteArray).size) ≤ 4 ^ 8 := Nat.pow_le_pow_right (by decide) (by have := hv.high; omega)
  have h3 : (4 : Nat) ^ 8 = 65536 := by decide
  rw [h3] at h2
  generalize 4 ^ ((rd_T24 l 0).f0.size - (⟨#[]⟩ : ByteArray).size) = q at h1 h2
  omega
section
variable {l : List S24}
theorem all_l6 (hv : Valid l) (ha : Abc l) (hk : knownE l = 0) (p : Nat) (hp : p < (rd_T24 l 0).f0.size) (j : Nat) (hj : j < 26)
    (hR : Ev (fun k => cippuslaw07_tail.l5 k (allW l) (lettersV l).1 (p : Int) (65 + ((j + 1 : Nat) : Int))) true) : ∀ r q, q + r = (allW l).length →
    Ev (fun k => cippuslaw07_tail.l6 k (allW l) (lettersV l).1 (p : Int) (65 + (j : Int)) (((allW l).take q).any fun x => bt x.f0 (p : Int) == mn (65 + (j : Int)) 68) (q : Int)) true := by
  intro r
  have h8 := hv.high
  have hln := all_len hv
  have hl : (lettersV l).1.length = (rd_T24 l 0).f0.size := by unfold lettersV; rw [if_pos hk]; simp
  induction r with
  | zero =>
    intro q hq
    refine Ev.step (fun k => by rw [cippuslaw07_tail.l6]) ?_
    rw [show q = (allW l).length by omega, List.take_length, textsV l hk p hp]
    refine Ev.if_neg' (by omega) (Ev.if_pos' (by omega) (Ev.if_pos' (by omega) (Ev.bind (has_ev _ _ (by have := letterRow_size l p; omega)) ?_)))
    have e : hasB (letterRow l p) (65 + (j : Int)) = (allW l).any fun x => bt x.f0 (p : Int) == mn (65 + (j : Int)) 68 := by
      have h1 : hasB (letterRow l p) (65 + (j : Int)) = mayAt l p j := hasB_row (mayAt l p) j hj
      rw [h1, Bool.eq_iff_iff, all_may hv ha p j hp hj, List.any_eq_true]
      exact ⟨fun ⟨x, hx, h⟩ => ⟨x, hx, by simpa using h⟩, fun ⟨x, hx, h⟩ => ⟨x, hx, by simpa using h⟩⟩
    rw [e]
    refine Ev.if_neg' (by simp) ?_
    rw [show ((65 + (j : Int) + 1) % 256) = 65 + ((j + 1 : Nat) : Int) by omega]
    exact hR
  | succ r ih =>
    intro q hq
    have hq2 : q < (allW l).length := by omega
    have h1 := ih (q + 1) (by omega)
    have hx := (mem_all _).1 (List.getElem_mem hq2)
    rw [List.take_add_one, List.getElem?_eq_getElem hq2, List.any_append] at h1
    refine Ev.step (fun k => by rw [cippuslaw07_tail.l6]) ?_
    rw [bigW q (by omega), rd27 _ q hq2]
    refine Ev.if_pos' (by omega) ?_
    cases hb : ((allW l).take q).any fun x => bt x.f0 (p : Int) == mn (65 + (j : Int)) 68 with
    | true =>
      rw [hb, Bool.true_or] at h1
      exact Ev.if_pos' rfl h1
    | false =>
      rw [hb, Bool.false_or] at h1
      refine Ev.if_neg' (by decide) (Ev.if_pos' (by omega) (Ev.if_pos' (by omega) (Ev.if_pos' (by omega) ?_)))
      simpa using h1
theorem all_l5 (hv : Valid l) (ha : Abc l) (hk : knownE l = 0) (p : Nat) (hp : p < (rd_T24 l 0).f0.size)
    (hR : Ev (fun k => cippuslaw07_tail.l4 k (allW l) (lettersV l).1 ((p + 1 : Nat) : Int)) true) : ∀ (r j : Nat), j + r = 26 →
    Ev (fun k => cippuslaw07_tail.l5 k (allW l) (lettersV l).1 (p : Int) (65 + (j : Int))) true := by
  intro r
  have h8 := hv.high
  induction r with
  | zero =>
    intro j hj
    refine Ev.step (fun k => by rw [cippuslaw07_tail.l5]) ?_
    rw [bigW p (by omega)]
    exact Ev.if_neg' (by omega) hR
  | succ r ih =>
    intro j hj
    refine Ev.step (fun k => by rw [cippuslaw07_tail.l5]) ?_
    refine Ev.if_pos' (by omega) ?_
    simpa using all_l6 hv ha hk p hp j (by omega) (ih (j + 1) (by omega)) (allW l).length 0 (by omega)
theorem all_l4 (hv : Valid l) (ha : Abc l) (hk : knownE l = 0) : ∀ r p, p + r = (rd_T24 l 0).f0.size →
    Ev (fun k => cippuslaw07_tail.l4 k (allW l) (lettersV l).1 (p : Int)) true := by
  intro r
  have hl : (lettersV l).1.length = (rd_T24 l 0).f0.size := by unfold lettersV; rw [if_pos hk]; simp
  induction r with
  | zero =>
    intro p hp
    refine Ev.step (fun k => by rw [cippuslaw07_tail.l4]) ?_
    exact Ev.if_neg' (by omega) (Ev.bind found_ev (Ev.now _))
  | succ r ih =>
    intro p hp
    refine Ev.step (fun k => by rw [cippuslaw07_tail.l4]) ?_
    refine Ev.if_pos' (by omega) ?_
    simpa using all_l5 hv ha hk p (by omega) (ih (p + 1) (by omega)) 26 0 (by omega)
theorem all_l3 (hv : Valid l) (ha : Abc l) (hk : knownE l = 0) (i j : Nat) (hi : i < l.length) (hj : j ≤ i) (hj2 : (j : Int) - 1 < (i : Int))
    (hR : Ev (fun k => cippuslaw07_tail.l2 k l (allW l) (sourcesV l).1 (lettersV l).1 (i : Int) (((j + 1 : Nat) : Int) - 1)) true) : ∀ r q, q + r = (allW l).length →
    Ev (fun k => cippuslaw07_tail.l3 k l (allW l) (sourcesV l).1 (lettersV l).1 (i : Int) ((j : Int) - 1) (((allW l).take q).countP (fun x => rd x.f1 (i : Int) == (j : Int) - 1) : Int) (q : Int)) true := by
  intro r
  have h5 := hv.five
  have hln := all_len hv
  have hsl : (sourcesV l).1.length = l.length := by unfold sourcesV; rw [if_pos hk]; simp
  have hrow := rowsV l hk i hi
  have hrl : (srcRow l i).length = i + 1 := by simp [srcRow]
  induction r with
  | zero =>
    intro q hq
    refine Ev.step (fun k => by rw [cippuslaw07_tail.l3]) ?_
    have hw : wrap64 ((j : Int) - 1 + 1) = (j : Int) := by rw [wrap64_small (by omega) (by omega)]; omega
    rw [show q = (allW l).length by omega, List.take_length, hrow, hw, said_f, all_verdict hv ha (knownE_zero hk).2 i j hi, rowV l i j hj, bigW i (by omega)]
    simp only [Option.bind_some]
    refine Ev.if_neg' (by omega) (Ev.if_pos' (by omega) (Ev.if_pos' (by omega) (Ev.if_pos' (by omega) (Ev.if_pos' (by omega) (Ev.if_pos' (by omega) (Ev.if_pos' (by first | rfl | trivial) ?_))))))
    rw [show (((j + 1 : Nat) : Int) - 1) = (j : Int) by omega] at hR
    exact hR
  | succ r ih =>
    intro q hq
    have hq2 : q < (allW l).length := by omega
    have h1 := ih (q + 1) (by omega)
    have hx := (mem_all _).1 (List.getElem_mem hq2)
    have hc := List.countP_le_length (p := fun x : S27 => rd x.f1 (i : Int) == (j : Int) - 1) (l := (allW l).take q)
    rw [List.length_take] at hc
    rw [count27 _ _ q hq2] at h1
    refine Ev.step (fun k => by rw [cippuslaw07_tail.l3]) ?_
    rw [rd27 _ q hq2, bigW q (by omega)]
    refine Ev.if_pos' (by omega) (Ev.if_pos' (by omega) (Ev.if_pos' (by omega) (Ev.if_pos' (by omega) ?_)))
    by_cases e : rd (allW l)[q].f1 (i : Int) = (j : Int) - 1
    · rw [if_pos (by rw [e]; simp)] at h1
      refine Ev.if_pos' e ?_
      rw [bigW _ (by omega)]
      exact h1
    · rw [if_neg (by simpa using e)] at h1
      exact Ev.if_neg' e h1
theorem all_l2 (hv : Valid l) (ha : Abc l) (hk : knownE l = 0) (i : Nat) (hi : i < l.length)
    (hR : Ev (fun k => cippuslaw07_tail.l1 k l (allW l) (sourcesV l).1 (lettersV l).1 ((i + 1 : Nat) : Int)) true) : ∀ r j, j + r = i + 1 →
    Ev (fun k => cippuslaw07_tail.l2 k l (allW l) (sourcesV l).1 (lettersV l).1 (i : Int) ((j : Int) - 1)) true := by
  intro r
  have h5 := hv.five
  induction r with
  | zero =>
    intro j hj
    refine Ev.step (fun k => by rw [cippuslaw07_tail.l2]) ?_
    rw [bigW i (by omega)]
    exact Ev.if_neg' (by omega) hR
  | succ r ih =>
    intro j hj
    refine Ev.step (fun k => by rw [cippuslaw07_tail.l2]) ?_
    refine Ev.if_pos' (by omega) ?_
    simpa using all_l3 hv ha hk i j hi (by omega) (by omega) (ih (j + 1) (by omega)) (allW l).length 0 (by omega)
theorem all_l1 (hv : Valid l) (ha : Abc l) (hk : knownE l = 0) : ∀ r i, i + r = l.length →
    Ev (fun k => cippuslaw07_tail.l1 k l (allW l) (sourcesV l).1 (lettersV l).1 (i : Int)) true := by
  intro r
  induction r with
  | zero =>
    intro i hi
    refine Ev.step (fun k => by rw [cippuslaw07_tail.l1]) ?_
    exact Ev.if_neg' (by omega) (all_l4 hv ha hk (rd_T24 l 0).f0.size 0 (by omega))
  | succ r ih =>
    intro i hi
    refine Ev.step (fun k => by rw [cippuslaw07_tail.l1]) ?_
    refine Ev.if_pos' (by omega) ?_
    simpa using all_l2 hv ha hk i (by omega) (ih (i + 1) (by omega)) (i + 1) 0 (by omega)
theorem all_l0 (hv : Valid l) (ha : Abc l) (hk : knownE l = 0) : ∀ r q b, q + r = (allW l).length → (fewestV l).1 ≤ b → (∀ x ∈ (allW l).take q, b ≤ errW l x l.length) →
    Ev (fun k => cippuslaw07_tail.l0 k l (allW l) (sourcesV l).1 (lettersV l).1 (fewestV l).1 b (q : Int)) true := by
  intro r
  have hln := all_len hv
  induction r with
  | zero =>
    intro q b hq h1 h2
    refine Ev.step (fun k => by rw [cippuslaw07_tail.l0]) ?_
    obtain ⟨x, hx, e⟩ := errW_att hv ha hk
    have h3 := h2 x (by rw [show q = (allW l).length by omega, List.take_length]; exact hx)
    exact Ev.if_neg' (by omega) (Ev.if_pos' (by omega) (all_l1 hv ha hk l.length 0 (by omega)))
  | succ r ih =>
    intro q b hq h1 h2
    have hq2 : q < (allW l).length := by omega
    have hm := List.getElem_mem hq2
    have hge := errW_ge hv ha hk hm
    have h3 : mn b (errW l (allW l)[q] l.length) ≤ b ∧ mn b (errW l (allW l)[q] l.length) ≤ errW l (allW l)[q] l.length ∧ (fewestV l).1 ≤ mn b (errW l (allW l)[q] l.length) := by
      unfold mn
      split <;> omega
    refine Ev.step (fun k => by rw [cippuslaw07_tail.l0]) ?_
    rw [rd27 _ q hq2, bigW q (by omega)]
    refine Ev.if_pos' (by omega) (Ev.if_pos' (by omega) (Ev.bind (errW_ev hv hm) ?_))
    refine ih (q + 1) _ (by omega) h3.2.2 (fun x hx => ?_)
    rw [List.take_add_one, List.getElem?_eq_getElem hq2, List.mem_append] at hx
    rcases hx with hx | hx
    · have := h2 x hx
      omega
    · have : x = (allW l)[q] := by simpa using hx
      rw [this]
      exact h3.2.1
theorem all_j0 (hv : Valid l) (ha : Abc l) : Ev (fun k => cippuslaw07_StemmaAll.j0 k l) true := by
  have h1 := hv.one
  refine Ev.step (fun k => by rw [cippuslaw07_StemmaAll.j0]) ?_
  unfold cippuslaw07_alltruths.f OwnSt.allV stemma_Sources.f stemma_Letters.f stemma_Fewest.f
  rw [if_pos (check_of_valid hv)]
  simp only [Option.bind_some]
  have hW : walkW l ⟨#[]⟩ [] = allW l := rfl
  rw [hW]
  refine Ev.bind (a := true) ?_ (Ev.now _)
  unfold cippuslaw07_tail.f
  by_cases hk : knownE l = 0
  · have hne : allW l ≠ [] := fun h => (knownE_zero hk).2 ((all_nil hv ha).1 h)
    have hpos := List.length_pos_iff.2 hne
    have s1 : (sourcesV l).2 = 0 := by unfold sourcesV; rw [if_pos hk]
    have s2 : (lettersV l).2 = 0 := by unfold lettersV; rw [if_pos hk]
    have s3 : (fewestV l).2 = 0 := by unfold fewestV; rw [if_pos hk]
    have s4 : (sourcesV l).1.length = l.length := by unfold sourcesV; rw [if_pos hk]; simp
    have s5 : (lettersV l).1.length = (rd_T24 l 0).f0.size := by unfold lettersV; rw [if_pos hk]; simp
    refine Ev.if_neg' (by omega) (Ev.if_pos' s1 (Ev.if_pos' s2 (Ev.if_pos' s3 (Ev.if_pos' (by omega) (Ev.if_pos' (by omega) ?_)))))
    rw [show (((lettersV l).1.length : Int) != ((rd_T24 l 0).f0.size : Int)) = false by rw [s5]; simp]
    refine Ev.step (fun k => by rw [cippuslaw07_tail.j0]) ?_
    have hm := List.getElem_mem hpos
    have h0 : rd_T27 (allW l) 0 = (allW l)[0] := rd27 _ 0 hpos
    rw [h0]
    refine Ev.if_neg' (by decide) (Ev.if_pos' (by omega) (Ev.bind (errW_ev hv hm) ?_))
    exact all_l0 hv ha hk (allW l).length 0 _ (by omega) (errW_ge hv ha hk hm) (fun x hx => by simp at hx)
  · have hnil : knownV l = [] := by
      refine Classical.byContradiction fun h => hk ?_
      unfold knownE
      rw [if_neg (by rw [check_of_valid hv]; decide), if_neg h]
    have h9 : knownE l = 9 := by
      unfold knownE
      rw [if_neg (by rw [check_of_valid hv]; decide), if_pos hnil]
    have hall := (all_nil hv ha).2 hnil
    have s1 : sourcesV l = ([], 9) := by unfold sourcesV; rw [if_neg hk, h9]
    have s2 : lettersV l = ([], 9) := by unfold lettersV; rw [if_neg hk, h9]
    have s3 : fewestV l = (0, 9) := by unfold fewestV; rw [if_neg hk, h9]
    rw [hall, s1, s2, s3]
    refine Ev.if_pos' rfl (Ev.if_pos' rfl (Ev.if_pos' rfl (Ev.if_pos' rfl (Ev.if_pos' ?_ (Ev.bind found_ev (Ev.now _))))))
    show wrap64 (((0 : Nat) : Int) + ((0 : Nat) : Int)) = 0
    rw [wrap64_small (by omega) (by omega)]
    rfl
end
theorem changed_ok {l : List S24} (hv : Valid l) (ha : Abc l) (s0 s1 : Int) : ∃ l' a b, cippuslaw07_changed.f s0 s1 l = some (l', a, b) ∧ Valid l' ∧ Abc l' := by
  have h1 := hv.one
  have h5 := hv.five
  obtain ⟨v1, sA, sB, e1, h2, h3⟩ := up_ok s0 s1 (l.length : Int) (by omega)
  obtain ⟨v2, sC, sD, e2, h4, h6⟩ := up_ok sA sB 2 (by omega)
  obtain ⟨b3, x, y, e3⟩ := odds_ok sC sD 2 3 (by omega)
  obtain ⟨i, rfl⟩ : ∃ i : Nat, v1 = (i : Int) := ⟨v1.toNat, by omega⟩
  have hi : i < l.length := by omega
  have hrd : ∀ k : Nat, rd_T24 (l.set i ⟨(rd_T24 l (i : Int)).f0, v2, b3⟩) (k : Int) = if k = i then ⟨(rd_T24 l (i : Int)).f0, v2, b3⟩ else rd_T24 l (k : Int) := fun k => rd_set _ _ _ hi k
  have ht : ∀ k : Nat, (rd_T24 (l.set i ⟨(rd_T24 l (i : Int)).f0, v2, b3⟩) (k : Int)).f0 = (rd_T24 l (k : Int)).f0 := fun k => by
    rw [hrd]
    by_cases e : k = i
    · rw [if_pos e, e]
    · rw [if_neg e]
  have ht0 : (rd_T24 (l.set i ⟨(rd_T24 l (i : Int)).f0, v2, b3⟩) 0).f0 = (rd_T24 l 0).f0 := ht 0
  have hl : (l.set i ⟨(rd_T24 l (i : Int)).f0, v2, b3⟩).length = l.length := by simp
  refine ⟨l.set i ⟨(rd_T24 l (i : Int)).f0, v2, b3⟩, x, y, ?_, ⟨by omega, by omega, fun k hk => ?_, by rw [ht0]; exact hv.low, by rw [ht0]; exact hv.high, fun k hk => ?_, fun k hk p hp => ?_⟩, fun k hk p hp => ?_⟩
  · unfold cippuslaw07_changed.f OwnSt.changedV
    rw [e1]
    simp only [Option.bind_some]
    rw [e2]
    simp only [Option.bind_some]
    rw [e3]
    simp only [Option.bind_some, Int.toNat_natCast]
    rw [if_pos ⟨h2, by omega⟩]
  · rw [ht, ht0]
    exact hv.size k (by omega)
  · rw [hrd]
    by_cases e : k = i
    · rw [if_pos e]
      show 0 ≤ v2 ∧ v2 ≤ 3
      omega
    · rw [if_neg e]
      exact hv.err k (by omega)
  · rw [ht0] at hp
    rw [ht]
    exact hv.good k (by omega) p hp
  · rw [ht0] at hp
    rw [ht]
    exact ha k (by omega) p hp
theorem any_ok (s0 s1 : Int) : ∃ e a b, cippuskit_Urn_Any.f s0 s1 [1, 2] = some (e, a, b) ∧ 1 ≤ e ∧ e ≤ 2 := by
  unfold cippuskit_Urn_Any.f
  obtain ⟨v, a, b, e, h0, h1⟩ := up_ok s0 s1 2 (by omega)
  rw [if_neg (by decide), show ((([1, 2] : List Int).length : Nat) : Int) = 2 from rfl, e]
  simp only [Option.bind_some]
  rw [if_pos h0, if_pos (by omega)]
  refine ⟨_, a, b, rfl, ?_⟩
  rcases (by omega : v = 0 ∨ v = 1) with rfl | rfl
  · exact ⟨by decide, by decide⟩
  · exact ⟨by decide, by decide⟩
theorem all_pure (l0 : List Int) (hl : l0.length < 4611686018427387904) : ∃ k, cippuslaw07_StemmaAll.f k l0 = some true := by
  obtain ⟨a, b, e1⟩ := newUrn_ok l0 (by have : maxLen = 9223372036854775807 := rfl; omega)
  obtain ⟨er, a1, b1, e2, h1, h2⟩ := any_ok a b
  obtain ⟨l, st, src, a2, b2, e3, h, hn, hp⟩ := copiesOf_made a1 b1 4 3 er (by omega) (by omega) (by omega) (by omega) (by omega) (by omega)
  obtain ⟨o, a3, b3, e4⟩ := odds_ok a2 b2 1 4 (by omega)
  have hv := h.valid
  have ha : Abc l := fun i hi p hp2 => ((h.made.one i hi).1.1 p (by rw [hv.size i hi]; exact hp2)).2
  refine Ev.rounds ?_
  unfold cippuslaw07_StemmaAll.f cippuskit_NewUrn.f cippuskit_CopiesOf.f
  rw [e1]
  simp only [Option.bind_some]
  rw [e2]
  simp only [Option.bind_some]
  rw [e3]
  simp only [Option.bind_some]
  rw [e4]
  simp only [Option.bind_some]
  cases o with
  | true =>
    obtain ⟨l', x, y, e5, hv', ha'⟩ := changed_ok hv ha a3 b3
    refine Ev.if_pos' rfl ?_
    rw [e5]
    exact all_j0 hv' ha'
  | false => exact Ev.if_neg' (by decide) (all_j0 hv ha)
end Go.Proofs.Ytegjollhajgcdaa.Pure
namespace Go.Proofs.Ytegjollhajgcdaa.P
open Go.RowKit Go.Proofs.YtegjollhajgcdaaW.PrintWords Go.Proofs.YtegjollhajgcdaaW.PrintLast Go.Proofs.YtegjollhajgcdaaW.PrintMore
attribute [local go_sem] max2_int min2_int max_two min_two max_three min_three max_four min_four   -- for this text's walks alone
open OwnSt
set_option linter.unusedVariables false
set_option linter.unusedSimpArgs false
set_option maxHeartbeats 8000000 in
set_option maxRecDepth 100000 in
theorem cippuslaw07_StemmaAll.calls (k : Nat) (A0 : Option Addr) (c0 : Nat) (l0 : List Int) (r : Bool) (w : World) (hr0 : Kd.C (Kd.int .i64) w A0 l0.length l0) (hc0 : l0.length ≤ c0) (h : cippuslaw07_StemmaAll.f k l0 = some r) :
    Calls Try.prog 5 #[.slice A0 l0.length c0] w fun e w' => e = .returned (.bool r) ∧ Below w.heap.size w w' := by
  have hu27 := Try.underlying27
  have HR0 := Aside0.mk hr0
  have HC0 := Aside0.mk hc0
  clear hr0 hc0
  have HB := Aside0.mk (Below.refl w.heap.size w)
  have H : ((cippuskit_NewUrn.f l0).bind fun bt367 => ((cippuskit_Urn_Any.f bt367.1 bt367.2 (([1, 2] : List Int))).bind fun bt373 => ((cippuskit_CopiesOf.f bt373.2.1 bt373.2.2 4 3 bt373.1).bind fun bt376 => ((cippuskit_Urn_Odds.f bt376.2.2.2.1 bt376.2.2.2.2 1 4).bind fun bt386 => (if bt386.1 = true then ((cippuslaw07_changed.f bt386.2.1 bt386.2.2 bt376.1).bind fun bt389 => (cippuslaw07_StemmaAll.j0 k bt389.1)) else (cippuslaw07_StemmaAll.j0 k bt376.1)))))) = some r := h
  clear h
  replace H := Option.bind_eq_some_iff.mp H
  obtain ⟨⟨t367, t368⟩, A20, H⟩ := H
  replace H : ((cippuskit_Urn_Any.f t367 t368 (([1, 2] : List Int))).bind fun bt373 => ((cippuskit_CopiesOf.f bt373.2.1 bt373.2.2 4 3 bt373.1).bind fun bt376 => ((cippuskit_Urn_Odds.f bt376.2.2.2.1 bt376.2.2.2.2 1 4).bind fun bt386 => (if bt386.1 = true then ((cippuslaw07_changed.f bt386.2.1 bt386.2.2 bt376.1).bind fun bt389 => (cippuslaw07_StemmaAll.j0 k bt389.1)) else (cippuslaw07_StemmaAll.j0 k bt376.1))))) = some r := H
  have A2 := Aside0.mk A20
  clear A20
  obtain ⟨y370, hy370⟩ : ∃ y_ : List Int, y_ = (([1, 2] : List Int)) := ⟨_, rfl⟩
  replace H : ((cippuskit_Urn_Any.f t367 t368 y370).bind fun bt373 => ((cippuskit_CopiesOf.f bt373.2.1 bt373.2.2 4 3 bt373.1).bind fun bt376 => ((cippuskit_Urn_Odds.f bt376.2.2.2.1 bt376.2.2.2.2 1 4).bind fun bt386 => (if bt386.1 = true then ((cippuslaw07_changed.f bt386.2.1 bt386.2.2 bt376.1).bind fun bt389 => (cippuslaw07_StemmaAll.j0 k bt389.1)) else (cippuslaw07_StemmaAll.j0 k bt376.1))))) = some r := by first | (rw [hy370]; with_reducible exact H) | (have H2_ := (Option.bind_some _ _).symm.trans H; rw [hy370]; with_reducible exact H2_) | (have H2_ := (Option.bind_some _ _).symm.trans H; with_reducible exact H2_) | with_reducible exact H | (rw [hy370]; exact H) | exact H
  have Ny370 := Aside0.mk hy370
  clear hy370
  replace H := Option.bind_eq_some_iff.mp H
  obtain ⟨⟨t373, t374, t375⟩, A30, H⟩ := H
  replace H : ((cippuskit_CopiesOf.f t374 t375 4 3 t373).bind fun bt376 => ((cippuskit_Urn_Odds.f bt376.2.2.2.1 bt376.2.2.2.2 1 4).bind fun bt386 => (if bt386.1 = true then ((cippuslaw07_changed.f bt386.2.1 bt386.2.2 bt376.1).bind fun bt389 => (cippuslaw07_StemmaAll.j0 k bt389.1)) else (cippuslaw07_StemmaAll.j0 k bt376.1)))) = some r := H
  have A3 := Aside0.mk A30
  clear A30
  replace H := Option.bind_eq_some_iff.mp H
  obtain ⟨⟨t376, t379, t380, t383, t384⟩, A40, H⟩ := H
  replace H : ((cippuskit_Urn_Odds.f t383 t384 1 4).bind fun bt386 => (if bt386.1 = true then ((cippuslaw07_changed.f bt386.2.1 bt386.2.2 t376).bind fun bt389 => (cippuslaw07_StemmaAll.j0 k bt389.1)) else (cippuslaw07_StemmaAll.j0 k t376))) = some r := H
  have A4 := Aside0.mk A40
  clear A40
  replace H := Option.bind_eq_some_iff.mp H
  obtain ⟨⟨t386, t387, t388⟩, A50, H⟩ := H
  replace H : (if t386 = true then ((cippuslaw07_changed.f t387 t388 t376).bind fun bt389 => (cippuslaw07_StemmaAll.j0 k bt389.1)) else (cippuslaw07_StemmaAll.j0 k t376)) = some r := H
  have A5 := Aside0.mk A50
  clear A50
  have HC6 := Aside0.mk H
  clear H
  go_enter Try.func5, Try.ntmps5
  go_upto_if 35 with (first | ((with_reducible refine gate_callee (f := 14) rfl ?_); refine goesL_ (some 25) rfl rfl Try.func14 (by kernel_rfl) rfl #[.slice A0 l0.length c0] rfl (by (try simp only [List.map_toArray, List.map_cons, List.map_nil]); first | done | rfl | (simp only [List.length_drop, List.length_take]; rfl)) ?_; (with_reducible refine (cippuskit_NewUrn.calls _ _ l0 t367 t368 w _ ?side1 ?side2 ?side3 A2.out).mono ?_); (case side1 => repeat (first | (with_reducible first | exact HB.out | apply below_alloc | apply pw_below_drewN | apply below_drew1) | exact HB.out)); (case side2 => exact HR0.out); (case side3 => exact HC0.out); rintro e w7 ⟨g369, rfl, hi, hb, hb2⟩; refine ⟨_, rfl, ?_⟩; have n0_ := Aside0.mk (hb); have n1_ := Aside0.mk (hi); clear HB; have HB := n0_; have HI369 := n1_; clear n0_ n1_; (try clear hb); (try clear hb2); (try clear hk); (try clear hi)) | ((with_reducible refine gate_dst (N := 29) rfl ?_); refine Kd.R_lit (Kd.int .i64) _ 3 ?hg (N := 29) ?hd (xs := ([1, 2] : List Int)) (inner := [.int .i64 1, .int .i64 2]) (ok := fun _ => True) (okp := fun _ => True) ?hr ?hp (fun _ hk => hk) trivial (Below.refl _ _) (Nat.le_refl _) (by simp) ?_; (case hd => rfl); (case hg => rfl); (case hr => first | (go_simp; done) | (go_simp; rfl)); (case hp => exact (Reps.one (show Kd.M (Kd.int .i64) _ _ _ 1 [.int .i64 1] from rfl) (Reps.one (show Kd.M (Kd.int .i64) _ _ _ 2 [.int .i64 2] from rfl) (Reps.none _ _)))); intro v371 w8 ho9 hb hg_ hnew_; clear hg_ hnew_; (first | rw [← Ny370.out] at ho9 | (simp only [Int.reduceToNat] at ho9; rw [← Ny370.out] at ho9)); have n0_ := Aside0.mk (Kd.R_lower ho9 (below_size (by repeat (first | (with_reducible first | exact HB.out | apply below_alloc | apply pw_below_drewN | apply below_drew1 | refine below_set ?_ (IsS72.ge HI369.out)) | exact HB.out)))); have n1_ := Aside0.mk (IsS72.below (by repeat (first | (with_reducible first | exact HI369.out | apply IsS72.alloc | apply IsS72.drewN | apply IsS72.drew | apply IsS72.set_0 | apply IsS72.set_1) | exact HI369.out)) hb); have n2_ := Aside0.mk (below_step (by repeat (first | (with_reducible first | exact HB.out | apply below_alloc | apply pw_below_drewN | apply below_drew1 | refine below_set ?_ (IsS72.ge HI369.out)) | exact HB.out)) hb); clear HI369; clear HB; have HO372 := n0_; have HI369 := n1_; have HB := n2_; clear n0_ n1_ n2_; clear hb ho9; obtain ⟨Ao10, co10, eo10⟩ := Kd.R_slice HO372.out; subst eo10) | ((with_reducible refine gate_callee (f := 26) rfl ?_); refine goesL_ (some 30) rfl rfl Try.func26 (by kernel_rfl) rfl #[.pointer (some ⟨g369, 0, none⟩), .slice Ao10 y370.length co10] rfl (by (try simp only [List.map_toArray, List.map_cons, List.map_nil]); first | done | rfl | (simp only [List.length_drop, List.length_take]; rfl)) ?_; (with_reducible refine (cippuskit_Urn_Any.calls g369 t367 t368 _ _ y370 t373 t374 t375 w _ ?side1 ?side2 ?side3 ?side4 ?side5 A3.out).mono ?_); (case side1 => repeat (first | (with_reducible first | exact HI369.out | apply IsS72.alloc | apply IsS72.drewN | apply IsS72.drew | apply IsS72.set_0 | apply IsS72.set_1) | exact HI369.out)); (case side2 => repeat (first | (with_reducible first | exact HB.out | apply below_alloc | apply pw_below_drewN | apply below_drew1 | refine below_set ?_ (IsS72.ge HI369.out)) | exact HB.out)); (case side3 => repeat (first | exact (Kd.R_reads' HO372.out).2.2 | (with_reducible refine Kd.C_alloc ?_ _) | (with_reducible refine Kd.C_drewN ?_ _) | (with_reducible refine Kd.C_drew ?_))); (case side4 => exact (Kd.R_reads' HO372.out).2.1); (case side5 => exact far_slice (IsS72.own_ne HI369.out HO372.out (by decide))); rintro e w11 ⟨rfl, hi, hb, hk⟩; refine ⟨_, rfl, ?_⟩; have n0_ := Aside0.mk (Kd.R_mono (Kd.R_keep (IsS72.apart (show IsS72 w _ g369 t367 t368 from by repeat (first | (with_reducible first | exact HI369.out | apply IsS72.alloc | apply IsS72.drewN | apply IsS72.drew | apply IsS72.set_0 | apply IsS72.set_1) | exact HI369.out)) (by (with_reducible repeat (first | apply Kd.R_alloc | apply Kd.R_drewN | apply Kd.R_drew)); exact HO372.out) (by decide)) hk (fun _ h => h.2)) (fun _ h => h.1)); have n1_ := Aside0.mk (hb); have n2_ := Aside0.mk (hi); clear HO372; clear HB; clear HI369; have HO372 := n0_; have HB := n1_; have HI369 := n2_; clear n0_ n1_ n2_; (try clear hb); (try clear hb2); (try clear hk); (try clear hi)) | ((with_reducible refine gate_callee (f := 13) rfl ?_); refine goesL_ (some 31) rfl rfl Try.func13 (by kernel_rfl) rfl #[.pointer (some ⟨g369, 0, none⟩), .int .i64 4, .int .i64 3, .int .i64 t373] rfl (by (try simp only [List.map_toArray, List.map_cons, List.map_nil]); first | done | rfl | (simp only [List.length_drop, List.length_take]; rfl)) ?_; (with_reducible refine (cippuskit_CopiesOf.calls g369 t374 t375 4 3 t373 t376 t379 t380 t383 t384 w _ ?side1 ?side2 A4.out).mono ?_); (case side1 => repeat (first | (with_reducible first | exact HI369.out | apply IsS72.alloc | apply IsS72.drewN | apply IsS72.drew | apply IsS72.set_0 | apply IsS72.set_1) | exact HI369.out)); (case side2 => repeat (first | (with_reducible first | exact HB.out | apply below_alloc | apply pw_below_drewN | apply below_drew1 | refine below_set ?_ (IsS72.ge HI369.out)) | exact HB.out)); rintro e w12 ⟨v377, v381, rfl, ho0, ho1, hi, hb, hk⟩; refine ⟨_, rfl, ?_⟩; have n0_ := Aside0.mk (Kd.R_mono (Kd.R_told (Kd.R_oldK (IsS72.apart (show IsS72 w _ g369 t374 t375 from by repeat (first | (with_reducible first | exact HI369.out | apply IsS72.alloc | apply IsS72.drewN | apply IsS72.drew | apply IsS72.set_0 | apply IsS72.set_1) | exact HI369.out)) (by (with_reducible repeat (first | apply Kd.R_alloc | apply Kd.R_drewN | apply Kd.R_drew)); exact HO372.out) (by decide)) hk) (Kd.R_base ho1)) (fun _ h_ => h_.1)); have n1_ := Aside0.mk (Kd.R_lower ho0 (below_size (by repeat (first | (with_reducible first | exact HB.out | apply below_alloc | apply pw_below_drewN | apply below_drew1 | refine below_set ?_ (IsS72.ge HI369.out)) | exact HB.out)))); have n2_ := Aside0.mk (Kd.R_lower (Kd.R_new' ho1 (Kd.R_lt (by (with_reducible repeat (first | apply Kd.R_alloc | apply Kd.R_drewN | apply Kd.R_drew)); exact HO372.out))) (below_size (by repeat (first | (with_reducible first | exact HB.out | apply below_alloc | apply pw_below_drewN | apply below_drew1 | refine below_set ?_ (IsS72.ge HI369.out)) | exact HB.out)))); have n3_ := Aside0.mk (hb); have n4_ := Aside0.mk (hi); clear HO372; clear HB; clear HI369; have HO372 := n0_; have HO378 := n1_; have HO382 := n2_; have HB := n3_; have HI369 := n4_; clear n0_ n1_ n2_ n3_ n4_; (try clear hb); (try clear hb2); (try clear hk); (try clear hi); (try clear ho0); (try clear ho1)) | ((with_reducible refine gate_dst (N := 5) rfl ?_); refine box_event ?hg (N := 5) ?hd (cs := #[.string (⟨#[]⟩ : ByteArray), .slice none 0 0]) (t := 27) ?hr ?_; (case hd => rfl); (case hg => rfl); (case hr => first | (go_simp; done) | (go_simp; rfl)); intro gb385 hg w13 hbox hb; have n0_ := Aside0.mk (Kd.R_below (by (with_reducible repeat (first | apply Kd.R_alloc | apply Kd.R_drewN | apply Kd.R_drew)); exact HO372.out) hb); have n1_ := Aside0.mk (Kd.R_below (by (with_reducible repeat (first | apply Kd.R_alloc | apply Kd.R_drewN | apply Kd.R_drew)); exact HO378.out) hb); have n2_ := Aside0.mk (Kd.R_below (by (with_reducible repeat (first | apply Kd.R_alloc | apply Kd.R_drewN | apply Kd.R_drew)); exact HO382.out) hb); have n3_ := Aside0.mk (IsS72.below (by repeat (first | (with_reducible first | exact HI369.out | apply IsS72.alloc | apply IsS72.drewN | apply IsS72.drew | apply IsS72.set_0 | apply IsS72.set_1) | exact HI369.out)) hb); have n4_ := Aside0.mk (below_step (by repeat (first | (with_reducible first | exact HB.out | apply below_alloc | apply pw_below_drewN | apply below_drew1 | refine below_set ?_ (IsS72.ge HI369.out)) | exact HB.out)) hb); have n5_ := Aside0.mk (hbox); have n6_ := Aside0.mk ((by rw [hg]; exact (below_size (by repeat (first | (with_reducible first | exact HB.out | apply below_alloc | apply pw_below_drewN | apply below_drew1 | refine below_set ?_ (IsS72.ge HI369.out)) | exact HB.out))) : w.heap.size ≤ gb385)); have n7_ := Aside0.mk ((by rw [hg]; exact (below_size (by repeat (first | (with_reducible first | exact HB.out | apply below_alloc | apply pw_below_drewN | apply below_drew1 | refine below_set ?_ (IsS72.ge HI369.out)) | exact HB.out))) : w.heap.size ≤ gb385)); have n8_ := Aside0.mk ((by rw [hg]; exact Nat.ne_of_lt (IsS72.lt (show IsS72 w _ g369 t383 t384 from by repeat (first | (with_reducible first | exact HI369.out | apply IsS72.alloc | apply IsS72.drewN | apply IsS72.drew | apply IsS72.set_0 | apply IsS72.set_1) | exact HI369.out))) : g369 ≠ gb385)); have n9_ := Aside0.mk ((by rw [hg]; exact Nat.ne_of_gt (IsS72.lt (show IsS72 w _ g369 t383 t384 from by repeat (first | (with_reducible first | exact HI369.out | apply IsS72.alloc | apply IsS72.drewN | apply IsS72.drew | apply IsS72.set_0 | apply IsS72.set_1) | exact HI369.out))) : gb385 ≠ g369)); clear HO372; clear HO378; clear HO382; clear HI369; clear HB; have HO372 := n0_; have HO378 := n1_; have HO382 := n2_; have HI369 := n3_; have HB := n4_; have BK385 := n5_; have GW385 := n6_; have GE385 := n7_; have NB369_385 := n8_; have NB385_369 := n9_; clear n0_ n1_ n2_ n3_ n4_ n5_ n6_ n7_ n8_ n9_; clear hb hbox hg; have hnb14 := NB385_369.out; have hnc14 := NB369_385.out; have hcz15_0 : w13.cell? ⟨gb385, 0, none⟩ = some (.string (⟨#[]⟩ : ByteArray)) := (blk_cell BK385.out 0).trans rfl; have hcz15_1 : w13.cell? ⟨gb385, 1, none⟩ = some (.slice none 0 0) := (blk_cell BK385.out 1).trans rfl; have hfz15_0 := blk_frozen BK385.out 0; have hfz15_1 := blk_frozen BK385.out 1; obtain ⟨Ao16, co16, eo16⟩ := Kd.R_slice HO382.out; subst eo16) | ((with_reducible refine gate_callee (f := 27) rfl ?_); refine goesL_ (some 35) rfl rfl Try.func27 (by kernel_rfl) rfl #[.pointer (some ⟨g369, 0, none⟩), .int .i64 1, .int .i64 4] rfl (by (try simp only [List.map_toArray, List.map_cons, List.map_nil]); first | done | rfl | (simp only [List.length_drop, List.length_take]; rfl)) ?_; (with_reducible refine (cippuskit_Urn_Odds.calls g369 t383 t384 1 4 t386 t387 t388 w _ ?side1 ?side2 A5.out).mono ?_); (case side1 => repeat (first | (with_reducible first | exact HI369.out | apply IsS72.alloc | apply IsS72.drewN | apply IsS72.drew | apply IsS72.set_0 | apply IsS72.set_1 | refine IsS72.far ?_ NB369_385.out _) | exact HI369.out)); (case side2 => repeat (first | (with_reducible first | exact HB.out | apply below_alloc | apply pw_below_drewN | apply below_drew1 | refine below_set ?_ (IsS72.ge HI369.out) | refine below_set ?_ GE385.out) | exact HB.out)); rintro e w17 ⟨rfl, hi, hb, hk⟩; refine ⟨_, rfl, ?_⟩; have n0_ := Aside0.mk (Kd.R_mono (Kd.R_keep (IsS72.apart (show IsS72 w _ g369 t383 t384 from by repeat (first | (with_reducible first | exact HI369.out | apply IsS72.alloc | apply IsS72.drewN | apply IsS72.drew | apply IsS72.set_0 | apply IsS72.set_1 | refine IsS72.far ?_ NB369_385.out _) | exact HI369.out)) (by (with_reducible repeat (first | apply Kd.R_alloc | apply Kd.R_drewN | apply Kd.R_drew)); exact (Kd.R_mono (Kd.R_far (p := ⟨gb385, 1, none⟩) (Kd.R_far (p := ⟨gb385, 0, none⟩) (Kd.R_types HO372.out BK385.out (by decide)) (fun _ hk => hk.2) (.string t379)) (fun _ hk => hk.2) (.slice Ao16 t380.length co16)) (fun _ h_ => h_.1))) (by decide)) hk (fun _ h => h.2)) (fun _ h => h.1)); have n1_ := Aside0.mk (Kd.R_mono (Kd.R_keep (IsS72.apart (show IsS72 w _ g369 t383 t384 from by repeat (first | (with_reducible first | exact HI369.out | apply IsS72.alloc | apply IsS72.drewN | apply IsS72.drew | apply IsS72.set_0 | apply IsS72.set_1 | refine IsS72.far ?_ NB369_385.out _) | exact HI369.out)) (by (with_reducible repeat (first | apply Kd.R_alloc | apply Kd.R_drewN | apply Kd.R_drew)); exact (Kd.R_mono (Kd.R_far (p := ⟨gb385, 1, none⟩) (Kd.R_far (p := ⟨gb385, 0, none⟩) (Kd.R_types HO378.out BK385.out (by decide)) (fun _ hk => hk.2) (.string t379)) (fun _ hk => hk.2) (.slice Ao16 t380.length co16)) (fun _ h_ => h_.1))) (by decide)) hk (fun _ h => h.2)) (fun _ h => h.1)); have n2_ := Aside0.mk (Kd.R_mono (Kd.R_keep (IsS72.apart (show IsS72 w _ g369 t383 t384 from by repeat (first | (with_reducible first | exact HI369.out | apply IsS72.alloc | apply IsS72.drewN | apply IsS72.drew | apply IsS72.set_0 | apply IsS72.set_1 | refine IsS72.far ?_ NB369_385.out _) | exact HI369.out)) (by (with_reducible repeat (first | apply Kd.R_alloc | apply Kd.R_drewN | apply Kd.R_drew)); exact (Kd.R_mono (Kd.R_far (p := ⟨gb385, 1, none⟩) (Kd.R_far (p := ⟨gb385, 0, none⟩) (Kd.R_types HO382.out BK385.out (by decide)) (fun _ hk => hk.2) (.string t379)) (fun _ hk => hk.2) (.slice Ao16 t380.length co16)) (fun _ h_ => h_.1))) (by decide)) hk (fun _ h => h.2)) (fun _ h => h.1)); have n3_ := Aside0.mk (KeepBut.blk hk (g' := gb385) (o := .cells #[.string t379, .slice Ao16 t380.length co16] 27 (0, 0)) (by (with_reducible repeat (first | refine blk_drewN ?_ _ | refine blk_drew ?_ | refine blk_alloc ?_ _)); refine blk_put (cs := #[.string t379, .slice none 0 0]) ?_ 1 _ rfl; (with_reducible repeat (first | refine blk_drewN ?_ _ | refine blk_drew ?_ | refine blk_alloc ?_ _)); refine blk_put (cs := #[.string (⟨#[]⟩ : ByteArray), .slice none 0 0]) ?_ 0 _ rfl; (with_reducible repeat (first | refine blk_drewN ?_ _ | refine blk_drew ?_ | refine blk_alloc ?_ _)); exact BK385.out) NB385_369.out (by simp)); have n4_ := Aside0.mk (hb); have n5_ := Aside0.mk (hi); clear HO372; clear HO378; clear HO382; clear BK385; clear HB; clear HI369; have HO372 := n0_; have HO378 := n1_; have HO382 := n2_; have BK385 := n3_; have HB := n4_; have HI369 := n5_; clear n0_ n1_ n2_ n3_ n4_ n5_; (try clear hb); (try clear hb2); (try clear hk); (try clear hi)))
  (try simp only [Act.put, List.setIfInBounds_toArray, List.set_cons_zero, List.set_cons_succ])
  go_cut [4] (fun v4 wc => ∃ (kq : Nat) (x4_5 : List (S24)), Aside0 (cippuslaw07_StemmaAll.j0 kq x4_5 = some r) ∧ Aside0 (kq ≤ k) ∧ Aside0 (Kd.R k24 24 wc w.heap.size (fun _ => True) v4 x4_5) ∧ Aside0 (Kd.R (Kd.int .i64) 3 wc w.heap.size (fun _ => True) (.slice Ao16 t380.length co16) t380) ∧ Aside0 (wc.heap[gb385]? = some (.cells #[.string t379, (.slice Ao16 t380.length co16)] 27 (0, 0))) ∧ Aside0 (Below w.heap.size w wc))
  case first => as_aux_lemma =>
    have H := HC6.out
    clear HC6
    by_cases c18 : t386 = true
    · subst c18
      have H1 : ((cippuslaw07_changed.f t387 t388 t376).bind fun bt389 => (cippuslaw07_StemmaAll.j0 k bt389.1)) = some r := by rw [if_pos rfl] at H; exact H
      clear H
      have H := H1
      clear H1
      replace H := Option.bind_eq_some_iff.mp H
      obtain ⟨⟨t389, t392, t393⟩, A190, H⟩ := H
      replace H : (cippuslaw07_StemmaAll.j0 k t389) = some r := H
      have A19 := Aside0.mk A190
      clear A190
      have H' := Aside0.mk H
      clear H
      obtain ⟨Ao20, co20, eo20⟩ := Kd.R_slice HO378.out
      subst eo20
      obtain ⟨v1, sA, sB, v2, sC, sD, b3, e1_, e2_, e3_, h1_, h2_, hl_⟩ := changed_some A19.out
      obtain ⟨gx, cx, ex_, hgx, hgl⟩ := R_block HO378.out (by omega)
      simp only [Value.slice.injEq, true_and] at ex_
      obtain ⟨rfl, rfl⟩ := ex_
      have HX := HO378
      have HE1 := Aside0.mk e1_
      have HE2 := Aside0.mk e2_
      have HE3 := Aside0.mk e3_
      have HL := Aside0.mk hl_
      have HGX := Aside0.mk hgx
      clear e1_ e2_ e3_ hl_ hgx hgl
      have h3_ : v1.toNat < t376.length := by omega
      have p41_ : (0 ≤ v1) = True := eq_true h1_
      have q41_ : (v1 < (t376.length : Int)) = True := eq_true h2_
      have q42_ : (v1.toNat < t376.length) = True := eq_true h3_
      go_wp2_with (first | ((with_reducible refine gate_callee (f := 28) rfl ?_); refine goesL_ (some 40) rfl rfl Try.func28 (by kernel_rfl) rfl #[.pointer (some ⟨g369, 0, none⟩), .int .i64 (t376.length : Int)] rfl (by (try simp only [List.map_toArray, List.map_cons, List.map_nil]); first | done | rfl | (simp only [List.length_drop, List.length_take]; rfl)) ?_; (with_reducible refine (cippuskit_Urn_Up.calls g369 t387 t388 (t376.length : Int) v1 sA sB w _ ?side1 ?side2 HE1.out).mono ?_); (case side1 => repeat (first | (with_reducible first | exact HI369.out | apply IsS72.alloc | apply IsS72.drewN | apply IsS72.drew) | exact HI369.out)); (case side2 => repeat (first | (with_reducible first | exact HB.out | apply below_alloc | apply pw_below_drewN | apply below_drew1) | exact HB.out)); rintro e w61 ⟨rfl, hi, hb, hk⟩; refine ⟨_, rfl, ?_⟩; have n0_ := Aside0.mk (Kd.R_mono (Kd.R_keep (IsS72.apart (show IsS72 w _ g369 t387 t388 from by repeat (first | (with_reducible first | exact HI369.out | apply IsS72.alloc | apply IsS72.drewN | apply IsS72.drew) | exact HI369.out)) (by (with_reducible repeat (first | apply Kd.R_alloc | apply Kd.R_drewN | apply Kd.R_drew)); exact HX.out) (by decide)) hk (fun _ h => h.2)) (fun _ h => h.1)); have n1_ := Aside0.mk (Kd.R_mono (Kd.R_keep (IsS72.apart (show IsS72 w _ g369 t387 t388 from by repeat (first | (with_reducible first | exact HI369.out | apply IsS72.alloc | apply IsS72.drewN | apply IsS72.drew) | exact HI369.out)) (by (with_reducible repeat (first | apply Kd.R_alloc | apply Kd.R_drewN | apply Kd.R_drew)); exact HO382.out) (by decide)) hk (fun _ h => h.2)) (fun _ h => h.1)); have n2_ := Aside0.mk (KeepBut.blk hk (g' := gb385) (o := .cells #[.string t379, .slice Ao16 t380.length co16] 27 (0, 0)) (by (with_reducible repeat (first | refine blk_drewN ?_ _ | refine blk_drew ?_ | refine blk_alloc ?_ _)); exact BK385.out) NB385_369.out (by simp)); have n3_ := Aside0.mk hb; have n4_ := Aside0.mk hi; clear HX HO382 BK385 HB HI369 hb hi hk; have HX := n0_; have HO382 := n1_; have BK385 := n2_; have HB := n3_; have HI369 := n4_; clear n0_ n1_ n2_ n3_ n4_) | ((with_reducible refine gate_callee (f := 28) rfl ?_); refine goesL_ (some 45) rfl rfl Try.func28 (by kernel_rfl) rfl #[.pointer (some ⟨g369, 0, none⟩), .int .i64 2] rfl (by (try simp only [List.map_toArray, List.map_cons, List.map_nil]); first | done | rfl | (simp only [List.length_drop, List.length_take]; rfl)) ?_; (with_reducible refine (cippuskit_Urn_Up.calls g369 sA sB 2 v2 sC sD w _ ?side1 ?side2 HE2.out).mono ?_); (case side1 => repeat (first | (with_reducible first | exact HI369.out | apply IsS72.alloc | apply IsS72.drewN | apply IsS72.drew) | exact HI369.out)); (case side2 => repeat (first | (with_reducible first | exact HB.out | apply below_alloc | apply pw_below_drewN | apply below_drew1) | exact HB.out)); rintro e w62 ⟨rfl, hi, hb, hk⟩; refine ⟨_, rfl, ?_⟩; have n0_ := Aside0.mk (Kd.R_mono (Kd.R_keep (IsS72.apart (show IsS72 w _ g369 sA sB from by repeat (first | (with_reducible first | exact HI369.out | apply IsS72.alloc | apply IsS72.drewN | apply IsS72.drew) | exact HI369.out)) (by (with_reducible repeat (first | apply Kd.R_alloc | apply Kd.R_drewN | apply Kd.R_drew)); exact HX.out) (by decide)) hk (fun _ h => h.2)) (fun _ h => h.1)); have n1_ := Aside0.mk (Kd.R_mono (Kd.R_keep (IsS72.apart (show IsS72 w _ g369 sA sB from by repeat (first | (with_reducible first | exact HI369.out | apply IsS72.alloc | apply IsS72.drewN | apply IsS72.drew) | exact HI369.out)) (by (with_reducible repeat (first | apply Kd.R_alloc | apply Kd.R_drewN | apply Kd.R_drew)); exact HO382.out) (by decide)) hk (fun _ h => h.2)) (fun _ h => h.1)); have n2_ := Aside0.mk (KeepBut.blk hk (g' := gb385) (o := .cells #[.string t379, .slice Ao16 t380.length co16] 27 (0, 0)) (by (with_reducible repeat (first | refine blk_drewN ?_ _ | refine blk_drew ?_ | refine blk_alloc ?_ _)); exact BK385.out) NB385_369.out (by simp)); have n3_ := Aside0.mk hb; have n4_ := Aside0.mk hi; clear HX HO382 BK385 HB HI369 hb hi hk; have HX := n0_; have HO382 := n1_; have BK385 := n2_; have HB := n3_; have HI369 := n4_; clear n0_ n1_ n2_ n3_ n4_) | ((with_reducible refine gate_callee (f := 27) rfl ?_); refine goesL_ (some 47) rfl rfl Try.func27 (by kernel_rfl) rfl #[.pointer (some ⟨g369, 0, none⟩), .int .i64 2, .int .i64 3] rfl (by (try simp only [List.map_toArray, List.map_cons, List.map_nil]); first | done | rfl | (simp only [List.length_drop, List.length_take]; rfl)) ?_; (with_reducible refine (cippuskit_Urn_Odds.calls g369 sC sD 2 3 b3 t392 t393 w _ ?side1 ?side2 HE3.out).mono ?_); (case side1 => repeat (first | (with_reducible first | exact HI369.out | apply IsS72.alloc | apply IsS72.drewN | apply IsS72.drew) | exact HI369.out)); (case side2 => repeat (first | (with_reducible first | exact HB.out | apply below_alloc | apply pw_below_drewN | apply below_drew1) | exact HB.out)); rintro e w63 ⟨rfl, hi, hb, hk⟩; refine ⟨_, rfl, ?_⟩; have n0_ := Aside0.mk (Kd.R_mono (Kd.R_keep (IsS72.apart (show IsS72 w _ g369 sC sD from by repeat (first | (with_reducible first | exact HI369.out | apply IsS72.alloc | apply IsS72.drewN | apply IsS72.drew) | exact HI369.out)) (by (with_reducible repeat (first | apply Kd.R_alloc | apply Kd.R_drewN | apply Kd.R_drew)); exact HX.out) (by decide)) hk (fun _ h => h.2)) (fun _ h => h.1)); have n1_ := Aside0.mk (Kd.R_mono (Kd.R_keep (IsS72.apart (show IsS72 w _ g369 sC sD from by repeat (first | (with_reducible first | exact HI369.out | apply IsS72.alloc | apply IsS72.drewN | apply IsS72.drew) | exact HI369.out)) (by (with_reducible repeat (first | apply Kd.R_alloc | apply Kd.R_drewN | apply Kd.R_drew)); exact HO382.out) (by decide)) hk (fun _ h => h.2)) (fun _ h => h.1)); have n2_ := Aside0.mk (KeepBut.blk hk (g' := gb385) (o := .cells #[.string t379, .slice Ao16 t380.length co16] 27 (0, 0)) (by (with_reducible repeat (first | refine blk_drewN ?_ _ | refine blk_drew ?_ | refine blk_alloc ?_ _)); exact BK385.out) NB385_369.out (by simp)); have n3_ := Aside0.mk hb; have n4_ := Aside0.mk hi; clear HX HO382 BK385 HB HI369 hb hi hk; have HX := n0_; have HO382 := n1_; have BK385 := n2_; have HB := n3_; have HI369 := n4_; clear n0_ n1_ n2_ n3_ n4_; have hrc_ := row_cells HX.out v1.toNat (by omega); have hcz_0 := hrc_.1.1; have hcz_1 := hrc_.1.2.1; have hcz_2 := hrc_.1.2.2; have hfz_1 := hrc_.2.2 (v1.toNat * 3 + 1); have hfz_2 := hrc_.2.2 (v1.toNat * 3 + 2); clear hrc_))
      go_meet
      case rel => exact ⟨_, (t389), H', ⟨by first | omega | exact Nat.le_refl _⟩, ⟨by rw [HL.out]; exact (show Int.toNat v1 = v1.toNat from rfl) ▸ (by have h4_ := changed_store (Kd.R_mono HX.out (ok' := fun _ => True) (fun _ _ => trivial)) v1.toNat h3_ v2 b3; rw [show ((v1.toNat : Nat) : Int) = v1 by omega] at h4_; exact h4_)⟩, ⟨far_ints (far_ints HO382.out HX.out _ _) (row_store HX.out v1.toNat h3_ 1 (.int .i64 v2) ⟨(rd_T24 t376 (v1.toNat : Int)).f0, v2, (rd_T24 t376 (v1.toNat : Int)).f2⟩ (by decide) rfl) _ _⟩, ⟨blk_far (blk_far BK385.out (far_blk BK385.out HX.out) _) (far_blk BK385.out HX.out) _⟩, ⟨below_set (below_set HB.out HGX.out) HGX.out⟩⟩
    · replace c18 := Bool.eq_false_iff.mpr c18
      subst c18
      have H1 : (cippuslaw07_StemmaAll.j0 k t376) = some r := by rw [if_neg (show ¬ (false = true) by decide)] at H; exact H
      clear H
      have H := H1
      clear H1
      have H' := Aside0.mk H
      clear H
      go_wp2
      go_meet
      case rel => exact ⟨_, (t376), H', ⟨by first | omega | exact Nat.le_refl _⟩, ⟨by (with_reducible repeat (first | apply Kd.R_alloc | apply Kd.R_drewN | apply Kd.R_drew)); exact HO378.out⟩, ⟨by (with_reducible repeat (first | apply Kd.R_alloc | apply Kd.R_drewN | apply Kd.R_drew)); exact Kd.R_mono HO382.out (fun _ hk => trivial)⟩, ⟨by (with_reducible repeat (first | refine blk_drewN ?_ _ | refine blk_drew ?_ | refine blk_alloc ?_ _)); exact BK385.out⟩, ⟨by repeat (first | (with_reducible first | exact HB.out | apply below_alloc | apply pw_below_drewN | apply below_drew1 | refine below_set ?_ (IsS72.ge HI369.out) | refine below_set ?_ GE385.out) | exact HB.out)⟩⟩
  case rest => as_aux_lemma =>
    clear HC6
    try clear c1
    try clear c2
    try clear p2
    try clear c5
    try clear c9
    try clear c13
    try clear c14
    try clear c18
    try clear hcz15_0
    try clear hcz15_1
    try clear hfz15_0
    try clear hfz15_1
    obtain ⟨kq, x4_5, HA, HJ5, HO_4, HO_386001, BK385, HB⟩ := hcut
    cases kq with
    | zero => exact absurd HA.out (by simp [cippuslaw07_StemmaAll.j0])
    | succ kj5 =>
      have H := HA.out
      clear HA
      simp only [cippuslaw07_StemmaAll.j0] at H
      replace H := Option.bind_eq_some_iff.mp H
      obtain ⟨t394, A220, H⟩ := H
      replace H : ((stemma_Sources.f kj5 x4_5).bind fun bt397 => ((stemma_Letters.f kj5 x4_5).bind fun bt401 => ((stemma_Fewest.f kj5 x4_5).bind fun bt405 => ((cippuslaw07_tail.f kj5 x4_5 t394 bt397.1 bt397.2 bt401.1 bt401.2 bt405.1 bt405.2).bind fun t407 => (some t407))))) = some r := H
      have A22 := Aside0.mk A220
      clear A220
      replace H := Option.bind_eq_some_iff.mp H
      obtain ⟨⟨t397, t400⟩, A230, H⟩ := H
      replace H : ((stemma_Letters.f kj5 x4_5).bind fun bt401 => ((stemma_Fewest.f kj5 x4_5).bind fun bt405 => ((cippuslaw07_tail.f kj5 x4_5 t394 t397 t400 bt401.1 bt401.2 bt405.1 bt405.2).bind fun t407 => (some t407)))) = some r := H
      have A23 := Aside0.mk A230
      clear A230
      replace H := Option.bind_eq_some_iff.mp H
      obtain ⟨⟨t401, t402⟩, A240, H⟩ := H
      replace H : ((stemma_Fewest.f kj5 x4_5).bind fun bt405 => ((cippuslaw07_tail.f kj5 x4_5 t394 t397 t400 t401 t402 bt405.1 bt405.2).bind fun t407 => (some t407))) = some r := H
      have A24 := Aside0.mk A240
      clear A240
      replace H := Option.bind_eq_some_iff.mp H
      obtain ⟨⟨t405, t406⟩, A250, H⟩ := H
      replace H : ((cippuslaw07_tail.f kj5 x4_5 t394 t397 t400 t401 t402 t405 t406).bind fun t407 => (some t407)) = some r := H
      have A25 := Aside0.mk A250
      clear A250
      replace H := Option.bind_eq_some_iff.mp H
      obtain ⟨t407, A260, H⟩ := H
      replace H : (some t407) = some r := H
      have A26 := Aside0.mk A260
      clear A260
      obtain rfl := Option.some.inj H
      obtain ⟨Ao27, co27, eo27⟩ := Kd.R_slice HO_4.out
      subst eo27
      have A22v : Aside0 (OwnSt.allV x4_5 = some t394) := ⟨A22.out⟩
      go_upto_region 10 with (first | ((with_reducible refine gate_callee (f := 29) rfl ?_); refine goesL_ (some 54) rfl rfl Try.func29 (by kernel_rfl) rfl #[.slice Ao27 x4_5.length co27, .agg #[.string ⟨#[]⟩, .slice none 0 0], .slice none 0 0] rfl (by (try simp only [List.map_toArray, List.map_cons, List.map_nil]); first | done | rfl | (simp only [List.length_drop, List.length_take]; rfl)) ?_; (with_reducible refine (cippuslaw07_alltruths.calls _ _ x4_5 t394 _ ?side1 ?side2 A22v.out).mono ?_); (case side1 => repeat (first | exact (Kd.R_reads' HO_4.out).2.2 | (with_reducible refine Kd.C_alloc ?_ _) | (with_reducible refine Kd.C_drewN ?_ _) | (with_reducible refine Kd.C_drew ?_))); (case side2 => exact (Kd.R_reads' HO_4.out).2.1); rintro e w28 ⟨v395, rfl, ho0, hb⟩; refine ⟨_, rfl, ?_⟩; have n0_ := Aside0.mk (Kd.R_below (by (with_reducible repeat (first | apply Kd.R_alloc | apply Kd.R_drewN | apply Kd.R_drew)); exact HO_4.out) hb); have n1_ := Aside0.mk (Kd.R_below (by (with_reducible repeat (first | apply Kd.R_alloc | apply Kd.R_drewN | apply Kd.R_drew)); exact HO_386001.out) hb); have n2_ := Aside0.mk (Kd.N_lower (Kd.N_mono (ok' := fun k_ => some k_ ≠ (.slice Ao27 x4_5.length co27 : Value).ownBlock ∧ some k_ ≠ (.slice Ao16 t380.length co16 : Value).ownBlock ∧ k_ ≠ gb385) (Kd.R_N (Kd.R_bound ho0)) (fun k_ hk_ => ⟨(Kd.fresh' (Kd.R_lt (by (with_reducible repeat (first | apply Kd.R_alloc | apply Kd.R_drewN | apply Kd.R_drew)); exact HO_4.out)) k_ hk_.2.1), (Kd.fresh' (Kd.R_lt (by (with_reducible repeat (first | apply Kd.R_alloc | apply Kd.R_drewN | apply Kd.R_drew)); exact HO_386001.out)) k_ hk_.2.1), (Kd.freshB (g := gb385) (o := .cells #[.string t379, .slice Ao16 t380.length co16] 27 (0, 0)) (by (with_reducible repeat (first | refine blk_drewN ?_ _ | refine blk_drew ?_ | refine blk_alloc ?_ _)); exact BK385.out) k_ hk_.2.1)⟩)) (below_size (by repeat (first | (with_reducible first | exact HB.out | apply below_alloc | apply pw_below_drewN | apply below_drew1 | refine below_set ?_ GE385.out) | exact HB.out)))); have n3_ := Aside0.mk (blk_below (g := gb385) (o := .cells #[.string t379, .slice Ao16 t380.length co16] 27 (0, 0)) (by (with_reducible repeat (first | refine blk_drewN ?_ _ | refine blk_drew ?_ | refine blk_alloc ?_ _)); exact BK385.out) hb); have n4_ := Aside0.mk (below_step (by repeat (first | (with_reducible first | exact HB.out | apply below_alloc | apply pw_below_drewN | apply below_drew1 | refine below_set ?_ GE385.out) | exact HB.out)) hb); clear HO_4; clear HO_386001; clear BK385; clear HB; have HO_4 := n0_; have HO_386001 := n1_; have HO396 := n2_; have BK385 := n3_; have HB := n4_; clear n0_ n1_ n2_ n3_ n4_; (try clear hb); (try clear hb2); (try clear hk); (try clear hi); (try clear ho0)) | ((with_reducible refine gate_callee (f := 30) rfl ?_); refine goesL_ (some 57) rfl rfl Try.func30 (by kernel_rfl) rfl #[.slice Ao27 x4_5.length co27] rfl (by (try simp only [List.map_toArray, List.map_cons, List.map_nil]); first | done | rfl | (simp only [List.length_drop, List.length_take]; rfl)) ?_; (with_reducible refine (stemma_Sources.calls kj5 _ _ x4_5 t397 t400 _ ?side1 ?side2 A23.out).mono ?_); (case side1 => repeat (first | exact (Kd.R_reads' HO_4.out).2.2 | (with_reducible refine Kd.C_alloc ?_ _) | (with_reducible refine Kd.C_drewN ?_ _) | (with_reducible refine Kd.C_drew ?_))); (case side2 => exact (Kd.R_reads' HO_4.out).2.1); rintro e w29 ⟨v398, rfl, ho0, hb⟩; refine ⟨_, rfl, ?_⟩; have n0_ := Aside0.mk (Kd.R_below (by (with_reducible repeat (first | apply Kd.R_alloc | apply Kd.R_drewN | apply Kd.R_drew)); exact HO_4.out) hb); have n1_ := Aside0.mk (Kd.R_below (by (with_reducible repeat (first | apply Kd.R_alloc | apply Kd.R_drewN | apply Kd.R_drew)); exact HO_386001.out) hb); have n2_ := Aside0.mk (Kd.N_elder' (by (with_reducible repeat (first | apply Kd.N_alloc | apply Kd.N_drewN | apply Kd.N_drew)); exact HO396.out) (Kd.N_base ho0) hb); have n3_ := Aside0.mk (Kd.N_lower (Kd.N_mono (ok' := fun k_ => some k_ ≠ (.slice Ao27 x4_5.length co27 : Value).ownBlock ∧ some k_ ≠ (.slice Ao16 t380.length co16 : Value).ownBlock ∧ some k_ ≠ (v395 : Value).ownBlock ∧ k_ ≠ gb385) ho0 (fun k_ hk_ => ⟨(Kd.fresh' (Kd.R_lt (by (with_reducible repeat (first | apply Kd.R_alloc | apply Kd.R_drewN | apply Kd.R_drew)); exact HO_4.out)) k_ hk_), (Kd.fresh' (Kd.R_lt (by (with_reducible repeat (first | apply Kd.R_alloc | apply Kd.R_drewN | apply Kd.R_drew)); exact HO_386001.out)) k_ hk_), (Kd.fresh' (Kd.N_lt (by (with_reducible repeat (first | apply Kd.N_alloc | apply Kd.N_drewN | apply Kd.N_drew)); exact HO396.out)) k_ hk_), (Kd.freshB (g := gb385) (o := .cells #[.string t379, .slice Ao16 t380.length co16] 27 (0, 0)) (by (with_reducible repeat (first | refine blk_drewN ?_ _ | refine blk_drew ?_ | refine blk_alloc ?_ _)); exact BK385.out) k_ hk_)⟩)) (below_size (by repeat (first | (with_reducible first | exact HB.out | apply below_alloc | apply pw_below_drewN | apply below_drew1 | refine below_set ?_ GE385.out) | exact HB.out)))); have n4_ := Aside0.mk (blk_below (g := gb385) (o := .cells #[.string t379, .slice Ao16 t380.length co16] 27 (0, 0)) (by (with_reducible repeat (first | refine blk_drewN ?_ _ | refine blk_drew ?_ | refine blk_alloc ?_ _)); exact BK385.out) hb); have n5_ := Aside0.mk (below_step (by repeat (first | (with_reducible first | exact HB.out | apply below_alloc | apply pw_below_drewN | apply below_drew1 | refine below_set ?_ GE385.out) | exact HB.out)) hb); clear HO_4; clear HO_386001; clear HO396; clear BK385; clear HB; have HO_4 := n0_; have HO_386001 := n1_; have HO396 := n2_; have HO399 := n3_; have BK385 := n4_; have HB := n5_; clear n0_ n1_ n2_ n3_ n4_ n5_; (try clear hb); (try clear hb2); (try clear hk); (try clear hi); (try clear ho0)) | ((with_reducible refine gate_callee (f := 18) rfl ?_); refine goesL_ (some 62) rfl rfl Try.func18 (by kernel_rfl) rfl #[.slice Ao27 x4_5.length co27] rfl (by (try simp only [List.map_toArray, List.map_cons, List.map_nil]); first | done | rfl | (simp only [List.length_drop, List.length_take]; rfl)) ?_; (with_reducible refine (stemma_Letters.calls kj5 _ _ x4_5 t401 t402 _ ?side1 ?side2 A24.out).mono ?_); (case side1 => repeat (first | exact (Kd.R_reads' HO_4.out).2.2 | (with_reducible refine Kd.C_alloc ?_ _) | (with_reducible refine Kd.C_drewN ?_ _) | (with_reducible refine Kd.C_drew ?_))); (case side2 => exact (Kd.R_reads' HO_4.out).2.1); rintro e w30 ⟨v403, rfl, ho0, hb⟩; refine ⟨_, rfl, ?_⟩; have n0_ := Aside0.mk (Kd.R_below (by (with_reducible repeat (first | apply Kd.R_alloc | apply Kd.R_drewN | apply Kd.R_drew)); exact HO_4.out) hb); have n1_ := Aside0.mk (Kd.R_below (by (with_reducible repeat (first | apply Kd.R_alloc | apply Kd.R_drewN | apply Kd.R_drew)); exact HO_386001.out) hb); have n2_ := Aside0.mk (Kd.N_elder' (by (with_reducible repeat (first | apply Kd.N_alloc | apply Kd.N_drewN | apply Kd.N_drew)); exact HO396.out) (Kd.R_base ho0) hb); have n3_ := Aside0.mk (Kd.N_elder' (by (with_reducible repeat (first | apply Kd.N_alloc | apply Kd.N_drewN | apply Kd.N_drew)); exact HO399.out) (Kd.R_base ho0) hb); have n4_ := Aside0.mk (Kd.R_lower ho0 (below_size (by repeat (first | (with_reducible first | exact HB.out | apply below_alloc | apply pw_below_drewN | apply below_drew1 | refine below_set ?_ GE385.out) | exact HB.out)))); have n5_ := Aside0.mk (blk_below (g := gb385) (o := .cells #[.string t379, .slice Ao16 t380.length co16] 27 (0, 0)) (by (with_reducible repeat (first | refine blk_drewN ?_ _ | refine blk_drew ?_ | refine blk_alloc ?_ _)); exact BK385.out) hb); have n6_ := Aside0.mk (below_step (by repeat (first | (with_reducible first | exact HB.out | apply below_alloc | apply pw_below_drewN | apply below_drew1 | refine below_set ?_ GE385.out) | exact HB.out)) hb); clear HO_4; clear HO_386001; clear HO396; clear HO399; clear BK385; clear HB; have HO_4 := n0_; have HO_386001 := n1_; have HO396 := n2_; have HO399 := n3_; have HO404 := n4_; have BK385 := n5_; have HB := n6_; clear n0_ n1_ n2_ n3_ n4_ n5_ n6_; (try clear hb); (try clear hb2); (try clear hk); (try clear hi); (try clear ho0)) | ((with_reducible refine gate_callee (f := 24) rfl ?_); refine goesL_ (some 67) rfl rfl Try.func24 (by kernel_rfl) rfl #[.slice Ao27 x4_5.length co27] rfl (by (try simp only [List.map_toArray, List.map_cons, List.map_nil]); first | done | rfl | (simp only [List.length_drop, List.length_take]; rfl)) ?_; (with_reducible refine (stemma_Fewest.calls kj5 _ _ x4_5 t405 t406 _ ?side1 ?side2 A25.out).mono ?_); (case side1 => repeat (first | exact (Kd.R_reads' HO_4.out).2.2 | (with_reducible refine Kd.C_alloc ?_ _) | (with_reducible refine Kd.C_drewN ?_ _) | (with_reducible refine Kd.C_drew ?_))); (case side2 => exact (Kd.R_reads' HO_4.out).2.1); rintro e w31 ⟨rfl, hb⟩; refine ⟨_, rfl, ?_⟩; have n0_ := Aside0.mk (Kd.R_below (by (with_reducible repeat (first | apply Kd.R_alloc | apply Kd.R_drewN | apply Kd.R_drew)); exact HO_4.out) hb); have n1_ := Aside0.mk (Kd.R_below (by (with_reducible repeat (first | apply Kd.R_alloc | apply Kd.R_drewN | apply Kd.R_drew)); exact HO_386001.out) hb); have n2_ := Aside0.mk (Kd.N_below (by (with_reducible repeat (first | apply Kd.N_alloc | apply Kd.N_drewN | apply Kd.N_drew)); exact HO396.out) hb); have n3_ := Aside0.mk (Kd.N_below (by (with_reducible repeat (first | apply Kd.N_alloc | apply Kd.N_drewN | apply Kd.N_drew)); exact HO399.out) hb); have n4_ := Aside0.mk (Kd.R_below (by (with_reducible repeat (first | apply Kd.R_alloc | apply Kd.R_drewN | apply Kd.R_drew)); exact HO404.out) hb); have n5_ := Aside0.mk (blk_below (g := gb385) (o := .cells #[.string t379, .slice Ao16 t380.length co16] 27 (0, 0)) (by (with_reducible repeat (first | refine blk_drewN ?_ _ | refine blk_drew ?_ | refine blk_alloc ?_ _)); exact BK385.out) hb); have n6_ := Aside0.mk (below_step (by repeat (first | (with_reducible first | exact HB.out | apply below_alloc | apply pw_below_drewN | apply below_drew1 | refine below_set ?_ GE385.out) | exact HB.out)) hb); clear HO_4; clear HO_386001; clear HO396; clear HO399; clear HO404; clear BK385; clear HB; have HO_4 := n0_; have HO_386001 := n1_; have HO396 := n2_; have HO399 := n3_; have HO404 := n4_; have BK385 := n5_; have HB := n6_; clear n0_ n1_ n2_ n3_ n4_ n5_ n6_; (try clear hb); (try clear hb2); (try clear hk); (try clear hi); obtain ⟨Ao32, co32, eo32⟩ := Kd.N_slice HO396.out; subst eo32; obtain ⟨Ao33, co33, eo33⟩ := Kd.N_slice HO399.out; subst eo33; obtain ⟨Ao34, co34, eo34⟩ := Kd.R_slice HO404.out; subst eo34))
      have HR4 := Aside0.mk (Kd.R_reads' HO_4.out).2.2
      have HC4 := Aside0.mk (Kd.R_reads' HO_4.out).2.1
      have HR7 := Aside0.mk (Kd.N_reads' HO396.out).2.2
      have HC7 := Aside0.mk (Kd.N_reads' HO396.out).2.1
      have HR8 := Aside0.mk (Kd.N_reads' HO399.out).2.2
      have HC8 := Aside0.mk (Kd.N_reads' HO399.out).2.1
      have HR10 := Aside0.mk (Kd.R_reads' HO404.out).2.2
      have HC10 := Aside0.mk (Kd.R_reads' HO404.out).2.1
      have HBw := HB
      clear HB HO_4 HO396 HO399 HO404 HO_386001 BK385 A22 A23 A24 A25
      have HB := Aside0.mk (Below.refl w31.heap.size w31)
      have H : (if (t394.length : Int) = 0 then (if t400 = 9 then (if t402 = t400 then (if t406 = t400 then (if (wrap64 ((t397.length : Int) + (t401.length : Int))) = 0 then ((cippuslaw07_found.f kj5).bind fun u349 => (some u349)) else (some false)) else (some false)) else (some false)) else (some false)) else (if t400 = 0 then (if t402 = 0 then (if t406 = 0 then (if (t397.length : Int) = (x4_5.length : Int) then (if 0 < (x4_5.length : Int) then (cippuslaw07_tail.j0 kj5 x4_5 t394 t397 t401 t405 ((t401.length : Int) != (((rd_T24 x4_5 0).f0).size : Int))) else (none)) else (cippuslaw07_tail.j0 kj5 x4_5 t394 t397 t401 t405 true)) else (cippuslaw07_tail.j0 kj5 x4_5 t394 t397 t401 t405 true)) else (cippuslaw07_tail.j0 kj5 x4_5 t394 t397 t401 t405 true)) else (cippuslaw07_tail.j0 kj5 x4_5 t394 t397 t401 t405 true))) = some t407 := A26.out
      by_cases c15 : (t394.length : Int) = 0
      · rw [if_pos c15] at H
        have c15b0 : ((t394.length : Int) == 0) = true := beq_iff_eq.mpr c15
        have c15b1 : ((t394.length : Int) != 0) = false := bne_eq_false_iff_eq.mpr c15
        clear c15
        by_cases c16 : t400 = 9
        · rw [if_pos c16] at H
          have c16b0 : (t400 == 9) = true := beq_iff_eq.mpr c16
          have c16b1 : (t400 != 9) = false := bne_eq_false_iff_eq.mpr c16
          clear c16
          by_cases c17 : t402 = t400
          · rw [if_pos c17] at H
            have c17b0 : (t402 == t400) = true := beq_iff_eq.mpr c17
            have c17b1 : (t402 != t400) = false := bne_eq_false_iff_eq.mpr c17
            clear c17
            by_cases c18 : t406 = t400
            · rw [if_pos c18] at H
              have c18b0 : (t406 == t400) = true := beq_iff_eq.mpr c18
              have c18b1 : (t406 != t400) = false := bne_eq_false_iff_eq.mpr c18
              clear c18
              by_cases c19 : (wrap64 ((t397.length : Int) + (t401.length : Int))) = 0
              · rw [if_pos c19] at H
                have c19b0 : ((wrap64 ((t397.length : Int) + (t401.length : Int))) == 0) = true := beq_iff_eq.mpr c19
                have c19b1 : ((wrap64 ((t397.length : Int) + (t401.length : Int))) != 0) = false := bne_eq_false_iff_eq.mpr c19
                clear c19
                replace H := Option.bind_eq_some_iff.mp H
                obtain ⟨u349, TA200, H⟩ := H
                replace H : (some u349) = some t407 := H
                have TA20 := Aside0.mk TA200
                clear TA200
                obtain rfl := Option.some.inj H
                go_wp2_with (first | (go_at_call 17; (with_reducible refine (cippuslaw07_found.calls kj5  u349 _ TA20.out).mono ?_); rintro e wt21 ⟨rfl, hb⟩; have n0_ := Aside0.mk (below_step (by repeat (first | (with_reducible first | exact HB.out | apply below_alloc | apply pw_below_drewN | apply below_drew1) | exact HB.out)) hb); clear HB; have HB := n0_; clear n0_; (try clear hb); (try clear hb2); (try clear hk); (try clear hi)))
                repeat (go_quiet (first | (go_at_call 17; (with_reducible refine (cippuslaw07_found.calls kj5  u349 _ TA20.out).mono ?_); rintro e wt21 ⟨rfl, hb⟩; have n0_ := Aside0.mk (below_step (by repeat (first | (with_reducible first | exact HB.out | apply below_alloc | apply pw_below_drewN | apply below_drew1) | exact HB.out)) hb); clear HB; have HB := n0_; clear n0_; (try clear hb); (try clear hb2); (try clear hk); (try clear hi))); try go_wp2_with (first | (go_at_call 17; (with_reducible refine (cippuslaw07_found.calls kj5  u349 _ TA20.out).mono ?_); rintro e wt21 ⟨rfl, hb⟩; have n0_ := Aside0.mk (below_step (by repeat (first | (with_reducible first | exact HB.out | apply below_alloc | apply pw_below_drewN | apply below_drew1) | exact HB.out)) hb); clear HB; have HB := n0_; clear n0_; (try clear hb); (try clear hb2); (try clear hk); (try clear hi))))
                go_ret
                exact ⟨by first | rfl | (simp [errW_none, errW_some] <;> rfl) | (simp [*, errW_none, errW_some] <;> rfl), below_step HBw.out (by repeat (first | (with_reducible first | exact HB.out | apply below_alloc | apply pw_below_drewN | apply below_drew1) | exact HB.out))⟩
              · rw [if_neg c19] at H
                have c19b0 : ((wrap64 ((t397.length : Int) + (t401.length : Int))) == 0) = false := beq_eq_false_iff_ne.mpr c19
                have c19b1 : ((wrap64 ((t397.length : Int) + (t401.length : Int))) != 0) = true := bne_iff_ne.mpr c19
                obtain rfl := Option.some.inj H
                go_wp2
                repeat (go_quiet (fail); try go_wp2)
                go_ret
                exact ⟨by first | rfl | (simp [errW_none, errW_some] <;> rfl) | (simp [*, errW_none, errW_some] <;> rfl), below_step HBw.out (by repeat (first | (with_reducible first | exact HB.out | apply below_alloc | apply pw_below_drewN | apply below_drew1) | exact HB.out))⟩
            · rw [if_neg c18] at H
              have c18b0 : (t406 == t400) = false := beq_eq_false_iff_ne.mpr c18
              have c18b1 : (t406 != t400) = true := bne_iff_ne.mpr c18
              obtain rfl := Option.some.inj H
              go_wp2
              repeat (go_quiet (fail); try go_wp2)
              go_ret
              exact ⟨by first | rfl | (simp [errW_none, errW_some] <;> rfl) | (simp [*, errW_none, errW_some] <;> rfl), below_step HBw.out (by repeat (first | (with_reducible first | exact HB.out | apply below_alloc | apply pw_below_drewN | apply below_drew1) | exact HB.out))⟩
          · rw [if_neg c17] at H
            have c17b0 : (t402 == t400) = false := beq_eq_false_iff_ne.mpr c17
            have c17b1 : (t402 != t400) = true := bne_iff_ne.mpr c17
            obtain rfl := Option.some.inj H
            go_wp2
            repeat (go_quiet (fail); try go_wp2)
            go_ret
            exact ⟨by first | rfl | (simp [errW_none, errW_some] <;> rfl) | (simp [*, errW_none, errW_some] <;> rfl), below_step HBw.out (by repeat (first | (with_reducible first | exact HB.out | apply below_alloc | apply pw_below_drewN | apply below_drew1) | exact HB.out))⟩
        · rw [if_neg c16] at H
          have c16b0 : (t400 == 9) = false := beq_eq_false_iff_ne.mpr c16
          have c16b1 : (t400 != 9) = true := bne_iff_ne.mpr c16
          obtain rfl := Option.some.inj H
          go_wp2
          repeat (go_quiet (fail); try go_wp2)
          go_ret
          exact ⟨by first | rfl | (simp [errW_none, errW_some] <;> rfl) | (simp [*, errW_none, errW_some] <;> rfl), below_step HBw.out (by repeat (first | (with_reducible first | exact HB.out | apply below_alloc | apply pw_below_drewN | apply below_drew1) | exact HB.out))⟩
      · rw [if_neg c15] at H
        have c15b0 : ((t394.length : Int) == 0) = false := beq_eq_false_iff_ne.mpr c15
        have c15b1 : ((t394.length : Int) != 0) = true := bne_iff_ne.mpr c15
        have c15b2 : ¬ (t394 = []) := fun h_ => c15 (by rw [h_]; rfl)
        have HC22 := Aside0.mk H
        clear H
        go_upto_region 12 with (fail)
        repeat (go_quiet (fail); go_upto_region 12 with (fail))
        go_cut [122] (fun v122 wc => ∃ (kq : Nat) (x122_21 : Bool), v122 = .bool x122_21 ∧ Aside0 (cippuslaw07_tail.j0 kq x4_5 t394 t397 t401 t405 x122_21 = some t407) ∧ Aside0 (kq ≤ kj5) ∧ Aside0 (Below w31.heap.size w31 wc))
        case first => as_aux_lemma =>
          have H := HC22.out
          clear HC22
          by_cases c23 : t400 = 0
          · rw [if_pos c23] at H
            have c23b0 : (t400 == 0) = true := beq_iff_eq.mpr c23
            have c23b1 : (t400 != 0) = false := bne_eq_false_iff_eq.mpr c23
            clear c23
            (first | rw [c23b0] | (simp only [i64_w, i32_w]; rw [c23b0]) | skip)
            by_cases c24 : t402 = 0
            · rw [if_pos c24] at H
              have c24b0 : (t402 == 0) = true := beq_iff_eq.mpr c24
              have c24b1 : (t402 != 0) = false := bne_eq_false_iff_eq.mpr c24
              clear c24
              by_cases c25 : t406 = 0
              · rw [if_pos c25] at H
                have c25b0 : (t406 == 0) = true := beq_iff_eq.mpr c25
                have c25b1 : (t406 != 0) = false := bne_eq_false_iff_eq.mpr c25
                clear c25
                by_cases c26 : (t397.length : Int) = (x4_5.length : Int)
                · rw [if_pos c26] at H
                  have c26b0 : ((t397.length : Int) == (x4_5.length : Int)) = true := beq_iff_eq.mpr c26
                  have c26b1 : ((t397.length : Int) != (x4_5.length : Int)) = false := bne_eq_false_iff_eq.mpr c26
                  have c26b2 : (t397.length == x4_5.length) = true := by first | simpa using c26 | (simp at c26 ⊢; omega)
                  clear c26
                  by_cases c27 : 0 < (x4_5.length : Int)
                  · rw [if_pos c27] at H
                    have c27b0 : decide (0 < (x4_5.length : Int)) = true := decide_eq_true c27
                    have c27b1 : decide (0 < x4_5.length) = true := decide_eq_true (by omega)
                    clear c27
                    have H' := Aside0.mk H
                    clear H
                    have p350 : 0 ≤ (0 : Int) := (by omega)
                    have q350 : 0 < (x4_5.length : Int) := of_decide_eq_true (by first | (with_reducible assumption) | assumption)
                    obtain ⟨ad350, e350, hx350_0, hx350_1, hx350_2⟩ := at_T24 HR4.out 0 p350 q350
                    cases e350
                    have qi350 : (0 < x4_5.length) = True := eq_true (by omega)
                    (try rw [show ((0 : Int)).toNat = 0 from rfl] at hx350_0)
                    (try rw [show 0 * 3 = 0 from rfl] at hx350_0)
                    (try rw [Addr.add_zero'] at hx350_0)
                    (try rw [show ((0 : Int)).toNat = 0 from rfl] at hx350_1)
                    (try rw [show 0 * 3 = 0 from rfl] at hx350_1)
                    (try rw [Addr.add_zero'] at hx350_1)
                    (try rw [show ((0 : Int)).toNat = 0 from rfl] at hx350_2)
                    (try rw [show 0 * 3 = 0 from rfl] at hx350_2)
                    (try rw [Addr.add_zero'] at hx350_2)
                    try replace hx350_0 := (HB.out.cell (World.block_lt_of_cell? w31 _ hx350_0)).trans hx350_0
                    try replace hx350_1 := (HB.out.cell (World.block_lt_of_cell? w31 _ hx350_1)).trans hx350_1
                    try replace hx350_2 := (HB.out.cell (World.block_lt_of_cell? w31 _ hx350_2)).trans hx350_2
                    replace p350 := eq_true p350
                    replace q350 := eq_true q350
                    go_wp2
                    repeat (go_quiet (fail); try go_wp2)
                    go_meet
                    case rel => exact ⟨_, (((t401.length : Int) != (((rd_T24 x4_5 0).f0).size : Int))), (by first | rfl | (simp; done) | (simp [*]; done)), H', ⟨by first | omega | exact Nat.le_refl _⟩, ⟨by repeat (first | (with_reducible first | exact HB.out | apply below_alloc | apply pw_below_drewN | apply below_drew1) | exact HB.out)⟩⟩
                  · rw [if_neg c27] at H
                    exact absurd H (by simp)
                · rw [if_neg c26] at H
                  have c26b0 : ((t397.length : Int) == (x4_5.length : Int)) = false := beq_eq_false_iff_ne.mpr c26
                  have c26b1 : ((t397.length : Int) != (x4_5.length : Int)) = true := bne_iff_ne.mpr c26
                  have c26b2 : (t397.length == x4_5.length) = false := by first | simpa using c26 | (simp at c26 ⊢; omega)
                  have H' := Aside0.mk H
                  clear H
                  go_wp2
                  repeat (go_quiet (fail); try go_wp2)
                  go_meet
                  case rel => exact ⟨_, (true), (by first | rfl | (simp; done) | (simp [*]; done)), H', ⟨by first | omega | exact Nat.le_refl _⟩, ⟨by repeat (first | (with_reducible first | exact HB.out | apply below_alloc | apply pw_below_drewN | apply below_drew1) | exact HB.out)⟩⟩
              · rw [if_neg c25] at H
                have c25b0 : (t406 == 0) = false := beq_eq_false_iff_ne.mpr c25
                have c25b1 : (t406 != 0) = true := bne_iff_ne.mpr c25
                have H' := Aside0.mk H
                clear H
                go_wp2
                repeat (go_quiet (fail); try go_wp2)
                go_meet
                case rel => exact ⟨_, (true), (by first | rfl | (simp; done) | (simp [*]; done)), H', ⟨by first | omega | exact Nat.le_refl _⟩, ⟨by repeat (first | (with_reducible first | exact HB.out | apply below_alloc | apply pw_below_drewN | apply below_drew1) | exact HB.out)⟩⟩
            · rw [if_neg c24] at H
              have c24b0 : (t402 == 0) = false := beq_eq_false_iff_ne.mpr c24
              have c24b1 : (t402 != 0) = true := bne_iff_ne.mpr c24
              have H' := Aside0.mk H
              clear H
              go_wp2
              repeat (go_quiet (fail); try go_wp2)
              go_meet
              case rel => exact ⟨_, (true), (by first | rfl | (simp; done) | (simp [*]; done)), H', ⟨by first | omega | exact Nat.le_refl _⟩, ⟨by repeat (first | (with_reducible first | exact HB.out | apply below_alloc | apply pw_below_drewN | apply below_drew1) | exact HB.out)⟩⟩
          · rw [if_neg c23] at H
            have c23b0 : (t400 == 0) = false := beq_eq_false_iff_ne.mpr c23
            have c23b1 : (t400 != 0) = true := bne_iff_ne.mpr c23
            (first | rw [c23b0] | (simp only [i64_w, i32_w]; rw [c23b0]) | skip)
            have H' := Aside0.mk H
            clear H
            go_wp2
            repeat (go_quiet (fail); try go_wp2)
            go_meet
            case rel => exact ⟨_, (true), (by first | rfl | (simp; done) | (simp [*]; done)), H', ⟨by first | omega | exact Nat.le_refl _⟩, ⟨by repeat (first | (with_reducible first | exact HB.out | apply below_alloc | apply pw_below_drewN | apply below_drew1) | exact HB.out)⟩⟩
        case rest => as_aux_lemma =>
          clear HC22
          try clear c1
          try clear c2
          try clear p2
          try clear p3
          try clear q3
          try clear hx3
          try clear qi3
          try clear co27
          try clear p6
          try clear co32
          try clear co33
          try clear c9
          try clear co34
          try clear c15
          try clear c15b0
          try clear c15b1
          try clear c15b2
          try clear c16
          try clear c16b0
          try clear c16b1
          try clear c17
          try clear c17b0
          try clear c17b1
          try clear c18
          try clear c18b0
          try clear c18b1
          try clear c19
          try clear c19b0
          try clear c19b1
          try clear c23
          try clear c23b0
          try clear c23b1
          try clear c24
          try clear c24b0
          try clear c24b1
          try clear c25
          try clear c25b0
          try clear c25b1
          try clear c26
          try clear c26b0
          try clear c26b1
          try clear c26b2
          try clear c27
          try clear c27b0
          try clear c27b1
          try clear hx350_0
          try clear hx350_1
          try clear hx350_2
          try clear p350
          try clear q350
          obtain ⟨kq, x122_21, rfl, HA, HJ21, HB⟩ := hcut
          cases kq with
          | zero => exact absurd HA.out (by simp [cippuslaw07_tail.j0])
          | succ kj21 =>
            have H := HA.out
            clear HA
            simp only [cippuslaw07_tail.j0] at H
            by_cases c28 : x122_21 = true
            · subst c28
              have H1 : (some false) = some t407 := by rw [if_pos rfl] at H; exact H
              clear H
              have H := H1
              clear H1
              obtain rfl := Option.some.inj H
              go_wp2
              repeat (go_quiet (fail); try go_wp2)
              go_ret
              exact ⟨by first | rfl | (simp [errW_none, errW_some] <;> rfl) | (simp [*, errW_none, errW_some] <;> rfl), below_step HBw.out (by repeat (first | (with_reducible first | exact HB.out | apply below_alloc | apply pw_below_drewN | apply below_drew1) | exact HB.out))⟩
            · replace c28 := Bool.eq_false_iff.mpr c28
              subst c28
              have H1 : (if 0 < (t394.length : Int) then ((cippuslaw07_errors.f kj21 x4_5 ((rd_T27 t394 0).f0) ((rd_T27 t394 0).f1)).bind fun u352 => (cippuslaw07_tail.l0 kj21 x4_5 t394 t397 t401 t405 u352 0)) else (none)) = some t407 := by rw [if_neg (show ¬ (false = true) by decide)] at H; exact H
              clear H
              have H := H1
              clear H1
              by_cases c29 : 0 < (t394.length : Int)
              · rw [if_pos c29] at H
                have c29b0 : decide (0 < (t394.length : Int)) = true := decide_eq_true c29
                have c29b1 : decide (0 < t394.length) = true := decide_eq_true (by omega)
                clear c29
                replace H := Option.bind_eq_some_iff.mp H
                obtain ⟨u352, TA300, H⟩ := H
                replace H : (cippuslaw07_tail.l0 kj21 x4_5 t394 t397 t401 t405 u352 0) = some t407 := H
                have TA30 := Aside0.mk TA300
                clear TA300
                have H' := Aside0.mk H
                clear H
                have p351 : 0 ≤ (0 : Int) := (by omega)
                have q351 : 0 < (t394.length : Int) := of_decide_eq_true (by first | (with_reducible assumption) | assumption)
                obtain ⟨ad351, A351_1, c351_1, e351, hx351_0, hx351_1, hl351_1, hi351_1⟩ := at_T27 HR7.out 0 p351 q351
                cases e351
                have qi351 : (0 < t394.length) = True := eq_true (by omega)
                (try rw [show ((0 : Int)).toNat = 0 from rfl] at hx351_0)
                (try rw [show 0 * 2 = 0 from rfl] at hx351_0)
                (try rw [Addr.add_zero'] at hx351_0)
                (try rw [show ((0 : Int)).toNat = 0 from rfl] at hx351_1)
                (try rw [show 0 * 2 = 0 from rfl] at hx351_1)
                (try rw [Addr.add_zero'] at hx351_1)
                try replace hx351_0 := (HB.out.cell (World.block_lt_of_cell? w31 _ hx351_0)).trans hx351_0
                try replace hx351_1 := (HB.out.cell (World.block_lt_of_cell? w31 _ hx351_1)).trans hx351_1
                have HR351_1 := Aside0.mk hi351_1
                have HC351_1 := Aside0.mk hl351_1
                clear hi351_1 hl351_1
                replace p351 := eq_true p351
                replace q351 := eq_true q351
                go_wp2_with (first | (go_at_call 31; (with_reducible refine (cippuslaw07_errors.calls kj21 _ _ x4_5 ((rd_T27 t394 0).f0) _ _ ((rd_T27 t394 0).f1) u352 _ ?side1 ?side2 ?side3 ?side4 TA30.out).mono ?_); (case side1 => repeat (first | exact (Kd.C_below HR4.out HB.out) | (with_reducible refine Kd.C_alloc ?_ _) | (with_reducible refine Kd.C_drewN ?_ _) | (with_reducible refine Kd.C_drew ?_))); (case side2 => exact HC4.out); (case side3 => repeat (first | exact (Kd.C_below HR351_1.out HB.out) | (with_reducible refine Kd.C_alloc ?_ _) | (with_reducible refine Kd.C_drewN ?_ _) | (with_reducible refine Kd.C_drew ?_))); (case side4 => exact HC351_1.out); rintro e wt31 ⟨rfl, hb⟩; have n0_ := Aside0.mk (below_step (by repeat (first | (with_reducible first | exact HB.out | apply below_alloc | apply pw_below_drewN | apply below_drew1) | exact HB.out)) hb); clear HB; have HB := n0_; clear n0_; (try clear hb); (try clear hb2); (try clear hk); (try clear hi)))
                repeat (go_quiet (first | (go_at_call 31; (with_reducible refine (cippuslaw07_errors.calls kj21 _ _ x4_5 ((rd_T27 t394 0).f0) _ _ ((rd_T27 t394 0).f1) u352 _ ?side1 ?side2 ?side3 ?side4 TA30.out).mono ?_); (case side1 => repeat (first | exact (Kd.C_below HR4.out HB.out) | (with_reducible refine Kd.C_alloc ?_ _) | (with_reducible refine Kd.C_drewN ?_ _) | (with_reducible refine Kd.C_drew ?_))); (case side2 => exact HC4.out); (case side3 => repeat (first | exact (Kd.C_below HR351_1.out HB.out) | (with_reducible refine Kd.C_alloc ?_ _) | (with_reducible refine Kd.C_drewN ?_ _) | (with_reducible refine Kd.C_drew ?_))); (case side4 => exact HC351_1.out); rintro e wt31 ⟨rfl, hb⟩; have n0_ := Aside0.mk (below_step (by repeat (first | (with_reducible first | exact HB.out | apply below_alloc | apply pw_below_drewN | apply below_drew1) | exact HB.out)) hb); clear HB; have HB := n0_; clear n0_; (try clear hb); (try clear hb2); (try clear hk); (try clear hi))); try go_wp2_with (first | (go_at_call 31; (with_reducible refine (cippuslaw07_errors.calls kj21 _ _ x4_5 ((rd_T27 t394 0).f0) _ _ ((rd_T27 t394 0).f1) u352 _ ?side1 ?side2 ?side3 ?side4 TA30.out).mono ?_); (case side1 => repeat (first | exact (Kd.C_below HR4.out HB.out) | (with_reducible refine Kd.C_alloc ?_ _) | (with_reducible refine Kd.C_drewN ?_ _) | (with_reducible refine Kd.C_drew ?_))); (case side2 => exact HC4.out); (case side3 => repeat (first | exact (Kd.C_below HR351_1.out HB.out) | (with_reducible refine Kd.C_alloc ?_ _) | (with_reducible refine Kd.C_drewN ?_ _) | (with_reducible refine Kd.C_drew ?_))); (case side4 => exact HC351_1.out); rintro e wt31 ⟨rfl, hb⟩; have n0_ := Aside0.mk (below_step (by repeat (first | (with_reducible first | exact HB.out | apply below_alloc | apply pw_below_drewN | apply below_drew1) | exact HB.out)) hb); clear HB; have HB := n0_; clear n0_; (try clear hb); (try clear hb2); (try clear hk); (try clear hi))))
                go_loopg [14, 15] kj21 (fun kq v14 v15 w' => ∃ (x14_2 : Int) (x15_2 : Int), v14 = .int .i64 x14_2 ∧ v15 = .int .i64 x15_2 ∧ Aside0 (cippuslaw07_tail.l0 kq x4_5 t394 t397 t401 t405 x14_2 x15_2 = some t407) ∧ Aside0 (kq ≤ kj21) ∧ Aside0 (Below w31.heap.size w31 w'))
                case atStart => exact ⟨(u352), (0), (by first | rfl | (simp; done) | (simp [*]; done)), (by first | rfl | (simp; done) | (simp [*]; done)), H', ⟨Nat.le_refl _⟩, ⟨by repeat (first | (with_reducible first | exact HB.out | apply below_alloc | apply pw_below_drewN | apply below_drew1) | exact HB.out)⟩⟩
                case round => as_aux_lemma =>
                  clear H'
                  try clear c1
                  try clear c2
                  try clear p2
                  try clear c3
                  try clear p3
                  try clear q3
                  try clear hx3
                  try clear qi3
                  try clear co27
                  try clear p6
                  try clear co32
                  try clear co33
                  try clear c9
                  try clear co34
                  try clear c15
                  try clear c15b0
                  try clear c15b1
                  try clear c15b2
                  try clear c16
                  try clear c16b0
                  try clear c16b1
                  try clear c17
                  try clear c17b0
                  try clear c17b1
                  try clear c18
                  try clear c18b0
                  try clear c18b1
                  try clear c19
                  try clear c19b0
                  try clear c19b1
                  try clear c23
                  try clear c23b0
                  try clear c23b1
                  try clear c24
                  try clear c24b0
                  try clear c24b1
                  try clear c25
                  try clear c25b0
                  try clear c25b1
                  try clear c26
                  try clear c26b0
                  try clear c26b1
                  try clear c26b2
                  try clear c27
                  try clear c27b0
                  try clear c27b1
                  try clear c28
                  try clear c29
                  try clear c29b0
                  try clear c29b1
                  try clear hx350_0
                  try clear hx350_1
                  try clear hx350_2
                  try clear hx351_0
                  try clear hx351_1
                  try clear p2
                  try clear p3
                  try clear p350
                  try clear p351
                  try clear p6
                  try clear q3
                  try clear q350
                  try clear q351
                  obtain ⟨x14_2, x15_2, rfl, rfl, HA, HK2, HB⟩ := hrel
                  cases gk with
                  | zero => exact absurd HA.out (by simp [cippuslaw07_tail.l0])
                  | succ k2 =>
                    have H := HA.out
                    clear HA
                    simp only [cippuslaw07_tail.l0] at H
                    by_cases c32 : x15_2 < (t394.length : Int)
                    · rw [if_pos c32] at H
                      have c32b0 : decide (x15_2 < (t394.length : Int)) = true := decide_eq_true c32
                      clear c32
                      by_cases c33 : 0 ≤ x15_2
                      · rw [if_pos c33] at H
                        have c33b0 : decide (0 ≤ x15_2) = true := decide_eq_true c33
                        clear c33
                        replace H := Option.bind_eq_some_iff.mp H
                        obtain ⟨u354, TA340, H⟩ := H
                        replace H : (cippuslaw07_tail.l0 k2 x4_5 t394 t397 t401 t405 (mn x14_2 u354) (wrap64 (x15_2 + 1))) = some t407 := H
                        have TA34 := Aside0.mk TA340
                        clear TA340
                        obtain ⟨ji35, hji35⟩ : ∃ j_ : Int, (mn x14_2 u354) = j_ := ⟨_, rfl⟩
                        replace H : (cippuslaw07_tail.l0 k2 x4_5 t394 t397 t401 t405 ji35 (wrap64 (x15_2 + 1))) = some t407 := by first | (rw [hji35] at H; exact H) | (simp only [hji35] at H ⊢; exact H)
                        (try rw [hji35] at TA34)
                        have hji35_ : (if u354 < x14_2 then u354 else x14_2) = ji35 := hji35
                        have H' := Aside0.mk H
                        clear H
                        have p353 : 0 ≤ (x15_2 : Int) := of_decide_eq_true (by first | (with_reducible assumption) | assumption)
                        have q353 : x15_2 < (t394.length : Int) := of_decide_eq_true (by first | (with_reducible assumption) | assumption)
                        obtain ⟨ad353, A353_1, c353_1, e353, hx353_0, hx353_1, hl353_1, hi353_1⟩ := at_T27 HR7.out x15_2 p353 q353
                        obtain rfl : ad351 = ad353 := (by injection e353)
                        try replace hx353_0 := (HB.out.cell (World.block_lt_of_cell? w31 _ hx353_0)).trans hx353_0
                        try replace hx353_1 := (HB.out.cell (World.block_lt_of_cell? w31 _ hx353_1)).trans hx353_1
                        have HR353_1 := Aside0.mk hi353_1
                        have HC353_1 := Aside0.mk hl353_1
                        clear hi353_1 hl353_1
                        replace p353 := eq_true p353
                        replace q353 := eq_true q353
                        go_wp2_with (first | (go_at_call 31; (with_reducible refine (cippuslaw07_errors.calls k2 _ _ x4_5 ((rd_T27 t394 x15_2).f0) _ _ ((rd_T27 t394 x15_2).f1) u354 _ ?side1 ?side2 ?side3 ?side4 TA34.out).mono ?_); (case side1 => repeat (first | exact (Kd.C_below HR4.out HB.out) | (with_reducible refine Kd.C_alloc ?_ _) | (with_reducible refine Kd.C_drewN ?_ _) | (with_reducible refine Kd.C_drew ?_))); (case side2 => exact HC4.out); (case side3 => repeat (first | exact (Kd.C_below HR353_1.out HB.out) | (with_reducible refine Kd.C_alloc ?_ _) | (with_reducible refine Kd.C_drewN ?_ _) | (with_reducible refine Kd.C_drew ?_))); (case side4 => exact HC353_1.out); rintro e wt36 ⟨rfl, hb⟩; have n0_ := Aside0.mk (below_step (by repeat (first | (with_reducible first | exact HB.out | apply below_alloc | apply pw_below_drewN | apply below_drew1) | exact HB.out)) hb); clear HB; have HB := n0_; clear n0_; (try clear hb); (try clear hb2); (try clear hk); (try clear hi)))
                        repeat (go_quiet (first | (go_at_call 31; (with_reducible refine (cippuslaw07_errors.calls k2 _ _ x4_5 ((rd_T27 t394 x15_2).f0) _ _ ((rd_T27 t394 x15_2).f1) u354 _ ?side1 ?side2 ?side3 ?side4 TA34.out).mono ?_); (case side1 => repeat (first | exact (Kd.C_below HR4.out HB.out) | (with_reducible refine Kd.C_alloc ?_ _) | (with_reducible refine Kd.C_drewN ?_ _) | (with_reducible refine Kd.C_drew ?_))); (case side2 => exact HC4.out); (case side3 => repeat (first | exact (Kd.C_below HR353_1.out HB.out) | (with_reducible refine Kd.C_alloc ?_ _) | (with_reducible refine Kd.C_drewN ?_ _) | (with_reducible refine Kd.C_drew ?_))); (case side4 => exact HC353_1.out); rintro e wt36 ⟨rfl, hb⟩; have n0_ := Aside0.mk (below_step (by repeat (first | (with_reducible first | exact HB.out | apply below_alloc | apply pw_below_drewN | apply below_drew1) | exact HB.out)) hb); clear HB; have HB := n0_; clear n0_; (try clear hb); (try clear hb2); (try clear hk); (try clear hi))); try go_wp2_with (first | (go_at_call 31; (with_reducible refine (cippuslaw07_errors.calls k2 _ _ x4_5 ((rd_T27 t394 x15_2).f0) _ _ ((rd_T27 t394 x15_2).f1) u354 _ ?side1 ?side2 ?side3 ?side4 TA34.out).mono ?_); (case side1 => repeat (first | exact (Kd.C_below HR4.out HB.out) | (with_reducible refine Kd.C_alloc ?_ _) | (with_reducible refine Kd.C_drewN ?_ _) | (with_reducible refine Kd.C_drew ?_))); (case side2 => exact HC4.out); (case side3 => repeat (first | exact (Kd.C_below HR353_1.out HB.out) | (with_reducible refine Kd.C_alloc ?_ _) | (with_reducible refine Kd.C_drewN ?_ _) | (with_reducible refine Kd.C_drew ?_))); (case side4 => exact HC353_1.out); rintro e wt36 ⟨rfl, hb⟩; have n0_ := Aside0.mk (below_step (by repeat (first | (with_reducible first | exact HB.out | apply below_alloc | apply pw_below_drewN | apply below_drew1) | exact HB.out)) hb); clear HB; have HB := n0_; clear n0_; (try clear hb); (try clear hb2); (try clear hk); (try clear hi))))
                        go_roundg k2
                        case measure => have := HJ21.out; have := HK2.out; omega
                        case rel => exact ⟨(ji35), (wrap64 (x15_2 + 1)), (by first | rfl | (simp; done) | (simp only [← hji35] <;> (first | rfl | simp)) | (simp [*]; done)), (by first | rfl | (simp; done) | (simp [*]; done)), H', ⟨by have := HJ21.out; have := HK2.out; omega⟩, ⟨by repeat (first | (with_reducible first | exact HB.out | apply below_alloc | apply pw_below_drewN | apply below_drew1) | exact HB.out)⟩⟩
                      · rw [if_neg c33] at H
                        exact absurd H (by simp)
                    · rw [if_neg c32] at H
                      have c32b0 : decide (x15_2 < (t394.length : Int)) = false := decide_eq_false c32
                      clear c32
                      by_cases c37 : t405 = x14_2
                      · rw [if_pos c37] at H
                        have c37b0 : (t405 == x14_2) = true := beq_iff_eq.mpr c37
                        have c37b1 : (t405 != x14_2) = false := bne_eq_false_iff_eq.mpr c37
                        clear c37
                        have H' := Aside0.mk H
                        clear H
                        go_wp2
                        repeat (go_quiet (fail); try go_wp2)
                        go_loopg [16] k2 (fun kq v16 w' => ∃ (x16_3 : Int), v16 = .int .i64 x16_3 ∧ Aside0 (cippuslaw07_tail.l1 kq x4_5 t394 t397 t401 x16_3 = some t407) ∧ Aside0 (kq ≤ k2) ∧ Aside0 (Below w31.heap.size w31 w'))
                        case atStart => exact ⟨(0), (by first | rfl | (simp; done) | (simp [*]; done)), H', ⟨Nat.le_refl _⟩, ⟨by repeat (first | (with_reducible first | exact HB.out | apply below_alloc | apply pw_below_drewN | apply below_drew1) | exact HB.out)⟩⟩
                        case round => as_aux_lemma =>
                          clear H'
                          try clear c1
                          try clear c2
                          try clear p2
                          try clear c3
                          try clear p3
                          try clear q3
                          try clear hx3
                          try clear qi3
                          try clear co27
                          try clear p6
                          try clear co32
                          try clear co33
                          try clear c9
                          try clear co34
                          try clear c15
                          try clear c15b0
                          try clear c15b1
                          try clear c15b2
                          try clear c16
                          try clear c16b0
                          try clear c16b1
                          try clear c17
                          try clear c17b0
                          try clear c17b1
                          try clear c18
                          try clear c18b0
                          try clear c18b1
                          try clear c19
                          try clear c19b0
                          try clear c19b1
                          try clear c23
                          try clear c23b0
                          try clear c23b1
                          try clear c24
                          try clear c24b0
                          try clear c24b1
                          try clear c25
                          try clear c25b0
                          try clear c25b1
                          try clear c26
                          try clear c26b0
                          try clear c26b1
                          try clear c26b2
                          try clear c27
                          try clear c27b0
                          try clear c27b1
                          try clear c28
                          try clear c29
                          try clear c29b0
                          try clear c29b1
                          try clear c32
                          try clear c32b0
                          try clear c33
                          try clear c33b0
                          try clear c35
                          try clear p35
                          try clear q35
                          try clear hx35
                          try clear qi35
                          try clear c37
                          try clear c37b0
                          try clear c37b1
                          try clear hx350_0
                          try clear hx350_1
                          try clear hx350_2
                          try clear hx351_0
                          try clear hx351_1
                          try clear hx353_0
                          try clear hx353_1
                          try clear p2
                          try clear p3
                          try clear p350
                          try clear p351
                          try clear p353
                          try clear p6
                          try clear q3
                          try clear q350
                          try clear q351
                          try clear q353
                          obtain ⟨x16_3, rfl, HA, HK3, HB⟩ := hrel
                          cases gk with
                          | zero => exact absurd HA.out (by simp [cippuslaw07_tail.l1])
                          | succ k3 =>
                            have H := HA.out
                            clear HA
                            simp only [cippuslaw07_tail.l1] at H
                            by_cases c38 : x16_3 < (x4_5.length : Int)
                            · rw [if_pos c38] at H
                              have c38b0 : decide (x16_3 < (x4_5.length : Int)) = true := decide_eq_true c38
                              clear c38
                              have H' := Aside0.mk H
                              clear H
                              go_wp2
                              repeat (go_quiet (fail); try go_wp2)
                              go_loopg [17] k3 (fun kq v17 w' => ∃ (x17_4 : Int), v17 = .int .i64 x17_4 ∧ Aside0 (cippuslaw07_tail.l2 kq x4_5 t394 t397 t401 x16_3 x17_4 = some t407) ∧ Aside0 (kq ≤ k3) ∧ Aside0 (Below w31.heap.size w31 w'))
                              case atStart => exact ⟨((-1)), (by first | rfl | (simp; done) | (simp [*]; done)), H', ⟨Nat.le_refl _⟩, ⟨by repeat (first | (with_reducible first | exact HB.out | apply below_alloc | apply pw_below_drewN | apply below_drew1) | exact HB.out)⟩⟩
                              case round => as_aux_lemma =>
                                clear H'
                                try clear c1
                                try clear c2
                                try clear p2
                                try clear c3
                                try clear p3
                                try clear q3
                                try clear hx3
                                try clear qi3
                                try clear co27
                                try clear p6
                                try clear co32
                                try clear co33
                                try clear c9
                                try clear co34
                                try clear c15
                                try clear c15b0
                                try clear c15b1
                                try clear c15b2
                                try clear c16
                                try clear c16b0
                                try clear c16b1
                                try clear c17
                                try clear c17b0
                                try clear c17b1
                                try clear c18
                                try clear c18b0
                                try clear c18b1
                                try clear c19
                                try clear c19b0
                                try clear c19b1
                                try clear c23
                                try clear c23b0
                                try clear c23b1
                                try clear c24
                                try clear c24b0
                                try clear c24b1
                                try clear c25
                                try clear c25b0
                                try clear c25b1
                                try clear c26
                                try clear c26b0
                                try clear c26b1
                                try clear c26b2
                                try clear c27
                                try clear c27b0
                                try clear c27b1
                                try clear c28
                                try clear c29
                                try clear c29b0
                                try clear c29b1
                                try clear c32
                                try clear c32b0
                                try clear c33
                                try clear c33b0
                                try clear c35
                                try clear p35
                                try clear q35
                                try clear hx35
                                try clear qi35
                                try clear c37
                                try clear c37b0
                                try clear c37b1
                                try clear c38
                                try clear c38b0
                                try clear hx350_0
                                try clear hx350_1
                                try clear hx350_2
                                try clear hx351_0
                                try clear hx351_1
                                try clear hx353_0
                                try clear hx353_1
                                try clear p2
                                try clear p3
                                try clear p35
                                try clear p350
                                try clear p351
                                try clear p353
                                try clear p6
                                try clear q3
                                try clear q35
                                try clear q350
                                try clear q351
                                try clear q353
                                obtain ⟨x17_4, rfl, HA, HK4, HB⟩ := hrel
                                cases gk with
                                | zero => exact absurd HA.out (by simp [cippuslaw07_tail.l2])
                                | succ k4 =>
                                  have H := HA.out
                                  clear HA
                                  simp only [cippuslaw07_tail.l2] at H
                                  by_cases c39 : x17_4 < x16_3
                                  · rw [if_pos c39] at H
                                    have c39b0 : decide (x17_4 < x16_3) = true := decide_eq_true c39
                                    clear c39
                                    have H' := Aside0.mk H
                                    clear H
                                    go_wp2
                                    repeat (go_quiet (fail); try go_wp2)
                                    go_loopg [18, 19] k4 (fun kq v18 v19 w' => ∃ (x18_5 : Int) (x19_5 : Int), v18 = .int .i64 x18_5 ∧ v19 = .int .i64 x19_5 ∧ Aside0 (cippuslaw07_tail.l3 kq x4_5 t394 t397 t401 x16_3 x17_4 x18_5 x19_5 = some t407) ∧ Aside0 (kq ≤ k4) ∧ Aside0 (Below w31.heap.size w31 w'))
                                    case atStart => exact ⟨(0), (0), (by first | rfl | (simp; done) | (simp [*]; done)), (by first | rfl | (simp; done) | (simp [*]; done)), H', ⟨Nat.le_refl _⟩, ⟨by repeat (first | (with_reducible first | exact HB.out | apply below_alloc | apply pw_below_drewN | apply below_drew1) | exact HB.out)⟩⟩
                                    case round => as_aux_lemma =>
                                      clear H'
                                      try clear c1
                                      try clear c2
                                      try clear p2
                                      try clear c3
                                      try clear p3
                                      try clear q3
                                      try clear hx3
                                      try clear qi3
                                      try clear co27
                                      try clear p6
                                      try clear co32
                                      try clear co33
                                      try clear c9
                                      try clear co34
                                      try clear c15
                                      try clear c15b0
                                      try clear c15b1
                                      try clear c15b2
                                      try clear c16
                                      try clear c16b0
                                      try clear c16b1
                                      try clear c17
                                      try clear c17b0
                                      try clear c17b1
                                      try clear c18
                                      try clear c18b0
                                      try clear c18b1
                                      try clear c19
                                      try clear c19b0
                                      try clear c19b1
                                      try clear c23
                                      try clear c23b0
                                      try clear c23b1
                                      try clear c24
                                      try clear c24b0
                                      try clear c24b1
                                      try clear c25
                                      try clear c25b0
                                      try clear c25b1
                                      try clear c26
                                      try clear c26b0
                                      try clear c26b1
                                      try clear c26b2
                                      try clear c27
                                      try clear c27b0
                                      try clear c27b1
                                      try clear c28
                                      try clear c29
                                      try clear c29b0
                                      try clear c29b1
                                      try clear c32
                                      try clear c32b0
                                      try clear c33
                                      try clear c33b0
                                      try clear c35
                                      try clear p35
                                      try clear q35
                                      try clear hx35
                                      try clear qi35
                                      try clear c37
                                      try clear c37b0
                                      try clear c37b1
                                      try clear c38
                                      try clear c38b0
                                      try clear c39
                                      try clear c39b0
                                      try clear hx350_0
                                      try clear hx350_1
                                      try clear hx350_2
                                      try clear hx351_0
                                      try clear hx351_1
                                      try clear hx353_0
                                      try clear hx353_1
                                      try clear p2
                                      try clear p3
                                      try clear p35
                                      try clear p350
                                      try clear p351
                                      try clear p353
                                      try clear p6
                                      try clear q3
                                      try clear q35
                                      try clear q350
                                      try clear q351
                                      try clear q353
                                      obtain ⟨x18_5, x19_5, rfl, rfl, HA, HK5, HB⟩ := hrel
                                      cases gk with
                                      | zero => exact absurd HA.out (by simp [cippuslaw07_tail.l3])
                                      | succ k5 =>
                                        have H := HA.out
                                        clear HA
                                        simp only [cippuslaw07_tail.l3] at H
                                        by_cases c40 : x19_5 < (t394.length : Int)
                                        · rw [if_pos c40] at H
                                          have c40b0 : decide (x19_5 < (t394.length : Int)) = true := decide_eq_true c40
                                          clear c40
                                          by_cases c41 : 0 ≤ x19_5
                                          · rw [if_pos c41] at H
                                            have c41b0 : decide (0 ≤ x19_5) = true := decide_eq_true c41
                                            clear c41
                                            by_cases c42 : 0 ≤ x16_3
                                            · rw [if_pos c42] at H
                                              have c42b0 : decide (0 ≤ x16_3) = true := decide_eq_true c42
                                              clear c42
                                              by_cases c43 : x16_3 < (((rd_T27 t394 x19_5).f1).length : Int)
                                              · rw [if_pos c43] at H
                                                have c43b0 : decide (x16_3 < (((rd_T27 t394 x19_5).f1).length : Int)) = true := decide_eq_true c43
                                                clear c43
                                                by_cases c44 : (rd ((rd_T27 t394 x19_5).f1) x16_3) = x17_4
                                                · rw [if_pos c44] at H
                                                  have c44b0 : ((rd ((rd_T27 t394 x19_5).f1) x16_3) == x17_4) = true := beq_iff_eq.mpr c44
                                                  have c44b1 : ((rd ((rd_T27 t394 x19_5).f1) x16_3) != x17_4) = false := bne_eq_false_iff_eq.mpr c44
                                                  clear c44
                                                  have H' := Aside0.mk H
                                                  clear H
                                                  have p355 : 0 ≤ (x19_5 : Int) := of_decide_eq_true (by first | (with_reducible assumption) | assumption)
                                                  have q355 : x19_5 < (t394.length : Int) := of_decide_eq_true (by first | (with_reducible assumption) | assumption)
                                                  obtain ⟨ad355, A355_1, c355_1, e355, hx355_0, hx355_1, hl355_1, hi355_1⟩ := at_T27 HR7.out x19_5 p355 q355
                                                  obtain rfl : ad351 = ad355 := (by injection e355)
                                                  try replace hx355_0 := (HB.out.cell (World.block_lt_of_cell? w31 _ hx355_0)).trans hx355_0
                                                  try replace hx355_1 := (HB.out.cell (World.block_lt_of_cell? w31 _ hx355_1)).trans hx355_1
                                                  have HR355_1 := Aside0.mk hi355_1
                                                  have HC355_1 := Aside0.mk hl355_1
                                                  clear hi355_1 hl355_1
                                                  replace p355 := eq_true p355
                                                  replace q355 := eq_true q355
                                                  have p356 : 0 ≤ (x16_3 : Int) := of_decide_eq_true (by first | (with_reducible assumption) | assumption)
                                                  have q356 : x16_3 < (((rd_T27 t394 x19_5).f1).length : Int) := of_decide_eq_true (by first | (with_reducible assumption) | assumption)
                                                  obtain ⟨ad356, e356, hx356_0⟩ := Kd.at_int HR355_1.out x16_3 p356 q356
                                                  cases e356
                                                  try replace hx356_0 := (HB.out.cell (World.block_lt_of_cell? w31 _ hx356_0)).trans hx356_0
                                                  replace p356 := eq_true p356
                                                  replace q356 := eq_true q356
                                                  go_wp2
                                                  repeat (go_quiet (fail); try go_wp2)
                                                  go_roundg k5
                                                  case measure => have := HJ21.out; have := HK2.out; have := HK3.out; have := HK4.out; have := HK5.out; omega
                                                  case rel => exact ⟨(wrap64 (x18_5 + 1)), (wrap64 (x19_5 + 1)), (by first | rfl | (simp; done) | (simp [*]; done)), (by first | rfl | (simp; done) | (simp [*]; done)), H', ⟨by have := HJ21.out; have := HK2.out; have := HK3.out; have := HK4.out; have := HK5.out; omega⟩, ⟨by repeat (first | (with_reducible first | exact HB.out | apply below_alloc | apply pw_below_drewN | apply below_drew1) | exact HB.out)⟩⟩
                                                · rw [if_neg c44] at H
                                                  have c44b0 : ((rd ((rd_T27 t394 x19_5).f1) x16_3) == x17_4) = false := beq_eq_false_iff_ne.mpr c44
                                                  have c44b1 : ((rd ((rd_T27 t394 x19_5).f1) x16_3) != x17_4) = true := bne_iff_ne.mpr c44
                                                  have H' := Aside0.mk H
                                                  clear H
                                                  have p355 : 0 ≤ (x19_5 : Int) := of_decide_eq_true (by first | (with_reducible assumption) | assumption)
                                                  have q355 : x19_5 < (t394.length : Int) := of_decide_eq_true (by first | (with_reducible assumption) | assumption)
                                                  obtain ⟨ad355, A355_1, c355_1, e355, hx355_0, hx355_1, hl355_1, hi355_1⟩ := at_T27 HR7.out x19_5 p355 q355
                                                  obtain rfl : ad351 = ad355 := (by injection e355)
                                                  try replace hx355_0 := (HB.out.cell (World.block_lt_of_cell? w31 _ hx355_0)).trans hx355_0
                                                  try replace hx355_1 := (HB.out.cell (World.block_lt_of_cell? w31 _ hx355_1)).trans hx355_1
                                                  have HR355_1 := Aside0.mk hi355_1
                                                  have HC355_1 := Aside0.mk hl355_1
                                                  clear hi355_1 hl355_1
                                                  replace p355 := eq_true p355
                                                  replace q355 := eq_true q355
                                                  have p356 : 0 ≤ (x16_3 : Int) := of_decide_eq_true (by first | (with_reducible assumption) | assumption)
                                                  have q356 : x16_3 < (((rd_T27 t394 x19_5).f1).length : Int) := of_decide_eq_true (by first | (with_reducible assumption) | assumption)
                                                  obtain ⟨ad356, e356, hx356_0⟩ := Kd.at_int HR355_1.out x16_3 p356 q356
                                                  cases e356
                                                  try replace hx356_0 := (HB.out.cell (World.block_lt_of_cell? w31 _ hx356_0)).trans hx356_0
                                                  replace p356 := eq_true p356
                                                  replace q356 := eq_true q356
                                                  go_wp2
                                                  repeat (go_quiet (fail); try go_wp2)
                                                  go_roundg k5
                                                  case measure => have := HJ21.out; have := HK2.out; have := HK3.out; have := HK4.out; have := HK5.out; omega
                                                  case rel => exact ⟨(x18_5), (wrap64 (x19_5 + 1)), (by first | rfl | (simp; done) | (simp [*]; done)), (by first | rfl | (simp; done) | (simp [*]; done)), H', ⟨by have := HJ21.out; have := HK2.out; have := HK3.out; have := HK4.out; have := HK5.out; omega⟩, ⟨by repeat (first | (with_reducible first | exact HB.out | apply below_alloc | apply pw_below_drewN | apply below_drew1) | exact HB.out)⟩⟩
                                              · rw [if_neg c43] at H
                                                exact absurd H (by simp)
                                            · rw [if_neg c42] at H
                                              exact absurd H (by simp)
                                          · rw [if_neg c41] at H
                                            exact absurd H (by simp)
                                        · rw [if_neg c40] at H
                                          have c40b0 : decide (x19_5 < (t394.length : Int)) = false := decide_eq_false c40
                                          clear c40
                                          by_cases c45 : 0 ≤ x16_3
                                          · rw [if_pos c45] at H
                                            have c45b0 : decide (0 ≤ x16_3) = true := decide_eq_true c45
                                            clear c45
                                            by_cases c46 : x16_3 < (t397.length : Int)
                                            · rw [if_pos c46] at H
                                              have c46b0 : decide (x16_3 < (t397.length : Int)) = true := decide_eq_true c46
                                              clear c46
                                              by_cases c47 : ((rd_L4 t397 x16_3).length : Int) = (wrap64 (x16_3 + 1))
                                              · rw [if_pos c47] at H
                                                have c47b0 : (((rd_L4 t397 x16_3).length : Int) == (wrap64 (x16_3 + 1))) = true := beq_iff_eq.mpr c47
                                                have c47b1 : (((rd_L4 t397 x16_3).length : Int) != (wrap64 (x16_3 + 1))) = false := bne_eq_false_iff_eq.mpr c47
                                                clear c47
                                                obtain ⟨ji48, hji48⟩ : ∃ j_ : Int, (wrap64 (x17_4 + 1)) = j_ := ⟨_, rfl⟩
                                                replace H : (if 0 ≤ (ji48) then (if (ji48) < ((rd_L4 t397 x16_3).length : Int) then ((cippuslaw07_said.f x18_5 (t394.length : Int)).bind fun u360 => (if (rd (rd_L4 t397 x16_3) (ji48)) = u360 then (cippuslaw07_tail.l2 k5 x4_5 t394 t397 t401 x16_3 ji48) else (some false))) else (none)) else (none)) = some t407 := by first | (rw [hji48] at H; exact H) | (simp only [hji48] at H ⊢; exact H)
                                                have hji48w : (IntKind.i64.wrap (x17_4 + 1)) = ji48 := (i64_w _).trans hji48
                                                by_cases c49 : 0 ≤ (ji48)
                                                · rw [if_pos c49] at H
                                                  have c49b0 : decide (0 ≤ (ji48)) = true := decide_eq_true c49
                                                  clear c49
                                                  by_cases c50 : (ji48) < ((rd_L4 t397 x16_3).length : Int)
                                                  · rw [if_pos c50] at H
                                                    have c50b0 : decide ((ji48) < ((rd_L4 t397 x16_3).length : Int)) = true := decide_eq_true c50
                                                    clear c50
                                                    replace H := Option.bind_eq_some_iff.mp H
                                                    obtain ⟨u360, TA510, H⟩ := H
                                                    replace H : (if (rd (rd_L4 t397 x16_3) (ji48)) = u360 then (cippuslaw07_tail.l2 k5 x4_5 t394 t397 t401 x16_3 ji48) else (some false)) = some t407 := H
                                                    have TA51 := Aside0.mk TA510
                                                    clear TA510
                                                    by_cases c52 : (rd (rd_L4 t397 x16_3) (ji48)) = u360
                                                    · rw [if_pos c52] at H
                                                      have c52b0 : ((rd (rd_L4 t397 x16_3) (ji48)) == u360) = true := beq_iff_eq.mpr c52
                                                      have c52b1 : ((rd (rd_L4 t397 x16_3) (ji48)) != u360) = false := bne_eq_false_iff_eq.mpr c52
                                                      clear c52
                                                      have H' := Aside0.mk H
                                                      clear H
                                                      have p357 : 0 ≤ (x16_3 : Int) := of_decide_eq_true (by first | (with_reducible assumption) | assumption)
                                                      have q357 : x16_3 < (t397.length : Int) := of_decide_eq_true (by first | (with_reducible assumption) | assumption)
                                                      obtain ⟨ad357, A357_0, c357_0, e357, hx357_0, hl357_0, hi357_0⟩ := at_L4 HR8.out x16_3 p357 q357
                                                      cases e357
                                                      try replace hx357_0 := (HB.out.cell (World.block_lt_of_cell? w31 _ hx357_0)).trans hx357_0
                                                      have HR357_0 := Aside0.mk hi357_0
                                                      have HC357_0 := Aside0.mk hl357_0
                                                      clear hi357_0 hl357_0
                                                      replace p357 := eq_true p357
                                                      replace q357 := eq_true q357
                                                      have p358 : 0 ≤ (x16_3 : Int) := of_decide_eq_true (by first | (with_reducible assumption) | assumption)
                                                      have q358 : x16_3 < (t397.length : Int) := of_decide_eq_true (by first | (with_reducible assumption) | assumption)
                                                      obtain ⟨ad358, A358_0, c358_0, e358, hx358_0, hl358_0, hi358_0⟩ := at_L4 HR8.out x16_3 p358 q358
                                                      obtain rfl : ad357 = ad358 := (by injection e358)
                                                      try replace hx358_0 := (HB.out.cell (World.block_lt_of_cell? w31 _ hx358_0)).trans hx358_0
                                                      have HR358_0 := Aside0.mk hi358_0
                                                      have HC358_0 := Aside0.mk hl358_0
                                                      clear hi358_0 hl358_0
                                                      replace p358 := eq_true p358
                                                      replace q358 := eq_true q358
                                                      have ea_ := Option.some.inj (hx357_0.symm.trans hx358_0)
                                                      injection ea_ with ea_ en_ ec_
                                                      subst ea_
                                                      subst ec_
                                                      clear en_
                                                      have p359 : 0 ≤ ((ji48) : Int) := of_decide_eq_true (by first | (with_reducible assumption) | assumption)
                                                      have q359 : (ji48) < ((rd_L4 t397 x16_3).length : Int) := of_decide_eq_true (by first | (with_reducible assumption) | assumption)
                                                      obtain ⟨ad359, e359, hx359_0⟩ := Kd.at_int HR358_0.out (ji48) p359 q359
                                                      cases e359
                                                      try replace hx359_0 := (HB.out.cell (World.block_lt_of_cell? w31 _ hx359_0)).trans hx359_0
                                                      replace p359 := eq_true p359
                                                      replace q359 := eq_true q359
                                                      go_wp2_with (first | (go_at_call 32; (with_reducible refine (cippuslaw07_said.calls x18_5 (t394.length : Int) u360 _ TA51.out).mono ?_); rintro e w' ⟨rfl, ⟨nd, rfl⟩⟩; (try first | exact ⟨rfl, _, World.drewN_drewN _ _ _⟩ | exact ⟨rfl, _, Eq.trans (World.drewN_drewN _ _ _) (congrArg (World.drewN _) (Nat.add_assoc _ _ _))⟩)))
                                                      repeat (go_quiet (first | (go_at_call 32; (with_reducible refine (cippuslaw07_said.calls x18_5 (t394.length : Int) u360 _ TA51.out).mono ?_); rintro e w' ⟨rfl, ⟨nd, rfl⟩⟩; (try first | exact ⟨rfl, _, World.drewN_drewN _ _ _⟩ | exact ⟨rfl, _, Eq.trans (World.drewN_drewN _ _ _) (congrArg (World.drewN _) (Nat.add_assoc _ _ _))⟩))); try go_wp2_with (first | (go_at_call 32; (with_reducible refine (cippuslaw07_said.calls x18_5 (t394.length : Int) u360 _ TA51.out).mono ?_); rintro e w' ⟨rfl, ⟨nd, rfl⟩⟩; (try first | exact ⟨rfl, _, World.drewN_drewN _ _ _⟩ | exact ⟨rfl, _, Eq.trans (World.drewN_drewN _ _ _) (congrArg (World.drewN _) (Nat.add_assoc _ _ _))⟩))))
                                                      go_roundg k5
                                                      case measure => have := HJ21.out; have := HK2.out; have := HK3.out; have := HK4.out; have := HK5.out; omega
                                                      case rel => exact ⟨(ji48), (by first | rfl | (simp; done) | (simp only [← hji48] <;> (first | rfl | simp)) | (simp [*]; done)), H', ⟨by have := HJ21.out; have := HK2.out; have := HK3.out; have := HK4.out; have := HK5.out; omega⟩, ⟨by repeat (first | (with_reducible first | exact HB.out | apply below_alloc | apply pw_below_drewN | apply below_drew1) | exact HB.out)⟩⟩
                                                    · rw [if_neg c52] at H
                                                      have c52b0 : ((rd (rd_L4 t397 x16_3) (ji48)) == u360) = false := beq_eq_false_iff_ne.mpr c52
                                                      have c52b1 : ((rd (rd_L4 t397 x16_3) (ji48)) != u360) = true := bne_iff_ne.mpr c52
                                                      obtain rfl := Option.some.inj H
                                                      have p357 : 0 ≤ (x16_3 : Int) := of_decide_eq_true (by first | (with_reducible assumption) | assumption)
                                                      have q357 : x16_3 < (t397.length : Int) := of_decide_eq_true (by first | (with_reducible assumption) | assumption)
                                                      obtain ⟨ad357, A357_0, c357_0, e357, hx357_0, hl357_0, hi357_0⟩ := at_L4 HR8.out x16_3 p357 q357
                                                      cases e357
                                                      try replace hx357_0 := (HB.out.cell (World.block_lt_of_cell? w31 _ hx357_0)).trans hx357_0
                                                      have HR357_0 := Aside0.mk hi357_0
                                                      have HC357_0 := Aside0.mk hl357_0
                                                      clear hi357_0 hl357_0
                                                      replace p357 := eq_true p357
                                                      replace q357 := eq_true q357
                                                      have p358 : 0 ≤ (x16_3 : Int) := of_decide_eq_true (by first | (with_reducible assumption) | assumption)
                                                      have q358 : x16_3 < (t397.length : Int) := of_decide_eq_true (by first | (with_reducible assumption) | assumption)
                                                      obtain ⟨ad358, A358_0, c358_0, e358, hx358_0, hl358_0, hi358_0⟩ := at_L4 HR8.out x16_3 p358 q358
                                                      obtain rfl : ad357 = ad358 := (by injection e358)
                                                      try replace hx358_0 := (HB.out.cell (World.block_lt_of_cell? w31 _ hx358_0)).trans hx358_0
                                                      have HR358_0 := Aside0.mk hi358_0
                                                      have HC358_0 := Aside0.mk hl358_0
                                                      clear hi358_0 hl358_0
                                                      replace p358 := eq_true p358
                                                      replace q358 := eq_true q358
                                                      have ea_ := Option.some.inj (hx357_0.symm.trans hx358_0)
                                                      injection ea_ with ea_ en_ ec_
                                                      subst ea_
                                                      subst ec_
                                                      clear en_
                                                      have p359 : 0 ≤ ((ji48) : Int) := of_decide_eq_true (by first | (with_reducible assumption) | assumption)
                                                      have q359 : (ji48) < ((rd_L4 t397 x16_3).length : Int) := of_decide_eq_true (by first | (with_reducible assumption) | assumption)
                                                      obtain ⟨ad359, e359, hx359_0⟩ := Kd.at_int HR358_0.out (ji48) p359 q359
                                                      cases e359
                                                      try replace hx359_0 := (HB.out.cell (World.block_lt_of_cell? w31 _ hx359_0)).trans hx359_0
                                                      replace p359 := eq_true p359
                                                      replace q359 := eq_true q359
                                                      go_wp2_with (first | (go_at_call 32; (with_reducible refine (cippuslaw07_said.calls x18_5 (t394.length : Int) u360 _ TA51.out).mono ?_); rintro e w' ⟨rfl, ⟨nd, rfl⟩⟩; (try first | exact ⟨rfl, _, World.drewN_drewN _ _ _⟩ | exact ⟨rfl, _, Eq.trans (World.drewN_drewN _ _ _) (congrArg (World.drewN _) (Nat.add_assoc _ _ _))⟩)))
                                                      repeat (go_quiet (first | (go_at_call 32; (with_reducible refine (cippuslaw07_said.calls x18_5 (t394.length : Int) u360 _ TA51.out).mono ?_); rintro e w' ⟨rfl, ⟨nd, rfl⟩⟩; (try first | exact ⟨rfl, _, World.drewN_drewN _ _ _⟩ | exact ⟨rfl, _, Eq.trans (World.drewN_drewN _ _ _) (congrArg (World.drewN _) (Nat.add_assoc _ _ _))⟩))); try go_wp2_with (first | (go_at_call 32; (with_reducible refine (cippuslaw07_said.calls x18_5 (t394.length : Int) u360 _ TA51.out).mono ?_); rintro e w' ⟨rfl, ⟨nd, rfl⟩⟩; (try first | exact ⟨rfl, _, World.drewN_drewN _ _ _⟩ | exact ⟨rfl, _, Eq.trans (World.drewN_drewN _ _ _) (congrArg (World.drewN _) (Nat.add_assoc _ _ _))⟩))))
                                                      go_ret
                                                      exact ⟨by first | rfl | (simp [errW_none, errW_some] <;> rfl) | (simp [*, errW_none, errW_some] <;> rfl), below_step HBw.out (by repeat (first | (with_reducible first | exact HB.out | apply below_alloc | apply pw_below_drewN | apply below_drew1) | exact HB.out))⟩
                                                  · rw [if_neg c50] at H
                                                    exact absurd H (by simp)
                                                · rw [if_neg c49] at H
                                                  exact absurd H (by simp)
                                              · rw [if_neg c47] at H
                                                have c47b0 : (((rd_L4 t397 x16_3).length : Int) == (wrap64 (x16_3 + 1))) = false := beq_eq_false_iff_ne.mpr c47
                                                have c47b1 : (((rd_L4 t397 x16_3).length : Int) != (wrap64 (x16_3 + 1))) = true := bne_iff_ne.mpr c47
                                                obtain rfl := Option.some.inj H
                                                have p357 : 0 ≤ (x16_3 : Int) := of_decide_eq_true (by first | (with_reducible assumption) | assumption)
                                                have q357 : x16_3 < (t397.length : Int) := of_decide_eq_true (by first | (with_reducible assumption) | assumption)
                                                obtain ⟨ad357, A357_0, c357_0, e357, hx357_0, hl357_0, hi357_0⟩ := at_L4 HR8.out x16_3 p357 q357
                                                cases e357
                                                try replace hx357_0 := (HB.out.cell (World.block_lt_of_cell? w31 _ hx357_0)).trans hx357_0
                                                have HR357_0 := Aside0.mk hi357_0
                                                have HC357_0 := Aside0.mk hl357_0
                                                clear hi357_0 hl357_0
                                                replace p357 := eq_true p357
                                                replace q357 := eq_true q357
                                                go_wp2
                                                repeat (go_quiet (fail); try go_wp2)
                                                go_ret
                                                exact ⟨by first | rfl | (simp [errW_none, errW_some] <;> rfl) | (simp [*, errW_none, errW_some] <;> rfl), below_step HBw.out (by repeat (first | (with_reducible first | exact HB.out | apply below_alloc | apply pw_below_drewN | apply below_drew1) | exact HB.out))⟩
                                            · rw [if_neg c46] at H
                                              exact absurd H (by simp)
                                          · rw [if_neg c45] at H
                                            exact absurd H (by simp)
                                  · rw [if_neg c39] at H
                                    have c39b0 : decide (x17_4 < x16_3) = false := decide_eq_false c39
                                    clear c39
                                    have H' := Aside0.mk H
                                    clear H
                                    go_wp2
                                    repeat (go_quiet (fail); try go_wp2)
                                    go_roundg k4
                                    case measure => have := HJ21.out; have := HK2.out; have := HK3.out; have := HK4.out; omega
                                    case rel => exact ⟨(wrap64 (x16_3 + 1)), (by first | rfl | (simp; done) | (simp [*]; done)), H', ⟨by have := HJ21.out; have := HK2.out; have := HK3.out; have := HK4.out; omega⟩, ⟨by repeat (first | (with_reducible first | exact HB.out | apply below_alloc | apply pw_below_drewN | apply below_drew1) | exact HB.out)⟩⟩
                            · rw [if_neg c38] at H
                              have c38b0 : decide (x16_3 < (x4_5.length : Int)) = false := decide_eq_false c38
                              clear c38
                              have H' := Aside0.mk H
                              clear H
                              go_wp2
                              repeat (go_quiet (fail); try go_wp2)
                              go_loopg [20] k3 (fun kq v20 w' => ∃ (x20_4 : Int), v20 = .int .i64 x20_4 ∧ Aside0 (cippuslaw07_tail.l4 kq t394 t401 x20_4 = some t407) ∧ Aside0 (kq ≤ k3) ∧ Aside0 (Below w31.heap.size w31 w'))
                              case atStart => exact ⟨(0), (by first | rfl | (simp; done) | (simp [*]; done)), H', ⟨Nat.le_refl _⟩, ⟨by repeat (first | (with_reducible first | exact HB.out | apply below_alloc | apply pw_below_drewN | apply below_drew1) | exact HB.out)⟩⟩
                              case round => as_aux_lemma =>
                                clear H'
                                try clear c1
                                try clear c2
                                try clear p2
                                try clear c3
                                try clear p3
                                try clear q3
                                try clear hx3
                                try clear qi3
                                try clear co27
                                try clear c5
                                try clear p6
                                try clear co32
                                try clear co33
                                try clear c9
                                try clear co34
                                try clear c15
                                try clear c15b0
                                try clear c15b1
                                try clear c15b2
                                try clear c16
                                try clear c16b0
                                try clear c16b1
                                try clear c17
                                try clear c17b0
                                try clear c17b1
                                try clear c18
                                try clear c18b0
                                try clear c18b1
                                try clear c19
                                try clear c19b0
                                try clear c19b1
                                try clear c23
                                try clear c23b0
                                try clear c23b1
                                try clear c24
                                try clear c24b0
                                try clear c24b1
                                try clear c25
                                try clear c25b0
                                try clear c25b1
                                try clear c26
                                try clear c26b0
                                try clear c26b1
                                try clear c26b2
                                try clear c27
                                try clear c27b0
                                try clear c27b1
                                try clear c28
                                try clear c29
                                try clear c29b0
                                try clear c29b1
                                try clear c32
                                try clear c32b0
                                try clear c33
                                try clear c33b0
                                try clear c35
                                try clear p35
                                try clear q35
                                try clear hx35
                                try clear qi35
                                try clear c37
                                try clear c37b0
                                try clear c37b1
                                try clear c38
                                try clear c38b0
                                try clear c39
                                try clear c39b0
                                try clear c40
                                try clear c40b0
                                try clear c41
                                try clear c41b0
                                try clear c42
                                try clear c42b0
                                try clear c43
                                try clear c43b0
                                try clear c44
                                try clear c44b0
                                try clear c44b1
                                try clear c45
                                try clear c45b0
                                try clear c46
                                try clear c46b0
                                try clear c47
                                try clear c47b0
                                try clear c47b1
                                try clear c49
                                try clear c49b0
                                try clear c50
                                try clear c50b0
                                try clear c52
                                try clear c52b0
                                try clear c52b1
                                try clear hx350_0
                                try clear hx350_1
                                try clear hx350_2
                                try clear hx351_0
                                try clear hx351_1
                                try clear hx353_0
                                try clear hx353_1
                                try clear hx355_0
                                try clear hx355_1
                                try clear hx356_0
                                try clear hx357_0
                                try clear hx358_0
                                try clear hx359_0
                                try clear p2
                                try clear p3
                                try clear p35
                                try clear p350
                                try clear p351
                                try clear p353
                                try clear p355
                                try clear p356
                                try clear p357
                                try clear p358
                                try clear p359
                                try clear p6
                                try clear q3
                                try clear q35
                                try clear q350
                                try clear q351
                                try clear q353
                                try clear q355
                                try clear q356
                                try clear q357
                                try clear q358
                                try clear q359
                                obtain ⟨x20_4, rfl, HA, HK4, HB⟩ := hrel
                                cases gk with
                                | zero => exact absurd HA.out (by simp [cippuslaw07_tail.l4])
                                | succ k4 =>
                                  have H := HA.out
                                  clear HA
                                  simp only [cippuslaw07_tail.l4] at H
                                  by_cases c53 : x20_4 < (t401.length : Int)
                                  · rw [if_pos c53] at H
                                    have c53b0 : decide (x20_4 < (t401.length : Int)) = true := decide_eq_true c53
                                    clear c53
                                    have H' := Aside0.mk H
                                    clear H
                                    go_wp2
                                    repeat (go_quiet (fail); try go_wp2)
                                    go_loopg [21] k4 (fun kq v21 w' => ∃ (x21_5 : Int), v21 = .int .u8 x21_5 ∧ Aside0 (cippuslaw07_tail.l5 kq t394 t401 x20_4 x21_5 = some t407) ∧ Aside0 (kq ≤ k4) ∧ Aside0 (Below w31.heap.size w31 w'))
                                    case atStart => exact ⟨(65), (by first | rfl | (simp; done) | (simp [*]; done)), H', ⟨Nat.le_refl _⟩, ⟨by repeat (first | (with_reducible first | exact HB.out | apply below_alloc | apply pw_below_drewN | apply below_drew1) | exact HB.out)⟩⟩
                                    case round => as_aux_lemma =>
                                      clear H'
                                      try clear c1
                                      try clear c2
                                      try clear p2
                                      try clear c3
                                      try clear p3
                                      try clear q3
                                      try clear hx3
                                      try clear qi3
                                      try clear co27
                                      try clear c5
                                      try clear p6
                                      try clear co32
                                      try clear co33
                                      try clear c9
                                      try clear co34
                                      try clear c15
                                      try clear c15b0
                                      try clear c15b1
                                      try clear c15b2
                                      try clear c16
                                      try clear c16b0
                                      try clear c16b1
                                      try clear c17
                                      try clear c17b0
                                      try clear c17b1
                                      try clear c18
                                      try clear c18b0
                                      try clear c18b1
                                      try clear c19
                                      try clear c19b0
                                      try clear c19b1
                                      try clear c23
                                      try clear c23b0
                                      try clear c23b1
                                      try clear c24
                                      try clear c24b0
                                      try clear c24b1
                                      try clear c25
                                      try clear c25b0
                                      try clear c25b1
                                      try clear c26
                                      try clear c26b0
                                      try clear c26b1
                                      try clear c26b2
                                      try clear c27
                                      try clear c27b0
                                      try clear c27b1
                                      try clear c28
                                      try clear c29
                                      try clear c29b0
                                      try clear c29b1
                                      try clear c32
                                      try clear c32b0
                                      try clear c33
                                      try clear c33b0
                                      try clear c35
                                      try clear p35
                                      try clear q35
                                      try clear hx35
                                      try clear qi35
                                      try clear c37
                                      try clear c37b0
                                      try clear c37b1
                                      try clear c38
                                      try clear c38b0
                                      try clear c39
                                      try clear c39b0
                                      try clear c40
                                      try clear c40b0
                                      try clear c41
                                      try clear c41b0
                                      try clear c42
                                      try clear c42b0
                                      try clear c43
                                      try clear c43b0
                                      try clear c44
                                      try clear c44b0
                                      try clear c44b1
                                      try clear c45
                                      try clear c45b0
                                      try clear c46
                                      try clear c46b0
                                      try clear c47
                                      try clear c47b0
                                      try clear c47b1
                                      try clear c49
                                      try clear c49b0
                                      try clear c50
                                      try clear c50b0
                                      try clear c52
                                      try clear c52b0
                                      try clear c52b1
                                      try clear c53
                                      try clear c53b0
                                      try clear hx350_0
                                      try clear hx350_1
                                      try clear hx350_2
                                      try clear hx351_0
                                      try clear hx351_1
                                      try clear hx353_0
                                      try clear hx353_1
                                      try clear hx355_0
                                      try clear hx355_1
                                      try clear hx356_0
                                      try clear hx357_0
                                      try clear hx358_0
                                      try clear hx359_0
                                      try clear p2
                                      try clear p3
                                      try clear p35
                                      try clear p350
                                      try clear p351
                                      try clear p353
                                      try clear p355
                                      try clear p356
                                      try clear p357
                                      try clear p358
                                      try clear p359
                                      try clear p6
                                      try clear q3
                                      try clear q35
                                      try clear q350
                                      try clear q351
                                      try clear q353
                                      try clear q355
                                      try clear q356
                                      try clear q357
                                      try clear q358
                                      try clear q359
                                      obtain ⟨x21_5, rfl, HA, HK5, HB⟩ := hrel
                                      cases gk with
                                      | zero => exact absurd HA.out (by simp [cippuslaw07_tail.l5])
                                      | succ k5 =>
                                        have H := HA.out
                                        clear HA
                                        simp only [cippuslaw07_tail.l5] at H
                                        by_cases c54 : x21_5 ≤ 90
                                        · rw [if_pos c54] at H
                                          have c54b0 : decide (x21_5 ≤ 90) = true := decide_eq_true c54
                                          clear c54
                                          have H' := Aside0.mk H
                                          clear H
                                          go_wp2
                                          repeat (go_quiet (fail); try go_wp2)
                                          go_loopg [22, 23] k5 (fun kq v22 v23 w' => ∃ (x22_6 : Bool) (x23_6 : Int), v22 = .bool x22_6 ∧ v23 = .int .i64 x23_6 ∧ Aside0 (cippuslaw07_tail.l6 kq t394 t401 x20_4 x21_5 x22_6 x23_6 = some t407) ∧ Aside0 (kq ≤ k5) ∧ Aside0 (Below w31.heap.size w31 w'))
                                          case atStart => exact ⟨(false), (0), (by first | rfl | (simp; done) | (simp [*]; done)), (by first | rfl | (simp; done) | (simp [*]; done)), H', ⟨Nat.le_refl _⟩, ⟨by repeat (first | (with_reducible first | exact HB.out | apply below_alloc | apply pw_below_drewN | apply below_drew1) | exact HB.out)⟩⟩
                                          case round => as_aux_lemma =>
                                            clear H'
                                            try clear c1
                                            try clear c2
                                            try clear p2
                                            try clear c3
                                            try clear p3
                                            try clear q3
                                            try clear hx3
                                            try clear qi3
                                            try clear co27
                                            try clear c5
                                            try clear p6
                                            try clear co32
                                            try clear co33
                                            try clear c9
                                            try clear co34
                                            try clear c15
                                            try clear c15b0
                                            try clear c15b1
                                            try clear c15b2
                                            try clear c16
                                            try clear c16b0
                                            try clear c16b1
                                            try clear c17
                                            try clear c17b0
                                            try clear c17b1
                                            try clear c18
                                            try clear c18b0
                                            try clear c18b1
                                            try clear c19
                                            try clear c19b0
                                            try clear c19b1
                                            try clear c23
                                            try clear c23b0
                                            try clear c23b1
                                            try clear c24
                                            try clear c24b0
                                            try clear c24b1
                                            try clear c25
                                            try clear c25b0
                                            try clear c25b1
                                            try clear c26
                                            try clear c26b0
                                            try clear c26b1
                                            try clear c26b2
                                            try clear c27
                                            try clear c27b0
                                            try clear c27b1
                                            try clear c28
                                            try clear c29
                                            try clear c29b0
                                            try clear c29b1
                                            try clear c32
                                            try clear c32b0
                                            try clear c33
                                            try clear c33b0
                                            try clear c35
                                            try clear p35
                                            try clear q35
                                            try clear hx35
                                            try clear qi35
                                            try clear c37
                                            try clear c37b0
                                            try clear c37b1
                                            try clear c38
                                            try clear c38b0
                                            try clear c39
                                            try clear c39b0
                                            try clear c40
                                            try clear c40b0
                                            try clear c41
                                            try clear c41b0
                                            try clear c42
                                            try clear c42b0
                                            try clear c43
                                            try clear c43b0
                                            try clear c44
                                            try clear c44b0
                                            try clear c44b1
                                            try clear c45
                                            try clear c45b0
                                            try clear c46
                                            try clear c46b0
                                            try clear c47
                                            try clear c47b0
                                            try clear c47b1
                                            try clear c49
                                            try clear c49b0
                                            try clear c50
                                            try clear c50b0
                                            try clear c52
                                            try clear c52b0
                                            try clear c52b1
                                            try clear c53
                                            try clear c53b0
                                            try clear c54
                                            try clear c54b0
                                            try clear hx350_0
                                            try clear hx350_1
                                            try clear hx350_2
                                            try clear hx351_0
                                            try clear hx351_1
                                            try clear hx353_0
                                            try clear hx353_1
                                            try clear hx355_0
                                            try clear hx355_1
                                            try clear hx356_0
                                            try clear hx357_0
                                            try clear hx358_0
                                            try clear hx359_0
                                            try clear p2
                                            try clear p3
                                            try clear p35
                                            try clear p350
                                            try clear p351
                                            try clear p353
                                            try clear p355
                                            try clear p356
                                            try clear p357
                                            try clear p358
                                            try clear p359
                                            try clear p6
                                            try clear q3
                                            try clear q35
                                            try clear q350
                                            try clear q351
                                            try clear q353
                                            try clear q355
                                            try clear q356
                                            try clear q357
                                            try clear q358
                                            try clear q359
                                            obtain ⟨x22_6, x23_6, rfl, rfl, HA, HK6, HB⟩ := hrel
                                            cases gk with
                                            | zero => exact absurd HA.out (by simp [cippuslaw07_tail.l6])
                                            | succ k6 =>
                                              have H := HA.out
                                              clear HA
                                              simp only [cippuslaw07_tail.l6] at H
                                              by_cases c55 : x23_6 < (t394.length : Int)
                                              · rw [if_pos c55] at H
                                                have c55b0 : decide (x23_6 < (t394.length : Int)) = true := decide_eq_true c55
                                                clear c55
                                                by_cases c56 : x22_6 = true
                                                · subst c56
                                                  have H1 : (cippuslaw07_tail.l6 k6 t394 t401 x20_4 x21_5 true (wrap64 (x23_6 + 1))) = some t407 := by rw [if_pos rfl] at H; exact H
                                                  clear H
                                                  have H := H1
                                                  clear H1
                                                  have H' := Aside0.mk H
                                                  clear H
                                                  go_wp2
                                                  repeat (go_quiet (fail); try go_wp2)
                                                  go_roundg k6
                                                  case measure => have := HJ21.out; have := HK2.out; have := HK3.out; have := HK4.out; have := HK5.out; have := HK6.out; omega
                                                  case rel => exact ⟨(true), (wrap64 (x23_6 + 1)), (by first | rfl | (simp; done) | (simp [*]; done)), (by first | rfl | (simp; done) | (simp [*]; done)), H', ⟨by have := HJ21.out; have := HK2.out; have := HK3.out; have := HK4.out; have := HK5.out; have := HK6.out; omega⟩, ⟨by repeat (first | (with_reducible first | exact HB.out | apply below_alloc | apply pw_below_drewN | apply below_drew1) | exact HB.out)⟩⟩
                                                · replace c56 := Bool.eq_false_iff.mpr c56
                                                  subst c56
                                                  have H1 : (if 0 ≤ x23_6 then (if 0 ≤ x20_4 then (if x20_4 < (((rd_T27 t394 x23_6).f0).size : Int) then (cippuslaw07_tail.l6 k6 t394 t401 x20_4 x21_5 ((bt ((rd_T27 t394 x23_6).f0) x20_4) == (mn x21_5 68)) (wrap64 (x23_6 + 1))) else (none)) else (none)) else (none)) = some t407 := by rw [if_neg (show ¬ (false = true) by decide)] at H; exact H
                                                  clear H
                                                  have H := H1
                                                  clear H1
                                                  by_cases c57 : 0 ≤ x23_6
                                                  · rw [if_pos c57] at H
                                                    have c57b0 : decide (0 ≤ x23_6) = true := decide_eq_true c57
                                                    clear c57
                                                    by_cases c58 : 0 ≤ x20_4
                                                    · rw [if_pos c58] at H
                                                      have c58b0 : decide (0 ≤ x20_4) = true := decide_eq_true c58
                                                      clear c58
                                                      by_cases c59 : x20_4 < (((rd_T27 t394 x23_6).f0).size : Int)
                                                      · rw [if_pos c59] at H
                                                        have c59b0 : decide (x20_4 < (((rd_T27 t394 x23_6).f0).size : Int)) = true := decide_eq_true c59
                                                        clear c59
                                                        obtain ⟨ji61, hji61⟩ : ∃ j_ : Int, (mn x21_5 68) = j_ := ⟨_, rfl⟩
                                                        replace H : (cippuslaw07_tail.l6 k6 t394 t401 x20_4 x21_5 ((bt ((rd_T27 t394 x23_6).f0) x20_4) == (ji61)) (wrap64 (x23_6 + 1))) = some t407 := by first | (rw [hji61] at H; exact H) | (simp only [hji61] at H ⊢; exact H)
                                                        have hji61_ : (if 68 < x21_5 then 68 else x21_5) = ji61 := hji61
                                                        have H' := Aside0.mk H
                                                        clear H
                                                        have p362 : 0 ≤ (x23_6 : Int) := of_decide_eq_true (by first | (with_reducible assumption) | assumption)
                                                        have q362 : x23_6 < (t394.length : Int) := of_decide_eq_true (by first | (with_reducible assumption) | assumption)
                                                        obtain ⟨ad362, A362_1, c362_1, e362, hx362_0, hx362_1, hl362_1, hi362_1⟩ := at_T27 HR7.out x23_6 p362 q362
                                                        obtain rfl : ad351 = ad362 := (by injection e362)
                                                        try replace hx362_0 := (HB.out.cell (World.block_lt_of_cell? w31 _ hx362_0)).trans hx362_0
                                                        try replace hx362_1 := (HB.out.cell (World.block_lt_of_cell? w31 _ hx362_1)).trans hx362_1
                                                        have HR362_1 := Aside0.mk hi362_1
                                                        have HC362_1 := Aside0.mk hl362_1
                                                        clear hi362_1 hl362_1
                                                        replace p362 := eq_true p362
                                                        replace q362 := eq_true q362
                                                        have p60 : 0 ≤ (x20_4 : Int) := of_decide_eq_true (by first | (with_reducible assumption) | assumption)
                                                        have q60 : x20_4 < (((rd_T27 t394 x23_6).f0).size : Int) := of_decide_eq_true (by first | (with_reducible assumption) | assumption)
                                                        have hx60 := bt_at ((rd_T27 t394 x23_6).f0) x20_4
                                                        replace p60 := eq_true p60
                                                        replace q60 := eq_true q60
                                                        go_wp2
                                                        repeat (go_quiet (fail); try go_wp2)
                                                        go_roundg k6
                                                        case measure => have := HJ21.out; have := HK2.out; have := HK3.out; have := HK4.out; have := HK5.out; have := HK6.out; omega
                                                        case rel => exact ⟨(((bt ((rd_T27 t394 x23_6).f0) x20_4) == (ji61))), (wrap64 (x23_6 + 1)), (by first | rfl | (simp; done) | (simp only [← hji61] <;> (first | rfl | simp)) | (simp [*]; done)), (by first | rfl | (simp; done) | (simp [*]; done)), H', ⟨by have := HJ21.out; have := HK2.out; have := HK3.out; have := HK4.out; have := HK5.out; have := HK6.out; omega⟩, ⟨by repeat (first | (with_reducible first | exact HB.out | apply below_alloc | apply pw_below_drewN | apply below_drew1) | exact HB.out)⟩⟩
                                                      · rw [if_neg c59] at H
                                                        exact absurd H (by simp)
                                                    · rw [if_neg c58] at H
                                                      exact absurd H (by simp)
                                                  · rw [if_neg c57] at H
                                                    exact absurd H (by simp)
                                              · rw [if_neg c55] at H
                                                have c55b0 : decide (x23_6 < (t394.length : Int)) = false := decide_eq_false c55
                                                clear c55
                                                by_cases c62 : 0 ≤ x20_4
                                                · rw [if_pos c62] at H
                                                  have c62b0 : decide (0 ≤ x20_4) = true := decide_eq_true c62
                                                  clear c62
                                                  by_cases c63 : x20_4 < (t401.length : Int)
                                                  · rw [if_pos c63] at H
                                                    have c63b0 : decide (x20_4 < (t401.length : Int)) = true := decide_eq_true c63
                                                    clear c63
                                                    replace H := Option.bind_eq_some_iff.mp H
                                                    obtain ⟨u364, TA640, H⟩ := H
                                                    replace H : (if (u364 != x22_6) = true then (some false) else (cippuslaw07_tail.l5 k6 t394 t401 x20_4 ((x21_5 + 1) % 256))) = some t407 := H
                                                    have TA64 := Aside0.mk TA640
                                                    clear TA640
                                                    by_cases c65 : (u364 != x22_6) = true
                                                    · rw [if_pos c65] at H
                                                      have c65b0 : (u364 != x22_6) = true := c65
                                                      (try (have c65b1 : decide (u364 = x22_6) = false := by simpa using c65))
                                                      (try (have c65b2 : (u364 == x22_6) = false := by simpa using c65))
                                                      (try (have c65b3 : ¬ (u364 = x22_6) := by simpa using c65))
                                                      clear c65
                                                      obtain rfl := Option.some.inj H
                                                      have p363 : 0 ≤ (x20_4 : Int) := of_decide_eq_true (by first | (with_reducible assumption) | assumption)
                                                      have q363 : x20_4 < (t401.length : Int) := of_decide_eq_true (by first | (with_reducible assumption) | assumption)
                                                      obtain ⟨ad363, e363, hx363_0⟩ := Kd.at_string HR10.out x20_4 p363 q363
                                                      cases e363
                                                      try replace hx363_0 := (HB.out.cell (World.block_lt_of_cell? w31 _ hx363_0)).trans hx363_0
                                                      replace p363 := eq_true p363
                                                      replace q363 := eq_true q363
                                                      go_wp2_with (first | (go_at_call 33; (with_reducible refine (cippuslaw07_has.calls k6 (rdOf ByteArray.empty t401 x20_4) x21_5 u364 _ TA64.out).mono ?_); rintro e w' ⟨rfl, ⟨nd, rfl⟩⟩; (try first | exact ⟨rfl, _, World.drewN_drewN _ _ _⟩ | exact ⟨rfl, _, Eq.trans (World.drewN_drewN _ _ _) (congrArg (World.drewN _) (Nat.add_assoc _ _ _))⟩)))
                                                      repeat (go_quiet (first | (go_at_call 33; (with_reducible refine (cippuslaw07_has.calls k6 (rdOf ByteArray.empty t401 x20_4) x21_5 u364 _ TA64.out).mono ?_); rintro e w' ⟨rfl, ⟨nd, rfl⟩⟩; (try first | exact ⟨rfl, _, World.drewN_drewN _ _ _⟩ | exact ⟨rfl, _, Eq.trans (World.drewN_drewN _ _ _) (congrArg (World.drewN _) (Nat.add_assoc _ _ _))⟩))); try go_wp2_with (first | (go_at_call 33; (with_reducible refine (cippuslaw07_has.calls k6 (rdOf ByteArray.empty t401 x20_4) x21_5 u364 _ TA64.out).mono ?_); rintro e w' ⟨rfl, ⟨nd, rfl⟩⟩; (try first | exact ⟨rfl, _, World.drewN_drewN _ _ _⟩ | exact ⟨rfl, _, Eq.trans (World.drewN_drewN _ _ _) (congrArg (World.drewN _) (Nat.add_assoc _ _ _))⟩))))
                                                      go_ret
                                                      exact ⟨by first | rfl | (simp [errW_none, errW_some] <;> rfl) | (simp [*, errW_none, errW_some] <;> rfl), below_step HBw.out (by repeat (first | (with_reducible first | exact HB.out | apply below_alloc | apply pw_below_drewN | apply below_drew1) | exact HB.out))⟩
                                                    · rw [if_neg c65] at H
                                                      have c65b0 : (u364 != x22_6) = false := by simpa using c65
                                                      (try (have c65b1 : decide (u364 = x22_6) = true := by simpa using c65))
                                                      (try (have c65b2 : (u364 == x22_6) = true := by simpa using c65))
                                                      clear c65
                                                      have H' := Aside0.mk H
                                                      clear H
                                                      have p363 : 0 ≤ (x20_4 : Int) := of_decide_eq_true (by first | (with_reducible assumption) | assumption)
                                                      have q363 : x20_4 < (t401.length : Int) := of_decide_eq_true (by first | (with_reducible assumption) | assumption)
                                                      obtain ⟨ad363, e363, hx363_0⟩ := Kd.at_string HR10.out x20_4 p363 q363
                                                      cases e363
                                                      try replace hx363_0 := (HB.out.cell (World.block_lt_of_cell? w31 _ hx363_0)).trans hx363_0
                                                      replace p363 := eq_true p363
                                                      replace q363 := eq_true q363
                                                      go_wp2_with (first | (go_at_call 33; (with_reducible refine (cippuslaw07_has.calls k6 (rdOf ByteArray.empty t401 x20_4) x21_5 u364 _ TA64.out).mono ?_); rintro e w' ⟨rfl, ⟨nd, rfl⟩⟩; (try first | exact ⟨rfl, _, World.drewN_drewN _ _ _⟩ | exact ⟨rfl, _, Eq.trans (World.drewN_drewN _ _ _) (congrArg (World.drewN _) (Nat.add_assoc _ _ _))⟩)))
                                                      repeat (go_quiet (first | (go_at_call 33; (with_reducible refine (cippuslaw07_has.calls k6 (rdOf ByteArray.empty t401 x20_4) x21_5 u364 _ TA64.out).mono ?_); rintro e w' ⟨rfl, ⟨nd, rfl⟩⟩; (try first | exact ⟨rfl, _, World.drewN_drewN _ _ _⟩ | exact ⟨rfl, _, Eq.trans (World.drewN_drewN _ _ _) (congrArg (World.drewN _) (Nat.add_assoc _ _ _))⟩))); try go_wp2_with (first | (go_at_call 33; (with_reducible refine (cippuslaw07_has.calls k6 (rdOf ByteArray.empty t401 x20_4) x21_5 u364 _ TA64.out).mono ?_); rintro e w' ⟨rfl, ⟨nd, rfl⟩⟩; (try first | exact ⟨rfl, _, World.drewN_drewN _ _ _⟩ | exact ⟨rfl, _, Eq.trans (World.drewN_drewN _ _ _) (congrArg (World.drewN _) (Nat.add_assoc _ _ _))⟩))))
                                                      go_roundg k6
                                                      case measure => have := HJ21.out; have := HK2.out; have := HK3.out; have := HK4.out; have := HK5.out; have := HK6.out; omega
                                                      case rel => exact ⟨((x21_5 + 1) % 256), (by first | rfl | (simp; done) | (simp [*]; done)), H', ⟨by have := HJ21.out; have := HK2.out; have := HK3.out; have := HK4.out; have := HK5.out; have := HK6.out; omega⟩, ⟨by repeat (first | (with_reducible first | exact HB.out | apply below_alloc | apply pw_below_drewN | apply below_drew1) | exact HB.out)⟩⟩
                                                  · rw [if_neg c63] at H
                                                    exact absurd H (by simp)
                                                · rw [if_neg c62] at H
                                                  exact absurd H (by simp)
                                        · rw [if_neg c54] at H
                                          have c54b0 : decide (x21_5 ≤ 90) = false := decide_eq_false c54
                                          clear c54
                                          have H' := Aside0.mk H
                                          clear H
                                          go_wp2
                                          repeat (go_quiet (fail); try go_wp2)
                                          go_roundg k5
                                          case measure => have := HJ21.out; have := HK2.out; have := HK3.out; have := HK4.out; have := HK5.out; omega
                                          case rel => exact ⟨(wrap64 (x20_4 + 1)), (by first | rfl | (simp; done) | (simp [*]; done)), H', ⟨by have := HJ21.out; have := HK2.out; have := HK3.out; have := HK4.out; have := HK5.out; omega⟩, ⟨by repeat (first | (with_reducible first | exact HB.out | apply below_alloc | apply pw_below_drewN | apply below_drew1) | exact HB.out)⟩⟩
                                  · rw [if_neg c53] at H
                                    have c53b0 : decide (x20_4 < (t401.length : Int)) = false := decide_eq_false c53
                                    clear c53
                                    replace H := Option.bind_eq_some_iff.mp H
                                    obtain ⟨u361, TA660, H⟩ := H
                                    replace H : (some u361) = some t407 := H
                                    have TA66 := Aside0.mk TA660
                                    clear TA660
                                    obtain rfl := Option.some.inj H
                                    go_wp2_with (first | (go_at_call 17; (with_reducible refine (cippuslaw07_found.calls k4  u361 _ TA66.out).mono ?_); rintro e wt67 ⟨rfl, hb⟩; have n0_ := Aside0.mk (below_step (by repeat (first | (with_reducible first | exact HB.out | apply below_alloc | apply pw_below_drewN | apply below_drew1) | exact HB.out)) hb); clear HB; have HB := n0_; clear n0_; (try clear hb); (try clear hb2); (try clear hk); (try clear hi)))
                                    repeat (go_quiet (first | (go_at_call 17; (with_reducible refine (cippuslaw07_found.calls k4  u361 _ TA66.out).mono ?_); rintro e wt67 ⟨rfl, hb⟩; have n0_ := Aside0.mk (below_step (by repeat (first | (with_reducible first | exact HB.out | apply below_alloc | apply pw_below_drewN | apply below_drew1) | exact HB.out)) hb); clear HB; have HB := n0_; clear n0_; (try clear hb); (try clear hb2); (try clear hk); (try clear hi))); try go_wp2_with (first | (go_at_call 17; (with_reducible refine (cippuslaw07_found.calls k4  u361 _ TA66.out).mono ?_); rintro e wt67 ⟨rfl, hb⟩; have n0_ := Aside0.mk (below_step (by repeat (first | (with_reducible first | exact HB.out | apply below_alloc | apply pw_below_drewN | apply below_drew1) | exact HB.out)) hb); clear HB; have HB := n0_; clear n0_; (try clear hb); (try clear hb2); (try clear hk); (try clear hi))))
                                    go_ret
                                    exact ⟨by first | rfl | (simp [errW_none, errW_some] <;> rfl) | (simp [*, errW_none, errW_some] <;> rfl), below_step HBw.out (by repeat (first | (with_reducible first | exact HB.out | apply below_alloc | apply pw_below_drewN | apply below_drew1) | exact HB.out))⟩
                      · rw [if_neg c37] at H
                        have c37b0 : (t405 == x14_2) = false := beq_eq_false_iff_ne.mpr c37
                        have c37b1 : (t405 != x14_2) = true := bne_iff_ne.mpr c37
                        obtain rfl := Option.some.inj H
                        go_wp2
                        repeat (go_quiet (fail); try go_wp2)
                        go_ret
                        exact ⟨by first | rfl | (simp [errW_none, errW_some] <;> rfl) | (simp [*, errW_none, errW_some] <;> rfl), below_step HBw.out (by repeat (first | (with_reducible first | exact HB.out | apply below_alloc | apply pw_below_drewN | apply below_drew1) | exact HB.out))⟩
              · rw [if_neg c29] at H
                exact absurd H (by simp)
end Go.Proofs.Ytegjollhajgcdaa.P
namespace Go.Proofs.YtegjollhajgcdaaW.PrintWords
open Go.ChangeShapes Go.WideShapes
theorem sized_ints {H : Type} {enc : TypeId × Value → H} {P : Program} {W : World} {base : Nat} {spare : Nat → Bool} {held : Bool} {t e : TypeId} {k : IntKind} {a : Option Addr} {len cap : Nat} {d : DataW H} {ps : List MemPlace} {ts : List TypeId} {ds : List (DataW H)} {j : Nat}
    (hsz : (DataW.weightsEach P ts ds).all (· ≤ reachBytes) = true) (ht : ts[j]? = some t) (hd : ds[j]? = some d) (hu : P.underlying t = some (.slice e)) (he : P.underlying e = some (.int k)) (hc : P.cellsOf e = 1) {B : Nat} (hB : P.bytesOf e = B)
    (h : DataW.Trod enc P W base spare held t (.slice a len cap) d ps) : len * B ≤ 140737488351232 := by
  obtain ⟨fuel, hf⟩ := h
  rcases open_ints hu he hc hf with ⟨hcs, _⟩ | ⟨x, l, c, zs, hcs, _, hl, _, hz, hx, _, _⟩
  · simp [Value.cells] at hcs
    obtain ⟨rfl, rfl, rfl⟩ := hcs
    simp
  · simp [Value.cells] at hcs
    obtain ⟨rfl, rfl, rfl⟩ := hcs
    obtain ⟨hx, _⟩ := Prod.mk.inj hx
    subst hx
    have z := sized_slice hsz ht hd hu
    rw [hB] at z
    have hl2 : len ≤ zs.length := by
      rw [hz]
      split
      · exact hl
      · exact Nat.le_refl _
    have h1 : (lits (H := H) k (zs.take len)).length + (lits (H := H) k (zs.drop len)).length = zs.length := by
      simp [lits]
      omega
    rw [h1] at z
    exact Nat.le_trans (Nat.mul_le_mul_right _ hl2) z
end Go.Proofs.YtegjollhajgcdaaW.PrintWords
