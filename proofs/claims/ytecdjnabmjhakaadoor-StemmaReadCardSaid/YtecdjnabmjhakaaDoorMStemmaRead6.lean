/- Lemmas for the statement StemmaRead of the given program, for every input that its row lets in. Conditions: none beyond those that each lemma tells. -/
import Derived.Lib.SplitLaws
import Derived.SizedLaws
import Derived.ChangeSlices
import Derived.Test.YtecdjnabmjhakaaDoorMStemmaRead5
set_option linter.unusedVariables false
set_option linter.unusedSimpArgs false
namespace Go.Proofs.YtecdjnabmjhakaaDoor.P
open Go.RowKit Go.Proofs.YtecdjnabmjhakaaDoorW.PrintWords Go.Proofs.YtecdjnabmjhakaaDoorW.PrintLast Go.Proofs.YtecdjnabmjhakaaDoorW.PrintMore
attribute [local go_sem] max2_int min2_int max_two min_two max_three min_three max_four min_four   -- for this text's walks alone
set_option linter.unusedVariables false
set_option linter.unusedSimpArgs false
end Go.Proofs.YtecdjnabmjhakaaDoor.P
namespace Go.Proofs.YtecdjnabmjhakaaDoor.OwnTx
def cut (c : UInt8) : List UInt8 → List (List UInt8)
  | [] => [[]]
  | x :: xs => if x = c then [] :: cut c xs else match cut c xs with
    | [] => [[x]]
    | h :: t => (x :: h) :: t
def jn (c : UInt8) : List (List UInt8) → List UInt8
  | [] => []
  | [x] => x
  | x :: y :: r => x ++ c :: jn c (y :: r)
theorem cut_ne_nil (c : UInt8) (s : List UInt8) : cut c s ≠ [] := by
  cases s with
  | nil => simp [cut]
  | cons x xs =>
    unfold cut
    split
    · simp
    · split <;> simp
theorem cut_cons_eq (c : UInt8) (s : List UInt8) : cut c (c :: s) = [] :: cut c s := by rw [cut, if_pos rfl]
theorem cut_cons_ne {c x : UInt8} (h : x ≠ c) (s : List UInt8) : ∃ a t, cut c s = a :: t ∧ cut c (x :: s) = (x :: a) :: t := by
  rcases e : cut c s with _ | ⟨a, t⟩
  · exact absurd e (cut_ne_nil c s)
  · exact ⟨a, t, rfl, by rw [cut, if_neg h, e]⟩
theorem jn_cons (c : UInt8) (a : List UInt8) {t : List (List UInt8)} (h : t ≠ []) : jn c (a :: t) = a ++ c :: jn c t := by
  cases t with
  | nil => exact absurd rfl h
  | cons y r => rw [jn]
theorem jn_push (c x : UInt8) (a : List UInt8) (t : List (List UInt8)) : jn c ((x :: a) :: t) = x :: jn c (a :: t) := by
  cases t with
  | nil => rfl
  | cons y r => rw [jn, jn, List.cons_append]
theorem jn_cut (c : UInt8) : ∀ s : List UInt8, jn c (cut c s) = s
  | [] => rfl
  | x :: s => by
    by_cases h : x = c
    · subst h
      rw [cut_cons_eq, jn_cons _ _ (cut_ne_nil _ _), jn_cut x s]
      rfl
    · obtain ⟨a, t, e, e2⟩ := cut_cons_ne h s
      rw [e2, jn_push, ← e, jn_cut c s]
theorem cut_plain {c : UInt8} : ∀ {s : List UInt8}, (∀ x ∈ s, x ≠ c) → cut c s = [s]
  | [], _ => rfl
  | x :: s, h => by
    obtain ⟨a, t, e, e2⟩ := cut_cons_ne (h x (by simp)) s
    rw [cut_plain (fun y hy => h y (by simp [hy]))] at e
    injection e with e3 e4
    subst e3 e4
    exact e2
theorem cut_app {c : UInt8} (t : List UInt8) : ∀ {s : List UInt8}, (∀ x ∈ s, x ≠ c) → cut c (s ++ c :: t) = s :: cut c t
  | [], _ => cut_cons_eq c t
  | x :: s, h => by
    obtain ⟨a, u, e, e2⟩ := cut_cons_ne (h x (by simp)) (s ++ c :: t)
    rw [cut_app t (fun y hy => h y (by simp [hy]))] at e
    injection e with e3 e4
    subst e3 e4
    exact e2
theorem cut_len (c : UInt8) : ∀ s : List UInt8, (cut c s).length ≤ s.length + 1
  | [] => by simp [cut]
  | x :: s => by
    have := cut_len c s
    by_cases h : x = c
    · subst h
      rw [cut_cons_eq]
      simp; omega
    · obtain ⟨a, t, e, e2⟩ := cut_cons_ne h s
      rw [e2]
      rw [e] at this
      simp at this ⊢
      omega
open Go.Lib in
theorem splitK_cut (c : UInt8) : ∀ s : List UInt8, splitK [c] 0 (count s [c]) s = cut c s
  | [] => by rw [count_miss (by simp [index])]; rfl
  | b :: l => by
    by_cases h : b = c
    · subst h
      have hix : index (b :: l) [b] = ((0 : Nat) : Int) := by rw [index]; simp [List.isPrefixOf]
      rw [count_cons_eq, Nat.add_comm, splitK, if_neg (by rw [hix]; decide), hix, cut_cons_eq]
      simp
      exact splitK_cut b l
    · obtain ⟨a, t, e, e2⟩ := cut_cons_ne h l
      have ih := splitK_cut c l
      rw [e2, count_cons_ne b c l h]
      rw [e] at ih
      have hp : ([c] : List UInt8).isPrefixOf (b :: l) = false := by simp [List.isPrefixOf, Ne.symm h]
      have hix : index (b :: l) [c] = if index l [c] == -1 then -1 else index l [c] + 1 := by rw [index, hp]; simp
      have hge := index_ge l [c]
      cases k : count l [c] with
      | zero =>
        rw [k] at ih
        simp only [splitK] at ih ⊢
        injection ih with i1 i2
        subst i1 i2
        rfl
      | succ m =>
        rw [k] at ih
        rw [splitK] at ih ⊢
        by_cases hm : index l [c] = -1
        · rw [hix, hm]
          rw [hm] at ih
          simp at ih ⊢
          exact ⟨ih.1, ih.2⟩
        · have hm2 : (index l [c] == -1) = false := by simpa using hm
          rw [hix, hm2]
          rw [hm2] at ih
          obtain ⟨j, hj⟩ : ∃ j : Nat, index l [c] = j := ⟨(index l [c]).toNat, by omega⟩
          rw [hj] at ih ⊢
          have e1 : ((j : Int) + 1 == -1) = false := by simp; omega
          simp only [Bool.false_eq_true, if_false, e1, Nat.add_zero, List.length_singleton, Int.toNat_natCast] at ih ⊢
          have e3 : ((j : Int) + 1).toNat = j + 1 := by omega
          rw [e3, List.take_succ_cons, List.drop_succ_cons]
          injection ih with i1 i2
          rw [i1, i2]
def bA (l : List UInt8) : ByteArray := ⟨l.toArray⟩
theorem bA_list (l : List UInt8) : (bA l).data.toList = l := by simp [bA]
theorem bA_data (s : ByteArray) : bA s.data.toList = s := by
  cases s; simp [bA]
theorem bA_size (l : List UInt8) : (bA l).size = l.length := by simp [bA, ByteArray.size]
theorem bA_append (l m : List UInt8) : bA l ++ bA m = bA (l ++ m) := by
  apply ByteArray.ext
  simp [bA]
def cutB (c : UInt8) (s : ByteArray) : List ByteArray := (cut c s.data.toList).map bA
theorem splitB_cut (c : UInt8) (s : ByteArray) : Lib.splitB ⟨#[c]⟩ 0 (Lib.countB s ⟨#[c]⟩) s = cutB c s := by
  have h := Lib.splitB_data ⟨#[c]⟩ 0 (Lib.countB s ⟨#[c]⟩) s
  have h2 := splitK_cut c s.data.toList
  have e : Lib.countB s ⟨#[c]⟩ = Lib.count s.data.toList [c] := rfl
  rw [e] at h ⊢
  rw [h2] at h
  unfold cutB
  rw [← h, List.map_map]
  refine (List.map_id'' (fun x => bA_data x) _).symm.trans ?_
  rfl
end Go.Proofs.YtecdjnabmjhakaaDoor.OwnTx
namespace Go.Proofs.YtecdjnabmjhakaaDoor.P.OwnSt
open Go.RowKit Go.Proofs.YtecdjnabmjhakaaDoorW.PrintWords Go.Proofs.YtecdjnabmjhakaaDoorW.PrintLast Go.Proofs.YtecdjnabmjhakaaDoorW.PrintMore
set_option linter.unusedVariables false
set_option linter.unusedSimpArgs false
end Go.Proofs.YtecdjnabmjhakaaDoor.P.OwnSt
namespace Go.Proofs.YtecdjnabmjhakaaDoor.P.OwnSt
open Go.RowKit Go.Proofs.YtecdjnabmjhakaaDoorW.PrintWords Go.Proofs.YtecdjnabmjhakaaDoorW.PrintLast Go.Proofs.YtecdjnabmjhakaaDoorW.PrintMore
open Go.Proofs.YtecdjnabmjhakaaDoor.OwnTx
set_option linter.unusedVariables false
set_option linter.unusedSimpArgs false
abbrev sPlaces : List UInt8 := [112, 108, 97, 99, 101, 115]
abbrev sCopies : List UInt8 := [99, 111, 112, 105, 101, 115]
abbrev sSaw : List UInt8 := [115, 97, 119]
abbrev sHad : List UInt8 := [104, 97, 100]
def dig (w : ByteArray) : Int × Bool := if w.size = 1 ∧ 48 ≤ bt w 0 ∧ bt w 0 ≤ 57 then (bt w 0 - 48, true) else (0, false)
theorem digit_f (w : ByteArray) : stemma_digit.f w = some (dig w) := by
  unfold stemma_digit.f dig
  by_cases h : w.size = 1
  · rw [if_pos (by omega), if_pos (by omega)]
    by_cases h1 : bt w 0 < 48
    · rw [if_pos h1, if_neg (by omega)]
    · rw [if_neg h1]
      by_cases h2 : bt w 0 > 57
      · rw [if_pos h2, if_neg (by omega)]
      · rw [if_neg h2, if_pos (by omega), show (bt w 0 - 48) % 256 = bt w 0 - 48 by omega]
  · rw [if_neg (by omega), if_neg (by omega)]
def rdB (l : List ByteArray) (i : Nat) : ByteArray := rdOf ByteArray.empty l (i : Int)
def stepV (i : Nat) (w : List ByteArray) (l : List S25) (pl : Int) (en : Bool) : Option (List S25 × Int × Bool) :=
  if (dig (rdB w (w.length - 1))).2 = false ∨ en = true ∨ (((rdB w 0).toList == sPlaces) != (i == 0)) = true then none
  else if i = 0 then (if w.length = 2 then some (l, (dig (rdB w (w.length - 1))).1, en) else none)
  else if (rdB w 0).toList = sCopies then (if w.length = 2 ∧ (dig (rdB w (w.length - 1))).1 = l.length then some (l, pl, true) else none)
  else if ((rdB w 0).toList = sSaw ∨ (rdB w 0).toList = sHad) ∧ w.length = 3 ∧ ((rdB w 1).size : Int) = pl then some (l ++ [⟨rdB w 1, (dig (rdB w (w.length - 1))).1, (rdB w 0).toList == sSaw⟩], pl, en)
  else none
def goV (R : List ByteArray) : Nat → Nat → List S25 → Int → Bool → List S25 × Int × Int
  | 0, i, l, pl, en => if en = true ∧ (rdB R i).toList = [] then (if checkV l = 0 then (l, 0, 0) else ([], 0, checkV l)) else ([], i + 1, 2)
  | rem + 1, i, l, pl, en => match stepV i (cutB 32 (rdB R i)) l pl en with
    | none => ([], i + 1, 2)
    | some (l', pl', en') => goV R rem (i + 1) l' pl' en'
def readV (s : ByteArray) : List S25 × Int × Int := if 200 < s.size then ([], 0, 10) else goV (cutB 10 s) ((cutB 10 s).length - 1) 0 [] 0 false
theorem cutB_len (c : UInt8) (s : ByteArray) : 1 ≤ (cutB c s).length ∧ (cutB c s).length ≤ s.size + 1 := by
  unfold cutB
  have h := cut_len c s.data.toList
  have h2 := cut_ne_nil c s.data.toList
  have : 1 ≤ (cut c s.data.toList).length := by
    rcases e : cut c s.data.toList with _ | ⟨a, t⟩
    · exact absurd e h2
    · simp
  have hs : s.data.toList.length = s.size := by simp
  rw [List.length_map]
  omega
theorem cutB_piece {c : UInt8} {s : ByteArray} (i : Nat) : (rdB (cutB c s) i).size ≤ s.size := by
  have hmem : ∀ (t : List UInt8) (x : List UInt8), x ∈ cut c t → x.length ≤ t.length := by
    intro t
    induction t with
    | nil => intro x hx; simp [cut] at hx; subst hx; simp
    | cons b t ih =>
      intro x hx
      by_cases e : b = c
      · subst e
        rw [cut_cons_eq] at hx
        rcases List.mem_cons.1 hx with rfl | hx
        · simp
        · have := ih x hx; simp; omega
      · obtain ⟨a, u, e1, e2⟩ := cut_cons_ne e t
        rw [e2] at hx
        rcases List.mem_cons.1 hx with rfl | hx
        · have := ih a (by rw [e1]; simp); simp; omega
        · have := ih x (by rw [e1]; simp [hx]); simp; omega
  unfold rdB rdOf
  by_cases h : i < (cutB c s).length
  · have hm : (cutB c s)[i] ∈ cutB c s := List.getElem_mem h
    have e : (cutB c s).getD ((i : Int)).toNat ByteArray.empty = (cutB c s)[i] := by simp [List.getD, h]
    rw [e]
    unfold cutB at hm
    rw [List.mem_map] at hm
    obtain ⟨x, hx, hx2⟩ := hm
    have := hmem _ x hx
    have e3 : (cutB c s)[i] = bA x := by unfold cutB; exact hx2.symm
    rw [e3, bA_size]
    simpa using this
  · have e : (cutB c s).getD ((i : Int)).toNat ByteArray.empty = ByteArray.empty := by simp [List.getD, h]
    rw [e]; simp
theorem split_f (c : UInt8) (s : ByteArray) (h : s.size < 4294967281) : strings_Split.f s ⟨#[c]⟩ = some (cutB c s) := by
  unfold strings_Split.f
  rw [if_pos ⟨h, rfl⟩, splitB_cut]
section
variable (R : List ByteArray) (a : ByteArray)
theorem read_l0 (hR : 1 ≤ R.length) (hR2 : R.length ≤ 1000) (hp : ∀ i, (rdB R i).size ≤ 1000) : ∀ (rem i : Nat) (l : List S25) (pl : Int) (en : Bool), i + rem = R.length - 1 → l.length ≤ i →
    Ev (fun k => stemma_Read.l0 k l R ((R.length - 1 : Nat) : Int) pl en (R.take (R.length - 1)) (((R.take (R.length - 1)).length : Nat) : Int) (i : Int)) (goV R rem i l pl en) := by
  have hl : (R.take (R.length - 1)).length = R.length - 1 := by simp
  intro rem
  induction rem with
  | zero =>
    intro i l pl en hi hli
    refine Ev.step (fun k => by rw [stemma_Read.l0]) ?_
    refine Ev.if_neg' (by omega) ?_
    unfold goV
    obtain rfl : i = R.length - 1 := by omega
    by_cases he : en = true
    · refine Ev.if_pos' he (Ev.if_pos' (by omega) (Ev.if_pos' (by omega) ?_))
      by_cases hr : (rdB R (R.length - 1)).toList = []
      · rw [if_pos ⟨he, hr⟩]
        refine Ev.step (fun k => by rw [stemma_Read.j3]) (Ev.if_neg' ?_ ?_)
        · show ¬ ((rdB R (R.length - 1)).toList != []) = true
          rw [hr]; decide
        · refine Ev.bind (check_ev l) ?_
          by_cases hc : checkV l = 0
          · rw [if_pos hc, if_pos hc]; exact Ev.now _
          · rw [if_neg hc, if_neg hc]; exact Ev.now _
      · rw [if_neg (fun h => hr h.2)]
        refine Ev.step (fun k => by rw [stemma_Read.j3]) (Ev.if_pos' ?_ ?_)
        · show ((rdB R (R.length - 1)).toList != []) = true
          simpa using hr
        · rw [wrap64_small (by omega) (by omega)]; exact Ev.now _
    · refine Ev.if_neg' he ?_
      rw [if_neg (fun h => he h.1)]
      refine Ev.step (fun k => by rw [stemma_Read.j3]) (Ev.if_pos' rfl ?_)
      rw [wrap64_small (by omega) (by omega)]; exact Ev.now _
  | succ rem ih =>
    intro i l pl en hi hli
    refine Ev.step (fun k => by rw [stemma_Read.l0]) ?_
    refine Ev.if_pos' (by omega) (Ev.if_pos' (by omega) (Ev.if_pos' (by omega) ?_))
    have e1 : rdOf ByteArray.empty (R.take (R.length - 1)) (i : Int) = rdB R i := by
      show (R.take (R.length - 1)).getD ((i : Int)).toNat _ = R.getD ((i : Int)).toNat _
      rw [Int.toNat_natCast, List.getD_eq_getElem?_getD, List.getD_eq_getElem?_getD, List.getElem?_take, if_pos (by omega)]
    have e2 : strings_Split.f (rdOf ByteArray.empty (R.take (R.length - 1)) (i : Int)) ⟨#[32]⟩ = some (cutB 32 (rdB R i)) := by
      rw [e1]; exact split_f 32 _ (by have := hp i; omega)
    simp only [e2, Option.bind_some]
    have hw := cutB_len 32 (rdB R i)
    have hpi := hp i
    obtain ⟨W, hW⟩ : ∃ W, W = cutB 32 (rdB R i) := ⟨_, rfl⟩
    unfold goV
    rw [← hW] at hw ⊢
    have e3 : wrap64 ((W.length : Int) - 1) = ((W.length - 1 : Nat) : Int) := by rw [wrap64_small (by omega) (by omega)]; omega
    rw [e3]
    clear e3
    refine Ev.if_pos' (by omega) (Ev.if_pos' (by omega) ?_)
    have e4 : rdOf ByteArray.empty W ((W.length - 1 : Nat) : Int) = rdB W (W.length - 1) := rfl
    have e5 : rdOf ByteArray.empty W 0 = rdB W 0 := rfl
    have e6 : rdOf ByteArray.empty W 1 = rdB W 1 := rfl
    simp only [e4, e5, digit_f, Option.bind_some]
    have e7 : wrap64 ((i : Int) + 1) = ((i + 1 : Nat) : Int) := by rw [wrap64_small (by omega) (by omega)]; omega
    have hi0 : ((i : Int) == 0) = (i == 0) := by rw [Bool.eq_iff_iff]; simp
    have fail : ∀ (d : Int) (b : Bool), b = true → Ev (fun k => stemma_Read.j1 k l R ((R.length - 1 : Nat) : Int) pl en (i : Int) W d (R.take (R.length - 1)) (((R.take (R.length - 1)).length : Nat) : Int) (i : Int) b) (([], (i : Int) + 1, 2) : List S25 × Int × Int) := by
      intro d b hb
      refine Ev.step (fun k => by rw [stemma_Read.j1]) (Ev.if_pos' hb ?_)
      rw [e7, show ((i + 1 : Nat) : Int) = (i : Int) + 1 by omega]
      exact Ev.now _
    by_cases hd : (dig (rdB W (W.length - 1))).2 = true
    · refine Ev.if_pos' hd ?_
      by_cases he : en = true
      · refine Ev.if_pos' he ?_
        rw [show stepV i W l pl en = none from if_pos (.inr (.inl he))]
        exact fail _ _ rfl
      · refine Ev.if_neg' he (Ev.if_pos' (by omega) ?_)
        rw [hi0]
        by_cases hb : (((rdB W 0).toList == sPlaces) != (i == 0)) = true
        · rw [show stepV i W l pl en = none from if_pos (.inr (.inr hb))]
          exact fail _ _ hb
        · refine Ev.step (fun k => by rw [stemma_Read.j1]) (Ev.if_neg' hb ?_)
          have hn : ¬ ((dig (rdB W (W.length - 1))).2 = false ∨ en = true ∨ (((rdB W 0).toList == sPlaces) != (i == 0)) = true) := by
            rintro (h | h | h)
            · rw [hd] at h; cases h
            · exact he h
            · exact hb h
          unfold stepV
          rw [if_neg hn]
          have fail2 : Ev (fun _ : Nat => some (([], wrap64 ((i : Int) + 1), 2) : List S25 × Int × Int)) (([], (i : Int) + 1, 2) : List S25 × Int × Int) := by
            rw [e7, show ((i + 1 : Nat) : Int) = (i : Int) + 1 by omega]
            exact Ev.now _
          by_cases h0 : i = 0
          · refine Ev.if_pos' (by omega) ?_
            rw [if_pos h0]
            by_cases h2 : W.length = 2
            · rw [if_pos h2]
              refine Ev.if_pos' (by omega) ?_
              rw [e7]
              exact ih (i + 1) l _ en (by omega) (by omega)
            · rw [if_neg h2]
              exact Ev.if_neg' (by omega) fail2
          · refine Ev.if_neg' (by omega) (Ev.if_pos' (by omega) ?_)
            rw [if_neg h0, e5]
            by_cases hc : (rdB W 0).toList = sCopies
            · rw [if_pos hc]
              refine Ev.if_pos' hc ?_
              by_cases h2 : W.length = 2
              · refine Ev.if_pos' (by omega) ?_
                by_cases h3 : (dig (rdB W (W.length - 1))).1 = l.length
                · rw [if_pos ⟨h2, h3⟩]
                  refine Ev.if_pos' h3 ?_
                  rw [e7]
                  exact ih (i + 1) l pl true (by omega) (by omega)
                · rw [if_neg (fun h => h3 h.2)]
                  exact Ev.if_neg' h3 fail2
              · rw [if_neg (fun h => h2 h.1)]
                exact Ev.if_neg' (by omega) fail2
            · rw [if_neg hc]
              refine Ev.if_neg' hc ?_
              have hj2 : ∀ b : Bool, (b = true → (rdB W 0).toList = sSaw ∨ (rdB W 0).toList = sHad) → (b = true → W.length = 3) →
                  (b = true ↔ (((rdB W 0).toList = sSaw ∨ (rdB W 0).toList = sHad) ∧ W.length = 3 ∧ ((rdB W 1).size : Int) = pl)) →
                  Ev (fun k => stemma_Read.j2 k l R ((R.length - 1 : Nat) : Int) pl en (i : Int) W (dig (rdB W (W.length - 1))).1 b (R.take (R.length - 1)) (((R.take (R.length - 1)).length : Nat) : Int) (i : Int))
                    (match (if ((rdB W 0).toList = sSaw ∨ (rdB W 0).toList = sHad) ∧ W.length = 3 ∧ ((rdB W 1).size : Int) = pl then some (l ++ [⟨rdB W 1, (dig (rdB W (W.length - 1))).1, (rdB W 0).toList == sSaw⟩], pl, en) else none : Option (List S25 × Int × Bool)) with
                    | none => ([], (i : Int) + 1, 2)
                    | some (l', pl', en') => goV R rem (i + 1) l' pl' en') := by
                intro b _ _ hb2
                refine Ev.step (fun k => by rw [stemma_Read.j2]) ?_
                by_cases hbt : b = true
                · have hg := hb2.1 hbt
                  rw [if_pos hg]
                  refine Ev.if_pos' hbt (Ev.if_pos' (by omega) (Ev.if_pos' (by omega) (Ev.if_pos' (by omega) ?_)))
                  rw [e7, e5, e6]
                  exact ih (i + 1) _ pl en (by omega) (by simp; omega)
                · rw [if_neg (fun h => hbt (hb2.2 h))]
                  exact Ev.if_neg' hbt fail2
              by_cases hs : (rdB W 0).toList = sSaw
              · refine Ev.if_pos' hs ?_
                by_cases h3 : W.length = 3
                · refine Ev.if_pos' (by omega) (Ev.if_pos' (by omega) ?_)
                  rw [e6]
                  exact hj2 _ (fun _ => .inl hs) (fun _ => h3) (by simp [hs, h3])
                · refine Ev.if_neg' (by omega) ?_
                  exact hj2 false (fun h => by cases h) (fun h => by cases h) (by simp [h3])
              · refine Ev.if_neg' hs ?_
                by_cases hh : (rdB W 0).toList = sHad
                · refine Ev.if_pos' hh ?_
                  by_cases h3 : W.length = 3
                  · refine Ev.if_pos' (by omega) (Ev.if_pos' (by omega) ?_)
                    rw [e6]
                    exact hj2 _ (fun _ => .inr hh) (fun _ => h3) (by simp [hh, h3])
                  · refine Ev.if_neg' (by omega) ?_
                    exact hj2 false (fun h => by cases h) (fun h => by cases h) (by simp [h3])
                · refine Ev.if_neg' hh ?_
                  exact hj2 false (fun h => by cases h) (fun h => by cases h) (by simp [hs, hh])
    · refine Ev.if_neg' hd ?_
      rw [show stepV i W l pl en = none from if_pos (.inl (by simpa using hd))]
      exact fail _ _ rfl
end
theorem read_ev (s : ByteArray) : Ev (fun k => stemma_Read.f k s) (readV s) := by
  unfold stemma_Read.f readV
  by_cases h : 200 < s.size
  · rw [if_pos h]; exact Ev.if_pos' (by omega) (Ev.now _)
  · rw [if_neg h]
    refine Ev.if_neg' (by omega) ?_
    have hw := cutB_len 10 s
    obtain ⟨R, hR⟩ : ∃ R, R = cutB 10 s := ⟨_, rfl⟩
    have hp : ∀ i, (rdB R i).size ≤ 1000 := fun i => by rw [hR]; exact Nat.le_trans (cutB_piece i) (by omega)
    simp only [split_f 10 s (by omega), Option.bind_some]
    rw [← hR] at hw ⊢
    have e : wrap64 ((R.length : Int) - 1) = ((R.length - 1 : Nat) : Int) := by rw [wrap64_small (by omega) (by omega)]; omega
    rw [e]
    refine Ev.if_pos' (by omega) (Ev.if_pos' (by omega) ?_)
    exact read_l0 R (by omega) (by omega) hp (R.length - 1) 0 [] 0 false (by omega) (by simp)
end Go.Proofs.YtecdjnabmjhakaaDoor.P.OwnSt
namespace Go.Proofs.YtecdjnabmjhakaaDoor.P.OwnSt
open Go.RowKit Go.Proofs.YtecdjnabmjhakaaDoorW.PrintWords Go.Proofs.YtecdjnabmjhakaaDoorW.PrintLast Go.Proofs.YtecdjnabmjhakaaDoorW.PrintMore
open Go.Proofs.YtecdjnabmjhakaaDoor.OwnTx
set_option linter.unusedVariables false
set_option linter.unusedSimpArgs false
theorem check_of_valid {l : List S25} (h : Valid l) : checkV l = 0 := by
  have h0 := h.one
  have h5 := h.five
  have one : ∀ i : Nat, i < l.length → oneV l (rd_T25 l (i : Int)) = 0 := by
    intro i hi
    have hs := h.size i hi
    have hl := h.low
    have hh := h.high
    have he := h.err i hi
    unfold oneV
    rw [if_neg (by omega), if_neg, if_neg (by omega), if_neg (by omega), if_neg (by omega)]
    rw [Bool.not_eq_false]
    unfold goodText
    rw [List.all_eq_true]
    intro p hp
    have := h.good i hi p (by have := List.mem_range.1 hp; omega)
    simpa [goodAt] using this
  have go : ∀ rem i, i + rem = l.length → checkF l rem i = 0 := by
    intro rem
    induction rem with
    | zero => intro i _; rfl
    | succ rem ih =>
      intro i hi
      unfold checkF
      rw [if_pos (one i (by omega))]
      exact ih (i + 1) (by omega)
  unfold checkV
  rw [if_neg (by omega), if_neg (by omega)]
  exact go _ 0 (by omega)
def dgt (n : Int) : UInt8 := UInt8.ofNat (48 + n.toNat)
def rowL (x : S25) : List UInt8 := (if x.f2 = true then sSaw else sHad) ++ 32 :: x.f0.data.toList ++ [32, dgt x.f1]
def wrL (l : List S25) : List UInt8 := sPlaces ++ [32, dgt ((rd_T25 l 0).f0.size : Int), 10] ++ (l.flatMap fun x => rowL x ++ [10]) ++ sCopies ++ [32, dgt (l.length : Int), 10]
def writeV (l : List S25) : ByteArray × Int := if checkV l = 0 then (bA (wrL l), 0) else (⟨#[]⟩, checkV l)
theorem itoa_f (n : Int) (h0 : 0 ≤ n) (h9 : n ≤ 9) : strconv_Itoa.f n = some (bA [dgt n]) := by
  unfold strconv_Itoa.f
  rw [if_pos (by omega), Lib.decDigits, dif_pos (by omega)]
  rfl
theorem rows_size (l : List S25) (h : ∀ x ∈ l, x.f0.size ≤ 8) : (l.flatMap fun x => rowL x ++ [10]).length ≤ 15 * l.length := by
  induction l with
  | nil => simp
  | cons x l ih =>
    have h1 := ih (fun y hy => h y (by simp [hy]))
    have h2 := h x (by simp)
    have e : (rowL x).length = 6 + x.f0.size := by
      unfold rowL
      split <;> simp <;> omega
    rw [List.flatMap_cons, List.length_append, List.length_append, e]
    simp at h1 ⊢
    omega
theorem write_l0 (l : List S25) (hv : Valid l) : ∀ (rem i : Nat) (acc : List UInt8), i + rem = l.length → acc.length ≤ 1000 + 20 * i →
    Ev (fun k => stemma_Write.l0 k l (bA acc) l (l.length : Int) (i : Int)) (bA (acc ++ ((l.drop i).flatMap fun x => rowL x ++ [10]) ++ sCopies ++ [32, dgt (l.length : Int), 10]), 0) := by
  have h5 := hv.five
  have h1 := hv.one
  intro rem
  induction rem with
  | zero =>
    intro i acc hi ha
    refine Ev.step (fun k => by rw [stemma_Write.l0]) ?_
    refine Ev.if_neg' (by omega) ?_
    rw [itoa_f (l.length : Int) (by omega) (by omega)]
    simp only [Option.bind_some]
    refine Ev.if_pos' (by rw [bA_size]; omega) ?_
    have e1 : bA acc ++ (⟨#[99, 111, 112, 105, 101, 115, 32]⟩ : ByteArray) = bA (acc ++ sCopies ++ [32]) := by
      rw [show (⟨#[99, 111, 112, 105, 101, 115, 32]⟩ : ByteArray) = bA (sCopies ++ [32]) from rfl, bA_append]; simp
    rw [e1, bA_append]
    refine Ev.if_pos' (by rw [bA_size, bA_size]; simp; omega) (Ev.if_pos' (by rw [bA_size]; simp; omega) ?_)
    rw [show (⟨#[10]⟩ : ByteArray) = bA [10] from rfl, bA_append, List.drop_of_length_le (by omega)]
    simp
    exact Ev.now _
  | succ rem ih =>
    intro i acc hi ha
    refine Ev.step (fun k => by rw [stemma_Write.l0]) ?_
    refine Ev.if_pos' (by omega) (Ev.if_pos' (by omega) (Ev.if_pos' (by omega) ?_))
    have hi' : i < l.length := by omega
    have e0 : rd_T25 l (i : Int) = l[i] := by unfold rd_T25; simp [List.getD_eq_getElem?_getD, hi']
    have hs := hv.size i hi'
    have hh := hv.high
    have he := hv.err i hi'
    rw [e0] at hs he ⊢
    obtain ⟨x, hx⟩ : ∃ x, x = l[i] := ⟨_, rfl⟩
    rw [← hx] at hs he ⊢
    have hd : (l.drop i).flatMap (fun x => rowL x ++ [10]) = rowL x ++ [10] ++ (l.drop (i + 1)).flatMap (fun x => rowL x ++ [10]) := by
      rw [List.drop_eq_getElem_cons hi', List.flatMap_cons, ← hx]
    have e7 : wrap64 ((i : Int) + 1) = ((i + 1 : Nat) : Int) := by rw [wrap64_small (by omega) (by omega)]; omega
    have hsz : x.f0.size ≤ 8 := by omega
    have hd2 := itoa_f x.f1 (by omega) (by omega)
    have IH := ih (i + 1) (acc ++ (rowL x ++ [10])) (by omega) (by
      have e : (rowL x).length = 6 + x.f0.size := by
        unfold rowL
        split <;> simp <;> omega
      simp [e]; omega)
    have eR : (acc ++ ((l.drop i).flatMap fun x => rowL x ++ [10]) ++ sCopies ++ [32, dgt (l.length : Int), 10]) = (acc ++ (rowL x ++ [10]) ++ ((l.drop (i + 1)).flatMap fun x => rowL x ++ [10]) ++ sCopies ++ [32, dgt (l.length : Int), 10]) := by
      rw [hd]; simp
    rw [eR]
    rw [hd2]
    simp only [Option.bind_some, e7]
    have hb : bA x.f0.data.toList = x.f0 := bA_data _
    by_cases hf : x.f2 = true
    · refine Ev.if_pos' hf ?_
      have e2 : ((((((⟨#[115, 97, 119]⟩ : ByteArray) ++ (⟨#[32]⟩ : ByteArray)) ++ x.f0) ++ (⟨#[32]⟩ : ByteArray)) ++ bA [dgt x.f1]) ++ (⟨#[10]⟩ : ByteArray)) = bA (rowL x ++ [10]) := by
        rw [← hb, show (⟨#[115, 97, 119]⟩ : ByteArray) = bA sSaw from rfl, show (⟨#[32]⟩ : ByteArray) = bA [32] from rfl, show (⟨#[10]⟩ : ByteArray) = bA [10] from rfl]
        simp only [bA_append]
        unfold rowL
        rw [hf]
        simp
      refine Ev.if_pos' (by omega) (Ev.if_pos' (by omega) (Ev.if_pos' ?_ (Ev.if_pos' ?_ (Ev.if_pos' ?_ (Ev.if_pos' ?_ ?_)))))
      · simp only [ByteArray.size_append]; show 3 + 1 + x.f0.size + 1 ≤ _; omega
      · simp only [ByteArray.size_append, bA_size]; show 3 + 1 + x.f0.size + 1 + 1 ≤ _; omega
      · simp only [ByteArray.size_append, bA_size]; show 3 + 1 + x.f0.size + 1 + 1 + 1 ≤ _; omega
      · simp only [ByteArray.size_append, bA_size]; show acc.length + (3 + 1 + x.f0.size + 1 + 1 + 1) ≤ _; omega
      · rw [e2, bA_append]
        exact IH
    · refine Ev.if_neg' hf ?_
      have e2 : ((((((⟨#[104, 97, 100]⟩ : ByteArray) ++ (⟨#[32]⟩ : ByteArray)) ++ x.f0) ++ (⟨#[32]⟩ : ByteArray)) ++ bA [dgt x.f1]) ++ (⟨#[10]⟩ : ByteArray)) = bA (rowL x ++ [10]) := by
        rw [← hb, show (⟨#[104, 97, 100]⟩ : ByteArray) = bA sHad from rfl, show (⟨#[32]⟩ : ByteArray) = bA [32] from rfl, show (⟨#[10]⟩ : ByteArray) = bA [10] from rfl]
        simp only [bA_append]
        unfold rowL
        rw [if_neg hf]
        simp
      refine Ev.if_pos' (by omega) (Ev.if_pos' (by omega) (Ev.if_pos' ?_ (Ev.if_pos' ?_ (Ev.if_pos' ?_ (Ev.if_pos' ?_ ?_)))))
      · simp only [ByteArray.size_append]; show 3 + 1 + x.f0.size + 1 ≤ _; omega
      · simp only [ByteArray.size_append, bA_size]; show 3 + 1 + x.f0.size + 1 + 1 ≤ _; omega
      · simp only [ByteArray.size_append, bA_size]; show 3 + 1 + x.f0.size + 1 + 1 + 1 ≤ _; omega
      · simp only [ByteArray.size_append, bA_size]; show acc.length + (3 + 1 + x.f0.size + 1 + 1 + 1) ≤ _; omega
      · rw [e2, bA_append]
        exact IH
theorem write_ev (l : List S25) : Ev (fun k => stemma_Write.f k l) (writeV l) := by
  unfold stemma_Write.f writeV
  refine Ev.bind (check_ev l) ?_
  by_cases hc : checkV l = 0
  · have hv := valid_of_check hc
    rw [if_pos hc]
    refine Ev.if_pos' hc (Ev.if_pos' (by have := hv.one; omega) ?_)
    rw [itoa_f _ (by omega) (by have := hv.high; omega)]
    simp only [Option.bind_some]
    have e1 : (⟨#[112, 108, 97, 99, 101, 115, 32]⟩ : ByteArray) = bA (sPlaces ++ [32]) := rfl
    rw [e1, bA_append, show (⟨#[10]⟩ : ByteArray) = bA [10] from rfl, bA_append]
    refine Ev.if_pos' (by rw [bA_size]; simp) (Ev.if_pos' (by rw [bA_size]; simp) ?_)
    have := write_l0 l hv l.length 0 (sPlaces ++ [32] ++ [dgt ((rd_T25 l 0).f0.size : Int)] ++ [10]) (by omega) (by simp)
    unfold wrL
    simpa using this
  · rw [if_neg hc]; exact Ev.if_neg' hc (Ev.now _)
theorem bt_get (s : ByteArray) (i : Nat) (h : i < s.size) : bt s (i : Int) = ((s.data.toList.getD i 0).toNat : Int) := by
  unfold bt
  rw [dif_pos (by simpa using h)]
  have h' : i < s.data.toList.length := by simpa using h
  rw [List.getD_eq_getElem?_getD, List.getElem?_eq_getElem h']
  simp
  rfl
end Go.Proofs.YtecdjnabmjhakaaDoor.P.OwnSt
namespace Go.Proofs.YtecdjnabmjhakaaDoor.P.OwnSt
open Go.RowKit Go.Proofs.YtecdjnabmjhakaaDoorW.PrintWords Go.Proofs.YtecdjnabmjhakaaDoorW.PrintLast Go.Proofs.YtecdjnabmjhakaaDoorW.PrintMore
open Go.Proofs.YtecdjnabmjhakaaDoor.OwnTx
set_option linter.unusedVariables false
set_option linter.unusedSimpArgs false
section
variable (R : List ByteArray)
end
end Go.Proofs.YtecdjnabmjhakaaDoor.P.OwnSt
namespace Go.Proofs.YtecdjnabmjhakaaDoor.P.OwnSt
open Go.RowKit Go.Proofs.YtecdjnabmjhakaaDoorW.PrintWords Go.Proofs.YtecdjnabmjhakaaDoorW.PrintLast Go.Proofs.YtecdjnabmjhakaaDoorW.PrintMore
open Go.Proofs.YtecdjnabmjhakaaDoor.OwnTx
set_option linter.unusedVariables false
set_option linter.unusedSimpArgs false
theorem dgt_val (n : Int) (h0 : 0 ≤ n) (h9 : n ≤ 9) : ((dgt n).toNat : Int) = 48 + n := by
  unfold dgt
  rw [UInt8.toNat_ofNat_of_lt' (by show _ < 256; omega)]
  omega
theorem dig_of (n : Int) (h0 : 0 ≤ n) (h9 : n ≤ 9) : dig (bA [dgt n]) = (n, true) := by
  have hb : bt (bA [dgt n]) 0 = 48 + n := by
    have := bt_get (bA [dgt n]) 0 (by rw [bA_size]; simp)
    rw [bA_list] at this
    have h2 := dgt_val n h0 h9
    simpa [h2] using this
  unfold dig
  rw [hb, bA_size, if_pos ⟨by simp, by omega, by omega⟩]
  congr 1
  omega
theorem dig_true {w : ByteArray} (h : (dig w).2 = true) : w.data.toList = [dgt (dig w).1] ∧ 0 ≤ (dig w).1 ∧ (dig w).1 ≤ 9 := by
  unfold dig at h ⊢
  by_cases hc : w.size = 1 ∧ 48 ≤ bt w 0 ∧ bt w 0 ≤ 57
  · rw [if_pos hc]
    obtain ⟨h1, h2, h3⟩ := hc
    refine ⟨?_, by show 0 ≤ bt w 0 - 48; omega, by show bt w 0 - 48 ≤ 9; omega⟩
    have hl : w.data.toList.length = 1 := by simpa using h1
    obtain ⟨b, hb⟩ := List.length_eq_one_iff.1 hl
    have hb2 := bt_get w 0 (by omega)
    rw [hb] at hb2 ⊢
    have hb3 : bt w 0 = (b.toNat : Int) := by simpa using hb2
    congr 1
    apply UInt8.toNat.inj
    have := dgt_val (bt w 0 - 48) (by omega) (by omega)
    show b.toNat = (dgt (bt w 0 - 48)).toNat
    omega
  · rw [if_neg hc] at h; cases h
theorem rdB_get (L : List ByteArray) (i : Nat) (h : i < L.length) : rdB L i = L[i] := by
  unfold rdB rdOf
  simp [List.getD_eq_getElem?_getD, h]
theorem no10_P (n : Int) (h0 : 0 ≤ n) (h9 : n ≤ 9) : ∀ x ∈ sPlaces ++ [32, dgt n], x ≠ 10 := by
  have := dgt_val n h0 h9
  intro x hx
  simp only [List.mem_append, List.mem_cons, List.not_mem_nil, or_false] at hx
  rcases hx with (h | h | h | h | h | h) | h | h <;> subst h <;> first | decide | skip
  rintro h
  rw [h] at this
  have e : ((10 : UInt8).toNat : Int) = 10 := rfl
  omega
theorem no10_C (n : Int) (h0 : 0 ≤ n) (h9 : n ≤ 9) : ∀ x ∈ sCopies ++ [32, dgt n], x ≠ 10 := by
  have := dgt_val n h0 h9
  intro x hx
  simp only [List.mem_append, List.mem_cons, List.not_mem_nil, or_false] at hx
  rcases hx with (h | h | h | h | h | h) | h | h <;> subst h <;> first | decide | skip
  rintro h
  rw [h] at this
  have e : ((10 : UInt8).toNat : Int) = 10 := rfl
  omega
def Lets (b : ByteArray) : Prop := ∀ x ∈ b.data.toList, 65 ≤ x.toNat
theorem lets_of {l : List S25} (hv : Valid l) {x : S25} (hx : x ∈ l) : Lets x.f0 ∧ 0 ≤ x.f1 ∧ x.f1 ≤ 3 ∧ x.f0.size = (rd_T25 l 0).f0.size := by
  obtain ⟨i, hi, rfl⟩ := List.getElem_of_mem hx
  have e0 : rd_T25 l (i : Int) = l[i] := by unfold rd_T25; simp [List.getD_eq_getElem?_getD, hi]
  have hs := hv.size i hi
  have he := hv.err i hi
  have hg := hv.good i hi
  rw [e0] at hs he hg
  refine ⟨?_, he.1, he.2, hs⟩
  intro y hy
  obtain ⟨p, hp, rfl⟩ := List.getElem_of_mem hy
  have hp' : p < l[i].f0.size := by simpa using hp
  have h := (hg p (by omega)).1
  rw [bt_get _ p hp', List.getD_eq_getElem?_getD, List.getElem?_eq_getElem hp, Option.getD_some] at h
  omega
theorem no10_row {x : S25} (h : Lets x.f0) (h0 : 0 ≤ x.f1) (h3 : x.f1 ≤ 3) : ∀ y ∈ rowL x, y ≠ 10 := by
  have hd := dgt_val x.f1 h0 (by omega)
  intro y hy
  unfold rowL at hy
  simp only [List.mem_append, List.mem_cons, List.not_mem_nil, or_false] at hy
  rcases hy with (hy | hy | hy) | hy | hy
  · split at hy
    · simp at hy; rcases hy with h | h | h <;> subst h <;> decide
    · simp at hy; rcases hy with h | h | h <;> subst h <;> decide
  · subst hy; decide
  · rintro rfl
    have h2 := h _ hy
    have e : (10 : UInt8).toNat = 10 := rfl
    omega
  · subst hy; decide
  · subst hy
    rintro h
    rw [h] at hd
    have e : ((10 : UInt8).toNat : Int) = 10 := rfl
    omega
theorem cut_rows (t : List UInt8) : ∀ l : List S25, (∀ x ∈ l, Lets x.f0 ∧ 0 ≤ x.f1 ∧ x.f1 ≤ 3) → cut 10 ((l.flatMap fun x => rowL x ++ [10]) ++ t) = l.map rowL ++ cut 10 t
  | [], _ => rfl
  | x :: l, h => by
    obtain ⟨h1, h2, h3⟩ := h x (by simp)
    rw [List.flatMap_cons, show rowL x ++ [10] ++ l.flatMap (fun x => rowL x ++ [10]) ++ t = rowL x ++ 10 :: (l.flatMap (fun x => rowL x ++ [10]) ++ t) by simp, cut_app _ (no10_row h1 h2 h3), cut_rows t l (fun y hy => h y (by simp [hy]))]
    rfl
def rowsW (l : List S25) : List (List UInt8) := (sPlaces ++ [32, dgt ((rd_T25 l 0).f0.size : Int)]) :: (l.map rowL ++ [sCopies ++ [32, dgt (l.length : Int)], []])
theorem cut_wr {l : List S25} (hv : Valid l) : cut 10 (wrL l) = rowsW l := by
  have hh := hv.high
  have h5 := hv.five
  unfold wrL rowsW
  rw [show sPlaces ++ [32, dgt ((rd_T25 l 0).f0.size : Int), 10] ++ (l.flatMap fun x => rowL x ++ [10]) ++ sCopies ++ [32, dgt (l.length : Int), 10] = (sPlaces ++ [32, dgt ((rd_T25 l 0).f0.size : Int)]) ++ 10 :: ((l.flatMap fun x => rowL x ++ [10]) ++ ((sCopies ++ [32, dgt (l.length : Int)]) ++ 10 :: [])) by simp]
  rw [cut_app _ (no10_P _ (by omega) (by omega)), cut_rows _ l (fun x hx => by have := lets_of hv hx; exact ⟨this.1, this.2.1, this.2.2.1⟩), cut_app _ (no10_C _ (by omega) (by omega))]
  rfl
theorem ne32 {n : Int} (h0 : 0 ≤ n) (h9 : n ≤ 9) : dgt n ≠ 32 := by
  have := dgt_val n h0 h9
  rintro h
  rw [h] at this
  have e : ((32 : UInt8).toNat : Int) = 32 := rfl
  omega
theorem cut_d {n : Int} (h0 : 0 ≤ n) (h9 : n ≤ 9) : cut 32 [dgt n] = [[dgt n]] := cut_plain (by intro x hx; simp at hx; subst hx; exact ne32 h0 h9)
theorem words_P (n : Int) (h0 : 0 ≤ n) (h9 : n ≤ 9) : cutB 32 (bA (sPlaces ++ [32, dgt n])) = [bA sPlaces, bA [dgt n]] := by
  unfold cutB
  rw [bA_list, show sPlaces ++ [32, dgt n] = sPlaces ++ 32 :: [dgt n] from rfl, cut_app _ (by decide), cut_d h0 h9]
  rfl
theorem words_C (n : Int) (h0 : 0 ≤ n) (h9 : n ≤ 9) : cutB 32 (bA (sCopies ++ [32, dgt n])) = [bA sCopies, bA [dgt n]] := by
  unfold cutB
  rw [bA_list, show sCopies ++ [32, dgt n] = sCopies ++ 32 :: [dgt n] from rfl, cut_app _ (by decide), cut_d h0 h9]
  rfl
theorem words_row {x : S25} (h : Lets x.f0) (h0 : 0 ≤ x.f1) (h3 : x.f1 ≤ 3) : cutB 32 (bA (rowL x)) = [bA (if x.f2 = true then sSaw else sHad), x.f0, bA [dgt x.f1]] := by
  unfold cutB
  rw [bA_list]
  unfold rowL
  rw [show (if x.f2 = true then sSaw else sHad) ++ 32 :: x.f0.data.toList ++ [32, dgt x.f1] = (if x.f2 = true then sSaw else sHad) ++ 32 :: (x.f0.data.toList ++ 32 :: [dgt x.f1]) by simp]
  rw [cut_app _ (by split <;> decide), cut_app _ ?_, cut_d h0 (by omega)]
  · simp [bA_data]
  · intro y hy e
    subst e
    have := h _ hy
    have e : (32 : UInt8).toNat = 32 := rfl
    omega
theorem toList_bA (l : List UInt8) : (bA l).toList = l := by rw [Lib.toList_data, bA_list]
theorem step_P (n : Int) (h0 : 0 ≤ n) (h9 : n ≤ 9) : stepV 0 [bA sPlaces, bA [dgt n]] [] 0 false = some ([], n, false) := by
  have e0 : rdB [bA sPlaces, bA [dgt n]] 0 = bA sPlaces := rfl
  have e1 : rdB [bA sPlaces, bA [dgt n]] ([bA sPlaces, bA [dgt n]].length - 1) = bA [dgt n] := rfl
  unfold stepV
  rw [e0, e1, dig_of n h0 h9, toList_bA]
  rfl
theorem step_C (i : Nat) (hi : i ≠ 0) (l : List S25) (pl : Int) (h9 : l.length ≤ 9) : stepV i [bA sCopies, bA [dgt (l.length : Int)]] l pl false = some (l, pl, true) := by
  have e0 : rdB [bA sCopies, bA [dgt (l.length : Int)]] 0 = bA sCopies := rfl
  have e1 : rdB [bA sCopies, bA [dgt (l.length : Int)]] ([bA sCopies, bA [dgt (l.length : Int)]].length - 1) = bA [dgt (l.length : Int)] := rfl
  unfold stepV
  rw [e0, e1, dig_of _ (by omega) (by omega), toList_bA, if_neg, if_neg hi, if_pos rfl, if_pos ⟨rfl, rfl⟩]
  rintro (h | h | h)
  · cases h
  · cases h
  · rw [show (sCopies == sPlaces) = false by decide, show (i == 0) = false by simpa using hi] at h
    cases h
theorem step_row (i : Nat) (hi : i ≠ 0) (l : List S25) (x : S25) (h0 : 0 ≤ x.f1) (h3 : x.f1 ≤ 3) : stepV i [bA (if x.f2 = true then sSaw else sHad), x.f0, bA [dgt x.f1]] l (x.f0.size : Int) false = some (l ++ [x], (x.f0.size : Int), false) := by
  have e0 : rdB [bA (if x.f2 = true then sSaw else sHad), x.f0, bA [dgt x.f1]] 0 = bA (if x.f2 = true then sSaw else sHad) := rfl
  have e1 : rdB [bA (if x.f2 = true then sSaw else sHad), x.f0, bA [dgt x.f1]] ([bA (if x.f2 = true then sSaw else sHad), x.f0, bA [dgt x.f1]].length - 1) = bA [dgt x.f1] := rfl
  have e2 : rdB [bA (if x.f2 = true then sSaw else sHad), x.f0, bA [dgt x.f1]] 1 = x.f0 := rfl
  unfold stepV
  rw [e0, e1, e2, dig_of _ (by omega) (by omega), toList_bA, if_neg, if_neg hi, if_neg (by split <;> decide), if_pos ⟨by split <;> simp, rfl, rfl⟩]
  · obtain ⟨a, b, c⟩ := x
    cases c <;> rfl
  · rintro (h | h | h)
    · cases h
    · cases h
    · rw [show ((if x.f2 = true then sSaw else sHad) == sPlaces) = false by split <;> decide, show (i == 0) = false by simpa using hi] at h
      cases h
theorem go_rows {l : List S25} (hv : Valid l) (R : List ByteArray) (hR : R = (rowsW l).map bA) : ∀ rem i, i + rem = l.length → goV R (rem + 1) (i + 1) (l.take i) ((rd_T25 l 0).f0.size : Int) false = (l, 0, 0) := by
  have h5 := hv.five
  have hlen : (rowsW l).length = l.length + 3 := by unfold rowsW; simp
  have hget : ∀ (i : Nat) (r : List UInt8), (rowsW l)[i]? = some r → rdB R i = bA r := by
    intro i r h
    unfold rdB rdOf
    rw [hR, Int.toNat_natCast, List.getD_eq_getElem?_getD, List.getElem?_map, h]
    rfl
  intro rem
  induction rem with
  | zero =>
    intro i hi
    obtain rfl : i = l.length := by omega
    have h1 : rdB R (l.length + 1) = bA (sCopies ++ [32, dgt (l.length : Int)]) := hget _ _ (by unfold rowsW; simp)
    have h2 : rdB R (l.length + 1 + 1) = bA [] := hget _ _ (by unfold rowsW; simp)
    unfold goV
    rw [h1, words_C _ (by omega) (by omega), List.take_length, step_C _ (by omega) _ _ (by omega)]
    show goV R 0 (l.length + 1 + 1) l _ true = _
    unfold goV
    rw [h2, toList_bA, if_pos ⟨rfl, rfl⟩, if_pos (check_of_valid hv)]
  | succ rem ih =>
    intro i hi
    have hi' : i < l.length := by omega
    obtain ⟨g1, g2, g3, g4⟩ := lets_of hv (List.getElem_mem hi')
    have h1 : rdB R (i + 1) = bA (rowL l[i]) := hget _ _ (by unfold rowsW; simp [List.getElem?_append, hi'])
    unfold goV
    rw [h1, words_row g1 g2 g3, ← g4, step_row _ (by omega) _ _ g2 g3]
    show goV R (rem + 1) (i + 1 + 1) (l.take i ++ [l[i]]) _ false = _
    rw [← List.take_succ_eq_append_getElem hi', g4]
    exact ih (i + 1) (by omega)
theorem read_write {l : List S25} (hv : Valid l) : readV (bA (wrL l)) = (l, 0, 0) := by
  have h5 := hv.five
  have hh := hv.high
  have hc : cutB 10 (bA (wrL l)) = (rowsW l).map bA := by unfold cutB; rw [bA_list, cut_wr hv]
  have hsz : (wrL l).length ≤ 200 := by
    have := rows_size l (fun x hx => by have := (lets_of hv hx).2.2.2; omega)
    unfold wrL
    simp at this ⊢
    omega
  unfold readV
  rw [if_neg (by rw [bA_size]; omega)]
  obtain ⟨R, hR⟩ : ∃ R, R = (rowsW l).map bA := ⟨_, rfl⟩
  rw [hc, ← hR]
  have hlen : R.length - 1 = l.length + 1 + 1 := by rw [hR]; unfold rowsW; simp
  rw [hlen]
  have h0 : rdB R 0 = bA (sPlaces ++ [32, dgt ((rd_T25 l 0).f0.size : Int)]) := by rw [hR]; rfl
  rw [goV, h0, words_P _ (by omega) (by omega), step_P _ (by omega) (by omega)]
  exact go_rows hv R hR l.length 0 (by omega)
theorem cutB_jn (c : UInt8) (s : ByteArray) : s.data.toList = jn c ((cutB c s).map (·.data.toList)) := by
  unfold cutB
  rw [List.map_map]
  have : (cut c s.data.toList).map ((·.data.toList) ∘ bA) = cut c s.data.toList := by
    conv => rhs; rw [← List.map_id (cut c s.data.toList)]
    apply List.map_congr_left
    intro x _
    exact bA_list x
  rw [this, jn_cut]
theorem len2 {W : List ByteArray} (h : W.length = 2) : W = [rdB W 0, rdB W 1] := by
  match W, h with
  | [a, b], _ => rfl
theorem len3 {W : List ByteArray} (h : W.length = 3) : W = [rdB W 0, rdB W 1, rdB W 2] := by
  match W, h with
  | [a, b, c], _ => rfl
theorem step_inv {i : Nat} (hi : i ≠ 0) {r : ByteArray} {l l' : List S25} {pl pl' : Int} {en en' : Bool} (h : stepV i (cutB 32 r) l pl en = some (l', pl', en')) :
    en = false ∧ pl' = pl ∧ ((en' = true ∧ l' = l ∧ l.length ≤ 9 ∧ r.data.toList = sCopies ++ [32, dgt (l.length : Int)]) ∨ (en' = false ∧ ∃ x : S25, l' = l ++ [x] ∧ (x.f0.size : Int) = pl ∧ r.data.toList = rowL x)) := by
  have hj := cutB_jn 32 r
  obtain ⟨W, hW⟩ : ∃ W, W = cutB 32 r := ⟨_, rfl⟩
  rw [← hW] at h hj
  unfold stepV at h
  split at h
  · cases h
  · rename_i hn
    have hd : (dig (rdB W (W.length - 1))).2 = true := by
      by_cases e : (dig (rdB W (W.length - 1))).2 = false
      · exact absurd (.inl e) hn
      · simpa using e
    have he : en = false := by
      cases en
      · rfl
      · exact absurd (.inr (.inl rfl)) hn
    obtain ⟨d1, d2, d3⟩ := dig_true hd
    try rw [if_neg hi] at h
    split at h
    · rename_i hc
      split at h
      · rename_i h2
        injection h with h
        injection h with ha hb
        injection hb with hb hc2
        refine ⟨he, hb.symm, .inl ⟨hc2.symm, ha.symm, by omega, ?_⟩⟩
        have hw := len2 h2.1
        rw [h2.1] at d1
        have d1' : (rdB W 1).data.toList = [dgt (l.length : Int)] := by rw [← h2.2, h2.1]; exact d1
        rw [hj, hw]
        show jn 32 [(rdB W 0).data.toList, (rdB W 1).data.toList] = _
        rw [d1', ← Lib.toList_data, hc]
        rfl
      · cases h
    · split at h
      · rename_i h3
        injection h with h
        injection h with ha hb
        injection hb with hb hc2
        refine ⟨he, hb.symm, .inr ⟨by rw [← hc2]; exact he, _, ha.symm, h3.2.2, ?_⟩⟩
        have hw := len3 h3.2.1
        rw [h3.2.1] at d1 ⊢
        have hm : W.map (·.data.toList) = [(rdB W 0).data.toList, (rdB W 1).data.toList, (rdB W 2).data.toList] := by
          conv => lhs; rw [hw]
          rfl
        rw [hj, hm]
        have d1' : (rdB W 2).data.toList = [dgt (dig (rdB W (3 - 1))).1] := d1
        unfold rowL
        rw [d1', ← Lib.toList_data (rdB W 0)]
        rcases h3.1 with e | e
        · rw [e]
          simp [jn]
        · rw [e]
          simp [jn]
      · cases h
theorem go_true {R : List ByteArray} {rem i : Nat} (hi : i ≠ 0) {l y : List S25} {pl r : Int} (h : goV R rem i l pl true = (y, r, 0)) : rem = 0 ∧ y = l ∧ (rdB R i).data.toList = [] ∧ checkV y = 0 := by
  cases rem with
  | zero =>
    unfold goV at h
    split at h
    · rename_i h1
      split at h
      · rename_i h2
        injection h with ha hb
        exact ⟨rfl, ha.symm, by rw [← Lib.toList_data]; exact h1.2, by rw [← ha]; exact h2⟩
      · rename_i h2
        injection h with ha hb
        injection hb with hb hc
        exact absurd hc h2
    · injection h with ha hb
      injection hb with hb hc
      cases hc
  | succ rem =>
    unfold goV at h
    split at h
    · injection h with ha hb
      injection hb with hb hc
      cases hc
    · rename_i l' pl' en' hs
      have := (step_inv hi hs).1
      cases this
theorem go_false {R : List ByteArray} : ∀ (rem i : Nat) (l y : List S25) (pl r : Int), i ≠ 0 → i + rem + 1 = R.length → goV R rem i l pl false = (y, r, 0) →
    checkV y = 0 ∧ ∃ m, y = l ++ m ∧ (∀ x ∈ m, (x.f0.size : Int) = pl) ∧ (R.drop i).map (·.data.toList) = m.map rowL ++ [sCopies ++ [32, dgt (y.length : Int)], []] := by
  intro rem
  induction rem with
  | zero =>
    intro i l y pl r hi hR h
    unfold goV at h
    split at h
    · rename_i h1
      cases h1.1
    · injection h with ha hb
      injection hb with hb hc
      cases hc
  | succ rem ih =>
    intro i l y pl r hi hR h
    have hi' : i < R.length := by omega
    have hdrop : R.drop i = rdB R i :: R.drop (i + 1) := by rw [List.drop_eq_getElem_cons hi', rdB_get R i hi']
    unfold goV at h
    split at h
    · injection h with ha hb
      injection hb with hb hc
      cases hc
    · rename_i l' pl' en' hs
      obtain ⟨_, rfl, h2⟩ := step_inv hi hs
      rcases h2 with ⟨rfl, rfl, h9, hr⟩ | ⟨rfl, x, rfl, hx, hr⟩
      · obtain ⟨rfl, rfl, he, hc⟩ := go_true (by omega) h
        refine ⟨hc, [], by simp, by simp, ?_⟩
        have hdrop2 : R.drop (i + 1) = [rdB R (i + 1)] := by rw [List.drop_eq_getElem_cons (by omega), rdB_get R (i + 1) (by omega), List.drop_of_length_le (by omega)]
        rw [hdrop, hdrop2]
        simp [hr, he]
      · obtain ⟨hc, m, rfl, hm, hd⟩ := ih (i + 1) _ _ _ _ (by omega) (by omega) h
        refine ⟨hc, x :: m, by simp, ?_, ?_⟩
        · intro z hz
          rcases List.mem_cons.1 hz with rfl | hz
          · exact hx
          · exact hm z hz
        · rw [hdrop, List.map_cons, hd, hr]
          rfl
theorem write_read {s : ByteArray} {y : List S25} {r : Int} (h : readV s = (y, r, 0)) : checkV y = 0 ∧ bA (wrL y) = s := by
  unfold readV at h
  split at h
  · injection h with ha hb
    injection hb with hb hc
    cases hc
  · have hw := cutB_len 10 s
    have hj := cutB_jn 10 s
    obtain ⟨R, hR⟩ : ∃ R, R = cutB 10 s := ⟨_, rfl⟩
    rw [← hR] at h hw hj
    cases hrem : R.length - 1 with
    | zero =>
      rw [hrem] at h
      unfold goV at h
      split at h
      · rename_i h1; cases h1.1
      · injection h with ha hb
        injection hb with hb hc
        cases hc
    | succ rem =>
      rw [hrem] at h
      unfold goV at h
      split at h
      · injection h with ha hb
        injection hb with hb hc
        cases hc
      · rename_i l' pl' en' hs
        have hjw := cutB_jn 32 (rdB R 0)
        obtain ⟨W, hW⟩ : ∃ W, W = cutB 32 (rdB R 0) := ⟨_, rfl⟩
        rw [← hW] at hs hjw
        unfold stepV at hs
        split at hs
        · cases hs
        · rename_i hn
          have hd : (dig (rdB W (W.length - 1))).2 = true := by
            by_cases e : (dig (rdB W (W.length - 1))).2 = false
            · exact absurd (.inl e) hn
            · simpa using e
          have hp : (rdB W 0).toList = sPlaces := by
            by_cases e : (rdB W 0).toList = sPlaces
            · exact e
            · exfalso
              apply hn
              right; right
              rw [show ((rdB W 0).toList == sPlaces) = false by simpa using e]
              rfl
          obtain ⟨d1, d2, d3⟩ := dig_true hd
          try rw [if_pos rfl] at hs
          split at hs
          · rename_i h2
            injection hs with hs
            injection hs with ha hb
            injection hb with hb hc
            rw [← ha, ← hb, ← hc] at h
            obtain ⟨hck, m, hy, hm, hdr⟩ := go_false rem 1 _ _ _ _ (by omega) (by omega) h
            refine ⟨hck, ?_⟩
            have hv := valid_of_check hck
            have hym : y = m := by simpa using hy
            subst hym
            have h1 := hv.one
            have hsz : ((rd_T25 y 0).f0.size : Int) = (dig (rdB W (W.length - 1))).1 := by
              have h0 : 0 < y.length := by omega
              have e0 : rd_T25 y 0 = y[0] := by unfold rd_T25; simp [List.getD_eq_getElem?_getD, h0]
              rw [e0]
              exact hm _ (List.getElem_mem h0)
            have hw2 := len2 h2
            have hr0 : (rdB R 0).data.toList = sPlaces ++ [32, dgt ((rd_T25 y 0).f0.size : Int)] := by
              rw [h2] at d1 hsz
              have d1' : (rdB W 1).data.toList = [dgt (dig (rdB W (2 - 1))).1] := d1
              rw [hjw, hw2]
              show jn 32 [(rdB W 0).data.toList, (rdB W 1).data.toList] = _
              rw [d1', ← Lib.toList_data (rdB W 0), hp, hsz]
              rfl
            have hR0 : R = rdB R 0 :: R.drop 1 := by
              conv => lhs; rw [← List.drop_zero (l := R)]
              rw [List.drop_eq_getElem_cons (by omega), rdB_get R 0 (by omega)]
            have hmap : R.map (·.data.toList) = rowsW y := by
              rw [hR0, List.map_cons, hdr, hr0]
              rfl
            rw [hmap] at hj
            rw [← bA_data s, hj, ← cut_wr hv, jn_cut]
          · cases hs
end Go.Proofs.YtecdjnabmjhakaaDoor.P.OwnSt
namespace Go.Proofs.YtecdjnabmjhakaaDoor.P.OwnSt
open Go.RowKit Go.Proofs.YtecdjnabmjhakaaDoorW.PrintWords Go.Proofs.YtecdjnabmjhakaaDoorW.PrintLast Go.Proofs.YtecdjnabmjhakaaDoorW.PrintMore
set_option linter.unusedVariables false
set_option linter.unusedSimpArgs false
section
variable (l : List S25) (fs : Nat → Int) (place letter : Int)
end
section
variable {l : List S25} {fs : Nat → Int} {place letter : Int}
end
end Go.Proofs.YtecdjnabmjhakaaDoor.P.OwnSt
namespace Go.Proofs.YtecdjnabmjhakaaDoor.P.OwnSt
open Go.RowKit Go.Proofs.YtecdjnabmjhakaaDoorW.PrintWords Go.Proofs.YtecdjnabmjhakaaDoorW.PrintLast Go.Proofs.YtecdjnabmjhakaaDoorW.PrintMore
open OwnUrn
set_option linter.unusedVariables false
set_option linter.unusedSimpArgs false
theorem wrap_u64_range (n : Int) : 0 ≤ IntKind.u64.wrap n ∧ IntKind.u64.wrap n < 18446744073709551616 := by
  have h : IntKind.u64.wrap n = n % 18446744073709551616 := by simp [IntKind.wrap, IntKind.bits, IntKind.signed]
  rw [h]
  omega
theorem wrap_u64_small {n : Int} (h0 : 0 ≤ n) (h1 : n < 18446744073709551616) : IntKind.u64.wrap n = n := by
  have h : IntKind.u64.wrap n = n % 18446744073709551616 := by simp [IntKind.wrap, IntKind.bits, IntKind.signed]
  rw [h]
  omega
theorem turn_ok (a b : Int) : ∃ v a' b', cippuskit_Urn_turn.f a b = some (v, a', b') ∧ 0 ≤ v ∧ v < 18446744073709551616 := by
  unfold cippuskit_Urn_turn.f
  split
  · exact ⟨_, _, _, rfl, wrap_u64_range _⟩
  · exact ⟨_, _, _, rfl, wrap_u64_range _⟩
theorem up_ok (a b n : Int) (hn : n ≤ 1000) : ∃ v a' b', cippuskit_Urn_Up.f a b n = some (v, a', b') ∧ 0 ≤ v ∧ (v < n ∨ v = 0) := by
  unfold cippuskit_Urn_Up.f
  by_cases h : n < 2
  · rw [if_pos h]
    exact ⟨0, a, b, rfl, Int.le_refl _, .inr rfl⟩
  · rw [if_neg h]
    obtain ⟨v, a', b', e, h0, h1⟩ := turn_ok a b
    rw [e, Option.bind_some, wrap_u64_small (by omega) (by omega), if_neg (by omega)]
    have h2 : 0 ≤ v / 2048 := by omega
    have h3 : Int.tmod (v / 2048) n = (v / 2048) % n := Int.tmod_eq_emod_of_nonneg h2
    have h4 := Int.emod_nonneg (v / 2048) (show n ≠ 0 by omega)
    have h5 := Int.emod_lt_of_pos (v / 2048) (show 0 < n by omega)
    refine ⟨_, _, _, rfl, ?_⟩
    show 0 ≤ wrap64 (Int.tmod (v / 2048) n) ∧ (wrap64 (Int.tmod (v / 2048) n) < n ∨ _)
    rw [h3, wrap64_small h4 (by omega)]
    exact ⟨h4, .inl h5⟩
theorem from_ok (a b lo hi : Int) (h0 : -1000 ≤ lo) (h1 : lo ≤ 1000) (h2 : -1000 ≤ hi) (h3 : hi ≤ 900 + lo) : ∃ v a' b', cippuskit_Urn_From.f a b lo hi = some (v, a', b') ∧ lo ≤ v ∧ (v ≤ hi ∨ v = lo) := by
  unfold cippuskit_Urn_From.f
  have e1 : wrap64 (hi - lo) = hi - lo := by simp [wrap64]; omega
  have e2 : wrap64 (hi - lo + 1) = hi - lo + 1 := by simp [wrap64]; omega
  rw [e1, e2]
  obtain ⟨v, a', b', e, h4, h5⟩ := up_ok a b (hi - lo + 1) (by omega)
  rw [e, Option.bind_some]
  refine ⟨_, _, _, rfl, ?_⟩
  have e3 : wrap64 (lo + v) = lo + v := by simp [wrap64]; omega
  show lo ≤ wrap64 (lo + v) ∧ (wrap64 (lo + v) ≤ hi ∨ wrap64 (lo + v) = lo)
  rw [e3]
  omega
theorem odds_ok (a b n m : Int) (hm : m ≤ 1000) : ∃ v a' b', cippuskit_Urn_Odds.f a b n m = some (v, a', b') := by
  unfold cippuskit_Urn_Odds.f
  obtain ⟨v, a', b', e, _⟩ := up_ok a b m hm
  rw [e, Option.bind_some]
  exact ⟨_, _, _, rfl⟩
def diffL (b c : List Int) : Nat → Nat
  | 0 => 0
  | m + 1 => diffL b c m + if b.getD m 0 = c.getD m 0 then 0 else 1
theorem diffL_tri (a b c : List Int) : ∀ m, diffL a c m ≤ diffL a b m + diffL b c m := by
  intro m
  induction m with
  | zero => simp [diffL]
  | succ m ih =>
    unfold diffL
    by_cases h1 : a.getD m 0 = b.getD m 0
    · by_cases h2 : b.getD m 0 = c.getD m 0
      · rw [if_pos h1, if_pos h2, if_pos (h1.trans h2)]; omega
      · rw [if_pos h1, if_neg h2, if_neg (fun h => h2 (h1.symm.trans h))]; omega
    · rw [if_neg h1]
      split <;> split <;> omega
theorem diffL_self (a : List Int) : ∀ m, diffL a a m = 0 := by
  intro m
  induction m with
  | zero => rfl
  | succ m ih => unfold diffL; rw [ih, if_pos rfl]
theorem diffL_set (a : List Int) (i : Nat) (v : Int) : ∀ m, diffL a (a.set i v) m ≤ if i < m then 1 else 0 := by
  intro m
  induction m with
  | zero => simp [diffL]
  | succ m ih =>
    unfold diffL
    by_cases e : m = i
    · subst e
      rw [if_neg (by omega)] at ih
      rw [show (if m < m + 1 then 1 else 0) = 1 from if_pos (by omega)]
      split <;> omega
    · have h : (a.set i v).getD m 0 = a.getD m 0 := by
        rw [List.getD_eq_getElem?_getD, List.getD_eq_getElem?_getD, List.getElem?_set_ne (fun h => e h.symm)]
      rw [h, if_pos rfl]
      split at ih <;> split <;> omega
def letL (b : List Int) : Prop := ∀ x ∈ b, 65 ≤ x ∧ x ≤ 67
theorem erredGo_ok : ∀ (n : Nat) (b : List Int) (s0 s1 : Int), letL b → 1 ≤ b.length → b.length ≤ 100 → ∃ r s0' s1', erredGo n b s0 s1 = some (r, s0', s1') ∧ letL r ∧ r.length = b.length ∧ diffL b r b.length ≤ n := by
  intro n
  induction n with
  | zero => intro b s0 s1 h _ _; exact ⟨b, s0, s1, rfl, h, rfl, by rw [diffL_self]; exact Nat.le_refl _⟩
  | succ n ih =>
    intro b s0 s1 h h1 h2
    unfold erredGo
    obtain ⟨v, a', b', e, h3, h4⟩ := up_ok s0 s1 (b.length : Int) (by omega)
    rw [e, Option.bind_some]
    obtain ⟨u, a2, b2, e2, h5, h6⟩ := up_ok a' b' 3 (by omega)
    rw [e2, Option.bind_some, if_pos ⟨h3, by omega⟩]
    have e3 : wrap64 (65 + u) % 256 = 65 + u := by rw [wrap64_small (by omega) (by omega)]; omega
    rw [e3]
    obtain ⟨r, s0', s1', e4, h7, h8, h9⟩ := ih (b.set v.toNat (65 + u)) a2 b2 (fun x hx => by
      rcases List.mem_or_eq_of_mem_set hx with hx | rfl
      · exact h x hx
      · omega) (by rw [List.length_set]; exact h1) (by rw [List.length_set]; exact h2)
    rw [List.length_set] at h8 h9
    refine ⟨r, s0', s1', e4, h7, h8, ?_⟩
    have t := diffL_tri b (b.set v.toNat (65 + u)) r b.length
    have s := diffL_set b v.toNat (65 + u) b.length
    split at s <;> omega
theorem bt_str (xs : List Int) (p : Nat) (hx : ∀ x ∈ xs, 0 ≤ x ∧ x ≤ 255) (hp : p < xs.length) : bt (strOfNums xs) (p : Int) = xs.getD p 0 := by
  have hs : p < (strOfNums xs).size := by rw [strOfNums_size]; exact hp
  rw [← bt_at (strOfNums xs) (p : Int) (by simpa using hs)]
  have h1 : ((strOfNums xs)[(p : Int).toNat]'(by simpa using hs)) = UInt8.ofNat (xs.getD p 0).toNat := by
    show (strOfNums xs).data[(p : Int).toNat]'_ = _
    simp [strOfNums, List.getD_eq_getElem?_getD, List.getElem?_eq_getElem hp]
  rw [h1]
  have h2 := hx (xs.getD p 0) (by rw [List.getD_eq_getElem?_getD, List.getElem?_eq_getElem hp]; exact List.getElem_mem hp)
  revert h2
  generalize xs.getD p 0 = z
  intro h2
  simp
  omega
theorem bytesOf_get (b : ByteArray) (p : Nat) : (bytesOf b).getD p 0 = bt b (p : Int) := by
  rw [← rd_bytesOf]
  rfl
def letB (b : ByteArray) : Prop := ∀ p : Nat, p < b.size → 65 ≤ bt b (p : Int) ∧ bt b (p : Int) ≤ 67
theorem letB_list {b : ByteArray} (h : letB b) : letL (bytesOf b) := by
  intro x hx
  obtain ⟨p, hp, rfl⟩ := List.getElem_of_mem hx
  have h2 := h p (by rw [← bytesOf_length]; exact hp)
  rw [← bytesOf_get, List.getD_eq_getElem?_getD, List.getElem?_eq_getElem hp] at h2
  exact h2
theorem letL_str {xs : List Int} (h : letL xs) : letB (strOfNums xs) := by
  intro p hp
  rw [strOfNums_size] at hp
  rw [bt_str xs p (fun x hx => by have := h x hx; omega) hp]
  exact h _ (by rw [List.getD_eq_getElem?_getD, List.getElem?_eq_getElem hp]; exact List.getElem_mem hp)
theorem apN_diff (b : ByteArray) (r : List Int) (hr : letL r) : ∀ m, m ≤ r.length → apN b (strOfNums r) m = (diffL (bytesOf b) r m : Int) := by
  intro m
  induction m with
  | zero => intro _; simp [apN, diffL]
  | succ m ih =>
    intro hm
    rw [apN_succ, ih (by omega), diffL, bt_str r m (fun x hx => by have := hr x hx; omega) (by omega), bytesOf_get]
    split <;> simp
theorem erred_ok (s0 s1 : Int) (a : ByteArray) (e : Int) (ha : letB a) (h1 : 1 ≤ a.size) (h2 : a.size ≤ 100) (he : 0 ≤ e) (he2 : e ≤ 1000) : ∃ t s0' s1', erred s0 s1 a e = some (t, s0', s1') ∧ letB t ∧ t.size = a.size ∧ apN a t a.size ≤ e := by
  unfold erred
  rw [if_pos ⟨by omega, by omega⟩]
  obtain ⟨r, s0', s1', e1, h3, h4, h5⟩ := erredGo_ok e.toNat (bytesOf a) s0 s1 (letB_list ha) (by rw [bytesOf_length]; exact h1) (by rw [bytesOf_length]; exact h2)
  rw [e1]
  rw [bytesOf_length] at h4 h5
  refine ⟨_, _, _, rfl, letL_str h3, by rw [strOfNums_size]; exact h4, ?_⟩
  rw [apN_diff a r h3 _ (by omega)]
  omega
theorem stoneGo_ok : ∀ (n : Nat) (a b : Int) (s : ByteArray), letB s → s.size + n ≤ 100 → ∃ t a' b', stoneGo n a b s = some (t, a', b') ∧ letB t ∧ t.size = s.size + n := by
  intro n
  induction n with
  | zero => intro a b s h _; exact ⟨s, a, b, rfl, h, rfl⟩
  | succ n ih =>
    intro a b s h hs
    unfold stoneGo
    obtain ⟨u, a2, b2, e2, h5, h6⟩ := up_ok a b 3 (by omega)
    rw [e2, Option.bind_some, if_pos (by omega)]
    have e3 : wrap64 (65 + u) % 256 = 65 + u := by rw [wrap64_small (by omega) (by omega)]; omega
    show ∃ t a' b', stoneGo n a2 b2 (s ++ strOfNums [wrap64 (65 + u) % 256]) = some (t, a', b') ∧ _
    rw [e3]
    have hsz : (s ++ strOfNums [65 + u]).size = s.size + 1 := by rw [ByteArray.size_append, strOfNums_size]; rfl
    obtain ⟨t, a', b', e4, h7, h8⟩ := ih a2 b2 (s ++ strOfNums [65 + u]) (fun p hp => by
      by_cases hp2 : p < s.size
      · have e5 : bt (s ++ strOfNums [65 + u]) (p : Int) = bt s (p : Int) := by
          rw [← bt_at _ (p : Int) (by simpa using hp), ← bt_at s (p : Int) (by simpa using hp2)]
          simp only [Int.toNat_natCast]
          rw [ByteArray.getElem_append_left hp2]
        rw [e5]
        exact h p hp2
      · have hpe : p = s.size := by omega
        have e5 : bt (s ++ strOfNums [65 + u]) (p : Int) = 65 + u := by
          rw [← bt_at _ (p : Int) (by simpa using hp)]
          simp only [Int.toNat_natCast]
          rw [ByteArray.getElem_append_right (by omega)]
          have h9 := bt_str [65 + u] 0 (fun x hx => by simp at hx; omega) (by simp)
          rw [← bt_at _ ((0 : Nat) : Int) (by rw [strOfNums_size]; simp)] at h9
          simpa [hpe] using h9
        rw [e5]
        omega) (by omega)
    exact ⟨t, a', b', e4, h7, by omega⟩
def fromOf (st : ByteArray) (l : List S25) (f : Int) : ByteArray := if f < 0 then st else (rd_T25 l f).f0
structure MadeOk (er : Int) (st : ByteArray) (l : List S25) (src : List Int) : Prop where
  len : src.length = l.length
  one : ∀ i : Nat, i < l.length → (letB (rd_T25 l (i : Int)).f0 ∧ (rd_T25 l (i : Int)).f0.size = st.size) ∧ (0 ≤ (rd_T25 l (i : Int)).f1 ∧ (rd_T25 l (i : Int)).f1 ≤ er) ∧ (-1 ≤ src.getD i 0 ∧ src.getD i 0 < i) ∧ (src.getD i 0 < 0 → (rd_T25 l (i : Int)).f2 = true) ∧ apN (fromOf st l (src.getD i 0)) (rd_T25 l (i : Int)).f0 st.size ≤ (rd_T25 l (i : Int)).f1
theorem rd_snoc_lt (l : List S25) (x : S25) (i : Int) (h0 : 0 ≤ i) (h : i < l.length) : rd_T25 (l ++ [x]) i = rd_T25 l i := by
  unfold rd_T25
  rw [List.getD_eq_getElem?_getD, List.getD_eq_getElem?_getD, List.getElem?_append_left (by omega)]
theorem rd_snoc_eq (l : List S25) (x : S25) : rd_T25 (l ++ [x]) (l.length : Int) = x := by
  unfold rd_T25
  rw [List.getD_eq_getElem?_getD, Int.toNat_natCast, List.getElem?_append_right (Nat.le_refl _)]
  simp
theorem MadeOk.snoc {er : Int} {st : ByteArray} {l : List S25} {src : List Int} (h : MadeOk er st l src) (x : S25) (f : Int) (hx : letB x.f0 ∧ x.f0.size = st.size) (he : 0 ≤ x.f1 ∧ x.f1 ≤ er) (hf : -1 ≤ f ∧ f < l.length) (hs : f < 0 → x.f2 = true) (ha : apN (fromOf st l f) x.f0 st.size ≤ x.f1) : MadeOk er st (l ++ [x]) (src ++ [f]) := by
  refine ⟨by simp [h.len], fun i hi => ?_⟩
  rw [List.length_append, List.length_singleton] at hi
  by_cases e : i = l.length
  · subst e
    have e1 : (src ++ [f]).getD l.length 0 = f := by
      rw [List.getD_eq_getElem?_getD, List.getElem?_append_right (by rw [h.len]; exact Nat.le_refl _)]
      simp [h.len]
    rw [e1, rd_snoc_eq]
    refine ⟨hx, he, hf, hs, ?_⟩
    have e2 : fromOf st (l ++ [x]) f = fromOf st l f := by
      unfold fromOf
      split
      · rfl
      · rw [rd_snoc_lt l x f (by omega) hf.2]
    rw [e2]
    exact ha
  · have hi2 : i < l.length := by omega
    have e1 : (src ++ [f]).getD i 0 = src.getD i 0 := by
      rw [List.getD_eq_getElem?_getD, List.getD_eq_getElem?_getD, List.getElem?_append_left (by rw [h.len]; exact hi2)]
    have h1 := h.one i hi2
    rw [e1, rd_snoc_lt l x (i : Int) (by omega) (by omega)]
    refine ⟨h1.1, h1.2.1, h1.2.2.1, h1.2.2.2.1, ?_⟩
    have e2 : fromOf st (l ++ [x]) (src.getD i 0) = fromOf st l (src.getD i 0) := by
      unfold fromOf
      split
      · rfl
      · rw [rd_snoc_lt l x _ (by omega) (by have := h1.2.2.1; omega)]
    rw [e2]
    exact h1.2.2.2.2
theorem copyGo_ok (er : Int) (st : ByteArray) (her : 0 ≤ er) (her2 : er ≤ 900) (hst : letB st) (h1 : 1 ≤ st.size) (h2 : st.size ≤ 100) : ∀ (n : Nat) (l : List S25) (src : List Int) (a b : Int), MadeOk er st l src → l.length + n ≤ 100 →
    ∃ l' src' a' b', copyGo n er st l src a b = some (l', src', a', b') ∧ MadeOk er st l' src' ∧ l'.length = l.length + n := by
  intro n
  induction n with
  | zero => intro l src a b h _; exact ⟨l, src, a, b, rfl, h, rfl⟩
  | succ n ih =>
    intro l src a b h hl
    unfold copyGo
    have e0 : wrap64 ((l.length : Int) - 1) = (l.length : Int) - 1 := by simp [wrap64]; omega
    rw [e0]
    obtain ⟨f, a1, b1, e1, f1, f2⟩ := from_ok a b (-1) ((l.length : Int) - 1) (by omega) (by omega) (by omega) (by omega)
    rw [e1, Option.bind_some]
    have e2 : wrap64 (er + 1) = er + 1 := wrap64_small (by omega) (by omega)
    rw [e2]
    obtain ⟨u, a2, b2, e3, u1, u2⟩ := up_ok a1 b1 (er + 1) (by omega)
    show ∃ l' src' a' b', ((cippuskit_Urn_Up.f a1 b1 (er + 1)).bind _) = _ ∧ _
    rw [e3, Option.bind_some]
    obtain ⟨o, a3, b3, e4, o1⟩ : ∃ o a3 b3, (if f < 0 then some (true, a2, b2) else cippuskit_Urn_Odds.f a2 b2 1 2) = some (o, a3, b3) ∧ (f < 0 → o = true) := by
      by_cases hf : f < 0
      · exact ⟨true, a2, b2, if_pos hf, fun _ => rfl⟩
      · obtain ⟨v, a', b', e⟩ := odds_ok a2 b2 1 2 (by omega)
        exact ⟨v, a', b', (if_neg hf).trans e, fun h => absurd h hf⟩
    show ∃ l' src' a' b', ((if f < 0 then some (true, a2, b2) else cippuskit_Urn_Odds.f a2 b2 1 2).bind _) = _ ∧ _
    rw [e4, Option.bind_some]
    have e5 : (if 0 ≤ f then (if f < (l.length : Int) then some (rd_T25 l f).f0 else none) else some st) = some (fromOf st l f) := by
      unfold fromOf
      by_cases hf : f < 0
      · rw [if_neg (by omega), if_pos hf]
      · rw [if_pos (by omega), if_pos (by omega), if_neg hf]
    show ∃ l' src' a' b', ((if 0 ≤ f then (if f < (l.length : Int) then some (rd_T25 l f).f0 else none) else some st).bind _) = _ ∧ _
    rw [e5, Option.bind_some]
    have hfr : letB (fromOf st l f) ∧ (fromOf st l f).size = st.size := by
      unfold fromOf
      split
      · exact ⟨hst, rfl⟩
      · have h3 := h.one f.toNat (by omega)
        rw [show ((f.toNat : Nat) : Int) = f by omega] at h3
        exact h3.1
    obtain ⟨t, a4, b4, e6, t1, t2, t3⟩ := erred_ok a3 b3 (fromOf st l f) u hfr.1 (by rw [hfr.2]; exact h1) (by rw [hfr.2]; exact h2) u1 (by omega)
    show ∃ l' src' a' b', ((erred a3 b3 (fromOf st l f) u).bind _) = _ ∧ _
    rw [e6, Option.bind_some, if_pos (by rw [h.len]; omega)]
    obtain ⟨l', src', a', b', e7, m1, m2⟩ := ih (l ++ [⟨t, u, o⟩]) (src ++ [f]) a4 b4 (h.snoc ⟨t, u, o⟩ f ⟨t1, by rw [t2]; exact hfr.2⟩ ⟨u1, show u ≤ er by omega⟩ ⟨f1, show f < (l.length : Int) by omega⟩ o1 (by rw [hfr.2] at t3; exact t3)) (by simp; omega)
    refine ⟨l', src', a', b', e7, m1, ?_⟩
    rw [m2]
    simp
    omega
theorem copiesOf_ok (s0 s1 copies places er : Int) (h1 : 1 ≤ copies) (h2 : copies ≤ 90) (h3 : 1 ≤ places) (h4 : places ≤ 90) (h5 : 0 ≤ er) (h6 : er ≤ 900) :
    ∃ l st src a b, copiesOf s0 s1 copies places er = some (l, st, src, a, b) ∧ MadeOk er st l src ∧ (1 ≤ l.length ∧ (l.length : Int) ≤ copies) ∧ (1 ≤ st.size ∧ (st.size : Int) ≤ places) ∧ letB st := by
  unfold copiesOf
  obtain ⟨p, a1, b1, e1, p1, p2⟩ := from_ok s0 s1 1 places (by omega) (by omega) (by omega) (by omega)
  rw [e1, Option.bind_some]
  obtain ⟨st, a2, b2, e2, q1, q2⟩ := stoneGo_ok p.toNat a1 b1 ⟨#[]⟩ (fun p hp => by simp [ByteArray.size] at hp) (by simp [ByteArray.size]; omega)
  show ∃ l st src a b, ((stoneGo p.toNat a1 b1 ⟨#[]⟩).bind _) = _ ∧ _
  rw [e2, Option.bind_some]
  obtain ⟨n, a3, b3, e3, n1, n2⟩ := from_ok a2 b2 1 copies (by omega) (by omega) (by omega) (by omega)
  show ∃ l st src a b, ((cippuskit_Urn_From.f a2 b2 1 copies).bind _) = _ ∧ _
  rw [e3, Option.bind_some]
  have hsz : st.size = p.toNat := by rw [q2]; simp [ByteArray.size]
  obtain ⟨l, src, a4, b4, e4, m1, m2⟩ := copyGo_ok er st h5 h6 q1 (by omega) (by omega) n.toNat [] [] a3 b3 ⟨rfl, fun i hi => by simp at hi⟩ (by simp; omega)
  show ∃ l st src a b, ((copyGo n.toNat er _ [] [] a3 b3).map _) = _ ∧ _
  rw [e4]
  refine ⟨l, st, src, a4, b4, rfl, m1, ⟨?_, ?_⟩, ⟨by omega, by omega⟩, q1⟩
  · rw [m2]; simp; omega
  · rw [m2]; simp; omega
theorem newUrn_ok (l : List Int) (h : l.length < 4611686018427387904) : ∃ a b, newUrn l = some (a, b) := by
  unfold newUrn
  rw [if_pos h]
  have : ∀ (l : List Int) (a b : Int), ∃ r, urnGo l a b = some r := by
    intro l
    induction l with
    | nil => intro a b; exact ⟨_, rfl⟩
    | cons x l ih =>
      intro a b
      unfold urnGo
      obtain ⟨v, a', b', e, _⟩ := turn_ok a (IntKind.u64.wrap (b + IntKind.u64.wrap x))
      rw [e, Option.bind_some]
      obtain ⟨v2, a2, b2, e2, _⟩ := turn_ok a' b'
      show ∃ r, ((cippuskit_Urn_turn.f a' b').bind _) = some r
      rw [e2, Option.bind_some]
      exact ih _ _
  obtain ⟨r, hr⟩ := this l 11400714819323198485 14029467366897019727
  exact ⟨r.1, r.2, hr⟩
end Go.Proofs.YtecdjnabmjhakaaDoor.P.OwnSt
namespace Go.Proofs.YtecdjnabmjhakaaDoor.P.OwnSt
open Go.RowKit Go.Proofs.YtecdjnabmjhakaaDoorW.PrintWords Go.Proofs.YtecdjnabmjhakaaDoorW.PrintLast Go.Proofs.YtecdjnabmjhakaaDoorW.PrintMore
open OwnUrn Go.Proofs.YtecdjnabmjhakaaDoor.OwnTx
set_option linter.unusedVariables false
set_option linter.unusedSimpArgs false
theorem same_l0 (l : List S25) (hl : l.length < 4611686018427387904) : ∀ rem i, i + rem = l.length → Ev (fun k => cippuskit_SameCopies.l0 k l l true (i : Int)) true := by
  intro rem
  induction rem with
  | zero =>
    intro i hi
    refine Ev.step (fun k => by rw [cippuskit_SameCopies.l0]) (Ev.if_pos' rfl (Ev.if_neg' (by omega) (Ev.now _)))
  | succ rem ih =>
    intro i hi
    refine Ev.step (fun k => by rw [cippuskit_SameCopies.l0]) (Ev.if_pos' rfl (Ev.if_pos' (by omega) (Ev.if_pos' (by omega) (Ev.if_pos' (by omega) ?_))))
    rw [wrap64_small (by omega) (by omega)]
    simp only [beq_self_eq_true, Bool.and_true]
    exact ih (i + 1) (by omega)
theorem same_ev (l : List S25) (hl : l.length < 4611686018427387904) : Ev (fun k => cippuskit_SameCopies.f k l l) true := by
  unfold cippuskit_SameCopies.f
  rw [show ((l.length : Int) == (l.length : Int)) = true by simp]
  exact same_l0 l hl l.length 0 (by omega)
theorem valid_made {st : ByteArray} {l : List S25} {src : List Int} (h : MadeOk 3 st l src) (h1 : 1 ≤ l.length) (h5 : l.length ≤ 5) (s1 : 1 ≤ st.size) (s8 : st.size ≤ 8) : Valid l := by
  have h0 := h.one 0 (by omega)
  have z : (rd_T25 l 0).f0.size = st.size := h0.1.2
  refine ⟨h1, h5, fun i hi => ?_, by omega, by omega, fun i hi => ?_, fun i hi p hp => ?_⟩
  · rw [(h.one i hi).1.2, z]
  · exact (h.one i hi).2.1
  · have hg := (h.one i hi).1
    have := hg.1 p (by rw [hg.2]; omega)
    omega
end Go.Proofs.YtecdjnabmjhakaaDoor.P.OwnSt
namespace Go.Proofs.YtecdjnabmjhakaaDoor.P.OwnSt
open Go.RowKit Go.Proofs.YtecdjnabmjhakaaDoorW.PrintWords Go.Proofs.YtecdjnabmjhakaaDoorW.PrintLast Go.Proofs.YtecdjnabmjhakaaDoorW.PrintMore
set_option maxRecDepth 100000 in
set_option maxHeartbeats 4000000 in
theorem found_40 : cippuslaw07_found.f 40 = some true := by kernel_rfl
theorem found_ev : Ev (fun k => cippuslaw07_found.f k) true := Ev.of cippuslaw07_found.mono found_40
end Go.Proofs.YtecdjnabmjhakaaDoor.P.OwnSt
namespace Go.Proofs.YtecdjnabmjhakaaDoor.Pure
open Go.RowKit Go.Proofs.YtecdjnabmjhakaaDoor.P Go.Proofs.YtecdjnabmjhakaaDoor.P.OwnSt Go.Proofs.YtecdjnabmjhakaaDoor.P.OwnUrn Go.Proofs.YtecdjnabmjhakaaDoorW.PrintWords Go.Proofs.YtecdjnabmjhakaaDoorW.PrintLast
set_option linter.unusedVariables false
set_option linter.unusedSimpArgs false
theorem StemmaRead : cippuslaw07_StemmaRead.Pure := by
  intro l0 a1 _ hlen _ _
  apply Ev.rounds
  unfold cippuslaw07_StemmaRead.f
  by_cases hs : 150 < a1.size
  · refine Ev.if_pos' (by omega) ?_
    exact Ev.bind found_ev (Ev.now _)
  · refine Ev.if_neg' (by omega) ?_
    obtain ⟨u0, u1, hu⟩ := newUrn_ok l0 (by omega)
    have hu2 : cippuskit_NewUrn.f l0 = some (u0, u1) := hu
    obtain ⟨l, st, src, u2, u3, hc, hm, ⟨hl1, hl2⟩, ⟨hs1, hs2⟩, hb⟩ := copiesOf_ok u0 u1 5 8 3 (by omega) (by omega) (by omega) (by omega) (by omega) (by omega)
    have hc2 : cippuskit_CopiesOf.f u0 u1 5 8 3 = some (l, st, src, u2, u3) := hc
    have hv := valid_made hm hl1 (by omega) hs1 (by omega)
    simp only [hu2, hc2, Option.bind_some]
    have hw : Ev (fun k => stemma_Write.f k l) (OwnTx.bA (wrL l), 0) := by
      have := write_ev l
      unfold writeV at this
      rwa [if_pos (check_of_valid hv)] at this
    refine Ev.bind hw ?_
    have hr : Ev (fun k => stemma_Read.f k (OwnTx.bA (wrL l))) (l, 0, 0) := by
      have := read_ev (OwnTx.bA (wrL l))
      rwa [read_write hv] at this
    refine Ev.bind hr ?_
    refine Ev.if_pos' rfl (Ev.if_pos' rfl (Ev.if_pos' rfl (Ev.bind (same_ev l (by omega)) ?_)))
    refine Ev.step (fun k => by rw [cippuslaw07_StemmaRead.j0]) (Ev.if_neg' (by decide) ?_)
    refine Ev.bind (read_ev a1) ?_
    rcases e : readV a1 with ⟨y, r, er⟩
    by_cases h0 : er = 0
    · subst h0
      obtain ⟨hck, hwr⟩ := write_read e
      refine Ev.if_pos' rfl ?_
      have hw2 : Ev (fun k => stemma_Write.f k y) (OwnTx.bA (wrL y), 0) := by
        have := write_ev y
        unfold writeV at this
        rwa [if_pos hck] at this
      refine Ev.bind hw2 (Ev.if_pos' rfl (Ev.if_pos' ?_ (Ev.bind found_ev (Ev.now _))))
      show (OwnTx.bA (wrL y)).toList = a1.toList
      rw [hwr]
    · exact Ev.if_neg' h0 (Ev.bind found_ev (Ev.now _))
end Go.Proofs.YtecdjnabmjhakaaDoor.Pure
namespace Go.Proofs.YtecdjnabmjhakaaDoorW.PrintWords
open Go.ChangeShapes Go.WideShapes
theorem sized_ints {H : Type} {enc : TypeId × Value → H} {P : Program} {W : World} {base : Nat} {spare : Nat → Bool} {held : Bool} {t e : TypeId} {k : IntKind} {a : Option Addr} {len cap : Nat} {d : DataW H} {ps : List MemPlace} {ts : List TypeId} {ds : List (DataW H)} {j : Nat}
    (hsz : (DataW.weightsEach P ts ds).all (· ≤ reachBytes) = true) (ht : ts[j]? = some t) (hd : ds[j]? = some d) (hu : P.underlying t = some (.slice e)) (he : P.underlying e = some (.int k)) (hc : P.cellsOf e = 1) {B : Nat} (hB : P.bytesOf e = B)
    (h : DataW.Trod enc P W base spare held t (.slice a len cap) d ps) : len * B ≤ 140737488351232 := by
  obtain ⟨fuel, hf⟩ := h
  rcases open_ints hu he hc hf with ⟨hcs, _⟩ | ⟨x, l, c, zs, hcs, _, hl, _, hz, hx, _, _⟩
  · simp [Value.cells] at hcs
    obtain ⟨rfl, rfl, rfl⟩ := hcs
    simp
  · simp [Value.cells] at hcs
    obtain ⟨rfl, rfl, rfl⟩ := hcs
    obtain ⟨hx, _⟩ := Prod.mk.inj hx
    subst hx
    have z := sized_slice hsz ht hd hu
    rw [hB] at z
    have hl2 : len ≤ zs.length := by
      rw [hz]
      split
      · exact hl
      · exact Nat.le_refl _
    have h1 : (lits (H := H) k (zs.take len)).length + (lits (H := H) k (zs.drop len)).length = zs.length := by
      simp [lits]
      omega
    rw [h1] at z
    exact Nat.le_trans (Nat.mul_le_mul_right _ hl2) z
end Go.Proofs.YtecdjnabmjhakaaDoorW.PrintWords
