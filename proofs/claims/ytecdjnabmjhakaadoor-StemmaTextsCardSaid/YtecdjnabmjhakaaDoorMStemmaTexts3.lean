/- Lemmas for the statement StemmaTexts of the given program, for every input that its row lets in. Conditions: none beyond those that each lemma tells. -/
import Derived.Shelf.Strconv.Itoa3
import Derived.KernelRfl
import Derived.Test.YtecdjnabmjhakaaDoorProg
import Derived.Test.YtecdjnabmjhakaaDoorMStemmaTexts2
set_option linter.unusedVariables false
set_option linter.unusedSimpArgs false
namespace Go.Proofs.YtecdjnabmjhakaaDoor.P
open Go.RowKit Go.Proofs.YtecdjnabmjhakaaDoorW.PrintWords Go.Proofs.YtecdjnabmjhakaaDoorW.PrintLast Go.Proofs.YtecdjnabmjhakaaDoorW.PrintMore
attribute [local go_sem] max2_int min2_int max_two min_two max_three min_three max_four min_four   -- for this text's walks alone
set_option linter.unusedVariables false
set_option linter.unusedSimpArgs false
def stemma_letters_String.l0 : Nat → Int → List Int → Int → Option (ByteArray)
  | 0, _, _, _ => none
  | k + 1, x0, x3, x4 => if x4 ≤ 90 then ((stemma_letters_has.f x0 x4).bind fun t112 => (if t112 = true then (if x3.length < 140737488355328 then (stemma_letters_String.l0 k x0 (x3 ++ [x4]) ((x4 + 1) % 256)) else (none)) else (stemma_letters_String.l0 k x0 x3 ((x4 + 1) % 256)))) else (some (strOfNums x3))
def stemma_letters_String.f (k : Nat) (a0 : Int) : Option (ByteArray) := stemma_letters_String.l0 k a0 ([] : List Int) 65
set_option maxHeartbeats 8000000 in
set_option maxRecDepth 100000 in
theorem stemma_letters_String.calls (k : Nat) (a0 : Int) (r : ByteArray) (w : World) (h : stemma_letters_String.f k a0 = some r) :
    Calls Tryd.prog 33 #[.int .u32 a0] w fun e w' => e = .returned (.string r) ∧ Below w.heap.size w w' := by
  have HB := Aside0.mk (Below.refl w.heap.size w)
  have H : (stemma_letters_String.l0 k a0 ([] : List Int) 65) = some r := h
  clear h
  have H' := Aside0.mk H
  clear H
  go_enter Tryd.func33, Tryd.ntmps33
  go_wp2
  go_loopg [3, 4] k (fun kq v3 v4 w' => ∃ (x3_1 : List Int) (x4_1 : Int), v4 = .int .u8 x4_1 ∧ Aside0 (stemma_letters_String.l0 kq a0 x3_1 x4_1 = some r) ∧ Aside0 (kq ≤ k) ∧ Aside0 (Kd.R (Kd.int .u8) 5 w' w.heap.size (fun _ => True) v3 x3_1) ∧ Aside0 (Below w.heap.size w w'))
  case atStart => exact ⟨(([] : List Int)), (65), (by first | rfl | (simp; done) | (simp [*]; done)), H', ⟨Nat.le_refl _⟩, ⟨by first | exact Kd.R_nil _ _ _ _ _ | exact Kd.N_nil _ _ _ _ _ | exact Kd.V_nil _ _ _ _ _ | exact Kd.Q_nil _ _ _ _ _ | exact Kd.S_nil _ _ _ _ _⟩, ⟨by repeat (first | (with_reducible first | exact HB.out | apply below_alloc | apply pw_below_drewN | apply below_drew1) | exact HB.out)⟩⟩
  case round =>
    clear H'
    obtain ⟨x3_1, x4_1, rfl, HA, HK1, HO_3, HB⟩ := hrel
    cases gk with
    | zero => exact absurd HA.out (by simp [stemma_letters_String.l0])
    | succ k1 =>
      have H := HA.out
      clear HA
      simp only [stemma_letters_String.l0] at H
      by_cases c2 : x4_1 ≤ 90
      · rw [if_pos c2] at H
        have c2b0 : decide (x4_1 ≤ 90) = true := decide_eq_true c2
        clear c2
        replace H := Option.bind_eq_some_iff.mp H
        obtain ⟨t112, A30, H⟩ := H
        replace H : (if t112 = true then (if x3_1.length < 140737488355328 then (stemma_letters_String.l0 k1 a0 (x3_1 ++ [x4_1]) ((x4_1 + 1) % 256)) else (none)) else (stemma_letters_String.l0 k1 a0 x3_1 ((x4_1 + 1) % 256))) = some r := H
        have A3 := Aside0.mk A30
        clear A30
        by_cases c4 : t112 = true
        · subst c4
          have H1 : (if x3_1.length < 140737488355328 then (stemma_letters_String.l0 k1 a0 (x3_1 ++ [x4_1]) ((x4_1 + 1) % 256)) else (none)) = some r := by rw [if_pos rfl] at H; exact H
          clear H
          have H := H1
          clear H1
          by_cases c5 : x3_1.length < 140737488355328
          · rw [if_pos c5] at H
            have LMc5 := Aside0.mk c5
            clear c5
            obtain ⟨y113, hy113⟩ : ∃ y_ : List Int, y_ = (x3_1 ++ [x4_1]) := ⟨_, rfl⟩
            replace H : (stemma_letters_String.l0 k1 a0 y113 ((x4_1 + 1) % 256)) = some r := by first | (rw [hy113]; with_reducible exact H) | (have H2_ := (Option.bind_some _ _).symm.trans H; rw [hy113]; with_reducible exact H2_) | (have H2_ := (Option.bind_some _ _).symm.trans H; with_reducible exact H2_) | with_reducible exact H | (rw [hy113]; exact H) | exact H
            have Ny113 := Aside0.mk hy113
            clear hy113
            have H' := Aside0.mk H
            clear H
            go_wp2_with (first | ((with_reducible refine gate_callee (f := 30) rfl ?_); refine goesL_ (some 11) rfl rfl Tryd.func30 (by kernel_rfl) rfl #[.int .u32 a0, .int .u8 x4_1] rfl (by (try simp only [List.map_toArray, List.map_cons, List.map_nil]); first | done | rfl | (simp only [List.length_drop, List.length_take]; rfl)) ?_; (with_reducible refine (stemma_letters_has.calls a0 x4_1 true _ A3.out).mono ?_); rintro e w' ⟨rfl, ⟨nd, rfl⟩⟩; refine ⟨_, rfl, ?_⟩) | ((with_reducible refine gate_builtin (b := .append) (xs := #[.tmp 12, .tmp 14]) rfl ?_); at_builtin; refine Kd.R_append (Kd.int .u8) (w0 := w) w.heap.size rfl (.tmp 12) (.tmp 14) 82 5 (.int .u8 0) 1 rfl Tryd.underlying82 info5 rfl (by decide) (by omega) u3 x3_1 x4_1 [.int .u8 x4_1] (fun _ => True) (fun _ => False) rfl rfl ?aP (fun _ hk => hk.elim) ?aF ?aO ?aB ?aS ?aL ?_; (case aP => exact rfl); (case aB => exact (by repeat (first | (with_reducible first | exact HB.out | apply below_alloc | apply pw_below_drewN | apply below_drew1) | exact HB.out))); (case aF => exact (fun _ _ => trivial)); (case aO => exact (by (with_reducible repeat (first | apply Kd.R_alloc | apply Kd.R_drewN | apply Kd.R_drew)); exact HO_3.out)); (case aS => exact (below_size (by repeat (first | (with_reducible first | exact HB.out | apply below_alloc | apply pw_below_drewN | apply below_drew1) | exact HB.out)))); (case aL => have := LMc5.out; omega); intro v114 w6 ho hb hg hat; rw [← Ny113.out] at ho; have n0_ := Aside0.mk (hb); have n1_ := Aside0.mk (ho); clear HB; clear HO_3; have HB := n0_; have HO115 := n1_; clear n0_ n1_; clear ho hb hg hat))
            go_roundg k1
            case measure => have := HK1.out; omega
            case rel => exact ⟨(y113), ((x4_1 + 1) % 256), (by first | rfl | (simp; done) | (simp [*]; done)), H', ⟨by have := HK1.out; omega⟩, ⟨by (with_reducible repeat (first | apply Kd.R_alloc | apply Kd.R_drewN | apply Kd.R_drew)); exact HO115.out⟩, ⟨by repeat (first | (with_reducible first | exact HB.out | apply below_alloc | apply pw_below_drewN | apply below_drew1) | exact HB.out)⟩⟩
          · rw [if_neg c5] at H
            exact absurd H (by simp)
        · replace c4 := Bool.eq_false_iff.mpr c4
          subst c4
          have H1 : (stemma_letters_String.l0 k1 a0 x3_1 ((x4_1 + 1) % 256)) = some r := by rw [if_neg (show ¬ (false = true) by decide)] at H; exact H
          clear H
          have H := H1
          clear H1
          have H' := Aside0.mk H
          clear H
          go_wp2_with (first | ((with_reducible refine gate_callee (f := 30) rfl ?_); refine goesL_ (some 11) rfl rfl Tryd.func30 (by kernel_rfl) rfl #[.int .u32 a0, .int .u8 x4_1] rfl (by (try simp only [List.map_toArray, List.map_cons, List.map_nil]); first | done | rfl | (simp only [List.length_drop, List.length_take]; rfl)) ?_; (with_reducible refine (stemma_letters_has.calls a0 x4_1 false _ A3.out).mono ?_); rintro e w' ⟨rfl, ⟨nd, rfl⟩⟩; refine ⟨_, rfl, ?_⟩))
          go_roundg k1
          case measure => have := HK1.out; omega
          case rel => exact ⟨(x3_1), ((x4_1 + 1) % 256), (by first | rfl | (simp; done) | (simp [*]; done)), H', ⟨by have := HK1.out; omega⟩, ⟨by (with_reducible repeat (first | apply Kd.R_alloc | apply Kd.R_drewN | apply Kd.R_drew)); exact HO_3.out⟩, ⟨by repeat (first | (with_reducible first | exact HB.out | apply below_alloc | apply pw_below_drewN | apply below_drew1) | exact HB.out)⟩⟩
      · rw [if_neg c2] at H
        have c2b0 : decide (x4_1 ≤ 90) = false := decide_eq_false c2
        clear c2
        obtain rfl := Option.some.inj H
        have hcv7 := own_string (P := Tryd.prog) Tryd.underlying82 Tryd.underlying5 Tryd.underlying9 (Kd.own_of_R HO_3.out)
        go_wp2
        go_ret
        exact ⟨by first | rfl | (simp [errW_none, errW_some] <;> rfl) | (simp [*, errW_none, errW_some] <;> rfl), by repeat (first | (with_reducible first | exact HB.out | apply below_alloc | apply pw_below_drewN | apply below_drew1) | exact HB.out)⟩
end Go.Proofs.YtecdjnabmjhakaaDoor.P
namespace Go.Proofs.YtecdjnabmjhakaaDoor.P
open Go.RowKit Go.Proofs.YtecdjnabmjhakaaDoorW.PrintWords Go.Proofs.YtecdjnabmjhakaaDoorW.PrintLast Go.Proofs.YtecdjnabmjhakaaDoorW.PrintMore
attribute [local go_sem] max2_int min2_int max_two min_two max_three min_three max_four min_four   -- for this text's walks alone
set_option linter.unusedVariables false
set_option linter.unusedSimpArgs false
def stemma_letters_with.f (a0 : Int) (a1 : Int) : Option (Int) := some (Go.bits .or .u32 a0 (shl .u32 1 ((a1 - 65) % 256)))
set_option maxHeartbeats 8000000 in
set_option maxRecDepth 100000 in
theorem stemma_letters_with.calls (a0 : Int) (a1 : Int) (r : Int) (w : World) (h : stemma_letters_with.f a0 a1 = some r) :
    Calls Tryd.prog 32 #[.int .u32 a0, .int .u8 a1] w fun e w' => e = .returned (.int .u32 r) ∧ Drawn0 w w' := by
  have H : (some (Go.bits .or .u32 a0 (shl .u32 1 ((a1 - 65) % 256)))) = some r := h
  clear h
  obtain ⟨ji3, hji3⟩ : ∃ j_ : Int, (shl .u32 1 ((a1 - 65) % 256)) = j_ := ⟨_, rfl⟩
  replace H : (some (Go.bits .or .u32 a0 (ji3))) = some r := by first | (rw [hji3] at H; exact H) | (simp only [hji3] at H ⊢; exact H)
  have hji3_ : (IntKind.u32.wrap (1 * 2 ^ min ((a1 - 65) % 256).toNat 32)) = ji3 := hji3
  have hji3z : ((a1 - 65) % 256) ≤ 32 → (IntKind.u32.wrap (1 * 2 ^ ((a1 - 65) % 256).toNat)) = ji3 := shl_small hji3
  have hji3u : (IntKind.u32.wrap (2 ^ min ((a1 - 65) % 256).toNat 32)) = ji3 := by have h_ := hji3_; rw [Int.one_mul] at h_; exact h_
  have hji3v : ((a1 - 65) % 256) ≤ 32 → (IntKind.u32.wrap (2 ^ ((a1 - 65) % 256).toNat)) = ji3 := fun hle_ => by have h_ := hji3z hle_; rw [Int.one_mul] at h_; exact h_
  obtain rfl := Option.some.inj H
  go_enter Tryd.func32, Tryd.ntmps32
  go_wp2
  go_ret
  exact ⟨by first | rfl | (simp; done) | (simp only [OFix.ne_nil_b]; done) | (simp only [← hji3, OFix.ne_nil_b]; done) | (simp only [← hji3] <;> (first | rfl | simp)) | (simp [*]; done), by repeat (first | exact Drawn0.refl _ | apply Drawn0.step)⟩
end Go.Proofs.YtecdjnabmjhakaaDoor.P
namespace Go.Proofs.YtecdjnabmjhakaaDoor.P.OwnSt
open Go.RowKit Go.Proofs.YtecdjnabmjhakaaDoorW.PrintWords Go.Proofs.YtecdjnabmjhakaaDoorW.PrintLast Go.Proofs.YtecdjnabmjhakaaDoorW.PrintMore
set_option linter.unusedVariables false
set_option linter.unusedSimpArgs false
def IsMask (m : Int) (M : Nat → Bool) : Prop := ∃ n : Nat, m = (n : Int) ∧ n < 2 ^ 26 ∧ ∀ j, n.testBit j = (decide (j < 26) && M j)
theorem isMask_zero : IsMask 0 (fun _ => false) := ⟨0, rfl, by decide, fun j => by simp⟩
theorem wraps_u32 (n : Int) (h₀ : 0 ≤ n) (h₁ : n < 2 ^ 32) : IntKind.u32.wrap n = n := by rw [IntKind.wrap_u32]; omega
theorem mask_has {m : Int} {M : Nat → Bool} (h : IsMask m M) (j : Nat) (hj : j < 26) : stemma_letters_has.f m (65 + (j : Int)) = some (M j) := by
  obtain ⟨n, rfl, hn, hb⟩ := h
  unfold stemma_letters_has.f shr
  rw [show (65 + (j : Int) - 65) % 256 = (j : Int) by omega, Int.toNat_natCast, Nat.min_eq_left (by simp [IntKind.bits]; omega)]
  have e1 : ((n : Int) / 2 ^ j) = ((n >>> j : Nat) : Int) := by rw [Nat.shiftRight_eq_div_pow]; simp
  have hlt : n >>> j < 2 ^ 26 := by rw [Nat.shiftRight_eq_div_pow]; exact Nat.lt_of_le_of_lt (Nat.div_le_self _ _) hn
  rw [e1]
  have e2 := (bits_nat .u32 32 (by decide) wraps_u32 (n >>> j) 1 (by omega) (by decide)).1
  rw [show ((1 : Int)) = ((1 : Nat) : Int) from rfl, e2]
  have h3 := hb j
  rw [show decide (j < 26) = true from decide_eq_true hj, Bool.true_and] at h3
  rw [← h3]
  unfold Nat.testBit
  congr 1
  have h4 : (n >>> j) &&& 1 = 0 ∨ (n >>> j) &&& 1 = 1 := by
    rw [Nat.and_one_is_mod]
    omega
  rw [Nat.and_comm 1]
  rcases h4 with h4 | h4 <;> rw [h4] <;> rfl
theorem mask_with {m : Int} {M : Nat → Bool} (h : IsMask m M) (j : Nat) (hj : j < 26) : ∃ m', stemma_letters_with.f m (65 + (j : Int)) = some m' ∧ IsMask m' (fun i => M i || i == j) := by
  obtain ⟨n, rfl, hn, hb⟩ := h
  unfold stemma_letters_with.f shl
  rw [show (65 + (j : Int) - 65) % 256 = (j : Int) by omega, Int.toNat_natCast, Nat.min_eq_left (by simp [IntKind.bits]; omega)]
  have hp : (2 : Nat) ^ j < 2 ^ 26 := Nat.pow_lt_pow_right (by decide) hj
  have e1 : (1 : Int) * 2 ^ j = ((2 ^ j : Nat) : Int) := by simp
  have hp2 : ((2 ^ j : Nat) : Int) < 2 ^ 32 := by
    have : ((2 ^ j : Nat) : Int) < ((2 ^ 26 : Nat) : Int) := by exact_mod_cast hp
    omega
  rw [e1, wraps_u32 _ (Int.natCast_nonneg _) hp2]
  have e2 := (bits_nat .u32 32 (by decide) wraps_u32 n (2 ^ j) (by omega) (by omega)).2
  rw [e2]
  refine ⟨_, rfl, n ||| 2 ^ j, rfl, Nat.or_lt_two_pow hn hp, fun i => ?_⟩
  rw [Nat.testBit_or, hb i, Nat.testBit_two_pow]
  by_cases e : j = i
  · subst e
    simp [hj]
  · by_cases hi : i < 26
    · simp [hi, e, show ¬ i = j from fun h => e h.symm]
    · simp [hi, e]
def maskLetters (M : Nat → Bool) (k : Nat) : List Int := ((List.range k).filter M).map fun (j : Nat) => 65 + (j : Int)
theorem mask_string_l0 {m : Int} {M : Nat → Bool} (h : IsMask m M) : ∀ (rem j : Nat), j + rem = 26 → Ev (fun k => stemma_letters_String.l0 k m (maskLetters M j) (65 + (j : Int))) (strOfNums (maskLetters M 26)) := by
  intro rem
  induction rem with
  | zero =>
    intro j hj
    refine Ev.step (fun k => by rw [stemma_letters_String.l0]) ?_
    rw [show j = 26 by omega]
    exact Ev.if_neg' (by omega) (Ev.now _)
  | succ rem ih =>
    intro j hj
    refine Ev.step (fun k => by rw [stemma_letters_String.l0]) ?_
    refine Ev.if_pos' (by omega) ?_
    rw [mask_has h j (by omega)]
    simp only [Option.bind_some]
    have h2 := ih (j + 1) (by omega)
    have e1 : ((65 + (j : Int) + 1) % 256) = 65 + ((j + 1 : Nat) : Int) := by omega
    have hl : (maskLetters M j).length ≤ j := by unfold maskLetters; rw [List.length_map]; exact Nat.le_trans (List.length_filter_le _ _) (by simp)
    rw [e1]
    have e2 : maskLetters M (j + 1) = maskLetters M j ++ (if M j = true then [65 + (j : Int)] else []) := by
      unfold maskLetters
      rw [List.range_succ, List.filter_append, List.map_append]
      congr 1
      by_cases hm : M j = true <;> simp [hm]
    rw [e2] at h2
    by_cases hm : M j = true
    · refine Ev.if_pos' hm (Ev.if_pos' (by omega) ?_)
      rw [if_pos hm] at h2
      exact h2
    · refine Ev.if_neg' hm ?_
      rw [if_neg hm, List.append_nil] at h2
      exact h2
theorem mask_string {m : Int} {M : Nat → Bool} (h : IsMask m M) : Ev (fun k => stemma_letters_String.f k m) (strOfNums (maskLetters M 26)) := by
  unfold stemma_letters_String.f
  exact mask_string_l0 h 26 0 (by omega)
theorem IsMask.congr {m : Int} {M M' : Nat → Bool} (h : IsMask m M) (e : ∀ j, j < 26 → M j = M' j) : IsMask m M' := by
  obtain ⟨n, rfl, hn, hb⟩ := h
  refine ⟨n, rfl, hn, fun j => ?_⟩
  rw [hb j]
  by_cases hj : j < 26
  · rw [e j hj]
  · simp [hj]
end Go.Proofs.YtecdjnabmjhakaaDoor.P.OwnSt
namespace Go.Proofs.YtecdjnabmjhakaaDoor.P.OwnSt
open Go.RowKit Go.Shelf Go.Proofs.YtecdjnabmjhakaaDoorW.PrintWords Go.Proofs.YtecdjnabmjhakaaDoorW.PrintLast Go.Proofs.YtecdjnabmjhakaaDoorW.PrintMore
set_option linter.unusedVariables false
set_option linter.unusedSimpArgs false
def mayC (l : List S25) (i : Nat) (j : Nat) (s : Nat → Int) : Bool := decide (leastV l s (i : Int) (65 + (j : Int)) < 1048576)
def mayK (l : List S25) (i k : Nat) (j : Nat) : Bool := ((knownV l).take k).any (mayC l i j)
def mayAt (l : List S25) (i : Nat) (j : Nat) : Bool := (knownV l).any (mayC l i j)
def letterRow (l : List S25) (i : Nat) : ByteArray := strOfNums (maskLetters (mayAt l i) 26)
def lettersV (l : List S25) : List ByteArray × Int := if knownE l = 0 then ((List.range (rd_T25 l 0).f0.size).map (letterRow l), 0) else ([], knownE l)
def LetR (l : List S25) (k : Nat) (key val : Value) : Prop := val = .bool true ∧ ∃ s ∈ (knownV l).take k, key = madeV (madeB l.length s)
theorem mayC_made (l : List S25) (i j : Nat) (s s' : Nat → Int) (h : madeB l.length s = madeB l.length s') : mayC l i j s = mayC l i j s' := by
  unfold mayC
  rw [leastV_made l s s' _ _ h]
theorem mayK_succ (l : List S25) (i k j : Nat) (s : Nat → Int) (hs : (knownV l)[k]? = some s) : mayK l i (k + 1) j = (mayK l i k j || mayC l i j s) := by
  unfold mayK
  rw [List.take_add_one, hs, Option.toList_some, List.any_append]
  simp
theorem mayK_met (l : List S25) (h5 : l.length ≤ 5) (i k j : Nat) (s : Nat → Int) (hs : (knownV l)[k]? = some s) {v : Value} (h : LetR l k (madeV (madeB l.length s)) v) : mayK l i (k + 1) j = mayK l i k j := by
  rw [mayK_succ l i k j s hs]
  obtain ⟨_, s', hm, e⟩ := h
  have h1 := mayC_made l i j s s' (madeB_of_key l h5 s s' e)
  by_cases hc : mayC l i j s' = true
  · have : mayK l i k j = true := by
      unfold mayK
      rw [List.any_eq_true]
      exact ⟨s', hm, hc⟩
    rw [this, Bool.true_or]
  · rw [h1]
    simp [hc]
theorem mayK_all (l : List S25) (i j : Nat) : mayK l i (knownV l).length j = mayAt l i j := by
  unfold mayK mayAt
  rw [List.take_length]
theorem LetR.mono {l : List S25} {k : Nat} {key val : Value} (h : LetR l k key val) : LetR l (k + 1) key val := by
  obtain ⟨h1, s, hs, h2⟩ := h
  refine ⟨h1, s, ?_, h2⟩
  rw [List.take_add_one]
  exact List.mem_append_left _ hs
theorem MemoAt.weaken {P : Program} {K : TypeId} {Φ Ψ : Value → Value → Prop} {W : World} {mb : Nat} (h : MemoAt P K Φ W mb) (hm : ∀ a b, Φ a b → Ψ a b) : MemoAt P K Ψ W mb := by
  obtain ⟨es, ck, h1, h2⟩ := h
  exact ⟨es, ck, h1, fun e he => ⟨(h2 e he).1, hm _ _ (h2 e he).2⟩⟩
structure LQ (l : List S25) (W1 : World) (i mb : Nat) (out : Value) (k : Nat) (W : World) : Prop where
  memo : MemoAt Tryd.prog 70 (LetR l k) W mb
  orow : Kd.R Kd.string 9 W W1.heap.size (fun k => W1.heap.size ≤ k ∧ k < mb) out ((List.range i).map (letterRow l))
  below : Below W1.heap.size W1 W
  low : W1.heap.size ≤ mb
theorem LQ.step {l : List S25} {W1 : World} {i mb : Nat} {out : Value} {k : Nat} {W W' : World} (h : LQ l W1 i mb out k W) (hb : Below W.heap.size W W') : LQ l W1 i mb out k W' :=
  ⟨h.memo.keep (hb.block mb h.memo.lt), Kd.R_below h.orow hb, h.below.trans (hb.mono h.below.size), h.low⟩
theorem LQ.put {l : List S25} {W1 : World} {i mb : Nat} {out : Value} {k : Nat} {W : World} (h : LQ l W1 i mb out k W) (o : Obj) (hm : MemoAt Tryd.prog 70 (LetR l (k + 1)) (W.putObj mb o) mb) : LQ l W1 i mb out (k + 1) (W.putObj mb o) :=
  ⟨hm, Kd.R_kept (S := fun k => k = mb) h.orow ⟨by simp [World.putObj], fun j _ hj => World.putObj_heap_other hj⟩ (fun k hk e => by omega), below_put h.below h.low o, h.low⟩
theorem lost_ne_memo {W : World} {b mb n c : Nat} {A : Option Addr} {fs : Nat → Int} {P : Program} {K : TypeId} {Φ : Value → Value → Prop} (h : LostAt W b A n c fs) (m : MemoAt P K Φ W mb) : b ≠ mb := by
  obtain ⟨es, ck, hE, _⟩ := m
  intro e
  subst e
  have h2 : W.heap[b]? = _ := h
  rw [hE] at h2
  cases h2
set_option maxHeartbeats 4000000 in
set_option maxRecDepth 100000 in
theorem letters_calls (A : Option Addr) (c : Nat) (l : List S25) (w : World) (hr : Kd.C k25 w A l.length l) (hc : l.length ≤ c) :
    Calls Tryd.prog 12 #[.slice A l.length c] w fun e w' => ∃ v, e = .returned (.tuple #[v, .int .i64 (lettersV l).2]) ∧ Kd.R Kd.string 9 w' w.heap.size (fun _ => True) v (lettersV l).1 ∧ Below w.heap.size w w' := by
  by_cases hk : knownE l = 0
  · have hV : lettersV l = ((List.range (rd_T25 l 0).f0.size).map (letterRow l), 0) := by unfold lettersV; rw [if_pos hk]
    rw [hV]
    have HR := Aside0.mk hr
    have HK := Aside0.mk hk
    have HVA := Aside0.mk (valid_of_check (knownE_zero hk).1)
    have h5 := HVA.out.five
    have h1 := HVA.out.one
    have hkL := known_len l h5
    clear hr hk hV
    go_enter Tryd.func12, Tryd.ntmps12
    go_upto_region 4 with (first | (go_at_call 24; refine (known_ok A c l w HR.out hc HK.out).mono ?_; rintro e w2 ⟨gv, cv, rfl, hB, hown⟩; have HB := Aside0.mk hB; have HOWN := Aside0.mk hown; clear hB hown))
    obtain ⟨W1, hW1⟩ : ∃ W1, W1 = w2 := ⟨_, rfl⟩
    rw [← hW1] at HB HOWN ⊢
    clear hW1 w2
    obtain ⟨ad, hA, y0, _⟩ := at_T25 (Kd.C_below HR.out HB.out) 0 (by omega) (by omega)
    subst hA
    simp only [Int.toNat_zero, Nat.zero_mul, Addr.add_zero'] at y0
    obtain ⟨L, hL⟩ : ∃ L, L = (rd_T25 l 0).f0.size := ⟨_, rfl⟩
    have HLL := Aside0.mk hL
    have hL8 : L ≤ 8 := by rw [hL]; exact HVA.out.high
    obtain ⟨tx, htx⟩ : ∃ tx, tx = (rd_T25 l 0).f0 := ⟨_, rfl⟩
    rw [← htx] at y0 hL
    have HTX := Aside0.mk hL
    clear htx hL
    go_wp2_with fail
    rw [← HTX.out]
    clear y0
    go_loopg [6, 26] L (fun k s6 s26 wr => ∃ i : Nat, i + k = L ∧ s26 = .int .i64 (i : Int) ∧ Aside0 (Kd.R Kd.string 9 wr W1.heap.size (fun k => W1.heap.size ≤ k) s6 ((List.range i).map (letterRow l))) ∧ Aside0 (Below W1.heap.size W1 wr))
    case atStart => exact ⟨0, by omega, rfl, ⟨Kd.R_nil _ _ _ _ _⟩, ⟨Below.refl _ _⟩⟩
    case round =>
      obtain ⟨gj, rfl⟩ : ∃ gj, gj = gk := ⟨_, rfl⟩
      obtain ⟨i, hik, rfl, HN, HB1⟩ := hrel
      have HIK := Aside0.mk hik
      clear hik
      by_cases hi : i < L
      · obtain ⟨mb, hmb⟩ : ∃ mb, mb = wr.heap.size := ⟨_, rfl⟩
        have hmk := run_makeMap (P := Tryd.prog) 69 wr
        rw [← hmb] at hmk
        go_upto_region 10 with fail
        rw [← hmb]
        refine wp_gen (fun wx => Aside0 (LQ l W1 i mb u6 0 wx)) ?_ ?_
        · refine ⟨⟨?_, Kd.R_mono (Kd.R_alloc (Kd.R_bound HN.out) _) (fun k hk => ⟨hk.1, by rw [hmb]; exact hk.2.2.1⟩), HB1.out.alloc HB1.out.size _, by rw [hmb]; exact HB1.out.size⟩⟩
          rw [hmb]
          exact MemoAt.new 70 _ wr
        clear hmk hmb HN HB1
        intro W2 HQ
        go_wp2_with fail
        go_loopg [8, 32] (knownV l).length (fun n s8 s32 wr => ∃ (k : Nat) (m : Int), k + n = (knownV l).length ∧ s8 = .int .u32 m ∧ s32 = .int .i64 (k : Int) ∧ Aside0 (IsMask m (mayK l i k)) ∧ Aside0 (LQ l W1 i mb u6 k wr))
        case atStart => exact ⟨0, 0, by omega, rfl, rfl, ⟨isMask_zero⟩, HQ⟩
        case round =>
          clear HQ
          obtain ⟨gm, rfl⟩ : ∃ gm, gm = gk := ⟨_, rfl⟩
          obtain ⟨k, m, hkn, rfl, rfl, HM, HQ⟩ := hrel
          have HKN := Aside0.mk hkn
          clear hkn
          by_cases hkl : k < (knownV l).length
          · obtain ⟨s, hs⟩ : ∃ s, (knownV l)[k]? = some s := ⟨_, List.getElem?_eq_getElem hkl⟩
            obtain ⟨⟨x0, x1, x2, x3, x4, x5⟩, xgl⟩ := lost_cells HOWN.out HQ.out.below k s hs
            have HS := Aside0.mk hs
            clear hs
            go_upto_region 13 with fail
            obtain ⟨b11, hb11⟩ : ∃ b11, b11 = wr.heap.size := ⟨_, rfl⟩
            rw [← hb11]
            refine wp_gen (fun wx => Aside0 (LQ l W1 i mb u6 k wx) ∧ Aside0 (LostAt wx b11 (some ad) l.length c s)) ?_ ?_
            · subst hb11
              exact ⟨⟨HQ.out.step ((Below.refl _ _).alloc (Nat.le_refl _) _)⟩, ⟨blk_new wr _⟩⟩
            clear hb11 HQ x0 x1 x2 x3 x4 x5 xgl
            rintro W3 ⟨HQ, HX⟩
            obtain ⟨x0, x1, x2, x3, x4, x5⟩ := HX.out.cells
            have hxl := blk_lt HX.out
            by_cases hmet : MemoHas W3 mb (madeV (madeB l.length s))
            · have HMET := Aside0.mk hmet
              clear hmet
              go_wp2_with (first | (go_at_call 29; refine (made_calls (some ad) c l s _ (Kd.C_below HR.out (HB.out.trans (HQ.out.below.mono HB.out.size))) h5).mono ?_; rintro e w4 ⟨rfl, hB4⟩; have HB4 := Aside0.mk hB4; obtain ⟨vv, bb, hlook, hvv⟩ := (HQ.out.step hB4).memo.look law85 (T := 69) (E := 4) (z := .bool false) (by kernel_rfl) (by kernel_rfl) (keyOf_made (madeB l.length s)).choose_spec; have HV := Aside0.mk (show LetR l k (madeV (madeB l.length s)) vv from by (rcases hvv with ⟨g1, g2, _⟩ | ⟨_, _, g2⟩; exact g2; exact absurd (HMET.out.keep (hB4.block mb HQ.out.memo.lt)) g2)); have hlk := hlook false; simp only [Bool.false_eq_true, if_false] at hlk; obtain rfl := HV.out.1; clear hlook hvv hB4))
              go_roundg (gm - 1)
              case measure => have := HKN.out; omega
              case rel =>
                refine ⟨k + 1, m, by have := HKN.out; omega, rfl, by go_num, ⟨HM.out.congr (fun j hj => (mayK_met l h5 i k j s HS.out HV.out).symm)⟩, ⟨?_⟩⟩
                have h8 := HQ.out.step HB4.out
                exact ⟨h8.memo.weaken (fun _ _ hh => hh.mono), h8.orow, h8.below, h8.low⟩
            · have HMET := Aside0.mk hmet
              clear hmet
              go_upto_region 14 with (first | (go_at_call 29; refine (made_calls (some ad) c l s _ (Kd.C_below HR.out (HB.out.trans (HQ.out.below.mono HB.out.size))) h5).mono ?_; rintro e w4 ⟨rfl, hB4⟩; have HB4 := Aside0.mk hB4; obtain ⟨vv, bb, hlook, hvv⟩ := (HQ.out.step hB4).memo.look law85 (T := 69) (E := 4) (z := .bool false) (by kernel_rfl) (by kernel_rfl) (keyOf_made (madeB l.length s)).choose_spec; have HV := Aside0.mk (show vv = .bool false from by (rcases hvv with ⟨_, _, g2⟩ | ⟨_, g1, _⟩; exact absurd (g2.keep (hB4.block mb HQ.out.memo.lt).symm) HMET.out; exact g1)); have hlk := hlook false; simp only [Bool.false_eq_true, if_false] at hlk; obtain rfl := HV.out; clear hlook hvv hB4))
              refine wp_gen (fun wx => Aside0 (LQ l W1 i mb u6 k wx) ∧ Aside0 (LostAt wx b11 (some ad) l.length c s)) ⟨⟨HQ.out.step HB4.out⟩, ⟨HX.out.below HB4.out⟩⟩ ?_
              clear HQ HX HB4 HV hlk w4 HMET W3 x0 x1 x2 x3 x4 x5 hxl
              rintro W3 ⟨HQ, HX⟩
              obtain ⟨x0, x1, x2, x3, x4, x5⟩ := HX.out.cells
              have hxl := blk_lt HX.out
              go_upto_block 4 with (first | (go_at_call 29; refine (made_calls (some ad) c l s _ (Kd.C_below HR.out (HB.out.trans (HQ.out.below.mono HB.out.size))) h5).mono ?_; rintro e w4 ⟨rfl, hB4⟩; have HB4 := Aside0.mk hB4; obtain ⟨o, hup, hm, hq1, hq2⟩ := (HQ.out.step hB4).memo.weaken (Ψ := LetR l (k + 1)) (fun _ _ hh => hh.mono) |>.update (T := 69) (E := 4) (val := .bool true) law85 (by kernel_rfl) (keyOf_made (madeB l.length s)).choose_spec ⟨rfl, s, by rw [List.take_add_one, HS.out]; exact List.mem_append_right _ (by simp), rfl⟩; have HMM := Aside0.mk hm; clear hB4 hm hq1 hq2))
              refine wp_gen (fun wx => Aside0 (LQ l W1 i mb u6 (k + 1) wx) ∧ Aside0 (LostAt wx b11 (some ad) l.length c s)) ⟨⟨(HQ.out.step HB4.out).put o HMM.out⟩, ⟨?_⟩⟩ ?_
              · have h9 := HX.out.below HB4.out
                exact (World.putObj_heap_other (lost_ne_memo h9 (HQ.out.step HB4.out).memo)).trans h9
              clear HQ HX HB4 HMM hup o w4 W3 x0 x1 x2 x3 x4 x5 hxl
              rintro W3 ⟨HQ, HX⟩
              go_wp2_with fail
              go_loopg [8, 12] 26 (fun n s8 s12 wr => ∃ (j : Nat) (m' : Int), j + n = 26 ∧ s12 = .int .u8 (65 + (j : Int)) ∧ s8 = .int .u32 m' ∧ Aside0 (IsMask m' (fun x => mayK l i k x || (decide (x < j) && mayC l i x s))) ∧ Aside0 (LQ l W1 i mb u6 (k + 1) wr) ∧ Aside0 (LostAt wr b11 (some ad) l.length c s))
              case atStart => exact ⟨0, m, by omega, rfl, rfl, ⟨HM.out.congr (fun j hj => by simp)⟩, HQ, HX⟩
              case round =>
                clear HQ HX HM
                obtain ⟨j, m', hjn, rfl, rfl, HM, HQ, HX⟩ := hrel
                have HJN := Aside0.mk hjn
                have hj26 : j ≤ 26 := by omega
                clear hjn
                obtain ⟨cc, hcc⟩ : ∃ cc : Int, cc = 65 + (j : Int) := ⟨_, rfl⟩
                rw [← hcc]
                have HCC := Aside0.mk hcc
                have hcc65 : 65 ≤ cc := by omega
                have hcc91 : cc ≤ 91 := by omega
                obtain ⟨x0, x1, x2, x3, x4, x5⟩ := HX.out.cells
                have hxl := blk_lt HX.out
                by_cases hj : j < 26
                · have hcc90 : cc ≤ 90 := by omega
                  have hh := mask_has HM.out j hj
                  rw [← hcc] at hh
                  have HH := Aside0.mk hh
                  have hjj : (decide (j < j) && mayC l i j s) = false := by simp
                  rw [hjj, Bool.or_false] at HH
                  clear hcc hh hjj
                  by_cases hb : mayK l i k j = true
                  · rw [hb] at HH
                    have HBT := Aside0.mk hb
                    clear hb
                    go_wp2_with (first | (go_at_call 30; refine (stemma_letters_has.calls m' cc true _ HH.out).mono ?_; rintro e w' ⟨rfl, ⟨nd, rfl⟩⟩))
                    go_roundg (gk - 1)
                    case measure => have := HJN.out; omega
                    case rel =>
                      refine ⟨j + 1, m', by have := HJN.out; omega, by rw [HCC.out]; congr 1 <;> omega, rfl, ⟨HM.out.congr (fun x hx => ?_)⟩, ⟨HQ.out.step (pw_below_drewN (Below.refl _ _) nd)⟩, ⟨HX.out.below (pw_below_drewN (Below.refl _ _) nd)⟩⟩
                      by_cases e : x = j
                      · subst e
                        rw [HBT.out]
                        simp
                      · congr 2
                        exact decide_eq_decide.2 (by omega)
                  · have hbf : mayK l i k j = false := by simpa using hb
                    rw [hbf] at HH
                    have HBF := Aside0.mk hbf
                    clear hb hbf
                    obtain ⟨lv, hlv⟩ : ∃ lv, lv = leastV l s (i : Int) cc := ⟨_, rfl⟩
                    have hlb := leastV_bound l s (i : Int) cc
                    rw [← hlv] at hlb
                    obtain ⟨hlb0, hlb1⟩ := hlb
                    have HLV := Aside0.mk hlv
                    clear hlv
                    by_cases hlt : lv < 1048576
                    · have hmc : mayC l i j s = true := by
                        unfold mayC
                        rw [← HCC.out, ← HLV.out]
                        exact decide_eq_true hlt
                      obtain ⟨m2, hm2, hM2⟩ := mask_with HM.out j hj
                      rw [← HCC.out] at hm2
                      have HM2 := Aside0.mk hM2
                      have HMC := Aside0.mk hmc
                      have HW := Aside0.mk hm2
                      clear hM2 hmc hm2
                      go_wp2_with (first
                        | (go_at_call 30; refine (stemma_letters_has.calls m' cc false _ HH.out).mono ?_; rintro e w' ⟨rfl, ⟨nd, rfl⟩⟩; have HQ2 := Aside0.mk (HQ.out.step (pw_below_drewN (Below.refl _ _) nd)); have HX2 := Aside0.mk (HX.out.below (pw_below_drewN (Below.refl _ _) nd)))
                        | (go_at_call 31; refine (least_calls (some ad) c l s (i : Int) cc _ (Kd.C_below HR.out (HB.out.trans (HQ2.out.below.mono HB.out.size))) hc h1 h5 HVA.out.size HVA.out.high (fun i hi => ⟨(HVA.out.err i hi).1, by have := (HVA.out.err i hi).2; omega⟩)).mono ?_; rintro e w5 ⟨rfl, hB5⟩; rw [← HLV.out]; have HQ3 := Aside0.mk (HQ2.out.step hB5); have HX3 := Aside0.mk (HX2.out.below hB5); clear hB5)
                        | (go_at_call 32; refine (stemma_letters_with.calls m' cc m2 _ HW.out).mono ?_; rintro e w' ⟨rfl, ⟨nd2, rfl⟩⟩))
                      go_roundg (gk - 1)
                      case measure => have := HJN.out; omega
                      case rel =>
                        refine ⟨j + 1, m2, by have := HJN.out; omega, by rw [HCC.out]; congr 1 <;> omega, rfl, ⟨HM2.out.congr (fun x hx => ?_)⟩, ⟨HQ3.out.step (pw_below_drewN (Below.refl _ _) nd2)⟩, ⟨HX3.out.below (pw_below_drewN (Below.refl _ _) nd2)⟩⟩
                        by_cases e : x = j
                        · subst e
                          rw [HMC.out]
                          simp
                        · rw [show (x == j) = false from beq_false_of_ne e, Bool.or_false]
                          congr 2
                          exact decide_eq_decide.2 (by omega)
                    · have hmc : mayC l i j s = false := by
                        unfold mayC
                        rw [← HCC.out, ← HLV.out]
                        exact decide_eq_false hlt
                      have HMC := Aside0.mk hmc
                      clear hmc
                      go_wp2_with (first
                        | (go_at_call 30; refine (stemma_letters_has.calls m' cc false _ HH.out).mono ?_; rintro e w' ⟨rfl, ⟨nd, rfl⟩⟩; have HQ2 := Aside0.mk (HQ.out.step (pw_below_drewN (Below.refl _ _) nd)); have HX2 := Aside0.mk (HX.out.below (pw_below_drewN (Below.refl _ _) nd)))
                        | (go_at_call 31; refine (least_calls (some ad) c l s (i : Int) cc _ (Kd.C_below HR.out (HB.out.trans (HQ2.out.below.mono HB.out.size))) hc h1 h5 HVA.out.size HVA.out.high (fun i hi => ⟨(HVA.out.err i hi).1, by have := (HVA.out.err i hi).2; omega⟩)).mono ?_; rintro e w5 ⟨rfl, hB5⟩; rw [← HLV.out]; have HQ3 := Aside0.mk (HQ2.out.step hB5); have HX3 := Aside0.mk (HX2.out.below hB5); clear hB5))
                      go_roundg (gk - 1)
                      case measure => have := HJN.out; omega
                      case rel =>
                        refine ⟨j + 1, m', by have := HJN.out; omega, by rw [HCC.out]; congr 1 <;> omega, rfl, ⟨HM.out.congr (fun x hx => ?_)⟩, HQ3, HX3⟩
                        by_cases e : x = j
                        · subst e
                          rw [HMC.out]
                          simp
                        · congr 2
                          exact decide_eq_decide.2 (by omega)
                · have hcc90 : ¬ cc ≤ 90 := by omega
                  clear hcc
                  go_wp2_with fail
                  go_roundg (gm - 1)
                  case measure => have := HKN.out; omega
                  case rel =>
                    refine ⟨k + 1, m', by have := HKN.out; omega, rfl, by go_num, ⟨HM.out.congr (fun x hx => ?_)⟩, HQ⟩
                    rw [mayK_succ l i k x s HS.out, show decide (x < j) = true from decide_eq_true (by omega), Bool.true_and]
          · have hkk : k = (knownV l).length := by have := HKN.out; omega
            have HKK := Aside0.mk hkk
            clear hkk
            obtain ⟨kk, hkk⟩ := (mask_string HM.out).rounds
            have HST := Aside0.mk hkk
            clear hkk
            obtain ⟨st, hst⟩ : ∃ st, st = strOfNums (maskLetters (mayK l i k) 26) := ⟨_, rfl⟩
            have HSE := Aside0.mk hst
            clear hst
            go_wp2_with (first
              | (go_at_call 33; refine (stemma_letters_String.calls kk m _ wr HST.out).mono ?_; rintro e w7 ⟨rfl, hB7⟩; rw [← HSE.out]; have HQ7 := Aside0.mk (HQ.out.step hB7); clear hB7)
              | (at_builtin; refine Kd.R_append Kd.string (w0 := W1) W1.heap.size rfl _ _ 36 9 (.string ⟨#[]⟩) 16 rfl (by kernel_rfl) info9 rfl (by decide) (by omega) u6 _ st [.string st] (fun k => W1.heap.size ≤ k) (fun _ => False) rfl rfl ?aP (fun _ hk => hk.elim) ?aF (Kd.R_mono HQ7.out.orow (fun _ hk => hk.1)) HQ7.out.below HQ7.out.below.size ?aL ?_; (case aP => exact rfl); (case aF => exact fun k hk => Nat.le_trans HQ7.out.below.size hk); (case aL => (simp; omega)); intro v8 w8 hN8 hB8 hg8 hat8; have HN8 := Aside0.mk hN8; have HB8 := Aside0.mk hB8; clear hN8 hB8 hg8 hat8))
            go_roundg (gj - 1)
            case measure => have := HIK.out; omega
            case rel =>
              refine ⟨i + 1, by have := HIK.out; omega, by go_num, ⟨?_⟩, HB8⟩
              rw [List.range_succ, List.map_append]
              have h9 := HN8.out
              rw [HSE.out, HKK.out] at h9
              have e9 : maskLetters (mayK l i (knownV l).length) 26 = maskLetters (mayAt l i) 26 := by
                unfold maskLetters
                rw [show mayK l i (knownV l).length = mayAt l i from funext fun j => mayK_all l i j]
              rw [e9] at h9
              exact h9
      · go_wp2_with fail
        refine bodyPost_ret (results_tmp2 rfl _ _ _) rfl ⟨_, rfl, ?_, HB.out.trans (HB1.out.mono HB.out.size)⟩
        have h7 := HN.out
        rw [show i = L by have := HIK.out; omega, HLL.out] at h7
        exact Kd.R_mono (Kd.R_lower h7 HB.out.size) (fun k hk => trivial)
  · have hV : lettersV l = ([], knownE l) := by unfold lettersV; rw [if_neg hk]
    rw [hV]
    obtain ⟨e0, he0⟩ : ∃ e0, e0 = knownE l := ⟨_, rfl⟩
    have HR := Aside0.mk hr
    have HK := Aside0.mk hk
    have HE := Aside0.mk he0
    have b1 : (e0 != 0) = true := bne_iff_ne.2 (by rw [he0]; exact hk)
    rw [← he0]
    clear hr hk hV he0
    go_enter Tryd.func12, Tryd.ntmps12
    go_wp2_with (first | (go_at_call 24; refine (known_err A c l w HR.out hc HK.out).mono ?_; rintro e w2 ⟨rfl, hB⟩; rw [← HE.out]; have HB := Aside0.mk hB; clear hB))
    exact bodyPost_ret (results_tmp2 rfl _ _ _) rfl ⟨_, rfl, Kd.R_nil _ _ _ _ _, HB.out⟩
end Go.Proofs.YtecdjnabmjhakaaDoor.P.OwnSt
namespace Go.Proofs.YtecdjnabmjhakaaDoor.P
open Go.RowKit Go.Proofs.YtecdjnabmjhakaaDoorW.PrintWords Go.Proofs.YtecdjnabmjhakaaDoorW.PrintLast Go.Proofs.YtecdjnabmjhakaaDoorW.PrintMore
attribute [local go_sem] max2_int min2_int max_two min_two max_three min_three max_four min_four   -- for this text's walks alone
set_option linter.unusedVariables false
set_option linter.unusedSimpArgs false
def stemma_Letters.f (k : Nat) (l0 : List (S25)) : Option (List ByteArray × Int) := some (OwnSt.lettersV l0)
theorem stemma_Letters.mono : ∀ a0 k, LeO (stemma_Letters.f k a0) (stemma_Letters.f (k + 1) a0) := by intros; exact LeO.refl _
theorem stemma_Letters.calls (k : Nat) (A0 : Option Addr) (c0 : Nat) (l0 : List (S25)) (r1 : List ByteArray) (r2 : Int) (w : World) (hr0 : Kd.C k25 w A0 l0.length l0) (hc0 : l0.length ≤ c0) (h : stemma_Letters.f k l0 = some (r1, r2)) :
    Calls Tryd.prog 12 #[.slice A0 l0.length c0] w fun e w' => ∃ v0_ : Value, e = .returned (.tuple #[v0_, .int .i64 r2]) ∧ Kd.R Kd.string 9 w' w.heap.size (fun _ => True) v0_ r1 ∧ Below w.heap.size w w' := by
  have h2 := OwnSt.letters_calls A0 c0 l0 w hr0 hc0; rw [show OwnSt.lettersV l0 = (r1, r2) from Option.some.inj h] at h2; exact h2
end Go.Proofs.YtecdjnabmjhakaaDoor.P
namespace Go.Proofs.YtecdjnabmjhakaaDoor.P
open Go.RowKit Go.Proofs.YtecdjnabmjhakaaDoorW.PrintWords Go.Proofs.YtecdjnabmjhakaaDoorW.PrintLast Go.Proofs.YtecdjnabmjhakaaDoorW.PrintMore
attribute [local go_sem] max2_int min2_int max_two min_two max_three min_three max_four min_four   -- for this text's walks alone
set_option linter.unusedVariables false
set_option linter.unusedSimpArgs false
def stemma_Print.l0 : Nat → ByteArray → List ByteArray → Int → Int → Option (ByteArray × Int)
  | 0, _, _, _, _ => none
  | k + 1, x6, x17, x18, x19 => if x19 < x18 then (if 0 ≤ x19 then (if x19 < (x17.length : Int) then (if ((rdOf ByteArray.empty x17 x19).size : Int) > 1 then (if x6.size + 1 ≤ 9223372036854775807 then (stemma_Print.l0 k (x6 ++ (⟨#[45]⟩ : ByteArray)) x17 x18 (wrap64 (x19 + 1))) else (none)) else (if x6.size + (rdOf ByteArray.empty x17 x19).size ≤ 9223372036854775807 then (stemma_Print.l0 k (x6 ++ (rdOf ByteArray.empty x17 x19)) x17 x18 (wrap64 (x19 + 1))) else (none))) else (none)) else (none)) else (some (x6, 0))
def stemma_Print.f (k : Nat) (l0 : List (S25)) : Option (ByteArray × Int) := (stemma_Letters.f k l0).bind fun bt116 => (if bt116.2 = 0 then (stemma_Print.l0 k (⟨#[]⟩ : ByteArray) bt116.1 (bt116.1.length : Int) 0) else (some ((⟨#[]⟩ : ByteArray), bt116.2)))
theorem stemma_Print.mono_l : ∀ k, (∀ y0 y1 y2 y3, LeO (stemma_Print.l0 k y0 y1 y2 y3) (stemma_Print.l0 (k + 1) y0 y1 y2 y3))
  | 0 => fun _ _ _ _ r h => by simp [stemma_Print.l0] at h
  | k + 1 => by
    have ih0 := stemma_Print.mono_l k
    · intro y0 y1 y2 y3
      unfold stemma_Print.l0
      repeat' first
      | (with_reducible exact ih0 _ _ _ _)
      | (with_reducible exact stemma_Letters.mono _ _)
      | (with_reducible exact LeO.refl _)
      | (with_reducible exact LeO.none _)
      | (with_reducible refine LeO.ite ?_ ?_)
      | (with_reducible refine LeO.bind ?_ (fun _ => ?_))
      | exact ih0 _ _ _ _
      | exact stemma_Letters.mono _ _
      | exact LeO.none _
      | refine LeO.ite ?_ ?_
      | refine LeO.bind ?_ (fun _ => ?_)
theorem stemma_Print.mono : ∀ a0 k, LeO (stemma_Print.f k a0) (stemma_Print.f (k + 1) a0) := by
  intro a0 k
  have ih0 := stemma_Print.mono_l k
  unfold stemma_Print.f
  repeat' first
      | (with_reducible exact ih0 _ _ _ _)
      | (with_reducible exact stemma_Letters.mono _ _)
      | (with_reducible exact LeO.refl _)
      | (with_reducible exact LeO.none _)
      | (with_reducible refine LeO.ite ?_ ?_)
      | (with_reducible refine LeO.bind ?_ (fun _ => ?_))
      | exact ih0 _ _ _ _
      | exact stemma_Letters.mono _ _
      | exact LeO.none _
      | refine LeO.ite ?_ ?_
      | refine LeO.bind ?_ (fun _ => ?_)
set_option maxHeartbeats 8000000 in
set_option maxRecDepth 100000 in
theorem stemma_Print.calls (k : Nat) (A0 : Option Addr) (c0 : Nat) (l0 : List (S25)) (r1 : ByteArray) (r2 : Int) (w : World) (hr0 : Kd.C k25 w A0 l0.length l0) (hc0 : l0.length ≤ c0) (h : stemma_Print.f k l0 = some (r1, r2)) :
    Calls Tryd.prog 13 #[.slice A0 l0.length c0] w fun e w' => e = .returned (.tuple #[.string r1, .int .i64 r2]) ∧ Below w.heap.size w w' := by
  have HR0 := Aside0.mk hr0
  have HC0 := Aside0.mk hc0
  clear hr0 hc0
  have HB := Aside0.mk (Below.refl w.heap.size w)
  have H : ((stemma_Letters.f k l0).bind fun bt116 => (if bt116.2 = 0 then (stemma_Print.l0 k (⟨#[]⟩ : ByteArray) bt116.1 (bt116.1.length : Int) 0) else (some ((⟨#[]⟩ : ByteArray), bt116.2)))) = some (r1, r2) := h
  clear h
  replace H := Option.bind_eq_some_iff.mp H
  obtain ⟨⟨t116, t117⟩, A20, H⟩ := H
  replace H : (if t117 = 0 then (stemma_Print.l0 k (⟨#[]⟩ : ByteArray) t116 (t116.length : Int) 0) else (some ((⟨#[]⟩ : ByteArray), t117))) = some (r1, r2) := H
  have A2 := Aside0.mk A20
  clear A20
  by_cases c3 : t117 = 0
  · rw [if_pos c3] at H
    have c3b0 : (t117 == 0) = true := beq_iff_eq.mpr c3
    have c3b1 : (t117 != 0) = false := bne_eq_false_iff_eq.mpr c3
    clear c3
    have H' := Aside0.mk H
    clear H
    go_enter Tryd.func13, Tryd.ntmps13
    go_wp2_with (first | ((with_reducible refine gate_callee (f := 12) rfl ?_); refine goesL_ (some 11) rfl rfl Tryd.func12 (by kernel_rfl) rfl #[.slice A0 l0.length c0] rfl (by (try simp only [List.map_toArray, List.map_cons, List.map_nil]); first | done | rfl | (simp only [List.length_drop, List.length_take]; rfl)) ?_; (with_reducible refine (stemma_Letters.calls k _ _ l0 t116 t117 _ ?side1 ?side2 A2.out).mono ?_); (case side1 => repeat (first | exact HR0.out | (with_reducible refine Kd.C_alloc ?_ _) | (with_reducible refine Kd.C_drewN ?_ _) | (with_reducible refine Kd.C_drew ?_))); (case side2 => exact HC0.out); rintro e w4 ⟨v118, rfl, ho0, hb⟩; refine ⟨_, rfl, ?_⟩; have n0_ := Aside0.mk (Kd.R_lower ho0 (below_size (by repeat (first | (with_reducible first | exact HB.out | apply below_alloc | apply pw_below_drewN | apply below_drew1) | exact HB.out)))); have n1_ := Aside0.mk (below_step (by repeat (first | (with_reducible first | exact HB.out | apply below_alloc | apply pw_below_drewN | apply below_drew1) | exact HB.out)) hb); clear HB; have HO119 := n0_; have HB := n1_; clear n0_ n1_; (try clear hb); (try clear hb2); (try clear hk); (try clear hi); (try clear ho0); obtain ⟨Ao5, co5, eo5⟩ := Kd.R_slice HO119.out; subst eo5))
    go_loopg [6, 19] k (fun kq v6 v19 w' => ∃ (x6_1 : ByteArray) (x19_1 : Int), v6 = .string x6_1 ∧ v19 = .int .i64 x19_1 ∧ Aside0 (stemma_Print.l0 kq x6_1 t116 (t116.length : Int) x19_1 = some (r1, r2)) ∧ Aside0 (kq ≤ k) ∧ Aside0 (Kd.R Kd.string 9 w' w.heap.size (fun _ => True) (.slice Ao5 t116.length co5) t116) ∧ Aside0 (Below w.heap.size w w'))
    case atStart => exact ⟨((⟨#[]⟩ : ByteArray)), (0), (by first | rfl | (simp; done) | (simp [*]; done)), (by first | rfl | (simp; done) | (simp [*]; done)), H', ⟨Nat.le_refl _⟩, ⟨by (with_reducible repeat (first | apply Kd.R_alloc | apply Kd.R_drewN | apply Kd.R_drew)); exact HO119.out⟩, ⟨by repeat (first | (with_reducible first | exact HB.out | apply below_alloc | apply pw_below_drewN | apply below_drew1) | exact HB.out)⟩⟩
    case round =>
      clear H'
      try clear c1
      try clear p2
      try clear c3
      try clear c3b0
      try clear c3b1
      obtain ⟨x6_1, x19_1, rfl, rfl, HA, HK1, HO_17, HB⟩ := hrel
      cases gk with
      | zero => exact absurd HA.out (by simp [stemma_Print.l0])
      | succ k1 =>
        have H := HA.out
        clear HA
        simp only [stemma_Print.l0] at H
        by_cases c6 : x19_1 < (t116.length : Int)
        · rw [if_pos c6] at H
          have c6b0 : decide (x19_1 < (t116.length : Int)) = true := decide_eq_true c6
          clear c6
          by_cases c7 : 0 ≤ x19_1
          · rw [if_pos c7] at H
            have c7b0 : decide (0 ≤ x19_1) = true := decide_eq_true c7
            clear c7
            by_cases c8 : x19_1 < (t116.length : Int)
            · rw [if_pos c8] at H
              have c8b0 : decide (x19_1 < (t116.length : Int)) = true := decide_eq_true c8
              clear c8
              by_cases c9 : ((rdOf ByteArray.empty t116 x19_1).size : Int) > 1
              · rw [if_pos c9] at H
                have c9b0 : decide (1 < ((rdOf ByteArray.empty t116 x19_1).size : Int)) = true := decide_eq_true c9
                have c9b1 : decide (1 < (rdOf ByteArray.empty t116 x19_1).size) = true := decide_eq_true (by omega)
                clear c9
                by_cases c10 : x6_1.size + 1 ≤ 9223372036854775807
                · rw [if_pos c10] at H
                  have c10b0 := eq_true c10
                  have c10b1 : decide (x6_1.size + 1 ≤ 9223372036854775807) = true := decide_eq_true c10
                  try have c10b2 : (9223372036854775807 < x6_1.size + 1) = False := eq_false (Nat.not_lt.2 c10)
                  have H' := Aside0.mk H
                  clear H
                  have p120 : 0 ≤ (x19_1 : Int) := of_decide_eq_true (by first | (with_reducible assumption) | assumption)
                  have q120 : x19_1 < (t116.length : Int) := of_decide_eq_true (by first | (with_reducible assumption) | assumption)
                  obtain ⟨ad120, e120, hx120_0⟩ := Kd.at_string (Kd.R_reads' HO_17.out).2.2 x19_1 p120 q120
                  cases e120
                  replace p120 := eq_true p120
                  replace q120 := eq_true q120
                  go_wp2
                  go_roundg k1
                  case measure => have := HK1.out; omega
                  case rel => exact ⟨(x6_1 ++ (⟨#[45]⟩ : ByteArray)), (wrap64 (x19_1 + 1)), (by first | rfl | (simp; done) | (simp [*]; done)), (by first | rfl | (simp; done) | (simp [*]; done)), H', ⟨by have := HK1.out; omega⟩, ⟨by (with_reducible repeat (first | apply Kd.R_alloc | apply Kd.R_drewN | apply Kd.R_drew)); exact HO_17.out⟩, ⟨by repeat (first | (with_reducible first | exact HB.out | apply below_alloc | apply pw_below_drewN | apply below_drew1) | exact HB.out)⟩⟩
                · rw [if_neg c10] at H
                  exact absurd H (by simp)
              · rw [if_neg c9] at H
                have c9b0 : decide (1 < ((rdOf ByteArray.empty t116 x19_1).size : Int)) = false := decide_eq_false c9
                have c9b1 : decide (1 < (rdOf ByteArray.empty t116 x19_1).size) = false := decide_eq_false (by omega)
                clear c9
                by_cases c11 : x6_1.size + (rdOf ByteArray.empty t116 x19_1).size ≤ 9223372036854775807
                · rw [if_pos c11] at H
                  have c11b0 := eq_true c11
                  have c11b1 : decide (x6_1.size + (rdOf ByteArray.empty t116 x19_1).size ≤ 9223372036854775807) = true := decide_eq_true c11
                  try have c11b2 : (9223372036854775807 < x6_1.size + (rdOf ByteArray.empty t116 x19_1).size) = False := eq_false (Nat.not_lt.2 c11)
                  have H' := Aside0.mk H
                  clear H
                  have p120 : 0 ≤ (x19_1 : Int) := of_decide_eq_true (by first | (with_reducible assumption) | assumption)
                  have q120 : x19_1 < (t116.length : Int) := of_decide_eq_true (by first | (with_reducible assumption) | assumption)
                  obtain ⟨ad120, e120, hx120_0⟩ := Kd.at_string (Kd.R_reads' HO_17.out).2.2 x19_1 p120 q120
                  cases e120
                  replace p120 := eq_true p120
                  replace q120 := eq_true q120
                  go_wp2
                  go_roundg k1
                  case measure => have := HK1.out; omega
                  case rel => exact ⟨(x6_1 ++ (rdOf ByteArray.empty t116 x19_1)), (wrap64 (x19_1 + 1)), (by first | rfl | (simp; done) | (simp [*]; done)), (by first | rfl | (simp; done) | (simp [*]; done)), H', ⟨by have := HK1.out; omega⟩, ⟨by (with_reducible repeat (first | apply Kd.R_alloc | apply Kd.R_drewN | apply Kd.R_drew)); exact HO_17.out⟩, ⟨by repeat (first | (with_reducible first | exact HB.out | apply below_alloc | apply pw_below_drewN | apply below_drew1) | exact HB.out)⟩⟩
                · rw [if_neg c11] at H
                  exact absurd H (by simp)
            · rw [if_neg c8] at H
              exact absurd H (by simp)
          · rw [if_neg c7] at H
            exact absurd H (by simp)
        · rw [if_neg c6] at H
          have c6b0 : decide (x19_1 < (t116.length : Int)) = false := decide_eq_false c6
          clear c6
          simp only [Option.some.injEq, Prod.mk.injEq] at H
          obtain ⟨rfl, rfl⟩ := H
          go_wp2
          go_ret2
          exact ⟨by first | rfl | (simp [errW_none, errW_some] <;> rfl) | (simp [*, errW_none, errW_some] <;> rfl), by repeat (first | (with_reducible first | exact HB.out | apply below_alloc | apply pw_below_drewN | apply below_drew1) | exact HB.out)⟩
  · rw [if_neg c3] at H
    have c3b0 : (t117 == 0) = false := beq_eq_false_iff_ne.mpr c3
    have c3b1 : (t117 != 0) = true := bne_iff_ne.mpr c3
    simp only [Option.some.injEq, Prod.mk.injEq] at H
    obtain ⟨rfl, rfl⟩ := H
    go_enter Tryd.func13, Tryd.ntmps13
    go_wp2_with (first | ((with_reducible refine gate_callee (f := 12) rfl ?_); refine goesL_ (some 11) rfl rfl Tryd.func12 (by kernel_rfl) rfl #[.slice A0 l0.length c0] rfl (by (try simp only [List.map_toArray, List.map_cons, List.map_nil]); first | done | rfl | (simp only [List.length_drop, List.length_take]; rfl)) ?_; (with_reducible refine (stemma_Letters.calls k _ _ l0 t116 t117 _ ?side1 ?side2 A2.out).mono ?_); (case side1 => repeat (first | exact HR0.out | (with_reducible refine Kd.C_alloc ?_ _) | (with_reducible refine Kd.C_drewN ?_ _) | (with_reducible refine Kd.C_drew ?_))); (case side2 => exact HC0.out); rintro e w12 ⟨v118, rfl, ho0, hb⟩; refine ⟨_, rfl, ?_⟩; have n0_ := Aside0.mk (Kd.R_lower ho0 (below_size (by repeat (first | (with_reducible first | exact HB.out | apply below_alloc | apply pw_below_drewN | apply below_drew1) | exact HB.out)))); have n1_ := Aside0.mk (below_step (by repeat (first | (with_reducible first | exact HB.out | apply below_alloc | apply pw_below_drewN | apply below_drew1) | exact HB.out)) hb); clear HB; have HO119 := n0_; have HB := n1_; clear n0_ n1_; (try clear hb); (try clear hb2); (try clear hk); (try clear hi); (try clear ho0)))
    go_ret2
    exact ⟨by first | rfl | (simp [errW_none, errW_some] <;> rfl) | (simp [*, errW_none, errW_some] <;> rfl), by repeat (first | (with_reducible first | exact HB.out | apply below_alloc | apply pw_below_drewN | apply below_drew1) | exact HB.out)⟩
end Go.Proofs.YtecdjnabmjhakaaDoor.P
namespace Go.Proofs.YtecdjnabmjhakaaDoor.P.OwnSt
open Go.RowKit Go.Shelf Go.Proofs.YtecdjnabmjhakaaDoorW.PrintWords Go.Proofs.YtecdjnabmjhakaaDoorW.PrintLast Go.Proofs.YtecdjnabmjhakaaDoorW.PrintMore
set_option linter.unusedVariables false
set_option linter.unusedSimpArgs false
theorem treesG_of_mem (l : List S25) : ∀ (rem i : Nat) (s t : Nat → Int), t ∈ treesG l rem i s → (∀ k, k < i → t k = s k) ∧ (∀ k, i + rem ≤ k → t k = s k) ∧ ∀ k, i ≤ k → k < i + rem → -1 ≤ t k ∧ t k < k ∧ canF l k (t k) = true := by
  intro rem
  induction rem with
  | zero =>
    intro i s t h
    simp [treesG] at h
    subst h
    exact ⟨fun _ _ => rfl, fun _ _ => rfl, fun k h1 h2 => by omega⟩
  | succ rem ih =>
    intro i s t h
    simp only [treesG, List.mem_flatMap, List.mem_range] at h
    obtain ⟨f, hf, h⟩ := h
    split at h
    · rename_i hc
      obtain ⟨h1, h2, h3⟩ := ih (i + 1) _ t h
      have hi : t i = (f : Int) - 1 := by rw [h1 i (by omega)]; simp [upd]
      refine ⟨fun k hk => ?_, fun k hk => ?_, fun k h4 h5 => ?_⟩
      · rw [h1 k (by omega)]; simp [upd, show k ≠ i by omega]
      · rw [h2 k (by omega)]; simp [upd, show k ≠ i by omega]
      · by_cases e : k = i
        · subst e
          rw [hi]
          exact ⟨by omega, by omega, hc⟩
        · exact h3 k (by omega) (by omega)
    · simp at h
theorem knownV_mem {l : List S25} {s : Nat → Int} (h : s ∈ knownV l) : (∀ k, k < l.length → -1 ≤ s k ∧ s k < k ∧ canF l k (s k) = true) ∧ (∀ k, l.length ≤ k → s k = 0) ∧ liesB l s = true := by
  unfold knownV at h
  rw [List.mem_filter] at h
  obtain ⟨_, h2, h3⟩ := treesG_of_mem l l.length 0 _ s h.1
  exact ⟨fun k hk => h3 k (by omega) (by omega), fun k hk => h2 k (by omega), h.2⟩
end Go.Proofs.YtecdjnabmjhakaaDoor.P.OwnSt
namespace Go.Proofs.YtecdjnabmjhakaaDoor.P.OwnSt
open Go.RowKit Go.Shelf Go.Proofs.YtecdjnabmjhakaaDoorW.PrintWords Go.Proofs.YtecdjnabmjhakaaDoorW.PrintLast Go.Proofs.YtecdjnabmjhakaaDoorW.PrintMore
set_option linter.unusedVariables false
set_option linter.unusedSimpArgs false
def apTo (l : List S25) (s : Nat → Int) : Nat → Int
  | 0 => 0
  | k + 1 => apTo l s k + if s k = -1 then 0 else apN (rd_T25 l (s k)).f0 (rd_T25 l (k : Int)).f0 (rd_T25 l (s k)).f0.size
def numF (l : List S25) (s : Nat → Int) : Int := leastV l s (-1) 0 + apTo l s l.length
theorem apTo_bound (l : List S25) (s : Nat → Int) (hv : Valid l) (hs : ∀ k, k < l.length → -1 ≤ s k ∧ s k < k) : ∀ k, k ≤ l.length → 0 ≤ apTo l s k ∧ apTo l s k ≤ 8 * k := by
  intro k
  induction k with
  | zero => intro _; simp [apTo]
  | succ k ih =>
    intro hk
    have h1 := ih (by omega)
    unfold apTo
    split
    · omega
    · have h2 := apN_bound (rd_T25 l (s k)).f0 (rd_T25 l (k : Int)).f0 (rd_T25 l (s k)).f0.size
      have h3 := hs k (by omega)
      obtain ⟨sn, hsn⟩ : ∃ sn : Nat, s k = (sn : Int) := ⟨(s k).toNat, by omega⟩
      rw [hsn] at h2 ⊢
      have h4 := hv.size sn (by omega)
      have := hv.high
      omega
set_option maxHeartbeats 2000000 in
set_option maxRecDepth 100000 in
theorem ask57_calls (A : Option Addr) (c : Nat) (l : List S25) (s : Nat → Int) (bl : Nat) (w : World) (hr : Kd.C k25 w A l.length l) (hc : l.length ≤ c) (hv : Valid l) (hs : ∀ k, k < l.length → -1 ≤ s k ∧ s k < k) (hbl : w.heap[bl]? = some (.cells #[.slice A l.length c] 22 (0, 0))) :
    Calls Tryd.prog 35 #[lostV A l.length c s, .pointer (some ⟨bl, 0, none⟩)] w fun e w' => e = .returned (.int .i64 (numF l s)) ∧ Below w.heap.size w w' := by
  have HR := Aside0.mk hr
  have HV := Aside0.mk hv
  have HS := Aside0.mk hs
  have h1 := hv.one
  have h5 := hv.five
  have HX0 := Aside0.mk (show LostAt (w.alloc (.cells #[.slice A l.length c, .int .i64 (s 0), .int .i64 (s 1), .int .i64 (s 2), .int .i64 (s 3), .int .i64 (s 4)] 63)) w.heap.size A l.length c s from blk_new w _)
  have HL0 := Aside0.mk (blk_alloc hbl (.cells #[.slice A l.length c, .int .i64 (s 0), .int .i64 (s 1), .int .i64 (s 2), .int .i64 (s 3), .int .i64 (s 4)] 63))
  have HB0 := Aside0.mk ((Below.refl w.heap.size w).alloc (Nat.le_refl _) (.cells #[.slice A l.length c, .int .i64 (s 0), .int .i64 (s 1), .int .i64 (s 2), .int .i64 (s 3), .int .i64 (s 4)] 63))
  clear hr hv hs hbl
  have hmix : Tryd.prog.follows Departure.mixedOrders = true := by kernel_rfl
  unfold lostV
  go_enter Tryd.func35, Tryd.ntmps35
  go_upto_region 1 with fail
  obtain ⟨bx, hbx⟩ : ∃ bx, bx = w.heap.size := ⟨_, rfl⟩
  rw [← hbx] at HX0 ⊢
  refine wp_gen (fun wx => Aside0 (LostAt wx bx A l.length c s) ∧ Aside0 (wx.heap[bl]? = some (.cells #[.slice A l.length c] 22 (0, 0))) ∧ Aside0 (Below w.heap.size w wx)) ⟨HX0, HL0, HB0⟩ ?_
  clear hbx HX0 HL0 HB0
  rintro W1 ⟨HX, HL, HB⟩
  obtain ⟨x0, x1, x2, x3, x4, x5⟩ := HX.out.cells
  have hxl := blk_lt HX.out
  obtain ⟨nl, hnl⟩ : ∃ nl, nl = leastV l s (-1) 0 := ⟨_, rfl⟩
  have HNL := Aside0.mk hnl
  clear hnl
  go_upto_region 2 with (first | (go_at_call 31; refine (least_calls A c l s (-1) 0 _ (Kd.C_below HR.out HB.out) hc h1 h5 HV.out.size HV.out.high (fun i hi => ⟨(HV.out.err i hi).1, by have := (HV.out.err i hi).2; omega⟩)).mono ?_; rintro e w5 ⟨rfl, hB5⟩; rw [← HNL.out]; have HB5 := Aside0.mk hB5; clear hB5))
  refine wp_gen (fun wx => Aside0 (LostAt wx bx A l.length c s) ∧ Aside0 (wx.heap[bl]? = some (.cells #[.slice A l.length c] 22 (0, 0))) ∧ Aside0 (Below w.heap.size w wx)) ⟨⟨HX.out.below HB5.out⟩, ⟨blk_below HL.out HB5.out⟩, ⟨HB.out.trans (HB5.out.mono HB.out.size)⟩⟩ ?_
  clear HX HL HB HB5 w5 W1 x0 x1 x2 x3 x4 x5 hxl
  rintro W1 ⟨HX, HL, HB⟩
  obtain ⟨x0, x1, x2, x3, x4, x5⟩ := HX.out.cells
  have hxl := blk_lt HX.out
  have hl0 := (blk_cell HL.out 0).trans (show (#[Value.slice A l.length c] : Array Value)[0]? = some _ from rfl)
  have hsl : (Instr.sliceAt 61 (.pointer (some ⟨bx, 1, none⟩)) none (some (.int .i64 (l.length : Int))) none).run Tryd.prog W1 = .ok (.slice (some ⟨bx, 1, none⟩) l.length 5) W1 := by
    have h82 : Tryd.prog.underlying 61 = some (.array 5 3) := by kernel_rfl
    have hal : Tryd.prog.arrayLen 61 = 5 := by simp [Program.arrayLen, h82]
    have hel : Tryd.prog.elem 61 = 3 := by simp [Program.elem, h82]
    rw [run_sliceAt_array_h W1 61 ⟨bx, 1, none⟩ (by rw [hal, hel]; exact h82) .i64 (l.length : Int) (by omega) (by rw [hal]; omega), hal, hel]
    go_simp
  go_wp2_with fail
  have hnb := leastV_bound l s (-1) 0
  rw [← HNL.out] at hnb
  have HNB := Aside0.mk hnb
  clear hnb hsl x0 x1 x2 x3 x4 x5 hxl hl0
  go_loopg [4, 14] l.length (fun k s4 s14 wr => ∃ i : Nat, i + k = l.length ∧ s14 = .int .i64 (i : Int) ∧ s4 = .int .i64 (nl + apTo l s i) ∧ Aside0 (LostAt wr bx A l.length c s) ∧ Aside0 (wr.heap[bl]? = some (.cells #[.slice A l.length c] 22 (0, 0))) ∧ Aside0 (Below w.heap.size w wr))
  case atStart => exact ⟨0, by omega, rfl, by simp [apTo], HX, HL, HB⟩
  case round =>
    clear HX HL HB
    obtain ⟨i, hik, rfl, rfl, HX, HL, HB⟩ := hrel
    have HIK := Aside0.mk hik
    clear hik
    have hab := apTo_bound l s HV.out HS.out i (by have := HIK.out; omega)
    obtain ⟨acc, hacc⟩ : ∃ acc, acc = nl + apTo l s i := ⟨_, rfl⟩
    rw [← hacc]
    have ha0 : 0 ≤ acc := by have := HNB.out; omega
    have ha1 : acc ≤ 2000000 := by have := HNB.out; have := HIK.out; omega
    have HAC := Aside0.mk hacc
    clear hab hacc
    by_cases hi : i < l.length
    · have hx := HX.out.src i (by omega)
      have hxl := blk_lt HX.out
      have hl0 := (blk_cell HL.out 0).trans (show (#[Value.slice A l.length c] : Array Value)[0]? = some _ from rfl)
      by_cases hsi : s i = -1
      · have HSI := Aside0.mk hsi
        have b1 : (s i != -1) = false := by rw [hsi]; rfl
        clear hsi
        go_wp2_with fail
        go_roundg (gk - 1)
        case measure => have := HIK.out; omega
        case rel =>
          refine ⟨i + 1, by have := HIK.out; omega, by go_num, ?_, HX, HL, HB⟩
          rw [apTo, if_pos HSI.out, Int.add_zero, HAC.out]
      · have HSI := Aside0.mk hsi
        have b1 : (s i != -1) = true := bne_iff_ne.2 hsi
        have hsb := HS.out i hi
        obtain ⟨sn, hsn⟩ : ∃ sn : Nat, s i = (sn : Int) := ⟨(s i).toNat, by omega⟩
        have HSN := Aside0.mk hsn
        rw [hsn] at hx b1 hsb
        have hsn5 : sn < l.length := by omega
        obtain ⟨ad, hA, y0, _⟩ := at_T25 (Kd.C_below HR.out HB.out) (sn : Int) (by omega) (by omega)
        subst hA
        obtain ⟨ad', hA', z0, _⟩ := at_T25 (Kd.C_below HR.out HB.out) (i : Int) (by omega) (by omega)
        injection hA' with hA'
        subst hA'
        have hap := apart_f (rd_T25 l (sn : Int)).f0 (rd_T25 l (i : Int)).f0 (by rw [HV.out.size sn hsn5, HV.out.size i hi]; exact Nat.le_refl _) (by rw [HV.out.size sn hsn5]; have := HV.out.high; omega)
        have hapb := apN_bound (rd_T25 l (sn : Int)).f0 (rd_T25 l (i : Int)).f0 (rd_T25 l (sn : Int)).f0.size
        have hsz := HV.out.size sn hsn5
        have h8 := HV.out.high
        obtain ⟨ap, hapE⟩ : ∃ ap, ap = apN (rd_T25 l (sn : Int)).f0 (rd_T25 l (i : Int)).f0 (rd_T25 l (sn : Int)).f0.size := ⟨_, rfl⟩
        rw [← hapE] at hap hapb
        have hap0 : 0 ≤ ap := hapb.1
        have hap8 : ap ≤ 8 := by omega
        have HAP := Aside0.mk hap
        have HAE := Aside0.mk hapE
        clear hap hapb hapE hsz h8 hsn hsi hsb
        simp only [Int.toNat_natCast] at y0 z0
        have hadl := World.block_lt_of_cell? wr _ y0
        have hi1 : (sn : Int) < (l.length : Int) := by omega
        have hi2 : (i : Int) < (l.length : Int) := by omega
        go_upto_region 6 with fail
        go_quiet (first | (go_at_call 36; exact Calls.quiet_of ((stemma_apart.calls _ _ _ ap _ HAP.out).mono (fun e w' h => ⟨h.1, h.2.out⟩))))
        go_wp2_with fail
        go_roundg (gk - 1)
        case measure => have := HIK.out; omega
        case rel =>
          refine ⟨i + 1, by have := HIK.out; omega, by go_num, ?_, ⟨HX.out.below (pw_below_drewN (Below.refl _ _) nq)⟩, ⟨blk_below HL.out (pw_below_drewN (Below.refl _ _) nq)⟩, ⟨HB.out.trans ((pw_below_drewN (Below.refl _ _) nq).mono HB.out.size)⟩⟩
          rw [apTo, if_neg HSI.out, HSN.out, ← HAE.out, ← Int.add_assoc, ← HAC.out]
    · have hii : i = l.length := by have := HIK.out; omega
      have HII := Aside0.mk hii
      clear hii
      go_wp2_with fail
      refine bodyPost_ret (results_tmp rfl _ _ _) rfl ⟨?_, HB.out⟩
      unfold numF
      rw [← HNL.out, ← HII.out, ← HAC.out]
      rfl
theorem ask57_calls' (A : Option Addr) (c : Nat) (l : List S25) (s : Nat → Int) (bl : Nat) (w : World) (hr : Kd.C k25 w A l.length l) (hc : l.length ≤ c) (hv : Valid l) (hs : ∀ k, k < l.length → -1 ≤ s k ∧ s k < k) (hbl : w.heap[bl]? = some (.cells #[.slice A l.length c] 22 (0, 0))) :
    Calls Tryd.prog 35 #[.agg #[.slice A l.length c, .int .i64 (s 0), .int .i64 (s 1), .int .i64 (s 2), .int .i64 (s 3), .int .i64 (s 4)], .pointer (some ⟨bl, 0, none⟩)] w fun e w' => e = .returned (.int .i64 (numF l s)) ∧ Below w.heap.size w w' := ask57_calls A c l s bl w hr hc hv hs hbl
theorem isNaN_calls (x : Int) (w : World) : Calls Tryd.prog 62 #[.int .i64 x] w fun e w' => e = .returned (.bool false) ∧ w' = w := by
  go_enter Tryd.func62, Tryd.ntmps62
  go_wp2_with fail
  exact bodyPost_ret (results_tmp rfl _ _ _) rfl ⟨rfl, rfl⟩
def cmpI (x y : Int) : Int := if x < y then -1 else if y < x then 1 else 0
theorem compare_calls (x y : Int) (w : World) : Calls Tryd.prog 57 #[.int .i64 x, .int .i64 y] w fun e w' => e = .returned (.int .i64 (cmpI x y)) ∧ w' = w := by
  by_cases h1 : x < y
  · have h : cmpI x y = -1 := by unfold cmpI; rw [if_pos h1]
    rw [h]
    go_enter Tryd.func57, Tryd.ntmps57
    go_wp2_with (first | (go_at_call 62; refine (isNaN_calls _ _).mono ?_; rintro e w2 ⟨rfl, rfl⟩))
    exact bodyPost_ret (results_tmp rfl _ _ _) rfl ⟨rfl, rfl⟩
  · by_cases h2 : y < x
    · have h : cmpI x y = 1 := by unfold cmpI; rw [if_neg h1, if_pos h2]
      rw [h]
      have b1 : decide (x < y) = false := decide_eq_false h1
      have b2 : decide (y < x) = true := decide_eq_true h2
      clear h
      go_enter Tryd.func57, Tryd.ntmps57
      go_wp2_with (first | (go_at_call 62; refine (isNaN_calls _ _).mono ?_; rintro e w2 ⟨rfl, rfl⟩))
      exact bodyPost_ret (results_tmp rfl _ _ _) rfl ⟨rfl, rfl⟩
    · have h : cmpI x y = 0 := by unfold cmpI; rw [if_neg h1, if_neg h2]
      rw [h]
      have b1 : decide (x < y) = false := decide_eq_false h1
      have b2 : decide (y < x) = false := decide_eq_false h2
      clear h
      go_enter Tryd.func57, Tryd.ntmps57
      go_wp2_with (first | (go_at_call 62; refine (isNaN_calls _ _).mono ?_; rintro e w2 ⟨rfl, rfl⟩))
      exact bodyPost_ret (results_tmp rfl _ _ _) rfl ⟨rfl, rfl⟩
structure TrAt (A : Option Addr) (c : Nat) (l : List S25) (bl : Nat) (W : World) : Prop where
  list : Kd.C k25 W A l.length l
  box : W.heap[bl]? = some (.cells #[.slice A l.length c] 22 (0, 0))
theorem TrAt.below {A : Option Addr} {c : Nat} {l : List S25} {bl : Nat} {W W' : World} (h : TrAt A c l bl W) (hb : Below W.heap.size W W') : TrAt A c l bl W' := ⟨Kd.C_below h.list hb, blk_below h.box hb⟩
def numV (bl : Nat) : Value := .func (.func 35) #[] #[.pointer (some ⟨bl, 0, none⟩)]
def SrcOk (l : List S25) (s : Nat → Int) : Prop := ∀ k, k < l.length → -1 ≤ s k ∧ s k < k
set_option maxHeartbeats 2000000 in
set_option maxRecDepth 100000 in
theorem ask70_calls (A : Option Addr) (c : Nat) (l : List S25) (s t : Nat → Int) (bl bn : Nat) (w : World) (hr : TrAt A c l bl w) (hc : l.length ≤ c) (hv : Valid l) (hs : SrcOk l s) (ht : SrcOk l t) (hbn : w.heap[bn]? = some (.cells #[numV bl] 78 (0, 0))) :
    Calls Tryd.prog 56 #[lostV A l.length c s, lostV A l.length c t, .pointer (some ⟨bn, 0, none⟩)] w fun e w' => e = .returned (.int .i64 (cmpI (numF l s) (numF l t))) ∧ Below w.heap.size w w' := by
  have HR := Aside0.mk hr
  have HV := Aside0.mk hv
  have HS := Aside0.mk hs
  have HT := Aside0.mk ht
  have HN := Aside0.mk hbn
  clear hr hv hs ht hbn
  have hmix : Tryd.prog.follows Departure.mixedOrders = true := by kernel_rfl
  obtain ⟨ns, hns⟩ : ∃ ns, ns = numF l s := ⟨_, rfl⟩
  obtain ⟨nt, hnt⟩ : ∃ nt, nt = numF l t := ⟨_, rfl⟩
  rw [← hns, ← hnt]
  have HNS := Aside0.mk hns
  have HNT := Aside0.mk hnt
  clear hns hnt
  unfold lostV
  go_enter Tryd.func56, Tryd.ntmps56
  go_upto_region 1 with fail
  obtain ⟨ba, hba⟩ : ∃ ba, ba = w.heap.size := ⟨_, rfl⟩
  rw [← hba]
  refine wp_gen (fun wx => Aside0 (LostAt wx ba A l.length c s) ∧ Aside0 (LostAt wx (ba + 1) A l.length c t) ∧ Aside0 (TrAt A c l bl wx) ∧ Aside0 (wx.heap[bn]? = some (.cells #[numV bl] 78 (0, 0))) ∧ Aside0 (Below w.heap.size w wx)) ?_ ?_
  · subst hba
    refine ⟨⟨blk_alloc (blk_new w _) _⟩, ⟨?_⟩, ⟨HR.out.below (((Below.refl _ _).alloc (Nat.le_refl _) _).alloc (by simp) _)⟩, ⟨blk_alloc (blk_alloc HN.out _) _⟩, ⟨((Below.refl _ _).alloc (Nat.le_refl _) _).alloc (by simp) _⟩⟩
    have := blk_new (w.alloc (.cells #[.slice A l.length c, .int .i64 (s 0), .int .i64 (s 1), .int .i64 (s 2), .int .i64 (s 3), .int .i64 (s 4)] 63)) (.cells #[.slice A l.length c, .int .i64 (t 0), .int .i64 (t 1), .int .i64 (t 2), .int .i64 (t 3), .int .i64 (t 4)] 63)
    rwa [World.size_alloc] at this
  clear hba HR HN
  rintro W1 ⟨HX, HY, HR, HN, HB⟩
  obtain ⟨x0, x1, x2, x3, x4, x5⟩ := HX.out.cells
  obtain ⟨y0, y1, y2, y3, y4, y5⟩ := HY.out.cells
  have hxl := blk_lt HX.out
  have hyl := blk_lt HY.out
  have hnl := blk_lt HN.out
  have hn0 := (blk_cell HN.out 0).trans (show (#[numV bl] : Array Value)[0]? = some (.func (.func 35) #[] #[.pointer (some ⟨bl, 0, none⟩)]) from rfl)
  have HRd := HR.out.below (below_drew (Below.refl _ _))
  have HC57 := Aside0.mk (ask57_calls' A c l s bl W1.drew HRd.list hc HV.out HS.out HRd.box)
  clear HRd
  go_region_held3 (fun w' => (w'.cell? ⟨bn, 0, none⟩ = some (.func (.func 35) #[] #[.pointer (some ⟨bl, 0, none⟩)]) ∧ (w'.cell? ⟨ba, 0, none⟩ = some (.slice A l.length c) ∧ w'.cell? ⟨ba, 1, none⟩ = some (.int .i64 (s 0)) ∧ w'.cell? ⟨ba, 2, none⟩ = some (.int .i64 (s 1)) ∧ w'.cell? ⟨ba, 3, none⟩ = some (.int .i64 (s 2)) ∧ w'.cell? ⟨ba, 4, none⟩ = some (.int .i64 (s 3)) ∧ w'.cell? ⟨ba, 5, none⟩ = some (.int .i64 (s 4))) ∧ (w'.cell? ⟨ba + 1, 0, none⟩ = some (.slice A l.length c) ∧ w'.cell? ⟨ba + 1, 1, none⟩ = some (.int .i64 (t 0)) ∧ w'.cell? ⟨ba + 1, 2, none⟩ = some (.int .i64 (t 1)) ∧ w'.cell? ⟨ba + 1, 3, none⟩ = some (.int .i64 (t 2)) ∧ w'.cell? ⟨ba + 1, 4, none⟩ = some (.int .i64 (t 3)) ∧ w'.cell? ⟨ba + 1, 5, none⟩ = some (.int .i64 (t 4)))))
    (first | exact ⟨hn0, ⟨x0, x1, x2, x3, x4, x5⟩, ⟨y0, y1, y2, y3, y4, y5⟩⟩ | exact ⟨hn3, HX3.out.cells, HY3.out.cells⟩ | exact ⟨hn4, HX4.out.cells, HY4.out.cells⟩)
    (first
      | (go_at_call 35; (with_reducible refine HC57.out.mono ?_); rintro e w3 ⟨rfl, hB3⟩; rw [← HNS.out]; have HB3 := Aside0.mk ((below_drew (Below.refl W1.heap.size W1)).trans hB3); have HX3 := Aside0.mk (HX.out.below HB3.out); have HY3 := Aside0.mk (HY.out.below HB3.out); have HR3 := Aside0.mk (HR.out.below HB3.out); have hn3 := (HB3.out.cell (p := ⟨bn, 0, none⟩) hnl).trans hn0; clear hB3)
      | (go_at_call 35; have hct := ask57_calls' A c l t bl w3 HR3.out.list hc HV.out HT.out HR3.out.box; (with_reducible refine hct.mono ?_); clear hct; rintro e w4 ⟨rfl, hB4⟩; rw [← HNT.out]; have HB4 := Aside0.mk hB4; have HX4 := Aside0.mk (HX3.out.below hB4); have HY4 := Aside0.mk (HY3.out.below hB4); have hn4 := (hB4.cell (p := ⟨bn, 0, none⟩) (Nat.lt_of_lt_of_le hnl HB3.out.size)).trans hn3; clear hB4)
      | (go_at_call 57; refine (compare_calls ns nt _).mono ?_; rintro e w5 ⟨rfl, rfl⟩))
  go_wp2_with fail
  exact bodyPost_ret (results_tmp rfl _ _ _) rfl ⟨rfl, HB.out.trans ((HB3.out.trans (HB4.out.mono HB3.out.size)).mono HB.out.size)⟩
end Go.Proofs.YtecdjnabmjhakaaDoor.P.OwnSt
namespace Go.Proofs.YtecdjnabmjhakaaDoor.P.OwnSt
open Go.RowKit Go.Shelf Go.Proofs.YtecdjnabmjhakaaDoorW.PrintWords Go.Proofs.YtecdjnabmjhakaaDoorW.PrintLast Go.Proofs.YtecdjnabmjhakaaDoorW.PrintMore
set_option linter.unusedVariables false
set_option linter.unusedSimpArgs false
def minF (l : List S25) : List (Nat → Int) → (Nat → Int) → (Nat → Int)
  | [], m => m
  | s :: r, m => minF l r (if numF l s < numF l m then s else m)
theorem minF_snoc (l : List S25) (s : Nat → Int) : ∀ (r : List (Nat → Int)) (m : Nat → Int), minF l (r ++ [s]) m = if numF l s < numF l (minF l r m) then s else minF l r m := by
  intro r
  induction r with
  | nil => intro m; rfl
  | cons x r ih => intro m; exact ih _
def minTo (l : List S25) (ss : List (Nat → Int)) (m : Nat → Int) (k : Nat) : Nat → Int := minF l ((ss.take k).drop 1) m
theorem minTo_one (l : List S25) (ss : List (Nat → Int)) (m : Nat → Int) : minTo l ss m 1 = m := by
  unfold minTo
  rw [show (ss.take 1).drop 1 = [] from List.eq_nil_of_length_eq_zero (by simp <;> omega)]
  rfl
theorem minTo_succ (l : List S25) (ss : List (Nat → Int)) (m : Nat → Int) (k : Nat) (h1 : 1 ≤ k) (s : Nat → Int) (hs : ss[k]? = some s) : minTo l ss m (k + 1) = if numF l s < numF l (minTo l ss m k) then s else minTo l ss m k := by
  unfold minTo
  have hk : k < ss.length := (List.getElem?_eq_some_iff.1 hs).1
  rw [List.take_add_one, hs, Option.toList_some, List.drop_append_of_le_length (by simp; omega), minF_snoc]
theorem minF_mem (l : List S25) : ∀ (r : List (Nat → Int)) (m : Nat → Int), minF l r m = m ∨ minF l r m ∈ r := by
  intro r
  induction r with
  | nil => intro m; exact .inl rfl
  | cons x r ih =>
    intro m
    unfold minF
    rcases ih (if numF l x < numF l m then x else m) with h | h
    · rw [h]
      split
      · exact .inr List.mem_cons_self
      · exact .inl rfl
    · exact .inr (List.mem_cons_of_mem _ h)
theorem minTo_mem (l : List S25) (ss : List (Nat → Int)) (m : Nat → Int) (k : Nat) (hm : ss[0]? = some m) : minTo l ss m k ∈ ss := by
  unfold minTo
  rcases minF_mem l ((ss.take k).drop 1) m with h | h
  · rw [h]; exact List.mem_of_getElem? hm
  · exact List.mem_of_mem_take (List.mem_of_mem_drop h)
def Z84 (W : World) (b : Nat) : Prop := W.heap[b]? = some (.cells #[.slice none 0 0, .int .i64 0, .int .i64 0, .int .i64 0, .int .i64 0, .int .i64 0] 63 (0, 0))
set_option maxHeartbeats 2000000 in
set_option maxRecDepth 100000 in
theorem minFunc_calls (A : Option Addr) (c : Nat) (l : List S25) (ss : List (Nat → Int)) (m : Nat → Int) (gv cv bl bn bb : Nat) (w : World) (hr : TrAt A c l bl w) (hc : l.length ≤ c) (hv : Valid l) (hss : ∀ s ∈ ss, SrcOk l s) (hm : ss[0]? = some m) (hlen : ss.length < 10000)
    (hown : w.ownsRow bb 63 6 (.slice (some ⟨gv, 0, none⟩) ss.length cv) ss.length (lostRow A l.length c ss)) (hbn : w.heap[bn]? = some (.cells #[numV bl] 78 (0, 0))) :
    Calls Tryd.prog 55 #[.slice (some ⟨gv, 0, none⟩) ss.length cv, .func (.func 56) #[] #[.pointer (some ⟨bn, 0, none⟩)]] w fun e w' => e = .returned (lostV A l.length c (minTo l ss m ss.length)) ∧ Below w.heap.size w w' := by
  have HR := Aside0.mk hr
  have HV := Aside0.mk hv
  have HSS := Aside0.mk hss
  have HM := Aside0.mk hm
  have HOWN := Aside0.mk hown
  have HN := Aside0.mk hbn
  have hl1 : 1 ≤ ss.length := by
    have := (List.getElem?_eq_some_iff.1 hm).1
    omega
  obtain ⟨mn, hmn⟩ : ∃ mn, mn = minTo l ss m ss.length := ⟨_, rfl⟩
  rw [← hmn]
  have HMN := Aside0.mk hmn
  have hmix : Tryd.prog.follows Departure.mixedOrders = true := by kernel_rfl
  clear hr hv hss hm hown hbn hmn
  go_enter Tryd.func55, Tryd.ntmps55
  go_upto_region 1 with fail
  obtain ⟨b4, hb4⟩ : ∃ b4, b4 = w.heap.size := ⟨_, rfl⟩
  rw [← hb4]
  refine wp_gen (fun wx => Aside0 (Z84 wx b4) ∧ Aside0 (Below w.heap.size w wx) ∧ Aside0 (w.heap.size ≤ b4)) ?_ ?_
  · subst hb4
    exact ⟨⟨blk_new w _⟩, ⟨(Below.refl _ _).alloc (Nat.le_refl _) _⟩, ⟨Nat.le_refl _⟩⟩
  clear hb4
  rintro W1 ⟨HZ, HB, H4⟩
  obtain ⟨⟨y0, y1, y2, y3, y4, y5⟩, ygl⟩ := lost_cells HOWN.out HB.out 0 m HM.out
  simp only [Nat.zero_mul, Nat.zero_add] at y0 y1 y2 y3 y4 y5
  go_upto_region 4 with fail
  obtain ⟨b5, hb5⟩ : ∃ b5, b5 = W1.heap.size := ⟨_, rfl⟩
  rw [← hb5]
  refine wp_gen (fun wx => Aside0 (Z84 wx b4) ∧ Aside0 (LostAt wx b5 A l.length c (minTo l ss m 1)) ∧ Aside0 (Below w.heap.size w wx) ∧ Aside0 (b4 < b5)) ?_ ?_
  · rw [minTo_one]
    refine ⟨⟨blk_alloc HZ.out _⟩, ⟨?_⟩, ⟨HB.out.alloc HB.out.size _⟩, ⟨by rw [hb5]; exact blk_lt HZ.out⟩⟩
    rw [hb5]
    exact blk_new W1 _
  clear hb5 HZ HB y0 y1 y2 y3 y4 y5 ygl W1
  rintro W1 ⟨HZ, HX, HB, H45⟩
  go_wp2_with fail
  go_loopg [6] ss.length (fun k s6 wr => ∃ i : Nat, i + k = ss.length + 1 ∧ (1 ≤ i ∧ i ≤ ss.length) ∧ s6 = .int .i64 (i : Int) ∧ Aside0 (Z84 wr b4) ∧ Aside0 (LostAt wr b5 A l.length c (minTo l ss m i)) ∧ Aside0 (Below w.heap.size w wr))
  case atStart => exact ⟨1, by omega, ⟨by omega, by omega⟩, rfl, HZ, HX, HB⟩
  case round =>
    clear HZ HX HB
    obtain ⟨i, hik, ⟨hi1, hi2⟩, rfl, HZ, HX, HB⟩ := hrel
    have HIK := Aside0.mk hik
    clear hik
    by_cases hi : i < ss.length
    · obtain ⟨s, hs⟩ : ∃ s, ss[i]? = some s := ⟨_, List.getElem?_eq_getElem hi⟩
      obtain ⟨⟨y0, y1, y2, y3, y4, y5⟩, ygl⟩ := lost_cells HOWN.out HB.out i s hs
      have HS := Aside0.mk hs
      obtain ⟨mm, hmm⟩ : ∃ mm, mm = minTo l ss m i := ⟨_, rfl⟩
      rw [← hmm] at HX
      have HMM := Aside0.mk hmm
      obtain ⟨x0, x1, x2, x3, x4, x5⟩ := HX.out.cells
      have hxl := blk_lt HX.out
      obtain ⟨cp, hcp⟩ : ∃ cp, cp = cmpI (numF l s) (numF l mm) := ⟨_, rfl⟩
      have HCP := Aside0.mk hcp
      clear hs hmm hcp
      go_upto_region 7 with fail
      have HRd := Aside0.mk ((HR.out.below HB.out))
      go_cut [27] from 20 to 31 (fun s27 wy => s27 = .bool (decide (cp < 0)) ∧ Aside0 (Z84 wy b4 ∧ LostAt wy b5 A l.length c mm ∧ Below w.heap.size w wy))
      case first =>
        go_region_with (first
          | (go_at_call 56; refine (ask70_calls A c l s mm bl bn wr.drew (HRd.out.below (below_drew (Below.refl _ _))) hc HV.out (HSS.out s (List.mem_of_getElem? HS.out)) (by rw [HMM.out]; exact HSS.out _ (minTo_mem l ss m i HM.out)) (blk_below HN.out (below_drew HB.out))).mono ?_; rintro e w7 ⟨rfl, hB7⟩; rw [← HCP.out]; have HB7 := Aside0.mk ((below_drew (Below.refl wr.heap.size wr)).trans hB7); have HX7 := Aside0.mk (HX.out.below HB7.out); have HZ7 := Aside0.mk (show Z84 w7 b4 from blk_below HZ.out HB7.out); clear hB7))
        all_goals go_wp2_with fail
        all_goals
          refine Met.intro ?_
          go_step
          (repeat apply Exists.intro)
          exact ⟨⟨rfl, ⟨HZ7.out, HX7.out, HB.out.trans (HB7.out.mono HB.out.size)⟩⟩, rfl⟩
      case rest =>
        obtain ⟨rfl, HW⟩ := hcut
        clear HZ HX HB HRd y0 y1 y2 y3 y4 y5 ygl x0 x1 x2 x3 x4 x5 hxl
        by_cases hlt : cp < 0
        · have b1 : decide (cp < 0) = true := decide_eq_true hlt
          have HLT := Aside0.mk hlt
          rw [b1]
          clear hlt b1
          obtain ⟨⟨y0, y1, y2, y3, y4, y5⟩, ygl⟩ := lost_cells HOWN.out HW.out.2.2 i s HS.out
          obtain ⟨x0, x1, x2, x3, x4, x5⟩ := HW.out.2.1.cells
          have hxl := blk_lt HW.out.2.1
          have f0 := blk_frozen HW.out.2.1 0
          have f1 := blk_frozen HW.out.2.1 1
          have f2 := blk_frozen HW.out.2.1 2
          have f3 := blk_frozen HW.out.2.1 3
          have f4 := blk_frozen HW.out.2.1 4
          have f5 := blk_frozen HW.out.2.1 5
          go_wp2_with fail
          go_roundg (gk - 1)
          case measure => have := HIK.out; omega
          case rel =>
            refine ⟨i + 1, by have := HIK.out; omega, ⟨by omega, by omega⟩, by go_num, ⟨?_⟩, ⟨?_⟩, ⟨?_⟩⟩
            · have hz := HW.out.1
              have hne : b4 ≠ b5 := by have := H45.out; omega
              exact blk_far (blk_far (blk_far (blk_far (blk_far (blk_far hz hne _) hne _) hne _) hne _) hne _) hne _
            · rw [minTo_succ l ss m i hi1 s HS.out, ← HMM.out, if_pos (show numF l s < numF l mm from by
                have h := HLT.out
                rw [HCP.out] at h
                unfold cmpI at h
                split at h
                · assumption
                · split at h <;> omega)]
              have s0 := blk_set HW.out.2.1 0 (.slice A l.length c)
              have s1 := blk_set s0 1 (.int .i64 (s 0))
              have s2 := blk_set s1 2 (.int .i64 (s 1))
              have s3 := blk_set s2 3 (.int .i64 (s 2))
              have s4 := blk_set s3 4 (.int .i64 (s 3))
              have s5 := blk_set s4 5 (.int .i64 (s 4))
              simp only [List.setIfInBounds_toArray, List.set_cons_zero, List.set_cons_succ] at s5
              exact s5
            · have h45 : w.heap.size ≤ b5 := by have := H4.out; have := H45.out; omega
              exact ((((((HW.out.2.2).setCell h45 _).setCell h45 _).setCell h45 _).setCell h45 _).setCell h45 _).setCell h45 _
        · have b1 : decide (cp < 0) = false := decide_eq_false hlt
          have HLT := Aside0.mk hlt
          rw [b1]
          clear hlt b1
          go_wp2_with fail
          go_roundg (gk - 1)
          case measure => have := HIK.out; omega
          case rel =>
            refine ⟨i + 1, by have := HIK.out; omega, ⟨by omega, by omega⟩, by go_num, ⟨HW.out.1⟩, ⟨?_⟩, ⟨HW.out.2.2⟩⟩
            rw [minTo_succ l ss m i hi1 s HS.out, ← HMM.out, if_neg (fun h => by have h2 := HLT.out; rw [HCP.out] at h2; unfold cmpI at h2; rw [if_pos h] at h2; omega)]
            exact HW.out.2.1
    · have hii : i = ss.length := by omega
      have HII := Aside0.mk hii
      clear hii
      rw [HII.out, ← HMN.out] at HX
      obtain ⟨x0, x1, x2, x3, x4, x5⟩ := HX.out.cells
      have hxl := blk_lt HX.out
      have hzl := blk_lt HZ.out
      have z0 := (blk_cell HZ.out 0).trans rfl
      have z1 := (blk_cell HZ.out 1).trans rfl
      have z2 := (blk_cell HZ.out 2).trans rfl
      have z3 := (blk_cell HZ.out 3).trans rfl
      have z4 := (blk_cell HZ.out 4).trans rfl
      have z5 := (blk_cell HZ.out 5).trans rfl
      have f0 := blk_frozen HZ.out 0
      have f1 := blk_frozen HZ.out 1
      have f2 := blk_frozen HZ.out 2
      have f3 := blk_frozen HZ.out 3
      have f4 := blk_frozen HZ.out 4
      have f5 := blk_frozen HZ.out 5
      go_wp2_with fail
      have s0 := blk_set HZ.out 0 (.slice A l.length c)
      have s1 := blk_set s0 1 (.int .i64 (mn 0))
      have s2 := blk_set s1 2 (.int .i64 (mn 1))
      have s3 := blk_set s2 3 (.int .i64 (mn 2))
      have s4 := blk_set s3 4 (.int .i64 (mn 3))
      have s5 := blk_set s4 5 (.int .i64 (mn 4))
      simp only [List.setIfInBounds_toArray, List.set_cons_zero, List.set_cons_succ] at s5
      refine bodyPost_ret (results_cell_row rfl _ _ b4 63 _ (0, 0) _ rfl s5 Tryd.underlying63 rfl (by kernel_rfl)) rfl ⟨rfl, ?_⟩
      exact (((((((HB.out).setCell H4.out _).setCell H4.out _).setCell H4.out _).setCell H4.out _).setCell H4.out _).setCell H4.out _)
end Go.Proofs.YtecdjnabmjhakaaDoor.P.OwnSt
namespace Go.Proofs.YtecdjnabmjhakaaDoor.P.OwnSt
open Go.RowKit Go.Shelf Go.Proofs.YtecdjnabmjhakaaDoorW.PrintWords Go.Proofs.YtecdjnabmjhakaaDoorW.PrintLast Go.Proofs.YtecdjnabmjhakaaDoorW.PrintMore
set_option linter.unusedVariables false
set_option linter.unusedSimpArgs false
set_option maxHeartbeats 2000000 in
set_option maxRecDepth 100000 in
theorem smallest_calls (A : Option Addr) (c : Nat) (l : List S25) (ss : List (Nat → Int)) (m : Nat → Int) (gv cv bl bb : Nat) (w : World) (hr : TrAt A c l bl w) (hc : l.length ≤ c) (hv : Valid l) (hss : ∀ s ∈ ss, SrcOk l s) (hm : ss[0]? = some m) (hlen : ss.length < 10000)
    (hown : w.ownsRow bb 63 6 (.slice (some ⟨gv, 0, none⟩) ss.length cv) ss.length (lostRow A l.length c ss)) :
    Calls Tryd.prog 34 #[.slice (some ⟨gv, 0, none⟩) ss.length cv, numV bl] w fun e w' => e = .returned (.int .i64 (numF l (minTo l ss m ss.length))) ∧ Below w.heap.size w w' := by
  have HR := Aside0.mk hr
  have HV := Aside0.mk hv
  have HSS := Aside0.mk hss
  have HM := Aside0.mk hm
  have HOWN := Aside0.mk hown
  obtain ⟨mn, hmn⟩ : ∃ mn, mn = minTo l ss m ss.length := ⟨_, rfl⟩
  obtain ⟨nn, hnn⟩ : ∃ nn, nn = numF l mn := ⟨_, rfl⟩
  rw [← hmn, ← hnn]
  have HMN := Aside0.mk hmn
  have HNN := Aside0.mk hnn
  have HSM := Aside0.mk (show SrcOk l mn by rw [hmn]; exact hss _ (minTo_mem l ss m _ hm))
  have hmix : Tryd.prog.follows Departure.mixedOrders = true := by kernel_rfl
  clear hr hv hss hm hown hmn hnn
  unfold numV
  go_enter Tryd.func34, Tryd.ntmps34
  go_upto_region 1 with fail
  obtain ⟨bn, hbn⟩ : ∃ bn, bn = w.heap.size := ⟨_, rfl⟩
  rw [← hbn]
  refine wp_gen (fun wx => Aside0 (wx.heap[bn]? = some (.cells #[numV bl] 78 (0, 0))) ∧ Aside0 (Below w.heap.size w wx) ∧ Aside0 (TrAt A c l bl wx) ∧ Aside0 (wx.ownsRow bb 63 6 (.slice (some ⟨gv, 0, none⟩) ss.length cv) ss.length (lostRow A l.length c ss))) ?_ ?_
  · subst hbn
    exact ⟨⟨blk_new w _⟩, ⟨(Below.refl _ _).alloc (Nat.le_refl _) _⟩, ⟨HR.out.below ((Below.refl _ _).alloc (Nat.le_refl _) _)⟩, ⟨HOWN.out.alloc _⟩⟩
  clear hbn HR HOWN
  rintro W1 ⟨HN, HB, HR, HOWN⟩
  have hnl := blk_lt HN.out
  have hn0 := (blk_cell HN.out 0).trans (show (#[numV bl] : Array Value)[0]? = some (.func (.func 35) #[] #[.pointer (some ⟨bl, 0, none⟩)]) from rfl)
  have HRd := HR.out.below (below_drew (Below.refl _ _))
  have HC69 := Aside0.mk (minFunc_calls A c l ss m gv cv bl bn bb W1.drew HRd hc HV.out HSS.out HM.out hlen (own_move HOWN.out (fun _ _ => rfl)) (blk_below HN.out (below_drew (Below.refl _ _))))
  clear HRd
  go_region_with (first
    | (go_at_call 55; refine HC69.out.mono ?_; rintro e w3 ⟨rfl, hB3⟩; rw [← HMN.out]; unfold lostV; have HB3 := Aside0.mk ((below_drew (Below.refl W1.heap.size W1)).trans hB3); have hn3 := (HB3.out.cell (p := ⟨bn, 0, none⟩) hnl).trans hn0; have HR3 := Aside0.mk (HR.out.below HB3.out); clear hB3)
    | (go_at_call 35; refine (ask57_calls' A c l mn bl w3 HR3.out.list hc HV.out HSM.out HR3.out.box).mono ?_; rintro e w4 ⟨rfl, hB4⟩; rw [← HNN.out]; have HB4 := Aside0.mk hB4; clear hB4))
  all_goals go_wp2_with fail
  all_goals exact bodyPost_ret (results_tmp rfl _ _ _) rfl ⟨rfl, HB.out.trans ((HB3.out.trans (HB4.out.mono HB3.out.size)).mono HB.out.size)⟩
def fewestV (l : List S25) : Int × Int := if knownE l = 0 then (numF l (minTo l (knownV l) ((knownV l).headD fun _ => 0) (knownV l).length), 0) else (0, knownE l)
set_option maxHeartbeats 2000000 in
set_option maxRecDepth 100000 in
theorem fewest_calls (A : Option Addr) (c : Nat) (l : List S25) (w : World) (hr : Kd.C k25 w A l.length l) (hc : l.length ≤ c) :
    Calls Tryd.prog 14 #[.slice A l.length c] w fun e w' => e = .returned (.tuple #[.int .i64 (fewestV l).1, .int .i64 (fewestV l).2]) ∧ Below w.heap.size w w' := by
  have HL0 := Aside0.mk (show (w.alloc (.cells #[.slice A l.length c] 22)).heap[w.heap.size]? = some (.cells #[.slice A l.length c] 22 (0, 0)) from blk_new w _)
  by_cases hk : knownE l = 0
  · obtain ⟨nn, hnn⟩ : ∃ nn, nn = numF l (minTo l (knownV l) ((knownV l).headD fun _ => 0) (knownV l).length) := ⟨_, rfl⟩
    have hV : fewestV l = (nn, 0) := by unfold fewestV; rw [if_pos hk, hnn]
    rw [hV]
    have HNN := Aside0.mk hnn
    have HR := Aside0.mk hr
    have HK := Aside0.mk hk
    have HVA := Aside0.mk (valid_of_check (knownE_zero hk).1)
    have HNE := Aside0.mk (knownE_zero hk).2
    have hkL := known_len l HVA.out.five
    clear hr hk hV hnn
    go_enter Tryd.func14, Tryd.ntmps14
    go_upto_region 1 with fail
    obtain ⟨bl, hbl⟩ : ∃ bl, bl = w.heap.size := ⟨_, rfl⟩
    rw [← hbl] at HL0 ⊢
    refine wp_gen (fun wx => Aside0 (Below w.heap.size w wx) ∧ Aside0 (TrAt A c l bl wx)) ⟨⟨(Below.refl _ _).alloc (Nat.le_refl _) _⟩, ⟨Kd.C_below HR.out ((Below.refl _ _).alloc (Nat.le_refl _) _), HL0.out⟩⟩ ?_
    clear hbl HL0 HR
    rintro W1 ⟨HB, HR⟩
    have hl0 := (blk_cell HR.out.box 0).trans (show (#[Value.slice A l.length c] : Array Value)[0]? = some _ from rfl)
    go_wp2_with (first
      | (go_at_call 24; refine (known_ok A c l W1 HR.out.list hc HK.out).mono ?_; rintro e w2 ⟨gv, cv, rfl, hB2, hown⟩; have HB2 := Aside0.mk hB2; have HOWN := Aside0.mk hown; clear hB2 hown)
      | (go_at_call 34; refine (smallest_calls A c l (knownV l) ((knownV l).headD fun _ => 0) gv cv bl W1.heap.size w2 (HR.out.below HB2.out) hc HVA.out (fun s hs k hk => ⟨((knownV_mem hs).1 k hk).1, ((knownV_mem hs).1 k hk).2.1⟩) ?hd hkL HOWN.out).mono ?_; (case hd => (have hne := HNE.out; revert hne; cases knownV l with | nil => (intro h; exact absurd rfl h) | cons x r => (intro _; rfl))); rintro e w5 ⟨rfl, hB5⟩; rw [← HNN.out]; have HB5 := Aside0.mk hB5; clear hB5))
    exact bodyPost_ret (results_tmp2 rfl _ _ _) rfl ⟨rfl, HB.out.trans ((HB2.out.trans (HB5.out.mono HB2.out.size)).mono HB.out.size)⟩
  · have hV : fewestV l = (0, knownE l) := by unfold fewestV; rw [if_neg hk]
    rw [hV]
    obtain ⟨e0, he0⟩ : ∃ e0, e0 = knownE l := ⟨_, rfl⟩
    have HR := Aside0.mk hr
    have HK := Aside0.mk hk
    have HE := Aside0.mk he0
    have b1 : (e0 != 0) = true := bne_iff_ne.2 (by rw [he0]; exact hk)
    rw [← he0]
    clear hr hk hV he0
    have hl0 := (blk_cell HL0.out 0).trans (show (#[Value.slice A l.length c] : Array Value)[0]? = some _ from rfl)
    go_enter Tryd.func14, Tryd.ntmps14
    go_wp2_with (first | (go_at_call 24; refine (known_err A c l _ (Kd.C_below HR.out ((Below.refl _ _).alloc (Nat.le_refl _) _)) hc HK.out).mono ?_; rintro e w2 ⟨rfl, hB⟩; rw [← HE.out]; have HB := Aside0.mk (((Below.refl w.heap.size w).alloc (Nat.le_refl _) (.cells #[.slice A l.length c] 22)).trans (hB.mono (by simp))); clear hB))
    exact bodyPost_ret (results_tmp2 rfl _ _ _) rfl ⟨rfl, HB.out⟩
end Go.Proofs.YtecdjnabmjhakaaDoor.P.OwnSt
namespace Go.Proofs.YtecdjnabmjhakaaDoor.P
open Go.RowKit Go.Proofs.YtecdjnabmjhakaaDoorW.PrintWords Go.Proofs.YtecdjnabmjhakaaDoorW.PrintLast Go.Proofs.YtecdjnabmjhakaaDoorW.PrintMore
attribute [local go_sem] max2_int min2_int max_two min_two max_three min_three max_four min_four   -- for this text's walks alone
set_option linter.unusedVariables false
set_option linter.unusedSimpArgs false
def stemma_Fewest.f (k : Nat) (l0 : List (S25)) : Option (Int × Int) := some (OwnSt.fewestV l0)
theorem stemma_Fewest.mono : ∀ a0 k, LeO (stemma_Fewest.f k a0) (stemma_Fewest.f (k + 1) a0) := by intros; exact LeO.refl _
theorem stemma_Fewest.calls (k : Nat) (A0 : Option Addr) (c0 : Nat) (l0 : List (S25)) (r1 : Int) (r2 : Int) (w : World) (hr0 : Kd.C k25 w A0 l0.length l0) (hc0 : l0.length ≤ c0) (h : stemma_Fewest.f k l0 = some (r1, r2)) :
    Calls Tryd.prog 14 #[.slice A0 l0.length c0] w fun e w' => e = .returned (.tuple #[.int .i64 r1, .int .i64 r2]) ∧ Below w.heap.size w w' := by
  have h2 := OwnSt.fewest_calls A0 c0 l0 w hr0 hc0; rw [show OwnSt.fewestV l0 = (r1, r2) from Option.some.inj h] at h2; exact h2
end Go.Proofs.YtecdjnabmjhakaaDoor.P
namespace Go.Proofs.YtecdjnabmjhakaaDoor.P
open Go.RowKit Go.Proofs.YtecdjnabmjhakaaDoorW.PrintWords Go.Proofs.YtecdjnabmjhakaaDoorW.PrintLast Go.Proofs.YtecdjnabmjhakaaDoorW.PrintMore
attribute [local go_sem] max2_int min2_int max_two min_two max_three min_three max_four min_four   -- for this text's walks alone
set_option linter.unusedVariables false
set_option linter.unusedSimpArgs false
def cippuslaw07_found.f (k : Nat)  : Option (Bool) := (cippuslaw07_copies.f 1 1 true).bind fun t121 => ((stemma_Sources.f k t121).bind fun bt124 => ((cippuslaw07_copies.f 1 0 true).bind fun t128 => ((stemma_Print.f k t128).bind fun bt131 => ((cippuslaw07_copies.f 0 1 true).bind fun t133 => ((stemma_Print.f k t133).bind fun bt136 => ((cippuslaw07_copies.f 1 0 true).bind fun t138 => ((stemma_Fewest.f k t138).bind fun bt141 => (if bt124.2 = 0 then (if bt131.2 = 0 then (if bt136.2 = 0 then (if bt141.2 = 0 then (if bt131.1.toList = ([65, 82, 77, 79] : List UInt8) then (if bt136.1.toList = ([65, 82, 77, 65] : List UInt8) then (if bt141.1 = 2 then ((cippuskit_SameGrids.f k bt124.1 (([(([1] : List Int)), (([3, 3] : List Int)), (([2, 2, 1] : List Int))] : List (List Int)))).bind fun t155 => (some t155)) else (some false)) else (some false)) else (some false)) else (some false)) else (some false)) else (some false)) else (some false)))))))))
theorem cippuslaw07_found.mono : ∀ k, LeO (cippuslaw07_found.f k ) (cippuslaw07_found.f (k + 1) ) := by
  intro  k
  unfold cippuslaw07_found.f
  repeat' first
      | (with_reducible exact cippuskit_SameGrids.mono _ _ _)
      | (with_reducible exact stemma_Fewest.mono _ _)
      | (with_reducible exact stemma_Print.mono _ _)
      | (with_reducible exact stemma_Sources.mono _ _)
      | (with_reducible exact LeO.refl _)
      | (with_reducible exact LeO.none _)
      | (with_reducible refine LeO.ite ?_ ?_)
      | (with_reducible refine LeO.bind ?_ (fun _ => ?_))
      | exact cippuskit_SameGrids.mono _ _ _
      | exact stemma_Fewest.mono _ _
      | exact stemma_Print.mono _ _
      | exact stemma_Sources.mono _ _
      | exact LeO.none _
      | refine LeO.ite ?_ ?_
      | refine LeO.bind ?_ (fun _ => ?_)
set_option maxHeartbeats 8000000 in
set_option maxRecDepth 100000 in
theorem cippuslaw07_found.calls (k : Nat)  (r : Bool) (w : World) (h : cippuslaw07_found.f k  = some r) :
    Calls Tryd.prog 7 #[] w fun e w' => e = .returned (.bool r) ∧ Below w.heap.size w w' := by
  have HB := Aside0.mk (Below.refl w.heap.size w)
  have H : ((cippuslaw07_copies.f 1 1 true).bind fun t121 => ((stemma_Sources.f k t121).bind fun bt124 => ((cippuslaw07_copies.f 1 0 true).bind fun t128 => ((stemma_Print.f k t128).bind fun bt131 => ((cippuslaw07_copies.f 0 1 true).bind fun t133 => ((stemma_Print.f k t133).bind fun bt136 => ((cippuslaw07_copies.f 1 0 true).bind fun t138 => ((stemma_Fewest.f k t138).bind fun bt141 => (if bt124.2 = 0 then (if bt131.2 = 0 then (if bt136.2 = 0 then (if bt141.2 = 0 then (if bt131.1.toList = ([65, 82, 77, 79] : List UInt8) then (if bt136.1.toList = ([65, 82, 77, 65] : List UInt8) then (if bt141.1 = 2 then ((cippuskit_SameGrids.f k bt124.1 (([(([1] : List Int)), (([3, 3] : List Int)), (([2, 2, 1] : List Int))] : List (List Int)))).bind fun t155 => (some t155)) else (some false)) else (some false)) else (some false)) else (some false)) else (some false)) else (some false)) else (some false)))))))))) = some r := h
  clear h
  replace H := Option.bind_eq_some_iff.mp H
  obtain ⟨t121, A10, H⟩ := H
  replace H : ((stemma_Sources.f k t121).bind fun bt124 => ((cippuslaw07_copies.f 1 0 true).bind fun t128 => ((stemma_Print.f k t128).bind fun bt131 => ((cippuslaw07_copies.f 0 1 true).bind fun t133 => ((stemma_Print.f k t133).bind fun bt136 => ((cippuslaw07_copies.f 1 0 true).bind fun t138 => ((stemma_Fewest.f k t138).bind fun bt141 => (if bt124.2 = 0 then (if bt131.2 = 0 then (if bt136.2 = 0 then (if bt141.2 = 0 then (if bt131.1.toList = ([65, 82, 77, 79] : List UInt8) then (if bt136.1.toList = ([65, 82, 77, 65] : List UInt8) then (if bt141.1 = 2 then ((cippuskit_SameGrids.f k bt124.1 (([(([1] : List Int)), (([3, 3] : List Int)), (([2, 2, 1] : List Int))] : List (List Int)))).bind fun t155 => (some t155)) else (some false)) else (some false)) else (some false)) else (some false)) else (some false)) else (some false)) else (some false))))))))) = some r := H
  have A1 := Aside0.mk A10
  clear A10
  replace H := Option.bind_eq_some_iff.mp H
  obtain ⟨⟨t124, t127⟩, A20, H⟩ := H
  replace H : ((cippuslaw07_copies.f 1 0 true).bind fun t128 => ((stemma_Print.f k t128).bind fun bt131 => ((cippuslaw07_copies.f 0 1 true).bind fun t133 => ((stemma_Print.f k t133).bind fun bt136 => ((cippuslaw07_copies.f 1 0 true).bind fun t138 => ((stemma_Fewest.f k t138).bind fun bt141 => (if t127 = 0 then (if bt131.2 = 0 then (if bt136.2 = 0 then (if bt141.2 = 0 then (if bt131.1.toList = ([65, 82, 77, 79] : List UInt8) then (if bt136.1.toList = ([65, 82, 77, 65] : List UInt8) then (if bt141.1 = 2 then ((cippuskit_SameGrids.f k t124 (([(([1] : List Int)), (([3, 3] : List Int)), (([2, 2, 1] : List Int))] : List (List Int)))).bind fun t155 => (some t155)) else (some false)) else (some false)) else (some false)) else (some false)) else (some false)) else (some false)) else (some false)))))))) = some r := H
  have A2 := Aside0.mk A20
  clear A20
  replace H := Option.bind_eq_some_iff.mp H
  obtain ⟨t128, A30, H⟩ := H
  replace H : ((stemma_Print.f k t128).bind fun bt131 => ((cippuslaw07_copies.f 0 1 true).bind fun t133 => ((stemma_Print.f k t133).bind fun bt136 => ((cippuslaw07_copies.f 1 0 true).bind fun t138 => ((stemma_Fewest.f k t138).bind fun bt141 => (if t127 = 0 then (if bt131.2 = 0 then (if bt136.2 = 0 then (if bt141.2 = 0 then (if bt131.1.toList = ([65, 82, 77, 79] : List UInt8) then (if bt136.1.toList = ([65, 82, 77, 65] : List UInt8) then (if bt141.1 = 2 then ((cippuskit_SameGrids.f k t124 (([(([1] : List Int)), (([3, 3] : List Int)), (([2, 2, 1] : List Int))] : List (List Int)))).bind fun t155 => (some t155)) else (some false)) else (some false)) else (some false)) else (some false)) else (some false)) else (some false)) else (some false))))))) = some r := H
  have A3 := Aside0.mk A30
  clear A30
  replace H := Option.bind_eq_some_iff.mp H
  obtain ⟨⟨t131, t132⟩, A40, H⟩ := H
  replace H : ((cippuslaw07_copies.f 0 1 true).bind fun t133 => ((stemma_Print.f k t133).bind fun bt136 => ((cippuslaw07_copies.f 1 0 true).bind fun t138 => ((stemma_Fewest.f k t138).bind fun bt141 => (if t127 = 0 then (if t132 = 0 then (if bt136.2 = 0 then (if bt141.2 = 0 then (if t131.toList = ([65, 82, 77, 79] : List UInt8) then (if bt136.1.toList = ([65, 82, 77, 65] : List UInt8) then (if bt141.1 = 2 then ((cippuskit_SameGrids.f k t124 (([(([1] : List Int)), (([3, 3] : List Int)), (([2, 2, 1] : List Int))] : List (List Int)))).bind fun t155 => (some t155)) else (some false)) else (some false)) else (some false)) else (some false)) else (some false)) else (some false)) else (some false)))))) = some r := H
  have A4 := Aside0.mk A40
  clear A40
  replace H := Option.bind_eq_some_iff.mp H
  obtain ⟨t133, A50, H⟩ := H
  replace H : ((stemma_Print.f k t133).bind fun bt136 => ((cippuslaw07_copies.f 1 0 true).bind fun t138 => ((stemma_Fewest.f k t138).bind fun bt141 => (if t127 = 0 then (if t132 = 0 then (if bt136.2 = 0 then (if bt141.2 = 0 then (if t131.toList = ([65, 82, 77, 79] : List UInt8) then (if bt136.1.toList = ([65, 82, 77, 65] : List UInt8) then (if bt141.1 = 2 then ((cippuskit_SameGrids.f k t124 (([(([1] : List Int)), (([3, 3] : List Int)), (([2, 2, 1] : List Int))] : List (List Int)))).bind fun t155 => (some t155)) else (some false)) else (some false)) else (some false)) else (some false)) else (some false)) else (some false)) else (some false))))) = some r := H
  have A5 := Aside0.mk A50
  clear A50
  replace H := Option.bind_eq_some_iff.mp H
  obtain ⟨⟨t136, t137⟩, A60, H⟩ := H
  replace H : ((cippuslaw07_copies.f 1 0 true).bind fun t138 => ((stemma_Fewest.f k t138).bind fun bt141 => (if t127 = 0 then (if t132 = 0 then (if t137 = 0 then (if bt141.2 = 0 then (if t131.toList = ([65, 82, 77, 79] : List UInt8) then (if t136.toList = ([65, 82, 77, 65] : List UInt8) then (if bt141.1 = 2 then ((cippuskit_SameGrids.f k t124 (([(([1] : List Int)), (([3, 3] : List Int)), (([2, 2, 1] : List Int))] : List (List Int)))).bind fun t155 => (some t155)) else (some false)) else (some false)) else (some false)) else (some false)) else (some false)) else (some false)) else (some false)))) = some r := H
  have A6 := Aside0.mk A60
  clear A60
  replace H := Option.bind_eq_some_iff.mp H
  obtain ⟨t138, A70, H⟩ := H
  replace H : ((stemma_Fewest.f k t138).bind fun bt141 => (if t127 = 0 then (if t132 = 0 then (if t137 = 0 then (if bt141.2 = 0 then (if t131.toList = ([65, 82, 77, 79] : List UInt8) then (if t136.toList = ([65, 82, 77, 65] : List UInt8) then (if bt141.1 = 2 then ((cippuskit_SameGrids.f k t124 (([(([1] : List Int)), (([3, 3] : List Int)), (([2, 2, 1] : List Int))] : List (List Int)))).bind fun t155 => (some t155)) else (some false)) else (some false)) else (some false)) else (some false)) else (some false)) else (some false)) else (some false))) = some r := H
  have A7 := Aside0.mk A70
  clear A70
  replace H := Option.bind_eq_some_iff.mp H
  obtain ⟨⟨t141, t142⟩, A80, H⟩ := H
  replace H : (if t127 = 0 then (if t132 = 0 then (if t137 = 0 then (if t142 = 0 then (if t131.toList = ([65, 82, 77, 79] : List UInt8) then (if t136.toList = ([65, 82, 77, 65] : List UInt8) then (if t141 = 2 then ((cippuskit_SameGrids.f k t124 (([(([1] : List Int)), (([3, 3] : List Int)), (([2, 2, 1] : List Int))] : List (List Int)))).bind fun t155 => (some t155)) else (some false)) else (some false)) else (some false)) else (some false)) else (some false)) else (some false)) else (some false)) = some r := H
  have A8 := Aside0.mk A80
  clear A80
  by_cases c9 : t127 = 0
  · rw [if_pos c9] at H
    have c9b0 : (t127 == 0) = true := beq_iff_eq.mpr c9
    have c9b1 : (t127 != 0) = false := bne_eq_false_iff_eq.mpr c9
    clear c9
    by_cases c10 : t132 = 0
    · rw [if_pos c10] at H
      have c10b0 : (t132 == 0) = true := beq_iff_eq.mpr c10
      have c10b1 : (t132 != 0) = false := bne_eq_false_iff_eq.mpr c10
      clear c10
      by_cases c11 : t137 = 0
      · rw [if_pos c11] at H
        have c11b0 : (t137 == 0) = true := beq_iff_eq.mpr c11
        have c11b1 : (t137 != 0) = false := bne_eq_false_iff_eq.mpr c11
        clear c11
        by_cases c12 : t142 = 0
        · rw [if_pos c12] at H
          have c12b0 : (t142 == 0) = true := beq_iff_eq.mpr c12
          have c12b1 : (t142 != 0) = false := bne_eq_false_iff_eq.mpr c12
          clear c12
          by_cases c13 : t131.toList = ([65, 82, 77, 79] : List UInt8)
          · rw [if_pos c13] at H
            have c13b0 : (t131.toList == ([65, 82, 77, 79] : List UInt8)) = true := beq_iff_eq.mpr c13
            have c13b1 : (t131.toList != ([65, 82, 77, 79] : List UInt8)) = false := bne_eq_false_iff_eq.mpr c13
            clear c13
            by_cases c14 : t136.toList = ([65, 82, 77, 65] : List UInt8)
            · rw [if_pos c14] at H
              have c14b0 : (t136.toList == ([65, 82, 77, 65] : List UInt8)) = true := beq_iff_eq.mpr c14
              have c14b1 : (t136.toList != ([65, 82, 77, 65] : List UInt8)) = false := bne_eq_false_iff_eq.mpr c14
              clear c14
              by_cases c15 : t141 = 2
              · rw [if_pos c15] at H
                have c15b0 : (t141 == 2) = true := beq_iff_eq.mpr c15
                have c15b1 : (t141 != 2) = false := bne_eq_false_iff_eq.mpr c15
                clear c15
                obtain ⟨y143, hy143⟩ : ∃ y_ : List Int, y_ = (([1] : List Int)) := ⟨_, rfl⟩
                replace H : ((cippuskit_SameGrids.f k t124 (([y143, (([3, 3] : List Int)), (([2, 2, 1] : List Int))] : List (List Int)))).bind fun t155 => (some t155)) = some r := by first | (rw [hy143]; with_reducible exact H) | (have H2_ := (Option.bind_some _ _).symm.trans H; rw [hy143]; with_reducible exact H2_) | (have H2_ := (Option.bind_some _ _).symm.trans H; with_reducible exact H2_) | with_reducible exact H | (rw [hy143]; exact H) | exact H
                have Ny143 := Aside0.mk hy143
                clear hy143
                obtain ⟨y146, hy146⟩ : ∃ y_ : List Int, y_ = (([3, 3] : List Int)) := ⟨_, rfl⟩
                replace H : ((cippuskit_SameGrids.f k t124 (([y143, y146, (([2, 2, 1] : List Int))] : List (List Int)))).bind fun t155 => (some t155)) = some r := by first | (rw [hy146]; with_reducible exact H) | (have H2_ := (Option.bind_some _ _).symm.trans H; rw [hy146]; with_reducible exact H2_) | (have H2_ := (Option.bind_some _ _).symm.trans H; with_reducible exact H2_) | with_reducible exact H | (rw [hy146]; exact H) | exact H
                have Ny146 := Aside0.mk hy146
                clear hy146
                obtain ⟨y149, hy149⟩ : ∃ y_ : List Int, y_ = (([2, 2, 1] : List Int)) := ⟨_, rfl⟩
                replace H : ((cippuskit_SameGrids.f k t124 (([y143, y146, y149] : List (List Int)))).bind fun t155 => (some t155)) = some r := by first | (rw [hy149]; with_reducible exact H) | (have H2_ := (Option.bind_some _ _).symm.trans H; rw [hy149]; with_reducible exact H2_) | (have H2_ := (Option.bind_some _ _).symm.trans H; with_reducible exact H2_) | with_reducible exact H | (rw [hy149]; exact H) | exact H
                have Ny149 := Aside0.mk hy149
                clear hy149
                obtain ⟨y152, hy152⟩ : ∃ y_ : List (List Int), y_ = (([y143, y146, y149] : List (List Int))) := ⟨_, rfl⟩
                replace H : ((cippuskit_SameGrids.f k t124 y152).bind fun t155 => (some t155)) = some r := by first | (rw [hy152]; with_reducible exact H) | (have H2_ := (Option.bind_some _ _).symm.trans H; rw [hy152]; with_reducible exact H2_) | (have H2_ := (Option.bind_some _ _).symm.trans H; with_reducible exact H2_) | with_reducible exact H | (rw [hy152]; exact H) | exact H
                have Ny152 := Aside0.mk hy152
                clear hy152
                replace H := Option.bind_eq_some_iff.mp H
                obtain ⟨t155, A160, H⟩ := H
                replace H : (some t155) = some r := H
                have A16 := Aside0.mk A160
                clear A160
                obtain rfl := Option.some.inj H
                go_enter Tryd.func7, Tryd.ntmps7
                go_wp2_with (first | ((with_reducible refine gate_callee (f := 6) rfl ?_); refine goesL_ (some 10) rfl rfl Tryd.func6 (by kernel_rfl) rfl #[.int .i64 1, .int .i64 1, .bool true] rfl (by (try simp only [List.map_toArray, List.map_cons, List.map_nil]); first | done | rfl | (simp only [List.length_drop, List.length_take]; rfl)) ?_; (with_reducible refine (cippuslaw07_copies.calls 1 1 true t121 _ A1.out).mono ?_); rintro e w17 ⟨v122, rfl, ho0, hb⟩; refine ⟨_, rfl, ?_⟩; have n0_ := Aside0.mk (Kd.R_lower ho0 (below_size (by repeat (first | (with_reducible first | exact HB.out | apply below_alloc | apply pw_below_drewN | apply below_drew1) | exact HB.out)))); have n1_ := Aside0.mk (below_step (by repeat (first | (with_reducible first | exact HB.out | apply below_alloc | apply pw_below_drewN | apply below_drew1) | exact HB.out)) hb); clear HB; have HO123 := n0_; have HB := n1_; clear n0_ n1_; (try clear hb); (try clear hb2); (try clear hk); (try clear hi); (try clear ho0); obtain ⟨Ao18, co18, eo18⟩ := Kd.R_slice HO123.out; subst eo18) | ((with_reducible refine gate_callee (f := 9) rfl ?_); refine goesL_ (some 11) rfl rfl Tryd.func9 (by kernel_rfl) rfl #[.slice Ao18 t121.length co18] rfl (by (try simp only [List.map_toArray, List.map_cons, List.map_nil]); first | done | rfl | (simp only [List.length_drop, List.length_take]; rfl)) ?_; (with_reducible refine (stemma_Sources.calls k _ _ t121 t124 t127 _ ?side1 ?side2 A2.out).mono ?_); (case side1 => repeat (first | exact (Kd.R_reads' HO123.out).2.2 | (with_reducible refine Kd.C_alloc ?_ _) | (with_reducible refine Kd.C_drewN ?_ _) | (with_reducible refine Kd.C_drew ?_))); (case side2 => exact (Kd.R_reads' HO123.out).2.1); rintro e w19 ⟨v125, rfl, ho0, hb⟩; refine ⟨_, rfl, ?_⟩; have n0_ := Aside0.mk (Kd.R_below (by (with_reducible repeat (first | apply Kd.R_alloc | apply Kd.R_drewN | apply Kd.R_drew)); exact HO123.out) hb); have n1_ := Aside0.mk (Kd.N_lower (Kd.N_mono (ok' := fun k_ => some k_ ≠ (.slice Ao18 t121.length co18 : Value).ownBlock) ho0 (fun k_ hk_ => (Kd.fresh' (Kd.R_lt (by (with_reducible repeat (first | apply Kd.R_alloc | apply Kd.R_drewN | apply Kd.R_drew)); exact HO123.out)) k_ hk_))) (below_size (by repeat (first | (with_reducible first | exact HB.out | apply below_alloc | apply pw_below_drewN | apply below_drew1) | exact HB.out)))); have n2_ := Aside0.mk (below_step (by repeat (first | (with_reducible first | exact HB.out | apply below_alloc | apply pw_below_drewN | apply below_drew1) | exact HB.out)) hb); clear HO123; clear HB; have HO123 := n0_; have HO126 := n1_; have HB := n2_; clear n0_ n1_ n2_; (try clear hb); (try clear hb2); (try clear hk); (try clear hi); (try clear ho0)) | ((with_reducible refine gate_callee (f := 6) rfl ?_); refine goesL_ (some 15) rfl rfl Tryd.func6 (by kernel_rfl) rfl #[.int .i64 1, .int .i64 0, .bool true] rfl (by (try simp only [List.map_toArray, List.map_cons, List.map_nil]); first | done | rfl | (simp only [List.length_drop, List.length_take]; rfl)) ?_; (with_reducible refine (cippuslaw07_copies.calls 1 0 true t128 _ A3.out).mono ?_); rintro e w20 ⟨v129, rfl, ho0, hb⟩; refine ⟨_, rfl, ?_⟩; have n0_ := Aside0.mk (Kd.R_elder' (by (with_reducible repeat (first | apply Kd.R_alloc | apply Kd.R_drewN | apply Kd.R_drew)); exact HO123.out) (Kd.R_base ho0) hb); have n1_ := Aside0.mk (Kd.N_elder' (by (with_reducible repeat (first | apply Kd.N_alloc | apply Kd.N_drewN | apply Kd.N_drew)); exact HO126.out) (Kd.R_base ho0) hb); have n2_ := Aside0.mk (Kd.R_lower (Kd.R_new' ho0 (Kd.R_lt (by (with_reducible repeat (first | apply Kd.R_alloc | apply Kd.R_drewN | apply Kd.R_drew)); exact HO123.out))) (below_size (by repeat (first | (with_reducible first | exact HB.out | apply below_alloc | apply pw_below_drewN | apply below_drew1) | exact HB.out)))); have n3_ := Aside0.mk (below_step (by repeat (first | (with_reducible first | exact HB.out | apply below_alloc | apply pw_below_drewN | apply below_drew1) | exact HB.out)) hb); clear HO123; clear HO126; clear HB; have HO123 := n0_; have HO126 := n1_; have HO130 := n2_; have HB := n3_; clear n0_ n1_ n2_ n3_; (try clear hb); (try clear hb2); (try clear hk); (try clear hi); (try clear ho0); obtain ⟨Ao21, co21, eo21⟩ := Kd.R_slice HO130.out; subst eo21) | ((with_reducible refine gate_callee (f := 13) rfl ?_); refine goesL_ (some 16) rfl rfl Tryd.func13 (by kernel_rfl) rfl #[.slice Ao21 t128.length co21] rfl (by (try simp only [List.map_toArray, List.map_cons, List.map_nil]); first | done | rfl | (simp only [List.length_drop, List.length_take]; rfl)) ?_; (with_reducible refine (stemma_Print.calls k _ _ t128 t131 t132 _ ?side1 ?side2 A4.out).mono ?_); (case side1 => repeat (first | exact (Kd.R_reads' HO130.out).2.2 | (with_reducible refine Kd.C_alloc ?_ _) | (with_reducible refine Kd.C_drewN ?_ _) | (with_reducible refine Kd.C_drew ?_))); (case side2 => exact (Kd.R_reads' HO130.out).2.1); rintro e w22 ⟨rfl, hb⟩; refine ⟨_, rfl, ?_⟩; have n0_ := Aside0.mk (Kd.R_below (by (with_reducible repeat (first | apply Kd.R_alloc | apply Kd.R_drewN | apply Kd.R_drew)); exact HO123.out) hb); have n1_ := Aside0.mk (Kd.N_below (by (with_reducible repeat (first | apply Kd.N_alloc | apply Kd.N_drewN | apply Kd.N_drew)); exact HO126.out) hb); have n2_ := Aside0.mk (Kd.R_below (by (with_reducible repeat (first | apply Kd.R_alloc | apply Kd.R_drewN | apply Kd.R_drew)); exact HO130.out) hb); have n3_ := Aside0.mk (below_step (by repeat (first | (with_reducible first | exact HB.out | apply below_alloc | apply pw_below_drewN | apply below_drew1) | exact HB.out)) hb); clear HO123; clear HO126; clear HO130; clear HB; have HO123 := n0_; have HO126 := n1_; have HO130 := n2_; have HB := n3_; clear n0_ n1_ n2_ n3_; (try clear hb); (try clear hb2); (try clear hk); (try clear hi)) | ((with_reducible refine gate_callee (f := 6) rfl ?_); refine goesL_ (some 20) rfl rfl Tryd.func6 (by kernel_rfl) rfl #[.int .i64 0, .int .i64 1, .bool true] rfl (by (try simp only [List.map_toArray, List.map_cons, List.map_nil]); first | done | rfl | (simp only [List.length_drop, List.length_take]; rfl)) ?_; (with_reducible refine (cippuslaw07_copies.calls 0 1 true t133 _ A5.out).mono ?_); rintro e w23 ⟨v134, rfl, ho0, hb⟩; refine ⟨_, rfl, ?_⟩; have n0_ := Aside0.mk (Kd.R_elder' (by (with_reducible repeat (first | apply Kd.R_alloc | apply Kd.R_drewN | apply Kd.R_drew)); exact HO123.out) (Kd.R_base ho0) hb); have n1_ := Aside0.mk (Kd.N_elder' (by (with_reducible repeat (first | apply Kd.N_alloc | apply Kd.N_drewN | apply Kd.N_drew)); exact HO126.out) (Kd.R_base ho0) hb); have n2_ := Aside0.mk (Kd.R_elder' (by (with_reducible repeat (first | apply Kd.R_alloc | apply Kd.R_drewN | apply Kd.R_drew)); exact HO130.out) (Kd.R_base ho0) hb); have n3_ := Aside0.mk (Kd.R_lower (Kd.R_new' (Kd.R_new' ho0 (Kd.R_lt (by (with_reducible repeat (first | apply Kd.R_alloc | apply Kd.R_drewN | apply Kd.R_drew)); exact HO123.out))) (Kd.R_lt (by (with_reducible repeat (first | apply Kd.R_alloc | apply Kd.R_drewN | apply Kd.R_drew)); exact HO130.out))) (below_size (by repeat (first | (with_reducible first | exact HB.out | apply below_alloc | apply pw_below_drewN | apply below_drew1) | exact HB.out)))); have n4_ := Aside0.mk (below_step (by repeat (first | (with_reducible first | exact HB.out | apply below_alloc | apply pw_below_drewN | apply below_drew1) | exact HB.out)) hb); clear HO123; clear HO126; clear HO130; clear HB; have HO123 := n0_; have HO126 := n1_; have HO130 := n2_; have HO135 := n3_; have HB := n4_; clear n0_ n1_ n2_ n3_ n4_; (try clear hb); (try clear hb2); (try clear hk); (try clear hi); (try clear ho0); obtain ⟨Ao24, co24, eo24⟩ := Kd.R_slice HO135.out; subst eo24) | ((with_reducible refine gate_callee (f := 13) rfl ?_); refine goesL_ (some 21) rfl rfl Tryd.func13 (by kernel_rfl) rfl #[.slice Ao24 t133.length co24] rfl (by (try simp only [List.map_toArray, List.map_cons, List.map_nil]); first | done | rfl | (simp only [List.length_drop, List.length_take]; rfl)) ?_; (with_reducible refine (stemma_Print.calls k _ _ t133 t136 t137 _ ?side1 ?side2 A6.out).mono ?_); (case side1 => repeat (first | exact (Kd.R_reads' HO135.out).2.2 | (with_reducible refine Kd.C_alloc ?_ _) | (with_reducible refine Kd.C_drewN ?_ _) | (with_reducible refine Kd.C_drew ?_))); (case side2 => exact (Kd.R_reads' HO135.out).2.1); rintro e w25 ⟨rfl, hb⟩; refine ⟨_, rfl, ?_⟩; have n0_ := Aside0.mk (Kd.R_below (by (with_reducible repeat (first | apply Kd.R_alloc | apply Kd.R_drewN | apply Kd.R_drew)); exact HO123.out) hb); have n1_ := Aside0.mk (Kd.N_below (by (with_reducible repeat (first | apply Kd.N_alloc | apply Kd.N_drewN | apply Kd.N_drew)); exact HO126.out) hb); have n2_ := Aside0.mk (Kd.R_below (by (with_reducible repeat (first | apply Kd.R_alloc | apply Kd.R_drewN | apply Kd.R_drew)); exact HO130.out) hb); have n3_ := Aside0.mk (Kd.R_below (by (with_reducible repeat (first | apply Kd.R_alloc | apply Kd.R_drewN | apply Kd.R_drew)); exact HO135.out) hb); have n4_ := Aside0.mk (below_step (by repeat (first | (with_reducible first | exact HB.out | apply below_alloc | apply pw_below_drewN | apply below_drew1) | exact HB.out)) hb); clear HO123; clear HO126; clear HO130; clear HO135; clear HB; have HO123 := n0_; have HO126 := n1_; have HO130 := n2_; have HO135 := n3_; have HB := n4_; clear n0_ n1_ n2_ n3_ n4_; (try clear hb); (try clear hb2); (try clear hk); (try clear hi)) | ((with_reducible refine gate_callee (f := 6) rfl ?_); refine goesL_ (some 25) rfl rfl Tryd.func6 (by kernel_rfl) rfl #[.int .i64 1, .int .i64 0, .bool true] rfl (by (try simp only [List.map_toArray, List.map_cons, List.map_nil]); first | done | rfl | (simp only [List.length_drop, List.length_take]; rfl)) ?_; (with_reducible refine (cippuslaw07_copies.calls 1 0 true t138 _ A7.out).mono ?_); rintro e w26 ⟨v139, rfl, ho0, hb⟩; refine ⟨_, rfl, ?_⟩; have n0_ := Aside0.mk (Kd.R_elder' (by (with_reducible repeat (first | apply Kd.R_alloc | apply Kd.R_drewN | apply Kd.R_drew)); exact HO123.out) (Kd.R_base ho0) hb); have n1_ := Aside0.mk (Kd.N_elder' (by (with_reducible repeat (first | apply Kd.N_alloc | apply Kd.N_drewN | apply Kd.N_drew)); exact HO126.out) (Kd.R_base ho0) hb); have n2_ := Aside0.mk (Kd.R_elder' (by (with_reducible repeat (first | apply Kd.R_alloc | apply Kd.R_drewN | apply Kd.R_drew)); exact HO130.out) (Kd.R_base ho0) hb); have n3_ := Aside0.mk (Kd.R_elder' (by (with_reducible repeat (first | apply Kd.R_alloc | apply Kd.R_drewN | apply Kd.R_drew)); exact HO135.out) (Kd.R_base ho0) hb); have n4_ := Aside0.mk (Kd.R_lower (Kd.R_new' (Kd.R_new' (Kd.R_new' ho0 (Kd.R_lt (by (with_reducible repeat (first | apply Kd.R_alloc | apply Kd.R_drewN | apply Kd.R_drew)); exact HO123.out))) (Kd.R_lt (by (with_reducible repeat (first | apply Kd.R_alloc | apply Kd.R_drewN | apply Kd.R_drew)); exact HO130.out))) (Kd.R_lt (by (with_reducible repeat (first | apply Kd.R_alloc | apply Kd.R_drewN | apply Kd.R_drew)); exact HO135.out))) (below_size (by repeat (first | (with_reducible first | exact HB.out | apply below_alloc | apply pw_below_drewN | apply below_drew1) | exact HB.out)))); have n5_ := Aside0.mk (below_step (by repeat (first | (with_reducible first | exact HB.out | apply below_alloc | apply pw_below_drewN | apply below_drew1) | exact HB.out)) hb); clear HO123; clear HO126; clear HO130; clear HO135; clear HB; have HO123 := n0_; have HO126 := n1_; have HO130 := n2_; have HO135 := n3_; have HO140 := n4_; have HB := n5_; clear n0_ n1_ n2_ n3_ n4_ n5_; (try clear hb); (try clear hb2); (try clear hk); (try clear hi); (try clear ho0); obtain ⟨Ao27, co27, eo27⟩ := Kd.R_slice HO140.out; subst eo27) | ((with_reducible refine gate_callee (f := 14) rfl ?_); refine goesL_ (some 26) rfl rfl Tryd.func14 (by kernel_rfl) rfl #[.slice Ao27 t138.length co27] rfl (by (try simp only [List.map_toArray, List.map_cons, List.map_nil]); first | done | rfl | (simp only [List.length_drop, List.length_take]; rfl)) ?_; (with_reducible refine (stemma_Fewest.calls k _ _ t138 t141 t142 _ ?side1 ?side2 A8.out).mono ?_); (case side1 => repeat (first | exact (Kd.R_reads' HO140.out).2.2 | (with_reducible refine Kd.C_alloc ?_ _) | (with_reducible refine Kd.C_drewN ?_ _) | (with_reducible refine Kd.C_drew ?_))); (case side2 => exact (Kd.R_reads' HO140.out).2.1); rintro e w28 ⟨rfl, hb⟩; refine ⟨_, rfl, ?_⟩; have n0_ := Aside0.mk (Kd.R_below (by (with_reducible repeat (first | apply Kd.R_alloc | apply Kd.R_drewN | apply Kd.R_drew)); exact HO123.out) hb); have n1_ := Aside0.mk (Kd.N_below (by (with_reducible repeat (first | apply Kd.N_alloc | apply Kd.N_drewN | apply Kd.N_drew)); exact HO126.out) hb); have n2_ := Aside0.mk (Kd.R_below (by (with_reducible repeat (first | apply Kd.R_alloc | apply Kd.R_drewN | apply Kd.R_drew)); exact HO130.out) hb); have n3_ := Aside0.mk (Kd.R_below (by (with_reducible repeat (first | apply Kd.R_alloc | apply Kd.R_drewN | apply Kd.R_drew)); exact HO135.out) hb); have n4_ := Aside0.mk (Kd.R_below (by (with_reducible repeat (first | apply Kd.R_alloc | apply Kd.R_drewN | apply Kd.R_drew)); exact HO140.out) hb); have n5_ := Aside0.mk (below_step (by repeat (first | (with_reducible first | exact HB.out | apply below_alloc | apply pw_below_drewN | apply below_drew1) | exact HB.out)) hb); clear HO123; clear HO126; clear HO130; clear HO135; clear HO140; clear HB; have HO123 := n0_; have HO126 := n1_; have HO130 := n2_; have HO135 := n3_; have HO140 := n4_; have HB := n5_; clear n0_ n1_ n2_ n3_ n4_ n5_; (try clear hb); (try clear hb2); (try clear hk); (try clear hi)) | ((with_reducible refine gate_dst (N := 57) rfl ?_); (try (refine gate_guard (by rfl) ?_; dsimp only)); refine Kd.R_lit (Kd.int .i64) _ 3 ?hg (N := 57) ?hd (xs := ([1] : List Int)) (inner := [.int .i64 1]) (ok := fun _ => True) (okp := fun _ => True) ?hr ?hp (fun _ hk => hk) trivial (Below.refl _ _) (Nat.le_refl _) (by simp) ?_; (case hd => rfl); (case hg => rfl); (case hr => first | (go_simp; done) | (go_simp; rfl)); (case hp => exact (Reps.one (show Kd.M (Kd.int .i64) _ _ _ 1 [.int .i64 1] from rfl) (Reps.none _ _))); intro v144 w29 ho30 hb hg_ hnew_; clear hg_ hnew_; (first | rw [← Ny143.out] at ho30 | (simp only [Int.reduceToNat] at ho30; rw [← Ny143.out] at ho30)); have n0_ := Aside0.mk (Kd.R_below (by (with_reducible repeat (first | apply Kd.R_alloc | apply Kd.R_drewN | apply Kd.R_drew)); exact HO123.out) hb); have n1_ := Aside0.mk (Kd.N_elder' (by (with_reducible repeat (first | apply Kd.N_alloc | apply Kd.N_drewN | apply Kd.N_drew)); exact HO126.out) (Kd.R_base ho30) hb); have n2_ := Aside0.mk (Kd.R_below (by (with_reducible repeat (first | apply Kd.R_alloc | apply Kd.R_drewN | apply Kd.R_drew)); exact HO130.out) hb); have n3_ := Aside0.mk (Kd.R_below (by (with_reducible repeat (first | apply Kd.R_alloc | apply Kd.R_drewN | apply Kd.R_drew)); exact HO135.out) hb); have n4_ := Aside0.mk (Kd.R_below (by (with_reducible repeat (first | apply Kd.R_alloc | apply Kd.R_drewN | apply Kd.R_drew)); exact HO140.out) hb); have n5_ := Aside0.mk (Kd.R_lower ho30 (below_size (by repeat (first | (with_reducible first | exact HB.out | apply below_alloc | apply pw_below_drewN | apply below_drew1) | exact HB.out)))); have n6_ := Aside0.mk (below_step (by repeat (first | (with_reducible first | exact HB.out | apply below_alloc | apply pw_below_drewN | apply below_drew1) | exact HB.out)) hb); clear HO123; clear HO126; clear HO130; clear HO135; clear HO140; clear HB; have HO123 := n0_; have HO126 := n1_; have HO130 := n2_; have HO135 := n3_; have HO140 := n4_; have HO145 := n5_; have HB := n6_; clear n0_ n1_ n2_ n3_ n4_ n5_ n6_; clear hb ho30) | ((with_reducible refine gate_dst (N := 58) rfl ?_); (try (refine gate_guard (by rfl) ?_; dsimp only)); refine Kd.R_lit (Kd.int .i64) _ 3 ?hg (N := 58) ?hd (xs := ([3, 3] : List Int)) (inner := [.int .i64 3, .int .i64 3]) (ok := fun _ => True) (okp := fun _ => True) ?hr ?hp (fun _ hk => hk) trivial (Below.refl _ _) (Nat.le_refl _) (by simp) ?_; (case hd => rfl); (case hg => rfl); (case hr => first | (go_simp; done) | (go_simp; rfl)); (case hp => exact (Reps.one (show Kd.M (Kd.int .i64) _ _ _ 3 [.int .i64 3] from rfl) (Reps.one (show Kd.M (Kd.int .i64) _ _ _ 3 [.int .i64 3] from rfl) (Reps.none _ _)))); intro v147 w31 ho32 hb hg_ hnew_; clear hg_ hnew_; (first | rw [← Ny146.out] at ho32 | (simp only [Int.reduceToNat] at ho32; rw [← Ny146.out] at ho32)); have n0_ := Aside0.mk (Kd.R_below (by (with_reducible repeat (first | apply Kd.R_alloc | apply Kd.R_drewN | apply Kd.R_drew)); exact HO123.out) hb); have n1_ := Aside0.mk (Kd.N_elder' (by (with_reducible repeat (first | apply Kd.N_alloc | apply Kd.N_drewN | apply Kd.N_drew)); exact HO126.out) (Kd.R_base ho32) hb); have n2_ := Aside0.mk (Kd.R_below (by (with_reducible repeat (first | apply Kd.R_alloc | apply Kd.R_drewN | apply Kd.R_drew)); exact HO130.out) hb); have n3_ := Aside0.mk (Kd.R_below (by (with_reducible repeat (first | apply Kd.R_alloc | apply Kd.R_drewN | apply Kd.R_drew)); exact HO135.out) hb); have n4_ := Aside0.mk (Kd.R_below (by (with_reducible repeat (first | apply Kd.R_alloc | apply Kd.R_drewN | apply Kd.R_drew)); exact HO140.out) hb); have n5_ := Aside0.mk (Kd.R_elder' (by (with_reducible repeat (first | apply Kd.R_alloc | apply Kd.R_drewN | apply Kd.R_drew)); exact HO145.out) (Kd.R_base ho32) hb); have n6_ := Aside0.mk (Kd.R_lower (Kd.R_new' ho32 (Kd.R_lt (by (with_reducible repeat (first | apply Kd.R_alloc | apply Kd.R_drewN | apply Kd.R_drew)); exact HO145.out))) (below_size (by repeat (first | (with_reducible first | exact HB.out | apply below_alloc | apply pw_below_drewN | apply below_drew1) | exact HB.out)))); have n7_ := Aside0.mk (below_step (by repeat (first | (with_reducible first | exact HB.out | apply below_alloc | apply pw_below_drewN | apply below_drew1) | exact HB.out)) hb); clear HO123; clear HO126; clear HO130; clear HO135; clear HO140; clear HO145; clear HB; have HO123 := n0_; have HO126 := n1_; have HO130 := n2_; have HO135 := n3_; have HO140 := n4_; have HO145 := n5_; have HO148 := n6_; have HB := n7_; clear n0_ n1_ n2_ n3_ n4_ n5_ n6_ n7_; clear hb ho32) | ((with_reducible refine gate_dst (N := 59) rfl ?_); (try (refine gate_guard (by rfl) ?_; dsimp only)); refine Kd.R_lit (Kd.int .i64) _ 3 ?hg (N := 59) ?hd (xs := ([2, 2, 1] : List Int)) (inner := [.int .i64 2, .int .i64 2, .int .i64 1]) (ok := fun _ => True) (okp := fun _ => True) ?hr ?hp (fun _ hk => hk) trivial (Below.refl _ _) (Nat.le_refl _) (by simp) ?_; (case hd => rfl); (case hg => rfl); (case hr => first | (go_simp; done) | (go_simp; rfl)); (case hp => exact (Reps.one (show Kd.M (Kd.int .i64) _ _ _ 2 [.int .i64 2] from rfl) (Reps.one (show Kd.M (Kd.int .i64) _ _ _ 2 [.int .i64 2] from rfl) (Reps.one (show Kd.M (Kd.int .i64) _ _ _ 1 [.int .i64 1] from rfl) (Reps.none _ _))))); intro v150 w33 ho34 hb hg_ hnew_; clear hg_ hnew_; (first | rw [← Ny149.out] at ho34 | (simp only [Int.reduceToNat] at ho34; rw [← Ny149.out] at ho34)); have n0_ := Aside0.mk (Kd.R_below (by (with_reducible repeat (first | apply Kd.R_alloc | apply Kd.R_drewN | apply Kd.R_drew)); exact HO123.out) hb); have n1_ := Aside0.mk (Kd.N_elder' (by (with_reducible repeat (first | apply Kd.N_alloc | apply Kd.N_drewN | apply Kd.N_drew)); exact HO126.out) (Kd.R_base ho34) hb); have n2_ := Aside0.mk (Kd.R_below (by (with_reducible repeat (first | apply Kd.R_alloc | apply Kd.R_drewN | apply Kd.R_drew)); exact HO130.out) hb); have n3_ := Aside0.mk (Kd.R_below (by (with_reducible repeat (first | apply Kd.R_alloc | apply Kd.R_drewN | apply Kd.R_drew)); exact HO135.out) hb); have n4_ := Aside0.mk (Kd.R_below (by (with_reducible repeat (first | apply Kd.R_alloc | apply Kd.R_drewN | apply Kd.R_drew)); exact HO140.out) hb); have n5_ := Aside0.mk (Kd.R_elder' (by (with_reducible repeat (first | apply Kd.R_alloc | apply Kd.R_drewN | apply Kd.R_drew)); exact HO145.out) (Kd.R_base ho34) hb); have n6_ := Aside0.mk (Kd.R_elder' (by (with_reducible repeat (first | apply Kd.R_alloc | apply Kd.R_drewN | apply Kd.R_drew)); exact HO148.out) (Kd.R_base ho34) hb); have n7_ := Aside0.mk (Kd.R_lower (Kd.R_new' (Kd.R_new' ho34 (Kd.R_lt (by (with_reducible repeat (first | apply Kd.R_alloc | apply Kd.R_drewN | apply Kd.R_drew)); exact HO145.out))) (Kd.R_lt (by (with_reducible repeat (first | apply Kd.R_alloc | apply Kd.R_drewN | apply Kd.R_drew)); exact HO148.out))) (below_size (by repeat (first | (with_reducible first | exact HB.out | apply below_alloc | apply pw_below_drewN | apply below_drew1) | exact HB.out)))); have n8_ := Aside0.mk (below_step (by repeat (first | (with_reducible first | exact HB.out | apply below_alloc | apply pw_below_drewN | apply below_drew1) | exact HB.out)) hb); clear HO123; clear HO126; clear HO130; clear HO135; clear HO140; clear HO145; clear HO148; clear HB; have HO123 := n0_; have HO126 := n1_; have HO130 := n2_; have HO135 := n3_; have HO140 := n4_; have HO145 := n5_; have HO148 := n6_; have HO151 := n7_; have HB := n8_; clear n0_ n1_ n2_ n3_ n4_ n5_ n6_ n7_ n8_; clear hb ho34; obtain ⟨Ao35, co35, eo35⟩ := Kd.R_slice HO145.out; subst eo35; obtain ⟨Ao36, co36, eo36⟩ := Kd.R_slice HO148.out; subst eo36; obtain ⟨Ao37, co37, eo37⟩ := Kd.R_slice HO151.out; subst eo37) | ((with_reducible refine gate_dst (N := 60) rfl ?_); (try (refine gate_guard (by rfl) ?_; dsimp only)); refine Kd.N_lit (Kd.slice 3 (Kd.int .i64)) _ 33 ?hg (N' := 60) ?hd (xs := ([y143, y146, y149] : List (List Int))) (inner := [.slice Ao35 y143.length co35, .slice Ao36 y146.length co36, .slice Ao37 y149.length co37]) (ok := (fun k_ => some k_ ≠ (.slice Ao18 t121.length co18 : Value).ownBlock ∧ some k_ ≠ (v125 : Value).ownBlock ∧ some k_ ≠ (.slice Ao21 t128.length co21 : Value).ownBlock ∧ some k_ ≠ (.slice Ao24 t133.length co24 : Value).ownBlock ∧ some k_ ≠ (.slice Ao27 t138.length co27 : Value).ownBlock)) (okp := (fun k_ => some k_ ≠ (.slice Ao18 t121.length co18 : Value).ownBlock ∧ some k_ ≠ (v125 : Value).ownBlock ∧ some k_ ≠ (.slice Ao21 t128.length co21 : Value).ownBlock ∧ some k_ ≠ (.slice Ao24 t133.length co24 : Value).ownBlock ∧ some k_ ≠ (.slice Ao27 t138.length co27 : Value).ownBlock)) ?hr ?hp (fun _ hk => hk) ((show ∀ k_, w33.heap.size ≤ k_ → (fun k_ => some k_ ≠ (.slice Ao18 t121.length co18 : Value).ownBlock ∧ some k_ ≠ (v125 : Value).ownBlock ∧ some k_ ≠ (.slice Ao21 t128.length co21 : Value).ownBlock ∧ some k_ ≠ (.slice Ao24 t133.length co24 : Value).ownBlock ∧ some k_ ≠ (.slice Ao27 t138.length co27 : Value).ownBlock) k_ from fun k_ hk => ⟨Kd.fresh' (Kd.R_lt (by (with_reducible repeat (first | apply Kd.R_alloc | apply Kd.R_drewN | apply Kd.R_drew)); exact HO123.out)) k_ hk, Kd.fresh' (Kd.N_lt (by (with_reducible repeat (first | apply Kd.N_alloc | apply Kd.N_drewN | apply Kd.N_drew)); exact HO126.out)) k_ hk, Kd.fresh' (Kd.R_lt (by (with_reducible repeat (first | apply Kd.R_alloc | apply Kd.R_drewN | apply Kd.R_drew)); exact HO130.out)) k_ hk, Kd.fresh' (Kd.R_lt (by (with_reducible repeat (first | apply Kd.R_alloc | apply Kd.R_drewN | apply Kd.R_drew)); exact HO135.out)) k_ hk, Kd.fresh' (Kd.R_lt (by (with_reducible repeat (first | apply Kd.R_alloc | apply Kd.R_drewN | apply Kd.R_drew)); exact HO140.out)) k_ hk⟩) _ (Nat.le_refl _)) (Below.refl _ _) (Nat.le_refl _) (by simp) ?_; (case hd => rfl); (case hg => rfl); (case hr => first | (go_simp; done) | (go_simp; rfl)); (case hp => exact (Reps.one (show Kd.FK (Kd.slice 3 (Kd.int .i64)) _ _ y143 [.slice Ao35 y143.length co35] from (Kd.FK_slice_mk (Kd.R_reads' (Kd.R_mono (ok' := (fun k_ => some k_ ≠ (.slice Ao18 t121.length co18 : Value).ownBlock ∧ some k_ ≠ (v125 : Value).ownBlock ∧ some k_ ≠ (.slice Ao21 t128.length co21 : Value).ownBlock ∧ some k_ ≠ (.slice Ao24 t133.length co24 : Value).ownBlock ∧ some k_ ≠ (.slice Ao27 t138.length co27 : Value).ownBlock)) (Kd.R_apart' (Kd.R_apart' (Kd.R_apart' (Kd.R_apart' (Kd.R_apart' (HO145.out) (Kd.R_typed HO123.out) (by decide)) (Kd.N_typed HO126.out) (by decide)) (Kd.R_typed HO130.out) (by decide)) (Kd.R_typed HO135.out) (by decide)) (Kd.R_typed HO140.out) (by decide)) (fun k_ hk => ⟨hk.1.1.1.1.2, ⟨hk.1.1.1.2, ⟨hk.1.1.2, ⟨hk.1.2, hk.2⟩⟩⟩⟩))).2.1 (Kd.R_F (Kd.R_mono (ok' := (fun k_ => some k_ ≠ (.slice Ao18 t121.length co18 : Value).ownBlock ∧ some k_ ≠ (v125 : Value).ownBlock ∧ some k_ ≠ (.slice Ao21 t128.length co21 : Value).ownBlock ∧ some k_ ≠ (.slice Ao24 t133.length co24 : Value).ownBlock ∧ some k_ ≠ (.slice Ao27 t138.length co27 : Value).ownBlock)) (Kd.R_apart' (Kd.R_apart' (Kd.R_apart' (Kd.R_apart' (Kd.R_apart' (HO145.out) (Kd.R_typed HO123.out) (by decide)) (Kd.N_typed HO126.out) (by decide)) (Kd.R_typed HO130.out) (by decide)) (Kd.R_typed HO135.out) (by decide)) (Kd.R_typed HO140.out) (by decide)) (fun k_ hk => ⟨hk.1.1.1.1.2, ⟨hk.1.1.1.2, ⟨hk.1.1.2, ⟨hk.1.2, hk.2⟩⟩⟩⟩))))) (Reps.one (show Kd.FK (Kd.slice 3 (Kd.int .i64)) _ _ y146 [.slice Ao36 y146.length co36] from (Kd.FK_slice_mk (Kd.R_reads' (Kd.R_mono (ok' := (fun k_ => some k_ ≠ (.slice Ao18 t121.length co18 : Value).ownBlock ∧ some k_ ≠ (v125 : Value).ownBlock ∧ some k_ ≠ (.slice Ao21 t128.length co21 : Value).ownBlock ∧ some k_ ≠ (.slice Ao24 t133.length co24 : Value).ownBlock ∧ some k_ ≠ (.slice Ao27 t138.length co27 : Value).ownBlock)) (Kd.R_apart' (Kd.R_apart' (Kd.R_apart' (Kd.R_apart' (Kd.R_apart' (HO148.out) (Kd.R_typed HO123.out) (by decide)) (Kd.N_typed HO126.out) (by decide)) (Kd.R_typed HO130.out) (by decide)) (Kd.R_typed HO135.out) (by decide)) (Kd.R_typed HO140.out) (by decide)) (fun k_ hk => ⟨hk.1.1.1.1.2, ⟨hk.1.1.1.2, ⟨hk.1.1.2, ⟨hk.1.2, hk.2⟩⟩⟩⟩))).2.1 (Kd.R_F (Kd.R_mono (ok' := (fun k_ => some k_ ≠ (.slice Ao18 t121.length co18 : Value).ownBlock ∧ some k_ ≠ (v125 : Value).ownBlock ∧ some k_ ≠ (.slice Ao21 t128.length co21 : Value).ownBlock ∧ some k_ ≠ (.slice Ao24 t133.length co24 : Value).ownBlock ∧ some k_ ≠ (.slice Ao27 t138.length co27 : Value).ownBlock)) (Kd.R_apart' (Kd.R_apart' (Kd.R_apart' (Kd.R_apart' (Kd.R_apart' (HO148.out) (Kd.R_typed HO123.out) (by decide)) (Kd.N_typed HO126.out) (by decide)) (Kd.R_typed HO130.out) (by decide)) (Kd.R_typed HO135.out) (by decide)) (Kd.R_typed HO140.out) (by decide)) (fun k_ hk => ⟨hk.1.1.1.1.2, ⟨hk.1.1.1.2, ⟨hk.1.1.2, ⟨hk.1.2, hk.2⟩⟩⟩⟩))))) (Reps.one (show Kd.FK (Kd.slice 3 (Kd.int .i64)) _ _ y149 [.slice Ao37 y149.length co37] from (Kd.FK_slice_mk (Kd.R_reads' (Kd.R_mono (ok' := (fun k_ => some k_ ≠ (.slice Ao18 t121.length co18 : Value).ownBlock ∧ some k_ ≠ (v125 : Value).ownBlock ∧ some k_ ≠ (.slice Ao21 t128.length co21 : Value).ownBlock ∧ some k_ ≠ (.slice Ao24 t133.length co24 : Value).ownBlock ∧ some k_ ≠ (.slice Ao27 t138.length co27 : Value).ownBlock)) (Kd.R_apart' (Kd.R_apart' (Kd.R_apart' (Kd.R_apart' (Kd.R_apart' (HO151.out) (Kd.R_typed HO123.out) (by decide)) (Kd.N_typed HO126.out) (by decide)) (Kd.R_typed HO130.out) (by decide)) (Kd.R_typed HO135.out) (by decide)) (Kd.R_typed HO140.out) (by decide)) (fun k_ hk => ⟨hk.1.1.1.1.2, ⟨hk.1.1.1.2, ⟨hk.1.1.2, ⟨hk.1.2, hk.2⟩⟩⟩⟩))).2.1 (Kd.R_F (Kd.R_mono (ok' := (fun k_ => some k_ ≠ (.slice Ao18 t121.length co18 : Value).ownBlock ∧ some k_ ≠ (v125 : Value).ownBlock ∧ some k_ ≠ (.slice Ao21 t128.length co21 : Value).ownBlock ∧ some k_ ≠ (.slice Ao24 t133.length co24 : Value).ownBlock ∧ some k_ ≠ (.slice Ao27 t138.length co27 : Value).ownBlock)) (Kd.R_apart' (Kd.R_apart' (Kd.R_apart' (Kd.R_apart' (Kd.R_apart' (HO151.out) (Kd.R_typed HO123.out) (by decide)) (Kd.N_typed HO126.out) (by decide)) (Kd.R_typed HO130.out) (by decide)) (Kd.R_typed HO135.out) (by decide)) (Kd.R_typed HO140.out) (by decide)) (fun k_ hk => ⟨hk.1.1.1.1.2, ⟨hk.1.1.1.2, ⟨hk.1.1.2, ⟨hk.1.2, hk.2⟩⟩⟩⟩))))) (Reps.none _ _))))); intro v153 w38 ho39 hb hg_ hnew_; clear hg_ hnew_; (first | rw [← Ny152.out] at ho39 | (simp only [Int.reduceToNat] at ho39; rw [← Ny152.out] at ho39)); have n0_ := Aside0.mk (Kd.R_below (by (with_reducible repeat (first | apply Kd.R_alloc | apply Kd.R_drewN | apply Kd.R_drew)); exact HO123.out) hb); have n1_ := Aside0.mk (Kd.N_elder' (by (with_reducible repeat (first | apply Kd.N_alloc | apply Kd.N_drewN | apply Kd.N_drew)); exact HO126.out) (Kd.N_base ho39) hb); have n2_ := Aside0.mk (Kd.R_below (by (with_reducible repeat (first | apply Kd.R_alloc | apply Kd.R_drewN | apply Kd.R_drew)); exact HO130.out) hb); have n3_ := Aside0.mk (Kd.R_below (by (with_reducible repeat (first | apply Kd.R_alloc | apply Kd.R_drewN | apply Kd.R_drew)); exact HO135.out) hb); have n4_ := Aside0.mk (Kd.R_below (by (with_reducible repeat (first | apply Kd.R_alloc | apply Kd.R_drewN | apply Kd.R_drew)); exact HO140.out) hb); have n5_ := Aside0.mk (Kd.N_lower ho39 (below_size (by repeat (first | (with_reducible first | exact HB.out | apply below_alloc | apply pw_below_drewN | apply below_drew1) | exact HB.out)))); have n6_ := Aside0.mk (below_step (by repeat (first | (with_reducible first | exact HB.out | apply below_alloc | apply pw_below_drewN | apply below_drew1) | exact HB.out)) hb); clear HO123; clear HO126; clear HO130; clear HO135; clear HO140; clear HB; clear HO145; clear HO148; clear HO151; have HO123 := n0_; have HO126 := n1_; have HO130 := n2_; have HO135 := n3_; have HO140 := n4_; have HO154 := n5_; have HB := n6_; clear n0_ n1_ n2_ n3_ n4_ n5_ n6_; clear hb ho39; obtain ⟨Ao40, co40, eo40⟩ := Kd.N_slice HO126.out; subst eo40; obtain ⟨Ao41, co41, eo41⟩ := Kd.N_slice HO154.out; subst eo41) | (go_at_call 10; (with_reducible refine (cippuskit_SameGrids.calls k _ _ t124 _ _ y152 t155 _ ?side1 ?side2 ?side3 ?side4 A16.out).mono ?_); (case side1 => repeat (first | exact (Kd.N_reads' HO126.out).2.2 | (with_reducible refine Kd.C_alloc ?_ _) | (with_reducible refine Kd.C_drewN ?_ _) | (with_reducible refine Kd.C_drew ?_))); (case side2 => exact (Kd.N_reads' HO126.out).2.1); (case side3 => repeat (first | exact (Kd.N_reads' HO154.out).2.2 | (with_reducible refine Kd.C_alloc ?_ _) | (with_reducible refine Kd.C_drewN ?_ _) | (with_reducible refine Kd.C_drew ?_))); (case side4 => exact (Kd.N_reads' HO154.out).2.1); rintro e w' ⟨rfl, ⟨nd, rfl⟩⟩))
                go_ret
                exact ⟨by first | rfl | (simp [errW_none, errW_some] <;> rfl) | (simp [*, errW_none, errW_some] <;> rfl), by repeat (first | (with_reducible first | exact HB.out | apply below_alloc | apply pw_below_drewN | apply below_drew1) | exact HB.out)⟩
              · rw [if_neg c15] at H
                have c15b0 : (t141 == 2) = false := beq_eq_false_iff_ne.mpr c15
                have c15b1 : (t141 != 2) = true := bne_iff_ne.mpr c15
                obtain rfl := Option.some.inj H
                go_enter Tryd.func7, Tryd.ntmps7
                go_wp2_with (first | ((with_reducible refine gate_callee (f := 6) rfl ?_); refine goesL_ (some 10) rfl rfl Tryd.func6 (by kernel_rfl) rfl #[.int .i64 1, .int .i64 1, .bool true] rfl (by (try simp only [List.map_toArray, List.map_cons, List.map_nil]); first | done | rfl | (simp only [List.length_drop, List.length_take]; rfl)) ?_; (with_reducible refine (cippuslaw07_copies.calls 1 1 true t121 _ A1.out).mono ?_); rintro e w42 ⟨v122, rfl, ho0, hb⟩; refine ⟨_, rfl, ?_⟩; have n0_ := Aside0.mk (Kd.R_lower ho0 (below_size (by repeat (first | (with_reducible first | exact HB.out | apply below_alloc | apply pw_below_drewN | apply below_drew1) | exact HB.out)))); have n1_ := Aside0.mk (below_step (by repeat (first | (with_reducible first | exact HB.out | apply below_alloc | apply pw_below_drewN | apply below_drew1) | exact HB.out)) hb); clear HB; have HO123 := n0_; have HB := n1_; clear n0_ n1_; (try clear hb); (try clear hb2); (try clear hk); (try clear hi); (try clear ho0); obtain ⟨Ao43, co43, eo43⟩ := Kd.R_slice HO123.out; subst eo43) | ((with_reducible refine gate_callee (f := 9) rfl ?_); refine goesL_ (some 11) rfl rfl Tryd.func9 (by kernel_rfl) rfl #[.slice Ao43 t121.length co43] rfl (by (try simp only [List.map_toArray, List.map_cons, List.map_nil]); first | done | rfl | (simp only [List.length_drop, List.length_take]; rfl)) ?_; (with_reducible refine (stemma_Sources.calls k _ _ t121 t124 t127 _ ?side1 ?side2 A2.out).mono ?_); (case side1 => repeat (first | exact (Kd.R_reads' HO123.out).2.2 | (with_reducible refine Kd.C_alloc ?_ _) | (with_reducible refine Kd.C_drewN ?_ _) | (with_reducible refine Kd.C_drew ?_))); (case side2 => exact (Kd.R_reads' HO123.out).2.1); rintro e w44 ⟨v125, rfl, ho0, hb⟩; refine ⟨_, rfl, ?_⟩; have n0_ := Aside0.mk (Kd.R_below (by (with_reducible repeat (first | apply Kd.R_alloc | apply Kd.R_drewN | apply Kd.R_drew)); exact HO123.out) hb); have n1_ := Aside0.mk (Kd.N_lower (Kd.N_mono (ok' := fun k_ => some k_ ≠ (.slice Ao43 t121.length co43 : Value).ownBlock) ho0 (fun k_ hk_ => (Kd.fresh' (Kd.R_lt (by (with_reducible repeat (first | apply Kd.R_alloc | apply Kd.R_drewN | apply Kd.R_drew)); exact HO123.out)) k_ hk_))) (below_size (by repeat (first | (with_reducible first | exact HB.out | apply below_alloc | apply pw_below_drewN | apply below_drew1) | exact HB.out)))); have n2_ := Aside0.mk (below_step (by repeat (first | (with_reducible first | exact HB.out | apply below_alloc | apply pw_below_drewN | apply below_drew1) | exact HB.out)) hb); clear HO123; clear HB; have HO123 := n0_; have HO126 := n1_; have HB := n2_; clear n0_ n1_ n2_; (try clear hb); (try clear hb2); (try clear hk); (try clear hi); (try clear ho0)) | ((with_reducible refine gate_callee (f := 6) rfl ?_); refine goesL_ (some 15) rfl rfl Tryd.func6 (by kernel_rfl) rfl #[.int .i64 1, .int .i64 0, .bool true] rfl (by (try simp only [List.map_toArray, List.map_cons, List.map_nil]); first | done | rfl | (simp only [List.length_drop, List.length_take]; rfl)) ?_; (with_reducible refine (cippuslaw07_copies.calls 1 0 true t128 _ A3.out).mono ?_); rintro e w45 ⟨v129, rfl, ho0, hb⟩; refine ⟨_, rfl, ?_⟩; have n0_ := Aside0.mk (Kd.R_elder' (by (with_reducible repeat (first | apply Kd.R_alloc | apply Kd.R_drewN | apply Kd.R_drew)); exact HO123.out) (Kd.R_base ho0) hb); have n1_ := Aside0.mk (Kd.N_elder' (by (with_reducible repeat (first | apply Kd.N_alloc | apply Kd.N_drewN | apply Kd.N_drew)); exact HO126.out) (Kd.R_base ho0) hb); have n2_ := Aside0.mk (Kd.R_lower (Kd.R_new' ho0 (Kd.R_lt (by (with_reducible repeat (first | apply Kd.R_alloc | apply Kd.R_drewN | apply Kd.R_drew)); exact HO123.out))) (below_size (by repeat (first | (with_reducible first | exact HB.out | apply below_alloc | apply pw_below_drewN | apply below_drew1) | exact HB.out)))); have n3_ := Aside0.mk (below_step (by repeat (first | (with_reducible first | exact HB.out | apply below_alloc | apply pw_below_drewN | apply below_drew1) | exact HB.out)) hb); clear HO123; clear HO126; clear HB; have HO123 := n0_; have HO126 := n1_; have HO130 := n2_; have HB := n3_; clear n0_ n1_ n2_ n3_; (try clear hb); (try clear hb2); (try clear hk); (try clear hi); (try clear ho0); obtain ⟨Ao46, co46, eo46⟩ := Kd.R_slice HO130.out; subst eo46) | ((with_reducible refine gate_callee (f := 13) rfl ?_); refine goesL_ (some 16) rfl rfl Tryd.func13 (by kernel_rfl) rfl #[.slice Ao46 t128.length co46] rfl (by (try simp only [List.map_toArray, List.map_cons, List.map_nil]); first | done | rfl | (simp only [List.length_drop, List.length_take]; rfl)) ?_; (with_reducible refine (stemma_Print.calls k _ _ t128 t131 t132 _ ?side1 ?side2 A4.out).mono ?_); (case side1 => repeat (first | exact (Kd.R_reads' HO130.out).2.2 | (with_reducible refine Kd.C_alloc ?_ _) | (with_reducible refine Kd.C_drewN ?_ _) | (with_reducible refine Kd.C_drew ?_))); (case side2 => exact (Kd.R_reads' HO130.out).2.1); rintro e w47 ⟨rfl, hb⟩; refine ⟨_, rfl, ?_⟩; have n0_ := Aside0.mk (Kd.R_below (by (with_reducible repeat (first | apply Kd.R_alloc | apply Kd.R_drewN | apply Kd.R_drew)); exact HO123.out) hb); have n1_ := Aside0.mk (Kd.N_below (by (with_reducible repeat (first | apply Kd.N_alloc | apply Kd.N_drewN | apply Kd.N_drew)); exact HO126.out) hb); have n2_ := Aside0.mk (Kd.R_below (by (with_reducible repeat (first | apply Kd.R_alloc | apply Kd.R_drewN | apply Kd.R_drew)); exact HO130.out) hb); have n3_ := Aside0.mk (below_step (by repeat (first | (with_reducible first | exact HB.out | apply below_alloc | apply pw_below_drewN | apply below_drew1) | exact HB.out)) hb); clear HO123; clear HO126; clear HO130; clear HB; have HO123 := n0_; have HO126 := n1_; have HO130 := n2_; have HB := n3_; clear n0_ n1_ n2_ n3_; (try clear hb); (try clear hb2); (try clear hk); (try clear hi)) | ((with_reducible refine gate_callee (f := 6) rfl ?_); refine goesL_ (some 20) rfl rfl Tryd.func6 (by kernel_rfl) rfl #[.int .i64 0, .int .i64 1, .bool true] rfl (by (try simp only [List.map_toArray, List.map_cons, List.map_nil]); first | done | rfl | (simp only [List.length_drop, List.length_take]; rfl)) ?_; (with_reducible refine (cippuslaw07_copies.calls 0 1 true t133 _ A5.out).mono ?_); rintro e w48 ⟨v134, rfl, ho0, hb⟩; refine ⟨_, rfl, ?_⟩; have n0_ := Aside0.mk (Kd.R_elder' (by (with_reducible repeat (first | apply Kd.R_alloc | apply Kd.R_drewN | apply Kd.R_drew)); exact HO123.out) (Kd.R_base ho0) hb); have n1_ := Aside0.mk (Kd.N_elder' (by (with_reducible repeat (first | apply Kd.N_alloc | apply Kd.N_drewN | apply Kd.N_drew)); exact HO126.out) (Kd.R_base ho0) hb); have n2_ := Aside0.mk (Kd.R_elder' (by (with_reducible repeat (first | apply Kd.R_alloc | apply Kd.R_drewN | apply Kd.R_drew)); exact HO130.out) (Kd.R_base ho0) hb); have n3_ := Aside0.mk (Kd.R_lower (Kd.R_new' (Kd.R_new' ho0 (Kd.R_lt (by (with_reducible repeat (first | apply Kd.R_alloc | apply Kd.R_drewN | apply Kd.R_drew)); exact HO123.out))) (Kd.R_lt (by (with_reducible repeat (first | apply Kd.R_alloc | apply Kd.R_drewN | apply Kd.R_drew)); exact HO130.out))) (below_size (by repeat (first | (with_reducible first | exact HB.out | apply below_alloc | apply pw_below_drewN | apply below_drew1) | exact HB.out)))); have n4_ := Aside0.mk (below_step (by repeat (first | (with_reducible first | exact HB.out | apply below_alloc | apply pw_below_drewN | apply below_drew1) | exact HB.out)) hb); clear HO123; clear HO126; clear HO130; clear HB; have HO123 := n0_; have HO126 := n1_; have HO130 := n2_; have HO135 := n3_; have HB := n4_; clear n0_ n1_ n2_ n3_ n4_; (try clear hb); (try clear hb2); (try clear hk); (try clear hi); (try clear ho0); obtain ⟨Ao49, co49, eo49⟩ := Kd.R_slice HO135.out; subst eo49) | ((with_reducible refine gate_callee (f := 13) rfl ?_); refine goesL_ (some 21) rfl rfl Tryd.func13 (by kernel_rfl) rfl #[.slice Ao49 t133.length co49] rfl (by (try simp only [List.map_toArray, List.map_cons, List.map_nil]); first | done | rfl | (simp only [List.length_drop, List.length_take]; rfl)) ?_; (with_reducible refine (stemma_Print.calls k _ _ t133 t136 t137 _ ?side1 ?side2 A6.out).mono ?_); (case side1 => repeat (first | exact (Kd.R_reads' HO135.out).2.2 | (with_reducible refine Kd.C_alloc ?_ _) | (with_reducible refine Kd.C_drewN ?_ _) | (with_reducible refine Kd.C_drew ?_))); (case side2 => exact (Kd.R_reads' HO135.out).2.1); rintro e w50 ⟨rfl, hb⟩; refine ⟨_, rfl, ?_⟩; have n0_ := Aside0.mk (Kd.R_below (by (with_reducible repeat (first | apply Kd.R_alloc | apply Kd.R_drewN | apply Kd.R_drew)); exact HO123.out) hb); have n1_ := Aside0.mk (Kd.N_below (by (with_reducible repeat (first | apply Kd.N_alloc | apply Kd.N_drewN | apply Kd.N_drew)); exact HO126.out) hb); have n2_ := Aside0.mk (Kd.R_below (by (with_reducible repeat (first | apply Kd.R_alloc | apply Kd.R_drewN | apply Kd.R_drew)); exact HO130.out) hb); have n3_ := Aside0.mk (Kd.R_below (by (with_reducible repeat (first | apply Kd.R_alloc | apply Kd.R_drewN | apply Kd.R_drew)); exact HO135.out) hb); have n4_ := Aside0.mk (below_step (by repeat (first | (with_reducible first | exact HB.out | apply below_alloc | apply pw_below_drewN | apply below_drew1) | exact HB.out)) hb); clear HO123; clear HO126; clear HO130; clear HO135; clear HB; have HO123 := n0_; have HO126 := n1_; have HO130 := n2_; have HO135 := n3_; have HB := n4_; clear n0_ n1_ n2_ n3_ n4_; (try clear hb); (try clear hb2); (try clear hk); (try clear hi)) | ((with_reducible refine gate_callee (f := 6) rfl ?_); refine goesL_ (some 25) rfl rfl Tryd.func6 (by kernel_rfl) rfl #[.int .i64 1, .int .i64 0, .bool true] rfl (by (try simp only [List.map_toArray, List.map_cons, List.map_nil]); first | done | rfl | (simp only [List.length_drop, List.length_take]; rfl)) ?_; (with_reducible refine (cippuslaw07_copies.calls 1 0 true t138 _ A7.out).mono ?_); rintro e w51 ⟨v139, rfl, ho0, hb⟩; refine ⟨_, rfl, ?_⟩; have n0_ := Aside0.mk (Kd.R_elder' (by (with_reducible repeat (first | apply Kd.R_alloc | apply Kd.R_drewN | apply Kd.R_drew)); exact HO123.out) (Kd.R_base ho0) hb); have n1_ := Aside0.mk (Kd.N_elder' (by (with_reducible repeat (first | apply Kd.N_alloc | apply Kd.N_drewN | apply Kd.N_drew)); exact HO126.out) (Kd.R_base ho0) hb); have n2_ := Aside0.mk (Kd.R_elder' (by (with_reducible repeat (first | apply Kd.R_alloc | apply Kd.R_drewN | apply Kd.R_drew)); exact HO130.out) (Kd.R_base ho0) hb); have n3_ := Aside0.mk (Kd.R_elder' (by (with_reducible repeat (first | apply Kd.R_alloc | apply Kd.R_drewN | apply Kd.R_drew)); exact HO135.out) (Kd.R_base ho0) hb); have n4_ := Aside0.mk (Kd.R_lower (Kd.R_new' (Kd.R_new' (Kd.R_new' ho0 (Kd.R_lt (by (with_reducible repeat (first | apply Kd.R_alloc | apply Kd.R_drewN | apply Kd.R_drew)); exact HO123.out))) (Kd.R_lt (by (with_reducible repeat (first | apply Kd.R_alloc | apply Kd.R_drewN | apply Kd.R_drew)); exact HO130.out))) (Kd.R_lt (by (with_reducible repeat (first | apply Kd.R_alloc | apply Kd.R_drewN | apply Kd.R_drew)); exact HO135.out))) (below_size (by repeat (first | (with_reducible first | exact HB.out | apply below_alloc | apply pw_below_drewN | apply below_drew1) | exact HB.out)))); have n5_ := Aside0.mk (below_step (by repeat (first | (with_reducible first | exact HB.out | apply below_alloc | apply pw_below_drewN | apply below_drew1) | exact HB.out)) hb); clear HO123; clear HO126; clear HO130; clear HO135; clear HB; have HO123 := n0_; have HO126 := n1_; have HO130 := n2_; have HO135 := n3_; have HO140 := n4_; have HB := n5_; clear n0_ n1_ n2_ n3_ n4_ n5_; (try clear hb); (try clear hb2); (try clear hk); (try clear hi); (try clear ho0); obtain ⟨Ao52, co52, eo52⟩ := Kd.R_slice HO140.out; subst eo52) | ((with_reducible refine gate_callee (f := 14) rfl ?_); refine goesL_ (some 26) rfl rfl Tryd.func14 (by kernel_rfl) rfl #[.slice Ao52 t138.length co52] rfl (by (try simp only [List.map_toArray, List.map_cons, List.map_nil]); first | done | rfl | (simp only [List.length_drop, List.length_take]; rfl)) ?_; (with_reducible refine (stemma_Fewest.calls k _ _ t138 t141 t142 _ ?side1 ?side2 A8.out).mono ?_); (case side1 => repeat (first | exact (Kd.R_reads' HO140.out).2.2 | (with_reducible refine Kd.C_alloc ?_ _) | (with_reducible refine Kd.C_drewN ?_ _) | (with_reducible refine Kd.C_drew ?_))); (case side2 => exact (Kd.R_reads' HO140.out).2.1); rintro e w53 ⟨rfl, hb⟩; refine ⟨_, rfl, ?_⟩; have n0_ := Aside0.mk (Kd.R_below (by (with_reducible repeat (first | apply Kd.R_alloc | apply Kd.R_drewN | apply Kd.R_drew)); exact HO123.out) hb); have n1_ := Aside0.mk (Kd.N_below (by (with_reducible repeat (first | apply Kd.N_alloc | apply Kd.N_drewN | apply Kd.N_drew)); exact HO126.out) hb); have n2_ := Aside0.mk (Kd.R_below (by (with_reducible repeat (first | apply Kd.R_alloc | apply Kd.R_drewN | apply Kd.R_drew)); exact HO130.out) hb); have n3_ := Aside0.mk (Kd.R_below (by (with_reducible repeat (first | apply Kd.R_alloc | apply Kd.R_drewN | apply Kd.R_drew)); exact HO135.out) hb); have n4_ := Aside0.mk (Kd.R_below (by (with_reducible repeat (first | apply Kd.R_alloc | apply Kd.R_drewN | apply Kd.R_drew)); exact HO140.out) hb); have n5_ := Aside0.mk (below_step (by repeat (first | (with_reducible first | exact HB.out | apply below_alloc | apply pw_below_drewN | apply below_drew1) | exact HB.out)) hb); clear HO123; clear HO126; clear HO130; clear HO135; clear HO140; clear HB; have HO123 := n0_; have HO126 := n1_; have HO130 := n2_; have HO135 := n3_; have HO140 := n4_; have HB := n5_; clear n0_ n1_ n2_ n3_ n4_ n5_; (try clear hb); (try clear hb2); (try clear hk); (try clear hi)))
                go_ret
                exact ⟨by first | rfl | (simp [errW_none, errW_some] <;> rfl) | (simp [*, errW_none, errW_some] <;> rfl), by repeat (first | (with_reducible first | exact HB.out | apply below_alloc | apply pw_below_drewN | apply below_drew1) | exact HB.out)⟩
            · rw [if_neg c14] at H
              have c14b0 : (t136.toList == ([65, 82, 77, 65] : List UInt8)) = false := beq_eq_false_iff_ne.mpr c14
              have c14b1 : (t136.toList != ([65, 82, 77, 65] : List UInt8)) = true := bne_iff_ne.mpr c14
              obtain rfl := Option.some.inj H
              go_enter Tryd.func7, Tryd.ntmps7
              go_wp2_with (first | ((with_reducible refine gate_callee (f := 6) rfl ?_); refine goesL_ (some 10) rfl rfl Tryd.func6 (by kernel_rfl) rfl #[.int .i64 1, .int .i64 1, .bool true] rfl (by (try simp only [List.map_toArray, List.map_cons, List.map_nil]); first | done | rfl | (simp only [List.length_drop, List.length_take]; rfl)) ?_; (with_reducible refine (cippuslaw07_copies.calls 1 1 true t121 _ A1.out).mono ?_); rintro e w54 ⟨v122, rfl, ho0, hb⟩; refine ⟨_, rfl, ?_⟩; have n0_ := Aside0.mk (Kd.R_lower ho0 (below_size (by repeat (first | (with_reducible first | exact HB.out | apply below_alloc | apply pw_below_drewN | apply below_drew1) | exact HB.out)))); have n1_ := Aside0.mk (below_step (by repeat (first | (with_reducible first | exact HB.out | apply below_alloc | apply pw_below_drewN | apply below_drew1) | exact HB.out)) hb); clear HB; have HO123 := n0_; have HB := n1_; clear n0_ n1_; (try clear hb); (try clear hb2); (try clear hk); (try clear hi); (try clear ho0); obtain ⟨Ao55, co55, eo55⟩ := Kd.R_slice HO123.out; subst eo55) | ((with_reducible refine gate_callee (f := 9) rfl ?_); refine goesL_ (some 11) rfl rfl Tryd.func9 (by kernel_rfl) rfl #[.slice Ao55 t121.length co55] rfl (by (try simp only [List.map_toArray, List.map_cons, List.map_nil]); first | done | rfl | (simp only [List.length_drop, List.length_take]; rfl)) ?_; (with_reducible refine (stemma_Sources.calls k _ _ t121 t124 t127 _ ?side1 ?side2 A2.out).mono ?_); (case side1 => repeat (first | exact (Kd.R_reads' HO123.out).2.2 | (with_reducible refine Kd.C_alloc ?_ _) | (with_reducible refine Kd.C_drewN ?_ _) | (with_reducible refine Kd.C_drew ?_))); (case side2 => exact (Kd.R_reads' HO123.out).2.1); rintro e w56 ⟨v125, rfl, ho0, hb⟩; refine ⟨_, rfl, ?_⟩; have n0_ := Aside0.mk (Kd.R_below (by (with_reducible repeat (first | apply Kd.R_alloc | apply Kd.R_drewN | apply Kd.R_drew)); exact HO123.out) hb); have n1_ := Aside0.mk (Kd.N_lower (Kd.N_mono (ok' := fun k_ => some k_ ≠ (.slice Ao55 t121.length co55 : Value).ownBlock) ho0 (fun k_ hk_ => (Kd.fresh' (Kd.R_lt (by (with_reducible repeat (first | apply Kd.R_alloc | apply Kd.R_drewN | apply Kd.R_drew)); exact HO123.out)) k_ hk_))) (below_size (by repeat (first | (with_reducible first | exact HB.out | apply below_alloc | apply pw_below_drewN | apply below_drew1) | exact HB.out)))); have n2_ := Aside0.mk (below_step (by repeat (first | (with_reducible first | exact HB.out | apply below_alloc | apply pw_below_drewN | apply below_drew1) | exact HB.out)) hb); clear HO123; clear HB; have HO123 := n0_; have HO126 := n1_; have HB := n2_; clear n0_ n1_ n2_; (try clear hb); (try clear hb2); (try clear hk); (try clear hi); (try clear ho0)) | ((with_reducible refine gate_callee (f := 6) rfl ?_); refine goesL_ (some 15) rfl rfl Tryd.func6 (by kernel_rfl) rfl #[.int .i64 1, .int .i64 0, .bool true] rfl (by (try simp only [List.map_toArray, List.map_cons, List.map_nil]); first | done | rfl | (simp only [List.length_drop, List.length_take]; rfl)) ?_; (with_reducible refine (cippuslaw07_copies.calls 1 0 true t128 _ A3.out).mono ?_); rintro e w57 ⟨v129, rfl, ho0, hb⟩; refine ⟨_, rfl, ?_⟩; have n0_ := Aside0.mk (Kd.R_elder' (by (with_reducible repeat (first | apply Kd.R_alloc | apply Kd.R_drewN | apply Kd.R_drew)); exact HO123.out) (Kd.R_base ho0) hb); have n1_ := Aside0.mk (Kd.N_elder' (by (with_reducible repeat (first | apply Kd.N_alloc | apply Kd.N_drewN | apply Kd.N_drew)); exact HO126.out) (Kd.R_base ho0) hb); have n2_ := Aside0.mk (Kd.R_lower (Kd.R_new' ho0 (Kd.R_lt (by (with_reducible repeat (first | apply Kd.R_alloc | apply Kd.R_drewN | apply Kd.R_drew)); exact HO123.out))) (below_size (by repeat (first | (with_reducible first | exact HB.out | apply below_alloc | apply pw_below_drewN | apply below_drew1) | exact HB.out)))); have n3_ := Aside0.mk (below_step (by repeat (first | (with_reducible first | exact HB.out | apply below_alloc | apply pw_below_drewN | apply below_drew1) | exact HB.out)) hb); clear HO123; clear HO126; clear HB; have HO123 := n0_; have HO126 := n1_; have HO130 := n2_; have HB := n3_; clear n0_ n1_ n2_ n3_; (try clear hb); (try clear hb2); (try clear hk); (try clear hi); (try clear ho0); obtain ⟨Ao58, co58, eo58⟩ := Kd.R_slice HO130.out; subst eo58) | ((with_reducible refine gate_callee (f := 13) rfl ?_); refine goesL_ (some 16) rfl rfl Tryd.func13 (by kernel_rfl) rfl #[.slice Ao58 t128.length co58] rfl (by (try simp only [List.map_toArray, List.map_cons, List.map_nil]); first | done | rfl | (simp only [List.length_drop, List.length_take]; rfl)) ?_; (with_reducible refine (stemma_Print.calls k _ _ t128 t131 t132 _ ?side1 ?side2 A4.out).mono ?_); (case side1 => repeat (first | exact (Kd.R_reads' HO130.out).2.2 | (with_reducible refine Kd.C_alloc ?_ _) | (with_reducible refine Kd.C_drewN ?_ _) | (with_reducible refine Kd.C_drew ?_))); (case side2 => exact (Kd.R_reads' HO130.out).2.1); rintro e w59 ⟨rfl, hb⟩; refine ⟨_, rfl, ?_⟩; have n0_ := Aside0.mk (Kd.R_below (by (with_reducible repeat (first | apply Kd.R_alloc | apply Kd.R_drewN | apply Kd.R_drew)); exact HO123.out) hb); have n1_ := Aside0.mk (Kd.N_below (by (with_reducible repeat (first | apply Kd.N_alloc | apply Kd.N_drewN | apply Kd.N_drew)); exact HO126.out) hb); have n2_ := Aside0.mk (Kd.R_below (by (with_reducible repeat (first | apply Kd.R_alloc | apply Kd.R_drewN | apply Kd.R_drew)); exact HO130.out) hb); have n3_ := Aside0.mk (below_step (by repeat (first | (with_reducible first | exact HB.out | apply below_alloc | apply pw_below_drewN | apply below_drew1) | exact HB.out)) hb); clear HO123; clear HO126; clear HO130; clear HB; have HO123 := n0_; have HO126 := n1_; have HO130 := n2_; have HB := n3_; clear n0_ n1_ n2_ n3_; (try clear hb); (try clear hb2); (try clear hk); (try clear hi)) | ((with_reducible refine gate_callee (f := 6) rfl ?_); refine goesL_ (some 20) rfl rfl Tryd.func6 (by kernel_rfl) rfl #[.int .i64 0, .int .i64 1, .bool true] rfl (by (try simp only [List.map_toArray, List.map_cons, List.map_nil]); first | done | rfl | (simp only [List.length_drop, List.length_take]; rfl)) ?_; (with_reducible refine (cippuslaw07_copies.calls 0 1 true t133 _ A5.out).mono ?_); rintro e w60 ⟨v134, rfl, ho0, hb⟩; refine ⟨_, rfl, ?_⟩; have n0_ := Aside0.mk (Kd.R_elder' (by (with_reducible repeat (first | apply Kd.R_alloc | apply Kd.R_drewN | apply Kd.R_drew)); exact HO123.out) (Kd.R_base ho0) hb); have n1_ := Aside0.mk (Kd.N_elder' (by (with_reducible repeat (first | apply Kd.N_alloc | apply Kd.N_drewN | apply Kd.N_drew)); exact HO126.out) (Kd.R_base ho0) hb); have n2_ := Aside0.mk (Kd.R_elder' (by (with_reducible repeat (first | apply Kd.R_alloc | apply Kd.R_drewN | apply Kd.R_drew)); exact HO130.out) (Kd.R_base ho0) hb); have n3_ := Aside0.mk (Kd.R_lower (Kd.R_new' (Kd.R_new' ho0 (Kd.R_lt (by (with_reducible repeat (first | apply Kd.R_alloc | apply Kd.R_drewN | apply Kd.R_drew)); exact HO123.out))) (Kd.R_lt (by (with_reducible repeat (first | apply Kd.R_alloc | apply Kd.R_drewN | apply Kd.R_drew)); exact HO130.out))) (below_size (by repeat (first | (with_reducible first | exact HB.out | apply below_alloc | apply pw_below_drewN | apply below_drew1) | exact HB.out)))); have n4_ := Aside0.mk (below_step (by repeat (first | (with_reducible first | exact HB.out | apply below_alloc | apply pw_below_drewN | apply below_drew1) | exact HB.out)) hb); clear HO123; clear HO126; clear HO130; clear HB; have HO123 := n0_; have HO126 := n1_; have HO130 := n2_; have HO135 := n3_; have HB := n4_; clear n0_ n1_ n2_ n3_ n4_; (try clear hb); (try clear hb2); (try clear hk); (try clear hi); (try clear ho0); obtain ⟨Ao61, co61, eo61⟩ := Kd.R_slice HO135.out; subst eo61) | ((with_reducible refine gate_callee (f := 13) rfl ?_); refine goesL_ (some 21) rfl rfl Tryd.func13 (by kernel_rfl) rfl #[.slice Ao61 t133.length co61] rfl (by (try simp only [List.map_toArray, List.map_cons, List.map_nil]); first | done | rfl | (simp only [List.length_drop, List.length_take]; rfl)) ?_; (with_reducible refine (stemma_Print.calls k _ _ t133 t136 t137 _ ?side1 ?side2 A6.out).mono ?_); (case side1 => repeat (first | exact (Kd.R_reads' HO135.out).2.2 | (with_reducible refine Kd.C_alloc ?_ _) | (with_reducible refine Kd.C_drewN ?_ _) | (with_reducible refine Kd.C_drew ?_))); (case side2 => exact (Kd.R_reads' HO135.out).2.1); rintro e w62 ⟨rfl, hb⟩; refine ⟨_, rfl, ?_⟩; have n0_ := Aside0.mk (Kd.R_below (by (with_reducible repeat (first | apply Kd.R_alloc | apply Kd.R_drewN | apply Kd.R_drew)); exact HO123.out) hb); have n1_ := Aside0.mk (Kd.N_below (by (with_reducible repeat (first | apply Kd.N_alloc | apply Kd.N_drewN | apply Kd.N_drew)); exact HO126.out) hb); have n2_ := Aside0.mk (Kd.R_below (by (with_reducible repeat (first | apply Kd.R_alloc | apply Kd.R_drewN | apply Kd.R_drew)); exact HO130.out) hb); have n3_ := Aside0.mk (Kd.R_below (by (with_reducible repeat (first | apply Kd.R_alloc | apply Kd.R_drewN | apply Kd.R_drew)); exact HO135.out) hb); have n4_ := Aside0.mk (below_step (by repeat (first | (with_reducible first | exact HB.out | apply below_alloc | apply pw_below_drewN | apply below_drew1) | exact HB.out)) hb); clear HO123; clear HO126; clear HO130; clear HO135; clear HB; have HO123 := n0_; have HO126 := n1_; have HO130 := n2_; have HO135 := n3_; have HB := n4_; clear n0_ n1_ n2_ n3_ n4_; (try clear hb); (try clear hb2); (try clear hk); (try clear hi)) | ((with_reducible refine gate_callee (f := 6) rfl ?_); refine goesL_ (some 25) rfl rfl Tryd.func6 (by kernel_rfl) rfl #[.int .i64 1, .int .i64 0, .bool true] rfl (by (try simp only [List.map_toArray, List.map_cons, List.map_nil]); first | done | rfl | (simp only [List.length_drop, List.length_take]; rfl)) ?_; (with_reducible refine (cippuslaw07_copies.calls 1 0 true t138 _ A7.out).mono ?_); rintro e w63 ⟨v139, rfl, ho0, hb⟩; refine ⟨_, rfl, ?_⟩; have n0_ := Aside0.mk (Kd.R_elder' (by (with_reducible repeat (first | apply Kd.R_alloc | apply Kd.R_drewN | apply Kd.R_drew)); exact HO123.out) (Kd.R_base ho0) hb); have n1_ := Aside0.mk (Kd.N_elder' (by (with_reducible repeat (first | apply Kd.N_alloc | apply Kd.N_drewN | apply Kd.N_drew)); exact HO126.out) (Kd.R_base ho0) hb); have n2_ := Aside0.mk (Kd.R_elder' (by (with_reducible repeat (first | apply Kd.R_alloc | apply Kd.R_drewN | apply Kd.R_drew)); exact HO130.out) (Kd.R_base ho0) hb); have n3_ := Aside0.mk (Kd.R_elder' (by (with_reducible repeat (first | apply Kd.R_alloc | apply Kd.R_drewN | apply Kd.R_drew)); exact HO135.out) (Kd.R_base ho0) hb); have n4_ := Aside0.mk (Kd.R_lower (Kd.R_new' (Kd.R_new' (Kd.R_new' ho0 (Kd.R_lt (by (with_reducible repeat (first | apply Kd.R_alloc | apply Kd.R_drewN | apply Kd.R_drew)); exact HO123.out))) (Kd.R_lt (by (with_reducible repeat (first | apply Kd.R_alloc | apply Kd.R_drewN | apply Kd.R_drew)); exact HO130.out))) (Kd.R_lt (by (with_reducible repeat (first | apply Kd.R_alloc | apply Kd.R_drewN | apply Kd.R_drew)); exact HO135.out))) (below_size (by repeat (first | (with_reducible first | exact HB.out | apply below_alloc | apply pw_below_drewN | apply below_drew1) | exact HB.out)))); have n5_ := Aside0.mk (below_step (by repeat (first | (with_reducible first | exact HB.out | apply below_alloc | apply pw_below_drewN | apply below_drew1) | exact HB.out)) hb); clear HO123; clear HO126; clear HO130; clear HO135; clear HB; have HO123 := n0_; have HO126 := n1_; have HO130 := n2_; have HO135 := n3_; have HO140 := n4_; have HB := n5_; clear n0_ n1_ n2_ n3_ n4_ n5_; (try clear hb); (try clear hb2); (try clear hk); (try clear hi); (try clear ho0); obtain ⟨Ao64, co64, eo64⟩ := Kd.R_slice HO140.out; subst eo64) | ((with_reducible refine gate_callee (f := 14) rfl ?_); refine goesL_ (some 26) rfl rfl Tryd.func14 (by kernel_rfl) rfl #[.slice Ao64 t138.length co64] rfl (by (try simp only [List.map_toArray, List.map_cons, List.map_nil]); first | done | rfl | (simp only [List.length_drop, List.length_take]; rfl)) ?_; (with_reducible refine (stemma_Fewest.calls k _ _ t138 t141 t142 _ ?side1 ?side2 A8.out).mono ?_); (case side1 => repeat (first | exact (Kd.R_reads' HO140.out).2.2 | (with_reducible refine Kd.C_alloc ?_ _) | (with_reducible refine Kd.C_drewN ?_ _) | (with_reducible refine Kd.C_drew ?_))); (case side2 => exact (Kd.R_reads' HO140.out).2.1); rintro e w65 ⟨rfl, hb⟩; refine ⟨_, rfl, ?_⟩; have n0_ := Aside0.mk (Kd.R_below (by (with_reducible repeat (first | apply Kd.R_alloc | apply Kd.R_drewN | apply Kd.R_drew)); exact HO123.out) hb); have n1_ := Aside0.mk (Kd.N_below (by (with_reducible repeat (first | apply Kd.N_alloc | apply Kd.N_drewN | apply Kd.N_drew)); exact HO126.out) hb); have n2_ := Aside0.mk (Kd.R_below (by (with_reducible repeat (first | apply Kd.R_alloc | apply Kd.R_drewN | apply Kd.R_drew)); exact HO130.out) hb); have n3_ := Aside0.mk (Kd.R_below (by (with_reducible repeat (first | apply Kd.R_alloc | apply Kd.R_drewN | apply Kd.R_drew)); exact HO135.out) hb); have n4_ := Aside0.mk (Kd.R_below (by (with_reducible repeat (first | apply Kd.R_alloc | apply Kd.R_drewN | apply Kd.R_drew)); exact HO140.out) hb); have n5_ := Aside0.mk (below_step (by repeat (first | (with_reducible first | exact HB.out | apply below_alloc | apply pw_below_drewN | apply below_drew1) | exact HB.out)) hb); clear HO123; clear HO126; clear HO130; clear HO135; clear HO140; clear HB; have HO123 := n0_; have HO126 := n1_; have HO130 := n2_; have HO135 := n3_; have HO140 := n4_; have HB := n5_; clear n0_ n1_ n2_ n3_ n4_ n5_; (try clear hb); (try clear hb2); (try clear hk); (try clear hi)))
              go_ret
              exact ⟨by first | rfl | (simp [errW_none, errW_some] <;> rfl) | (simp [*, errW_none, errW_some] <;> rfl), by repeat (first | (with_reducible first | exact HB.out | apply below_alloc | apply pw_below_drewN | apply below_drew1) | exact HB.out)⟩
          · rw [if_neg c13] at H
            have c13b0 : (t131.toList == ([65, 82, 77, 79] : List UInt8)) = false := beq_eq_false_iff_ne.mpr c13
            have c13b1 : (t131.toList != ([65, 82, 77, 79] : List UInt8)) = true := bne_iff_ne.mpr c13
            obtain rfl := Option.some.inj H
            go_enter Tryd.func7, Tryd.ntmps7
            go_wp2_with (first | ((with_reducible refine gate_callee (f := 6) rfl ?_); refine goesL_ (some 10) rfl rfl Tryd.func6 (by kernel_rfl) rfl #[.int .i64 1, .int .i64 1, .bool true] rfl (by (try simp only [List.map_toArray, List.map_cons, List.map_nil]); first | done | rfl | (simp only [List.length_drop, List.length_take]; rfl)) ?_; (with_reducible refine (cippuslaw07_copies.calls 1 1 true t121 _ A1.out).mono ?_); rintro e w66 ⟨v122, rfl, ho0, hb⟩; refine ⟨_, rfl, ?_⟩; have n0_ := Aside0.mk (Kd.R_lower ho0 (below_size (by repeat (first | (with_reducible first | exact HB.out | apply below_alloc | apply pw_below_drewN | apply below_drew1) | exact HB.out)))); have n1_ := Aside0.mk (below_step (by repeat (first | (with_reducible first | exact HB.out | apply below_alloc | apply pw_below_drewN | apply below_drew1) | exact HB.out)) hb); clear HB; have HO123 := n0_; have HB := n1_; clear n0_ n1_; (try clear hb); (try clear hb2); (try clear hk); (try clear hi); (try clear ho0); obtain ⟨Ao67, co67, eo67⟩ := Kd.R_slice HO123.out; subst eo67) | ((with_reducible refine gate_callee (f := 9) rfl ?_); refine goesL_ (some 11) rfl rfl Tryd.func9 (by kernel_rfl) rfl #[.slice Ao67 t121.length co67] rfl (by (try simp only [List.map_toArray, List.map_cons, List.map_nil]); first | done | rfl | (simp only [List.length_drop, List.length_take]; rfl)) ?_; (with_reducible refine (stemma_Sources.calls k _ _ t121 t124 t127 _ ?side1 ?side2 A2.out).mono ?_); (case side1 => repeat (first | exact (Kd.R_reads' HO123.out).2.2 | (with_reducible refine Kd.C_alloc ?_ _) | (with_reducible refine Kd.C_drewN ?_ _) | (with_reducible refine Kd.C_drew ?_))); (case side2 => exact (Kd.R_reads' HO123.out).2.1); rintro e w68 ⟨v125, rfl, ho0, hb⟩; refine ⟨_, rfl, ?_⟩; have n0_ := Aside0.mk (Kd.R_below (by (with_reducible repeat (first | apply Kd.R_alloc | apply Kd.R_drewN | apply Kd.R_drew)); exact HO123.out) hb); have n1_ := Aside0.mk (Kd.N_lower (Kd.N_mono (ok' := fun k_ => some k_ ≠ (.slice Ao67 t121.length co67 : Value).ownBlock) ho0 (fun k_ hk_ => (Kd.fresh' (Kd.R_lt (by (with_reducible repeat (first | apply Kd.R_alloc | apply Kd.R_drewN | apply Kd.R_drew)); exact HO123.out)) k_ hk_))) (below_size (by repeat (first | (with_reducible first | exact HB.out | apply below_alloc | apply pw_below_drewN | apply below_drew1) | exact HB.out)))); have n2_ := Aside0.mk (below_step (by repeat (first | (with_reducible first | exact HB.out | apply below_alloc | apply pw_below_drewN | apply below_drew1) | exact HB.out)) hb); clear HO123; clear HB; have HO123 := n0_; have HO126 := n1_; have HB := n2_; clear n0_ n1_ n2_; (try clear hb); (try clear hb2); (try clear hk); (try clear hi); (try clear ho0)) | ((with_reducible refine gate_callee (f := 6) rfl ?_); refine goesL_ (some 15) rfl rfl Tryd.func6 (by kernel_rfl) rfl #[.int .i64 1, .int .i64 0, .bool true] rfl (by (try simp only [List.map_toArray, List.map_cons, List.map_nil]); first | done | rfl | (simp only [List.length_drop, List.length_take]; rfl)) ?_; (with_reducible refine (cippuslaw07_copies.calls 1 0 true t128 _ A3.out).mono ?_); rintro e w69 ⟨v129, rfl, ho0, hb⟩; refine ⟨_, rfl, ?_⟩; have n0_ := Aside0.mk (Kd.R_elder' (by (with_reducible repeat (first | apply Kd.R_alloc | apply Kd.R_drewN | apply Kd.R_drew)); exact HO123.out) (Kd.R_base ho0) hb); have n1_ := Aside0.mk (Kd.N_elder' (by (with_reducible repeat (first | apply Kd.N_alloc | apply Kd.N_drewN | apply Kd.N_drew)); exact HO126.out) (Kd.R_base ho0) hb); have n2_ := Aside0.mk (Kd.R_lower (Kd.R_new' ho0 (Kd.R_lt (by (with_reducible repeat (first | apply Kd.R_alloc | apply Kd.R_drewN | apply Kd.R_drew)); exact HO123.out))) (below_size (by repeat (first | (with_reducible first | exact HB.out | apply below_alloc | apply pw_below_drewN | apply below_drew1) | exact HB.out)))); have n3_ := Aside0.mk (below_step (by repeat (first | (with_reducible first | exact HB.out | apply below_alloc | apply pw_below_drewN | apply below_drew1) | exact HB.out)) hb); clear HO123; clear HO126; clear HB; have HO123 := n0_; have HO126 := n1_; have HO130 := n2_; have HB := n3_; clear n0_ n1_ n2_ n3_; (try clear hb); (try clear hb2); (try clear hk); (try clear hi); (try clear ho0); obtain ⟨Ao70, co70, eo70⟩ := Kd.R_slice HO130.out; subst eo70) | ((with_reducible refine gate_callee (f := 13) rfl ?_); refine goesL_ (some 16) rfl rfl Tryd.func13 (by kernel_rfl) rfl #[.slice Ao70 t128.length co70] rfl (by (try simp only [List.map_toArray, List.map_cons, List.map_nil]); first | done | rfl | (simp only [List.length_drop, List.length_take]; rfl)) ?_; (with_reducible refine (stemma_Print.calls k _ _ t128 t131 t132 _ ?side1 ?side2 A4.out).mono ?_); (case side1 => repeat (first | exact (Kd.R_reads' HO130.out).2.2 | (with_reducible refine Kd.C_alloc ?_ _) | (with_reducible refine Kd.C_drewN ?_ _) | (with_reducible refine Kd.C_drew ?_))); (case side2 => exact (Kd.R_reads' HO130.out).2.1); rintro e w71 ⟨rfl, hb⟩; refine ⟨_, rfl, ?_⟩; have n0_ := Aside0.mk (Kd.R_below (by (with_reducible repeat (first | apply Kd.R_alloc | apply Kd.R_drewN | apply Kd.R_drew)); exact HO123.out) hb); have n1_ := Aside0.mk (Kd.N_below (by (with_reducible repeat (first | apply Kd.N_alloc | apply Kd.N_drewN | apply Kd.N_drew)); exact HO126.out) hb); have n2_ := Aside0.mk (Kd.R_below (by (with_reducible repeat (first | apply Kd.R_alloc | apply Kd.R_drewN | apply Kd.R_drew)); exact HO130.out) hb); have n3_ := Aside0.mk (below_step (by repeat (first | (with_reducible first | exact HB.out | apply below_alloc | apply pw_below_drewN | apply below_drew1) | exact HB.out)) hb); clear HO123; clear HO126; clear HO130; clear HB; have HO123 := n0_; have HO126 := n1_; have HO130 := n2_; have HB := n3_; clear n0_ n1_ n2_ n3_; (try clear hb); (try clear hb2); (try clear hk); (try clear hi)) | ((with_reducible refine gate_callee (f := 6) rfl ?_); refine goesL_ (some 20) rfl rfl Tryd.func6 (by kernel_rfl) rfl #[.int .i64 0, .int .i64 1, .bool true] rfl (by (try simp only [List.map_toArray, List.map_cons, List.map_nil]); first | done | rfl | (simp only [List.length_drop, List.length_take]; rfl)) ?_; (with_reducible refine (cippuslaw07_copies.calls 0 1 true t133 _ A5.out).mono ?_); rintro e w72 ⟨v134, rfl, ho0, hb⟩; refine ⟨_, rfl, ?_⟩; have n0_ := Aside0.mk (Kd.R_elder' (by (with_reducible repeat (first | apply Kd.R_alloc | apply Kd.R_drewN | apply Kd.R_drew)); exact HO123.out) (Kd.R_base ho0) hb); have n1_ := Aside0.mk (Kd.N_elder' (by (with_reducible repeat (first | apply Kd.N_alloc | apply Kd.N_drewN | apply Kd.N_drew)); exact HO126.out) (Kd.R_base ho0) hb); have n2_ := Aside0.mk (Kd.R_elder' (by (with_reducible repeat (first | apply Kd.R_alloc | apply Kd.R_drewN | apply Kd.R_drew)); exact HO130.out) (Kd.R_base ho0) hb); have n3_ := Aside0.mk (Kd.R_lower (Kd.R_new' (Kd.R_new' ho0 (Kd.R_lt (by (with_reducible repeat (first | apply Kd.R_alloc | apply Kd.R_drewN | apply Kd.R_drew)); exact HO123.out))) (Kd.R_lt (by (with_reducible repeat (first | apply Kd.R_alloc | apply Kd.R_drewN | apply Kd.R_drew)); exact HO130.out))) (below_size (by repeat (first | (with_reducible first | exact HB.out | apply below_alloc | apply pw_below_drewN | apply below_drew1) | exact HB.out)))); have n4_ := Aside0.mk (below_step (by repeat (first | (with_reducible first | exact HB.out | apply below_alloc | apply pw_below_drewN | apply below_drew1) | exact HB.out)) hb); clear HO123; clear HO126; clear HO130; clear HB; have HO123 := n0_; have HO126 := n1_; have HO130 := n2_; have HO135 := n3_; have HB := n4_; clear n0_ n1_ n2_ n3_ n4_; (try clear hb); (try clear hb2); (try clear hk); (try clear hi); (try clear ho0); obtain ⟨Ao73, co73, eo73⟩ := Kd.R_slice HO135.out; subst eo73) | ((with_reducible refine gate_callee (f := 13) rfl ?_); refine goesL_ (some 21) rfl rfl Tryd.func13 (by kernel_rfl) rfl #[.slice Ao73 t133.length co73] rfl (by (try simp only [List.map_toArray, List.map_cons, List.map_nil]); first | done | rfl | (simp only [List.length_drop, List.length_take]; rfl)) ?_; (with_reducible refine (stemma_Print.calls k _ _ t133 t136 t137 _ ?side1 ?side2 A6.out).mono ?_); (case side1 => repeat (first | exact (Kd.R_reads' HO135.out).2.2 | (with_reducible refine Kd.C_alloc ?_ _) | (with_reducible refine Kd.C_drewN ?_ _) | (with_reducible refine Kd.C_drew ?_))); (case side2 => exact (Kd.R_reads' HO135.out).2.1); rintro e w74 ⟨rfl, hb⟩; refine ⟨_, rfl, ?_⟩; have n0_ := Aside0.mk (Kd.R_below (by (with_reducible repeat (first | apply Kd.R_alloc | apply Kd.R_drewN | apply Kd.R_drew)); exact HO123.out) hb); have n1_ := Aside0.mk (Kd.N_below (by (with_reducible repeat (first | apply Kd.N_alloc | apply Kd.N_drewN | apply Kd.N_drew)); exact HO126.out) hb); have n2_ := Aside0.mk (Kd.R_below (by (with_reducible repeat (first | apply Kd.R_alloc | apply Kd.R_drewN | apply Kd.R_drew)); exact HO130.out) hb); have n3_ := Aside0.mk (Kd.R_below (by (with_reducible repeat (first | apply Kd.R_alloc | apply Kd.R_drewN | apply Kd.R_drew)); exact HO135.out) hb); have n4_ := Aside0.mk (below_step (by repeat (first | (with_reducible first | exact HB.out | apply below_alloc | apply pw_below_drewN | apply below_drew1) | exact HB.out)) hb); clear HO123; clear HO126; clear HO130; clear HO135; clear HB; have HO123 := n0_; have HO126 := n1_; have HO130 := n2_; have HO135 := n3_; have HB := n4_; clear n0_ n1_ n2_ n3_ n4_; (try clear hb); (try clear hb2); (try clear hk); (try clear hi)) | ((with_reducible refine gate_callee (f := 6) rfl ?_); refine goesL_ (some 25) rfl rfl Tryd.func6 (by kernel_rfl) rfl #[.int .i64 1, .int .i64 0, .bool true] rfl (by (try simp only [List.map_toArray, List.map_cons, List.map_nil]); first | done | rfl | (simp only [List.length_drop, List.length_take]; rfl)) ?_; (with_reducible refine (cippuslaw07_copies.calls 1 0 true t138 _ A7.out).mono ?_); rintro e w75 ⟨v139, rfl, ho0, hb⟩; refine ⟨_, rfl, ?_⟩; have n0_ := Aside0.mk (Kd.R_elder' (by (with_reducible repeat (first | apply Kd.R_alloc | apply Kd.R_drewN | apply Kd.R_drew)); exact HO123.out) (Kd.R_base ho0) hb); have n1_ := Aside0.mk (Kd.N_elder' (by (with_reducible repeat (first | apply Kd.N_alloc | apply Kd.N_drewN | apply Kd.N_drew)); exact HO126.out) (Kd.R_base ho0) hb); have n2_ := Aside0.mk (Kd.R_elder' (by (with_reducible repeat (first | apply Kd.R_alloc | apply Kd.R_drewN | apply Kd.R_drew)); exact HO130.out) (Kd.R_base ho0) hb); have n3_ := Aside0.mk (Kd.R_elder' (by (with_reducible repeat (first | apply Kd.R_alloc | apply Kd.R_drewN | apply Kd.R_drew)); exact HO135.out) (Kd.R_base ho0) hb); have n4_ := Aside0.mk (Kd.R_lower (Kd.R_new' (Kd.R_new' (Kd.R_new' ho0 (Kd.R_lt (by (with_reducible repeat (first | apply Kd.R_alloc | apply Kd.R_drewN | apply Kd.R_drew)); exact HO123.out))) (Kd.R_lt (by (with_reducible repeat (first | apply Kd.R_alloc | apply Kd.R_drewN | apply Kd.R_drew)); exact HO130.out))) (Kd.R_lt (by (with_reducible repeat (first | apply Kd.R_alloc | apply Kd.R_drewN | apply Kd.R_drew)); exact HO135.out))) (below_size (by repeat (first | (with_reducible first | exact HB.out | apply below_alloc | apply pw_below_drewN | apply below_drew1) | exact HB.out)))); have n5_ := Aside0.mk (below_step (by repeat (first | (with_reducible first | exact HB.out | apply below_alloc | apply pw_below_drewN | apply below_drew1) | exact HB.out)) hb); clear HO123; clear HO126; clear HO130; clear HO135; clear HB; have HO123 := n0_; have HO126 := n1_; have HO130 := n2_; have HO135 := n3_; have HO140 := n4_; have HB := n5_; clear n0_ n1_ n2_ n3_ n4_ n5_; (try clear hb); (try clear hb2); (try clear hk); (try clear hi); (try clear ho0); obtain ⟨Ao76, co76, eo76⟩ := Kd.R_slice HO140.out; subst eo76) | ((with_reducible refine gate_callee (f := 14) rfl ?_); refine goesL_ (some 26) rfl rfl Tryd.func14 (by kernel_rfl) rfl #[.slice Ao76 t138.length co76] rfl (by (try simp only [List.map_toArray, List.map_cons, List.map_nil]); first | done | rfl | (simp only [List.length_drop, List.length_take]; rfl)) ?_; (with_reducible refine (stemma_Fewest.calls k _ _ t138 t141 t142 _ ?side1 ?side2 A8.out).mono ?_); (case side1 => repeat (first | exact (Kd.R_reads' HO140.out).2.2 | (with_reducible refine Kd.C_alloc ?_ _) | (with_reducible refine Kd.C_drewN ?_ _) | (with_reducible refine Kd.C_drew ?_))); (case side2 => exact (Kd.R_reads' HO140.out).2.1); rintro e w77 ⟨rfl, hb⟩; refine ⟨_, rfl, ?_⟩; have n0_ := Aside0.mk (Kd.R_below (by (with_reducible repeat (first | apply Kd.R_alloc | apply Kd.R_drewN | apply Kd.R_drew)); exact HO123.out) hb); have n1_ := Aside0.mk (Kd.N_below (by (with_reducible repeat (first | apply Kd.N_alloc | apply Kd.N_drewN | apply Kd.N_drew)); exact HO126.out) hb); have n2_ := Aside0.mk (Kd.R_below (by (with_reducible repeat (first | apply Kd.R_alloc | apply Kd.R_drewN | apply Kd.R_drew)); exact HO130.out) hb); have n3_ := Aside0.mk (Kd.R_below (by (with_reducible repeat (first | apply Kd.R_alloc | apply Kd.R_drewN | apply Kd.R_drew)); exact HO135.out) hb); have n4_ := Aside0.mk (Kd.R_below (by (with_reducible repeat (first | apply Kd.R_alloc | apply Kd.R_drewN | apply Kd.R_drew)); exact HO140.out) hb); have n5_ := Aside0.mk (below_step (by repeat (first | (with_reducible first | exact HB.out | apply below_alloc | apply pw_below_drewN | apply below_drew1) | exact HB.out)) hb); clear HO123; clear HO126; clear HO130; clear HO135; clear HO140; clear HB; have HO123 := n0_; have HO126 := n1_; have HO130 := n2_; have HO135 := n3_; have HO140 := n4_; have HB := n5_; clear n0_ n1_ n2_ n3_ n4_ n5_; (try clear hb); (try clear hb2); (try clear hk); (try clear hi)))
            go_ret
            exact ⟨by first | rfl | (simp [errW_none, errW_some] <;> rfl) | (simp [*, errW_none, errW_some] <;> rfl), by repeat (first | (with_reducible first | exact HB.out | apply below_alloc | apply pw_below_drewN | apply below_drew1) | exact HB.out)⟩
        · rw [if_neg c12] at H
          have c12b0 : (t142 == 0) = false := beq_eq_false_iff_ne.mpr c12
          have c12b1 : (t142 != 0) = true := bne_iff_ne.mpr c12
          obtain rfl := Option.some.inj H
          go_enter Tryd.func7, Tryd.ntmps7
          go_wp2_with (first | ((with_reducible refine gate_callee (f := 6) rfl ?_); refine goesL_ (some 10) rfl rfl Tryd.func6 (by kernel_rfl) rfl #[.int .i64 1, .int .i64 1, .bool true] rfl (by (try simp only [List.map_toArray, List.map_cons, List.map_nil]); first | done | rfl | (simp only [List.length_drop, List.length_take]; rfl)) ?_; (with_reducible refine (cippuslaw07_copies.calls 1 1 true t121 _ A1.out).mono ?_); rintro e w78 ⟨v122, rfl, ho0, hb⟩; refine ⟨_, rfl, ?_⟩; have n0_ := Aside0.mk (Kd.R_lower ho0 (below_size (by repeat (first | (with_reducible first | exact HB.out | apply below_alloc | apply pw_below_drewN | apply below_drew1) | exact HB.out)))); have n1_ := Aside0.mk (below_step (by repeat (first | (with_reducible first | exact HB.out | apply below_alloc | apply pw_below_drewN | apply below_drew1) | exact HB.out)) hb); clear HB; have HO123 := n0_; have HB := n1_; clear n0_ n1_; (try clear hb); (try clear hb2); (try clear hk); (try clear hi); (try clear ho0); obtain ⟨Ao79, co79, eo79⟩ := Kd.R_slice HO123.out; subst eo79) | ((with_reducible refine gate_callee (f := 9) rfl ?_); refine goesL_ (some 11) rfl rfl Tryd.func9 (by kernel_rfl) rfl #[.slice Ao79 t121.length co79] rfl (by (try simp only [List.map_toArray, List.map_cons, List.map_nil]); first | done | rfl | (simp only [List.length_drop, List.length_take]; rfl)) ?_; (with_reducible refine (stemma_Sources.calls k _ _ t121 t124 t127 _ ?side1 ?side2 A2.out).mono ?_); (case side1 => repeat (first | exact (Kd.R_reads' HO123.out).2.2 | (with_reducible refine Kd.C_alloc ?_ _) | (with_reducible refine Kd.C_drewN ?_ _) | (with_reducible refine Kd.C_drew ?_))); (case side2 => exact (Kd.R_reads' HO123.out).2.1); rintro e w80 ⟨v125, rfl, ho0, hb⟩; refine ⟨_, rfl, ?_⟩; have n0_ := Aside0.mk (Kd.R_below (by (with_reducible repeat (first | apply Kd.R_alloc | apply Kd.R_drewN | apply Kd.R_drew)); exact HO123.out) hb); have n1_ := Aside0.mk (Kd.N_lower (Kd.N_mono (ok' := fun k_ => some k_ ≠ (.slice Ao79 t121.length co79 : Value).ownBlock) ho0 (fun k_ hk_ => (Kd.fresh' (Kd.R_lt (by (with_reducible repeat (first | apply Kd.R_alloc | apply Kd.R_drewN | apply Kd.R_drew)); exact HO123.out)) k_ hk_))) (below_size (by repeat (first | (with_reducible first | exact HB.out | apply below_alloc | apply pw_below_drewN | apply below_drew1) | exact HB.out)))); have n2_ := Aside0.mk (below_step (by repeat (first | (with_reducible first | exact HB.out | apply below_alloc | apply pw_below_drewN | apply below_drew1) | exact HB.out)) hb); clear HO123; clear HB; have HO123 := n0_; have HO126 := n1_; have HB := n2_; clear n0_ n1_ n2_; (try clear hb); (try clear hb2); (try clear hk); (try clear hi); (try clear ho0)) | ((with_reducible refine gate_callee (f := 6) rfl ?_); refine goesL_ (some 15) rfl rfl Tryd.func6 (by kernel_rfl) rfl #[.int .i64 1, .int .i64 0, .bool true] rfl (by (try simp only [List.map_toArray, List.map_cons, List.map_nil]); first | done | rfl | (simp only [List.length_drop, List.length_take]; rfl)) ?_; (with_reducible refine (cippuslaw07_copies.calls 1 0 true t128 _ A3.out).mono ?_); rintro e w81 ⟨v129, rfl, ho0, hb⟩; refine ⟨_, rfl, ?_⟩; have n0_ := Aside0.mk (Kd.R_elder' (by (with_reducible repeat (first | apply Kd.R_alloc | apply Kd.R_drewN | apply Kd.R_drew)); exact HO123.out) (Kd.R_base ho0) hb); have n1_ := Aside0.mk (Kd.N_elder' (by (with_reducible repeat (first | apply Kd.N_alloc | apply Kd.N_drewN | apply Kd.N_drew)); exact HO126.out) (Kd.R_base ho0) hb); have n2_ := Aside0.mk (Kd.R_lower (Kd.R_new' ho0 (Kd.R_lt (by (with_reducible repeat (first | apply Kd.R_alloc | apply Kd.R_drewN | apply Kd.R_drew)); exact HO123.out))) (below_size (by repeat (first | (with_reducible first | exact HB.out | apply below_alloc | apply pw_below_drewN | apply below_drew1) | exact HB.out)))); have n3_ := Aside0.mk (below_step (by repeat (first | (with_reducible first | exact HB.out | apply below_alloc | apply pw_below_drewN | apply below_drew1) | exact HB.out)) hb); clear HO123; clear HO126; clear HB; have HO123 := n0_; have HO126 := n1_; have HO130 := n2_; have HB := n3_; clear n0_ n1_ n2_ n3_; (try clear hb); (try clear hb2); (try clear hk); (try clear hi); (try clear ho0); obtain ⟨Ao82, co82, eo82⟩ := Kd.R_slice HO130.out; subst eo82) | ((with_reducible refine gate_callee (f := 13) rfl ?_); refine goesL_ (some 16) rfl rfl Tryd.func13 (by kernel_rfl) rfl #[.slice Ao82 t128.length co82] rfl (by (try simp only [List.map_toArray, List.map_cons, List.map_nil]); first | done | rfl | (simp only [List.length_drop, List.length_take]; rfl)) ?_; (with_reducible refine (stemma_Print.calls k _ _ t128 t131 t132 _ ?side1 ?side2 A4.out).mono ?_); (case side1 => repeat (first | exact (Kd.R_reads' HO130.out).2.2 | (with_reducible refine Kd.C_alloc ?_ _) | (with_reducible refine Kd.C_drewN ?_ _) | (with_reducible refine Kd.C_drew ?_))); (case side2 => exact (Kd.R_reads' HO130.out).2.1); rintro e w83 ⟨rfl, hb⟩; refine ⟨_, rfl, ?_⟩; have n0_ := Aside0.mk (Kd.R_below (by (with_reducible repeat (first | apply Kd.R_alloc | apply Kd.R_drewN | apply Kd.R_drew)); exact HO123.out) hb); have n1_ := Aside0.mk (Kd.N_below (by (with_reducible repeat (first | apply Kd.N_alloc | apply Kd.N_drewN | apply Kd.N_drew)); exact HO126.out) hb); have n2_ := Aside0.mk (Kd.R_below (by (with_reducible repeat (first | apply Kd.R_alloc | apply Kd.R_drewN | apply Kd.R_drew)); exact HO130.out) hb); have n3_ := Aside0.mk (below_step (by repeat (first | (with_reducible first | exact HB.out | apply below_alloc | apply pw_below_drewN | apply below_drew1) | exact HB.out)) hb); clear HO123; clear HO126; clear HO130; clear HB; have HO123 := n0_; have HO126 := n1_; have HO130 := n2_; have HB := n3_; clear n0_ n1_ n2_ n3_; (try clear hb); (try clear hb2); (try clear hk); (try clear hi)) | ((with_reducible refine gate_callee (f := 6) rfl ?_); refine goesL_ (some 20) rfl rfl Tryd.func6 (by kernel_rfl) rfl #[.int .i64 0, .int .i64 1, .bool true] rfl (by (try simp only [List.map_toArray, List.map_cons, List.map_nil]); first | done | rfl | (simp only [List.length_drop, List.length_take]; rfl)) ?_; (with_reducible refine (cippuslaw07_copies.calls 0 1 true t133 _ A5.out).mono ?_); rintro e w84 ⟨v134, rfl, ho0, hb⟩; refine ⟨_, rfl, ?_⟩; have n0_ := Aside0.mk (Kd.R_elder' (by (with_reducible repeat (first | apply Kd.R_alloc | apply Kd.R_drewN | apply Kd.R_drew)); exact HO123.out) (Kd.R_base ho0) hb); have n1_ := Aside0.mk (Kd.N_elder' (by (with_reducible repeat (first | apply Kd.N_alloc | apply Kd.N_drewN | apply Kd.N_drew)); exact HO126.out) (Kd.R_base ho0) hb); have n2_ := Aside0.mk (Kd.R_elder' (by (with_reducible repeat (first | apply Kd.R_alloc | apply Kd.R_drewN | apply Kd.R_drew)); exact HO130.out) (Kd.R_base ho0) hb); have n3_ := Aside0.mk (Kd.R_lower (Kd.R_new' (Kd.R_new' ho0 (Kd.R_lt (by (with_reducible repeat (first | apply Kd.R_alloc | apply Kd.R_drewN | apply Kd.R_drew)); exact HO123.out))) (Kd.R_lt (by (with_reducible repeat (first | apply Kd.R_alloc | apply Kd.R_drewN | apply Kd.R_drew)); exact HO130.out))) (below_size (by repeat (first | (with_reducible first | exact HB.out | apply below_alloc | apply pw_below_drewN | apply below_drew1) | exact HB.out)))); have n4_ := Aside0.mk (below_step (by repeat (first | (with_reducible first | exact HB.out | apply below_alloc | apply pw_below_drewN | apply below_drew1) | exact HB.out)) hb); clear HO123; clear HO126; clear HO130; clear HB; have HO123 := n0_; have HO126 := n1_; have HO130 := n2_; have HO135 := n3_; have HB := n4_; clear n0_ n1_ n2_ n3_ n4_; (try clear hb); (try clear hb2); (try clear hk); (try clear hi); (try clear ho0); obtain ⟨Ao85, co85, eo85⟩ := Kd.R_slice HO135.out; subst eo85) | ((with_reducible refine gate_callee (f := 13) rfl ?_); refine goesL_ (some 21) rfl rfl Tryd.func13 (by kernel_rfl) rfl #[.slice Ao85 t133.length co85] rfl (by (try simp only [List.map_toArray, List.map_cons, List.map_nil]); first | done | rfl | (simp only [List.length_drop, List.length_take]; rfl)) ?_; (with_reducible refine (stemma_Print.calls k _ _ t133 t136 t137 _ ?side1 ?side2 A6.out).mono ?_); (case side1 => repeat (first | exact (Kd.R_reads' HO135.out).2.2 | (with_reducible refine Kd.C_alloc ?_ _) | (with_reducible refine Kd.C_drewN ?_ _) | (with_reducible refine Kd.C_drew ?_))); (case side2 => exact (Kd.R_reads' HO135.out).2.1); rintro e w86 ⟨rfl, hb⟩; refine ⟨_, rfl, ?_⟩; have n0_ := Aside0.mk (Kd.R_below (by (with_reducible repeat (first | apply Kd.R_alloc | apply Kd.R_drewN | apply Kd.R_drew)); exact HO123.out) hb); have n1_ := Aside0.mk (Kd.N_below (by (with_reducible repeat (first | apply Kd.N_alloc | apply Kd.N_drewN | apply Kd.N_drew)); exact HO126.out) hb); have n2_ := Aside0.mk (Kd.R_below (by (with_reducible repeat (first | apply Kd.R_alloc | apply Kd.R_drewN | apply Kd.R_drew)); exact HO130.out) hb); have n3_ := Aside0.mk (Kd.R_below (by (with_reducible repeat (first | apply Kd.R_alloc | apply Kd.R_drewN | apply Kd.R_drew)); exact HO135.out) hb); have n4_ := Aside0.mk (below_step (by repeat (first | (with_reducible first | exact HB.out | apply below_alloc | apply pw_below_drewN | apply below_drew1) | exact HB.out)) hb); clear HO123; clear HO126; clear HO130; clear HO135; clear HB; have HO123 := n0_; have HO126 := n1_; have HO130 := n2_; have HO135 := n3_; have HB := n4_; clear n0_ n1_ n2_ n3_ n4_; (try clear hb); (try clear hb2); (try clear hk); (try clear hi)) | ((with_reducible refine gate_callee (f := 6) rfl ?_); refine goesL_ (some 25) rfl rfl Tryd.func6 (by kernel_rfl) rfl #[.int .i64 1, .int .i64 0, .bool true] rfl (by (try simp only [List.map_toArray, List.map_cons, List.map_nil]); first | done | rfl | (simp only [List.length_drop, List.length_take]; rfl)) ?_; (with_reducible refine (cippuslaw07_copies.calls 1 0 true t138 _ A7.out).mono ?_); rintro e w87 ⟨v139, rfl, ho0, hb⟩; refine ⟨_, rfl, ?_⟩; have n0_ := Aside0.mk (Kd.R_elder' (by (with_reducible repeat (first | apply Kd.R_alloc | apply Kd.R_drewN | apply Kd.R_drew)); exact HO123.out) (Kd.R_base ho0) hb); have n1_ := Aside0.mk (Kd.N_elder' (by (with_reducible repeat (first | apply Kd.N_alloc | apply Kd.N_drewN | apply Kd.N_drew)); exact HO126.out) (Kd.R_base ho0) hb); have n2_ := Aside0.mk (Kd.R_elder' (by (with_reducible repeat (first | apply Kd.R_alloc | apply Kd.R_drewN | apply Kd.R_drew)); exact HO130.out) (Kd.R_base ho0) hb); have n3_ := Aside0.mk (Kd.R_elder' (by (with_reducible repeat (first | apply Kd.R_alloc | apply Kd.R_drewN | apply Kd.R_drew)); exact HO135.out) (Kd.R_base ho0) hb); have n4_ := Aside0.mk (Kd.R_lower (Kd.R_new' (Kd.R_new' (Kd.R_new' ho0 (Kd.R_lt (by (with_reducible repeat (first | apply Kd.R_alloc | apply Kd.R_drewN | apply Kd.R_drew)); exact HO123.out))) (Kd.R_lt (by (with_reducible repeat (first | apply Kd.R_alloc | apply Kd.R_drewN | apply Kd.R_drew)); exact HO130.out))) (Kd.R_lt (by (with_reducible repeat (first | apply Kd.R_alloc | apply Kd.R_drewN | apply Kd.R_drew)); exact HO135.out))) (below_size (by repeat (first | (with_reducible first | exact HB.out | apply below_alloc | apply pw_below_drewN | apply below_drew1) | exact HB.out)))); have n5_ := Aside0.mk (below_step (by repeat (first | (with_reducible first | exact HB.out | apply below_alloc | apply pw_below_drewN | apply below_drew1) | exact HB.out)) hb); clear HO123; clear HO126; clear HO130; clear HO135; clear HB; have HO123 := n0_; have HO126 := n1_; have HO130 := n2_; have HO135 := n3_; have HO140 := n4_; have HB := n5_; clear n0_ n1_ n2_ n3_ n4_ n5_; (try clear hb); (try clear hb2); (try clear hk); (try clear hi); (try clear ho0); obtain ⟨Ao88, co88, eo88⟩ := Kd.R_slice HO140.out; subst eo88) | ((with_reducible refine gate_callee (f := 14) rfl ?_); refine goesL_ (some 26) rfl rfl Tryd.func14 (by kernel_rfl) rfl #[.slice Ao88 t138.length co88] rfl (by (try simp only [List.map_toArray, List.map_cons, List.map_nil]); first | done | rfl | (simp only [List.length_drop, List.length_take]; rfl)) ?_; (with_reducible refine (stemma_Fewest.calls k _ _ t138 t141 t142 _ ?side1 ?side2 A8.out).mono ?_); (case side1 => repeat (first | exact (Kd.R_reads' HO140.out).2.2 | (with_reducible refine Kd.C_alloc ?_ _) | (with_reducible refine Kd.C_drewN ?_ _) | (with_reducible refine Kd.C_drew ?_))); (case side2 => exact (Kd.R_reads' HO140.out).2.1); rintro e w89 ⟨rfl, hb⟩; refine ⟨_, rfl, ?_⟩; have n0_ := Aside0.mk (Kd.R_below (by (with_reducible repeat (first | apply Kd.R_alloc | apply Kd.R_drewN | apply Kd.R_drew)); exact HO123.out) hb); have n1_ := Aside0.mk (Kd.N_below (by (with_reducible repeat (first | apply Kd.N_alloc | apply Kd.N_drewN | apply Kd.N_drew)); exact HO126.out) hb); have n2_ := Aside0.mk (Kd.R_below (by (with_reducible repeat (first | apply Kd.R_alloc | apply Kd.R_drewN | apply Kd.R_drew)); exact HO130.out) hb); have n3_ := Aside0.mk (Kd.R_below (by (with_reducible repeat (first | apply Kd.R_alloc | apply Kd.R_drewN | apply Kd.R_drew)); exact HO135.out) hb); have n4_ := Aside0.mk (Kd.R_below (by (with_reducible repeat (first | apply Kd.R_alloc | apply Kd.R_drewN | apply Kd.R_drew)); exact HO140.out) hb); have n5_ := Aside0.mk (below_step (by repeat (first | (with_reducible first | exact HB.out | apply below_alloc | apply pw_below_drewN | apply below_drew1) | exact HB.out)) hb); clear HO123; clear HO126; clear HO130; clear HO135; clear HO140; clear HB; have HO123 := n0_; have HO126 := n1_; have HO130 := n2_; have HO135 := n3_; have HO140 := n4_; have HB := n5_; clear n0_ n1_ n2_ n3_ n4_ n5_; (try clear hb); (try clear hb2); (try clear hk); (try clear hi)))
          go_ret
          exact ⟨by first | rfl | (simp [errW_none, errW_some] <;> rfl) | (simp [*, errW_none, errW_some] <;> rfl), by repeat (first | (with_reducible first | exact HB.out | apply below_alloc | apply pw_below_drewN | apply below_drew1) | exact HB.out)⟩
      · rw [if_neg c11] at H
        have c11b0 : (t137 == 0) = false := beq_eq_false_iff_ne.mpr c11
        have c11b1 : (t137 != 0) = true := bne_iff_ne.mpr c11
        obtain rfl := Option.some.inj H
        go_enter Tryd.func7, Tryd.ntmps7
        go_wp2_with (first | ((with_reducible refine gate_callee (f := 6) rfl ?_); refine goesL_ (some 10) rfl rfl Tryd.func6 (by kernel_rfl) rfl #[.int .i64 1, .int .i64 1, .bool true] rfl (by (try simp only [List.map_toArray, List.map_cons, List.map_nil]); first | done | rfl | (simp only [List.length_drop, List.length_take]; rfl)) ?_; (with_reducible refine (cippuslaw07_copies.calls 1 1 true t121 _ A1.out).mono ?_); rintro e w90 ⟨v122, rfl, ho0, hb⟩; refine ⟨_, rfl, ?_⟩; have n0_ := Aside0.mk (Kd.R_lower ho0 (below_size (by repeat (first | (with_reducible first | exact HB.out | apply below_alloc | apply pw_below_drewN | apply below_drew1) | exact HB.out)))); have n1_ := Aside0.mk (below_step (by repeat (first | (with_reducible first | exact HB.out | apply below_alloc | apply pw_below_drewN | apply below_drew1) | exact HB.out)) hb); clear HB; have HO123 := n0_; have HB := n1_; clear n0_ n1_; (try clear hb); (try clear hb2); (try clear hk); (try clear hi); (try clear ho0); obtain ⟨Ao91, co91, eo91⟩ := Kd.R_slice HO123.out; subst eo91) | ((with_reducible refine gate_callee (f := 9) rfl ?_); refine goesL_ (some 11) rfl rfl Tryd.func9 (by kernel_rfl) rfl #[.slice Ao91 t121.length co91] rfl (by (try simp only [List.map_toArray, List.map_cons, List.map_nil]); first | done | rfl | (simp only [List.length_drop, List.length_take]; rfl)) ?_; (with_reducible refine (stemma_Sources.calls k _ _ t121 t124 t127 _ ?side1 ?side2 A2.out).mono ?_); (case side1 => repeat (first | exact (Kd.R_reads' HO123.out).2.2 | (with_reducible refine Kd.C_alloc ?_ _) | (with_reducible refine Kd.C_drewN ?_ _) | (with_reducible refine Kd.C_drew ?_))); (case side2 => exact (Kd.R_reads' HO123.out).2.1); rintro e w92 ⟨v125, rfl, ho0, hb⟩; refine ⟨_, rfl, ?_⟩; have n0_ := Aside0.mk (Kd.R_below (by (with_reducible repeat (first | apply Kd.R_alloc | apply Kd.R_drewN | apply Kd.R_drew)); exact HO123.out) hb); have n1_ := Aside0.mk (Kd.N_lower (Kd.N_mono (ok' := fun k_ => some k_ ≠ (.slice Ao91 t121.length co91 : Value).ownBlock) ho0 (fun k_ hk_ => (Kd.fresh' (Kd.R_lt (by (with_reducible repeat (first | apply Kd.R_alloc | apply Kd.R_drewN | apply Kd.R_drew)); exact HO123.out)) k_ hk_))) (below_size (by repeat (first | (with_reducible first | exact HB.out | apply below_alloc | apply pw_below_drewN | apply below_drew1) | exact HB.out)))); have n2_ := Aside0.mk (below_step (by repeat (first | (with_reducible first | exact HB.out | apply below_alloc | apply pw_below_drewN | apply below_drew1) | exact HB.out)) hb); clear HO123; clear HB; have HO123 := n0_; have HO126 := n1_; have HB := n2_; clear n0_ n1_ n2_; (try clear hb); (try clear hb2); (try clear hk); (try clear hi); (try clear ho0)) | ((with_reducible refine gate_callee (f := 6) rfl ?_); refine goesL_ (some 15) rfl rfl Tryd.func6 (by kernel_rfl) rfl #[.int .i64 1, .int .i64 0, .bool true] rfl (by (try simp only [List.map_toArray, List.map_cons, List.map_nil]); first | done | rfl | (simp only [List.length_drop, List.length_take]; rfl)) ?_; (with_reducible refine (cippuslaw07_copies.calls 1 0 true t128 _ A3.out).mono ?_); rintro e w93 ⟨v129, rfl, ho0, hb⟩; refine ⟨_, rfl, ?_⟩; have n0_ := Aside0.mk (Kd.R_elder' (by (with_reducible repeat (first | apply Kd.R_alloc | apply Kd.R_drewN | apply Kd.R_drew)); exact HO123.out) (Kd.R_base ho0) hb); have n1_ := Aside0.mk (Kd.N_elder' (by (with_reducible repeat (first | apply Kd.N_alloc | apply Kd.N_drewN | apply Kd.N_drew)); exact HO126.out) (Kd.R_base ho0) hb); have n2_ := Aside0.mk (Kd.R_lower (Kd.R_new' ho0 (Kd.R_lt (by (with_reducible repeat (first | apply Kd.R_alloc | apply Kd.R_drewN | apply Kd.R_drew)); exact HO123.out))) (below_size (by repeat (first | (with_reducible first | exact HB.out | apply below_alloc | apply pw_below_drewN | apply below_drew1) | exact HB.out)))); have n3_ := Aside0.mk (below_step (by repeat (first | (with_reducible first | exact HB.out | apply below_alloc | apply pw_below_drewN | apply below_drew1) | exact HB.out)) hb); clear HO123; clear HO126; clear HB; have HO123 := n0_; have HO126 := n1_; have HO130 := n2_; have HB := n3_; clear n0_ n1_ n2_ n3_; (try clear hb); (try clear hb2); (try clear hk); (try clear hi); (try clear ho0); obtain ⟨Ao94, co94, eo94⟩ := Kd.R_slice HO130.out; subst eo94) | ((with_reducible refine gate_callee (f := 13) rfl ?_); refine goesL_ (some 16) rfl rfl Tryd.func13 (by kernel_rfl) rfl #[.slice Ao94 t128.length co94] rfl (by (try simp only [List.map_toArray, List.map_cons, List.map_nil]); first | done | rfl | (simp only [List.length_drop, List.length_take]; rfl)) ?_; (with_reducible refine (stemma_Print.calls k _ _ t128 t131 t132 _ ?side1 ?side2 A4.out).mono ?_); (case side1 => repeat (first | exact (Kd.R_reads' HO130.out).2.2 | (with_reducible refine Kd.C_alloc ?_ _) | (with_reducible refine Kd.C_drewN ?_ _) | (with_reducible refine Kd.C_drew ?_))); (case side2 => exact (Kd.R_reads' HO130.out).2.1); rintro e w95 ⟨rfl, hb⟩; refine ⟨_, rfl, ?_⟩; have n0_ := Aside0.mk (Kd.R_below (by (with_reducible repeat (first | apply Kd.R_alloc | apply Kd.R_drewN | apply Kd.R_drew)); exact HO123.out) hb); have n1_ := Aside0.mk (Kd.N_below (by (with_reducible repeat (first | apply Kd.N_alloc | apply Kd.N_drewN | apply Kd.N_drew)); exact HO126.out) hb); have n2_ := Aside0.mk (Kd.R_below (by (with_reducible repeat (first | apply Kd.R_alloc | apply Kd.R_drewN | apply Kd.R_drew)); exact HO130.out) hb); have n3_ := Aside0.mk (below_step (by repeat (first | (with_reducible first | exact HB.out | apply below_alloc | apply pw_below_drewN | apply below_drew1) | exact HB.out)) hb); clear HO123; clear HO126; clear HO130; clear HB; have HO123 := n0_; have HO126 := n1_; have HO130 := n2_; have HB := n3_; clear n0_ n1_ n2_ n3_; (try clear hb); (try clear hb2); (try clear hk); (try clear hi)) | ((with_reducible refine gate_callee (f := 6) rfl ?_); refine goesL_ (some 20) rfl rfl Tryd.func6 (by kernel_rfl) rfl #[.int .i64 0, .int .i64 1, .bool true] rfl (by (try simp only [List.map_toArray, List.map_cons, List.map_nil]); first | done | rfl | (simp only [List.length_drop, List.length_take]; rfl)) ?_; (with_reducible refine (cippuslaw07_copies.calls 0 1 true t133 _ A5.out).mono ?_); rintro e w96 ⟨v134, rfl, ho0, hb⟩; refine ⟨_, rfl, ?_⟩; have n0_ := Aside0.mk (Kd.R_elder' (by (with_reducible repeat (first | apply Kd.R_alloc | apply Kd.R_drewN | apply Kd.R_drew)); exact HO123.out) (Kd.R_base ho0) hb); have n1_ := Aside0.mk (Kd.N_elder' (by (with_reducible repeat (first | apply Kd.N_alloc | apply Kd.N_drewN | apply Kd.N_drew)); exact HO126.out) (Kd.R_base ho0) hb); have n2_ := Aside0.mk (Kd.R_elder' (by (with_reducible repeat (first | apply Kd.R_alloc | apply Kd.R_drewN | apply Kd.R_drew)); exact HO130.out) (Kd.R_base ho0) hb); have n3_ := Aside0.mk (Kd.R_lower (Kd.R_new' (Kd.R_new' ho0 (Kd.R_lt (by (with_reducible repeat (first | apply Kd.R_alloc | apply Kd.R_drewN | apply Kd.R_drew)); exact HO123.out))) (Kd.R_lt (by (with_reducible repeat (first | apply Kd.R_alloc | apply Kd.R_drewN | apply Kd.R_drew)); exact HO130.out))) (below_size (by repeat (first | (with_reducible first | exact HB.out | apply below_alloc | apply pw_below_drewN | apply below_drew1) | exact HB.out)))); have n4_ := Aside0.mk (below_step (by repeat (first | (with_reducible first | exact HB.out | apply below_alloc | apply pw_below_drewN | apply below_drew1) | exact HB.out)) hb); clear HO123; clear HO126; clear HO130; clear HB; have HO123 := n0_; have HO126 := n1_; have HO130 := n2_; have HO135 := n3_; have HB := n4_; clear n0_ n1_ n2_ n3_ n4_; (try clear hb); (try clear hb2); (try clear hk); (try clear hi); (try clear ho0); obtain ⟨Ao97, co97, eo97⟩ := Kd.R_slice HO135.out; subst eo97) | ((with_reducible refine gate_callee (f := 13) rfl ?_); refine goesL_ (some 21) rfl rfl Tryd.func13 (by kernel_rfl) rfl #[.slice Ao97 t133.length co97] rfl (by (try simp only [List.map_toArray, List.map_cons, List.map_nil]); first | done | rfl | (simp only [List.length_drop, List.length_take]; rfl)) ?_; (with_reducible refine (stemma_Print.calls k _ _ t133 t136 t137 _ ?side1 ?side2 A6.out).mono ?_); (case side1 => repeat (first | exact (Kd.R_reads' HO135.out).2.2 | (with_reducible refine Kd.C_alloc ?_ _) | (with_reducible refine Kd.C_drewN ?_ _) | (with_reducible refine Kd.C_drew ?_))); (case side2 => exact (Kd.R_reads' HO135.out).2.1); rintro e w98 ⟨rfl, hb⟩; refine ⟨_, rfl, ?_⟩; have n0_ := Aside0.mk (Kd.R_below (by (with_reducible repeat (first | apply Kd.R_alloc | apply Kd.R_drewN | apply Kd.R_drew)); exact HO123.out) hb); have n1_ := Aside0.mk (Kd.N_below (by (with_reducible repeat (first | apply Kd.N_alloc | apply Kd.N_drewN | apply Kd.N_drew)); exact HO126.out) hb); have n2_ := Aside0.mk (Kd.R_below (by (with_reducible repeat (first | apply Kd.R_alloc | apply Kd.R_drewN | apply Kd.R_drew)); exact HO130.out) hb); have n3_ := Aside0.mk (Kd.R_below (by (with_reducible repeat (first | apply Kd.R_alloc | apply Kd.R_drewN | apply Kd.R_drew)); exact HO135.out) hb); have n4_ := Aside0.mk (below_step (by repeat (first | (with_reducible first | exact HB.out | apply below_alloc | apply pw_below_drewN | apply below_drew1) | exact HB.out)) hb); clear HO123; clear HO126; clear HO130; clear HO135; clear HB; have HO123 := n0_; have HO126 := n1_; have HO130 := n2_; have HO135 := n3_; have HB := n4_; clear n0_ n1_ n2_ n3_ n4_; (try clear hb); (try clear hb2); (try clear hk); (try clear hi)) | ((with_reducible refine gate_callee (f := 6) rfl ?_); refine goesL_ (some 25) rfl rfl Tryd.func6 (by kernel_rfl) rfl #[.int .i64 1, .int .i64 0, .bool true] rfl (by (try simp only [List.map_toArray, List.map_cons, List.map_nil]); first | done | rfl | (simp only [List.length_drop, List.length_take]; rfl)) ?_; (with_reducible refine (cippuslaw07_copies.calls 1 0 true t138 _ A7.out).mono ?_); rintro e w99 ⟨v139, rfl, ho0, hb⟩; refine ⟨_, rfl, ?_⟩; have n0_ := Aside0.mk (Kd.R_elder' (by (with_reducible repeat (first | apply Kd.R_alloc | apply Kd.R_drewN | apply Kd.R_drew)); exact HO123.out) (Kd.R_base ho0) hb); have n1_ := Aside0.mk (Kd.N_elder' (by (with_reducible repeat (first | apply Kd.N_alloc | apply Kd.N_drewN | apply Kd.N_drew)); exact HO126.out) (Kd.R_base ho0) hb); have n2_ := Aside0.mk (Kd.R_elder' (by (with_reducible repeat (first | apply Kd.R_alloc | apply Kd.R_drewN | apply Kd.R_drew)); exact HO130.out) (Kd.R_base ho0) hb); have n3_ := Aside0.mk (Kd.R_elder' (by (with_reducible repeat (first | apply Kd.R_alloc | apply Kd.R_drewN | apply Kd.R_drew)); exact HO135.out) (Kd.R_base ho0) hb); have n4_ := Aside0.mk (Kd.R_lower (Kd.R_new' (Kd.R_new' (Kd.R_new' ho0 (Kd.R_lt (by (with_reducible repeat (first | apply Kd.R_alloc | apply Kd.R_drewN | apply Kd.R_drew)); exact HO123.out))) (Kd.R_lt (by (with_reducible repeat (first | apply Kd.R_alloc | apply Kd.R_drewN | apply Kd.R_drew)); exact HO130.out))) (Kd.R_lt (by (with_reducible repeat (first | apply Kd.R_alloc | apply Kd.R_drewN | apply Kd.R_drew)); exact HO135.out))) (below_size (by repeat (first | (with_reducible first | exact HB.out | apply below_alloc | apply pw_below_drewN | apply below_drew1) | exact HB.out)))); have n5_ := Aside0.mk (below_step (by repeat (first | (with_reducible first | exact HB.out | apply below_alloc | apply pw_below_drewN | apply below_drew1) | exact HB.out)) hb); clear HO123; clear HO126; clear HO130; clear HO135; clear HB; have HO123 := n0_; have HO126 := n1_; have HO130 := n2_; have HO135 := n3_; have HO140 := n4_; have HB := n5_; clear n0_ n1_ n2_ n3_ n4_ n5_; (try clear hb); (try clear hb2); (try clear hk); (try clear hi); (try clear ho0); obtain ⟨Ao100, co100, eo100⟩ := Kd.R_slice HO140.out; subst eo100) | ((with_reducible refine gate_callee (f := 14) rfl ?_); refine goesL_ (some 26) rfl rfl Tryd.func14 (by kernel_rfl) rfl #[.slice Ao100 t138.length co100] rfl (by (try simp only [List.map_toArray, List.map_cons, List.map_nil]); first | done | rfl | (simp only [List.length_drop, List.length_take]; rfl)) ?_; (with_reducible refine (stemma_Fewest.calls k _ _ t138 t141 t142 _ ?side1 ?side2 A8.out).mono ?_); (case side1 => repeat (first | exact (Kd.R_reads' HO140.out).2.2 | (with_reducible refine Kd.C_alloc ?_ _) | (with_reducible refine Kd.C_drewN ?_ _) | (with_reducible refine Kd.C_drew ?_))); (case side2 => exact (Kd.R_reads' HO140.out).2.1); rintro e w101 ⟨rfl, hb⟩; refine ⟨_, rfl, ?_⟩; have n0_ := Aside0.mk (Kd.R_below (by (with_reducible repeat (first | apply Kd.R_alloc | apply Kd.R_drewN | apply Kd.R_drew)); exact HO123.out) hb); have n1_ := Aside0.mk (Kd.N_below (by (with_reducible repeat (first | apply Kd.N_alloc | apply Kd.N_drewN | apply Kd.N_drew)); exact HO126.out) hb); have n2_ := Aside0.mk (Kd.R_below (by (with_reducible repeat (first | apply Kd.R_alloc | apply Kd.R_drewN | apply Kd.R_drew)); exact HO130.out) hb); have n3_ := Aside0.mk (Kd.R_below (by (with_reducible repeat (first | apply Kd.R_alloc | apply Kd.R_drewN | apply Kd.R_drew)); exact HO135.out) hb); have n4_ := Aside0.mk (Kd.R_below (by (with_reducible repeat (first | apply Kd.R_alloc | apply Kd.R_drewN | apply Kd.R_drew)); exact HO140.out) hb); have n5_ := Aside0.mk (below_step (by repeat (first | (with_reducible first | exact HB.out | apply below_alloc | apply pw_below_drewN | apply below_drew1) | exact HB.out)) hb); clear HO123; clear HO126; clear HO130; clear HO135; clear HO140; clear HB; have HO123 := n0_; have HO126 := n1_; have HO130 := n2_; have HO135 := n3_; have HO140 := n4_; have HB := n5_; clear n0_ n1_ n2_ n3_ n4_ n5_; (try clear hb); (try clear hb2); (try clear hk); (try clear hi)))
        go_ret
        exact ⟨by first | rfl | (simp [errW_none, errW_some] <;> rfl) | (simp [*, errW_none, errW_some] <;> rfl), by repeat (first | (with_reducible first | exact HB.out | apply below_alloc | apply pw_below_drewN | apply below_drew1) | exact HB.out)⟩
    · rw [if_neg c10] at H
      have c10b0 : (t132 == 0) = false := beq_eq_false_iff_ne.mpr c10
      have c10b1 : (t132 != 0) = true := bne_iff_ne.mpr c10
      obtain rfl := Option.some.inj H
      go_enter Tryd.func7, Tryd.ntmps7
      go_wp2_with (first | ((with_reducible refine gate_callee (f := 6) rfl ?_); refine goesL_ (some 10) rfl rfl Tryd.func6 (by kernel_rfl) rfl #[.int .i64 1, .int .i64 1, .bool true] rfl (by (try simp only [List.map_toArray, List.map_cons, List.map_nil]); first | done | rfl | (simp only [List.length_drop, List.length_take]; rfl)) ?_; (with_reducible refine (cippuslaw07_copies.calls 1 1 true t121 _ A1.out).mono ?_); rintro e w102 ⟨v122, rfl, ho0, hb⟩; refine ⟨_, rfl, ?_⟩; have n0_ := Aside0.mk (Kd.R_lower ho0 (below_size (by repeat (first | (with_reducible first | exact HB.out | apply below_alloc | apply pw_below_drewN | apply below_drew1) | exact HB.out)))); have n1_ := Aside0.mk (below_step (by repeat (first | (with_reducible first | exact HB.out | apply below_alloc | apply pw_below_drewN | apply below_drew1) | exact HB.out)) hb); clear HB; have HO123 := n0_; have HB := n1_; clear n0_ n1_; (try clear hb); (try clear hb2); (try clear hk); (try clear hi); (try clear ho0); obtain ⟨Ao103, co103, eo103⟩ := Kd.R_slice HO123.out; subst eo103) | ((with_reducible refine gate_callee (f := 9) rfl ?_); refine goesL_ (some 11) rfl rfl Tryd.func9 (by kernel_rfl) rfl #[.slice Ao103 t121.length co103] rfl (by (try simp only [List.map_toArray, List.map_cons, List.map_nil]); first | done | rfl | (simp only [List.length_drop, List.length_take]; rfl)) ?_; (with_reducible refine (stemma_Sources.calls k _ _ t121 t124 t127 _ ?side1 ?side2 A2.out).mono ?_); (case side1 => repeat (first | exact (Kd.R_reads' HO123.out).2.2 | (with_reducible refine Kd.C_alloc ?_ _) | (with_reducible refine Kd.C_drewN ?_ _) | (with_reducible refine Kd.C_drew ?_))); (case side2 => exact (Kd.R_reads' HO123.out).2.1); rintro e w104 ⟨v125, rfl, ho0, hb⟩; refine ⟨_, rfl, ?_⟩; have n0_ := Aside0.mk (Kd.R_below (by (with_reducible repeat (first | apply Kd.R_alloc | apply Kd.R_drewN | apply Kd.R_drew)); exact HO123.out) hb); have n1_ := Aside0.mk (Kd.N_lower (Kd.N_mono (ok' := fun k_ => some k_ ≠ (.slice Ao103 t121.length co103 : Value).ownBlock) ho0 (fun k_ hk_ => (Kd.fresh' (Kd.R_lt (by (with_reducible repeat (first | apply Kd.R_alloc | apply Kd.R_drewN | apply Kd.R_drew)); exact HO123.out)) k_ hk_))) (below_size (by repeat (first | (with_reducible first | exact HB.out | apply below_alloc | apply pw_below_drewN | apply below_drew1) | exact HB.out)))); have n2_ := Aside0.mk (below_step (by repeat (first | (with_reducible first | exact HB.out | apply below_alloc | apply pw_below_drewN | apply below_drew1) | exact HB.out)) hb); clear HO123; clear HB; have HO123 := n0_; have HO126 := n1_; have HB := n2_; clear n0_ n1_ n2_; (try clear hb); (try clear hb2); (try clear hk); (try clear hi); (try clear ho0)) | ((with_reducible refine gate_callee (f := 6) rfl ?_); refine goesL_ (some 15) rfl rfl Tryd.func6 (by kernel_rfl) rfl #[.int .i64 1, .int .i64 0, .bool true] rfl (by (try simp only [List.map_toArray, List.map_cons, List.map_nil]); first | done | rfl | (simp only [List.length_drop, List.length_take]; rfl)) ?_; (with_reducible refine (cippuslaw07_copies.calls 1 0 true t128 _ A3.out).mono ?_); rintro e w105 ⟨v129, rfl, ho0, hb⟩; refine ⟨_, rfl, ?_⟩; have n0_ := Aside0.mk (Kd.R_elder' (by (with_reducible repeat (first | apply Kd.R_alloc | apply Kd.R_drewN | apply Kd.R_drew)); exact HO123.out) (Kd.R_base ho0) hb); have n1_ := Aside0.mk (Kd.N_elder' (by (with_reducible repeat (first | apply Kd.N_alloc | apply Kd.N_drewN | apply Kd.N_drew)); exact HO126.out) (Kd.R_base ho0) hb); have n2_ := Aside0.mk (Kd.R_lower (Kd.R_new' ho0 (Kd.R_lt (by (with_reducible repeat (first | apply Kd.R_alloc | apply Kd.R_drewN | apply Kd.R_drew)); exact HO123.out))) (below_size (by repeat (first | (with_reducible first | exact HB.out | apply below_alloc | apply pw_below_drewN | apply below_drew1) | exact HB.out)))); have n3_ := Aside0.mk (below_step (by repeat (first | (with_reducible first | exact HB.out | apply below_alloc | apply pw_below_drewN | apply below_drew1) | exact HB.out)) hb); clear HO123; clear HO126; clear HB; have HO123 := n0_; have HO126 := n1_; have HO130 := n2_; have HB := n3_; clear n0_ n1_ n2_ n3_; (try clear hb); (try clear hb2); (try clear hk); (try clear hi); (try clear ho0); obtain ⟨Ao106, co106, eo106⟩ := Kd.R_slice HO130.out; subst eo106) | ((with_reducible refine gate_callee (f := 13) rfl ?_); refine goesL_ (some 16) rfl rfl Tryd.func13 (by kernel_rfl) rfl #[.slice Ao106 t128.length co106] rfl (by (try simp only [List.map_toArray, List.map_cons, List.map_nil]); first | done | rfl | (simp only [List.length_drop, List.length_take]; rfl)) ?_; (with_reducible refine (stemma_Print.calls k _ _ t128 t131 t132 _ ?side1 ?side2 A4.out).mono ?_); (case side1 => repeat (first | exact (Kd.R_reads' HO130.out).2.2 | (with_reducible refine Kd.C_alloc ?_ _) | (with_reducible refine Kd.C_drewN ?_ _) | (with_reducible refine Kd.C_drew ?_))); (case side2 => exact (Kd.R_reads' HO130.out).2.1); rintro e w107 ⟨rfl, hb⟩; refine ⟨_, rfl, ?_⟩; have n0_ := Aside0.mk (Kd.R_below (by (with_reducible repeat (first | apply Kd.R_alloc | apply Kd.R_drewN | apply Kd.R_drew)); exact HO123.out) hb); have n1_ := Aside0.mk (Kd.N_below (by (with_reducible repeat (first | apply Kd.N_alloc | apply Kd.N_drewN | apply Kd.N_drew)); exact HO126.out) hb); have n2_ := Aside0.mk (Kd.R_below (by (with_reducible repeat (first | apply Kd.R_alloc | apply Kd.R_drewN | apply Kd.R_drew)); exact HO130.out) hb); have n3_ := Aside0.mk (below_step (by repeat (first | (with_reducible first | exact HB.out | apply below_alloc | apply pw_below_drewN | apply below_drew1) | exact HB.out)) hb); clear HO123; clear HO126; clear HO130; clear HB; have HO123 := n0_; have HO126 := n1_; have HO130 := n2_; have HB := n3_; clear n0_ n1_ n2_ n3_; (try clear hb); (try clear hb2); (try clear hk); (try clear hi)) | ((with_reducible refine gate_callee (f := 6) rfl ?_); refine goesL_ (some 20) rfl rfl Tryd.func6 (by kernel_rfl) rfl #[.int .i64 0, .int .i64 1, .bool true] rfl (by (try simp only [List.map_toArray, List.map_cons, List.map_nil]); first | done | rfl | (simp only [List.length_drop, List.length_take]; rfl)) ?_; (with_reducible refine (cippuslaw07_copies.calls 0 1 true t133 _ A5.out).mono ?_); rintro e w108 ⟨v134, rfl, ho0, hb⟩; refine ⟨_, rfl, ?_⟩; have n0_ := Aside0.mk (Kd.R_elder' (by (with_reducible repeat (first | apply Kd.R_alloc | apply Kd.R_drewN | apply Kd.R_drew)); exact HO123.out) (Kd.R_base ho0) hb); have n1_ := Aside0.mk (Kd.N_elder' (by (with_reducible repeat (first | apply Kd.N_alloc | apply Kd.N_drewN | apply Kd.N_drew)); exact HO126.out) (Kd.R_base ho0) hb); have n2_ := Aside0.mk (Kd.R_elder' (by (with_reducible repeat (first | apply Kd.R_alloc | apply Kd.R_drewN | apply Kd.R_drew)); exact HO130.out) (Kd.R_base ho0) hb); have n3_ := Aside0.mk (Kd.R_lower (Kd.R_new' (Kd.R_new' ho0 (Kd.R_lt (by (with_reducible repeat (first | apply Kd.R_alloc | apply Kd.R_drewN | apply Kd.R_drew)); exact HO123.out))) (Kd.R_lt (by (with_reducible repeat (first | apply Kd.R_alloc | apply Kd.R_drewN | apply Kd.R_drew)); exact HO130.out))) (below_size (by repeat (first | (with_reducible first | exact HB.out | apply below_alloc | apply pw_below_drewN | apply below_drew1) | exact HB.out)))); have n4_ := Aside0.mk (below_step (by repeat (first | (with_reducible first | exact HB.out | apply below_alloc | apply pw_below_drewN | apply below_drew1) | exact HB.out)) hb); clear HO123; clear HO126; clear HO130; clear HB; have HO123 := n0_; have HO126 := n1_; have HO130 := n2_; have HO135 := n3_; have HB := n4_; clear n0_ n1_ n2_ n3_ n4_; (try clear hb); (try clear hb2); (try clear hk); (try clear hi); (try clear ho0); obtain ⟨Ao109, co109, eo109⟩ := Kd.R_slice HO135.out; subst eo109) | ((with_reducible refine gate_callee (f := 13) rfl ?_); refine goesL_ (some 21) rfl rfl Tryd.func13 (by kernel_rfl) rfl #[.slice Ao109 t133.length co109] rfl (by (try simp only [List.map_toArray, List.map_cons, List.map_nil]); first | done | rfl | (simp only [List.length_drop, List.length_take]; rfl)) ?_; (with_reducible refine (stemma_Print.calls k _ _ t133 t136 t137 _ ?side1 ?side2 A6.out).mono ?_); (case side1 => repeat (first | exact (Kd.R_reads' HO135.out).2.2 | (with_reducible refine Kd.C_alloc ?_ _) | (with_reducible refine Kd.C_drewN ?_ _) | (with_reducible refine Kd.C_drew ?_))); (case side2 => exact (Kd.R_reads' HO135.out).2.1); rintro e w110 ⟨rfl, hb⟩; refine ⟨_, rfl, ?_⟩; have n0_ := Aside0.mk (Kd.R_below (by (with_reducible repeat (first | apply Kd.R_alloc | apply Kd.R_drewN | apply Kd.R_drew)); exact HO123.out) hb); have n1_ := Aside0.mk (Kd.N_below (by (with_reducible repeat (first | apply Kd.N_alloc | apply Kd.N_drewN | apply Kd.N_drew)); exact HO126.out) hb); have n2_ := Aside0.mk (Kd.R_below (by (with_reducible repeat (first | apply Kd.R_alloc | apply Kd.R_drewN | apply Kd.R_drew)); exact HO130.out) hb); have n3_ := Aside0.mk (Kd.R_below (by (with_reducible repeat (first | apply Kd.R_alloc | apply Kd.R_drewN | apply Kd.R_drew)); exact HO135.out) hb); have n4_ := Aside0.mk (below_step (by repeat (first | (with_reducible first | exact HB.out | apply below_alloc | apply pw_below_drewN | apply below_drew1) | exact HB.out)) hb); clear HO123; clear HO126; clear HO130; clear HO135; clear HB; have HO123 := n0_; have HO126 := n1_; have HO130 := n2_; have HO135 := n3_; have HB := n4_; clear n0_ n1_ n2_ n3_ n4_; (try clear hb); (try clear hb2); (try clear hk); (try clear hi)) | ((with_reducible refine gate_callee (f := 6) rfl ?_); refine goesL_ (some 25) rfl rfl Tryd.func6 (by kernel_rfl) rfl #[.int .i64 1, .int .i64 0, .bool true] rfl (by (try simp only [List.map_toArray, List.map_cons, List.map_nil]); first | done | rfl | (simp only [List.length_drop, List.length_take]; rfl)) ?_; (with_reducible refine (cippuslaw07_copies.calls 1 0 true t138 _ A7.out).mono ?_); rintro e w111 ⟨v139, rfl, ho0, hb⟩; refine ⟨_, rfl, ?_⟩; have n0_ := Aside0.mk (Kd.R_elder' (by (with_reducible repeat (first | apply Kd.R_alloc | apply Kd.R_drewN | apply Kd.R_drew)); exact HO123.out) (Kd.R_base ho0) hb); have n1_ := Aside0.mk (Kd.N_elder' (by (with_reducible repeat (first | apply Kd.N_alloc | apply Kd.N_drewN | apply Kd.N_drew)); exact HO126.out) (Kd.R_base ho0) hb); have n2_ := Aside0.mk (Kd.R_elder' (by (with_reducible repeat (first | apply Kd.R_alloc | apply Kd.R_drewN | apply Kd.R_drew)); exact HO130.out) (Kd.R_base ho0) hb); have n3_ := Aside0.mk (Kd.R_elder' (by (with_reducible repeat (first | apply Kd.R_alloc | apply Kd.R_drewN | apply Kd.R_drew)); exact HO135.out) (Kd.R_base ho0) hb); have n4_ := Aside0.mk (Kd.R_lower (Kd.R_new' (Kd.R_new' (Kd.R_new' ho0 (Kd.R_lt (by (with_reducible repeat (first | apply Kd.R_alloc | apply Kd.R_drewN | apply Kd.R_drew)); exact HO123.out))) (Kd.R_lt (by (with_reducible repeat (first | apply Kd.R_alloc | apply Kd.R_drewN | apply Kd.R_drew)); exact HO130.out))) (Kd.R_lt (by (with_reducible repeat (first | apply Kd.R_alloc | apply Kd.R_drewN | apply Kd.R_drew)); exact HO135.out))) (below_size (by repeat (first | (with_reducible first | exact HB.out | apply below_alloc | apply pw_below_drewN | apply below_drew1) | exact HB.out)))); have n5_ := Aside0.mk (below_step (by repeat (first | (with_reducible first | exact HB.out | apply below_alloc | apply pw_below_drewN | apply below_drew1) | exact HB.out)) hb); clear HO123; clear HO126; clear HO130; clear HO135; clear HB; have HO123 := n0_; have HO126 := n1_; have HO130 := n2_; have HO135 := n3_; have HO140 := n4_; have HB := n5_; clear n0_ n1_ n2_ n3_ n4_ n5_; (try clear hb); (try clear hb2); (try clear hk); (try clear hi); (try clear ho0); obtain ⟨Ao112, co112, eo112⟩ := Kd.R_slice HO140.out; subst eo112) | ((with_reducible refine gate_callee (f := 14) rfl ?_); refine goesL_ (some 26) rfl rfl Tryd.func14 (by kernel_rfl) rfl #[.slice Ao112 t138.length co112] rfl (by (try simp only [List.map_toArray, List.map_cons, List.map_nil]); first | done | rfl | (simp only [List.length_drop, List.length_take]; rfl)) ?_; (with_reducible refine (stemma_Fewest.calls k _ _ t138 t141 t142 _ ?side1 ?side2 A8.out).mono ?_); (case side1 => repeat (first | exact (Kd.R_reads' HO140.out).2.2 | (with_reducible refine Kd.C_alloc ?_ _) | (with_reducible refine Kd.C_drewN ?_ _) | (with_reducible refine Kd.C_drew ?_))); (case side2 => exact (Kd.R_reads' HO140.out).2.1); rintro e w113 ⟨rfl, hb⟩; refine ⟨_, rfl, ?_⟩; have n0_ := Aside0.mk (Kd.R_below (by (with_reducible repeat (first | apply Kd.R_alloc | apply Kd.R_drewN | apply Kd.R_drew)); exact HO123.out) hb); have n1_ := Aside0.mk (Kd.N_below (by (with_reducible repeat (first | apply Kd.N_alloc | apply Kd.N_drewN | apply Kd.N_drew)); exact HO126.out) hb); have n2_ := Aside0.mk (Kd.R_below (by (with_reducible repeat (first | apply Kd.R_alloc | apply Kd.R_drewN | apply Kd.R_drew)); exact HO130.out) hb); have n3_ := Aside0.mk (Kd.R_below (by (with_reducible repeat (first | apply Kd.R_alloc | apply Kd.R_drewN | apply Kd.R_drew)); exact HO135.out) hb); have n4_ := Aside0.mk (Kd.R_below (by (with_reducible repeat (first | apply Kd.R_alloc | apply Kd.R_drewN | apply Kd.R_drew)); exact HO140.out) hb); have n5_ := Aside0.mk (below_step (by repeat (first | (with_reducible first | exact HB.out | apply below_alloc | apply pw_below_drewN | apply below_drew1) | exact HB.out)) hb); clear HO123; clear HO126; clear HO130; clear HO135; clear HO140; clear HB; have HO123 := n0_; have HO126 := n1_; have HO130 := n2_; have HO135 := n3_; have HO140 := n4_; have HB := n5_; clear n0_ n1_ n2_ n3_ n4_ n5_; (try clear hb); (try clear hb2); (try clear hk); (try clear hi)))
      go_ret
      exact ⟨by first | rfl | (simp [errW_none, errW_some] <;> rfl) | (simp [*, errW_none, errW_some] <;> rfl), by repeat (first | (with_reducible first | exact HB.out | apply below_alloc | apply pw_below_drewN | apply below_drew1) | exact HB.out)⟩
  · rw [if_neg c9] at H
    have c9b0 : (t127 == 0) = false := beq_eq_false_iff_ne.mpr c9
    have c9b1 : (t127 != 0) = true := bne_iff_ne.mpr c9
    obtain rfl := Option.some.inj H
    go_enter Tryd.func7, Tryd.ntmps7
    go_wp2_with (first | ((with_reducible refine gate_callee (f := 6) rfl ?_); refine goesL_ (some 10) rfl rfl Tryd.func6 (by kernel_rfl) rfl #[.int .i64 1, .int .i64 1, .bool true] rfl (by (try simp only [List.map_toArray, List.map_cons, List.map_nil]); first | done | rfl | (simp only [List.length_drop, List.length_take]; rfl)) ?_; (with_reducible refine (cippuslaw07_copies.calls 1 1 true t121 _ A1.out).mono ?_); rintro e w114 ⟨v122, rfl, ho0, hb⟩; refine ⟨_, rfl, ?_⟩; have n0_ := Aside0.mk (Kd.R_lower ho0 (below_size (by repeat (first | (with_reducible first | exact HB.out | apply below_alloc | apply pw_below_drewN | apply below_drew1) | exact HB.out)))); have n1_ := Aside0.mk (below_step (by repeat (first | (with_reducible first | exact HB.out | apply below_alloc | apply pw_below_drewN | apply below_drew1) | exact HB.out)) hb); clear HB; have HO123 := n0_; have HB := n1_; clear n0_ n1_; (try clear hb); (try clear hb2); (try clear hk); (try clear hi); (try clear ho0); obtain ⟨Ao115, co115, eo115⟩ := Kd.R_slice HO123.out; subst eo115) | ((with_reducible refine gate_callee (f := 9) rfl ?_); refine goesL_ (some 11) rfl rfl Tryd.func9 (by kernel_rfl) rfl #[.slice Ao115 t121.length co115] rfl (by (try simp only [List.map_toArray, List.map_cons, List.map_nil]); first | done | rfl | (simp only [List.length_drop, List.length_take]; rfl)) ?_; (with_reducible refine (stemma_Sources.calls k _ _ t121 t124 t127 _ ?side1 ?side2 A2.out).mono ?_); (case side1 => repeat (first | exact (Kd.R_reads' HO123.out).2.2 | (with_reducible refine Kd.C_alloc ?_ _) | (with_reducible refine Kd.C_drewN ?_ _) | (with_reducible refine Kd.C_drew ?_))); (case side2 => exact (Kd.R_reads' HO123.out).2.1); rintro e w116 ⟨v125, rfl, ho0, hb⟩; refine ⟨_, rfl, ?_⟩; have n0_ := Aside0.mk (Kd.R_below (by (with_reducible repeat (first | apply Kd.R_alloc | apply Kd.R_drewN | apply Kd.R_drew)); exact HO123.out) hb); have n1_ := Aside0.mk (Kd.N_lower (Kd.N_mono (ok' := fun k_ => some k_ ≠ (.slice Ao115 t121.length co115 : Value).ownBlock) ho0 (fun k_ hk_ => (Kd.fresh' (Kd.R_lt (by (with_reducible repeat (first | apply Kd.R_alloc | apply Kd.R_drewN | apply Kd.R_drew)); exact HO123.out)) k_ hk_))) (below_size (by repeat (first | (with_reducible first | exact HB.out | apply below_alloc | apply pw_below_drewN | apply below_drew1) | exact HB.out)))); have n2_ := Aside0.mk (below_step (by repeat (first | (with_reducible first | exact HB.out | apply below_alloc | apply pw_below_drewN | apply below_drew1) | exact HB.out)) hb); clear HO123; clear HB; have HO123 := n0_; have HO126 := n1_; have HB := n2_; clear n0_ n1_ n2_; (try clear hb); (try clear hb2); (try clear hk); (try clear hi); (try clear ho0)) | ((with_reducible refine gate_callee (f := 6) rfl ?_); refine goesL_ (some 15) rfl rfl Tryd.func6 (by kernel_rfl) rfl #[.int .i64 1, .int .i64 0, .bool true] rfl (by (try simp only [List.map_toArray, List.map_cons, List.map_nil]); first | done | rfl | (simp only [List.length_drop, List.length_take]; rfl)) ?_; (with_reducible refine (cippuslaw07_copies.calls 1 0 true t128 _ A3.out).mono ?_); rintro e w117 ⟨v129, rfl, ho0, hb⟩; refine ⟨_, rfl, ?_⟩; have n0_ := Aside0.mk (Kd.R_elder' (by (with_reducible repeat (first | apply Kd.R_alloc | apply Kd.R_drewN | apply Kd.R_drew)); exact HO123.out) (Kd.R_base ho0) hb); have n1_ := Aside0.mk (Kd.N_elder' (by (with_reducible repeat (first | apply Kd.N_alloc | apply Kd.N_drewN | apply Kd.N_drew)); exact HO126.out) (Kd.R_base ho0) hb); have n2_ := Aside0.mk (Kd.R_lower (Kd.R_new' ho0 (Kd.R_lt (by (with_reducible repeat (first | apply Kd.R_alloc | apply Kd.R_drewN | apply Kd.R_drew)); exact HO123.out))) (below_size (by repeat (first | (with_reducible first | exact HB.out | apply below_alloc | apply pw_below_drewN | apply below_drew1) | exact HB.out)))); have n3_ := Aside0.mk (below_step (by repeat (first | (with_reducible first | exact HB.out | apply below_alloc | apply pw_below_drewN | apply below_drew1) | exact HB.out)) hb); clear HO123; clear HO126; clear HB; have HO123 := n0_; have HO126 := n1_; have HO130 := n2_; have HB := n3_; clear n0_ n1_ n2_ n3_; (try clear hb); (try clear hb2); (try clear hk); (try clear hi); (try clear ho0); obtain ⟨Ao118, co118, eo118⟩ := Kd.R_slice HO130.out; subst eo118) | ((with_reducible refine gate_callee (f := 13) rfl ?_); refine goesL_ (some 16) rfl rfl Tryd.func13 (by kernel_rfl) rfl #[.slice Ao118 t128.length co118] rfl (by (try simp only [List.map_toArray, List.map_cons, List.map_nil]); first | done | rfl | (simp only [List.length_drop, List.length_take]; rfl)) ?_; (with_reducible refine (stemma_Print.calls k _ _ t128 t131 t132 _ ?side1 ?side2 A4.out).mono ?_); (case side1 => repeat (first | exact (Kd.R_reads' HO130.out).2.2 | (with_reducible refine Kd.C_alloc ?_ _) | (with_reducible refine Kd.C_drewN ?_ _) | (with_reducible refine Kd.C_drew ?_))); (case side2 => exact (Kd.R_reads' HO130.out).2.1); rintro e w119 ⟨rfl, hb⟩; refine ⟨_, rfl, ?_⟩; have n0_ := Aside0.mk (Kd.R_below (by (with_reducible repeat (first | apply Kd.R_alloc | apply Kd.R_drewN | apply Kd.R_drew)); exact HO123.out) hb); have n1_ := Aside0.mk (Kd.N_below (by (with_reducible repeat (first | apply Kd.N_alloc | apply Kd.N_drewN | apply Kd.N_drew)); exact HO126.out) hb); have n2_ := Aside0.mk (Kd.R_below (by (with_reducible repeat (first | apply Kd.R_alloc | apply Kd.R_drewN | apply Kd.R_drew)); exact HO130.out) hb); have n3_ := Aside0.mk (below_step (by repeat (first | (with_reducible first | exact HB.out | apply below_alloc | apply pw_below_drewN | apply below_drew1) | exact HB.out)) hb); clear HO123; clear HO126; clear HO130; clear HB; have HO123 := n0_; have HO126 := n1_; have HO130 := n2_; have HB := n3_; clear n0_ n1_ n2_ n3_; (try clear hb); (try clear hb2); (try clear hk); (try clear hi)) | ((with_reducible refine gate_callee (f := 6) rfl ?_); refine goesL_ (some 20) rfl rfl Tryd.func6 (by kernel_rfl) rfl #[.int .i64 0, .int .i64 1, .bool true] rfl (by (try simp only [List.map_toArray, List.map_cons, List.map_nil]); first | done | rfl | (simp only [List.length_drop, List.length_take]; rfl)) ?_; (with_reducible refine (cippuslaw07_copies.calls 0 1 true t133 _ A5.out).mono ?_); rintro e w120 ⟨v134, rfl, ho0, hb⟩; refine ⟨_, rfl, ?_⟩; have n0_ := Aside0.mk (Kd.R_elder' (by (with_reducible repeat (first | apply Kd.R_alloc | apply Kd.R_drewN | apply Kd.R_drew)); exact HO123.out) (Kd.R_base ho0) hb); have n1_ := Aside0.mk (Kd.N_elder' (by (with_reducible repeat (first | apply Kd.N_alloc | apply Kd.N_drewN | apply Kd.N_drew)); exact HO126.out) (Kd.R_base ho0) hb); have n2_ := Aside0.mk (Kd.R_elder' (by (with_reducible repeat (first | apply Kd.R_alloc | apply Kd.R_drewN | apply Kd.R_drew)); exact HO130.out) (Kd.R_base ho0) hb); have n3_ := Aside0.mk (Kd.R_lower (Kd.R_new' (Kd.R_new' ho0 (Kd.R_lt (by (with_reducible repeat (first | apply Kd.R_alloc | apply Kd.R_drewN | apply Kd.R_drew)); exact HO123.out))) (Kd.R_lt (by (with_reducible repeat (first | apply Kd.R_alloc | apply Kd.R_drewN | apply Kd.R_drew)); exact HO130.out))) (below_size (by repeat (first | (with_reducible first | exact HB.out | apply below_alloc | apply pw_below_drewN | apply below_drew1) | exact HB.out)))); have n4_ := Aside0.mk (below_step (by repeat (first | (with_reducible first | exact HB.out | apply below_alloc | apply pw_below_drewN | apply below_drew1) | exact HB.out)) hb); clear HO123; clear HO126; clear HO130; clear HB; have HO123 := n0_; have HO126 := n1_; have HO130 := n2_; have HO135 := n3_; have HB := n4_; clear n0_ n1_ n2_ n3_ n4_; (try clear hb); (try clear hb2); (try clear hk); (try clear hi); (try clear ho0); obtain ⟨Ao121, co121, eo121⟩ := Kd.R_slice HO135.out; subst eo121) | ((with_reducible refine gate_callee (f := 13) rfl ?_); refine goesL_ (some 21) rfl rfl Tryd.func13 (by kernel_rfl) rfl #[.slice Ao121 t133.length co121] rfl (by (try simp only [List.map_toArray, List.map_cons, List.map_nil]); first | done | rfl | (simp only [List.length_drop, List.length_take]; rfl)) ?_; (with_reducible refine (stemma_Print.calls k _ _ t133 t136 t137 _ ?side1 ?side2 A6.out).mono ?_); (case side1 => repeat (first | exact (Kd.R_reads' HO135.out).2.2 | (with_reducible refine Kd.C_alloc ?_ _) | (with_reducible refine Kd.C_drewN ?_ _) | (with_reducible refine Kd.C_drew ?_))); (case side2 => exact (Kd.R_reads' HO135.out).2.1); rintro e w122 ⟨rfl, hb⟩; refine ⟨_, rfl, ?_⟩; have n0_ := Aside0.mk (Kd.R_below (by (with_reducible repeat (first | apply Kd.R_alloc | apply Kd.R_drewN | apply Kd.R_drew)); exact HO123.out) hb); have n1_ := Aside0.mk (Kd.N_below (by (with_reducible repeat (first | apply Kd.N_alloc | apply Kd.N_drewN | apply Kd.N_drew)); exact HO126.out) hb); have n2_ := Aside0.mk (Kd.R_below (by (with_reducible repeat (first | apply Kd.R_alloc | apply Kd.R_drewN | apply Kd.R_drew)); exact HO130.out) hb); have n3_ := Aside0.mk (Kd.R_below (by (with_reducible repeat (first | apply Kd.R_alloc | apply Kd.R_drewN | apply Kd.R_drew)); exact HO135.out) hb); have n4_ := Aside0.mk (below_step (by repeat (first | (with_reducible first | exact HB.out | apply below_alloc | apply pw_below_drewN | apply below_drew1) | exact HB.out)) hb); clear HO123; clear HO126; clear HO130; clear HO135; clear HB; have HO123 := n0_; have HO126 := n1_; have HO130 := n2_; have HO135 := n3_; have HB := n4_; clear n0_ n1_ n2_ n3_ n4_; (try clear hb); (try clear hb2); (try clear hk); (try clear hi)) | ((with_reducible refine gate_callee (f := 6) rfl ?_); refine goesL_ (some 25) rfl rfl Tryd.func6 (by kernel_rfl) rfl #[.int .i64 1, .int .i64 0, .bool true] rfl (by (try simp only [List.map_toArray, List.map_cons, List.map_nil]); first | done | rfl | (simp only [List.length_drop, List.length_take]; rfl)) ?_; (with_reducible refine (cippuslaw07_copies.calls 1 0 true t138 _ A7.out).mono ?_); rintro e w123 ⟨v139, rfl, ho0, hb⟩; refine ⟨_, rfl, ?_⟩; have n0_ := Aside0.mk (Kd.R_elder' (by (with_reducible repeat (first | apply Kd.R_alloc | apply Kd.R_drewN | apply Kd.R_drew)); exact HO123.out) (Kd.R_base ho0) hb); have n1_ := Aside0.mk (Kd.N_elder' (by (with_reducible repeat (first | apply Kd.N_alloc | apply Kd.N_drewN | apply Kd.N_drew)); exact HO126.out) (Kd.R_base ho0) hb); have n2_ := Aside0.mk (Kd.R_elder' (by (with_reducible repeat (first | apply Kd.R_alloc | apply Kd.R_drewN | apply Kd.R_drew)); exact HO130.out) (Kd.R_base ho0) hb); have n3_ := Aside0.mk (Kd.R_elder' (by (with_reducible repeat (first | apply Kd.R_alloc | apply Kd.R_drewN | apply Kd.R_drew)); exact HO135.out) (Kd.R_base ho0) hb); have n4_ := Aside0.mk (Kd.R_lower (Kd.R_new' (Kd.R_new' (Kd.R_new' ho0 (Kd.R_lt (by (with_reducible repeat (first | apply Kd.R_alloc | apply Kd.R_drewN | apply Kd.R_drew)); exact HO123.out))) (Kd.R_lt (by (with_reducible repeat (first | apply Kd.R_alloc | apply Kd.R_drewN | apply Kd.R_drew)); exact HO130.out))) (Kd.R_lt (by (with_reducible repeat (first | apply Kd.R_alloc | apply Kd.R_drewN | apply Kd.R_drew)); exact HO135.out))) (below_size (by repeat (first | (with_reducible first | exact HB.out | apply below_alloc | apply pw_below_drewN | apply below_drew1) | exact HB.out)))); have n5_ := Aside0.mk (below_step (by repeat (first | (with_reducible first | exact HB.out | apply below_alloc | apply pw_below_drewN | apply below_drew1) | exact HB.out)) hb); clear HO123; clear HO126; clear HO130; clear HO135; clear HB; have HO123 := n0_; have HO126 := n1_; have HO130 := n2_; have HO135 := n3_; have HO140 := n4_; have HB := n5_; clear n0_ n1_ n2_ n3_ n4_ n5_; (try clear hb); (try clear hb2); (try clear hk); (try clear hi); (try clear ho0); obtain ⟨Ao124, co124, eo124⟩ := Kd.R_slice HO140.out; subst eo124) | ((with_reducible refine gate_callee (f := 14) rfl ?_); refine goesL_ (some 26) rfl rfl Tryd.func14 (by kernel_rfl) rfl #[.slice Ao124 t138.length co124] rfl (by (try simp only [List.map_toArray, List.map_cons, List.map_nil]); first | done | rfl | (simp only [List.length_drop, List.length_take]; rfl)) ?_; (with_reducible refine (stemma_Fewest.calls k _ _ t138 t141 t142 _ ?side1 ?side2 A8.out).mono ?_); (case side1 => repeat (first | exact (Kd.R_reads' HO140.out).2.2 | (with_reducible refine Kd.C_alloc ?_ _) | (with_reducible refine Kd.C_drewN ?_ _) | (with_reducible refine Kd.C_drew ?_))); (case side2 => exact (Kd.R_reads' HO140.out).2.1); rintro e w125 ⟨rfl, hb⟩; refine ⟨_, rfl, ?_⟩; have n0_ := Aside0.mk (Kd.R_below (by (with_reducible repeat (first | apply Kd.R_alloc | apply Kd.R_drewN | apply Kd.R_drew)); exact HO123.out) hb); have n1_ := Aside0.mk (Kd.N_below (by (with_reducible repeat (first | apply Kd.N_alloc | apply Kd.N_drewN | apply Kd.N_drew)); exact HO126.out) hb); have n2_ := Aside0.mk (Kd.R_below (by (with_reducible repeat (first | apply Kd.R_alloc | apply Kd.R_drewN | apply Kd.R_drew)); exact HO130.out) hb); have n3_ := Aside0.mk (Kd.R_below (by (with_reducible repeat (first | apply Kd.R_alloc | apply Kd.R_drewN | apply Kd.R_drew)); exact HO135.out) hb); have n4_ := Aside0.mk (Kd.R_below (by (with_reducible repeat (first | apply Kd.R_alloc | apply Kd.R_drewN | apply Kd.R_drew)); exact HO140.out) hb); have n5_ := Aside0.mk (below_step (by repeat (first | (with_reducible first | exact HB.out | apply below_alloc | apply pw_below_drewN | apply below_drew1) | exact HB.out)) hb); clear HO123; clear HO126; clear HO130; clear HO135; clear HO140; clear HB; have HO123 := n0_; have HO126 := n1_; have HO130 := n2_; have HO135 := n3_; have HO140 := n4_; have HB := n5_; clear n0_ n1_ n2_ n3_ n4_ n5_; (try clear hb); (try clear hb2); (try clear hk); (try clear hi)))
    go_ret
    exact ⟨by first | rfl | (simp [errW_none, errW_some] <;> rfl) | (simp [*, errW_none, errW_some] <;> rfl), by repeat (first | (with_reducible first | exact HB.out | apply below_alloc | apply pw_below_drewN | apply below_drew1) | exact HB.out)⟩
end Go.Proofs.YtecdjnabmjhakaaDoor.P
namespace Go.Proofs
open Go.Shelf
def Tryd.lays171_ren : Go.Shelf.Ren := ⟨fun | 171 => 37 | 243 => 58 | 246 => 63 | 283 => 67 | 284 => 68 | 285 => 69 | 286 => 70 | 129 => 76 | 317 => 75 | 318 => 77 | 319 => 78 | 320 => 79 | 337 => 85 | 338 => 86 | n => n, fun | 3 => 3 | 9 => 9 | 2 => 2 | 4 => 4 | 171 => 118 | 0 => 0 | 53 => 85 | 37 => 82 | 5 => 5 | 173 => 121 | 212 => 128 | 51 => 67 | 20 => 20 | 213 => 129 | 46 => 110 | 232 => 138 | 233 => 139 | n => n, fun | 17 => 0 | 18 => 4 | 19 => 5 | n => n⟩
theorem Tryd.lays171 : Go.Proofs.Lays.n171 Tryd.prog Tryd.lays171_ren := {
  mixed := by kernel_rfl
  f129 := Tryd.func76.trans (congrArg some (by kernel_rfl))
  f171 := Tryd.func37.trans (congrArg some (by kernel_rfl))
  f243 := Tryd.func58.trans (congrArg some (by kernel_rfl))
  f246 := Tryd.func63.trans (congrArg some (by kernel_rfl))
  f283 := Tryd.func67.trans (congrArg some (by kernel_rfl))
  f284 := Tryd.func68.trans (congrArg some (by kernel_rfl))
  f285 := Tryd.func69.trans (congrArg some (by kernel_rfl))
  f286 := Tryd.func70.trans (congrArg some (by kernel_rfl))
  f317 := Tryd.func75.trans (congrArg some (by kernel_rfl))
  f318 := Tryd.func77.trans (congrArg some (by kernel_rfl))
  f319 := Tryd.func78.trans (congrArg some (by kernel_rfl))
  f320 := Tryd.func79.trans (congrArg some (by kernel_rfl))
  f337 := Tryd.func85.trans (congrArg some (by kernel_rfl))
  f338 := Tryd.func86.trans (congrArg some (by kernel_rfl))
  t0 := Tryd.underlying0
  a0 := Tryd.isAgg0
  z0 := Tryd.sizeOf0
  v0 := Tryd.zeroValue0
  t2 := Tryd.underlying2
  a2 := Tryd.isAgg2
  z2 := Tryd.sizeOf2
  v2 := Tryd.zeroValue2
  t3 := Tryd.underlying3
  a3 := Tryd.isAgg3
  z3 := Tryd.sizeOf3
  v3 := Tryd.zeroValue3
  t4 := Tryd.underlying4
  a4 := Tryd.isAgg4
  z4 := Tryd.sizeOf4
  v4 := Tryd.zeroValue4
  t5 := Tryd.underlying5
  a5 := Tryd.isAgg5
  z5 := Tryd.sizeOf5
  v5 := Tryd.zeroValue5
  t9 := Tryd.underlying9
  a9 := Tryd.isAgg9
  z9 := Tryd.sizeOf9
  v9 := Tryd.zeroValue9
  t20 := Tryd.underlying20
  a20 := Tryd.isAgg20
  z20 := Tryd.sizeOf20
  v20 := Tryd.zeroValue20
  t37 := Tryd.underlying82
  a37 := Tryd.isAgg82
  z37 := Tryd.sizeOf82
  v37 := Tryd.zeroValue82
  t46 := Tryd.underlying110
  a46 := Tryd.isAgg110
  z46 := Tryd.sizeOf110
  v46 := Tryd.zeroValue110
  t51 := Tryd.underlying67
  a51 := Tryd.isAgg67
  z51 := Tryd.sizeOf67
  v51 := Tryd.zeroValue67
  t53 := Tryd.underlying85
  a53 := Tryd.isAgg85
  z53 := Tryd.sizeOf85
  v53 := Tryd.zeroValue85
  t171 := Tryd.underlying118
  a171 := Tryd.isAgg118
  z171 := Tryd.sizeOf118
  v171 := Tryd.zeroValue118
  t173 := Tryd.underlying121
  a173 := Tryd.isAgg121
  z173 := Tryd.sizeOf121
  v173 := Tryd.zeroValue121
  t212 := Tryd.underlying128
  a212 := Tryd.isAgg128
  z212 := Tryd.sizeOf128
  v212 := Tryd.zeroValue128
  t213 := Tryd.underlying129
  a213 := Tryd.isAgg129
  z213 := Tryd.sizeOf129
  t232 := Tryd.underlying138
  a232 := Tryd.isAgg138
  z232 := Tryd.sizeOf138
  v232 := Tryd.zeroValue138
  t233 := Tryd.underlying139
  a233 := Tryd.isAgg139
  z233 := Tryd.sizeOf139
  v233 := Tryd.zeroValue139
  g17 := by kernel_rfl
  g18 := by kernel_rfl
  g19 := by kernel_rfl }
open Go.RowKit Go.Sort Go.Lib in
theorem Tryd.strconv_Itoa_small (i : Nat) (hi : i < 100) (w : World) :
    Calls Tryd.prog 37 #[.int .i64 i] w fun e w' => e = .returned (.string ⟨(Lib.decDigits i).toArray⟩) ∧ w' = w := Any.strconv_Itoa_small Tryd.lays171 i hi w
end Go.Proofs
namespace Go.Proofs.YtecdjnabmjhakaaDoor.P
open Go.RowKit Go.Proofs.YtecdjnabmjhakaaDoorW.PrintWords Go.Proofs.YtecdjnabmjhakaaDoorW.PrintLast Go.Proofs.YtecdjnabmjhakaaDoorW.PrintMore
attribute [local go_sem] max2_int min2_int max_two min_two max_three min_three max_four min_four   -- for this text's walks alone
set_option linter.unusedVariables false
set_option linter.unusedSimpArgs false
def strconv_Itoa.f (a0 : Int) : Option ByteArray := if 0 ≤ a0 ∧ a0 < 100 then some ⟨(Lib.decDigits a0.toNat).toArray⟩ else none
theorem strconv_Itoa.calls (a0 : Int) (r1 : ByteArray) (w : World) (h : strconv_Itoa.f a0 = some r1) :
    Calls Tryd.prog 37 #[.int .i64 a0] w fun e w' => e = .returned (.string r1) ∧ Below w.heap.size w w' := by
  unfold strconv_Itoa.f at h
  split at h
  · rename_i hc
    obtain rfl := Option.some.inj h
    have h2 := Tryd.strconv_Itoa_small a0.toNat (by omega) w
    rw [show ((a0.toNat : Nat) : Int) = a0 by omega] at h2
    exact h2.mono fun e w' ⟨he, hw⟩ => ⟨he, hw ▸ Below.refl _ _⟩
  · cases h
end Go.Proofs.YtecdjnabmjhakaaDoor.P
