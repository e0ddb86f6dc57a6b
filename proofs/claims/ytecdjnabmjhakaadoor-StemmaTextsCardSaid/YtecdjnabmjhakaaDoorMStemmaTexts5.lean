/- Lemmas for the statement StemmaTexts of the given program, for every input that its row lets in. Conditions: none beyond those that each lemma tells. -/
import Derived.Shelf.Strings.Split
import Derived.KernelRfl
import Derived.Test.YtecdjnabmjhakaaDoorProg
import Derived.Test.YtecdjnabmjhakaaDoorMStemmaTexts4
set_option linter.unusedVariables false
set_option linter.unusedSimpArgs false
namespace Go.Proofs.YtecdjnabmjhakaaDoor.P
open Go.RowKit Go.Proofs.YtecdjnabmjhakaaDoorW.PrintWords Go.Proofs.YtecdjnabmjhakaaDoorW.PrintLast Go.Proofs.YtecdjnabmjhakaaDoorW.PrintMore
attribute [local go_sem] max2_int min2_int max_two min_two max_three min_three max_four min_four   -- for this text's walks alone
set_option linter.unusedVariables false
set_option linter.unusedSimpArgs false
def cippuskit_Marred.f (a0 : ByteArray) (a1 : Int) (a2 : Int) (a3 : Int) : Option (ByteArray) := if a0.toList = ([] : List UInt8) then (some (strOfNums (([a3] : List Int)))) else ((cippuskit_Wrap.f a1 (a0.size : Int)).bind fun t297 => ((cippuskit_Wrap.f a2 3).bind fun t298 => (if t298 = 0 then (if 0 ≤ t297 then (if t297 ≤ (a0.size : Int) then ((some (([a3] : List Int) : List Int)).bind fun y299 => (if (a0.extract 0 (t297 : Int).toNat).size + (strOfNums y299).size ≤ 9223372036854775807 then (if 0 ≤ (wrap64 (t297 + 1)) then (if (wrap64 (t297 + 1)) ≤ (a0.size : Int) then (if ((a0.extract 0 (t297 : Int).toNat) ++ (strOfNums y299)).size + (a0.extract ((wrap64 (t297 + 1)) : Int).toNat a0.size).size ≤ 9223372036854775807 then (some (((a0.extract 0 (t297 : Int).toNat) ++ (strOfNums y299)) ++ (a0.extract ((wrap64 (t297 + 1)) : Int).toNat a0.size))) else (none)) else (none)) else (none)) else (none))) else (none)) else (none)) else (if t298 = 1 then (if 0 ≤ t297 then (if t297 ≤ (a0.size : Int) then (if 0 ≤ (wrap64 (t297 + 1)) then (if (wrap64 (t297 + 1)) ≤ (a0.size : Int) then (if (a0.extract 0 (t297 : Int).toNat).size + (a0.extract ((wrap64 (t297 + 1)) : Int).toNat a0.size).size ≤ 9223372036854775807 then (some ((a0.extract 0 (t297 : Int).toNat) ++ (a0.extract ((wrap64 (t297 + 1)) : Int).toNat a0.size))) else (none)) else (none)) else (none)) else (none)) else (none)) else (if 0 ≤ t297 then (if t297 ≤ (a0.size : Int) then ((some (([a3] : List Int) : List Int)).bind fun y302 => (if (a0.extract 0 (t297 : Int).toNat).size + (strOfNums y302).size ≤ 9223372036854775807 then (if ((a0.extract 0 (t297 : Int).toNat) ++ (strOfNums y302)).size + (a0.extract (t297 : Int).toNat a0.size).size ≤ 9223372036854775807 then (some (((a0.extract 0 (t297 : Int).toNat) ++ (strOfNums y302)) ++ (a0.extract (t297 : Int).toNat a0.size))) else (none)) else (none))) else (none)) else (none))))))
def cippuskit_Marred.T6 : Bool × List (List Nat × List Nat) := (true, [([], []), ([], []), ([0, 1], [0, 1]), ([], []), ([3], [3]), ([4], [4]), ([2, 5], [2, 5]), ([], []), ([], []), ([8], [8]), ([7, 9], [7, 9]), ([6, 10], [6, 10]), ([11, 0, 1, 2, 3, 4, 5, 6, 7, 8, 9, 10, 11], [11])])
def cippuskit_Marred.B6 : List Nat := [0, 0, 3, 0, 8, 24, 63, 0, 0, 256, 896, 2047, 4095]
theorem cippuskit_Marred.tab6 : rtab .any (opsOf Tryd.f20 6) = cippuskit_Marred.T6 := by kernel_rfl
theorem cippuskit_Marred.bits6 : waitsOk cippuskit_Marred.T6.2 cippuskit_Marred.B6 = true := by kernel_rfl
def cippuskit_Marred.T8 : Bool × List (List Nat × List Nat) := (true, [([], []), ([], []), ([0, 1], [0, 1]), ([], []), ([], []), ([4], [4]), ([3, 5], [3, 5]), ([2, 6], [2, 6]), ([7, 0, 1, 2, 3, 4, 5, 6, 7], [7])])
def cippuskit_Marred.B8 : List Nat := [0, 0, 3, 0, 0, 16, 56, 127, 255]
theorem cippuskit_Marred.tab8 : rtab .any (opsOf Tryd.f20 8) = cippuskit_Marred.T8 := by kernel_rfl
theorem cippuskit_Marred.bits8 : waitsOk cippuskit_Marred.T8.2 cippuskit_Marred.B8 = true := by kernel_rfl
def cippuskit_Marred.T9 : Bool × List (List Nat × List Nat) := (true, [([], []), ([], []), ([0, 1], [0, 1]), ([], []), ([3], [3]), ([4], [4]), ([2, 5], [2, 5]), ([], []), ([], []), ([7, 8], [7, 8]), ([6, 9], [6, 9]), ([10, 0, 1, 2, 3, 4, 5, 6, 7, 8, 9, 10], [10])])
def cippuskit_Marred.B9 : List Nat := [0, 0, 3, 0, 8, 24, 63, 0, 0, 384, 1023, 2047]
theorem cippuskit_Marred.tab9 : rtab .any (opsOf Tryd.f20 9) = cippuskit_Marred.T9 := by kernel_rfl
theorem cippuskit_Marred.bits9 : waitsOk cippuskit_Marred.T9.2 cippuskit_Marred.B9 = true := by kernel_rfl
set_option maxHeartbeats 8000000 in
set_option maxRecDepth 100000 in
theorem cippuskit_Marred.calls (a0 : ByteArray) (a1 : Int) (a2 : Int) (a3 : Int) (r : ByteArray) (w : World) (h : cippuskit_Marred.f a0 a1 a2 a3 = some r) :
    Calls Tryd.prog 20 #[.string a0, .int .i64 a1, .int .i64 a2, .int .u8 a3] w fun e w' => e = .returned (.string r) ∧ Below w.heap.size w w' := by
  have HB := Aside0.mk (Below.refl w.heap.size w)
  have H : (if a0.toList = ([] : List UInt8) then (some (strOfNums (([a3] : List Int)))) else ((cippuskit_Wrap.f a1 (a0.size : Int)).bind fun t297 => ((cippuskit_Wrap.f a2 3).bind fun t298 => (if t298 = 0 then (if 0 ≤ t297 then (if t297 ≤ (a0.size : Int) then ((some (([a3] : List Int) : List Int)).bind fun y299 => (if (a0.extract 0 (t297 : Int).toNat).size + (strOfNums y299).size ≤ 9223372036854775807 then (if 0 ≤ (wrap64 (t297 + 1)) then (if (wrap64 (t297 + 1)) ≤ (a0.size : Int) then (if ((a0.extract 0 (t297 : Int).toNat) ++ (strOfNums y299)).size + (a0.extract ((wrap64 (t297 + 1)) : Int).toNat a0.size).size ≤ 9223372036854775807 then (some (((a0.extract 0 (t297 : Int).toNat) ++ (strOfNums y299)) ++ (a0.extract ((wrap64 (t297 + 1)) : Int).toNat a0.size))) else (none)) else (none)) else (none)) else (none))) else (none)) else (none)) else (if t298 = 1 then (if 0 ≤ t297 then (if t297 ≤ (a0.size : Int) then (if 0 ≤ (wrap64 (t297 + 1)) then (if (wrap64 (t297 + 1)) ≤ (a0.size : Int) then (if (a0.extract 0 (t297 : Int).toNat).size + (a0.extract ((wrap64 (t297 + 1)) : Int).toNat a0.size).size ≤ 9223372036854775807 then (some ((a0.extract 0 (t297 : Int).toNat) ++ (a0.extract ((wrap64 (t297 + 1)) : Int).toNat a0.size))) else (none)) else (none)) else (none)) else (none)) else (none)) else (if 0 ≤ t297 then (if t297 ≤ (a0.size : Int) then ((some (([a3] : List Int) : List Int)).bind fun y302 => (if (a0.extract 0 (t297 : Int).toNat).size + (strOfNums y302).size ≤ 9223372036854775807 then (if ((a0.extract 0 (t297 : Int).toNat) ++ (strOfNums y302)).size + (a0.extract (t297 : Int).toNat a0.size).size ≤ 9223372036854775807 then (some (((a0.extract 0 (t297 : Int).toNat) ++ (strOfNums y302)) ++ (a0.extract (t297 : Int).toNat a0.size))) else (none)) else (none))) else (none)) else (none))))))) = some r := h
  clear h
  by_cases c5 : a0.toList = ([] : List UInt8)
  · rw [if_pos c5] at H
    have c5b0 : (a0.toList == ([] : List UInt8)) = true := beq_iff_eq.mpr c5
    have c5b1 : (a0.toList != ([] : List UInt8)) = false := bne_eq_false_iff_eq.mpr c5
    clear c5
    obtain ⟨y294, hy294⟩ : ∃ y_ : List Int, y_ = (([a3] : List Int)) := ⟨_, rfl⟩
    replace H : (some (strOfNums y294)) = some r := by first | (rw [hy294]; with_reducible exact H) | (have H2_ := (Option.bind_some _ _).symm.trans H; rw [hy294]; with_reducible exact H2_) | (have H2_ := (Option.bind_some _ _).symm.trans H; with_reducible exact H2_) | with_reducible exact H | (rw [hy294]; exact H) | exact H
    have Ny294 := Aside0.mk hy294
    clear hy294
    obtain rfl := Option.some.inj H
    go_enter Tryd.func20, Tryd.ntmps20
    go_wp2_with (first | ((with_reducible refine gate_dst (N := 13) rfl ?_); refine Kd.R_lit (Kd.int .u8) _ 5 ?hg (N := 13) ?hd (xs := ([a3] : List Int)) (inner := [.int .u8 a3]) (ok := fun _ => True) (okp := fun _ => True) ?hr ?hp (fun _ hk => hk) trivial (Below.refl _ _) (Nat.le_refl _) (by simp) ?_; (case hd => rfl); (case hg => rfl); (case hr => first | (go_simp; done) | (go_simp; rfl)); (case hp => exact (Reps.one (show Kd.M (Kd.int .u8) _ _ _ a3 [.int .u8 a3] from rfl) (Reps.none _ _))); intro v295 w6 ho7 hb hg_ hnew_; clear hg_ hnew_; (first | rw [← Ny294.out] at ho7 | (simp only [Int.reduceToNat] at ho7; rw [← Ny294.out] at ho7)); have n0_ := Aside0.mk (Kd.R_lower ho7 (below_size (by repeat (first | (with_reducible first | exact HB.out | apply below_alloc | apply pw_below_drewN | apply below_drew1) | exact HB.out | exact Below.refl _ _)))); have n1_ := Aside0.mk (below_step (by repeat (first | (with_reducible first | exact HB.out | apply below_alloc | apply pw_below_drewN | apply below_drew1) | exact HB.out | exact Below.refl _ _)) hb); clear HB; have HO296 := n0_; have HB := n1_; clear n0_ n1_; clear hb ho7; have hcv8 := own_string (P := Tryd.prog) Tryd.underlying82 Tryd.underlying5 Tryd.underlying9 (Kd.own_of_R HO296.out)))
    go_ret
    exact ⟨by first | rfl | (simp [errW_none, errW_some] <;> rfl) | (simp [*, errW_none, errW_some] <;> rfl), by repeat (first | (with_reducible first | exact HB.out | apply below_alloc | apply pw_below_drewN | apply below_drew1) | exact HB.out | exact Below.refl _ _)⟩
  · rw [if_neg c5] at H
    have c5b0 : (a0.toList == ([] : List UInt8)) = false := beq_eq_false_iff_ne.mpr c5
    have c5b1 : (a0.toList != ([] : List UInt8)) = true := bne_iff_ne.mpr c5
    replace H := Option.bind_eq_some_iff.mp H
    obtain ⟨t297, A90, H⟩ := H
    replace H : ((cippuskit_Wrap.f a2 3).bind fun t298 => (if t298 = 0 then (if 0 ≤ t297 then (if t297 ≤ (a0.size : Int) then ((some (([a3] : List Int) : List Int)).bind fun y299 => (if (a0.extract 0 (t297 : Int).toNat).size + (strOfNums y299).size ≤ 9223372036854775807 then (if 0 ≤ (wrap64 (t297 + 1)) then (if (wrap64 (t297 + 1)) ≤ (a0.size : Int) then (if ((a0.extract 0 (t297 : Int).toNat) ++ (strOfNums y299)).size + (a0.extract ((wrap64 (t297 + 1)) : Int).toNat a0.size).size ≤ 9223372036854775807 then (some (((a0.extract 0 (t297 : Int).toNat) ++ (strOfNums y299)) ++ (a0.extract ((wrap64 (t297 + 1)) : Int).toNat a0.size))) else (none)) else (none)) else (none)) else (none))) else (none)) else (none)) else (if t298 = 1 then (if 0 ≤ t297 then (if t297 ≤ (a0.size : Int) then (if 0 ≤ (wrap64 (t297 + 1)) then (if (wrap64 (t297 + 1)) ≤ (a0.size : Int) then (if (a0.extract 0 (t297 : Int).toNat).size + (a0.extract ((wrap64 (t297 + 1)) : Int).toNat a0.size).size ≤ 9223372036854775807 then (some ((a0.extract 0 (t297 : Int).toNat) ++ (a0.extract ((wrap64 (t297 + 1)) : Int).toNat a0.size))) else (none)) else (none)) else (none)) else (none)) else (none)) else (if 0 ≤ t297 then (if t297 ≤ (a0.size : Int) then ((some (([a3] : List Int) : List Int)).bind fun y302 => (if (a0.extract 0 (t297 : Int).toNat).size + (strOfNums y302).size ≤ 9223372036854775807 then (if ((a0.extract 0 (t297 : Int).toNat) ++ (strOfNums y302)).size + (a0.extract (t297 : Int).toNat a0.size).size ≤ 9223372036854775807 then (some (((a0.extract 0 (t297 : Int).toNat) ++ (strOfNums y302)) ++ (a0.extract (t297 : Int).toNat a0.size))) else (none)) else (none))) else (none)) else (none))))) = some r := H
    have A9 := Aside0.mk A90
    clear A90
    replace H := Option.bind_eq_some_iff.mp H
    obtain ⟨t298, A100, H⟩ := H
    replace H : (if t298 = 0 then (if 0 ≤ t297 then (if t297 ≤ (a0.size : Int) then ((some (([a3] : List Int) : List Int)).bind fun y299 => (if (a0.extract 0 (t297 : Int).toNat).size + (strOfNums y299).size ≤ 9223372036854775807 then (if 0 ≤ (wrap64 (t297 + 1)) then (if (wrap64 (t297 + 1)) ≤ (a0.size : Int) then (if ((a0.extract 0 (t297 : Int).toNat) ++ (strOfNums y299)).size + (a0.extract ((wrap64 (t297 + 1)) : Int).toNat a0.size).size ≤ 9223372036854775807 then (some (((a0.extract 0 (t297 : Int).toNat) ++ (strOfNums y299)) ++ (a0.extract ((wrap64 (t297 + 1)) : Int).toNat a0.size))) else (none)) else (none)) else (none)) else (none))) else (none)) else (none)) else (if t298 = 1 then (if 0 ≤ t297 then (if t297 ≤ (a0.size : Int) then (if 0 ≤ (wrap64 (t297 + 1)) then (if (wrap64 (t297 + 1)) ≤ (a0.size : Int) then (if (a0.extract 0 (t297 : Int).toNat).size + (a0.extract ((wrap64 (t297 + 1)) : Int).toNat a0.size).size ≤ 9223372036854775807 then (some ((a0.extract 0 (t297 : Int).toNat) ++ (a0.extract ((wrap64 (t297 + 1)) : Int).toNat a0.size))) else (none)) else (none)) else (none)) else (none)) else (none)) else (if 0 ≤ t297 then (if t297 ≤ (a0.size : Int) then ((some (([a3] : List Int) : List Int)).bind fun y302 => (if (a0.extract 0 (t297 : Int).toNat).size + (strOfNums y302).size ≤ 9223372036854775807 then (if ((a0.extract 0 (t297 : Int).toNat) ++ (strOfNums y302)).size + (a0.extract (t297 : Int).toNat a0.size).size ≤ 9223372036854775807 then (some (((a0.extract 0 (t297 : Int).toNat) ++ (strOfNums y302)) ++ (a0.extract (t297 : Int).toNat a0.size))) else (none)) else (none))) else (none)) else (none)))) = some r := H
    have A10 := Aside0.mk A100
    clear A100
    by_cases c11 : t298 = 0
    · rw [if_pos c11] at H
      have c11b0 : (t298 == 0) = true := beq_iff_eq.mpr c11
      have c11b1 : (t298 != 0) = false := bne_eq_false_iff_eq.mpr c11
      clear c11
      by_cases c12 : 0 ≤ t297
      · rw [if_pos c12] at H
        have c12b0 := eq_true c12
        have c12b1 : decide (0 ≤ t297) = true := decide_eq_true c12
        clear c12
        by_cases c13 : t297 ≤ (a0.size : Int)
        · rw [if_pos c13] at H
          have c13b0 := eq_true c13
          have c13b1 : decide (t297 ≤ (a0.size : Int)) = true := decide_eq_true c13
          clear c13
          obtain ⟨y299, hy299⟩ : ∃ y_ : List Int, y_ = (([a3] : List Int)) := ⟨_, rfl⟩
          replace H : (if (a0.extract 0 (t297 : Int).toNat).size + (strOfNums y299).size ≤ 9223372036854775807 then (if 0 ≤ (wrap64 (t297 + 1)) then (if (wrap64 (t297 + 1)) ≤ (a0.size : Int) then (if ((a0.extract 0 (t297 : Int).toNat) ++ (strOfNums y299)).size + (a0.extract ((wrap64 (t297 + 1)) : Int).toNat a0.size).size ≤ 9223372036854775807 then (some (((a0.extract 0 (t297 : Int).toNat) ++ (strOfNums y299)) ++ (a0.extract ((wrap64 (t297 + 1)) : Int).toNat a0.size))) else (none)) else (none)) else (none)) else (none)) = some r := by first | (rw [hy299]; with_reducible exact H) | (have H2_ := (Option.bind_some _ _).symm.trans H; rw [hy299]; with_reducible exact H2_) | (have H2_ := (Option.bind_some _ _).symm.trans H; with_reducible exact H2_) | with_reducible exact H | (rw [hy299]; exact H) | exact H
          have Ny299 := Aside0.mk hy299
          clear hy299
          by_cases c14 : (a0.extract 0 (t297 : Int).toNat).size + (strOfNums y299).size ≤ 9223372036854775807
          · rw [if_pos c14] at H
            have c14b0 := eq_true c14
            have c14b1 : decide ((a0.extract 0 (t297 : Int).toNat).size + (strOfNums y299).size ≤ 9223372036854775807) = true := decide_eq_true c14
            try have c14b2 : (9223372036854775807 < (a0.extract 0 (t297 : Int).toNat).size + (strOfNums y299).size) = False := eq_false (Nat.not_lt.2 c14)
            try have c14b9 : (9223372036854775807 < (t297 : Int).toNat + (strOfNums y299).size) = False := eq_false (by have h_ := c14; simp only [ByteArray.size_append, ByteArray.size_extract] at h_; (try simp only [eq_iff_iff, iff_true] at *); omega)
            obtain ⟨ji15, hji15⟩ : ∃ j_ : Int, (wrap64 (t297 + 1)) = j_ := ⟨_, rfl⟩
            replace H : (if 0 ≤ (ji15) then (if (ji15) ≤ (a0.size : Int) then (if ((a0.extract 0 (t297 : Int).toNat) ++ (strOfNums y299)).size + (a0.extract ((ji15) : Int).toNat a0.size).size ≤ 9223372036854775807 then (some (((a0.extract 0 (t297 : Int).toNat) ++ (strOfNums y299)) ++ (a0.extract ((ji15) : Int).toNat a0.size))) else (none)) else (none)) else (none)) = some r := by first | (rw [hji15] at H; exact H) | (simp only [hji15] at H ⊢; exact H)
            (try rw [hji15] at A9)
            (try rw [hji15] at A10)
            have hji15w : (IntKind.i64.wrap (t297 + 1)) = ji15 := (i64_w _).trans hji15
            by_cases c16 : 0 ≤ (ji15)
            · rw [if_pos c16] at H
              have c16b0 := eq_true c16
              have c16b1 : decide (0 ≤ (ji15)) = true := decide_eq_true c16
              clear c16
              by_cases c17 : (ji15) ≤ (a0.size : Int)
              · rw [if_pos c17] at H
                have c17b0 := eq_true c17
                have c17b1 : decide ((ji15) ≤ (a0.size : Int)) = true := decide_eq_true c17
                clear c17
                by_cases c18 : ((a0.extract 0 (t297 : Int).toNat) ++ (strOfNums y299)).size + (a0.extract ((ji15) : Int).toNat a0.size).size ≤ 9223372036854775807
                · rw [if_pos c18] at H
                  have c18b0 := eq_true c18
                  have c18b1 : decide (((a0.extract 0 (t297 : Int).toNat) ++ (strOfNums y299)).size + (a0.extract ((ji15) : Int).toNat a0.size).size ≤ 9223372036854775807) = true := decide_eq_true c18
                  try have c18b2 : (9223372036854775807 < ((a0.extract 0 (t297 : Int).toNat) ++ (strOfNums y299)).size + (a0.extract ((ji15) : Int).toNat a0.size).size) = False := eq_false (Nat.not_lt.2 c18)
                  try have c18b9 : (9223372036854775807 < (t297 : Int).toNat + (strOfNums y299).size + (a0.size - ((ji15) : Int).toNat)) = False := eq_false (by have h_ := c18; simp only [ByteArray.size_append, ByteArray.size_extract] at h_; (try simp only [eq_iff_iff, iff_true] at *); omega)
                  try (have c18b8 := c18b2; simp only [ByteArray.size_append,  Nat.reduceAdd] at c18b8)
                  obtain rfl := Option.some.inj H
                  go_enter Tryd.func20, Tryd.ntmps20
                  try go_wp2_with (first | ((with_reducible refine gate_callee (f := 45) rfl ?_); refine goesL_ (some 18) rfl rfl Tryd.func45 (by kernel_rfl) rfl #[.int .i64 a1, .int .i64 (a0.size : Int)] rfl (by (try simp only [List.map_toArray, List.map_cons, List.map_nil]); first | done | rfl | (simp only [List.length_drop, List.length_take]; rfl)) ?_; (with_reducible refine (cippuskit_Wrap.calls a1 (a0.size : Int) t297 _ A9.out).mono ?_); rintro e w' ⟨rfl, ⟨nd, rfl⟩⟩; refine ⟨_, rfl, ?_⟩) | ((with_reducible refine gate_callee (f := 45) rfl ?_); refine goesL_ (some 20) rfl rfl Tryd.func45 (by kernel_rfl) rfl #[.int .i64 a2, .int .i64 3] rfl (by (try simp only [List.map_toArray, List.map_cons, List.map_nil]); first | done | rfl | (simp only [List.length_drop, List.length_take]; rfl)) ?_; (with_reducible refine (cippuskit_Wrap.calls a2 3 t298 _ A10.out).mono ?_); rintro e w' ⟨rfl, ⟨nd, rfl⟩⟩; refine ⟨_, rfl, ?_⟩))
                  have n0_ := Aside0.mk (below_drew1 HB.out)
                  clear HB
                  have HB := n0_
                  clear n0_
                  refine start_ (n := 13) (S := fun w' => True) (ds := []) #[false, false, false, false, false, false, false, false, false, false, false, false, false] (by kernel_rfl) rfl rfl trivial (fun hHeld => ?_); refine with_tabW cippuskit_Marred.tab6 cippuskit_Marred.bits6 (fun HT_ HW_ => ?_)
                  generalize w.drew = w19 at HB hHeld ⊢
                  refine pure_ (i := 0) (N := some 23) (v := ?_) (a' := ?_) #[true, false, false, false, false, false, false, false, false, false, false, false, false] rfl rfl (any_of HT_.out (by kernel_rfl)) (fun _ _ _ h => h) (Or.inl ⟨by rfl, ?_⟩) ?_ ?_
                  rotate_left
                  · intro w'
                    go_simp
                    with_reducible rfl
                  rotate_left
                  · simp only [Act.put, List.setIfInBounds_toArray, List.set_cons_zero, List.set_cons_succ, i64_w, i32_w]
                    rfl
                  refine pure_ (i := 1) (N := some 24) (v := ?_) (a' := ?_) #[true, true, false, false, false, false, false, false, false, false, false, false, false] rfl rfl (any_of HT_.out (by kernel_rfl)) (fun _ _ _ h => h) (Or.inl ⟨by rfl, ?_⟩) ?_ ?_
                  rotate_left
                  · intro w'
                    go_simp
                    with_reducible rfl
                  rotate_left
                  · simp only [Act.put, List.setIfInBounds_toArray, List.set_cons_zero, List.set_cons_succ, i64_w, i32_w]
                    rfl
                  refine pure_ (i := 2) (N := some 25) (v := ?_) (a' := ?_) #[true, true, true, false, false, false, false, false, false, false, false, false, false] rfl rfl (any_of HT_.out (by kernel_rfl)) (fun _ _ _ h => h) (Or.inl ⟨by rfl, ?_⟩) ?_ ?_
                  rotate_left
                  · intro w'
                    go_simp
                    with_reducible rfl
                  rotate_left
                  · simp only [Act.put, List.setIfInBounds_toArray, List.set_cons_zero, List.set_cons_succ, i64_w, i32_w]
                    rfl
                  refine pure_ (i := 3) (N := some 26) (v := ?_) (a' := ?_) #[true, true, true, true, false, false, false, false, false, false, false, false, false] rfl rfl (any_of HT_.out (by kernel_rfl)) (fun _ _ _ h => h) (Or.inl ⟨by rfl, ?_⟩) ?_ ?_
                  rotate_left
                  · intro w'
                    go_simp
                    with_reducible rfl
                  rotate_left
                  · simp only [Act.put, List.setIfInBounds_toArray, List.set_cons_zero, List.set_cons_succ, i64_w, i32_w]
                    rfl
                  refine pure_ (i := 7) (N := some 30) (v := ?_) (a' := ?_) #[true, true, true, true, false, false, false, true, false, false, false, false, false] rfl rfl (any_of HT_.out (by kernel_rfl)) (fun _ _ _ h => h) (Or.inl ⟨by rfl, ?_⟩) ?_ ?_
                  rotate_left
                  · intro w'
                    go_simp
                    with_reducible rfl
                  rotate_left
                  · simp only [Act.put, List.setIfInBounds_toArray, List.set_cons_zero, List.set_cons_succ, i64_w, i32_w]
                    rfl
                  refine pure_ (i := 8) (N := some 31) (v := ?_) (a' := ?_) #[true, true, true, true, false, false, false, true, true, false, false, false, false] rfl rfl (any_of HT_.out (by kernel_rfl)) (fun _ _ _ h => h) (Or.inl ⟨by rfl, ?_⟩) ?_ ?_
                  rotate_left
                  · intro w'
                    go_simp
                    with_reducible rfl
                  rotate_left
                  · simp only [Act.put, List.setIfInBounds_toArray, List.set_cons_zero, List.set_cons_succ, i64_w, i32_w]
                    rfl
                  refine pure_ (i := 9) (N := some 32) (v := ?_) (a' := ?_) #[true, true, true, true, false, false, false, true, true, true, false, false, false] rfl rfl (any_of HT_.out (by kernel_rfl)) (fun _ _ _ h => h) (Or.inl ⟨by rfl, ?_⟩) ?_ ?_
                  rotate_left
                  · intro w'
                    go_simp
                    with_reducible rfl
                  rotate_left
                  · simp only [Act.put, List.setIfInBounds_toArray, List.set_cons_zero, List.set_cons_succ, i64_w, i32_w]
                    rfl
                  refine pure_ (i := 10) (N := some 33) (v := ?_) (a' := ?_) #[true, true, true, true, false, false, false, true, true, true, true, false, false] rfl rfl (any_of HT_.out (by kernel_rfl)) (fun _ _ _ h => h) (Or.inl ⟨by rfl, ?_⟩) ?_ ?_
                  rotate_left
                  · intro w'
                    go_simp
                    with_reducible rfl
                  rotate_left
                  · simp only [Act.put, List.setIfInBounds_toArray, List.set_cons_zero, List.set_cons_succ, i64_w, i32_w]
                    rfl
                  refine one_ (i := 4) (N := some 27) #[true, true, true, true, true, false, false, true, true, true, true, false, false] rfl rfl (one_of HT_.out (by kernel_rfl)) (by decide) (fun K hK => ?_)
                  refine Kd.R_lit_step (Kd.int .u8) _ 5 ?hg (N := 27) ?hd (xs := ([a3] : List Int)) (inner := [.int .u8 a3]) (ok := fun _ => True) (okp := fun _ => True) ?hr ?hp (fun _ hk => hk) trivial (Below.refl _ _) (Nat.le_refl _) (by simp) ?_; (case hd => rfl); (case hg => rfl); (case hr => first | (go_simp; done) | (go_simp; rfl)); (case hp => exact (Reps.one (show Kd.M (Kd.int .u8) _ _ _ a3 [.int .u8 a3] from rfl) (Reps.none _ _)))
                  intro v300 w20 ho21 hb hg_ hnew_
                  clear hg_ hnew_
                  (first | rw [← Ny299.out] at ho21 | (simp only [Int.reduceToNat] at ho21; rw [← Ny299.out] at ho21))
                  have n0_ := Aside0.mk (Kd.R_lower ho21 (Nat.le_refl w.heap.size))
                  have n1_ := Aside0.mk (below_step (by repeat (first | (with_reducible first | exact HB.out | apply below_alloc | apply pw_below_drewN | apply below_drew1) | exact HB.out | exact Below.refl _ _)) hb)
                  clear HB
                  have HO301 := n0_
                  have HB := n1_
                  clear n0_ n1_
                  clear hb ho21
                  refine hK.out _ _ trivial (fun hHeld => ?_)
                  clear hK K
                  refine norm_ (a' := ?_) ?_ ?_
                  rotate_left
                  · show Act.put _ (some 27) _ = _
                    simp only [Act.put, List.setIfInBounds_toArray, List.set_cons_zero, List.set_cons_succ, i64_w, i32_w]
                    rfl
                  refine one_ (i := 5) (N := some 28) #[true, true, true, true, true, true, false, true, true, true, true, false, false] rfl rfl (one_of HT_.out (by kernel_rfl)) (by decide) (fun K hK => ?_)
                  have hcv22 := own_string (P := Tryd.prog) Tryd.underlying82 Tryd.underlying5 Tryd.underlying9 (Kd.own_of_R HO301.out)
                  refine value_ (w1 := ?_) (v := ?_) (by rfl) rfl ?_ ?_
                  rotate_left 2
                  · go_simp
                    constructor
                    · rfl
                    · rfl
                  clear hcv22
                  refine hK.out _ _ trivial (fun hHeld => ?_)
                  clear hK K
                  refine norm_ (a' := ?_) ?_ ?_
                  rotate_left
                  · show Act.put _ (some 28) _ = _
                    simp only [Act.put, List.setIfInBounds_toArray, List.set_cons_zero, List.set_cons_succ, i64_w, i32_w]
                    rfl
                  refine pure_ (i := 6) (N := some 29) (v := ?_) (a' := ?_) #[true, true, true, true, true, true, true, true, true, true, true, false, false] rfl rfl (any_of HT_.out (by kernel_rfl)) (fun _ _ _ h => h) (Or.inl ⟨by rfl, ?_⟩) ?_ ?_
                  rotate_left
                  · intro w'
                    go_simp
                    with_reducible rfl
                  rotate_left
                  · simp only [Act.put, List.setIfInBounds_toArray, List.set_cons_zero, List.set_cons_succ, i64_w, i32_w]
                    rfl
                  refine pure_ (i := 11) (N := some 34) (v := ?_) (a' := ?_) #[true, true, true, true, true, true, true, true, true, true, true, true, false] rfl rfl (any_of HT_.out (by kernel_rfl)) (fun _ _ _ h => h) (Or.inl ⟨by rfl, ?_⟩) ?_ ?_
                  rotate_left
                  · intro w'
                    go_simp
                    with_reducible rfl
                  rotate_left
                  · simp only [Act.put, List.setIfInBounds_toArray, List.set_cons_zero, List.set_cons_succ, i64_w, i32_w]
                    rfl
                  refine pure_ (i := 12) (N := some 8) (v := ?_) (a' := ?_) #[true, true, true, true, true, true, true, true, true, true, true, true, true] rfl rfl (any_of HT_.out (by kernel_rfl)) (fun _ _ _ h => h) (Or.inl ⟨by rfl, ?_⟩) ?_ ?_
                  rotate_left
                  · intro w'
                    go_simp
                    with_reducible rfl
                  rotate_left
                  · simp only [Act.put, List.setIfInBounds_toArray, List.set_cons_zero, List.set_cons_succ, i64_w, i32_w]
                    rfl
                  refine done_ (done_of HT_.out (by kernel_rfl)) ?_
                  try go_wp2
                  go_ret
                  exact ⟨by first | rfl | (simp [errW_none, errW_some] <;> rfl) | (simp only [← hji15]; first | rfl | (simp [errW_none, errW_some] <;> rfl)) | (simp [*, errW_none, errW_some] <;> rfl), by repeat (first | (with_reducible first | exact HB.out | apply below_alloc | apply pw_below_drewN | apply below_drew1) | exact HB.out | exact Below.refl _ _)⟩
                · rw [if_neg c18] at H
                  exact absurd H (by simp)
              · rw [if_neg c17] at H
                exact absurd H (by simp)
            · rw [if_neg c16] at H
              exact absurd H (by simp)
          · rw [if_neg c14] at H
            exact absurd H (by simp)
        · rw [if_neg c13] at H
          exact absurd H (by simp)
      · rw [if_neg c12] at H
        exact absurd H (by simp)
    · rw [if_neg c11] at H
      have c11b0 : (t298 == 0) = false := beq_eq_false_iff_ne.mpr c11
      have c11b1 : (t298 != 0) = true := bne_iff_ne.mpr c11
      by_cases c23 : t298 = 1
      · rw [if_pos c23] at H
        have c23b0 : (t298 == 1) = true := beq_iff_eq.mpr c23
        have c23b1 : (t298 != 1) = false := bne_eq_false_iff_eq.mpr c23
        clear c23
        by_cases c24 : 0 ≤ t297
        · rw [if_pos c24] at H
          have c24b0 := eq_true c24
          have c24b1 : decide (0 ≤ t297) = true := decide_eq_true c24
          clear c24
          by_cases c25 : t297 ≤ (a0.size : Int)
          · rw [if_pos c25] at H
            have c25b0 := eq_true c25
            have c25b1 : decide (t297 ≤ (a0.size : Int)) = true := decide_eq_true c25
            clear c25
            obtain ⟨ji26, hji26⟩ : ∃ j_ : Int, (wrap64 (t297 + 1)) = j_ := ⟨_, rfl⟩
            replace H : (if 0 ≤ (ji26) then (if (ji26) ≤ (a0.size : Int) then (if (a0.extract 0 (t297 : Int).toNat).size + (a0.extract ((ji26) : Int).toNat a0.size).size ≤ 9223372036854775807 then (some ((a0.extract 0 (t297 : Int).toNat) ++ (a0.extract ((ji26) : Int).toNat a0.size))) else (none)) else (none)) else (none)) = some r := by first | (rw [hji26] at H; exact H) | (simp only [hji26] at H ⊢; exact H)
            (try rw [hji26] at A9)
            (try rw [hji26] at A10)
            have hji26w : (IntKind.i64.wrap (t297 + 1)) = ji26 := (i64_w _).trans hji26
            by_cases c27 : 0 ≤ (ji26)
            · rw [if_pos c27] at H
              have c27b0 := eq_true c27
              have c27b1 : decide (0 ≤ (ji26)) = true := decide_eq_true c27
              clear c27
              by_cases c28 : (ji26) ≤ (a0.size : Int)
              · rw [if_pos c28] at H
                have c28b0 := eq_true c28
                have c28b1 : decide ((ji26) ≤ (a0.size : Int)) = true := decide_eq_true c28
                clear c28
                by_cases c29 : (a0.extract 0 (t297 : Int).toNat).size + (a0.extract ((ji26) : Int).toNat a0.size).size ≤ 9223372036854775807
                · rw [if_pos c29] at H
                  have c29b0 := eq_true c29
                  have c29b1 : decide ((a0.extract 0 (t297 : Int).toNat).size + (a0.extract ((ji26) : Int).toNat a0.size).size ≤ 9223372036854775807) = true := decide_eq_true c29
                  try have c29b2 : (9223372036854775807 < (a0.extract 0 (t297 : Int).toNat).size + (a0.extract ((ji26) : Int).toNat a0.size).size) = False := eq_false (Nat.not_lt.2 c29)
                  try have c29b9 : (9223372036854775807 < (t297 : Int).toNat + (a0.size - ((ji26) : Int).toNat)) = False := eq_false (by have h_ := c29; simp only [ByteArray.size_append, ByteArray.size_extract] at h_; (try simp only [eq_iff_iff, iff_true] at *); omega)
                  obtain rfl := Option.some.inj H
                  go_enter Tryd.func20, Tryd.ntmps20
                  try go_wp2_with (first | ((with_reducible refine gate_callee (f := 45) rfl ?_); refine goesL_ (some 18) rfl rfl Tryd.func45 (by kernel_rfl) rfl #[.int .i64 a1, .int .i64 (a0.size : Int)] rfl (by (try simp only [List.map_toArray, List.map_cons, List.map_nil]); first | done | rfl | (simp only [List.length_drop, List.length_take]; rfl)) ?_; (with_reducible refine (cippuskit_Wrap.calls a1 (a0.size : Int) t297 _ A9.out).mono ?_); rintro e w' ⟨rfl, ⟨nd, rfl⟩⟩; refine ⟨_, rfl, ?_⟩) | ((with_reducible refine gate_callee (f := 45) rfl ?_); refine goesL_ (some 20) rfl rfl Tryd.func45 (by kernel_rfl) rfl #[.int .i64 a2, .int .i64 3] rfl (by (try simp only [List.map_toArray, List.map_cons, List.map_nil]); first | done | rfl | (simp only [List.length_drop, List.length_take]; rfl)) ?_; (with_reducible refine (cippuskit_Wrap.calls a2 3 t298 _ A10.out).mono ?_); rintro e w' ⟨rfl, ⟨nd, rfl⟩⟩; refine ⟨_, rfl, ?_⟩))
                  have n0_ := Aside0.mk (below_drew1 HB.out)
                  clear HB
                  have HB := n0_
                  clear n0_
                  refine start_ (n := 9) (S := fun w' => True) (ds := []) #[false, false, false, false, false, false, false, false, false] (by kernel_rfl) rfl rfl trivial (fun hHeld => ?_); refine with_tabW cippuskit_Marred.tab8 cippuskit_Marred.bits8 (fun HT_ HW_ => ?_)
                  generalize w.drew = w30 at HB hHeld ⊢
                  refine pure_ (i := 0) (N := some 37) (v := ?_) (a' := ?_) #[true, false, false, false, false, false, false, false, false] rfl rfl (any_of HT_.out (by kernel_rfl)) (fun _ _ _ h => h) (Or.inl ⟨by rfl, ?_⟩) ?_ ?_
                  rotate_left
                  · intro w'
                    go_simp
                    with_reducible rfl
                  rotate_left
                  · simp only [Act.put, List.setIfInBounds_toArray, List.set_cons_zero, List.set_cons_succ, i64_w, i32_w]
                    rfl
                  refine pure_ (i := 1) (N := some 38) (v := ?_) (a' := ?_) #[true, true, false, false, false, false, false, false, false] rfl rfl (any_of HT_.out (by kernel_rfl)) (fun _ _ _ h => h) (Or.inl ⟨by rfl, ?_⟩) ?_ ?_
                  rotate_left
                  · intro w'
                    go_simp
                    with_reducible rfl
                  rotate_left
                  · simp only [Act.put, List.setIfInBounds_toArray, List.set_cons_zero, List.set_cons_succ, i64_w, i32_w]
                    rfl
                  refine pure_ (i := 2) (N := some 39) (v := ?_) (a' := ?_) #[true, true, true, false, false, false, false, false, false] rfl rfl (any_of HT_.out (by kernel_rfl)) (fun _ _ _ h => h) (Or.inl ⟨by rfl, ?_⟩) ?_ ?_
                  rotate_left
                  · intro w'
                    go_simp
                    with_reducible rfl
                  rotate_left
                  · simp only [Act.put, List.setIfInBounds_toArray, List.set_cons_zero, List.set_cons_succ, i64_w, i32_w]
                    rfl
                  refine pure_ (i := 3) (N := some 40) (v := ?_) (a' := ?_) #[true, true, true, true, false, false, false, false, false] rfl rfl (any_of HT_.out (by kernel_rfl)) (fun _ _ _ h => h) (Or.inl ⟨by rfl, ?_⟩) ?_ ?_
                  rotate_left
                  · intro w'
                    go_simp
                    with_reducible rfl
                  rotate_left
                  · simp only [Act.put, List.setIfInBounds_toArray, List.set_cons_zero, List.set_cons_succ, i64_w, i32_w]
                    rfl
                  refine pure_ (i := 4) (N := some 41) (v := ?_) (a' := ?_) #[true, true, true, true, true, false, false, false, false] rfl rfl (any_of HT_.out (by kernel_rfl)) (fun _ _ _ h => h) (Or.inl ⟨by rfl, ?_⟩) ?_ ?_
                  rotate_left
                  · intro w'
                    go_simp
                    with_reducible rfl
                  rotate_left
                  · simp only [Act.put, List.setIfInBounds_toArray, List.set_cons_zero, List.set_cons_succ, i64_w, i32_w]
                    rfl
                  refine pure_ (i := 5) (N := some 42) (v := ?_) (a' := ?_) #[true, true, true, true, true, true, false, false, false] rfl rfl (any_of HT_.out (by kernel_rfl)) (fun _ _ _ h => h) (Or.inl ⟨by rfl, ?_⟩) ?_ ?_
                  rotate_left
                  · intro w'
                    go_simp
                    with_reducible rfl
                  rotate_left
                  · simp only [Act.put, List.setIfInBounds_toArray, List.set_cons_zero, List.set_cons_succ, i64_w, i32_w]
                    rfl
                  refine pure_ (i := 6) (N := some 43) (v := ?_) (a' := ?_) #[true, true, true, true, true, true, true, false, false] rfl rfl (any_of HT_.out (by kernel_rfl)) (fun _ _ _ h => h) (Or.inl ⟨by rfl, ?_⟩) ?_ ?_
                  rotate_left
                  · intro w'
                    go_simp
                    with_reducible rfl
                  rotate_left
                  · simp only [Act.put, List.setIfInBounds_toArray, List.set_cons_zero, List.set_cons_succ, i64_w, i32_w]
                    rfl
                  refine pure_ (i := 7) (N := some 44) (v := ?_) (a' := ?_) #[true, true, true, true, true, true, true, true, false] rfl rfl (any_of HT_.out (by kernel_rfl)) (fun _ _ _ h => h) (Or.inl ⟨by rfl, ?_⟩) ?_ ?_
                  rotate_left
                  · intro w'
                    go_simp
                    with_reducible rfl
                  rotate_left
                  · simp only [Act.put, List.setIfInBounds_toArray, List.set_cons_zero, List.set_cons_succ, i64_w, i32_w]
                    rfl
                  refine pure_ (i := 8) (N := some 8) (v := ?_) (a' := ?_) #[true, true, true, true, true, true, true, true, true] rfl rfl (any_of HT_.out (by kernel_rfl)) (fun _ _ _ h => h) (Or.inl ⟨by rfl, ?_⟩) ?_ ?_
                  rotate_left
                  · intro w'
                    go_simp
                    with_reducible rfl
                  rotate_left
                  · simp only [Act.put, List.setIfInBounds_toArray, List.set_cons_zero, List.set_cons_succ, i64_w, i32_w]
                    rfl
                  refine done_ (done_of HT_.out (by kernel_rfl)) ?_
                  try go_wp2
                  go_ret
                  exact ⟨by first | rfl | (simp [errW_none, errW_some] <;> rfl) | (simp only [← hji26]; first | rfl | (simp [errW_none, errW_some] <;> rfl)) | (simp [*, errW_none, errW_some] <;> rfl), by repeat (first | (with_reducible first | exact HB.out | apply below_alloc | apply pw_below_drewN | apply below_drew1) | exact HB.out | exact Below.refl _ _)⟩
                · rw [if_neg c29] at H
                  exact absurd H (by simp)
              · rw [if_neg c28] at H
                exact absurd H (by simp)
            · rw [if_neg c27] at H
              exact absurd H (by simp)
          · rw [if_neg c25] at H
            exact absurd H (by simp)
        · rw [if_neg c24] at H
          exact absurd H (by simp)
      · rw [if_neg c23] at H
        have c23b0 : (t298 == 1) = false := beq_eq_false_iff_ne.mpr c23
        have c23b1 : (t298 != 1) = true := bne_iff_ne.mpr c23
        by_cases c31 : 0 ≤ t297
        · rw [if_pos c31] at H
          have c31b0 := eq_true c31
          have c31b1 : decide (0 ≤ t297) = true := decide_eq_true c31
          clear c31
          by_cases c32 : t297 ≤ (a0.size : Int)
          · rw [if_pos c32] at H
            have c32b0 := eq_true c32
            have c32b1 : decide (t297 ≤ (a0.size : Int)) = true := decide_eq_true c32
            clear c32
            obtain ⟨y302, hy302⟩ : ∃ y_ : List Int, y_ = (([a3] : List Int)) := ⟨_, rfl⟩
            replace H : (if (a0.extract 0 (t297 : Int).toNat).size + (strOfNums y302).size ≤ 9223372036854775807 then (if ((a0.extract 0 (t297 : Int).toNat) ++ (strOfNums y302)).size + (a0.extract (t297 : Int).toNat a0.size).size ≤ 9223372036854775807 then (some (((a0.extract 0 (t297 : Int).toNat) ++ (strOfNums y302)) ++ (a0.extract (t297 : Int).toNat a0.size))) else (none)) else (none)) = some r := by first | (rw [hy302]; with_reducible exact H) | (have H2_ := (Option.bind_some _ _).symm.trans H; rw [hy302]; with_reducible exact H2_) | (have H2_ := (Option.bind_some _ _).symm.trans H; with_reducible exact H2_) | with_reducible exact H | (rw [hy302]; exact H) | exact H
            have Ny302 := Aside0.mk hy302
            clear hy302
            by_cases c33 : (a0.extract 0 (t297 : Int).toNat).size + (strOfNums y302).size ≤ 9223372036854775807
            · rw [if_pos c33] at H
              have c33b0 := eq_true c33
              have c33b1 : decide ((a0.extract 0 (t297 : Int).toNat).size + (strOfNums y302).size ≤ 9223372036854775807) = true := decide_eq_true c33
              try have c33b2 : (9223372036854775807 < (a0.extract 0 (t297 : Int).toNat).size + (strOfNums y302).size) = False := eq_false (Nat.not_lt.2 c33)
              try have c33b9 : (9223372036854775807 < (t297 : Int).toNat + (strOfNums y302).size) = False := eq_false (by have h_ := c33; simp only [ByteArray.size_append, ByteArray.size_extract] at h_; (try simp only [eq_iff_iff, iff_true] at *); omega)
              have c34b0 := eq_true (of_decide_eq_true (by first | (with_reducible assumption) | assumption) : 0 ≤ t297)
              have c35b0 := eq_true (of_decide_eq_true (by first | (with_reducible assumption) | assumption) : t297 ≤ (a0.size : Int))
              by_cases c36 : ((a0.extract 0 (t297 : Int).toNat) ++ (strOfNums y302)).size + (a0.extract (t297 : Int).toNat a0.size).size ≤ 9223372036854775807
              · rw [if_pos c36] at H
                have c36b0 := eq_true c36
                have c36b1 : decide (((a0.extract 0 (t297 : Int).toNat) ++ (strOfNums y302)).size + (a0.extract (t297 : Int).toNat a0.size).size ≤ 9223372036854775807) = true := decide_eq_true c36
                try have c36b2 : (9223372036854775807 < ((a0.extract 0 (t297 : Int).toNat) ++ (strOfNums y302)).size + (a0.extract (t297 : Int).toNat a0.size).size) = False := eq_false (Nat.not_lt.2 c36)
                try have c36b9 : (9223372036854775807 < (t297 : Int).toNat + (strOfNums y302).size + (a0.size - (t297 : Int).toNat)) = False := eq_false (by have h_ := c36; simp only [ByteArray.size_append, ByteArray.size_extract] at h_; (try simp only [eq_iff_iff, iff_true] at *); omega)
                try (have c36b8 := c36b2; simp only [ByteArray.size_append,  Nat.reduceAdd] at c36b8)
                obtain rfl := Option.some.inj H
                go_enter Tryd.func20, Tryd.ntmps20
                try go_wp2_with (first | ((with_reducible refine gate_callee (f := 45) rfl ?_); refine goesL_ (some 18) rfl rfl Tryd.func45 (by kernel_rfl) rfl #[.int .i64 a1, .int .i64 (a0.size : Int)] rfl (by (try simp only [List.map_toArray, List.map_cons, List.map_nil]); first | done | rfl | (simp only [List.length_drop, List.length_take]; rfl)) ?_; (with_reducible refine (cippuskit_Wrap.calls a1 (a0.size : Int) t297 _ A9.out).mono ?_); rintro e w' ⟨rfl, ⟨nd, rfl⟩⟩; refine ⟨_, rfl, ?_⟩) | ((with_reducible refine gate_callee (f := 45) rfl ?_); refine goesL_ (some 20) rfl rfl Tryd.func45 (by kernel_rfl) rfl #[.int .i64 a2, .int .i64 3] rfl (by (try simp only [List.map_toArray, List.map_cons, List.map_nil]); first | done | rfl | (simp only [List.length_drop, List.length_take]; rfl)) ?_; (with_reducible refine (cippuskit_Wrap.calls a2 3 t298 _ A10.out).mono ?_); rintro e w' ⟨rfl, ⟨nd, rfl⟩⟩; refine ⟨_, rfl, ?_⟩))
                have n0_ := Aside0.mk (below_drew1 HB.out)
                clear HB
                have HB := n0_
                clear n0_
                refine start_ (n := 12) (S := fun w' => True) (ds := []) #[false, false, false, false, false, false, false, false, false, false, false, false] (by kernel_rfl) rfl rfl trivial (fun hHeld => ?_); refine with_tabW cippuskit_Marred.tab9 cippuskit_Marred.bits9 (fun HT_ HW_ => ?_)
                generalize w.drew = w37 at HB hHeld ⊢
                refine pure_ (i := 0) (N := some 45) (v := ?_) (a' := ?_) #[true, false, false, false, false, false, false, false, false, false, false, false] rfl rfl (any_of HT_.out (by kernel_rfl)) (fun _ _ _ h => h) (Or.inl ⟨by rfl, ?_⟩) ?_ ?_
                rotate_left
                · intro w'
                  go_simp
                  with_reducible rfl
                rotate_left
                · simp only [Act.put, List.setIfInBounds_toArray, List.set_cons_zero, List.set_cons_succ, i64_w, i32_w]
                  rfl
                refine pure_ (i := 1) (N := some 46) (v := ?_) (a' := ?_) #[true, true, false, false, false, false, false, false, false, false, false, false] rfl rfl (any_of HT_.out (by kernel_rfl)) (fun _ _ _ h => h) (Or.inl ⟨by rfl, ?_⟩) ?_ ?_
                rotate_left
                · intro w'
                  go_simp
                  with_reducible rfl
                rotate_left
                · simp only [Act.put, List.setIfInBounds_toArray, List.set_cons_zero, List.set_cons_succ, i64_w, i32_w]
                  rfl
                refine pure_ (i := 2) (N := some 47) (v := ?_) (a' := ?_) #[true, true, true, false, false, false, false, false, false, false, false, false] rfl rfl (any_of HT_.out (by kernel_rfl)) (fun _ _ _ h => h) (Or.inl ⟨by rfl, ?_⟩) ?_ ?_
                rotate_left
                · intro w'
                  go_simp
                  with_reducible rfl
                rotate_left
                · simp only [Act.put, List.setIfInBounds_toArray, List.set_cons_zero, List.set_cons_succ, i64_w, i32_w]
                  rfl
                refine pure_ (i := 3) (N := some 48) (v := ?_) (a' := ?_) #[true, true, true, true, false, false, false, false, false, false, false, false] rfl rfl (any_of HT_.out (by kernel_rfl)) (fun _ _ _ h => h) (Or.inl ⟨by rfl, ?_⟩) ?_ ?_
                rotate_left
                · intro w'
                  go_simp
                  with_reducible rfl
                rotate_left
                · simp only [Act.put, List.setIfInBounds_toArray, List.set_cons_zero, List.set_cons_succ, i64_w, i32_w]
                  rfl
                refine pure_ (i := 7) (N := some 52) (v := ?_) (a' := ?_) #[true, true, true, true, false, false, false, true, false, false, false, false] rfl rfl (any_of HT_.out (by kernel_rfl)) (fun _ _ _ h => h) (Or.inl ⟨by rfl, ?_⟩) ?_ ?_
                rotate_left
                · intro w'
                  go_simp
                  with_reducible rfl
                rotate_left
                · simp only [Act.put, List.setIfInBounds_toArray, List.set_cons_zero, List.set_cons_succ, i64_w, i32_w]
                  rfl
                refine pure_ (i := 8) (N := some 53) (v := ?_) (a' := ?_) #[true, true, true, true, false, false, false, true, true, false, false, false] rfl rfl (any_of HT_.out (by kernel_rfl)) (fun _ _ _ h => h) (Or.inl ⟨by rfl, ?_⟩) ?_ ?_
                rotate_left
                · intro w'
                  go_simp
                  with_reducible rfl
                rotate_left
                · simp only [Act.put, List.setIfInBounds_toArray, List.set_cons_zero, List.set_cons_succ, i64_w, i32_w]
                  rfl
                refine pure_ (i := 9) (N := some 54) (v := ?_) (a' := ?_) #[true, true, true, true, false, false, false, true, true, true, false, false] rfl rfl (any_of HT_.out (by kernel_rfl)) (fun _ _ _ h => h) (Or.inl ⟨by rfl, ?_⟩) ?_ ?_
                rotate_left
                · intro w'
                  go_simp
                  with_reducible rfl
                rotate_left
                · simp only [Act.put, List.setIfInBounds_toArray, List.set_cons_zero, List.set_cons_succ, i64_w, i32_w]
                  rfl
                refine one_ (i := 4) (N := some 49) #[true, true, true, true, true, false, false, true, true, true, false, false] rfl rfl (one_of HT_.out (by kernel_rfl)) (by decide) (fun K hK => ?_)
                refine Kd.R_lit_step (Kd.int .u8) _ 5 ?hg (N := 49) ?hd (xs := ([a3] : List Int)) (inner := [.int .u8 a3]) (ok := fun _ => True) (okp := fun _ => True) ?hr ?hp (fun _ hk => hk) trivial (Below.refl _ _) (Nat.le_refl _) (by simp) ?_; (case hd => rfl); (case hg => rfl); (case hr => first | (go_simp; done) | (go_simp; rfl)); (case hp => exact (Reps.one (show Kd.M (Kd.int .u8) _ _ _ a3 [.int .u8 a3] from rfl) (Reps.none _ _)))
                intro v303 w38 ho39 hb hg_ hnew_
                clear hg_ hnew_
                (first | rw [← Ny302.out] at ho39 | (simp only [Int.reduceToNat] at ho39; rw [← Ny302.out] at ho39))
                have n0_ := Aside0.mk (Kd.R_lower ho39 (Nat.le_refl w.heap.size))
                have n1_ := Aside0.mk (below_step (by repeat (first | (with_reducible first | exact HB.out | apply below_alloc | apply pw_below_drewN | apply below_drew1) | exact HB.out | exact Below.refl _ _)) hb)
                clear HB
                have HO304 := n0_
                have HB := n1_
                clear n0_ n1_
                clear hb ho39
                refine hK.out _ _ trivial (fun hHeld => ?_)
                clear hK K
                refine norm_ (a' := ?_) ?_ ?_
                rotate_left
                · show Act.put _ (some 49) _ = _
                  simp only [Act.put, List.setIfInBounds_toArray, List.set_cons_zero, List.set_cons_succ, i64_w, i32_w]
                  rfl
                refine one_ (i := 5) (N := some 50) #[true, true, true, true, true, true, false, true, true, true, false, false] rfl rfl (one_of HT_.out (by kernel_rfl)) (by decide) (fun K hK => ?_)
                have hcv40 := own_string (P := Tryd.prog) Tryd.underlying82 Tryd.underlying5 Tryd.underlying9 (Kd.own_of_R HO304.out)
                refine value_ (w1 := ?_) (v := ?_) (by rfl) rfl ?_ ?_
                rotate_left 2
                · go_simp
                  constructor
                  · rfl
                  · rfl
                clear hcv40
                refine hK.out _ _ trivial (fun hHeld => ?_)
                clear hK K
                refine norm_ (a' := ?_) ?_ ?_
                rotate_left
                · show Act.put _ (some 50) _ = _
                  simp only [Act.put, List.setIfInBounds_toArray, List.set_cons_zero, List.set_cons_succ, i64_w, i32_w]
                  rfl
                refine pure_ (i := 6) (N := some 51) (v := ?_) (a' := ?_) #[true, true, true, true, true, true, true, true, true, true, false, false] rfl rfl (any_of HT_.out (by kernel_rfl)) (fun _ _ _ h => h) (Or.inl ⟨by rfl, ?_⟩) ?_ ?_
                rotate_left
                · intro w'
                  go_simp
                  with_reducible rfl
                rotate_left
                · simp only [Act.put, List.setIfInBounds_toArray, List.set_cons_zero, List.set_cons_succ, i64_w, i32_w]
                  rfl
                refine pure_ (i := 10) (N := some 55) (v := ?_) (a' := ?_) #[true, true, true, true, true, true, true, true, true, true, true, false] rfl rfl (any_of HT_.out (by kernel_rfl)) (fun _ _ _ h => h) (Or.inl ⟨by rfl, ?_⟩) ?_ ?_
                rotate_left
                · intro w'
                  go_simp
                  with_reducible rfl
                rotate_left
                · simp only [Act.put, List.setIfInBounds_toArray, List.set_cons_zero, List.set_cons_succ, i64_w, i32_w]
                  rfl
                refine pure_ (i := 11) (N := some 8) (v := ?_) (a' := ?_) #[true, true, true, true, true, true, true, true, true, true, true, true] rfl rfl (any_of HT_.out (by kernel_rfl)) (fun _ _ _ h => h) (Or.inl ⟨by rfl, ?_⟩) ?_ ?_
                rotate_left
                · intro w'
                  go_simp
                  with_reducible rfl
                rotate_left
                · simp only [Act.put, List.setIfInBounds_toArray, List.set_cons_zero, List.set_cons_succ, i64_w, i32_w]
                  rfl
                refine done_ (done_of HT_.out (by kernel_rfl)) ?_
                try go_wp2
                go_ret
                exact ⟨by first | rfl | (simp [errW_none, errW_some] <;> rfl) | (simp [*, errW_none, errW_some] <;> rfl), by repeat (first | (with_reducible first | exact HB.out | apply below_alloc | apply pw_below_drewN | apply below_drew1) | exact HB.out | exact Below.refl _ _)⟩
              · rw [if_neg c36] at H
                exact absurd H (by simp)
            · rw [if_neg c33] at H
              exact absurd H (by simp)
          · rw [if_neg c32] at H
            exact absurd H (by simp)
        · rw [if_neg c31] at H
          exact absurd H (by simp)
end Go.Proofs.YtecdjnabmjhakaaDoor.P
namespace Go.Proofs
open Go.Shelf
def Tryd.lays146_ren : Go.Shelf.Ren := ⟨fun | 146 => 46 | 221 => 59 | 268 => 64 | 138 => 65 | 143 => 66 | 195 => 71 | 197 => 72 | 218 => 73 | 219 => 74 | 260 => 80 | 217 => 81 | 225 => 82 | 224 => 83 | 267 => 84 | 266 => 87 | 314 => 88 | n => n, fun | 9 => 9 | 31 => 36 | 3 => 3 | 4 => 4 | 0 => 0 | 105 => 124 | 21 => 21 | 5 => 5 | 46 => 110 | 119 => 132 | 139 => 135 | 138 => 134 | 146 => 136 | 51 => 67 | n => n, fun | 1 => 1 | 3 => 2 | 4 => 3 | n => n⟩
theorem Tryd.lays146 : Go.Proofs.Lays.n146 Tryd.prog Tryd.lays146_ren := {
  mixed := by kernel_rfl
  f138 := Tryd.func65.trans (congrArg some (by kernel_rfl))
  f143 := Tryd.func66.trans (congrArg some (by kernel_rfl))
  f146 := Tryd.func46.trans (congrArg some (by kernel_rfl))
  f195 := Tryd.func71.trans (congrArg some (by kernel_rfl))
  f197 := Tryd.func72.trans (congrArg some (by kernel_rfl))
  f217 := Tryd.func81.trans (congrArg some (by kernel_rfl))
  f218 := Tryd.func73.trans (congrArg some (by kernel_rfl))
  f219 := Tryd.func74.trans (congrArg some (by kernel_rfl))
  f221 := Tryd.func59.trans (congrArg some (by kernel_rfl))
  f224 := Tryd.func83.trans (congrArg some (by kernel_rfl))
  f225 := Tryd.func82.trans (congrArg some (by kernel_rfl))
  f260 := Tryd.func80.trans (congrArg some (by kernel_rfl))
  f266 := Tryd.func87.trans (congrArg some (by kernel_rfl))
  f267 := Tryd.func84.trans (congrArg some (by kernel_rfl))
  f268 := Tryd.func64.trans (congrArg some (by kernel_rfl))
  f314 := Tryd.func88.trans (congrArg some (by kernel_rfl))
  t0 := Tryd.underlying0
  a0 := Tryd.isAgg0
  z0 := Tryd.sizeOf0
  v0 := Tryd.zeroValue0
  t3 := Tryd.underlying3
  a3 := Tryd.isAgg3
  z3 := Tryd.sizeOf3
  v3 := Tryd.zeroValue3
  t4 := Tryd.underlying4
  a4 := Tryd.isAgg4
  z4 := Tryd.sizeOf4
  v4 := Tryd.zeroValue4
  t5 := Tryd.underlying5
  a5 := Tryd.isAgg5
  z5 := Tryd.sizeOf5
  v5 := Tryd.zeroValue5
  t9 := Tryd.underlying9
  a9 := Tryd.isAgg9
  z9 := Tryd.sizeOf9
  v9 := Tryd.zeroValue9
  t21 := Tryd.underlying21
  a21 := Tryd.isAgg21
  z21 := Tryd.sizeOf21
  v21 := Tryd.zeroValue21
  t31 := Tryd.underlying36
  a31 := Tryd.isAgg36
  z31 := Tryd.sizeOf36
  v31 := Tryd.zeroValue36
  t46 := Tryd.underlying110
  a46 := Tryd.isAgg110
  z46 := Tryd.sizeOf110
  v46 := Tryd.zeroValue110
  t51 := Tryd.underlying67
  a51 := Tryd.isAgg67
  z51 := Tryd.sizeOf67
  v51 := Tryd.zeroValue67
  t105 := Tryd.underlying124
  a105 := Tryd.isAgg124
  z105 := Tryd.sizeOf124
  v105 := Tryd.zeroValue124
  t119 := Tryd.underlying132
  a119 := Tryd.isAgg132
  z119 := Tryd.sizeOf132
  t138 := Tryd.underlying134
  a138 := Tryd.isAgg134
  z138 := Tryd.sizeOf134
  v138 := Tryd.zeroValue134
  t139 := Tryd.underlying135
  a139 := Tryd.isAgg135
  z139 := Tryd.sizeOf135
  v139 := Tryd.zeroValue135
  t146 := Tryd.underlying136
  a146 := Tryd.isAgg136
  z146 := Tryd.sizeOf136
  v146 := Tryd.zeroValue136
  g1 := by kernel_rfl
  g3 := by kernel_rfl
  g4 := by kernel_rfl }
namespace YtecdjnabmjhakaaDoor.P.OwnTx
open Go.RowKit Go.Lib Go.Proofs.YtecdjnabmjhakaaDoorW.PrintWords Go.Proofs.YtecdjnabmjhakaaDoorW.PrintLast Go.Proofs.YtecdjnabmjhakaaDoorW.PrintMore
theorem row_new (w : World) (l : List ByteArray) (hl : l.length ≤ maxLen) : Kd.R Kd.string 9 (w.alloc (.cells (l.map Value.string).toArray 9)) w.heap.size (fun _ => True) (.slice (some ⟨w.heap.size, 0, none⟩) l.length l.length) l := by
  refine ⟨fun _ _ => trivial, l.map Value.string, ⟨by simp [Kd.string, Kd.scalar], .inr ⟨w.heap.size, l.length, _, rfl, Nat.le_refl _, blk_new w _, Nat.le_refl _, hl, by simp [Kd.string, Kd.scalar], ?_⟩⟩, by simp [Kd.string, Kd.scalar], ?_⟩
  · rw [List.take_of_length_le (by simp [Kd.string, Kd.scalar])]
  · intro j p hp
    show ((l.map Value.string).drop (j * 1)).take 1 = [Value.string p]
    have hj : j < l.length := (List.getElem?_eq_some_iff.1 hp).1
    have he : l[j] = p := (List.getElem?_eq_some_iff.1 hp).2
    rw [Nat.mul_one, List.drop_eq_getElem_cons (by simpa using hj)]
    simp [he]
theorem split_calls (s sep : ByteArray) (w : World) (hs : s.size < 4294967281) (h1 : sep.size = 1) :
    Calls Tryd.prog 46 #[.string s, .string sep] w fun e w' => ∃ v : Value, e = .returned v ∧ Kd.R Kd.string 9 w' w.heap.size (fun _ => True) v (Lib.splitB sep 0 (Lib.countB s sep) s) ∧ Below w.heap.size w w' := by
  have hle := Lib.countB_le sep (by omega) s.size s (Nat.le_refl _)
  have hlen := Lib.splitB_all sep (by omega) 0 _ s rfl
  have hC : Calls Tryd.prog 65 #[.string s, .string sep] w fun e w' => e = .returned (.int .i64 (Lib.countB s sep)) ∧ w' = w := by
    obtain ⟨c, rfl⟩ := Lib.one_byte sep h1
    refine (Any.strings_Count_one (ρ := Tryd.lays146_ren) { Tryd.lays146 with } s c w).mono fun e w' ⟨he, hw⟩ => ⟨?_, hw⟩
    rw [he]
    show _ = Ending.returned (Value.int .i64 ((Lib.count s.data.toList [c] : Nat) : Int))
    rw [Lib.count_one]
    rfl
  have hI : ∀ (x : ByteArray) (c : Array Value), x.size ≤ s.size → Calls Tryd.prog 66 #[.string x, .string sep] (w.alloc (.cells c 9)) fun e w' => e = .returned (.int .i64 (Lib.indexB x sep)) ∧ w' = w.alloc (.cells c 9) := by
    intro x d _
    obtain ⟨c, rfl⟩ := Lib.one_byte sep h1
    refine (Any.strings_Index_one (ρ := Tryd.lays146_ren) { Tryd.lays146 with } x c _).mono fun e w' ⟨he, hw⟩ => ⟨?_, hw⟩
    rw [he]
    show _ = Ending.returned (Value.int .i64 (Lib.index x.data.toList [c]))
    rw [Lib.index_one]
  have c := Any.strings_genSplit_core (ρ := Tryd.lays146_ren) { Tryd.lays146 with } (by kernel_rfl) s sep 0 (-1) (Lib.countB s sep + 1) w hs (by omega) (Nat.zero_le _) hI hC (by decide) (by decide) (by rw [if_pos (by decide)]; omega)
  rw [Nat.add_sub_cancel, hlen] at c
  have e2 : Lib.cellsOf (Lib.splitB sep 0 (Lib.countB s sep) s) (Lib.countB s sep + 1) = ((Lib.splitB sep 0 (Lib.countB s sep) s).map Value.string).toArray := by rw [← hlen]; exact Lib.cellsOf_full _
  rw [e2] at c
  go_enter Tryd.func46, Tryd.ntmps46
  go_wp2_with (go_at_call 59; refine c.mono ?_; rintro e w' ⟨rfl, hw⟩; rw [hw])
  go_ret
  refine ⟨_, rfl, ?_, (Below.refl _ _).alloc (Nat.le_refl _) _⟩
  have := row_new w (Lib.splitB sep 0 (Lib.countB s sep) s) (by rw [hlen]; simp [maxLen]; omega)
  rwa [hlen] at this
end YtecdjnabmjhakaaDoor.P.OwnTx
end Go.Proofs
namespace Go.Proofs.YtecdjnabmjhakaaDoor.P
open Go.RowKit Go.Proofs.YtecdjnabmjhakaaDoorW.PrintWords Go.Proofs.YtecdjnabmjhakaaDoorW.PrintLast Go.Proofs.YtecdjnabmjhakaaDoorW.PrintMore
attribute [local go_sem] max2_int min2_int max_two min_two max_three min_three max_four min_four   -- for this text's walks alone
set_option linter.unusedVariables false
set_option linter.unusedSimpArgs false
def strings_Split.f (a0 : ByteArray) (a1 : ByteArray) : Option (List ByteArray) := if a0.size < 4294967281 ∧ a1.size = 1 then some (Lib.splitB a1 0 (Lib.countB a0 a1) a0) else none
theorem strings_Split.calls (a0 : ByteArray) (a1 : ByteArray) (r : List ByteArray) (w : World) (h : strings_Split.f a0 a1 = some r) :
    Calls Tryd.prog 46 #[.string a0, .string a1] w fun e w' => ∃ v0_ : Value, e = .returned (v0_) ∧ Kd.R Kd.string 9 w' w.heap.size (fun _ => True) v0_ r ∧ Below w.heap.size w w' := by
  unfold strings_Split.f at h
  split at h
  · rename_i hc
    obtain rfl := Option.some.inj h
    exact OwnTx.split_calls a0 a1 w hc.1 hc.2
  · cases h
end Go.Proofs.YtecdjnabmjhakaaDoor.P
namespace Go.Proofs.YtecdjnabmjhakaaDoor.P
open Go.RowKit Go.Proofs.YtecdjnabmjhakaaDoorW.PrintWords Go.Proofs.YtecdjnabmjhakaaDoorW.PrintLast Go.Proofs.YtecdjnabmjhakaaDoorW.PrintMore
attribute [local go_sem] max2_int min2_int max_two min_two max_three min_three max_four min_four   -- for this text's walks alone
set_option linter.unusedVariables false
set_option linter.unusedSimpArgs false
def stemma_digit.f (a0 : ByteArray) : Option (Int × Bool) := if (a0.size : Int) = 1 then (if 0 < (a0.size : Int) then (if (bt a0 0) < 48 then (some (0, false)) else (if (bt a0 0) > 57 then (some (0, false)) else (some (((bt a0 0) - 48) % 256, true)))) else (none)) else (some (0, false))
set_option maxHeartbeats 8000000 in
set_option maxRecDepth 100000 in
theorem stemma_digit.calls (a0 : ByteArray) (r1 : Int) (r2 : Bool) (w : World) (h : stemma_digit.f a0 = some (r1, r2)) :
    Calls Tryd.prog 47 #[.string a0] w fun e w' => e = .returned (.tuple #[.int .i64 r1, .bool r2]) ∧ Drawn0 w w' := by
  have H : (if (a0.size : Int) = 1 then (if 0 < (a0.size : Int) then (if (bt a0 0) < 48 then (some (0, false)) else (if (bt a0 0) > 57 then (some (0, false)) else (some (((bt a0 0) - 48) % 256, true)))) else (none)) else (some (0, false))) = some (r1, r2) := h
  clear h
  by_cases c2 : (a0.size : Int) = 1
  · rw [if_pos c2] at H
    have c2b0 : ((a0.size : Int) == 1) = true := beq_iff_eq.mpr c2
    have c2b1 : ((a0.size : Int) != 1) = false := bne_eq_false_iff_eq.mpr c2
    clear c2
    by_cases c3 : 0 < (a0.size : Int)
    · rw [if_pos c3] at H
      have c3b0 : decide (0 < (a0.size : Int)) = true := decide_eq_true c3
      have c3b1 : decide (0 < a0.size) = true := decide_eq_true (by omega)
      clear c3
      by_cases c5 : (bt a0 0) < 48
      · rw [if_pos c5] at H
        have c5b0 : decide ((bt a0 0) < 48) = true := decide_eq_true c5
        clear c5
        simp only [Option.some.injEq, Prod.mk.injEq] at H
        obtain ⟨rfl, rfl⟩ := H
        have p4 : 0 ≤ (0 : Int) := (by omega)
        have q4 : 0 < a0.size := (by have : (0 : Int) < (a0.size : Int) := of_decide_eq_true (by first | (with_reducible assumption) | assumption); omega)
        have hx4 : ∀ h : 0 < a0.size, ((a0[0]'h).toNat : Int) = bt a0 0 := bt_at a0 0
        clear p4
        have qi4 : (0 < (a0.size : Int)) = True := eq_true (of_decide_eq_true (by first | (with_reducible assumption) | assumption))
        replace q4 := eq_true q4
        go_enter Tryd.func47, Tryd.ntmps47
        go_wp2
        go_ret2
        exact ⟨by first | rfl | (simp; done) | (simp [*]; done), by repeat (first | exact Drawn0.refl _ | apply Drawn0.step)⟩
      · rw [if_neg c5] at H
        have c5b0 : decide ((bt a0 0) < 48) = false := decide_eq_false c5
        clear c5
        by_cases c7 : (bt a0 0) > 57
        · rw [if_pos c7] at H
          have c7b0 : decide (57 < (bt a0 0)) = true := decide_eq_true c7
          clear c7
          simp only [Option.some.injEq, Prod.mk.injEq] at H
          obtain ⟨rfl, rfl⟩ := H
          have p4 : 0 ≤ (0 : Int) := (by omega)
          have q4 : 0 < a0.size := (by have : (0 : Int) < (a0.size : Int) := of_decide_eq_true (by first | (with_reducible assumption) | assumption); omega)
          have hx4 : ∀ h : 0 < a0.size, ((a0[0]'h).toNat : Int) = bt a0 0 := bt_at a0 0
          clear p4
          have qi4 : (0 < (a0.size : Int)) = True := eq_true (of_decide_eq_true (by first | (with_reducible assumption) | assumption))
          replace q4 := eq_true q4
          have p6 : 0 ≤ (0 : Int) := (by omega)
          have q6 : 0 < a0.size := (by have : (0 : Int) < (a0.size : Int) := of_decide_eq_true (by first | (with_reducible assumption) | assumption); omega)
          have hx6 : ∀ h : 0 < a0.size, ((a0[0]'h).toNat : Int) = bt a0 0 := bt_at a0 0
          clear p6
          have qi6 : (0 < (a0.size : Int)) = True := eq_true (of_decide_eq_true (by first | (with_reducible assumption) | assumption))
          replace q6 := eq_true q6
          go_enter Tryd.func47, Tryd.ntmps47
          go_wp2
          go_ret2
          exact ⟨by first | rfl | (simp; done) | (simp [*]; done), by repeat (first | exact Drawn0.refl _ | apply Drawn0.step)⟩
        · rw [if_neg c7] at H
          have c7b0 : decide (57 < (bt a0 0)) = false := decide_eq_false c7
          clear c7
          simp only [Option.some.injEq, Prod.mk.injEq] at H
          obtain ⟨rfl, rfl⟩ := H
          have p4 : 0 ≤ (0 : Int) := (by omega)
          have q4 : 0 < a0.size := (by have : (0 : Int) < (a0.size : Int) := of_decide_eq_true (by first | (with_reducible assumption) | assumption); omega)
          have hx4 : ∀ h : 0 < a0.size, ((a0[0]'h).toNat : Int) = bt a0 0 := bt_at a0 0
          clear p4
          have qi4 : (0 < (a0.size : Int)) = True := eq_true (of_decide_eq_true (by first | (with_reducible assumption) | assumption))
          replace q4 := eq_true q4
          have p6 : 0 ≤ (0 : Int) := (by omega)
          have q6 : 0 < a0.size := (by have : (0 : Int) < (a0.size : Int) := of_decide_eq_true (by first | (with_reducible assumption) | assumption); omega)
          have hx6 : ∀ h : 0 < a0.size, ((a0[0]'h).toNat : Int) = bt a0 0 := bt_at a0 0
          clear p6
          have qi6 : (0 < (a0.size : Int)) = True := eq_true (of_decide_eq_true (by first | (with_reducible assumption) | assumption))
          replace q6 := eq_true q6
          have p8 : 0 ≤ (0 : Int) := (by omega)
          have q8 : 0 < a0.size := (by have : (0 : Int) < (a0.size : Int) := of_decide_eq_true (by first | (with_reducible assumption) | assumption); omega)
          have hx8 : ∀ h : 0 < a0.size, ((a0[0]'h).toNat : Int) = bt a0 0 := bt_at a0 0
          clear p8
          have qi8 : (0 < (a0.size : Int)) = True := eq_true (of_decide_eq_true (by first | (with_reducible assumption) | assumption))
          replace q8 := eq_true q8
          go_enter Tryd.func47, Tryd.ntmps47
          go_wp2
          go_ret2
          exact ⟨by first | rfl | (simp; done) | (simp [*]; done), by repeat (first | exact Drawn0.refl _ | apply Drawn0.step)⟩
    · rw [if_neg c3] at H
      exact absurd H (by simp)
  · rw [if_neg c2] at H
    have c2b0 : ((a0.size : Int) == 1) = false := beq_eq_false_iff_ne.mpr c2
    have c2b1 : ((a0.size : Int) != 1) = true := bne_iff_ne.mpr c2
    simp only [Option.some.injEq, Prod.mk.injEq] at H
    obtain ⟨rfl, rfl⟩ := H
    go_enter Tryd.func47, Tryd.ntmps47
    go_wp2
    go_ret2
    exact ⟨by first | rfl | (simp; done) | (simp [*]; done), by repeat (first | exact Drawn0.refl _ | apply Drawn0.step)⟩
end Go.Proofs.YtecdjnabmjhakaaDoor.P
namespace Go.Proofs.YtecdjnabmjhakaaDoor.P
open Go.RowKit Go.Proofs.YtecdjnabmjhakaaDoorW.PrintWords Go.Proofs.YtecdjnabmjhakaaDoorW.PrintLast Go.Proofs.YtecdjnabmjhakaaDoorW.PrintMore
attribute [local go_sem] max2_int min2_int max_two min_two max_three min_three max_four min_four   -- for this text's walks alone
set_option linter.unusedVariables false
set_option linter.unusedSimpArgs false
mutual
def stemma_Read.l0 : Nat → List (S25) → List ByteArray → Int → Int → Bool → List ByteArray → Int → Int → Option ((List (S25)) × Int × Int)
  | 0, _, _, _, _, _, _, _, _ => none
  | k + 1, x2, x5, x6, x7, x8, x25, x26, x27 => if x27 < x26 then (if 0 ≤ x27 then (if x27 < (x25.length : Int) then ((strings_Split.f (rdOf ByteArray.empty x25 x27) (⟨#[32]⟩ : ByteArray)).bind fun t313 => (if 0 ≤ (wrap64 ((t313.length : Int) - 1)) then (if (wrap64 ((t313.length : Int) - 1)) < (t313.length : Int) then ((stemma_digit.f (rdOf ByteArray.empty t313 (wrap64 ((t313.length : Int) - 1)))).bind fun bt317 => (if bt317.2 = true then (if x8 = true then (stemma_Read.j1 k x2 x5 x6 x7 x8 x27 t313 bt317.1 x25 x26 x27 true) else (if 0 < (t313.length : Int) then (stemma_Read.j1 k x2 x5 x6 x7 x8 x27 t313 bt317.1 x25 x26 x27 (((rdOf ByteArray.empty t313 0).toList == ([112, 108, 97, 99, 101, 115] : List UInt8)) != (x27 == 0))) else (none))) else (stemma_Read.j1 k x2 x5 x6 x7 x8 x27 t313 bt317.1 x25 x26 x27 true))) else (none)) else (none))) else (none)) else (none)) else (if x8 = true then (if 0 ≤ x6 then (if x6 < (x5.length : Int) then (stemma_Read.j3 k x2 x6 ((rdOf ByteArray.empty x5 x6).toList != ([] : List UInt8))) else (none)) else (none)) else (stemma_Read.j3 k x2 x6 true))
def stemma_Read.j1 : Nat → List (S25) → List ByteArray → Int → Int → Bool → Int → List ByteArray → Int → List ByteArray → Int → Int → Bool → Option ((List (S25)) × Int × Int)
  | 0, _, _, _, _, _, _, _, _, _, _, _, _ => none
  | k + 1, x2, x5, x6, x7, x8, x9, x11, x12, x25, x26, x27, x80 => if x80 = true then (some (([] : List (S25)), wrap64 (x9 + 1), 2)) else (if x9 = 0 then (if ((x11.length : Int) = 2) then (stemma_Read.l0 k x2 x5 x6 x12 x8 x25 x26 (wrap64 (x27 + 1))) else (some (([] : List (S25)), wrap64 (x9 + 1), 2))) else (if 0 < (x11.length : Int) then (if (rdOf ByteArray.empty x11 0).toList = ([99, 111, 112, 105, 101, 115] : List UInt8) then (if (x11.length : Int) = 2 then (if (x12 = (x2.length : Int)) then (stemma_Read.l0 k x2 x5 x6 x7 true x25 x26 (wrap64 (x27 + 1))) else (some (([] : List (S25)), wrap64 (x9 + 1), 2))) else (some (([] : List (S25)), wrap64 (x9 + 1), 2))) else (if (rdOf ByteArray.empty x11 0).toList = ([115, 97, 119] : List UInt8) then (if (x11.length : Int) = 3 then (if 1 < (x11.length : Int) then (stemma_Read.j2 k x2 x5 x6 x7 x8 x9 x11 x12 (((rdOf ByteArray.empty x11 1).size : Int) == x7) x25 x26 x27) else (none)) else (stemma_Read.j2 k x2 x5 x6 x7 x8 x9 x11 x12 false x25 x26 x27)) else (if (rdOf ByteArray.empty x11 0).toList = ([104, 97, 100] : List UInt8) then (if (x11.length : Int) = 3 then (if 1 < (x11.length : Int) then (stemma_Read.j2 k x2 x5 x6 x7 x8 x9 x11 x12 (((rdOf ByteArray.empty x11 1).size : Int) == x7) x25 x26 x27) else (none)) else (stemma_Read.j2 k x2 x5 x6 x7 x8 x9 x11 x12 false x25 x26 x27)) else (stemma_Read.j2 k x2 x5 x6 x7 x8 x9 x11 x12 false x25 x26 x27)))) else (none)))
def stemma_Read.j2 : Nat → List (S25) → List ByteArray → Int → Int → Bool → Int → List ByteArray → Int → Bool → List ByteArray → Int → Int → Option ((List (S25)) × Int × Int)
  | 0, _, _, _, _, _, _, _, _, _, _, _, _ => none
  | k + 1, x2, x5, x6, x7, x8, x9, x11, x12, x13, x25, x26, x27 => if x13 = true then (if 1 < (x11.length : Int) then (if 0 < (x11.length : Int) then (if x2.length < 4398046511104 then (stemma_Read.l0 k (x2 ++ [(⟨rdOf ByteArray.empty x11 1, x12, ((rdOf ByteArray.empty x11 0).toList == ([115, 97, 119] : List UInt8))⟩ : S25)]) x5 x6 x7 x8 x25 x26 (wrap64 (x27 + 1))) else (none)) else (none)) else (none)) else (some (([] : List (S25)), wrap64 (x9 + 1), 2))
def stemma_Read.j3 : Nat → List (S25) → Int → Bool → Option ((List (S25)) × Int × Int)
  | 0, _, _, _ => none
  | k + 1, x2, x6, x129 => if x129 = true then (some (([] : List (S25)), wrap64 (x6 + 1), 2)) else ((stemma_Check.f k x2).bind fun t331 => (if t331 = 0 then (some (x2, 0, 0)) else (some (([] : List (S25)), 0, t331))))
end
def stemma_Read.f (k : Nat) (a0 : ByteArray) : Option ((List (S25)) × Int × Int) := if (a0.size : Int) > 200 then (some (([] : List (S25)), 0, 10)) else ((strings_Split.f a0 (⟨#[10]⟩ : ByteArray)).bind fun t305 => (if 0 ≤ (wrap64 ((t305.length : Int) - 1)) then (if (wrap64 ((t305.length : Int) - 1)) ≤ (t305.length : Int) then ((some (t305.take ((wrap64 ((t305.length : Int) - 1)) : Int).toNat : List ByteArray)).bind fun y308 => (stemma_Read.l0 k ([] : List (S25)) t305 (wrap64 ((t305.length : Int) - 1)) 0 false y308 (y308.length : Int) 0)) else (none)) else (none)))
def stemma_Read.T13 : Bool × List (List Nat × List Nat) := (true, [([], []), ([], []), ([1], [1]), ([2], [2]), ([], []), ([], []), ([5], [5]), ([6], [6]), ([7], [7]), ([3, 4, 8], [3, 4, 8]), ([9], [9]), ([0, 10], [0, 10]), ([11, 11, 0, 1, 2, 3, 4, 5, 6, 7, 8, 9, 10, 11], [0, 11])])
def stemma_Read.B13 : List Nat := [0, 0, 2, 6, 0, 0, 32, 96, 224, 510, 1022, 2047, 4095]
theorem stemma_Read.tab13 : rtab .any (opsOf Tryd.f21 13) = stemma_Read.T13 := by kernel_rfl
theorem stemma_Read.bits13 : waitsOk stemma_Read.T13.2 stemma_Read.B13 = true := by kernel_rfl
set_option maxHeartbeats 8000000 in
set_option maxRecDepth 100000 in
theorem stemma_Read.calls (k : Nat) (a0 : ByteArray) (r1 : List (S25)) (r2 : Int) (r3 : Int) (w : World) (h : stemma_Read.f k a0 = some (r1, r2, r3)) :
    Calls Tryd.prog 21 #[.string a0] w fun e w' => ∃ v0_ : Value, e = .returned (.tuple #[v0_, .int .i64 r2, .int .i64 r3]) ∧ Kd.R k25 25 w' w.heap.size (fun _ => True) v0_ r1 ∧ Below w.heap.size w w' := by
  have hu25 := Tryd.underlying25
  have HB := Aside0.mk (Below.refl w.heap.size w)
  have H : (if (a0.size : Int) > 200 then (some (([] : List (S25)), 0, 10)) else ((strings_Split.f a0 (⟨#[10]⟩ : ByteArray)).bind fun t305 => (if 0 ≤ (wrap64 ((t305.length : Int) - 1)) then (if (wrap64 ((t305.length : Int) - 1)) ≤ (t305.length : Int) then ((some (t305.take ((wrap64 ((t305.length : Int) - 1)) : Int).toNat : List ByteArray)).bind fun y308 => (stemma_Read.l0 k ([] : List (S25)) t305 (wrap64 ((t305.length : Int) - 1)) 0 false y308 (y308.length : Int) 0)) else (none)) else (none)))) = some (r1, r2, r3) := h
  clear h
  by_cases c2 : (a0.size : Int) > 200
  · rw [if_pos c2] at H
    have c2b0 : decide (200 < (a0.size : Int)) = true := decide_eq_true c2
    have c2b1 : decide (200 < a0.size) = true := decide_eq_true (by omega)
    clear c2
    simp only [Option.some.injEq, Prod.mk.injEq] at H
    obtain ⟨rfl, rfl, rfl⟩ := H
    go_enter Tryd.func21, Tryd.ntmps21
    go_wp2
    go_ret3
    exact ⟨_, by first | rfl | (simp [errW_none, errW_some] <;> rfl) | (simp [*, errW_none, errW_some] <;> rfl), by first | exact Kd.R_nil _ _ _ _ _ | exact Kd.N_nil _ _ _ _ _ | exact Kd.V_nil _ _ _ _ _ | exact Kd.Q_nil _ _ _ _ _ | exact Kd.S_nil _ _ _ _ _, by repeat (first | (with_reducible first | exact HB.out | apply below_alloc | apply pw_below_drewN | apply below_drew1) | exact HB.out)⟩
  · rw [if_neg c2] at H
    have c2b0 : decide (200 < (a0.size : Int)) = false := decide_eq_false c2
    have c2b1 : decide (200 < a0.size) = false := decide_eq_false (by omega)
    clear c2
    replace H := Option.bind_eq_some_iff.mp H
    obtain ⟨t305, A30, H⟩ := H
    replace H : (if 0 ≤ (wrap64 ((t305.length : Int) - 1)) then (if (wrap64 ((t305.length : Int) - 1)) ≤ (t305.length : Int) then ((some (t305.take ((wrap64 ((t305.length : Int) - 1)) : Int).toNat : List ByteArray)).bind fun y308 => (stemma_Read.l0 k ([] : List (S25)) t305 (wrap64 ((t305.length : Int) - 1)) 0 false y308 (y308.length : Int) 0)) else (none)) else (none)) = some (r1, r2, r3) := H
    have A3 := Aside0.mk A30
    clear A30
    obtain ⟨ji4, hji4⟩ : ∃ j_ : Int, (wrap64 ((t305.length : Int) - 1)) = j_ := ⟨_, rfl⟩
    replace H : (if 0 ≤ (ji4) then (if (ji4) ≤ (t305.length : Int) then ((some (t305.take ((ji4) : Int).toNat : List ByteArray)).bind fun y308 => (stemma_Read.l0 k ([] : List (S25)) t305 ji4 0 false y308 (y308.length : Int) 0)) else (none)) else (none)) = some (r1, r2, r3) := by first | (rw [hji4] at H; exact H) | (simp only [hji4] at H ⊢; exact H)
    (try rw [hji4] at A3)
    have hji4w : (IntKind.i64.wrap ((t305.length : Int) - 1)) = ji4 := (i64_w _).trans hji4
    by_cases c5 : 0 ≤ (ji4)
    · rw [if_pos c5] at H
      have c5b0 := eq_true c5
      have c5b1 : decide (0 ≤ (ji4)) = true := decide_eq_true c5
      clear c5
      by_cases c6 : (ji4) ≤ (t305.length : Int)
      · rw [if_pos c6] at H
        have c6b0 := eq_true c6
        have c6b1 : decide ((ji4) ≤ (t305.length : Int)) = true := decide_eq_true c6
        clear c6
        obtain ⟨y308, hy308⟩ : ∃ y_ : List ByteArray, y_ = (t305.take ((ji4) : Int).toNat) := ⟨_, rfl⟩
        replace H : (stemma_Read.l0 k ([] : List (S25)) t305 ji4 0 false y308 (y308.length : Int) 0) = some (r1, r2, r3) := by first | (rw [hy308]; with_reducible exact H) | (have H2_ := (Option.bind_some _ _).symm.trans H; rw [hy308]; with_reducible exact H2_) | (have H2_ := (Option.bind_some _ _).symm.trans H; with_reducible exact H2_) | with_reducible exact H | (rw [hy308]; exact H) | exact H
        have Ny308 := Aside0.mk hy308
        clear hy308
        have H' := Aside0.mk H
        clear H
        go_enter Tryd.func21, Tryd.ntmps21
        go_wp2_with (first | ((with_reducible refine gate_callee (f := 46) rfl ?_); refine goesL_ (some 19) rfl rfl Tryd.func46 (by kernel_rfl) rfl #[.string a0, .string (⟨#[10]⟩ : ByteArray)] rfl (by (try simp only [List.map_toArray, List.map_cons, List.map_nil]); first | done | rfl | (simp only [List.length_drop, List.length_take]; rfl)) ?_; (with_reducible refine (strings_Split.calls a0 (⟨#[10]⟩ : ByteArray) t305 _ A3.out).mono ?_); rintro e w7 ⟨v306, rfl, ho0, hb⟩; refine ⟨_, rfl, ?_⟩; have n0_ := Aside0.mk (Kd.R_lower ho0 (below_size (by repeat (first | (with_reducible first | exact HB.out | apply below_alloc | apply pw_below_drewN | apply below_drew1) | exact HB.out)))); have n1_ := Aside0.mk (below_step (by repeat (first | (with_reducible first | exact HB.out | apply below_alloc | apply pw_below_drewN | apply below_drew1) | exact HB.out)) hb); clear HB; have HO307 := n0_; have HB := n1_; clear n0_ n1_; (try clear hb); (try clear hb2); (try clear hk); (try clear hi); (try clear ho0); obtain ⟨Ao8, co8, eo8⟩ := Kd.R_slice HO307.out; subst eo8; have q9 : ((ji4) : Int) ≤ ((t305.length : Int) : Int) := of_decide_eq_true (by first | (with_reducible assumption) | assumption); obtain ⟨i09, hi09, _, hsz9, _⟩ := info_parts info9; have hroom9 : t305.length ≤ co8 := (Kd.R_reads' HO307.out).2.1; have hC9 : Kd.C Kd.string _ Ao8 t305.length t305 := (Kd.R_reads' HO307.out).2.2; have hcut9 := cut_to (P := Tryd.prog) 36 9 .i64 Tryd.underlying36 hi09 Ao8 t305.length co8 (ji4) (of_decide_eq_true (by first | (with_reducible assumption) | assumption)) q9 hroom9; have hr9 := Kd.C_take (m := ((ji4) : Int).toNat) hC9 (by omega); have hy9 : y308.length = ((ji4) : Int).toNat := (by rw [Ny308.out, List.length_take]; omega); rw [← Ny308.out] at hr9; rw [← hy9] at hcut9; have HR311 := Aside0.mk hr9; have HC311 := Aside0.mk (show y308.length ≤ co8 from by omega); clear hr9 hC9 hroom9 hi09 hsz9; have KY9 := Aside0.mk hy9; clear hy9; have KL9 := Aside0.mk (show ((ji4) : Int).toNat ≤ t305.length from by omega); replace q9 := eq_true q9))
        go_loopg [2, 7, 8, 27] k (fun kq v2 v7 v8 v27 w' => ∃ (x2_1 : List (S25)) (x7_1 : Int) (x8_1 : Bool) (x27_1 : Int), v7 = .int .i64 x7_1 ∧ v8 = .bool x8_1 ∧ v27 = .int .i64 x27_1 ∧ Aside0 (stemma_Read.l0 kq x2_1 t305 ji4 x7_1 x8_1 y308 (y308.length : Int) x27_1 = some (r1, r2, r3)) ∧ Aside0 (kq ≤ k) ∧ Aside0 (Kd.R k25 25 w' w.heap.size (fun _ => True) v2 x2_1) ∧ Aside0 (Kd.R Kd.string 9 w' w.heap.size (fun _ => True) (.slice Ao8 t305.length co8) t305) ∧ Aside0 (Below w.heap.size w w'))
        case atStart => exact ⟨(([] : List (S25))), (0), (false), (0), (by first | rfl | (simp; done) | (simp [*]; done)), (by first | rfl | (simp; done) | (simp [*]; done)), (by first | rfl | (simp; done) | (simp [*]; done)), H', ⟨Nat.le_refl _⟩, ⟨by first | exact Kd.R_nil _ _ _ _ _ | exact Kd.N_nil _ _ _ _ _ | exact Kd.V_nil _ _ _ _ _ | exact Kd.Q_nil _ _ _ _ _ | exact Kd.S_nil _ _ _ _ _⟩, ⟨by (with_reducible repeat (first | apply Kd.R_alloc | apply Kd.R_drewN | apply Kd.R_drew)); exact HO307.out⟩, ⟨by repeat (first | (with_reducible first | exact HB.out | apply below_alloc | apply pw_below_drewN | apply below_drew1) | exact HB.out)⟩⟩
        case round =>
          clear H'
          try clear c2
          try clear c2b0
          try clear c2b1
          try clear p2
          try clear c4
          try clear c5
          try clear c5b0
          try clear c5b1
          try clear c6
          try clear c6b0
          try clear c6b1
          try clear p6
          try clear q9
          try clear q9
          obtain ⟨x2_1, x7_1, x8_1, x27_1, rfl, rfl, rfl, HA, HK1, HO_2, HO_5, HB⟩ := hrel
          have hr_ := Kd.C_take (m := ((ji4) : Int).toNat) (Kd.R_reads' HO_5.out).2.2 KL9.out
          rw [← Ny308.out] at hr_
          clear HR311
          have HR311 := Aside0.mk hr_
          clear hr_
          cases gk with
          | zero => exact absurd HA.out (by simp [stemma_Read.l0])
          | succ k1 =>
            have H := HA.out
            clear HA
            simp only [stemma_Read.l0] at H
            by_cases c10 : x27_1 < (y308.length : Int)
            · rw [if_pos c10] at H
              have c10b0 : decide (x27_1 < (y308.length : Int)) = true := decide_eq_true c10
              clear c10
              by_cases c11 : 0 ≤ x27_1
              · rw [if_pos c11] at H
                have c11b0 : decide (0 ≤ x27_1) = true := decide_eq_true c11
                clear c11
                by_cases c12 : x27_1 < (y308.length : Int)
                · rw [if_pos c12] at H
                  have c12b0 : decide (x27_1 < (y308.length : Int)) = true := decide_eq_true c12
                  clear c12
                  replace H := Option.bind_eq_some_iff.mp H
                  obtain ⟨t313, A130, H⟩ := H
                  replace H : (if 0 ≤ (wrap64 ((t313.length : Int) - 1)) then (if (wrap64 ((t313.length : Int) - 1)) < (t313.length : Int) then ((stemma_digit.f (rdOf ByteArray.empty t313 (wrap64 ((t313.length : Int) - 1)))).bind fun bt317 => (if bt317.2 = true then (if x8_1 = true then (stemma_Read.j1 k1 x2_1 t305 ji4 x7_1 x8_1 x27_1 t313 bt317.1 y308 (y308.length : Int) x27_1 true) else (if 0 < (t313.length : Int) then (stemma_Read.j1 k1 x2_1 t305 ji4 x7_1 x8_1 x27_1 t313 bt317.1 y308 (y308.length : Int) x27_1 (((rdOf ByteArray.empty t313 0).toList == ([112, 108, 97, 99, 101, 115] : List UInt8)) != (x27_1 == 0))) else (none))) else (stemma_Read.j1 k1 x2_1 t305 ji4 x7_1 x8_1 x27_1 t313 bt317.1 y308 (y308.length : Int) x27_1 true))) else (none)) else (none)) = some (r1, r2, r3) := H
                  have A13 := Aside0.mk A130
                  clear A130
                  obtain ⟨ji14, hji14⟩ : ∃ j_ : Int, (wrap64 ((t313.length : Int) - 1)) = j_ := ⟨_, rfl⟩
                  replace H : (if 0 ≤ (ji14) then (if (ji14) < (t313.length : Int) then ((stemma_digit.f (rdOf ByteArray.empty t313 (ji14))).bind fun bt317 => (if bt317.2 = true then (if x8_1 = true then (stemma_Read.j1 k1 x2_1 t305 ji4 x7_1 x8_1 x27_1 t313 bt317.1 y308 (y308.length : Int) x27_1 true) else (if 0 < (t313.length : Int) then (stemma_Read.j1 k1 x2_1 t305 ji4 x7_1 x8_1 x27_1 t313 bt317.1 y308 (y308.length : Int) x27_1 (((rdOf ByteArray.empty t313 0).toList == ([112, 108, 97, 99, 101, 115] : List UInt8)) != (x27_1 == 0))) else (none))) else (stemma_Read.j1 k1 x2_1 t305 ji4 x7_1 x8_1 x27_1 t313 bt317.1 y308 (y308.length : Int) x27_1 true))) else (none)) else (none)) = some (r1, r2, r3) := by first | (rw [hji14] at H; exact H) | (simp only [hji14] at H ⊢; exact H)
                  (try rw [hji14] at A13)
                  have hji14w : (IntKind.i64.wrap ((t313.length : Int) - 1)) = ji14 := (i64_w _).trans hji14
                  by_cases c15 : 0 ≤ (ji14)
                  · rw [if_pos c15] at H
                    have c15b0 : decide (0 ≤ (ji14)) = true := decide_eq_true c15
                    clear c15
                    by_cases c16 : (ji14) < (t313.length : Int)
                    · rw [if_pos c16] at H
                      have c16b0 : decide ((ji14) < (t313.length : Int)) = true := decide_eq_true c16
                      clear c16
                      replace H := Option.bind_eq_some_iff.mp H
                      obtain ⟨⟨t317, t318⟩, A170, H⟩ := H
                      replace H : (if t318 = true then (if x8_1 = true then (stemma_Read.j1 k1 x2_1 t305 ji4 x7_1 x8_1 x27_1 t313 t317 y308 (y308.length : Int) x27_1 true) else (if 0 < (t313.length : Int) then (stemma_Read.j1 k1 x2_1 t305 ji4 x7_1 x8_1 x27_1 t313 t317 y308 (y308.length : Int) x27_1 (((rdOf ByteArray.empty t313 0).toList == ([112, 108, 97, 99, 101, 115] : List UInt8)) != (x27_1 == 0))) else (none))) else (stemma_Read.j1 k1 x2_1 t305 ji4 x7_1 x8_1 x27_1 t313 t317 y308 (y308.length : Int) x27_1 true)) = some (r1, r2, r3) := H
                      have A17 := Aside0.mk A170
                      clear A170
                      have HC18 := Aside0.mk H
                      clear H
                      have p312 : 0 ≤ (x27_1 : Int) := of_decide_eq_true (by first | (with_reducible assumption) | assumption)
                      have q312 : x27_1 < (y308.length : Int) := of_decide_eq_true (by first | (with_reducible assumption) | assumption)
                      obtain ⟨ad312, e312, hx312_0⟩ := Kd.at_string HR311.out x27_1 p312 q312
                      cases e312
                      try replace hx312_0 := (HB.out.cell (World.block_lt_of_cell? w _ hx312_0)).trans hx312_0
                      replace p312 := eq_true p312
                      replace q312 := eq_true q312
                      go_upto_region 14 with (first | ((with_reducible refine gate_callee (f := 46) rfl ?_); refine goesL_ (some 33) rfl rfl Tryd.func46 (by kernel_rfl) rfl #[.string (rdOf ByteArray.empty y308 x27_1), .string (⟨#[32]⟩ : ByteArray)] rfl (by (try simp only [List.map_toArray, List.map_cons, List.map_nil]); first | done | rfl | (simp only [List.length_drop, List.length_take]; rfl)) ?_; (with_reducible refine (strings_Split.calls (rdOf ByteArray.empty y308 x27_1) (⟨#[32]⟩ : ByteArray) t313 _ A13.out).mono ?_); rintro e w19 ⟨v314, rfl, ho0, hb⟩; refine ⟨_, rfl, ?_⟩; have n0_ := Aside0.mk (Kd.R_below (by (with_reducible repeat (first | apply Kd.R_alloc | apply Kd.R_drewN | apply Kd.R_drew)); exact HO_2.out) hb); have n1_ := Aside0.mk (Kd.R_elder' (by (with_reducible repeat (first | apply Kd.R_alloc | apply Kd.R_drewN | apply Kd.R_drew)); exact HO_5.out) (Kd.R_base ho0) hb); have n2_ := Aside0.mk (Kd.R_lower (Kd.R_new' ho0 (Kd.R_lt (by (with_reducible repeat (first | apply Kd.R_alloc | apply Kd.R_drewN | apply Kd.R_drew)); exact HO_5.out))) (below_size (by repeat (first | (with_reducible first | exact HB.out | apply below_alloc | apply pw_below_drewN | apply below_drew1) | exact HB.out)))); have n3_ := Aside0.mk (below_step (by repeat (first | (with_reducible first | exact HB.out | apply below_alloc | apply pw_below_drewN | apply below_drew1) | exact HB.out)) hb); clear HO_2; clear HO_5; clear HB; have HO_2 := n0_; have HO_5 := n1_; have HO315 := n2_; have HB := n3_; clear n0_ n1_ n2_ n3_; (try clear hb); (try clear hb2); (try clear hk); (try clear hi); (try clear ho0); obtain ⟨Ao20, co20, eo20⟩ := Kd.R_slice HO315.out; subst eo20; have p316 : 0 ≤ ((ji14) : Int) := of_decide_eq_true (by first | (with_reducible assumption) | assumption); have q316 : (ji14) < (t313.length : Int) := of_decide_eq_true (by first | (with_reducible assumption) | assumption); obtain ⟨ad316, e316, hx316_0⟩ := Kd.at_string (Kd.R_reads' HO315.out).2.2 (ji14) p316 q316; cases e316; replace p316 := eq_true p316; replace q316 := eq_true q316) | ((with_reducible refine gate_callee (f := 47) rfl ?_); refine goesL_ (some 41) rfl rfl Tryd.func47 (by kernel_rfl) rfl #[.string (rdOf ByteArray.empty t313 (ji14))] rfl (by (try simp only [List.map_toArray, List.map_cons, List.map_nil]); first | done | (simp only [hji14]; rfl) | rfl | (simp only [List.length_drop, List.length_take]; rfl)) ?_; (with_reducible refine (stemma_digit.calls (rdOf ByteArray.empty t313 (ji14)) t317 t318 _ A17.out).mono ?_); rintro e w' ⟨rfl, ⟨nd, rfl⟩⟩; refine ⟨_, rfl, ?_⟩))
                      (try simp only [Act.put, List.setIfInBounds_toArray, List.set_cons_zero, List.set_cons_succ])
                      go_cut [80] (fun v80 wc => ∃ (kq : Nat) (x80_17 : Bool), v80 = .bool x80_17 ∧ Aside0 (stemma_Read.j1 kq x2_1 t305 ji4 x7_1 x8_1 x27_1 t313 t317 y308 (y308.length : Int) x27_1 x80_17 = some (r1, r2, r3)) ∧ Aside0 (kq ≤ k1) ∧ Aside0 (Kd.R k25 25 wc w.heap.size (fun _ => True) u2 x2_1) ∧ Aside0 (Kd.R Kd.string 9 wc w.heap.size (fun k_ => some k_ ≠ ((.slice (some ad316) t313.length co20) : Value).ownBlock) (.slice (some ad312) t305.length co8) t305) ∧ Aside0 (Kd.R Kd.string 9 wc w.heap.size (fun k_ => some k_ ≠ ((.slice (some ad312) t305.length co8) : Value).ownBlock) (.slice (some ad316) t313.length co20) t313) ∧ Aside0 (Below w.heap.size w wc))
                      case first =>
                        have H := HC18.out
                        clear HC18
                        by_cases c21 : t318 = true
                        · subst c21
                          have H1 : (if x8_1 = true then (stemma_Read.j1 k1 x2_1 t305 ji4 x7_1 x8_1 x27_1 t313 t317 y308 (y308.length : Int) x27_1 true) else (if 0 < (t313.length : Int) then (stemma_Read.j1 k1 x2_1 t305 ji4 x7_1 x8_1 x27_1 t313 t317 y308 (y308.length : Int) x27_1 (((rdOf ByteArray.empty t313 0).toList == ([112, 108, 97, 99, 101, 115] : List UInt8)) != (x27_1 == 0))) else (none))) = some (r1, r2, r3) := by rw [if_pos rfl] at H; exact H
                          clear H
                          have H := H1
                          clear H1
                          by_cases c22 : x8_1 = true
                          · subst c22
                            have H1 : (stemma_Read.j1 k1 x2_1 t305 ji4 x7_1 true x27_1 t313 t317 y308 (y308.length : Int) x27_1 true) = some (r1, r2, r3) := by rw [if_pos rfl] at H; exact H
                            clear H
                            have H := H1
                            clear H1
                            have H' := Aside0.mk H
                            clear H
                            go_wp2
                            go_meet
                            case rel => exact ⟨_, (true), (by first | rfl | (simp; done) | (simp [*]; done)), H', ⟨by have := HK1.out; first | omega | exact Nat.le_refl _⟩, ⟨by (with_reducible repeat (first | apply Kd.R_alloc | apply Kd.R_drewN | apply Kd.R_drew)); exact HO_2.out⟩, ⟨by (with_reducible repeat (first | apply Kd.R_alloc | apply Kd.R_drewN | apply Kd.R_drew)); exact Kd.R_mono HO_5.out (fun _ hk => hk.2)⟩, ⟨by (with_reducible repeat (first | apply Kd.R_alloc | apply Kd.R_drewN | apply Kd.R_drew)); exact Kd.R_mono HO315.out (fun _ hk => hk.2)⟩, ⟨by repeat (first | (with_reducible first | exact HB.out | apply below_alloc | apply pw_below_drewN | apply below_drew1) | exact HB.out)⟩⟩
                          · replace c22 := Bool.eq_false_iff.mpr c22
                            subst c22
                            have H1 : (if 0 < (t313.length : Int) then (stemma_Read.j1 k1 x2_1 t305 ji4 x7_1 false x27_1 t313 t317 y308 (y308.length : Int) x27_1 (((rdOf ByteArray.empty t313 0).toList == ([112, 108, 97, 99, 101, 115] : List UInt8)) != (x27_1 == 0))) else (none)) = some (r1, r2, r3) := by rw [if_neg (show ¬ (false = true) by decide)] at H; exact H
                            clear H
                            have H := H1
                            clear H1
                            by_cases c23 : 0 < (t313.length : Int)
                            · rw [if_pos c23] at H
                              have c23b0 : decide (0 < (t313.length : Int)) = true := decide_eq_true c23
                              have c23b1 : decide (0 < t313.length) = true := decide_eq_true (by omega)
                              clear c23
                              (first | rw [c23b0] | (simp only [i64_w, i32_w]; rw [c23b0]) | skip)
                              have H' := Aside0.mk H
                              clear H
                              have p319 : 0 ≤ (0 : Int) := (by omega)
                              have q319 : 0 < (t313.length : Int) := of_decide_eq_true (by first | (with_reducible assumption) | assumption)
                              obtain ⟨ad319, e319, hx319_0⟩ := Kd.at_string (Kd.R_reads' HO315.out).2.2 0 p319 q319
                              obtain rfl : ad316 = ad319 := (by injection e319)
                              have qi319 : (0 < t313.length) = True := eq_true (by omega)
                              (try rw [show ((0 : Int)).toNat = 0 from rfl] at hx319_0)
                              (try rw [Addr.add_zero'] at hx319_0)
                              replace p319 := eq_true p319
                              replace q319 := eq_true q319
                              go_wp2
                              go_meet
                              case rel => exact ⟨_, ((((rdOf ByteArray.empty t313 0).toList == ([112, 108, 97, 99, 101, 115] : List UInt8)) != (x27_1 == 0))), (by first | rfl | (simp; done) | (simp [*]; done)), H', ⟨by have := HK1.out; first | omega | exact Nat.le_refl _⟩, ⟨by (with_reducible repeat (first | apply Kd.R_alloc | apply Kd.R_drewN | apply Kd.R_drew)); exact HO_2.out⟩, ⟨by (with_reducible repeat (first | apply Kd.R_alloc | apply Kd.R_drewN | apply Kd.R_drew)); exact Kd.R_mono HO_5.out (fun _ hk => hk.2)⟩, ⟨by (with_reducible repeat (first | apply Kd.R_alloc | apply Kd.R_drewN | apply Kd.R_drew)); exact Kd.R_mono HO315.out (fun _ hk => hk.2)⟩, ⟨by repeat (first | (with_reducible first | exact HB.out | apply below_alloc | apply pw_below_drewN | apply below_drew1) | exact HB.out)⟩⟩
                            · rw [if_neg c23] at H
                              exact absurd H (by simp)
                        · replace c21 := Bool.eq_false_iff.mpr c21
                          subst c21
                          have H1 : (stemma_Read.j1 k1 x2_1 t305 ji4 x7_1 x8_1 x27_1 t313 t317 y308 (y308.length : Int) x27_1 true) = some (r1, r2, r3) := by rw [if_neg (show ¬ (false = true) by decide)] at H; exact H
                          clear H
                          have H := H1
                          clear H1
                          have H' := Aside0.mk H
                          clear H
                          go_wp2
                          go_meet
                          case rel => exact ⟨_, (true), (by first | rfl | (simp; done) | (simp [*]; done)), H', ⟨by have := HK1.out; first | omega | exact Nat.le_refl _⟩, ⟨by (with_reducible repeat (first | apply Kd.R_alloc | apply Kd.R_drewN | apply Kd.R_drew)); exact HO_2.out⟩, ⟨by (with_reducible repeat (first | apply Kd.R_alloc | apply Kd.R_drewN | apply Kd.R_drew)); exact Kd.R_mono HO_5.out (fun _ hk => hk.2)⟩, ⟨by (with_reducible repeat (first | apply Kd.R_alloc | apply Kd.R_drewN | apply Kd.R_drew)); exact Kd.R_mono HO315.out (fun _ hk => hk.2)⟩, ⟨by repeat (first | (with_reducible first | exact HB.out | apply below_alloc | apply pw_below_drewN | apply below_drew1) | exact HB.out)⟩⟩
                      case rest =>
                        clear HC18
                        try clear c1
                        try clear c2
                        try clear c2b0
                        try clear c2b1
                        try clear p2
                        try clear p3
                        try clear q3
                        try clear hx3
                        try clear qi3
                        try clear c4
                        try clear c5
                        try clear c5b0
                        try clear c5b1
                        try clear c6
                        try clear c6b0
                        try clear c6b1
                        try clear p6
                        try clear q9
                        try clear c10
                        try clear c10b0
                        try clear c11
                        try clear c11b0
                        try clear c12
                        try clear c12b0
                        try clear c15
                        try clear c15b0
                        try clear c16
                        try clear c16b0
                        try clear c21
                        try clear c22
                        try clear c23
                        try clear c23b0
                        try clear c23b1
                        try clear hx312_0
                        try clear hx316_0
                        try clear hx319_0
                        try clear p2
                        try clear p312
                        try clear p316
                        try clear p319
                        try clear p6
                        try clear q312
                        try clear q316
                        try clear q319
                        try clear q9
                        obtain ⟨kq, x80_17, rfl, HA, HJ17, HO_2, HO_5, HO_11, HB⟩ := hcut
                        cases kq with
                        | zero => exact absurd HA.out (by simp [stemma_Read.j1])
                        | succ kj17 =>
                          have H := HA.out
                          clear HA
                          simp only [stemma_Read.j1] at H
                          by_cases c24 : x80_17 = true
                          · subst c24
                            have H1 : (some (([] : List (S25)), wrap64 (x27_1 + 1), 2)) = some (r1, r2, r3) := by rw [if_pos rfl] at H; exact H
                            clear H
                            have H := H1
                            clear H1
                            simp only [Option.some.injEq, Prod.mk.injEq] at H
                            obtain ⟨rfl, rfl, rfl⟩ := H
                            go_wp2
                            go_ret3
                            exact ⟨_, by first | rfl | (simp [errW_none, errW_some] <;> rfl) | (simp only [← hji4, ← hji14]; first | rfl | (simp [errW_none, errW_some] <;> rfl)) | (simp [*, errW_none, errW_some] <;> rfl), by first | exact Kd.R_nil _ _ _ _ _ | exact Kd.N_nil _ _ _ _ _ | exact Kd.V_nil _ _ _ _ _ | exact Kd.Q_nil _ _ _ _ _ | exact Kd.S_nil _ _ _ _ _, by repeat (first | (with_reducible first | exact HB.out | apply below_alloc | apply pw_below_drewN | apply below_drew1) | exact HB.out)⟩
                          · replace c24 := Bool.eq_false_iff.mpr c24
                            subst c24
                            have H1 : (if x27_1 = 0 then (if ((t313.length : Int) = 2) then (stemma_Read.l0 kj17 x2_1 t305 ji4 t317 x8_1 y308 (y308.length : Int) (wrap64 (x27_1 + 1))) else (some (([] : List (S25)), wrap64 (x27_1 + 1), 2))) else (if 0 < (t313.length : Int) then (if (rdOf ByteArray.empty t313 0).toList = ([99, 111, 112, 105, 101, 115] : List UInt8) then (if (t313.length : Int) = 2 then (if (t317 = (x2_1.length : Int)) then (stemma_Read.l0 kj17 x2_1 t305 ji4 x7_1 true y308 (y308.length : Int) (wrap64 (x27_1 + 1))) else (some (([] : List (S25)), wrap64 (x27_1 + 1), 2))) else (some (([] : List (S25)), wrap64 (x27_1 + 1), 2))) else (if (rdOf ByteArray.empty t313 0).toList = ([115, 97, 119] : List UInt8) then (if (t313.length : Int) = 3 then (if 1 < (t313.length : Int) then (stemma_Read.j2 kj17 x2_1 t305 ji4 x7_1 x8_1 x27_1 t313 t317 (((rdOf ByteArray.empty t313 1).size : Int) == x7_1) y308 (y308.length : Int) x27_1) else (none)) else (stemma_Read.j2 kj17 x2_1 t305 ji4 x7_1 x8_1 x27_1 t313 t317 false y308 (y308.length : Int) x27_1)) else (if (rdOf ByteArray.empty t313 0).toList = ([104, 97, 100] : List UInt8) then (if (t313.length : Int) = 3 then (if 1 < (t313.length : Int) then (stemma_Read.j2 kj17 x2_1 t305 ji4 x7_1 x8_1 x27_1 t313 t317 (((rdOf ByteArray.empty t313 1).size : Int) == x7_1) y308 (y308.length : Int) x27_1) else (none)) else (stemma_Read.j2 kj17 x2_1 t305 ji4 x7_1 x8_1 x27_1 t313 t317 false y308 (y308.length : Int) x27_1)) else (stemma_Read.j2 kj17 x2_1 t305 ji4 x7_1 x8_1 x27_1 t313 t317 false y308 (y308.length : Int) x27_1)))) else (none))) = some (r1, r2, r3) := by rw [if_neg (show ¬ (false = true) by decide)] at H; exact H
                            clear H
                            have H := H1
                            clear H1
                            by_cases c25 : x27_1 = 0
                            · rw [if_pos c25] at H
                              have c25b0 : (x27_1 == 0) = true := beq_iff_eq.mpr c25
                              have c25b1 : (x27_1 != 0) = false := bne_eq_false_iff_eq.mpr c25
                              clear c25
                              by_cases c26 : ((t313.length : Int) = 2)
                              · rw [if_pos c26] at H
                                have c26b0 : ((t313.length : Int) == 2) = true := beq_iff_eq.mpr c26
                                have c26b1 : ((t313.length : Int) != 2) = false := bne_eq_false_iff_eq.mpr c26
                                clear c26
                                have H' := Aside0.mk H
                                clear H
                                go_wp2
                                go_roundg kj17
                                case measure => have := HK1.out; have := HJ17.out; omega
                                case rel => exact ⟨(x2_1), (t317), (x8_1), (wrap64 (x27_1 + 1)), (by first | rfl | (simp; done) | (simp [*]; done)), (by first | rfl | (simp; done) | (simp [*]; done)), (by first | rfl | (simp; done) | (simp [*]; done)), H', ⟨by have := HK1.out; have := HJ17.out; omega⟩, ⟨by (with_reducible repeat (first | apply Kd.R_alloc | apply Kd.R_drewN | apply Kd.R_drew)); exact HO_2.out⟩, ⟨by (with_reducible repeat (first | apply Kd.R_alloc | apply Kd.R_drewN | apply Kd.R_drew)); exact Kd.R_mono HO_5.out (fun _ hk => trivial)⟩, ⟨by repeat (first | (with_reducible first | exact HB.out | apply below_alloc | apply pw_below_drewN | apply below_drew1) | exact HB.out)⟩⟩
                              · rw [if_neg c26] at H
                                have c26b0 : ((t313.length : Int) == 2) = false := beq_eq_false_iff_ne.mpr c26
                                have c26b1 : ((t313.length : Int) != 2) = true := bne_iff_ne.mpr c26
                                simp only [Option.some.injEq, Prod.mk.injEq] at H
                                obtain ⟨rfl, rfl, rfl⟩ := H
                                go_wp2
                                go_ret3
                                exact ⟨_, by first | rfl | (simp [errW_none, errW_some] <;> rfl) | (simp only [← hji4, ← hji14]; first | rfl | (simp [errW_none, errW_some] <;> rfl)) | (simp [*, errW_none, errW_some] <;> rfl), by first | exact Kd.R_nil _ _ _ _ _ | exact Kd.N_nil _ _ _ _ _ | exact Kd.V_nil _ _ _ _ _ | exact Kd.Q_nil _ _ _ _ _ | exact Kd.S_nil _ _ _ _ _, by repeat (first | (with_reducible first | exact HB.out | apply below_alloc | apply pw_below_drewN | apply below_drew1) | exact HB.out)⟩
                            · rw [if_neg c25] at H
                              have c25b0 : (x27_1 == 0) = false := beq_eq_false_iff_ne.mpr c25
                              have c25b1 : (x27_1 != 0) = true := bne_iff_ne.mpr c25
                              by_cases c27 : 0 < (t313.length : Int)
                              · rw [if_pos c27] at H
                                have c27b0 : decide (0 < (t313.length : Int)) = true := decide_eq_true c27
                                have c27b1 : decide (0 < t313.length) = true := decide_eq_true (by omega)
                                clear c27
                                by_cases c28 : (rdOf ByteArray.empty t313 0).toList = ([99, 111, 112, 105, 101, 115] : List UInt8)
                                · rw [if_pos c28] at H
                                  have c28b0 : ((rdOf ByteArray.empty t313 0).toList == ([99, 111, 112, 105, 101, 115] : List UInt8)) = true := beq_iff_eq.mpr c28
                                  have c28b1 : ((rdOf ByteArray.empty t313 0).toList != ([99, 111, 112, 105, 101, 115] : List UInt8)) = false := bne_eq_false_iff_eq.mpr c28
                                  clear c28
                                  by_cases c29 : (t313.length : Int) = 2
                                  · rw [if_pos c29] at H
                                    have c29b0 : ((t313.length : Int) == 2) = true := beq_iff_eq.mpr c29
                                    have c29b1 : ((t313.length : Int) != 2) = false := bne_eq_false_iff_eq.mpr c29
                                    clear c29
                                    by_cases c30 : (t317 = (x2_1.length : Int))
                                    · rw [if_pos c30] at H
                                      have c30b0 : (t317 == (x2_1.length : Int)) = true := beq_iff_eq.mpr c30
                                      have c30b1 : (t317 != (x2_1.length : Int)) = false := bne_eq_false_iff_eq.mpr c30
                                      clear c30
                                      have H' := Aside0.mk H
                                      clear H
                                      have p320 : 0 ≤ (0 : Int) := (by omega)
                                      have q320 : 0 < (t313.length : Int) := of_decide_eq_true (by first | (with_reducible assumption) | assumption)
                                      obtain ⟨ad320, e320, hx320_0⟩ := Kd.at_string (Kd.R_reads' HO_11.out).2.2 0 p320 q320
                                      obtain rfl : ad316 = ad320 := (by injection e320)
                                      have qi320 : (0 < t313.length) = True := eq_true (by omega)
                                      (try rw [show ((0 : Int)).toNat = 0 from rfl] at hx320_0)
                                      (try rw [Addr.add_zero'] at hx320_0)
                                      replace p320 := eq_true p320
                                      replace q320 := eq_true q320
                                      obtain ⟨Ao31, co31, eo31⟩ := Kd.R_slice HO_2.out
                                      subst eo31
                                      go_wp2
                                      go_roundg kj17
                                      case measure => have := HK1.out; have := HJ17.out; omega
                                      case rel => exact ⟨(x2_1), (x7_1), (true), (wrap64 (x27_1 + 1)), (by first | rfl | (simp; done) | (simp [*]; done)), (by first | rfl | (simp; done) | (simp [*]; done)), (by first | rfl | (simp; done) | (simp [*]; done)), H', ⟨by have := HK1.out; have := HJ17.out; omega⟩, ⟨by (with_reducible repeat (first | apply Kd.R_alloc | apply Kd.R_drewN | apply Kd.R_drew)); exact HO_2.out⟩, ⟨by (with_reducible repeat (first | apply Kd.R_alloc | apply Kd.R_drewN | apply Kd.R_drew)); exact Kd.R_mono HO_5.out (fun _ hk => trivial)⟩, ⟨by repeat (first | (with_reducible first | exact HB.out | apply below_alloc | apply pw_below_drewN | apply below_drew1) | exact HB.out)⟩⟩
                                    · rw [if_neg c30] at H
                                      have c30b0 : (t317 == (x2_1.length : Int)) = false := beq_eq_false_iff_ne.mpr c30
                                      have c30b1 : (t317 != (x2_1.length : Int)) = true := bne_iff_ne.mpr c30
                                      simp only [Option.some.injEq, Prod.mk.injEq] at H
                                      obtain ⟨rfl, rfl, rfl⟩ := H
                                      have p320 : 0 ≤ (0 : Int) := (by omega)
                                      have q320 : 0 < (t313.length : Int) := of_decide_eq_true (by first | (with_reducible assumption) | assumption)
                                      obtain ⟨ad320, e320, hx320_0⟩ := Kd.at_string (Kd.R_reads' HO_11.out).2.2 0 p320 q320
                                      obtain rfl : ad316 = ad320 := (by injection e320)
                                      have qi320 : (0 < t313.length) = True := eq_true (by omega)
                                      (try rw [show ((0 : Int)).toNat = 0 from rfl] at hx320_0)
                                      (try rw [Addr.add_zero'] at hx320_0)
                                      replace p320 := eq_true p320
                                      replace q320 := eq_true q320
                                      obtain ⟨Ao32, co32, eo32⟩ := Kd.R_slice HO_2.out
                                      subst eo32
                                      go_wp2
                                      go_ret3
                                      exact ⟨_, by first | rfl | (simp [errW_none, errW_some] <;> rfl) | (simp only [← hji4, ← hji14]; first | rfl | (simp [errW_none, errW_some] <;> rfl)) | (simp [*, errW_none, errW_some] <;> rfl), by first | exact Kd.R_nil _ _ _ _ _ | exact Kd.N_nil _ _ _ _ _ | exact Kd.V_nil _ _ _ _ _ | exact Kd.Q_nil _ _ _ _ _ | exact Kd.S_nil _ _ _ _ _, by repeat (first | (with_reducible first | exact HB.out | apply below_alloc | apply pw_below_drewN | apply below_drew1) | exact HB.out)⟩
                                  · rw [if_neg c29] at H
                                    have c29b0 : ((t313.length : Int) == 2) = false := beq_eq_false_iff_ne.mpr c29
                                    have c29b1 : ((t313.length : Int) != 2) = true := bne_iff_ne.mpr c29
                                    simp only [Option.some.injEq, Prod.mk.injEq] at H
                                    obtain ⟨rfl, rfl, rfl⟩ := H
                                    have p320 : 0 ≤ (0 : Int) := (by omega)
                                    have q320 : 0 < (t313.length : Int) := of_decide_eq_true (by first | (with_reducible assumption) | assumption)
                                    obtain ⟨ad320, e320, hx320_0⟩ := Kd.at_string (Kd.R_reads' HO_11.out).2.2 0 p320 q320
                                    obtain rfl : ad316 = ad320 := (by injection e320)
                                    have qi320 : (0 < t313.length) = True := eq_true (by omega)
                                    (try rw [show ((0 : Int)).toNat = 0 from rfl] at hx320_0)
                                    (try rw [Addr.add_zero'] at hx320_0)
                                    replace p320 := eq_true p320
                                    replace q320 := eq_true q320
                                    go_wp2
                                    go_ret3
                                    exact ⟨_, by first | rfl | (simp [errW_none, errW_some] <;> rfl) | (simp only [← hji4, ← hji14]; first | rfl | (simp [errW_none, errW_some] <;> rfl)) | (simp [*, errW_none, errW_some] <;> rfl), by first | exact Kd.R_nil _ _ _ _ _ | exact Kd.N_nil _ _ _ _ _ | exact Kd.V_nil _ _ _ _ _ | exact Kd.Q_nil _ _ _ _ _ | exact Kd.S_nil _ _ _ _ _, by repeat (first | (with_reducible first | exact HB.out | apply below_alloc | apply pw_below_drewN | apply below_drew1) | exact HB.out)⟩
                                · rw [if_neg c28] at H
                                  have c28b0 : ((rdOf ByteArray.empty t313 0).toList == ([99, 111, 112, 105, 101, 115] : List UInt8)) = false := beq_eq_false_iff_ne.mpr c28
                                  have c28b1 : ((rdOf ByteArray.empty t313 0).toList != ([99, 111, 112, 105, 101, 115] : List UInt8)) = true := bne_iff_ne.mpr c28
                                  have HC33 := Aside0.mk H
                                  clear H
                                  have p320 : 0 ≤ (0 : Int) := (by omega)
                                  have q320 : 0 < (t313.length : Int) := of_decide_eq_true (by first | (with_reducible assumption) | assumption)
                                  obtain ⟨ad320, e320, hx320_0⟩ := Kd.at_string (Kd.R_reads' HO_11.out).2.2 0 p320 q320
                                  obtain rfl : ad316 = ad320 := (by injection e320)
                                  have qi320 : (0 < t313.length) = True := eq_true (by omega)
                                  (try rw [show ((0 : Int)).toNat = 0 from rfl] at hx320_0)
                                  (try rw [Addr.add_zero'] at hx320_0)
                                  replace p320 := eq_true p320
                                  replace q320 := eq_true q320
                                  go_upto_region 11 with (fail)
                                  go_cut [13] (fun v13 wc => ∃ (kq : Nat) (x13_32 : Bool), v13 = .bool x13_32 ∧ Aside0 (stemma_Read.j2 kq x2_1 t305 ji4 x7_1 x8_1 x27_1 t313 t317 x13_32 y308 (y308.length : Int) x27_1 = some (r1, r2, r3)) ∧ Aside0 (kq ≤ kj17) ∧ Aside0 (Kd.R k25 25 wc w.heap.size (fun _ => True) u2 x2_1) ∧ Aside0 (Kd.R Kd.string 9 wc w.heap.size (fun k_ => some k_ ≠ ((.slice (some ad316) t313.length co20) : Value).ownBlock) (.slice (some ad312) t305.length co8) t305) ∧ Aside0 (Kd.R Kd.string 9 wc w.heap.size (fun k_ => some k_ ≠ ((.slice (some ad312) t305.length co8) : Value).ownBlock) (.slice (some ad316) t313.length co20) t313) ∧ Aside0 (Below w.heap.size w wc))
                                  case first =>
                                    have H := HC33.out
                                    clear HC33
                                    by_cases c34 : (rdOf ByteArray.empty t313 0).toList = ([115, 97, 119] : List UInt8)
                                    · rw [if_pos c34] at H
                                      have c34b0 : ((rdOf ByteArray.empty t313 0).toList == ([115, 97, 119] : List UInt8)) = true := beq_iff_eq.mpr c34
                                      have c34b1 : ((rdOf ByteArray.empty t313 0).toList != ([115, 97, 119] : List UInt8)) = false := bne_eq_false_iff_eq.mpr c34
                                      clear c34
                                      (first | rw [c34b0] | (simp only [i64_w, i32_w]; rw [c34b0]) | skip)
                                      by_cases c35 : (t313.length : Int) = 3
                                      · rw [if_pos c35] at H
                                        have c35b0 : ((t313.length : Int) == 3) = true := beq_iff_eq.mpr c35
                                        have c35b1 : ((t313.length : Int) != 3) = false := bne_eq_false_iff_eq.mpr c35
                                        clear c35
                                        by_cases c36 : 1 < (t313.length : Int)
                                        · rw [if_pos c36] at H
                                          have c36b0 : decide (1 < (t313.length : Int)) = true := decide_eq_true c36
                                          have c36b1 : decide (1 < t313.length) = true := decide_eq_true (by omega)
                                          clear c36
                                          have H' := Aside0.mk H
                                          clear H
                                          have p321 : 0 ≤ (0 : Int) := (by omega)
                                          have q321 : 0 < (t313.length : Int) := of_decide_eq_true (by first | (with_reducible assumption) | assumption)
                                          obtain ⟨ad321, e321, hx321_0⟩ := Kd.at_string (Kd.R_reads' HO_11.out).2.2 0 p321 q321
                                          obtain rfl : ad316 = ad321 := (by injection e321)
                                          have qi321 : (0 < t313.length) = True := eq_true (by omega)
                                          (try rw [show ((0 : Int)).toNat = 0 from rfl] at hx321_0)
                                          (try rw [Addr.add_zero'] at hx321_0)
                                          replace p321 := eq_true p321
                                          replace q321 := eq_true q321
                                          have p322 : 0 ≤ (1 : Int) := (by omega)
                                          have q322 : 1 < (t313.length : Int) := of_decide_eq_true (by first | (with_reducible assumption) | assumption)
                                          obtain ⟨ad322, e322, hx322_0⟩ := Kd.at_string (Kd.R_reads' HO_11.out).2.2 1 p322 q322
                                          obtain rfl : ad316 = ad322 := (by injection e322)
                                          (try simp only [show (1 : Int).toNat = 1 from rfl, Nat.reduceMul, Nat.reduceEqDiff, Go.Addr.add, ↓reduceIte] at hx322_0)
                                          have qi322 : (1 < t313.length) = True := eq_true (by omega)
                                          (try rw [show ((1 : Int)).toNat = 1 from rfl] at hx322_0)
                                          replace p322 := eq_true p322
                                          replace q322 := eq_true q322
                                          go_wp2
                                          go_meet
                                          case rel => exact ⟨_, ((((rdOf ByteArray.empty t313 1).size : Int) == x7_1)), (by first | rfl | (simp; done) | (simp [*]; done)), H', ⟨by have := HK1.out; have := HJ17.out; first | omega | exact Nat.le_refl _⟩, ⟨by (with_reducible repeat (first | apply Kd.R_alloc | apply Kd.R_drewN | apply Kd.R_drew)); exact HO_2.out⟩, ⟨by (with_reducible repeat (first | apply Kd.R_alloc | apply Kd.R_drewN | apply Kd.R_drew)); exact HO_5.out⟩, ⟨by (with_reducible repeat (first | apply Kd.R_alloc | apply Kd.R_drewN | apply Kd.R_drew)); exact HO_11.out⟩, ⟨by repeat (first | (with_reducible first | exact HB.out | apply below_alloc | apply pw_below_drewN | apply below_drew1) | exact HB.out)⟩⟩
                                        · rw [if_neg c36] at H
                                          exact absurd H (by simp)
                                      · rw [if_neg c35] at H
                                        have c35b0 : ((t313.length : Int) == 3) = false := beq_eq_false_iff_ne.mpr c35
                                        have c35b1 : ((t313.length : Int) != 3) = true := bne_iff_ne.mpr c35
                                        have H' := Aside0.mk H
                                        clear H
                                        have p321 : 0 ≤ (0 : Int) := (by omega)
                                        have q321 : 0 < (t313.length : Int) := of_decide_eq_true (by first | (with_reducible assumption) | assumption)
                                        obtain ⟨ad321, e321, hx321_0⟩ := Kd.at_string (Kd.R_reads' HO_11.out).2.2 0 p321 q321
                                        obtain rfl : ad316 = ad321 := (by injection e321)
                                        have qi321 : (0 < t313.length) = True := eq_true (by omega)
                                        (try rw [show ((0 : Int)).toNat = 0 from rfl] at hx321_0)
                                        (try rw [Addr.add_zero'] at hx321_0)
                                        replace p321 := eq_true p321
                                        replace q321 := eq_true q321
                                        go_wp2
                                        go_meet
                                        case rel => exact ⟨_, (false), (by first | rfl | (simp; done) | (simp [*]; done)), H', ⟨by have := HK1.out; have := HJ17.out; first | omega | exact Nat.le_refl _⟩, ⟨by (with_reducible repeat (first | apply Kd.R_alloc | apply Kd.R_drewN | apply Kd.R_drew)); exact HO_2.out⟩, ⟨by (with_reducible repeat (first | apply Kd.R_alloc | apply Kd.R_drewN | apply Kd.R_drew)); exact HO_5.out⟩, ⟨by (with_reducible repeat (first | apply Kd.R_alloc | apply Kd.R_drewN | apply Kd.R_drew)); exact HO_11.out⟩, ⟨by repeat (first | (with_reducible first | exact HB.out | apply below_alloc | apply pw_below_drewN | apply below_drew1) | exact HB.out)⟩⟩
                                    · rw [if_neg c34] at H
                                      have c34b0 : ((rdOf ByteArray.empty t313 0).toList == ([115, 97, 119] : List UInt8)) = false := beq_eq_false_iff_ne.mpr c34
                                      have c34b1 : ((rdOf ByteArray.empty t313 0).toList != ([115, 97, 119] : List UInt8)) = true := bne_iff_ne.mpr c34
                                      (first | rw [c34b0] | (simp only [i64_w, i32_w]; rw [c34b0]) | skip)
                                      by_cases c37 : (rdOf ByteArray.empty t313 0).toList = ([104, 97, 100] : List UInt8)
                                      · rw [if_pos c37] at H
                                        have c37b0 : ((rdOf ByteArray.empty t313 0).toList == ([104, 97, 100] : List UInt8)) = true := beq_iff_eq.mpr c37
                                        have c37b1 : ((rdOf ByteArray.empty t313 0).toList != ([104, 97, 100] : List UInt8)) = false := bne_eq_false_iff_eq.mpr c37
                                        clear c37
                                        by_cases c38 : (t313.length : Int) = 3
                                        · rw [if_pos c38] at H
                                          have c38b0 : ((t313.length : Int) == 3) = true := beq_iff_eq.mpr c38
                                          have c38b1 : ((t313.length : Int) != 3) = false := bne_eq_false_iff_eq.mpr c38
                                          clear c38
                                          by_cases c39 : 1 < (t313.length : Int)
                                          · rw [if_pos c39] at H
                                            have c39b0 : decide (1 < (t313.length : Int)) = true := decide_eq_true c39
                                            have c39b1 : decide (1 < t313.length) = true := decide_eq_true (by omega)
                                            clear c39
                                            have H' := Aside0.mk H
                                            clear H
                                            have p321 : 0 ≤ (0 : Int) := (by omega)
                                            have q321 : 0 < (t313.length : Int) := of_decide_eq_true (by first | (with_reducible assumption) | assumption)
                                            obtain ⟨ad321, e321, hx321_0⟩ := Kd.at_string (Kd.R_reads' HO_11.out).2.2 0 p321 q321
                                            obtain rfl : ad316 = ad321 := (by injection e321)
                                            have qi321 : (0 < t313.length) = True := eq_true (by omega)
                                            (try rw [show ((0 : Int)).toNat = 0 from rfl] at hx321_0)
                                            (try rw [Addr.add_zero'] at hx321_0)
                                            replace p321 := eq_true p321
                                            replace q321 := eq_true q321
                                            have p323 : 0 ≤ (0 : Int) := (by omega)
                                            have q323 : 0 < (t313.length : Int) := of_decide_eq_true (by first | (with_reducible assumption) | assumption)
                                            obtain ⟨ad323, e323, hx323_0⟩ := Kd.at_string (Kd.R_reads' HO_11.out).2.2 0 p323 q323
                                            obtain rfl : ad316 = ad323 := (by injection e323)
                                            have qi323 : (0 < t313.length) = True := eq_true (by omega)
                                            (try rw [show ((0 : Int)).toNat = 0 from rfl] at hx323_0)
                                            (try rw [Addr.add_zero'] at hx323_0)
                                            replace p323 := eq_true p323
                                            replace q323 := eq_true q323
                                            have p324 : 0 ≤ (1 : Int) := (by omega)
                                            have q324 : 1 < (t313.length : Int) := of_decide_eq_true (by first | (with_reducible assumption) | assumption)
                                            obtain ⟨ad324, e324, hx324_0⟩ := Kd.at_string (Kd.R_reads' HO_11.out).2.2 1 p324 q324
                                            obtain rfl : ad316 = ad324 := (by injection e324)
                                            (try simp only [show (1 : Int).toNat = 1 from rfl, Nat.reduceMul, Nat.reduceEqDiff, Go.Addr.add, ↓reduceIte] at hx324_0)
                                            have qi324 : (1 < t313.length) = True := eq_true (by omega)
                                            (try rw [show ((1 : Int)).toNat = 1 from rfl] at hx324_0)
                                            replace p324 := eq_true p324
                                            replace q324 := eq_true q324
                                            go_wp2
                                            go_meet
                                            case rel => exact ⟨_, ((((rdOf ByteArray.empty t313 1).size : Int) == x7_1)), (by first | rfl | (simp; done) | (simp [*]; done)), H', ⟨by have := HK1.out; have := HJ17.out; first | omega | exact Nat.le_refl _⟩, ⟨by (with_reducible repeat (first | apply Kd.R_alloc | apply Kd.R_drewN | apply Kd.R_drew)); exact HO_2.out⟩, ⟨by (with_reducible repeat (first | apply Kd.R_alloc | apply Kd.R_drewN | apply Kd.R_drew)); exact HO_5.out⟩, ⟨by (with_reducible repeat (first | apply Kd.R_alloc | apply Kd.R_drewN | apply Kd.R_drew)); exact HO_11.out⟩, ⟨by repeat (first | (with_reducible first | exact HB.out | apply below_alloc | apply pw_below_drewN | apply below_drew1) | exact HB.out)⟩⟩
                                          · rw [if_neg c39] at H
                                            exact absurd H (by simp)
                                        · rw [if_neg c38] at H
                                          have c38b0 : ((t313.length : Int) == 3) = false := beq_eq_false_iff_ne.mpr c38
                                          have c38b1 : ((t313.length : Int) != 3) = true := bne_iff_ne.mpr c38
                                          have H' := Aside0.mk H
                                          clear H
                                          have p321 : 0 ≤ (0 : Int) := (by omega)
                                          have q321 : 0 < (t313.length : Int) := of_decide_eq_true (by first | (with_reducible assumption) | assumption)
                                          obtain ⟨ad321, e321, hx321_0⟩ := Kd.at_string (Kd.R_reads' HO_11.out).2.2 0 p321 q321
                                          obtain rfl : ad316 = ad321 := (by injection e321)
                                          have qi321 : (0 < t313.length) = True := eq_true (by omega)
                                          (try rw [show ((0 : Int)).toNat = 0 from rfl] at hx321_0)
                                          (try rw [Addr.add_zero'] at hx321_0)
                                          replace p321 := eq_true p321
                                          replace q321 := eq_true q321
                                          have p323 : 0 ≤ (0 : Int) := (by omega)
                                          have q323 : 0 < (t313.length : Int) := of_decide_eq_true (by first | (with_reducible assumption) | assumption)
                                          obtain ⟨ad323, e323, hx323_0⟩ := Kd.at_string (Kd.R_reads' HO_11.out).2.2 0 p323 q323
                                          obtain rfl : ad316 = ad323 := (by injection e323)
                                          have qi323 : (0 < t313.length) = True := eq_true (by omega)
                                          (try rw [show ((0 : Int)).toNat = 0 from rfl] at hx323_0)
                                          (try rw [Addr.add_zero'] at hx323_0)
                                          replace p323 := eq_true p323
                                          replace q323 := eq_true q323
                                          go_wp2
                                          go_meet
                                          case rel => exact ⟨_, (false), (by first | rfl | (simp; done) | (simp [*]; done)), H', ⟨by have := HK1.out; have := HJ17.out; first | omega | exact Nat.le_refl _⟩, ⟨by (with_reducible repeat (first | apply Kd.R_alloc | apply Kd.R_drewN | apply Kd.R_drew)); exact HO_2.out⟩, ⟨by (with_reducible repeat (first | apply Kd.R_alloc | apply Kd.R_drewN | apply Kd.R_drew)); exact HO_5.out⟩, ⟨by (with_reducible repeat (first | apply Kd.R_alloc | apply Kd.R_drewN | apply Kd.R_drew)); exact HO_11.out⟩, ⟨by repeat (first | (with_reducible first | exact HB.out | apply below_alloc | apply pw_below_drewN | apply below_drew1) | exact HB.out)⟩⟩
                                      · rw [if_neg c37] at H
                                        have c37b0 : ((rdOf ByteArray.empty t313 0).toList == ([104, 97, 100] : List UInt8)) = false := beq_eq_false_iff_ne.mpr c37
                                        have c37b1 : ((rdOf ByteArray.empty t313 0).toList != ([104, 97, 100] : List UInt8)) = true := bne_iff_ne.mpr c37
                                        have H' := Aside0.mk H
                                        clear H
                                        have p321 : 0 ≤ (0 : Int) := (by omega)
                                        have q321 : 0 < (t313.length : Int) := of_decide_eq_true (by first | (with_reducible assumption) | assumption)
                                        obtain ⟨ad321, e321, hx321_0⟩ := Kd.at_string (Kd.R_reads' HO_11.out).2.2 0 p321 q321
                                        obtain rfl : ad316 = ad321 := (by injection e321)
                                        have qi321 : (0 < t313.length) = True := eq_true (by omega)
                                        (try rw [show ((0 : Int)).toNat = 0 from rfl] at hx321_0)
                                        (try rw [Addr.add_zero'] at hx321_0)
                                        replace p321 := eq_true p321
                                        replace q321 := eq_true q321
                                        have p323 : 0 ≤ (0 : Int) := (by omega)
                                        have q323 : 0 < (t313.length : Int) := of_decide_eq_true (by first | (with_reducible assumption) | assumption)
                                        obtain ⟨ad323, e323, hx323_0⟩ := Kd.at_string (Kd.R_reads' HO_11.out).2.2 0 p323 q323
                                        obtain rfl : ad316 = ad323 := (by injection e323)
                                        have qi323 : (0 < t313.length) = True := eq_true (by omega)
                                        (try rw [show ((0 : Int)).toNat = 0 from rfl] at hx323_0)
                                        (try rw [Addr.add_zero'] at hx323_0)
                                        replace p323 := eq_true p323
                                        replace q323 := eq_true q323
                                        go_wp2
                                        go_meet
                                        case rel => exact ⟨_, (false), (by first | rfl | (simp; done) | (simp [*]; done)), H', ⟨by have := HK1.out; have := HJ17.out; first | omega | exact Nat.le_refl _⟩, ⟨by (with_reducible repeat (first | apply Kd.R_alloc | apply Kd.R_drewN | apply Kd.R_drew)); exact HO_2.out⟩, ⟨by (with_reducible repeat (first | apply Kd.R_alloc | apply Kd.R_drewN | apply Kd.R_drew)); exact HO_5.out⟩, ⟨by (with_reducible repeat (first | apply Kd.R_alloc | apply Kd.R_drewN | apply Kd.R_drew)); exact HO_11.out⟩, ⟨by repeat (first | (with_reducible first | exact HB.out | apply below_alloc | apply pw_below_drewN | apply below_drew1) | exact HB.out)⟩⟩
                                  case rest =>
                                    clear HC33
                                    try clear c1
                                    try clear c2
                                    try clear c2b0
                                    try clear c2b1
                                    try clear p2
                                    try clear c3
                                    try clear p3
                                    try clear q3
                                    try clear hx3
                                    try clear qi3
                                    try clear c4
                                    try clear c5
                                    try clear c5b0
                                    try clear c5b1
                                    try clear c6
                                    try clear c6b0
                                    try clear c6b1
                                    try clear p6
                                    try clear q9
                                    try clear c10
                                    try clear c10b0
                                    try clear c11
                                    try clear c11b0
                                    try clear c12
                                    try clear c12b0
                                    try clear c15
                                    try clear c15b0
                                    try clear c16
                                    try clear c16b0
                                    try clear c21
                                    try clear c22
                                    try clear c23
                                    try clear c23b0
                                    try clear c23b1
                                    try clear c24
                                    try clear c25
                                    try clear c25b0
                                    try clear c25b1
                                    try clear c26
                                    try clear c26b0
                                    try clear c26b1
                                    try clear c27
                                    try clear c27b0
                                    try clear c27b1
                                    try clear c28
                                    try clear c28b0
                                    try clear c28b1
                                    try clear c29
                                    try clear c29b0
                                    try clear c29b1
                                    try clear c30
                                    try clear c30b0
                                    try clear c30b1
                                    try clear p31
                                    try clear q31
                                    try clear hx31
                                    try clear qi31
                                    try clear p32
                                    try clear q32
                                    try clear hx32
                                    try clear qi32
                                    try clear c34
                                    try clear c34b0
                                    try clear c34b1
                                    try clear c35
                                    try clear c35b0
                                    try clear c35b1
                                    try clear c36
                                    try clear c36b0
                                    try clear c36b1
                                    try clear c37
                                    try clear c37b0
                                    try clear c37b1
                                    try clear c38
                                    try clear c38b0
                                    try clear c38b1
                                    try clear c39
                                    try clear c39b0
                                    try clear c39b1
                                    try clear hx312_0
                                    try clear hx316_0
                                    try clear hx319_0
                                    try clear hx320_0
                                    try clear hx321_0
                                    try clear hx322_0
                                    try clear hx323_0
                                    try clear hx324_0
                                    try clear p2
                                    try clear p3
                                    try clear p312
                                    try clear p316
                                    try clear p319
                                    try clear p320
                                    try clear p321
                                    try clear p322
                                    try clear p323
                                    try clear p324
                                    try clear p6
                                    try clear q3
                                    try clear q312
                                    try clear q316
                                    try clear q319
                                    try clear q320
                                    try clear q321
                                    try clear q322
                                    try clear q323
                                    try clear q324
                                    try clear q9
                                    obtain ⟨kq, x13_32, rfl, HA, HJ32, HO_2, HO_5, HO_11, HB⟩ := hcut
                                    cases kq with
                                    | zero => exact absurd HA.out (by simp [stemma_Read.j2])
                                    | succ kj32 =>
                                      have H := HA.out
                                      clear HA
                                      simp only [stemma_Read.j2] at H
                                      by_cases c40 : x13_32 = true
                                      · subst c40
                                        have H1 : (if 1 < (t313.length : Int) then (if 0 < (t313.length : Int) then (if x2_1.length < 4398046511104 then (stemma_Read.l0 kj32 (x2_1 ++ [(⟨rdOf ByteArray.empty t313 1, t317, ((rdOf ByteArray.empty t313 0).toList == ([115, 97, 119] : List UInt8))⟩ : S25)]) t305 ji4 x7_1 x8_1 y308 (y308.length : Int) (wrap64 (x27_1 + 1))) else (none)) else (none)) else (none)) = some (r1, r2, r3) := by rw [if_pos rfl] at H; exact H
                                        clear H
                                        have H := H1
                                        clear H1
                                        by_cases c41 : 1 < (t313.length : Int)
                                        · rw [if_pos c41] at H
                                          have c41b0 : decide (1 < (t313.length : Int)) = true := decide_eq_true c41
                                          have c41b1 : decide (1 < t313.length) = true := decide_eq_true (by omega)
                                          clear c41
                                          by_cases c42 : 0 < (t313.length : Int)
                                          · rw [if_pos c42] at H
                                            have c42b0 : decide (0 < (t313.length : Int)) = true := decide_eq_true c42
                                            have c42b1 : decide (0 < t313.length) = true := decide_eq_true (by omega)
                                            clear c42
                                            by_cases c43 : x2_1.length < 4398046511104
                                            · rw [if_pos c43] at H
                                              have LMc43 := Aside0.mk c43
                                              clear c43
                                              obtain ⟨y327, hy327⟩ : ∃ y_ : List (S25), y_ = (x2_1 ++ [(⟨rdOf ByteArray.empty t313 1, t317, ((rdOf ByteArray.empty t313 0).toList == ([115, 97, 119] : List UInt8))⟩ : S25)]) := ⟨_, rfl⟩
                                              replace H : (stemma_Read.l0 kj32 y327 t305 ji4 x7_1 x8_1 y308 (y308.length : Int) (wrap64 (x27_1 + 1))) = some (r1, r2, r3) := by first | (rw [hy327]; with_reducible exact H) | (have H2_ := (Option.bind_some _ _).symm.trans H; rw [hy327]; with_reducible exact H2_) | (have H2_ := (Option.bind_some _ _).symm.trans H; with_reducible exact H2_) | with_reducible exact H | (rw [hy327]; exact H) | exact H
                                              have Ny327 := Aside0.mk hy327
                                              clear hy327
                                              have H' := Aside0.mk H
                                              clear H
                                              try go_wp2
                                              have n0_ := Aside0.mk (Kd.R_drew HO_2.out)
                                              have n1_ := Aside0.mk (Kd.R_drew HO_5.out)
                                              have n2_ := Aside0.mk (Kd.R_drew HO_11.out)
                                              have n3_ := Aside0.mk (below_drew1 HB.out)
                                              clear HO_2
                                              clear HO_5
                                              clear HO_11
                                              clear HB
                                              have HO_2 := n0_
                                              have HO_5 := n1_
                                              have HO_11 := n2_
                                              have HB := n3_
                                              clear n0_ n1_ n2_ n3_
                                              have p325 : 0 ≤ (1 : Int) := (by omega)
                                              have q325 : 1 < (t313.length : Int) := of_decide_eq_true (by first | (with_reducible assumption) | assumption)
                                              obtain ⟨ad325, e325, hx325_0⟩ := Kd.at_string (Kd.R_reads' HO_11.out).2.2 1 p325 q325
                                              obtain rfl : ad316 = ad325 := (by injection e325)
                                              (try simp only [show (1 : Int).toNat = 1 from rfl, Nat.reduceMul, Nat.reduceEqDiff, Go.Addr.add, ↓reduceIte] at hx325_0)
                                              have qi325 : (1 < t313.length) = True := eq_true (by omega)
                                              (try rw [show ((1 : Int)).toNat = 1 from rfl] at hx325_0)
                                              replace p325 := eq_true p325
                                              replace q325 := eq_true q325
                                              have p326 : 0 ≤ (0 : Int) := (by omega)
                                              have q326 : 0 < (t313.length : Int) := of_decide_eq_true (by first | (with_reducible assumption) | assumption)
                                              obtain ⟨ad326, e326, hx326_0⟩ := Kd.at_string (Kd.R_reads' HO_11.out).2.2 0 p326 q326
                                              obtain rfl : ad316 = ad326 := (by injection e326)
                                              have qi326 : (0 < t313.length) = True := eq_true (by omega)
                                              (try rw [show ((0 : Int)).toNat = 0 from rfl] at hx326_0)
                                              (try rw [Addr.add_zero'] at hx326_0)
                                              replace p326 := eq_true p326
                                              replace q326 := eq_true q326
                                              refine start_ (n := 13) (S := fun w' => w'.cell? ⟨ad316.block, ad316.off + 1, none⟩ = some (.string (rdOf ByteArray.empty t313 1)) ∧ w'.cell? ad316 = some (.string (rdOf ByteArray.empty t313 0))) (ds := [10, 11]) #[false, false, false, false, false, false, false, false, false, false, false, false, false] (by kernel_rfl) rfl rfl ⟨hx325_0, hx326_0⟩ (fun hHeld => ?_); refine with_tabW stemma_Read.tab13 stemma_Read.bits13 (fun HT_ HW_ => ?_)
                                              generalize wc.drew = w44 at HO_2 HO_5 HO_11 HB hx325_0 hx326_0 hHeld ⊢
                                              refine pure_ (i := 0) (N := some 68) (v := ?_) (a' := ?_) #[true, false, false, false, false, false, false, false, false, false, false, false, false] rfl rfl (any_of HT_.out (by kernel_rfl)) (fun _ _ _ h => h) (Or.inl ⟨by rfl, ?_⟩) ?_ ?_
                                              rotate_left
                                              · intro w'
                                                go_simp
                                                with_reducible rfl
                                              rotate_left
                                              · simp only [Act.put, List.setIfInBounds_toArray, List.set_cons_zero, List.set_cons_succ, i64_w, i32_w]
                                                rfl
                                              refine pure_ (i := 1) (N := some 69) (v := ?_) (a' := ?_) #[true, true, false, false, false, false, false, false, false, false, false, false, false] rfl rfl (any_of HT_.out (by kernel_rfl)) (fun _ _ _ h => h) (Or.inl ⟨by rfl, ?_⟩) ?_ ?_
                                              rotate_left
                                              · intro w'
                                                go_simp
                                                with_reducible rfl
                                              rotate_left
                                              · simp only [Act.put, List.setIfInBounds_toArray, List.set_cons_zero, List.set_cons_succ, i64_w, i32_w]
                                                rfl
                                              refine pure_ (i := 2) (N := some 70) (v := ?_) (a' := ?_) #[true, true, true, false, false, false, false, false, false, false, false, false, false] rfl rfl (any_of HT_.out (by kernel_rfl)) (fun _ _ _ h => h) (Or.inl ⟨by rfl, ?_⟩) ?_ ?_
                                              rotate_left
                                              · intro w'
                                                go_simp
                                                with_reducible rfl
                                              rotate_left
                                              · simp only [Act.put, List.setIfInBounds_toArray, List.set_cons_zero, List.set_cons_succ, i64_w, i32_w]
                                                rfl
                                              refine pure_ (i := 4) (N := some 72) (v := ?_) (a' := ?_) #[true, true, true, false, true, false, false, false, false, false, false, false, false] rfl rfl (any_of HT_.out (by kernel_rfl)) (fun _ _ _ h => h) (Or.inl ⟨by rfl, ?_⟩) ?_ ?_
                                              rotate_left
                                              · intro w'
                                                go_simp
                                                with_reducible rfl
                                              rotate_left
                                              · simp only [Act.put, List.setIfInBounds_toArray, List.set_cons_zero, List.set_cons_succ, i64_w, i32_w]
                                                rfl
                                              refine pure_ (i := 5) (N := some 73) (v := ?_) (a' := ?_) #[true, true, true, false, true, true, false, false, false, false, false, false, false] rfl rfl (any_of HT_.out (by kernel_rfl)) (fun _ _ _ h => h) (Or.inl ⟨by rfl, ?_⟩) ?_ ?_
                                              rotate_left
                                              · intro w'
                                                go_simp
                                                with_reducible rfl
                                              rotate_left
                                              · simp only [Act.put, List.setIfInBounds_toArray, List.set_cons_zero, List.set_cons_succ, i64_w, i32_w]
                                                rfl
                                              refine pure_ (i := 6) (N := some 74) (v := ?_) (a' := ?_) #[true, true, true, false, true, true, true, false, false, false, false, false, false] rfl rfl (any_of HT_.out (by kernel_rfl)) (fun _ _ _ h => h) (Or.inl ⟨by rfl, ?_⟩) ?_ ?_
                                              rotate_left
                                              · intro w'
                                                go_simp
                                                with_reducible rfl
                                              rotate_left
                                              · simp only [Act.put, List.setIfInBounds_toArray, List.set_cons_zero, List.set_cons_succ, i64_w, i32_w]
                                                rfl
                                              refine take_ (i := 3) (N := some 71) (v := ?_) (a' := ?_) #[true, true, true, true, true, true, true, false, false, false, false, false, false] rfl rfl (take_ofW HT_.out HW_.out (by kernel_rfl)) (fun _ _ _ h => h) (Or.inl ⟨by rfl, ?_⟩) hHeld ?_ ?_
                                              rotate_left
                                              · rintro w' ⟨s0, s1⟩
                                                go_simp
                                                with_reducible rfl
                                              rotate_left
                                              · simp only [Act.put, List.setIfInBounds_toArray, List.set_cons_zero, List.set_cons_succ, i64_w, i32_w]
                                                rfl
                                              refine take_ (i := 7) (N := some 75) (v := ?_) (a' := ?_) #[true, true, true, true, true, true, true, true, false, false, false, false, false] rfl rfl (take_ofW HT_.out HW_.out (by kernel_rfl)) (fun _ _ _ h => h) (Or.inl ⟨by rfl, ?_⟩) hHeld ?_ ?_
                                              rotate_left
                                              · rintro w' ⟨s0, s1⟩
                                                go_simp
                                                with_reducible rfl
                                              rotate_left
                                              · simp only [Act.put, List.setIfInBounds_toArray, List.set_cons_zero, List.set_cons_succ, i64_w, i32_w]
                                                rfl
                                              refine pure_ (i := 8) (N := some 76) (v := ?_) (a' := ?_) #[true, true, true, true, true, true, true, true, true, false, false, false, false] rfl rfl (any_of HT_.out (by kernel_rfl)) (fun _ _ _ h => h) (Or.inl ⟨by rfl, ?_⟩) ?_ ?_
                                              rotate_left
                                              · intro w'
                                                go_simp
                                                with_reducible rfl
                                              rotate_left
                                              · simp only [Act.put, List.setIfInBounds_toArray, List.set_cons_zero, List.set_cons_succ, i64_w, i32_w]
                                                rfl
                                              refine pure_ (i := 9) (N := some 77) (v := ?_) (a' := ?_) #[true, true, true, true, true, true, true, true, true, true, false, false, false] rfl rfl (any_of HT_.out (by kernel_rfl)) (fun _ _ _ h => h) (Or.inl ⟨by rfl, ?_⟩) ?_ ?_
                                              rotate_left
                                              · intro w'
                                                go_simp
                                                with_reducible rfl
                                              rotate_left
                                              · simp only [Act.put, List.setIfInBounds_toArray, List.set_cons_zero, List.set_cons_succ, i64_w, i32_w]
                                                rfl
                                              refine last_ (i := 10) (N := some 78) #[true, true, true, true, true, true, true, true, true, true, true, false, false] rfl rfl (one_of HT_.out (by kernel_rfl)) (by decide) (fun K hK => ?_)
                                              refine value_ (w1 := ?_) (v := ?_) (by rfl) rfl ?_ ?_
                                              rotate_left 2
                                              · go_simp
                                                constructor
                                                · rfl
                                                · rfl
                                              refine hK.out _ _ ?_
                                              clear hK K
                                              refine norm_ (a' := ?_) ?_ ?_
                                              rotate_left
                                              · show Act.put _ (some 78) _ = _
                                                simp only [Act.put, List.setIfInBounds_toArray, List.set_cons_zero, List.set_cons_succ, i64_w, i32_w]
                                                rfl
                                              refine last_ (i := 11) (N := some 79) #[true, true, true, true, true, true, true, true, true, true, true, true, false] rfl rfl (one_of HT_.out (by kernel_rfl)) (by decide) (fun K hK => ?_)
                                              refine Kd.R_append_step k25 (w0 := w) w.heap.size (by rfl) (.tmp 68) (.tmp 78) 22 25 (.agg #[(.string ⟨#[]⟩), (.int .i64 0), (.bool false)]) 32 rfl Tryd.underlying22 info25 rfl (by decide) (by omega) u2 x2_1 (⟨rdOf ByteArray.empty t313 1, t317, ((rdOf ByteArray.empty t313 0).toList == ([115, 97, 119] : List UInt8))⟩ : S25) [.string (rdOf ByteArray.empty t313 1), .int .i64 t317, .bool ((rdOf ByteArray.empty t313 0).toList == ([115, 97, 119] : List UInt8))] (fun _ => True) (fun _ => False) rfl rfl ?aP (fun _ hk => hk.elim) ?aF ?aO ?aB ?aS ?aL ?_
                                              (case aP => exact k25_mkM _ _ _ (⟨rdOf ByteArray.empty t313 1, t317, ((rdOf ByteArray.empty t313 0).toList == ([115, 97, 119] : List UInt8))⟩ : S25))
                                              (case aB => exact (by repeat (first | (with_reducible first | exact HB.out | apply below_alloc | apply pw_below_drewN | apply below_drew1) | exact HB.out)))
                                              (case aF => exact (fun _ _ => trivial))
                                              (case aO => exact (by (with_reducible repeat (first | apply Kd.R_alloc | apply Kd.R_drewN | apply Kd.R_drew)); exact HO_2.out))
                                              (case aS => exact (below_size (by repeat (first | (with_reducible first | exact HB.out | apply below_alloc | apply pw_below_drewN | apply below_drew1) | exact HB.out))))
                                              (case aL => have := LMc43.out; omega)
                                              intro v328 w45 ho hb hg hat
                                              rw [← Ny327.out] at ho
                                              have n0_ := Aside0.mk (Kd.R_over' (by (with_reducible repeat (first | apply Kd.R_alloc | apply Kd.R_drewN | apply Kd.R_drew)); exact HO_5.out) (Kd.R_typed (by (with_reducible repeat (first | apply Kd.R_alloc | apply Kd.R_drewN | apply Kd.R_drew)); exact HO_2.out)) (by decide) hg)
                                              have n1_ := Aside0.mk (Kd.R_over' (by (with_reducible repeat (first | apply Kd.R_alloc | apply Kd.R_drewN | apply Kd.R_drew)); exact HO_11.out) (Kd.R_typed (by (with_reducible repeat (first | apply Kd.R_alloc | apply Kd.R_drewN | apply Kd.R_drew)); exact HO_2.out)) (by decide) hg)
                                              have n2_ := Aside0.mk (hb)
                                              have n3_ := Aside0.mk (ho)
                                              clear HO_5
                                              clear HO_11
                                              clear HB
                                              clear HO_2
                                              have HO_5 := n0_
                                              have HO_11 := n1_
                                              have HB := n2_
                                              have HO329 := n3_
                                              clear n0_ n1_ n2_ n3_
                                              clear ho hb hg hat
                                              refine hK.out _ _ ?_
                                              clear hK K
                                              refine norm_ (a' := ?_) ?_ ?_
                                              rotate_left
                                              · show Act.put _ (some 79) _ = _
                                                simp only [Act.put, List.setIfInBounds_toArray, List.set_cons_zero, List.set_cons_succ, i64_w, i32_w]
                                                rfl
                                              refine pure_ (i := 12) (N := some 2) (v := ?_) (a' := ?_) #[true, true, true, true, true, true, true, true, true, true, true, true, true] rfl rfl (any_of HT_.out (by kernel_rfl)) (fun _ _ _ h => h) (Or.inl ⟨by rfl, ?_⟩) ?_ ?_
                                              rotate_left
                                              · intro w'
                                                go_simp
                                                with_reducible rfl
                                              rotate_left
                                              · simp only [Act.put, List.setIfInBounds_toArray, List.set_cons_zero, List.set_cons_succ, i64_w, i32_w]
                                                rfl
                                              refine done_ (done_of HT_.out (by kernel_rfl)) ?_
                                              try go_wp2
                                              go_roundg kj32
                                              case measure => have := HK1.out; have := HJ17.out; have := HJ32.out; omega
                                              case rel => exact ⟨(y327), (x7_1), (x8_1), (wrap64 (x27_1 + 1)), (by first | rfl | (simp; done) | (simp [*]; done)), (by first | rfl | (simp; done) | (simp [*]; done)), (by first | rfl | (simp; done) | (simp [*]; done)), H', ⟨by have := HK1.out; have := HJ17.out; have := HJ32.out; omega⟩, ⟨by (with_reducible repeat (first | apply Kd.R_alloc | apply Kd.R_drewN | apply Kd.R_drew)); exact HO329.out⟩, ⟨by (with_reducible repeat (first | apply Kd.R_alloc | apply Kd.R_drewN | apply Kd.R_drew)); exact Kd.R_mono HO_5.out (fun _ hk => trivial)⟩, ⟨by repeat (first | (with_reducible first | exact HB.out | apply below_alloc | apply pw_below_drewN | apply below_drew1) | exact HB.out)⟩⟩
                                            · rw [if_neg c43] at H
                                              exact absurd H (by simp)
                                          · rw [if_neg c42] at H
                                            exact absurd H (by simp)
                                        · rw [if_neg c41] at H
                                          exact absurd H (by simp)
                                      · replace c40 := Bool.eq_false_iff.mpr c40
                                        subst c40
                                        have H1 : (some (([] : List (S25)), wrap64 (x27_1 + 1), 2)) = some (r1, r2, r3) := by rw [if_neg (show ¬ (false = true) by decide)] at H; exact H
                                        clear H
                                        have H := H1
                                        clear H1
                                        simp only [Option.some.injEq, Prod.mk.injEq] at H
                                        obtain ⟨rfl, rfl, rfl⟩ := H
                                        go_wp2
                                        go_ret3
                                        exact ⟨_, by first | rfl | (simp [errW_none, errW_some] <;> rfl) | (simp only [← hji4, ← hji14]; first | rfl | (simp [errW_none, errW_some] <;> rfl)) | (simp [*, errW_none, errW_some] <;> rfl), by first | exact Kd.R_nil _ _ _ _ _ | exact Kd.N_nil _ _ _ _ _ | exact Kd.V_nil _ _ _ _ _ | exact Kd.Q_nil _ _ _ _ _ | exact Kd.S_nil _ _ _ _ _, by repeat (first | (with_reducible first | exact HB.out | apply below_alloc | apply pw_below_drewN | apply below_drew1) | exact HB.out)⟩
                              · rw [if_neg c27] at H
                                exact absurd H (by simp)
                    · rw [if_neg c16] at H
                      exact absurd H (by simp)
                  · rw [if_neg c15] at H
                    exact absurd H (by simp)
                · rw [if_neg c12] at H
                  exact absurd H (by simp)
              · rw [if_neg c11] at H
                exact absurd H (by simp)
            · rw [if_neg c10] at H
              have c10b0 : decide (x27_1 < (y308.length : Int)) = false := decide_eq_false c10
              clear c10
              have HC46 := Aside0.mk H
              clear H
              go_upto_region 23 with (fail)
              go_cut [129] (fun v129 wc => ∃ (kq : Nat) (x129_45 : Bool), v129 = .bool x129_45 ∧ Aside0 (stemma_Read.j3 kq x2_1 ji4 x129_45 = some (r1, r2, r3)) ∧ Aside0 (kq ≤ k1) ∧ Aside0 (Kd.R k25 25 wc w.heap.size (fun _ => True) u2 x2_1) ∧ Aside0 (Below w.heap.size w wc))
              case first =>
                have H := HC46.out
                clear HC46
                by_cases c47 : x8_1 = true
                · subst c47
                  have H1 : (if 0 ≤ ji4 then (if ji4 < (t305.length : Int) then (stemma_Read.j3 k1 x2_1 ji4 ((rdOf ByteArray.empty t305 ji4).toList != ([] : List UInt8))) else (none)) else (none)) = some (r1, r2, r3) := by rw [if_pos rfl] at H; exact H
                  clear H
                  have H := H1
                  clear H1
                  by_cases c48 : 0 ≤ ji4
                  · rw [if_pos c48] at H
                    have c48b0 : decide (0 ≤ ji4) = true := decide_eq_true c48
                    clear c48
                    (first | rw [c48b0] | (simp only [i64_w, i32_w]; rw [c48b0]) | skip)
                    by_cases c49 : ji4 < (t305.length : Int)
                    · rw [if_pos c49] at H
                      have c49b0 : decide (ji4 < (t305.length : Int)) = true := decide_eq_true c49
                      clear c49
                      have H' := Aside0.mk H
                      clear H
                      have p330 : 0 ≤ (ji4 : Int) := of_decide_eq_true (by first | (with_reducible assumption) | assumption)
                      have q330 : ji4 < (t305.length : Int) := of_decide_eq_true (by first | (with_reducible assumption) | assumption)
                      obtain ⟨ad330, e330, hx330_0⟩ := Kd.at_string (Kd.R_reads' HO_5.out).2.2 ji4 p330 q330
                      cases e330
                      replace p330 := eq_true p330
                      replace q330 := eq_true q330
                      go_wp2
                      go_meet
                      case rel => exact ⟨_, (((rdOf ByteArray.empty t305 ji4).toList != ([] : List UInt8))), (by first | rfl | (simp; done) | (simp only [OFix.ne_nil_b]; done) | (simp only [← hji4, OFix.ne_nil_b]; done) | (simp only [← hji4] <;> (first | rfl | simp)) | (simp [*]; done)), H', ⟨by have := HK1.out; first | omega | exact Nat.le_refl _⟩, ⟨by (with_reducible repeat (first | apply Kd.R_alloc | apply Kd.R_drewN | apply Kd.R_drew)); exact HO_2.out⟩, ⟨by repeat (first | (with_reducible first | exact HB.out | apply below_alloc | apply pw_below_drewN | apply below_drew1) | exact HB.out)⟩⟩
                    · rw [if_neg c49] at H
                      exact absurd H (by simp)
                  · rw [if_neg c48] at H
                    exact absurd H (by simp)
                · replace c47 := Bool.eq_false_iff.mpr c47
                  subst c47
                  have H1 : (stemma_Read.j3 k1 x2_1 ji4 true) = some (r1, r2, r3) := by rw [if_neg (show ¬ (false = true) by decide)] at H; exact H
                  clear H
                  have H := H1
                  clear H1
                  have H' := Aside0.mk H
                  clear H
                  go_wp2
                  go_meet
                  case rel => exact ⟨_, (true), (by first | rfl | (simp; done) | (simp [*]; done)), H', ⟨by have := HK1.out; first | omega | exact Nat.le_refl _⟩, ⟨by (with_reducible repeat (first | apply Kd.R_alloc | apply Kd.R_drewN | apply Kd.R_drew)); exact HO_2.out⟩, ⟨by repeat (first | (with_reducible first | exact HB.out | apply below_alloc | apply pw_below_drewN | apply below_drew1) | exact HB.out)⟩⟩
              case rest =>
                clear HC46
                try clear c1
                try clear c2
                try clear c2b0
                try clear c2b1
                try clear p2
                try clear c3
                try clear p3
                try clear q3
                try clear hx3
                try clear qi3
                try clear c4
                try clear c5
                try clear c5b0
                try clear c5b1
                try clear c6
                try clear c6b0
                try clear c6b1
                try clear p6
                try clear q9
                try clear c10
                try clear c10b0
                try clear c11
                try clear c11b0
                try clear c12
                try clear c12b0
                try clear c15
                try clear c15b0
                try clear c16
                try clear c16b0
                try clear c21
                try clear c22
                try clear c23
                try clear c23b0
                try clear c23b1
                try clear c24
                try clear c25
                try clear c25b0
                try clear c25b1
                try clear c26
                try clear c26b0
                try clear c26b1
                try clear c27
                try clear c27b0
                try clear c27b1
                try clear c28
                try clear c28b0
                try clear c28b1
                try clear c29
                try clear c29b0
                try clear c29b1
                try clear c30
                try clear c30b0
                try clear c30b1
                try clear p31
                try clear q31
                try clear hx31
                try clear qi31
                try clear p32
                try clear q32
                try clear hx32
                try clear qi32
                try clear p33
                try clear q33
                try clear hx33
                try clear c34
                try clear c34b0
                try clear c34b1
                try clear c35
                try clear c35b0
                try clear c35b1
                try clear c36
                try clear c36b0
                try clear c36b1
                try clear c37
                try clear c37b0
                try clear c37b1
                try clear c38
                try clear c38b0
                try clear c38b1
                try clear c39
                try clear c39b0
                try clear c39b1
                try clear c40
                try clear c41
                try clear c41b0
                try clear c41b1
                try clear c42
                try clear c42b0
                try clear c42b1
                try clear c43
                try clear c47
                try clear c48
                try clear c48b0
                try clear c49
                try clear c49b0
                try clear hx312_0
                try clear hx316_0
                try clear hx319_0
                try clear hx320_0
                try clear hx321_0
                try clear hx322_0
                try clear hx323_0
                try clear hx324_0
                try clear hx325_0
                try clear hx326_0
                try clear hx330_0
                try clear p2
                try clear p3
                try clear p31
                try clear p312
                try clear p316
                try clear p319
                try clear p32
                try clear p320
                try clear p321
                try clear p322
                try clear p323
                try clear p324
                try clear p325
                try clear p326
                try clear p330
                try clear p6
                try clear q3
                try clear q31
                try clear q312
                try clear q316
                try clear q319
                try clear q32
                try clear q320
                try clear q321
                try clear q322
                try clear q323
                try clear q324
                try clear q325
                try clear q326
                try clear q330
                try clear q9
                obtain ⟨kq, x129_45, rfl, HA, HJ45, HO_2, HB⟩ := hcut
                cases kq with
                | zero => exact absurd HA.out (by simp [stemma_Read.j3])
                | succ kj45 =>
                  have H := HA.out
                  clear HA
                  simp only [stemma_Read.j3] at H
                  by_cases c50 : x129_45 = true
                  · subst c50
                    have H1 : (some (([] : List (S25)), wrap64 (ji4 + 1), 2)) = some (r1, r2, r3) := by rw [if_pos rfl] at H; exact H
                    clear H
                    have H := H1
                    clear H1
                    simp only [Option.some.injEq, Prod.mk.injEq] at H
                    obtain ⟨rfl, rfl, rfl⟩ := H
                    go_wp2
                    go_ret3
                    exact ⟨_, by first | rfl | (simp [errW_none, errW_some] <;> rfl) | (simp only [← hji4]; first | rfl | (simp [errW_none, errW_some] <;> rfl)) | (simp [*, errW_none, errW_some] <;> rfl), by first | exact Kd.R_nil _ _ _ _ _ | exact Kd.N_nil _ _ _ _ _ | exact Kd.V_nil _ _ _ _ _ | exact Kd.Q_nil _ _ _ _ _ | exact Kd.S_nil _ _ _ _ _, by repeat (first | (with_reducible first | exact HB.out | apply below_alloc | apply pw_below_drewN | apply below_drew1) | exact HB.out)⟩
                  · replace c50 := Bool.eq_false_iff.mpr c50
                    subst c50
                    have H1 : ((stemma_Check.f kj45 x2_1).bind fun t331 => (if t331 = 0 then (some (x2_1, 0, 0)) else (some (([] : List (S25)), 0, t331)))) = some (r1, r2, r3) := by rw [if_neg (show ¬ (false = true) by decide)] at H; exact H
                    clear H
                    have H := H1
                    clear H1
                    replace H := Option.bind_eq_some_iff.mp H
                    obtain ⟨t331, A510, H⟩ := H
                    replace H : (if t331 = 0 then (some (x2_1, 0, 0)) else (some (([] : List (S25)), 0, t331))) = some (r1, r2, r3) := H
                    have A51 := Aside0.mk A510
                    clear A510
                    by_cases c52 : t331 = 0
                    · rw [if_pos c52] at H
                      have c52b0 : (t331 == 0) = true := beq_iff_eq.mpr c52
                      have c52b1 : (t331 != 0) = false := bne_eq_false_iff_eq.mpr c52
                      clear c52
                      simp only [Option.some.injEq, Prod.mk.injEq] at H
                      obtain ⟨rfl, rfl, rfl⟩ := H
                      obtain ⟨Ao53, co53, eo53⟩ := Kd.R_slice HO_2.out
                      subst eo53
                      go_wp2_with (first | ((with_reducible refine gate_callee (f := 8) rfl ?_); refine goesL_ (some 133) rfl rfl Tryd.func8 (by kernel_rfl) rfl #[.slice Ao53 x2_1.length co53] rfl (by (try simp only [List.map_toArray, List.map_cons, List.map_nil]); first | done | rfl | (simp only [List.length_drop, List.length_take]; rfl)) ?_; (with_reducible refine (stemma_Check.calls kj45 _ _ x2_1 t331 _ ?side1 ?side2 A51.out).mono ?_); (case side1 => repeat (first | exact (Kd.R_reads' HO_2.out).2.2 | (with_reducible refine Kd.C_alloc ?_ _) | (with_reducible refine Kd.C_drewN ?_ _) | (with_reducible refine Kd.C_drew ?_))); (case side2 => exact (Kd.R_reads' HO_2.out).2.1); rintro e w54 ⟨rfl, hb⟩; refine ⟨_, rfl, ?_⟩; have n0_ := Aside0.mk (Kd.R_below (by (with_reducible repeat (first | apply Kd.R_alloc | apply Kd.R_drewN | apply Kd.R_drew)); exact HO_2.out) hb); have n1_ := Aside0.mk (below_step (by repeat (first | (with_reducible first | exact HB.out | apply below_alloc | apply pw_below_drewN | apply below_drew1) | exact HB.out)) hb); clear HO_2; clear HB; have HO_2 := n0_; have HB := n1_; clear n0_ n1_; (try clear hb); (try clear hb2); (try clear hk); (try clear hi)))
                      go_ret3
                      exact ⟨_, by first | rfl | (simp [errW_none, errW_some] <;> rfl) | (simp only [← hji4]; first | rfl | (simp [errW_none, errW_some] <;> rfl)) | (simp [*, errW_none, errW_some] <;> rfl), by (with_reducible repeat (first | apply Kd.R_alloc | apply Kd.R_drewN | apply Kd.R_drew)); exact HO_2.out, by repeat (first | (with_reducible first | exact HB.out | apply below_alloc | apply pw_below_drewN | apply below_drew1) | exact HB.out)⟩
                    · rw [if_neg c52] at H
                      have c52b0 : (t331 == 0) = false := beq_eq_false_iff_ne.mpr c52
                      have c52b1 : (t331 != 0) = true := bne_iff_ne.mpr c52
                      simp only [Option.some.injEq, Prod.mk.injEq] at H
                      obtain ⟨rfl, rfl, rfl⟩ := H
                      obtain ⟨Ao55, co55, eo55⟩ := Kd.R_slice HO_2.out
                      subst eo55
                      go_wp2_with (first | ((with_reducible refine gate_callee (f := 8) rfl ?_); refine goesL_ (some 133) rfl rfl Tryd.func8 (by kernel_rfl) rfl #[.slice Ao55 x2_1.length co55] rfl (by (try simp only [List.map_toArray, List.map_cons, List.map_nil]); first | done | rfl | (simp only [List.length_drop, List.length_take]; rfl)) ?_; (with_reducible refine (stemma_Check.calls kj45 _ _ x2_1 t331 _ ?side1 ?side2 A51.out).mono ?_); (case side1 => repeat (first | exact (Kd.R_reads' HO_2.out).2.2 | (with_reducible refine Kd.C_alloc ?_ _) | (with_reducible refine Kd.C_drewN ?_ _) | (with_reducible refine Kd.C_drew ?_))); (case side2 => exact (Kd.R_reads' HO_2.out).2.1); rintro e w56 ⟨rfl, hb⟩; refine ⟨_, rfl, ?_⟩; have n0_ := Aside0.mk (Kd.R_below (by (with_reducible repeat (first | apply Kd.R_alloc | apply Kd.R_drewN | apply Kd.R_drew)); exact HO_2.out) hb); have n1_ := Aside0.mk (below_step (by repeat (first | (with_reducible first | exact HB.out | apply below_alloc | apply pw_below_drewN | apply below_drew1) | exact HB.out)) hb); clear HO_2; clear HB; have HO_2 := n0_; have HB := n1_; clear n0_ n1_; (try clear hb); (try clear hb2); (try clear hk); (try clear hi)))
                      go_ret3
                      exact ⟨_, by first | rfl | (simp [errW_none, errW_some] <;> rfl) | (simp only [← hji4]; first | rfl | (simp [errW_none, errW_some] <;> rfl)) | (simp [*, errW_none, errW_some] <;> rfl), by first | exact Kd.R_nil _ _ _ _ _ | exact Kd.N_nil _ _ _ _ _ | exact Kd.V_nil _ _ _ _ _ | exact Kd.Q_nil _ _ _ _ _ | exact Kd.S_nil _ _ _ _ _, by repeat (first | (with_reducible first | exact HB.out | apply below_alloc | apply pw_below_drewN | apply below_drew1) | exact HB.out)⟩
      · rw [if_neg c6] at H
        exact absurd H (by simp)
    · rw [if_neg c5] at H
      exact absurd H (by simp)
end Go.Proofs.YtecdjnabmjhakaaDoor.P
namespace Go.Proofs.YtecdjnabmjhakaaDoor.P
open Go.RowKit Go.Proofs.YtecdjnabmjhakaaDoorW.PrintWords Go.Proofs.YtecdjnabmjhakaaDoorW.PrintLast Go.Proofs.YtecdjnabmjhakaaDoorW.PrintMore
attribute [local go_sem] max2_int min2_int max_two min_two max_three min_three max_four min_four   -- for this text's walks alone
set_option linter.unusedVariables false
set_option linter.unusedSimpArgs false
def cippusref07_split.l0 : Nat → ByteArray → Int → List ByteArray → Int → Int → Option (List ByteArray)
  | 0, _, _, _, _, _ => none
  | k + 1, x0, x1, x5, x6, x7 => if x7 ≤ (x0.size : Int) then (if x7 = (x0.size : Int) then (if 0 ≤ x6 then (if x6 ≤ x7 then (if x5.length < 8796093022208 then (cippusref07_split.l0 k x0 x1 (x5 ++ [x0.extract (x6 : Int).toNat (x7 : Int).toNat]) (wrap64 (x7 + 1)) (wrap64 (x7 + 1))) else (none)) else (none)) else (none)) else (if 0 ≤ x7 then (if x7 < (x0.size : Int) then (if (bt x0 x7) = x1 then (if 0 ≤ x6 then (if x6 ≤ x7 then (if x5.length < 8796093022208 then (cippusref07_split.l0 k x0 x1 (x5 ++ [x0.extract (x6 : Int).toNat (x7 : Int).toNat]) (wrap64 (x7 + 1)) (wrap64 (x7 + 1))) else (none)) else (none)) else (none)) else (cippusref07_split.l0 k x0 x1 x5 x6 (wrap64 (x7 + 1)))) else (none)) else (none))) else (some x5)
def cippusref07_split.f (k : Nat) (a0 : ByteArray) (a1 : Int) : Option (List ByteArray) := cippusref07_split.l0 k a0 a1 ([] : List ByteArray) 0 0
set_option maxHeartbeats 8000000 in
set_option maxRecDepth 100000 in
theorem cippusref07_split.calls (k : Nat) (a0 : ByteArray) (a1 : Int) (r : List ByteArray) (w : World) (h : cippusref07_split.f k a0 a1 = some r) :
    Calls Tryd.prog 48 #[.string a0, .int .u8 a1] w fun e w' => ∃ v0_ : Value, e = .returned (v0_) ∧ Kd.R Kd.string 9 w' w.heap.size (fun _ => True) v0_ r ∧ Below w.heap.size w w' := by
  have HB := Aside0.mk (Below.refl w.heap.size w)
  have H : (cippusref07_split.l0 k a0 a1 ([] : List ByteArray) 0 0) = some r := h
  clear h
  have H' := Aside0.mk H
  clear H
  go_enter Tryd.func48, Tryd.ntmps48
  go_wp2
  go_loopg [5, 6, 7] k (fun kq v5 v6 v7 w' => ∃ (x5_1 : List ByteArray) (x6_1 : Int) (x7_1 : Int), v6 = .int .i64 x6_1 ∧ v7 = .int .i64 x7_1 ∧ Aside0 (cippusref07_split.l0 kq a0 a1 x5_1 x6_1 x7_1 = some r) ∧ Aside0 (kq ≤ k) ∧ Aside0 (Kd.R Kd.string 9 w' w.heap.size (fun _ => True) v5 x5_1) ∧ Aside0 (Below w.heap.size w w'))
  case atStart => exact ⟨(([] : List ByteArray)), (0), (0), (by first | rfl | (simp; done) | (simp [*]; done)), (by first | rfl | (simp; done) | (simp [*]; done)), H', ⟨Nat.le_refl _⟩, ⟨by first | exact Kd.R_nil _ _ _ _ _ | exact Kd.N_nil _ _ _ _ _ | exact Kd.V_nil _ _ _ _ _ | exact Kd.Q_nil _ _ _ _ _ | exact Kd.S_nil _ _ _ _ _⟩, ⟨by repeat (first | (with_reducible first | exact HB.out | apply below_alloc | apply pw_below_drewN | apply below_drew1) | exact HB.out)⟩⟩
  case round =>
    clear H'
    try clear p2
    obtain ⟨x5_1, x6_1, x7_1, rfl, rfl, HA, HK1, HO_5, HB⟩ := hrel
    cases gk with
    | zero => exact absurd HA.out (by simp [cippusref07_split.l0])
    | succ k1 =>
      have H := HA.out
      clear HA
      simp only [cippusref07_split.l0] at H
      by_cases c3 : x7_1 ≤ (a0.size : Int)
      · rw [if_pos c3] at H
        have c3b0 : decide (x7_1 ≤ (a0.size : Int)) = true := decide_eq_true c3
        clear c3
        by_cases c4 : x7_1 = (a0.size : Int)
        · rw [if_pos c4] at H
          have c4b0 : (x7_1 == (a0.size : Int)) = true := beq_iff_eq.mpr c4
          have c4b1 : (x7_1 != (a0.size : Int)) = false := bne_eq_false_iff_eq.mpr c4
          clear c4
          by_cases c5 : 0 ≤ x6_1
          · rw [if_pos c5] at H
            have c5b0 := eq_true c5
            have c5b1 : decide (0 ≤ x6_1) = true := decide_eq_true c5
            clear c5
            by_cases c6 : x6_1 ≤ x7_1
            · rw [if_pos c6] at H
              have c6b0 := eq_true c6
              have c6b1 : decide (x6_1 ≤ x7_1) = true := decide_eq_true c6
              clear c6
              have c7b0 := eq_true (of_decide_eq_true (by first | (with_reducible assumption) | assumption) : x7_1 ≤ (a0.size : Int))
              by_cases c8 : x5_1.length < 8796093022208
              · rw [if_pos c8] at H
                have LMc8 := Aside0.mk c8
                clear c8
                obtain ⟨y332, hy332⟩ : ∃ y_ : List ByteArray, y_ = (x5_1 ++ [a0.extract (x6_1 : Int).toNat (x7_1 : Int).toNat]) := ⟨_, rfl⟩
                replace H : (cippusref07_split.l0 k1 a0 a1 y332 (wrap64 (x7_1 + 1)) (wrap64 (x7_1 + 1))) = some r := by first | (rw [hy332]; with_reducible exact H) | (have H2_ := (Option.bind_some _ _).symm.trans H; rw [hy332]; with_reducible exact H2_) | (have H2_ := (Option.bind_some _ _).symm.trans H; with_reducible exact H2_) | with_reducible exact H | (rw [hy332]; exact H) | exact H
                have Ny332 := Aside0.mk hy332
                clear hy332
                have H' := Aside0.mk H
                clear H
                go_wp2_with (first | ((with_reducible refine gate_builtin (b := .append) (xs := #[.tmp 25, .tmp 30]) rfl ?_); at_builtin; refine Kd.R_append Kd.string (w0 := w) w.heap.size rfl (.tmp 25) (.tmp 30) 36 9 (.string ⟨#[]⟩) 16 rfl Tryd.underlying36 info9 rfl (by decide) (by omega) u5 x5_1 (a0.extract (x6_1 : Int).toNat (x7_1 : Int).toNat) [.string (a0.extract (x6_1 : Int).toNat (x7_1 : Int).toNat)] (fun _ => True) (fun _ => False) rfl rfl ?aP (fun _ hk => hk.elim) ?aF ?aO ?aB ?aS ?aL ?_; (case aP => exact rfl); (case aB => exact (by repeat (first | (with_reducible first | exact HB.out | apply below_alloc | apply pw_below_drewN | apply below_drew1) | exact HB.out))); (case aF => exact (fun _ _ => trivial)); (case aO => exact (by (with_reducible repeat (first | apply Kd.R_alloc | apply Kd.R_drewN | apply Kd.R_drew)); exact HO_5.out)); (case aS => exact (below_size (by repeat (first | (with_reducible first | exact HB.out | apply below_alloc | apply pw_below_drewN | apply below_drew1) | exact HB.out)))); (case aL => have := LMc8.out; omega); intro v333 w9 ho hb hg hat; rw [← Ny332.out] at ho; have n0_ := Aside0.mk (hb); have n1_ := Aside0.mk (ho); clear HB; clear HO_5; have HB := n0_; have HO334 := n1_; clear n0_ n1_; clear ho hb hg hat))
                go_roundg k1
                case measure => have := HK1.out; omega
                case rel => exact ⟨(y332), (wrap64 (x7_1 + 1)), (wrap64 (x7_1 + 1)), (by first | rfl | (simp; done) | (simp [*]; done)), (by first | rfl | (simp; done) | (simp [*]; done)), H', ⟨by have := HK1.out; omega⟩, ⟨by (with_reducible repeat (first | apply Kd.R_alloc | apply Kd.R_drewN | apply Kd.R_drew)); exact HO334.out⟩, ⟨by repeat (first | (with_reducible first | exact HB.out | apply below_alloc | apply pw_below_drewN | apply below_drew1) | exact HB.out)⟩⟩
              · rw [if_neg c8] at H
                exact absurd H (by simp)
            · rw [if_neg c6] at H
              exact absurd H (by simp)
          · rw [if_neg c5] at H
            exact absurd H (by simp)
        · rw [if_neg c4] at H
          have c4b0 : (x7_1 == (a0.size : Int)) = false := beq_eq_false_iff_ne.mpr c4
          have c4b1 : (x7_1 != (a0.size : Int)) = true := bne_iff_ne.mpr c4
          by_cases c10 : 0 ≤ x7_1
          · rw [if_pos c10] at H
            have c10b0 : decide (0 ≤ x7_1) = true := decide_eq_true c10
            clear c10
            by_cases c11 : x7_1 < (a0.size : Int)
            · rw [if_pos c11] at H
              have c11b0 : decide (x7_1 < (a0.size : Int)) = true := decide_eq_true c11
              clear c11
              by_cases c13 : (bt a0 x7_1) = a1
              · rw [if_pos c13] at H
                have c13b0 : ((bt a0 x7_1) == a1) = true := beq_iff_eq.mpr c13
                have c13b1 : ((bt a0 x7_1) != a1) = false := bne_eq_false_iff_eq.mpr c13
                clear c13
                by_cases c14 : 0 ≤ x6_1
                · rw [if_pos c14] at H
                  have c14b0 := eq_true c14
                  have c14b1 : decide (0 ≤ x6_1) = true := decide_eq_true c14
                  clear c14
                  by_cases c15 : x6_1 ≤ x7_1
                  · rw [if_pos c15] at H
                    have c15b0 := eq_true c15
                    have c15b1 : decide (x6_1 ≤ x7_1) = true := decide_eq_true c15
                    clear c15
                    have c16b0 := eq_true (of_decide_eq_true (by first | (with_reducible assumption) | assumption) : x7_1 ≤ (a0.size : Int))
                    by_cases c17 : x5_1.length < 8796093022208
                    · rw [if_pos c17] at H
                      have LMc17 := Aside0.mk c17
                      clear c17
                      obtain ⟨y335, hy335⟩ : ∃ y_ : List ByteArray, y_ = (x5_1 ++ [a0.extract (x6_1 : Int).toNat (x7_1 : Int).toNat]) := ⟨_, rfl⟩
                      replace H : (cippusref07_split.l0 k1 a0 a1 y335 (wrap64 (x7_1 + 1)) (wrap64 (x7_1 + 1))) = some r := by first | (rw [hy335]; with_reducible exact H) | (have H2_ := (Option.bind_some _ _).symm.trans H; rw [hy335]; with_reducible exact H2_) | (have H2_ := (Option.bind_some _ _).symm.trans H; with_reducible exact H2_) | with_reducible exact H | (rw [hy335]; exact H) | exact H
                      have Ny335 := Aside0.mk hy335
                      clear hy335
                      have H' := Aside0.mk H
                      clear H
                      have p12 : 0 ≤ (x7_1 : Int) := of_decide_eq_true (by first | (with_reducible assumption) | assumption)
                      have q12 : x7_1 < (a0.size : Int) := of_decide_eq_true (by first | (with_reducible assumption) | assumption)
                      have hx12 := bt_at a0 x7_1
                      replace p12 := eq_true p12
                      replace q12 := eq_true q12
                      go_wp2_with (first | ((with_reducible refine gate_builtin (b := .append) (xs := #[.tmp 25, .tmp 30]) rfl ?_); at_builtin; refine Kd.R_append Kd.string (w0 := w) w.heap.size rfl (.tmp 25) (.tmp 30) 36 9 (.string ⟨#[]⟩) 16 rfl Tryd.underlying36 info9 rfl (by decide) (by omega) u5 x5_1 (a0.extract (x6_1 : Int).toNat (x7_1 : Int).toNat) [.string (a0.extract (x6_1 : Int).toNat (x7_1 : Int).toNat)] (fun _ => True) (fun _ => False) rfl rfl ?aP (fun _ hk => hk.elim) ?aF ?aO ?aB ?aS ?aL ?_; (case aP => exact rfl); (case aB => exact (by repeat (first | (with_reducible first | exact HB.out | apply below_alloc | apply pw_below_drewN | apply below_drew1) | exact HB.out))); (case aF => exact (fun _ _ => trivial)); (case aO => exact (by (with_reducible repeat (first | apply Kd.R_alloc | apply Kd.R_drewN | apply Kd.R_drew)); exact HO_5.out)); (case aS => exact (below_size (by repeat (first | (with_reducible first | exact HB.out | apply below_alloc | apply pw_below_drewN | apply below_drew1) | exact HB.out)))); (case aL => have := LMc17.out; omega); intro v336 w18 ho hb hg hat; rw [← Ny335.out] at ho; have n0_ := Aside0.mk (hb); have n1_ := Aside0.mk (ho); clear HB; clear HO_5; have HB := n0_; have HO337 := n1_; clear n0_ n1_; clear ho hb hg hat))
                      go_roundg k1
                      case measure => have := HK1.out; omega
                      case rel => exact ⟨(y335), (wrap64 (x7_1 + 1)), (wrap64 (x7_1 + 1)), (by first | rfl | (simp; done) | (simp [*]; done)), (by first | rfl | (simp; done) | (simp [*]; done)), H', ⟨by have := HK1.out; omega⟩, ⟨by (with_reducible repeat (first | apply Kd.R_alloc | apply Kd.R_drewN | apply Kd.R_drew)); exact HO337.out⟩, ⟨by repeat (first | (with_reducible first | exact HB.out | apply below_alloc | apply pw_below_drewN | apply below_drew1) | exact HB.out)⟩⟩
                    · rw [if_neg c17] at H
                      exact absurd H (by simp)
                  · rw [if_neg c15] at H
                    exact absurd H (by simp)
                · rw [if_neg c14] at H
                  exact absurd H (by simp)
              · rw [if_neg c13] at H
                have c13b0 : ((bt a0 x7_1) == a1) = false := beq_eq_false_iff_ne.mpr c13
                have c13b1 : ((bt a0 x7_1) != a1) = true := bne_iff_ne.mpr c13
                have H' := Aside0.mk H
                clear H
                have p12 : 0 ≤ (x7_1 : Int) := of_decide_eq_true (by first | (with_reducible assumption) | assumption)
                have q12 : x7_1 < (a0.size : Int) := of_decide_eq_true (by first | (with_reducible assumption) | assumption)
                have hx12 := bt_at a0 x7_1
                replace p12 := eq_true p12
                replace q12 := eq_true q12
                go_wp2
                go_roundg k1
                case measure => have := HK1.out; omega
                case rel => exact ⟨(x5_1), (x6_1), (wrap64 (x7_1 + 1)), (by first | rfl | (simp; done) | (simp [*]; done)), (by first | rfl | (simp; done) | (simp [*]; done)), H', ⟨by have := HK1.out; omega⟩, ⟨by (with_reducible repeat (first | apply Kd.R_alloc | apply Kd.R_drewN | apply Kd.R_drew)); exact HO_5.out⟩, ⟨by repeat (first | (with_reducible first | exact HB.out | apply below_alloc | apply pw_below_drewN | apply below_drew1) | exact HB.out)⟩⟩
            · rw [if_neg c11] at H
              exact absurd H (by simp)
          · rw [if_neg c10] at H
            exact absurd H (by simp)
      · rw [if_neg c3] at H
        have c3b0 : decide (x7_1 ≤ (a0.size : Int)) = false := decide_eq_false c3
        clear c3
        obtain rfl := Option.some.inj H
        go_wp2
        go_ret
        exact ⟨_, by first | rfl | (simp [errW_none, errW_some] <;> rfl) | (simp [*, errW_none, errW_some] <;> rfl), by (with_reducible repeat (first | apply Kd.R_alloc | apply Kd.R_drewN | apply Kd.R_drew)); exact HO_5.out, by repeat (first | (with_reducible first | exact HB.out | apply below_alloc | apply pw_below_drewN | apply below_drew1) | exact HB.out)⟩
end Go.Proofs.YtecdjnabmjhakaaDoor.P
namespace Go.Proofs.YtecdjnabmjhakaaDoor.P
open Go.RowKit Go.Proofs.YtecdjnabmjhakaaDoorW.PrintWords Go.Proofs.YtecdjnabmjhakaaDoorW.PrintLast Go.Proofs.YtecdjnabmjhakaaDoorW.PrintMore
attribute [local go_sem] max2_int min2_int max_two min_two max_three min_three max_four min_four   -- for this text's walks alone
set_option linter.unusedVariables false
set_option linter.unusedSimpArgs false
def cippusref07_number.f (a0 : ByteArray) : Option (Int × Bool) := if (a0.size : Int) = 1 then (if 0 < (a0.size : Int) then (if (bt a0 0) < 48 then (some (0, false)) else (if (bt a0 0) > 57 then (some (0, false)) else (some (((bt a0 0) - 48) % 256, true)))) else (none)) else (some (0, false))
set_option maxHeartbeats 8000000 in
set_option maxRecDepth 100000 in
theorem cippusref07_number.calls (a0 : ByteArray) (r1 : Int) (r2 : Bool) (w : World) (h : cippusref07_number.f a0 = some (r1, r2)) :
    Calls Tryd.prog 49 #[.string a0] w fun e w' => e = .returned (.tuple #[.int .i64 r1, .bool r2]) ∧ Drawn0 w w' := by
  have H : (if (a0.size : Int) = 1 then (if 0 < (a0.size : Int) then (if (bt a0 0) < 48 then (some (0, false)) else (if (bt a0 0) > 57 then (some (0, false)) else (some (((bt a0 0) - 48) % 256, true)))) else (none)) else (some (0, false))) = some (r1, r2) := h
  clear h
  by_cases c2 : (a0.size : Int) = 1
  · rw [if_pos c2] at H
    have c2b0 : ((a0.size : Int) == 1) = true := beq_iff_eq.mpr c2
    have c2b1 : ((a0.size : Int) != 1) = false := bne_eq_false_iff_eq.mpr c2
    clear c2
    by_cases c3 : 0 < (a0.size : Int)
    · rw [if_pos c3] at H
      have c3b0 : decide (0 < (a0.size : Int)) = true := decide_eq_true c3
      have c3b1 : decide (0 < a0.size) = true := decide_eq_true (by omega)
      clear c3
      by_cases c5 : (bt a0 0) < 48
      · rw [if_pos c5] at H
        have c5b0 : decide ((bt a0 0) < 48) = true := decide_eq_true c5
        clear c5
        simp only [Option.some.injEq, Prod.mk.injEq] at H
        obtain ⟨rfl, rfl⟩ := H
        have p4 : 0 ≤ (0 : Int) := (by omega)
        have q4 : 0 < a0.size := (by have : (0 : Int) < (a0.size : Int) := of_decide_eq_true (by first | (with_reducible assumption) | assumption); omega)
        have hx4 : ∀ h : 0 < a0.size, ((a0[0]'h).toNat : Int) = bt a0 0 := bt_at a0 0
        clear p4
        have qi4 : (0 < (a0.size : Int)) = True := eq_true (of_decide_eq_true (by first | (with_reducible assumption) | assumption))
        replace q4 := eq_true q4
        go_enter Tryd.func49, Tryd.ntmps49
        go_wp2
        go_ret2
        exact ⟨by first | rfl | (simp; done) | (simp [*]; done), by repeat (first | exact Drawn0.refl _ | apply Drawn0.step)⟩
      · rw [if_neg c5] at H
        have c5b0 : decide ((bt a0 0) < 48) = false := decide_eq_false c5
        clear c5
        by_cases c7 : (bt a0 0) > 57
        · rw [if_pos c7] at H
          have c7b0 : decide (57 < (bt a0 0)) = true := decide_eq_true c7
          clear c7
          simp only [Option.some.injEq, Prod.mk.injEq] at H
          obtain ⟨rfl, rfl⟩ := H
          have p4 : 0 ≤ (0 : Int) := (by omega)
          have q4 : 0 < a0.size := (by have : (0 : Int) < (a0.size : Int) := of_decide_eq_true (by first | (with_reducible assumption) | assumption); omega)
          have hx4 : ∀ h : 0 < a0.size, ((a0[0]'h).toNat : Int) = bt a0 0 := bt_at a0 0
          clear p4
          have qi4 : (0 < (a0.size : Int)) = True := eq_true (of_decide_eq_true (by first | (with_reducible assumption) | assumption))
          replace q4 := eq_true q4
          have p6 : 0 ≤ (0 : Int) := (by omega)
          have q6 : 0 < a0.size := (by have : (0 : Int) < (a0.size : Int) := of_decide_eq_true (by first | (with_reducible assumption) | assumption); omega)
          have hx6 : ∀ h : 0 < a0.size, ((a0[0]'h).toNat : Int) = bt a0 0 := bt_at a0 0
          clear p6
          have qi6 : (0 < (a0.size : Int)) = True := eq_true (of_decide_eq_true (by first | (with_reducible assumption) | assumption))
          replace q6 := eq_true q6
          go_enter Tryd.func49, Tryd.ntmps49
          go_wp2
          go_ret2
          exact ⟨by first | rfl | (simp; done) | (simp [*]; done), by repeat (first | exact Drawn0.refl _ | apply Drawn0.step)⟩
        · rw [if_neg c7] at H
          have c7b0 : decide (57 < (bt a0 0)) = false := decide_eq_false c7
          clear c7
          simp only [Option.some.injEq, Prod.mk.injEq] at H
          obtain ⟨rfl, rfl⟩ := H
          have p4 : 0 ≤ (0 : Int) := (by omega)
          have q4 : 0 < a0.size := (by have : (0 : Int) < (a0.size : Int) := of_decide_eq_true (by first | (with_reducible assumption) | assumption); omega)
          have hx4 : ∀ h : 0 < a0.size, ((a0[0]'h).toNat : Int) = bt a0 0 := bt_at a0 0
          clear p4
          have qi4 : (0 < (a0.size : Int)) = True := eq_true (of_decide_eq_true (by first | (with_reducible assumption) | assumption))
          replace q4 := eq_true q4
          have p6 : 0 ≤ (0 : Int) := (by omega)
          have q6 : 0 < a0.size := (by have : (0 : Int) < (a0.size : Int) := of_decide_eq_true (by first | (with_reducible assumption) | assumption); omega)
          have hx6 : ∀ h : 0 < a0.size, ((a0[0]'h).toNat : Int) = bt a0 0 := bt_at a0 0
          clear p6
          have qi6 : (0 < (a0.size : Int)) = True := eq_true (of_decide_eq_true (by first | (with_reducible assumption) | assumption))
          replace q6 := eq_true q6
          have p8 : 0 ≤ (0 : Int) := (by omega)
          have q8 : 0 < a0.size := (by have : (0 : Int) < (a0.size : Int) := of_decide_eq_true (by first | (with_reducible assumption) | assumption); omega)
          have hx8 : ∀ h : 0 < a0.size, ((a0[0]'h).toNat : Int) = bt a0 0 := bt_at a0 0
          clear p8
          have qi8 : (0 < (a0.size : Int)) = True := eq_true (of_decide_eq_true (by first | (with_reducible assumption) | assumption))
          replace q8 := eq_true q8
          go_enter Tryd.func49, Tryd.ntmps49
          go_wp2
          go_ret2
          exact ⟨by first | rfl | (simp; done) | (simp [*]; done), by repeat (first | exact Drawn0.refl _ | apply Drawn0.step)⟩
    · rw [if_neg c3] at H
      exact absurd H (by simp)
  · rw [if_neg c2] at H
    have c2b0 : ((a0.size : Int) == 1) = false := beq_eq_false_iff_ne.mpr c2
    have c2b1 : ((a0.size : Int) != 1) = true := bne_iff_ne.mpr c2
    simp only [Option.some.injEq, Prod.mk.injEq] at H
    obtain ⟨rfl, rfl⟩ := H
    go_enter Tryd.func49, Tryd.ntmps49
    go_wp2
    go_ret2
    exact ⟨by first | rfl | (simp; done) | (simp [*]; done), by repeat (first | exact Drawn0.refl _ | apply Drawn0.step)⟩
end Go.Proofs.YtecdjnabmjhakaaDoor.P
