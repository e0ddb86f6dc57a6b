/- Lemmas for the statement StemmaKnown of the given program, for every input that its row lets in. Conditions: none beyond those that each lemma tells. -/
import Derived.KernelRfl
import Derived.Test.YtecdjnabmjhakaaDoorMStemmaKnown3
set_option linter.unusedVariables false
set_option linter.unusedSimpArgs false
namespace Go.Proofs.YtecdjnabmjhakaaDoor.P
open Go.RowKit Go.Proofs.YtecdjnabmjhakaaDoorW.PrintWords Go.Proofs.YtecdjnabmjhakaaDoorW.PrintLast Go.Proofs.YtecdjnabmjhakaaDoorW.PrintMore
attribute [local go_sem] max2_int min2_int max_two min_two max_three min_three max_four min_four   -- for this text's walks alone
set_option linter.unusedVariables false
set_option linter.unusedSimpArgs false
def stemma_Write.l0 : Nat → List (S25) → ByteArray → List (S25) → Int → Int → Option (ByteArray × Int)
  | 0, _, _, _, _, _ => none
  | k + 1, x0, x5, x22, x23, x24 => if x24 < x23 then (if 0 ≤ x24 then (if x24 < (x22.length : Int) then (if (rd_T25 x22 x24).f2 = true then (if 3 + 1 ≤ 9223372036854775807 then (if 4 + ((rd_T25 x22 x24).f0).size ≤ 9223372036854775807 then (if (((⟨#[115, 97, 119]⟩ : ByteArray) ++ (⟨#[32]⟩ : ByteArray)) ++ ((rd_T25 x22 x24).f0)).size + 1 ≤ 9223372036854775807 then ((strconv_Itoa.f ((rd_T25 x22 x24).f1)).bind fun t161 => (if ((((⟨#[115, 97, 119]⟩ : ByteArray) ++ (⟨#[32]⟩ : ByteArray)) ++ ((rd_T25 x22 x24).f0)) ++ (⟨#[32]⟩ : ByteArray)).size + t161.size ≤ 9223372036854775807 then (if (((((⟨#[115, 97, 119]⟩ : ByteArray) ++ (⟨#[32]⟩ : ByteArray)) ++ ((rd_T25 x22 x24).f0)) ++ (⟨#[32]⟩ : ByteArray)) ++ t161).size + 1 ≤ 9223372036854775807 then (if x5.size + ((((((⟨#[115, 97, 119]⟩ : ByteArray) ++ (⟨#[32]⟩ : ByteArray)) ++ ((rd_T25 x22 x24).f0)) ++ (⟨#[32]⟩ : ByteArray)) ++ t161) ++ (⟨#[10]⟩ : ByteArray)).size ≤ 9223372036854775807 then (stemma_Write.l0 k x0 (x5 ++ ((((((⟨#[115, 97, 119]⟩ : ByteArray) ++ (⟨#[32]⟩ : ByteArray)) ++ ((rd_T25 x22 x24).f0)) ++ (⟨#[32]⟩ : ByteArray)) ++ t161) ++ (⟨#[10]⟩ : ByteArray))) x22 x23 (wrap64 (x24 + 1))) else (none)) else (none)) else (none))) else (none)) else (none)) else (none)) else (if 3 + 1 ≤ 9223372036854775807 then (if 4 + ((rd_T25 x22 x24).f0).size ≤ 9223372036854775807 then (if (((⟨#[104, 97, 100]⟩ : ByteArray) ++ (⟨#[32]⟩ : ByteArray)) ++ ((rd_T25 x22 x24).f0)).size + 1 ≤ 9223372036854775807 then ((strconv_Itoa.f ((rd_T25 x22 x24).f1)).bind fun t162 => (if ((((⟨#[104, 97, 100]⟩ : ByteArray) ++ (⟨#[32]⟩ : ByteArray)) ++ ((rd_T25 x22 x24).f0)) ++ (⟨#[32]⟩ : ByteArray)).size + t162.size ≤ 9223372036854775807 then (if (((((⟨#[104, 97, 100]⟩ : ByteArray) ++ (⟨#[32]⟩ : ByteArray)) ++ ((rd_T25 x22 x24).f0)) ++ (⟨#[32]⟩ : ByteArray)) ++ t162).size + 1 ≤ 9223372036854775807 then (if x5.size + ((((((⟨#[104, 97, 100]⟩ : ByteArray) ++ (⟨#[32]⟩ : ByteArray)) ++ ((rd_T25 x22 x24).f0)) ++ (⟨#[32]⟩ : ByteArray)) ++ t162) ++ (⟨#[10]⟩ : ByteArray)).size ≤ 9223372036854775807 then (stemma_Write.l0 k x0 (x5 ++ ((((((⟨#[104, 97, 100]⟩ : ByteArray) ++ (⟨#[32]⟩ : ByteArray)) ++ ((rd_T25 x22 x24).f0)) ++ (⟨#[32]⟩ : ByteArray)) ++ t162) ++ (⟨#[10]⟩ : ByteArray))) x22 x23 (wrap64 (x24 + 1))) else (none)) else (none)) else (none))) else (none)) else (none)) else (none))) else (none)) else (none)) else (if x5.size + 7 ≤ 9223372036854775807 then ((strconv_Itoa.f (x0.length : Int)).bind fun t163 => (if (x5 ++ (⟨#[99, 111, 112, 105, 101, 115, 32]⟩ : ByteArray)).size + t163.size ≤ 9223372036854775807 then (if ((x5 ++ (⟨#[99, 111, 112, 105, 101, 115, 32]⟩ : ByteArray)) ++ t163).size + 1 ≤ 9223372036854775807 then (some (((x5 ++ (⟨#[99, 111, 112, 105, 101, 115, 32]⟩ : ByteArray)) ++ t163) ++ (⟨#[10]⟩ : ByteArray), 0)) else (none)) else (none))) else (none))
def stemma_Write.f (k : Nat) (l0 : List (S25)) : Option (ByteArray × Int) := (stemma_Check.f k l0).bind fun t156 => (if t156 = 0 then (if 0 < (l0.length : Int) then ((strconv_Itoa.f (((rd_T25 l0 0).f0).size : Int)).bind fun t158 => (if 7 + t158.size ≤ 9223372036854775807 then (if ((⟨#[112, 108, 97, 99, 101, 115, 32]⟩ : ByteArray) ++ t158).size + 1 ≤ 9223372036854775807 then (stemma_Write.l0 k l0 (((⟨#[112, 108, 97, 99, 101, 115, 32]⟩ : ByteArray) ++ t158) ++ (⟨#[10]⟩ : ByteArray)) l0 (l0.length : Int) 0) else (none)) else (none))) else (none)) else (some ((⟨#[]⟩ : ByteArray), t156)))
def stemma_Write.T11 : Bool × List (List Nat × List Nat) := (true, [([], []), ([], []), ([1], [1]), ([], []), ([3], [3]), ([2, 4], [2, 4]), ([5], [5]), ([], []), ([7], [7]), ([8], [8]), ([6, 9], [6, 9]), ([10], [10]), ([0, 11], [0, 11]), ([12, 9, 0, 1, 2, 3, 4, 5, 6, 7, 8, 9, 10, 11, 12], [0, 12])])
def stemma_Write.B11 : List Nat := [0, 0, 2, 0, 8, 30, 62, 0, 128, 384, 1022, 2046, 4095, 8191]
theorem stemma_Write.tab11 : rtab .any (opsOf Tryd.f15 11) = stemma_Write.T11 := by kernel_rfl
theorem stemma_Write.bits11 : waitsOk stemma_Write.T11.2 stemma_Write.B11 = true := by kernel_rfl
set_option maxHeartbeats 8000000 in
set_option maxRecDepth 100000 in
theorem stemma_Write.calls (k : Nat) (A0 : Option Addr) (c0 : Nat) (l0 : List (S25)) (r1 : ByteArray) (r2 : Int) (w : World) (hr0 : Kd.C k25 w A0 l0.length l0) (hc0 : l0.length ≤ c0) (h : stemma_Write.f k l0 = some (r1, r2)) :
    Calls Tryd.prog 15 #[.slice A0 l0.length c0] w fun e w' => e = .returned (.tuple #[.string r1, .int .i64 r2]) ∧ Below w.heap.size w w' := by
  have hu25 := Tryd.underlying25
  have HR0 := Aside0.mk hr0
  have HC0 := Aside0.mk hc0
  clear hr0 hc0
  have HB := Aside0.mk (Below.refl w.heap.size w)
  have H : ((stemma_Check.f k l0).bind fun t156 => (if t156 = 0 then (if 0 < (l0.length : Int) then ((strconv_Itoa.f (((rd_T25 l0 0).f0).size : Int)).bind fun t158 => (if 7 + t158.size ≤ 9223372036854775807 then (if ((⟨#[112, 108, 97, 99, 101, 115, 32]⟩ : ByteArray) ++ t158).size + 1 ≤ 9223372036854775807 then (stemma_Write.l0 k l0 (((⟨#[112, 108, 97, 99, 101, 115, 32]⟩ : ByteArray) ++ t158) ++ (⟨#[10]⟩ : ByteArray)) l0 (l0.length : Int) 0) else (none)) else (none))) else (none)) else (some ((⟨#[]⟩ : ByteArray), t156)))) = some (r1, r2) := h
  clear h
  replace H := Option.bind_eq_some_iff.mp H
  obtain ⟨t156, A20, H⟩ := H
  replace H : (if t156 = 0 then (if 0 < (l0.length : Int) then ((strconv_Itoa.f (((rd_T25 l0 0).f0).size : Int)).bind fun t158 => (if 7 + t158.size ≤ 9223372036854775807 then (if ((⟨#[112, 108, 97, 99, 101, 115, 32]⟩ : ByteArray) ++ t158).size + 1 ≤ 9223372036854775807 then (stemma_Write.l0 k l0 (((⟨#[112, 108, 97, 99, 101, 115, 32]⟩ : ByteArray) ++ t158) ++ (⟨#[10]⟩ : ByteArray)) l0 (l0.length : Int) 0) else (none)) else (none))) else (none)) else (some ((⟨#[]⟩ : ByteArray), t156))) = some (r1, r2) := H
  have A2 := Aside0.mk A20
  clear A20
  by_cases c3 : t156 = 0
  · rw [if_pos c3] at H
    have c3b0 : (t156 == 0) = true := beq_iff_eq.mpr c3
    have c3b1 : (t156 != 0) = false := bne_eq_false_iff_eq.mpr c3
    clear c3
    by_cases c4 : 0 < (l0.length : Int)
    · rw [if_pos c4] at H
      have c4b0 : decide (0 < (l0.length : Int)) = true := decide_eq_true c4
      have c4b1 : decide (0 < l0.length) = true := decide_eq_true (by omega)
      clear c4
      replace H := Option.bind_eq_some_iff.mp H
      obtain ⟨t158, A50, H⟩ := H
      replace H : (if 7 + t158.size ≤ 9223372036854775807 then (if ((⟨#[112, 108, 97, 99, 101, 115, 32]⟩ : ByteArray) ++ t158).size + 1 ≤ 9223372036854775807 then (stemma_Write.l0 k l0 (((⟨#[112, 108, 97, 99, 101, 115, 32]⟩ : ByteArray) ++ t158) ++ (⟨#[10]⟩ : ByteArray)) l0 (l0.length : Int) 0) else (none)) else (none)) = some (r1, r2) := H
      have A5 := Aside0.mk A50
      clear A50
      by_cases c6 : 7 + t158.size ≤ 9223372036854775807
      · rw [if_pos c6] at H
        have c6b0 := eq_true c6
        have c6b1 : decide (7 + t158.size ≤ 9223372036854775807) = true := decide_eq_true c6
        try have c6b2 : (9223372036854775807 < 7 + t158.size) = False := eq_false (Nat.not_lt.2 c6)
        by_cases c7 : ((⟨#[112, 108, 97, 99, 101, 115, 32]⟩ : ByteArray) ++ t158).size + 1 ≤ 9223372036854775807
        · rw [if_pos c7] at H
          have c7b0 := eq_true c7
          have c7b1 : decide (((⟨#[112, 108, 97, 99, 101, 115, 32]⟩ : ByteArray) ++ t158).size + 1 ≤ 9223372036854775807) = true := decide_eq_true c7
          try have c7b2 : (9223372036854775807 < ((⟨#[112, 108, 97, 99, 101, 115, 32]⟩ : ByteArray) ++ t158).size + 1) = False := eq_false (Nat.not_lt.2 c7)
          try (have c7b8 := c7b2; simp only [ByteArray.size_append, show (⟨#[112, 108, 97, 99, 101, 115, 32]⟩ : ByteArray).size = 7 from rfl,  Nat.reduceAdd] at c7b8)
          have H' := Aside0.mk H
          clear H
          go_enter Tryd.func15, Tryd.ntmps15
          go_wp2_with (first | ((with_reducible refine gate_callee (f := 8) rfl ?_); refine goesL_ (some 10) rfl rfl Tryd.func8 (by kernel_rfl) rfl #[.slice A0 l0.length c0] rfl (by (try simp only [List.map_toArray, List.map_cons, List.map_nil]); first | done | rfl | (simp only [List.length_drop, List.length_take]; rfl)) ?_; (with_reducible refine (stemma_Check.calls k _ _ l0 t156 _ ?side1 ?side2 A2.out).mono ?_); (case side1 => repeat (first | exact HR0.out | (with_reducible refine Kd.C_alloc ?_ _) | (with_reducible refine Kd.C_drewN ?_ _) | (with_reducible refine Kd.C_drew ?_))); (case side2 => exact HC0.out); rintro e w8 ⟨rfl, hb⟩; refine ⟨_, rfl, ?_⟩; have n0_ := Aside0.mk (below_step (by repeat (first | (with_reducible first | exact HB.out | apply below_alloc | apply pw_below_drewN | apply below_drew1) | exact HB.out)) hb); clear HB; have HB := n0_; clear n0_; (try clear hb); (try clear hb2); (try clear hk); (try clear hi); have p157 : 0 ≤ (0 : Int) := (by omega); have q157 : 0 < (l0.length : Int) := of_decide_eq_true (by first | (with_reducible assumption) | assumption); obtain ⟨ad157, e157, hx157_0, hx157_1, hx157_2⟩ := at_T25 HR0.out 0 p157 q157; cases e157; have qi157 : (0 < l0.length) = True := eq_true (by omega); (try rw [show ((0 : Int)).toNat = 0 from rfl] at hx157_0); (try rw [show 0 * 3 = 0 from rfl] at hx157_0); (try rw [Addr.add_zero'] at hx157_0); (try rw [show ((0 : Int)).toNat = 0 from rfl] at hx157_1); (try rw [show 0 * 3 = 0 from rfl] at hx157_1); (try rw [Addr.add_zero'] at hx157_1); (try rw [show ((0 : Int)).toNat = 0 from rfl] at hx157_2); (try rw [show 0 * 3 = 0 from rfl] at hx157_2); (try rw [Addr.add_zero'] at hx157_2); replace hx157_0 := (HB.out.cell (World.block_lt_of_cell? w _ hx157_0)).trans hx157_0; replace hx157_1 := (HB.out.cell (World.block_lt_of_cell? w _ hx157_1)).trans hx157_1; replace hx157_2 := (HB.out.cell (World.block_lt_of_cell? w _ hx157_2)).trans hx157_2; replace p157 := eq_true p157; replace q157 := eq_true q157) | ((with_reducible refine gate_callee (f := 37) rfl ?_); refine goesL_ (some 19) rfl rfl Tryd.func37 (by kernel_rfl) rfl #[.int .i64 (((rd_T25 l0 0).f0).size : Int)] rfl (by (try simp only [List.map_toArray, List.map_cons, List.map_nil]); first | done | rfl | (simp only [List.length_drop, List.length_take]; rfl)) ?_; (with_reducible refine (strconv_Itoa.calls (((rd_T25 l0 0).f0).size : Int) t158 _ A5.out).mono ?_); rintro e w9 ⟨rfl, hb⟩; refine ⟨_, rfl, ?_⟩; have n0_ := Aside0.mk (below_step (by repeat (first | (with_reducible first | exact HB.out | apply below_alloc | apply pw_below_drewN | apply below_drew1) | exact HB.out)) hb); clear HB; have HB := n0_; clear n0_; (try clear hb); (try clear hb2); (try clear hk); (try clear hi)))
          go_loopg [5, 24] k (fun kq v5 v24 w' => ∃ (x5_1 : ByteArray) (x24_1 : Int), v5 = .string x5_1 ∧ v24 = .int .i64 x24_1 ∧ Aside0 (stemma_Write.l0 kq l0 x5_1 l0 (l0.length : Int) x24_1 = some (r1, r2)) ∧ Aside0 (kq ≤ k) ∧ Aside0 (Below w.heap.size w w'))
          case atStart => exact ⟨(((⟨#[112, 108, 97, 99, 101, 115, 32]⟩ : ByteArray) ++ t158) ++ (⟨#[10]⟩ : ByteArray)), (0), (by first | rfl | (simp; done) | (simp [*]; done)), (by first | rfl | (simp; done) | (simp [*]; done)), H', ⟨Nat.le_refl _⟩, ⟨by repeat (first | (with_reducible first | exact HB.out | apply below_alloc | apply pw_below_drewN | apply below_drew1) | exact HB.out)⟩⟩
          case round =>
            clear H'
            try clear c1
            try clear p1
            try clear q1
            try clear hx1
            try clear qi1
            try clear p2
            try clear c3
            try clear c3b0
            try clear c3b1
            try clear c4
            try clear c4b0
            try clear c4b1
            try clear c6
            try clear c6b0
            try clear c6b1
            try clear c6b2
            try clear c7
            try clear c7b0
            try clear c7b1
            try clear c7b2
            try clear c8
            try clear hx157_0
            try clear hx157_1
            try clear hx157_2
            try clear p157
            try clear q157
            obtain ⟨x5_1, x24_1, rfl, rfl, HA, HK1, HB⟩ := hrel
            cases gk with
            | zero => exact absurd HA.out (by simp [stemma_Write.l0])
            | succ k1 =>
              have H := HA.out
              clear HA
              simp only [stemma_Write.l0] at H
              by_cases c10 : x24_1 < (l0.length : Int)
              · rw [if_pos c10] at H
                have c10b0 : decide (x24_1 < (l0.length : Int)) = true := decide_eq_true c10
                clear c10
                by_cases c11 : 0 ≤ x24_1
                · rw [if_pos c11] at H
                  have c11b0 : decide (0 ≤ x24_1) = true := decide_eq_true c11
                  clear c11
                  by_cases c12 : x24_1 < (l0.length : Int)
                  · rw [if_pos c12] at H
                    have c12b0 : decide (x24_1 < (l0.length : Int)) = true := decide_eq_true c12
                    clear c12
                    obtain ⟨bq13, hbq13⟩ : ∃ b_ : Bool, b_ = ((rd_T25 l0 x24_1).f2) := ⟨_, rfl⟩
                    replace H : (if bq13 = true then (if 3 + 1 ≤ 9223372036854775807 then (if 4 + ((rd_T25 l0 x24_1).f0).size ≤ 9223372036854775807 then (if (((⟨#[115, 97, 119]⟩ : ByteArray) ++ (⟨#[32]⟩ : ByteArray)) ++ ((rd_T25 l0 x24_1).f0)).size + 1 ≤ 9223372036854775807 then ((strconv_Itoa.f ((rd_T25 l0 x24_1).f1)).bind fun t161 => (if ((((⟨#[115, 97, 119]⟩ : ByteArray) ++ (⟨#[32]⟩ : ByteArray)) ++ ((rd_T25 l0 x24_1).f0)) ++ (⟨#[32]⟩ : ByteArray)).size + t161.size ≤ 9223372036854775807 then (if (((((⟨#[115, 97, 119]⟩ : ByteArray) ++ (⟨#[32]⟩ : ByteArray)) ++ ((rd_T25 l0 x24_1).f0)) ++ (⟨#[32]⟩ : ByteArray)) ++ t161).size + 1 ≤ 9223372036854775807 then (if x5_1.size + ((((((⟨#[115, 97, 119]⟩ : ByteArray) ++ (⟨#[32]⟩ : ByteArray)) ++ ((rd_T25 l0 x24_1).f0)) ++ (⟨#[32]⟩ : ByteArray)) ++ t161) ++ (⟨#[10]⟩ : ByteArray)).size ≤ 9223372036854775807 then (stemma_Write.l0 k1 l0 (x5_1 ++ ((((((⟨#[115, 97, 119]⟩ : ByteArray) ++ (⟨#[32]⟩ : ByteArray)) ++ ((rd_T25 l0 x24_1).f0)) ++ (⟨#[32]⟩ : ByteArray)) ++ t161) ++ (⟨#[10]⟩ : ByteArray))) l0 (l0.length : Int) (wrap64 (x24_1 + 1))) else (none)) else (none)) else (none))) else (none)) else (none)) else (none)) else (if 3 + 1 ≤ 9223372036854775807 then (if 4 + ((rd_T25 l0 x24_1).f0).size ≤ 9223372036854775807 then (if (((⟨#[104, 97, 100]⟩ : ByteArray) ++ (⟨#[32]⟩ : ByteArray)) ++ ((rd_T25 l0 x24_1).f0)).size + 1 ≤ 9223372036854775807 then ((strconv_Itoa.f ((rd_T25 l0 x24_1).f1)).bind fun t162 => (if ((((⟨#[104, 97, 100]⟩ : ByteArray) ++ (⟨#[32]⟩ : ByteArray)) ++ ((rd_T25 l0 x24_1).f0)) ++ (⟨#[32]⟩ : ByteArray)).size + t162.size ≤ 9223372036854775807 then (if (((((⟨#[104, 97, 100]⟩ : ByteArray) ++ (⟨#[32]⟩ : ByteArray)) ++ ((rd_T25 l0 x24_1).f0)) ++ (⟨#[32]⟩ : ByteArray)) ++ t162).size + 1 ≤ 9223372036854775807 then (if x5_1.size + ((((((⟨#[104, 97, 100]⟩ : ByteArray) ++ (⟨#[32]⟩ : ByteArray)) ++ ((rd_T25 l0 x24_1).f0)) ++ (⟨#[32]⟩ : ByteArray)) ++ t162) ++ (⟨#[10]⟩ : ByteArray)).size ≤ 9223372036854775807 then (stemma_Write.l0 k1 l0 (x5_1 ++ ((((((⟨#[104, 97, 100]⟩ : ByteArray) ++ (⟨#[32]⟩ : ByteArray)) ++ ((rd_T25 l0 x24_1).f0)) ++ (⟨#[32]⟩ : ByteArray)) ++ t162) ++ (⟨#[10]⟩ : ByteArray))) l0 (l0.length : Int) (wrap64 (x24_1 + 1))) else (none)) else (none)) else (none))) else (none)) else (none)) else (none))) = some (r1, r2) := by rw [← hbq13] at H; exact H
                    have Nbq13 := Aside0.mk hbq13
                    clear hbq13
                    by_cases c14 : bq13 = true
                    · subst c14
                      have H1 : (if 3 + 1 ≤ 9223372036854775807 then (if 4 + ((rd_T25 l0 x24_1).f0).size ≤ 9223372036854775807 then (if (((⟨#[115, 97, 119]⟩ : ByteArray) ++ (⟨#[32]⟩ : ByteArray)) ++ ((rd_T25 l0 x24_1).f0)).size + 1 ≤ 9223372036854775807 then ((strconv_Itoa.f ((rd_T25 l0 x24_1).f1)).bind fun t161 => (if ((((⟨#[115, 97, 119]⟩ : ByteArray) ++ (⟨#[32]⟩ : ByteArray)) ++ ((rd_T25 l0 x24_1).f0)) ++ (⟨#[32]⟩ : ByteArray)).size + t161.size ≤ 9223372036854775807 then (if (((((⟨#[115, 97, 119]⟩ : ByteArray) ++ (⟨#[32]⟩ : ByteArray)) ++ ((rd_T25 l0 x24_1).f0)) ++ (⟨#[32]⟩ : ByteArray)) ++ t161).size + 1 ≤ 9223372036854775807 then (if x5_1.size + ((((((⟨#[115, 97, 119]⟩ : ByteArray) ++ (⟨#[32]⟩ : ByteArray)) ++ ((rd_T25 l0 x24_1).f0)) ++ (⟨#[32]⟩ : ByteArray)) ++ t161) ++ (⟨#[10]⟩ : ByteArray)).size ≤ 9223372036854775807 then (stemma_Write.l0 k1 l0 (x5_1 ++ ((((((⟨#[115, 97, 119]⟩ : ByteArray) ++ (⟨#[32]⟩ : ByteArray)) ++ ((rd_T25 l0 x24_1).f0)) ++ (⟨#[32]⟩ : ByteArray)) ++ t161) ++ (⟨#[10]⟩ : ByteArray))) l0 (l0.length : Int) (wrap64 (x24_1 + 1))) else (none)) else (none)) else (none))) else (none)) else (none)) else (none)) = some (r1, r2) := by rw [if_pos rfl] at H; exact H
                      clear H
                      have H := H1
                      clear H1
                      by_cases c15 : 3 + 1 ≤ 9223372036854775807
                      · rw [if_pos c15] at H
                        have c15b0 := eq_true c15
                        have c15b1 : decide (3 + 1 ≤ 9223372036854775807) = true := decide_eq_true c15
                        try have c15b2 : (9223372036854775807 < 3 + 1) = False := eq_false (Nat.not_lt.2 c15)
                        by_cases c16 : 4 + ((rd_T25 l0 x24_1).f0).size ≤ 9223372036854775807
                        · rw [if_pos c16] at H
                          have c16b0 := eq_true c16
                          have c16b1 : decide (4 + ((rd_T25 l0 x24_1).f0).size ≤ 9223372036854775807) = true := decide_eq_true c16
                          try have c16b2 : (9223372036854775807 < 4 + ((rd_T25 l0 x24_1).f0).size) = False := eq_false (Nat.not_lt.2 c16)
                          by_cases c17 : (((⟨#[115, 97, 119]⟩ : ByteArray) ++ (⟨#[32]⟩ : ByteArray)) ++ ((rd_T25 l0 x24_1).f0)).size + 1 ≤ 9223372036854775807
                          · rw [if_pos c17] at H
                            have c17b0 := eq_true c17
                            have c17b1 : decide ((((⟨#[115, 97, 119]⟩ : ByteArray) ++ (⟨#[32]⟩ : ByteArray)) ++ ((rd_T25 l0 x24_1).f0)).size + 1 ≤ 9223372036854775807) = true := decide_eq_true c17
                            try have c17b2 : (9223372036854775807 < (((⟨#[115, 97, 119]⟩ : ByteArray) ++ (⟨#[32]⟩ : ByteArray)) ++ ((rd_T25 l0 x24_1).f0)).size + 1) = False := eq_false (Nat.not_lt.2 c17)
                            try (have c17b8 := c17b2; simp only [ByteArray.size_append, show (⟨#[115, 97, 119]⟩ : ByteArray).size = 3 from rfl, show (⟨#[32]⟩ : ByteArray).size = 1 from rfl,  Nat.reduceAdd] at c17b8)
                            replace H := Option.bind_eq_some_iff.mp H
                            obtain ⟨t161, A180, H⟩ := H
                            replace H : (if ((((⟨#[115, 97, 119]⟩ : ByteArray) ++ (⟨#[32]⟩ : ByteArray)) ++ ((rd_T25 l0 x24_1).f0)) ++ (⟨#[32]⟩ : ByteArray)).size + t161.size ≤ 9223372036854775807 then (if (((((⟨#[115, 97, 119]⟩ : ByteArray) ++ (⟨#[32]⟩ : ByteArray)) ++ ((rd_T25 l0 x24_1).f0)) ++ (⟨#[32]⟩ : ByteArray)) ++ t161).size + 1 ≤ 9223372036854775807 then (if x5_1.size + ((((((⟨#[115, 97, 119]⟩ : ByteArray) ++ (⟨#[32]⟩ : ByteArray)) ++ ((rd_T25 l0 x24_1).f0)) ++ (⟨#[32]⟩ : ByteArray)) ++ t161) ++ (⟨#[10]⟩ : ByteArray)).size ≤ 9223372036854775807 then (stemma_Write.l0 k1 l0 (x5_1 ++ ((((((⟨#[115, 97, 119]⟩ : ByteArray) ++ (⟨#[32]⟩ : ByteArray)) ++ ((rd_T25 l0 x24_1).f0)) ++ (⟨#[32]⟩ : ByteArray)) ++ t161) ++ (⟨#[10]⟩ : ByteArray))) l0 (l0.length : Int) (wrap64 (x24_1 + 1))) else (none)) else (none)) else (none)) = some (r1, r2) := H
                            have A18 := Aside0.mk A180
                            clear A180
                            by_cases c19 : ((((⟨#[115, 97, 119]⟩ : ByteArray) ++ (⟨#[32]⟩ : ByteArray)) ++ ((rd_T25 l0 x24_1).f0)) ++ (⟨#[32]⟩ : ByteArray)).size + t161.size ≤ 9223372036854775807
                            · rw [if_pos c19] at H
                              have c19b0 := eq_true c19
                              have c19b1 : decide (((((⟨#[115, 97, 119]⟩ : ByteArray) ++ (⟨#[32]⟩ : ByteArray)) ++ ((rd_T25 l0 x24_1).f0)) ++ (⟨#[32]⟩ : ByteArray)).size + t161.size ≤ 9223372036854775807) = true := decide_eq_true c19
                              try have c19b2 : (9223372036854775807 < ((((⟨#[115, 97, 119]⟩ : ByteArray) ++ (⟨#[32]⟩ : ByteArray)) ++ ((rd_T25 l0 x24_1).f0)) ++ (⟨#[32]⟩ : ByteArray)).size + t161.size) = False := eq_false (Nat.not_lt.2 c19)
                              try (have c19b8 := c19b2; simp only [ByteArray.size_append, show (⟨#[115, 97, 119]⟩ : ByteArray).size = 3 from rfl, show (⟨#[32]⟩ : ByteArray).size = 1 from rfl,  Nat.reduceAdd] at c19b8)
                              by_cases c20 : (((((⟨#[115, 97, 119]⟩ : ByteArray) ++ (⟨#[32]⟩ : ByteArray)) ++ ((rd_T25 l0 x24_1).f0)) ++ (⟨#[32]⟩ : ByteArray)) ++ t161).size + 1 ≤ 9223372036854775807
                              · rw [if_pos c20] at H
                                have c20b0 := eq_true c20
                                have c20b1 : decide ((((((⟨#[115, 97, 119]⟩ : ByteArray) ++ (⟨#[32]⟩ : ByteArray)) ++ ((rd_T25 l0 x24_1).f0)) ++ (⟨#[32]⟩ : ByteArray)) ++ t161).size + 1 ≤ 9223372036854775807) = true := decide_eq_true c20
                                try have c20b2 : (9223372036854775807 < (((((⟨#[115, 97, 119]⟩ : ByteArray) ++ (⟨#[32]⟩ : ByteArray)) ++ ((rd_T25 l0 x24_1).f0)) ++ (⟨#[32]⟩ : ByteArray)) ++ t161).size + 1) = False := eq_false (Nat.not_lt.2 c20)
                                try (have c20b8 := c20b2; simp only [ByteArray.size_append, show (⟨#[115, 97, 119]⟩ : ByteArray).size = 3 from rfl, show (⟨#[32]⟩ : ByteArray).size = 1 from rfl,  Nat.reduceAdd] at c20b8)
                                by_cases c21 : x5_1.size + ((((((⟨#[115, 97, 119]⟩ : ByteArray) ++ (⟨#[32]⟩ : ByteArray)) ++ ((rd_T25 l0 x24_1).f0)) ++ (⟨#[32]⟩ : ByteArray)) ++ t161) ++ (⟨#[10]⟩ : ByteArray)).size ≤ 9223372036854775807
                                · rw [if_pos c21] at H
                                  have c21b0 := eq_true c21
                                  have c21b1 : decide (x5_1.size + ((((((⟨#[115, 97, 119]⟩ : ByteArray) ++ (⟨#[32]⟩ : ByteArray)) ++ ((rd_T25 l0 x24_1).f0)) ++ (⟨#[32]⟩ : ByteArray)) ++ t161) ++ (⟨#[10]⟩ : ByteArray)).size ≤ 9223372036854775807) = true := decide_eq_true c21
                                  try have c21b2 : (9223372036854775807 < x5_1.size + ((((((⟨#[115, 97, 119]⟩ : ByteArray) ++ (⟨#[32]⟩ : ByteArray)) ++ ((rd_T25 l0 x24_1).f0)) ++ (⟨#[32]⟩ : ByteArray)) ++ t161) ++ (⟨#[10]⟩ : ByteArray)).size) = False := eq_false (Nat.not_lt.2 c21)
                                  try (have c21b8 := c21b2; simp only [ByteArray.size_append, show (⟨#[10]⟩ : ByteArray).size = 1 from rfl, show (⟨#[115, 97, 119]⟩ : ByteArray).size = 3 from rfl, show (⟨#[32]⟩ : ByteArray).size = 1 from rfl,  Nat.reduceAdd] at c21b8)
                                  have H' := Aside0.mk H
                                  clear H
                                  have p159 : 0 ≤ (x24_1 : Int) := of_decide_eq_true (by first | (with_reducible assumption) | assumption)
                                  have q159 : x24_1 < (l0.length : Int) := of_decide_eq_true (by first | (with_reducible assumption) | assumption)
                                  obtain ⟨ad159, e159, hx159_0, hx159_1, hx159_2⟩ := at_T25 HR0.out x24_1 p159 q159
                                  (try rw [← Nbq13.out] at hx159_2); (try rw [← Nbq13.out] at hw159_2)
                                  obtain rfl : ad157 = ad159 := (by injection e159)
                                  try replace hx159_0 := (HB.out.cell (World.block_lt_of_cell? w _ hx159_0)).trans hx159_0
                                  try replace hx159_1 := (HB.out.cell (World.block_lt_of_cell? w _ hx159_1)).trans hx159_1
                                  try replace hx159_2 := (HB.out.cell (World.block_lt_of_cell? w _ hx159_2)).trans hx159_2
                                  replace p159 := eq_true p159
                                  replace q159 := eq_true q159
                                  try go_wp2_with (first | ((with_reducible refine gate_dst (N := 7) rfl ?_); refine box_event ?hg (N := 7) ?hd (cs := #[.string (⟨#[]⟩ : ByteArray), .int .i64 0, .bool false]) (t := 25) ?hr ?_; (case hd => rfl); (case hg => rfl); (case hr => first | (go_simp; done) | (go_simp; rfl)); intro gb160 hg w22 hbox hb; have n0_ := Aside0.mk (below_step (by repeat (first | (with_reducible first | exact HB.out | apply below_alloc | apply pw_below_drewN | apply below_drew1) | exact HB.out)) hb); have n1_ := Aside0.mk (hbox); have n2_ := Aside0.mk ((by rw [hg]; exact (below_size (by repeat (first | (with_reducible first | exact HB.out | apply below_alloc | apply pw_below_drewN | apply below_drew1) | exact HB.out))) : w.heap.size ≤ gb160)); have n3_ := Aside0.mk ((by rw [hg]; exact (below_size (by repeat (first | (with_reducible first | exact HB.out | apply below_alloc | apply pw_below_drewN | apply below_drew1) | exact HB.out))) : w.heap.size ≤ gb160)); clear HB; have HB := n0_; have BK160 := n1_; have GW160 := n2_; have GE160 := n3_; clear n0_ n1_ n2_ n3_; clear hb hbox hg; have hcz23_0 : w22.cell? ⟨gb160, 0, none⟩ = some (.string (⟨#[]⟩ : ByteArray)) := (blk_cell BK160.out 0).trans rfl; have hcz23_1 : w22.cell? ⟨gb160, 1, none⟩ = some (.int .i64 0) := (blk_cell BK160.out 1).trans rfl; have hcz23_2 : w22.cell? ⟨gb160, 2, none⟩ = some (.bool false) := (blk_cell BK160.out 2).trans rfl; have hfz23_0 := blk_frozen BK160.out 0; have hfz23_1 := blk_frozen BK160.out 1; have hfz23_2 := blk_frozen BK160.out 2))
                                  have n0_ : Aside0 ((((w22.setCell ⟨gb160, 0, none⟩ (.string ((rd_T25 l0 x24_1).f0))).setCell ⟨gb160, 1, none⟩ (.int .i64 ((rd_T25 l0 x24_1).f1))).setCell ⟨gb160, 2, none⟩ (.bool true)).heap[gb160]? = some (.cells #[.string ((rd_T25 l0 x24_1).f0), .int .i64 ((rd_T25 l0 x24_1).f1), .bool true] 25 (0, 0))) := ⟨by (with_reducible repeat (first | refine blk_drewN ?_ _ | refine blk_drew ?_ | refine blk_alloc ?_ _)); refine blk_put (cs := #[.string ((rd_T25 l0 x24_1).f0), .int .i64 ((rd_T25 l0 x24_1).f1), .bool false]) ?_ 2 _ rfl; (with_reducible repeat (first | refine blk_drewN ?_ _ | refine blk_drew ?_ | refine blk_alloc ?_ _)); refine blk_put (cs := #[.string ((rd_T25 l0 x24_1).f0), .int .i64 0, .bool false]) ?_ 1 _ rfl; (with_reducible repeat (first | refine blk_drewN ?_ _ | refine blk_drew ?_ | refine blk_alloc ?_ _)); refine blk_put (cs := #[.string (⟨#[]⟩ : ByteArray), .int .i64 0, .bool false]) ?_ 0 _ rfl; (with_reducible repeat (first | refine blk_drewN ?_ _ | refine blk_drew ?_ | refine blk_alloc ?_ _)); exact BK160.out⟩
                                  have n1_ : Aside0 (Below w.heap.size w (((w22.setCell ⟨gb160, 0, none⟩ (.string ((rd_T25 l0 x24_1).f0))).setCell ⟨gb160, 1, none⟩ (.int .i64 ((rd_T25 l0 x24_1).f1))).setCell ⟨gb160, 2, none⟩ (.bool true))) := ⟨by repeat (first | (with_reducible first | exact HB.out | apply below_alloc | apply pw_below_drewN | apply below_drew1 | refine below_set ?_ GE160.out) | exact HB.out)⟩
                                  (try clear BK160)
                                  (try clear HB)
                                  generalize (((w22.setCell ⟨gb160, 0, none⟩ (.string ((rd_T25 l0 x24_1).f0))).setCell ⟨gb160, 1, none⟩ (.int .i64 ((rd_T25 l0 x24_1).f1))).setCell ⟨gb160, 2, none⟩ (.bool true)) = w24 at n0_ n1_ ⊢
                                  have BK160 := n0_
                                  have HB := n1_
                                  clear n0_ n1_
                                  have n0_ := Aside0.mk (blk_drew BK160.out)
                                  have n1_ := Aside0.mk (below_drew1 HB.out)
                                  clear BK160
                                  clear HB
                                  have BK160 := n0_
                                  have HB := n1_
                                  clear n0_ n1_
                                  refine start_ (n := 14) (S := fun w' => w'.cell? ⟨gb160, 0, none⟩ = some (.string ((rd_T25 l0 x24_1).f0)) ∧ w'.cell? ⟨gb160, 1, none⟩ = some (.int .i64 ((rd_T25 l0 x24_1).f1)) ∧ w'.cell? ⟨gb160, 2, none⟩ = some (.bool true)) (ds := []) #[false, false, false, false, false, false, false, false, false, false, false, false, false, false] (by kernel_rfl) rfl rfl ⟨(blk_cell BK160.out 0).trans rfl, (blk_cell BK160.out 1).trans rfl, (blk_cell BK160.out 2).trans rfl⟩ (fun hHeld => ?_); refine with_tabW stemma_Write.tab11 stemma_Write.bits11 (fun HT_ HW_ => ?_)
                                  generalize w24.drew = w25 at BK160 HB hHeld ⊢
                                  refine pure_ (i := 0) (N := some 30) (v := ?_) (a' := ?_) #[true, false, false, false, false, false, false, false, false, false, false, false, false, false] rfl rfl (any_of HT_.out (by kernel_rfl)) (fun _ _ _ h => h) (Or.inl ⟨by rfl, ?_⟩) ?_ ?_
                                  rotate_left
                                  · intro w'
                                    go_simp
                                    with_reducible rfl
                                  rotate_left
                                  · simp only [Act.put, List.setIfInBounds_toArray, List.set_cons_zero, List.set_cons_succ, i64_w, i32_w]
                                    rfl
                                  refine pure_ (i := 1) (N := some 31) (v := ?_) (a' := ?_) #[true, true, false, false, false, false, false, false, false, false, false, false, false, false] rfl rfl (any_of HT_.out (by kernel_rfl)) (fun _ _ _ h => h) (Or.inl ⟨by rfl, ?_⟩) ?_ ?_
                                  rotate_left
                                  · intro w'
                                    go_simp
                                    with_reducible rfl
                                  rotate_left
                                  · simp only [Act.put, List.setIfInBounds_toArray, List.set_cons_zero, List.set_cons_succ, i64_w, i32_w]
                                    rfl
                                  refine pure_ (i := 2) (N := some 32) (v := ?_) (a' := ?_) #[true, true, true, false, false, false, false, false, false, false, false, false, false, false] rfl rfl (any_of HT_.out (by kernel_rfl)) (fun _ _ _ h => h) (Or.inl ⟨by rfl, ?_⟩) ?_ ?_
                                  rotate_left
                                  · intro w'
                                    go_simp
                                    with_reducible rfl
                                  rotate_left
                                  · simp only [Act.put, List.setIfInBounds_toArray, List.set_cons_zero, List.set_cons_succ, i64_w, i32_w]
                                    rfl
                                  refine pure_ (i := 3) (N := some 33) (v := ?_) (a' := ?_) #[true, true, true, true, false, false, false, false, false, false, false, false, false, false] rfl rfl (any_of HT_.out (by kernel_rfl)) (fun _ _ _ h => h) (Or.inl ⟨by rfl, ?_⟩) ?_ ?_
                                  rotate_left
                                  · intro w'
                                    go_simp
                                    with_reducible rfl
                                  rotate_left
                                  · simp only [Act.put, List.setIfInBounds_toArray, List.set_cons_zero, List.set_cons_succ, i64_w, i32_w]
                                    rfl
                                  refine pure_ (i := 7) (N := some 37) (v := ?_) (a' := ?_) #[true, true, true, true, false, false, false, true, false, false, false, false, false, false] rfl rfl (any_of HT_.out (by kernel_rfl)) (fun _ _ _ h => h) (Or.inl ⟨by rfl, ?_⟩) ?_ ?_
                                  rotate_left
                                  · intro w'
                                    go_simp
                                    with_reducible rfl
                                  rotate_left
                                  · simp only [Act.put, List.setIfInBounds_toArray, List.set_cons_zero, List.set_cons_succ, i64_w, i32_w]
                                    rfl
                                  refine take_ (i := 4) (N := some 34) (v := ?_) (a' := ?_) #[true, true, true, true, true, false, false, true, false, false, false, false, false, false] rfl rfl (take_ofW HT_.out HW_.out (by kernel_rfl)) (fun _ _ _ h => h) (Or.inl ⟨by rfl, ?_⟩) hHeld ?_ ?_
                                  rotate_left
                                  · rintro w' ⟨s0, s1, s2⟩
                                    go_simp
                                    with_reducible rfl
                                  rotate_left
                                  · simp only [Act.put, List.setIfInBounds_toArray, List.set_cons_zero, List.set_cons_succ, i64_w, i32_w]
                                    rfl
                                  refine pure_ (i := 5) (N := some 35) (v := ?_) (a' := ?_) #[true, true, true, true, true, true, false, true, false, false, false, false, false, false] rfl rfl (any_of HT_.out (by kernel_rfl)) (fun _ _ _ h => h) (Or.inl ⟨by rfl, ?_⟩) ?_ ?_
                                  rotate_left
                                  · intro w'
                                    go_simp
                                    with_reducible rfl
                                  rotate_left
                                  · simp only [Act.put, List.setIfInBounds_toArray, List.set_cons_zero, List.set_cons_succ, i64_w, i32_w]
                                    rfl
                                  refine pure_ (i := 6) (N := some 36) (v := ?_) (a' := ?_) #[true, true, true, true, true, true, true, true, false, false, false, false, false, false] rfl rfl (any_of HT_.out (by kernel_rfl)) (fun _ _ _ h => h) (Or.inl ⟨by rfl, ?_⟩) ?_ ?_
                                  rotate_left
                                  · intro w'
                                    go_simp
                                    with_reducible rfl
                                  rotate_left
                                  · simp only [Act.put, List.setIfInBounds_toArray, List.set_cons_zero, List.set_cons_succ, i64_w, i32_w]
                                    rfl
                                  refine take_ (i := 8) (N := some 38) (v := ?_) (a' := ?_) #[true, true, true, true, true, true, true, true, true, false, false, false, false, false] rfl rfl (take_ofW HT_.out HW_.out (by kernel_rfl)) (fun _ _ _ h => h) (Or.inl ⟨by rfl, ?_⟩) hHeld ?_ ?_
                                  rotate_left
                                  · rintro w' ⟨s0, s1, s2⟩
                                    go_simp
                                    with_reducible rfl
                                  rotate_left
                                  · simp only [Act.put, List.setIfInBounds_toArray, List.set_cons_zero, List.set_cons_succ, i64_w, i32_w]
                                    rfl
                                  refine one_ (i := 9) (N := some 39) #[true, true, true, true, true, true, true, true, true, true, false, false, false, false] rfl rfl (one_of HT_.out (by kernel_rfl)) (by decide) (fun K hK => ?_)
                                  refine goes_ Tryd.func37 (by kernel_rfl) rfl #[.int .i64 ((rd_T25 l0 x24_1).f1)] (by rfl) rfl rfl (by (try simp only [List.map_toArray, List.map_cons, List.map_nil]); first | done | rfl | (simp only [List.length_drop, List.length_take]; rfl)) ?_
                                  with_reducible refine (strconv_Itoa.calls ((rd_T25 l0 x24_1).f1) t161 _ A18.out).mono ?_
                                  rintro e w26 ⟨rfl, hb⟩
                                  refine ⟨_, rfl, ?_⟩
                                  have n0_ := Aside0.mk (blk_below (g := gb160) (o := .cells #[.string ((rd_T25 l0 x24_1).f0), .int .i64 ((rd_T25 l0 x24_1).f1), .bool true] 25 (0, 0)) (by (with_reducible repeat (first | refine blk_drewN ?_ _ | refine blk_drew ?_ | refine blk_alloc ?_ _)); exact BK160.out) hb)
                                  have n1_ := Aside0.mk (below_step (by repeat (first | (with_reducible first | exact HB.out | apply below_alloc | apply pw_below_drewN | apply below_drew1 | refine below_set ?_ GE160.out) | exact HB.out)) hb)
                                  clear BK160
                                  clear HB
                                  have BK160 := n0_
                                  have HB := n1_
                                  clear n0_ n1_
                                  (try clear hb)
                                  (try clear hb2)
                                  (try clear hk)
                                  (try clear hi)
                                  refine hK.out _ _ ⟨(blk_cell BK160.out 0).trans rfl, (blk_cell BK160.out 1).trans rfl, (blk_cell BK160.out 2).trans rfl⟩ (fun hHeld => ?_)
                                  clear hK K
                                  refine norm_ (a' := ?_) ?_ ?_
                                  rotate_left
                                  · show Act.put _ (some 39) _ = _
                                    simp only [Act.put, List.setIfInBounds_toArray, List.set_cons_zero, List.set_cons_succ, i64_w, i32_w]
                                    rfl
                                  refine pure_ (i := 10) (N := some 40) (v := ?_) (a' := ?_) #[true, true, true, true, true, true, true, true, true, true, true, false, false, false] rfl rfl (any_of HT_.out (by kernel_rfl)) (fun _ _ _ h => h) (Or.inl ⟨by rfl, ?_⟩) ?_ ?_
                                  rotate_left
                                  · intro w'
                                    go_simp
                                    with_reducible rfl
                                  rotate_left
                                  · simp only [Act.put, List.setIfInBounds_toArray, List.set_cons_zero, List.set_cons_succ, i64_w, i32_w]
                                    rfl
                                  refine pure_ (i := 11) (N := some 41) (v := ?_) (a' := ?_) #[true, true, true, true, true, true, true, true, true, true, true, true, false, false] rfl rfl (any_of HT_.out (by kernel_rfl)) (fun _ _ _ h => h) (Or.inl ⟨by rfl, ?_⟩) ?_ ?_
                                  rotate_left
                                  · intro w'
                                    go_simp
                                    with_reducible rfl
                                  rotate_left
                                  · simp only [Act.put, List.setIfInBounds_toArray, List.set_cons_zero, List.set_cons_succ, i64_w, i32_w]
                                    rfl
                                  refine pure_ (i := 12) (N := some 42) (v := ?_) (a' := ?_) #[true, true, true, true, true, true, true, true, true, true, true, true, true, false] rfl rfl (any_of HT_.out (by kernel_rfl)) (fun _ _ _ h => h) (Or.inl ⟨by rfl, ?_⟩) ?_ ?_
                                  rotate_left
                                  · intro w'
                                    go_simp
                                    with_reducible rfl
                                  rotate_left
                                  · simp only [Act.put, List.setIfInBounds_toArray, List.set_cons_zero, List.set_cons_succ, i64_w, i32_w]
                                    rfl
                                  refine pure_ (i := 13) (N := some 5) (v := ?_) (a' := ?_) #[true, true, true, true, true, true, true, true, true, true, true, true, true, true] rfl rfl (any_of HT_.out (by kernel_rfl)) (fun _ _ _ h => h) (Or.inl ⟨by rfl, ?_⟩) ?_ ?_
                                  rotate_left
                                  · intro w'
                                    go_simp
                                    with_reducible rfl
                                  rotate_left
                                  · simp only [Act.put, List.setIfInBounds_toArray, List.set_cons_zero, List.set_cons_succ, i64_w, i32_w]
                                    rfl
                                  refine done_ (done_of HT_.out (by kernel_rfl)) ?_
                                  try go_wp2
                                  go_roundg k1
                                  case measure => have := HK1.out; omega
                                  case rel => exact ⟨(x5_1 ++ ((((((⟨#[115, 97, 119]⟩ : ByteArray) ++ (⟨#[32]⟩ : ByteArray)) ++ ((rd_T25 l0 x24_1).f0)) ++ (⟨#[32]⟩ : ByteArray)) ++ t161) ++ (⟨#[10]⟩ : ByteArray))), (wrap64 (x24_1 + 1)), (by first | rfl | (simp; done) | (simp [*]; done)), (by first | rfl | (simp; done) | (simp [*]; done)), H', ⟨by have := HK1.out; omega⟩, ⟨by repeat (first | (with_reducible first | exact HB.out | apply below_alloc | apply pw_below_drewN | apply below_drew1 | refine below_set ?_ GE160.out) | exact HB.out)⟩⟩
                                · rw [if_neg c21] at H
                                  exact absurd H (by simp)
                              · rw [if_neg c20] at H
                                exact absurd H (by simp)
                            · rw [if_neg c19] at H
                              exact absurd H (by simp)
                          · rw [if_neg c17] at H
                            exact absurd H (by simp)
                        · rw [if_neg c16] at H
                          exact absurd H (by simp)
                      · rw [if_neg c15] at H
                        exact absurd H (by simp)
                    · replace c14 := Bool.eq_false_iff.mpr c14
                      subst c14
                      have H1 : (if 3 + 1 ≤ 9223372036854775807 then (if 4 + ((rd_T25 l0 x24_1).f0).size ≤ 9223372036854775807 then (if (((⟨#[104, 97, 100]⟩ : ByteArray) ++ (⟨#[32]⟩ : ByteArray)) ++ ((rd_T25 l0 x24_1).f0)).size + 1 ≤ 9223372036854775807 then ((strconv_Itoa.f ((rd_T25 l0 x24_1).f1)).bind fun t162 => (if ((((⟨#[104, 97, 100]⟩ : ByteArray) ++ (⟨#[32]⟩ : ByteArray)) ++ ((rd_T25 l0 x24_1).f0)) ++ (⟨#[32]⟩ : ByteArray)).size + t162.size ≤ 9223372036854775807 then (if (((((⟨#[104, 97, 100]⟩ : ByteArray) ++ (⟨#[32]⟩ : ByteArray)) ++ ((rd_T25 l0 x24_1).f0)) ++ (⟨#[32]⟩ : ByteArray)) ++ t162).size + 1 ≤ 9223372036854775807 then (if x5_1.size + ((((((⟨#[104, 97, 100]⟩ : ByteArray) ++ (⟨#[32]⟩ : ByteArray)) ++ ((rd_T25 l0 x24_1).f0)) ++ (⟨#[32]⟩ : ByteArray)) ++ t162) ++ (⟨#[10]⟩ : ByteArray)).size ≤ 9223372036854775807 then (stemma_Write.l0 k1 l0 (x5_1 ++ ((((((⟨#[104, 97, 100]⟩ : ByteArray) ++ (⟨#[32]⟩ : ByteArray)) ++ ((rd_T25 l0 x24_1).f0)) ++ (⟨#[32]⟩ : ByteArray)) ++ t162) ++ (⟨#[10]⟩ : ByteArray))) l0 (l0.length : Int) (wrap64 (x24_1 + 1))) else (none)) else (none)) else (none))) else (none)) else (none)) else (none)) = some (r1, r2) := by rw [if_neg (show ¬ (false = true) by decide)] at H; exact H
                      clear H
                      have H := H1
                      clear H1
                      by_cases c27 : 3 + 1 ≤ 9223372036854775807
                      · rw [if_pos c27] at H
                        have c27b0 := eq_true c27
                        have c27b1 : decide (3 + 1 ≤ 9223372036854775807) = true := decide_eq_true c27
                        try have c27b2 : (9223372036854775807 < 3 + 1) = False := eq_false (Nat.not_lt.2 c27)
                        by_cases c28 : 4 + ((rd_T25 l0 x24_1).f0).size ≤ 9223372036854775807
                        · rw [if_pos c28] at H
                          have c28b0 := eq_true c28
                          have c28b1 : decide (4 + ((rd_T25 l0 x24_1).f0).size ≤ 9223372036854775807) = true := decide_eq_true c28
                          try have c28b2 : (9223372036854775807 < 4 + ((rd_T25 l0 x24_1).f0).size) = False := eq_false (Nat.not_lt.2 c28)
                          by_cases c29 : (((⟨#[104, 97, 100]⟩ : ByteArray) ++ (⟨#[32]⟩ : ByteArray)) ++ ((rd_T25 l0 x24_1).f0)).size + 1 ≤ 9223372036854775807
                          · rw [if_pos c29] at H
                            have c29b0 := eq_true c29
                            have c29b1 : decide ((((⟨#[104, 97, 100]⟩ : ByteArray) ++ (⟨#[32]⟩ : ByteArray)) ++ ((rd_T25 l0 x24_1).f0)).size + 1 ≤ 9223372036854775807) = true := decide_eq_true c29
                            try have c29b2 : (9223372036854775807 < (((⟨#[104, 97, 100]⟩ : ByteArray) ++ (⟨#[32]⟩ : ByteArray)) ++ ((rd_T25 l0 x24_1).f0)).size + 1) = False := eq_false (Nat.not_lt.2 c29)
                            try (have c29b8 := c29b2; simp only [ByteArray.size_append, show (⟨#[104, 97, 100]⟩ : ByteArray).size = 3 from rfl, show (⟨#[32]⟩ : ByteArray).size = 1 from rfl,  Nat.reduceAdd] at c29b8)
                            replace H := Option.bind_eq_some_iff.mp H
                            obtain ⟨t162, A300, H⟩ := H
                            replace H : (if ((((⟨#[104, 97, 100]⟩ : ByteArray) ++ (⟨#[32]⟩ : ByteArray)) ++ ((rd_T25 l0 x24_1).f0)) ++ (⟨#[32]⟩ : ByteArray)).size + t162.size ≤ 9223372036854775807 then (if (((((⟨#[104, 97, 100]⟩ : ByteArray) ++ (⟨#[32]⟩ : ByteArray)) ++ ((rd_T25 l0 x24_1).f0)) ++ (⟨#[32]⟩ : ByteArray)) ++ t162).size + 1 ≤ 9223372036854775807 then (if x5_1.size + ((((((⟨#[104, 97, 100]⟩ : ByteArray) ++ (⟨#[32]⟩ : ByteArray)) ++ ((rd_T25 l0 x24_1).f0)) ++ (⟨#[32]⟩ : ByteArray)) ++ t162) ++ (⟨#[10]⟩ : ByteArray)).size ≤ 9223372036854775807 then (stemma_Write.l0 k1 l0 (x5_1 ++ ((((((⟨#[104, 97, 100]⟩ : ByteArray) ++ (⟨#[32]⟩ : ByteArray)) ++ ((rd_T25 l0 x24_1).f0)) ++ (⟨#[32]⟩ : ByteArray)) ++ t162) ++ (⟨#[10]⟩ : ByteArray))) l0 (l0.length : Int) (wrap64 (x24_1 + 1))) else (none)) else (none)) else (none)) = some (r1, r2) := H
                            have A30 := Aside0.mk A300
                            clear A300
                            by_cases c31 : ((((⟨#[104, 97, 100]⟩ : ByteArray) ++ (⟨#[32]⟩ : ByteArray)) ++ ((rd_T25 l0 x24_1).f0)) ++ (⟨#[32]⟩ : ByteArray)).size + t162.size ≤ 9223372036854775807
                            · rw [if_pos c31] at H
                              have c31b0 := eq_true c31
                              have c31b1 : decide (((((⟨#[104, 97, 100]⟩ : ByteArray) ++ (⟨#[32]⟩ : ByteArray)) ++ ((rd_T25 l0 x24_1).f0)) ++ (⟨#[32]⟩ : ByteArray)).size + t162.size ≤ 9223372036854775807) = true := decide_eq_true c31
                              try have c31b2 : (9223372036854775807 < ((((⟨#[104, 97, 100]⟩ : ByteArray) ++ (⟨#[32]⟩ : ByteArray)) ++ ((rd_T25 l0 x24_1).f0)) ++ (⟨#[32]⟩ : ByteArray)).size + t162.size) = False := eq_false (Nat.not_lt.2 c31)
                              try (have c31b8 := c31b2; simp only [ByteArray.size_append, show (⟨#[104, 97, 100]⟩ : ByteArray).size = 3 from rfl, show (⟨#[32]⟩ : ByteArray).size = 1 from rfl,  Nat.reduceAdd] at c31b8)
                              by_cases c32 : (((((⟨#[104, 97, 100]⟩ : ByteArray) ++ (⟨#[32]⟩ : ByteArray)) ++ ((rd_T25 l0 x24_1).f0)) ++ (⟨#[32]⟩ : ByteArray)) ++ t162).size + 1 ≤ 9223372036854775807
                              · rw [if_pos c32] at H
                                have c32b0 := eq_true c32
                                have c32b1 : decide ((((((⟨#[104, 97, 100]⟩ : ByteArray) ++ (⟨#[32]⟩ : ByteArray)) ++ ((rd_T25 l0 x24_1).f0)) ++ (⟨#[32]⟩ : ByteArray)) ++ t162).size + 1 ≤ 9223372036854775807) = true := decide_eq_true c32
                                try have c32b2 : (9223372036854775807 < (((((⟨#[104, 97, 100]⟩ : ByteArray) ++ (⟨#[32]⟩ : ByteArray)) ++ ((rd_T25 l0 x24_1).f0)) ++ (⟨#[32]⟩ : ByteArray)) ++ t162).size + 1) = False := eq_false (Nat.not_lt.2 c32)
                                try (have c32b8 := c32b2; simp only [ByteArray.size_append, show (⟨#[104, 97, 100]⟩ : ByteArray).size = 3 from rfl, show (⟨#[32]⟩ : ByteArray).size = 1 from rfl,  Nat.reduceAdd] at c32b8)
                                by_cases c33 : x5_1.size + ((((((⟨#[104, 97, 100]⟩ : ByteArray) ++ (⟨#[32]⟩ : ByteArray)) ++ ((rd_T25 l0 x24_1).f0)) ++ (⟨#[32]⟩ : ByteArray)) ++ t162) ++ (⟨#[10]⟩ : ByteArray)).size ≤ 9223372036854775807
                                · rw [if_pos c33] at H
                                  have c33b0 := eq_true c33
                                  have c33b1 : decide (x5_1.size + ((((((⟨#[104, 97, 100]⟩ : ByteArray) ++ (⟨#[32]⟩ : ByteArray)) ++ ((rd_T25 l0 x24_1).f0)) ++ (⟨#[32]⟩ : ByteArray)) ++ t162) ++ (⟨#[10]⟩ : ByteArray)).size ≤ 9223372036854775807) = true := decide_eq_true c33
                                  try have c33b2 : (9223372036854775807 < x5_1.size + ((((((⟨#[104, 97, 100]⟩ : ByteArray) ++ (⟨#[32]⟩ : ByteArray)) ++ ((rd_T25 l0 x24_1).f0)) ++ (⟨#[32]⟩ : ByteArray)) ++ t162) ++ (⟨#[10]⟩ : ByteArray)).size) = False := eq_false (Nat.not_lt.2 c33)
                                  try (have c33b8 := c33b2; simp only [ByteArray.size_append, show (⟨#[104, 97, 100]⟩ : ByteArray).size = 3 from rfl, show (⟨#[10]⟩ : ByteArray).size = 1 from rfl, show (⟨#[32]⟩ : ByteArray).size = 1 from rfl,  Nat.reduceAdd] at c33b8)
                                  have H' := Aside0.mk H
                                  clear H
                                  have p159 : 0 ≤ (x24_1 : Int) := of_decide_eq_true (by first | (with_reducible assumption) | assumption)
                                  have q159 : x24_1 < (l0.length : Int) := of_decide_eq_true (by first | (with_reducible assumption) | assumption)
                                  obtain ⟨ad159, e159, hx159_0, hx159_1, hx159_2⟩ := at_T25 HR0.out x24_1 p159 q159
                                  (try rw [← Nbq13.out] at hx159_2); (try rw [← Nbq13.out] at hw159_2)
                                  obtain rfl : ad157 = ad159 := (by injection e159)
                                  try replace hx159_0 := (HB.out.cell (World.block_lt_of_cell? w _ hx159_0)).trans hx159_0
                                  try replace hx159_1 := (HB.out.cell (World.block_lt_of_cell? w _ hx159_1)).trans hx159_1
                                  try replace hx159_2 := (HB.out.cell (World.block_lt_of_cell? w _ hx159_2)).trans hx159_2
                                  replace p159 := eq_true p159
                                  replace q159 := eq_true q159
                                  try go_wp2_with (first | ((with_reducible refine gate_dst (N := 7) rfl ?_); refine box_event ?hg (N := 7) ?hd (cs := #[.string (⟨#[]⟩ : ByteArray), .int .i64 0, .bool false]) (t := 25) ?hr ?_; (case hd => rfl); (case hg => rfl); (case hr => first | (go_simp; done) | (go_simp; rfl)); intro gb160 hg w34 hbox hb; have n0_ := Aside0.mk (below_step (by repeat (first | (with_reducible first | exact HB.out | apply below_alloc | apply pw_below_drewN | apply below_drew1) | exact HB.out)) hb); have n1_ := Aside0.mk (hbox); have n2_ := Aside0.mk ((by rw [hg]; exact (below_size (by repeat (first | (with_reducible first | exact HB.out | apply below_alloc | apply pw_below_drewN | apply below_drew1) | exact HB.out))) : w.heap.size ≤ gb160)); have n3_ := Aside0.mk ((by rw [hg]; exact (below_size (by repeat (first | (with_reducible first | exact HB.out | apply below_alloc | apply pw_below_drewN | apply below_drew1) | exact HB.out))) : w.heap.size ≤ gb160)); clear HB; have HB := n0_; have BK160 := n1_; have GW160 := n2_; have GE160 := n3_; clear n0_ n1_ n2_ n3_; clear hb hbox hg; have hcz35_0 : w34.cell? ⟨gb160, 0, none⟩ = some (.string (⟨#[]⟩ : ByteArray)) := (blk_cell BK160.out 0).trans rfl; have hcz35_1 : w34.cell? ⟨gb160, 1, none⟩ = some (.int .i64 0) := (blk_cell BK160.out 1).trans rfl; have hcz35_2 : w34.cell? ⟨gb160, 2, none⟩ = some (.bool false) := (blk_cell BK160.out 2).trans rfl; have hfz35_0 := blk_frozen BK160.out 0; have hfz35_1 := blk_frozen BK160.out 1; have hfz35_2 := blk_frozen BK160.out 2))
                                  have n0_ : Aside0 ((((w34.setCell ⟨gb160, 0, none⟩ (.string ((rd_T25 l0 x24_1).f0))).setCell ⟨gb160, 1, none⟩ (.int .i64 ((rd_T25 l0 x24_1).f1))).setCell ⟨gb160, 2, none⟩ (.bool false)).heap[gb160]? = some (.cells #[.string ((rd_T25 l0 x24_1).f0), .int .i64 ((rd_T25 l0 x24_1).f1), .bool false] 25 (0, 0))) := ⟨by (with_reducible repeat (first | refine blk_drewN ?_ _ | refine blk_drew ?_ | refine blk_alloc ?_ _)); refine blk_put (cs := #[.string ((rd_T25 l0 x24_1).f0), .int .i64 ((rd_T25 l0 x24_1).f1), .bool false]) ?_ 2 _ rfl; (with_reducible repeat (first | refine blk_drewN ?_ _ | refine blk_drew ?_ | refine blk_alloc ?_ _)); refine blk_put (cs := #[.string ((rd_T25 l0 x24_1).f0), .int .i64 0, .bool false]) ?_ 1 _ rfl; (with_reducible repeat (first | refine blk_drewN ?_ _ | refine blk_drew ?_ | refine blk_alloc ?_ _)); refine blk_put (cs := #[.string (⟨#[]⟩ : ByteArray), .int .i64 0, .bool false]) ?_ 0 _ rfl; (with_reducible repeat (first | refine blk_drewN ?_ _ | refine blk_drew ?_ | refine blk_alloc ?_ _)); exact BK160.out⟩
                                  have n1_ : Aside0 (Below w.heap.size w (((w34.setCell ⟨gb160, 0, none⟩ (.string ((rd_T25 l0 x24_1).f0))).setCell ⟨gb160, 1, none⟩ (.int .i64 ((rd_T25 l0 x24_1).f1))).setCell ⟨gb160, 2, none⟩ (.bool false))) := ⟨by repeat (first | (with_reducible first | exact HB.out | apply below_alloc | apply pw_below_drewN | apply below_drew1 | refine below_set ?_ GE160.out) | exact HB.out)⟩
                                  (try clear BK160)
                                  (try clear HB)
                                  generalize (((w34.setCell ⟨gb160, 0, none⟩ (.string ((rd_T25 l0 x24_1).f0))).setCell ⟨gb160, 1, none⟩ (.int .i64 ((rd_T25 l0 x24_1).f1))).setCell ⟨gb160, 2, none⟩ (.bool false)) = w36 at n0_ n1_ ⊢
                                  have BK160 := n0_
                                  have HB := n1_
                                  clear n0_ n1_
                                  have n0_ := Aside0.mk (blk_drew BK160.out)
                                  have n1_ := Aside0.mk (below_drew1 HB.out)
                                  clear BK160
                                  clear HB
                                  have BK160 := n0_
                                  have HB := n1_
                                  clear n0_ n1_
                                  refine start_ (n := 14) (S := fun w' => w'.cell? ⟨gb160, 0, none⟩ = some (.string ((rd_T25 l0 x24_1).f0)) ∧ w'.cell? ⟨gb160, 1, none⟩ = some (.int .i64 ((rd_T25 l0 x24_1).f1)) ∧ w'.cell? ⟨gb160, 2, none⟩ = some (.bool false)) (ds := []) #[false, false, false, false, false, false, false, false, false, false, false, false, false, false] (by kernel_rfl) rfl rfl ⟨(blk_cell BK160.out 0).trans rfl, (blk_cell BK160.out 1).trans rfl, (blk_cell BK160.out 2).trans rfl⟩ (fun hHeld => ?_); refine with_tabW stemma_Write.tab11 stemma_Write.bits11 (fun HT_ HW_ => ?_)
                                  generalize w36.drew = w37 at BK160 HB hHeld ⊢
                                  refine pure_ (i := 0) (N := some 30) (v := ?_) (a' := ?_) #[true, false, false, false, false, false, false, false, false, false, false, false, false, false] rfl rfl (any_of HT_.out (by kernel_rfl)) (fun _ _ _ h => h) (Or.inl ⟨by rfl, ?_⟩) ?_ ?_
                                  rotate_left
                                  · intro w'
                                    go_simp
                                    with_reducible rfl
                                  rotate_left
                                  · simp only [Act.put, List.setIfInBounds_toArray, List.set_cons_zero, List.set_cons_succ, i64_w, i32_w]
                                    rfl
                                  refine pure_ (i := 1) (N := some 31) (v := ?_) (a' := ?_) #[true, true, false, false, false, false, false, false, false, false, false, false, false, false] rfl rfl (any_of HT_.out (by kernel_rfl)) (fun _ _ _ h => h) (Or.inl ⟨by rfl, ?_⟩) ?_ ?_
                                  rotate_left
                                  · intro w'
                                    go_simp
                                    with_reducible rfl
                                  rotate_left
                                  · simp only [Act.put, List.setIfInBounds_toArray, List.set_cons_zero, List.set_cons_succ, i64_w, i32_w]
                                    rfl
                                  refine pure_ (i := 2) (N := some 32) (v := ?_) (a' := ?_) #[true, true, true, false, false, false, false, false, false, false, false, false, false, false] rfl rfl (any_of HT_.out (by kernel_rfl)) (fun _ _ _ h => h) (Or.inl ⟨by rfl, ?_⟩) ?_ ?_
                                  rotate_left
                                  · intro w'
                                    go_simp
                                    with_reducible rfl
                                  rotate_left
                                  · simp only [Act.put, List.setIfInBounds_toArray, List.set_cons_zero, List.set_cons_succ, i64_w, i32_w]
                                    rfl
                                  refine pure_ (i := 3) (N := some 33) (v := ?_) (a' := ?_) #[true, true, true, true, false, false, false, false, false, false, false, false, false, false] rfl rfl (any_of HT_.out (by kernel_rfl)) (fun _ _ _ h => h) (Or.inl ⟨by rfl, ?_⟩) ?_ ?_
                                  rotate_left
                                  · intro w'
                                    go_simp
                                    with_reducible rfl
                                  rotate_left
                                  · simp only [Act.put, List.setIfInBounds_toArray, List.set_cons_zero, List.set_cons_succ, i64_w, i32_w]
                                    rfl
                                  refine pure_ (i := 7) (N := some 37) (v := ?_) (a' := ?_) #[true, true, true, true, false, false, false, true, false, false, false, false, false, false] rfl rfl (any_of HT_.out (by kernel_rfl)) (fun _ _ _ h => h) (Or.inl ⟨by rfl, ?_⟩) ?_ ?_
                                  rotate_left
                                  · intro w'
                                    go_simp
                                    with_reducible rfl
                                  rotate_left
                                  · simp only [Act.put, List.setIfInBounds_toArray, List.set_cons_zero, List.set_cons_succ, i64_w, i32_w]
                                    rfl
                                  refine take_ (i := 4) (N := some 34) (v := ?_) (a' := ?_) #[true, true, true, true, true, false, false, true, false, false, false, false, false, false] rfl rfl (take_ofW HT_.out HW_.out (by kernel_rfl)) (fun _ _ _ h => h) (Or.inl ⟨by rfl, ?_⟩) hHeld ?_ ?_
                                  rotate_left
                                  · rintro w' ⟨s0, s1, s2⟩
                                    go_simp
                                    with_reducible rfl
                                  rotate_left
                                  · simp only [Act.put, List.setIfInBounds_toArray, List.set_cons_zero, List.set_cons_succ, i64_w, i32_w]
                                    rfl
                                  refine pure_ (i := 5) (N := some 35) (v := ?_) (a' := ?_) #[true, true, true, true, true, true, false, true, false, false, false, false, false, false] rfl rfl (any_of HT_.out (by kernel_rfl)) (fun _ _ _ h => h) (Or.inl ⟨by rfl, ?_⟩) ?_ ?_
                                  rotate_left
                                  · intro w'
                                    go_simp
                                    with_reducible rfl
                                  rotate_left
                                  · simp only [Act.put, List.setIfInBounds_toArray, List.set_cons_zero, List.set_cons_succ, i64_w, i32_w]
                                    rfl
                                  refine pure_ (i := 6) (N := some 36) (v := ?_) (a' := ?_) #[true, true, true, true, true, true, true, true, false, false, false, false, false, false] rfl rfl (any_of HT_.out (by kernel_rfl)) (fun _ _ _ h => h) (Or.inl ⟨by rfl, ?_⟩) ?_ ?_
                                  rotate_left
                                  · intro w'
                                    go_simp
                                    with_reducible rfl
                                  rotate_left
                                  · simp only [Act.put, List.setIfInBounds_toArray, List.set_cons_zero, List.set_cons_succ, i64_w, i32_w]
                                    rfl
                                  refine take_ (i := 8) (N := some 38) (v := ?_) (a' := ?_) #[true, true, true, true, true, true, true, true, true, false, false, false, false, false] rfl rfl (take_ofW HT_.out HW_.out (by kernel_rfl)) (fun _ _ _ h => h) (Or.inl ⟨by rfl, ?_⟩) hHeld ?_ ?_
                                  rotate_left
                                  · rintro w' ⟨s0, s1, s2⟩
                                    go_simp
                                    with_reducible rfl
                                  rotate_left
                                  · simp only [Act.put, List.setIfInBounds_toArray, List.set_cons_zero, List.set_cons_succ, i64_w, i32_w]
                                    rfl
                                  refine one_ (i := 9) (N := some 39) #[true, true, true, true, true, true, true, true, true, true, false, false, false, false] rfl rfl (one_of HT_.out (by kernel_rfl)) (by decide) (fun K hK => ?_)
                                  refine goes_ Tryd.func37 (by kernel_rfl) rfl #[.int .i64 ((rd_T25 l0 x24_1).f1)] (by rfl) rfl rfl (by (try simp only [List.map_toArray, List.map_cons, List.map_nil]); first | done | rfl | (simp only [List.length_drop, List.length_take]; rfl)) ?_
                                  with_reducible refine (strconv_Itoa.calls ((rd_T25 l0 x24_1).f1) t162 _ A30.out).mono ?_
                                  rintro e w38 ⟨rfl, hb⟩
                                  refine ⟨_, rfl, ?_⟩
                                  have n0_ := Aside0.mk (blk_below (g := gb160) (o := .cells #[.string ((rd_T25 l0 x24_1).f0), .int .i64 ((rd_T25 l0 x24_1).f1), .bool false] 25 (0, 0)) (by (with_reducible repeat (first | refine blk_drewN ?_ _ | refine blk_drew ?_ | refine blk_alloc ?_ _)); exact BK160.out) hb)
                                  have n1_ := Aside0.mk (below_step (by repeat (first | (with_reducible first | exact HB.out | apply below_alloc | apply pw_below_drewN | apply below_drew1 | refine below_set ?_ GE160.out) | exact HB.out)) hb)
                                  clear BK160
                                  clear HB
                                  have BK160 := n0_
                                  have HB := n1_
                                  clear n0_ n1_
                                  (try clear hb)
                                  (try clear hb2)
                                  (try clear hk)
                                  (try clear hi)
                                  refine hK.out _ _ ⟨(blk_cell BK160.out 0).trans rfl, (blk_cell BK160.out 1).trans rfl, (blk_cell BK160.out 2).trans rfl⟩ (fun hHeld => ?_)
                                  clear hK K
                                  refine norm_ (a' := ?_) ?_ ?_
                                  rotate_left
                                  · show Act.put _ (some 39) _ = _
                                    simp only [Act.put, List.setIfInBounds_toArray, List.set_cons_zero, List.set_cons_succ, i64_w, i32_w]
                                    rfl
                                  refine pure_ (i := 10) (N := some 40) (v := ?_) (a' := ?_) #[true, true, true, true, true, true, true, true, true, true, true, false, false, false] rfl rfl (any_of HT_.out (by kernel_rfl)) (fun _ _ _ h => h) (Or.inl ⟨by rfl, ?_⟩) ?_ ?_
                                  rotate_left
                                  · intro w'
                                    go_simp
                                    with_reducible rfl
                                  rotate_left
                                  · simp only [Act.put, List.setIfInBounds_toArray, List.set_cons_zero, List.set_cons_succ, i64_w, i32_w]
                                    rfl
                                  refine pure_ (i := 11) (N := some 41) (v := ?_) (a' := ?_) #[true, true, true, true, true, true, true, true, true, true, true, true, false, false] rfl rfl (any_of HT_.out (by kernel_rfl)) (fun _ _ _ h => h) (Or.inl ⟨by rfl, ?_⟩) ?_ ?_
                                  rotate_left
                                  · intro w'
                                    go_simp
                                    with_reducible rfl
                                  rotate_left
                                  · simp only [Act.put, List.setIfInBounds_toArray, List.set_cons_zero, List.set_cons_succ, i64_w, i32_w]
                                    rfl
                                  refine pure_ (i := 12) (N := some 42) (v := ?_) (a' := ?_) #[true, true, true, true, true, true, true, true, true, true, true, true, true, false] rfl rfl (any_of HT_.out (by kernel_rfl)) (fun _ _ _ h => h) (Or.inl ⟨by rfl, ?_⟩) ?_ ?_
                                  rotate_left
                                  · intro w'
                                    go_simp
                                    with_reducible rfl
                                  rotate_left
                                  · simp only [Act.put, List.setIfInBounds_toArray, List.set_cons_zero, List.set_cons_succ, i64_w, i32_w]
                                    rfl
                                  refine pure_ (i := 13) (N := some 5) (v := ?_) (a' := ?_) #[true, true, true, true, true, true, true, true, true, true, true, true, true, true] rfl rfl (any_of HT_.out (by kernel_rfl)) (fun _ _ _ h => h) (Or.inl ⟨by rfl, ?_⟩) ?_ ?_
                                  rotate_left
                                  · intro w'
                                    go_simp
                                    with_reducible rfl
                                  rotate_left
                                  · simp only [Act.put, List.setIfInBounds_toArray, List.set_cons_zero, List.set_cons_succ, i64_w, i32_w]
                                    rfl
                                  refine done_ (done_of HT_.out (by kernel_rfl)) ?_
                                  try go_wp2
                                  go_roundg k1
                                  case measure => have := HK1.out; omega
                                  case rel => exact ⟨(x5_1 ++ ((((((⟨#[104, 97, 100]⟩ : ByteArray) ++ (⟨#[32]⟩ : ByteArray)) ++ ((rd_T25 l0 x24_1).f0)) ++ (⟨#[32]⟩ : ByteArray)) ++ t162) ++ (⟨#[10]⟩ : ByteArray))), (wrap64 (x24_1 + 1)), (by first | rfl | (simp; done) | (simp [*]; done)), (by first | rfl | (simp; done) | (simp [*]; done)), H', ⟨by have := HK1.out; omega⟩, ⟨by repeat (first | (with_reducible first | exact HB.out | apply below_alloc | apply pw_below_drewN | apply below_drew1 | refine below_set ?_ GE160.out) | exact HB.out)⟩⟩
                                · rw [if_neg c33] at H
                                  exact absurd H (by simp)
                              · rw [if_neg c32] at H
                                exact absurd H (by simp)
                            · rw [if_neg c31] at H
                              exact absurd H (by simp)
                          · rw [if_neg c29] at H
                            exact absurd H (by simp)
                        · rw [if_neg c28] at H
                          exact absurd H (by simp)
                      · rw [if_neg c27] at H
                        exact absurd H (by simp)
                  · rw [if_neg c12] at H
                    exact absurd H (by simp)
                · rw [if_neg c11] at H
                  exact absurd H (by simp)
              · rw [if_neg c10] at H
                have c10b0 : decide (x24_1 < (l0.length : Int)) = false := decide_eq_false c10
                clear c10
                by_cases c39 : x5_1.size + 7 ≤ 9223372036854775807
                · rw [if_pos c39] at H
                  have c39b0 := eq_true c39
                  have c39b1 : decide (x5_1.size + 7 ≤ 9223372036854775807) = true := decide_eq_true c39
                  try have c39b2 : (9223372036854775807 < x5_1.size + 7) = False := eq_false (Nat.not_lt.2 c39)
                  replace H := Option.bind_eq_some_iff.mp H
                  obtain ⟨t163, A400, H⟩ := H
                  replace H : (if (x5_1 ++ (⟨#[99, 111, 112, 105, 101, 115, 32]⟩ : ByteArray)).size + t163.size ≤ 9223372036854775807 then (if ((x5_1 ++ (⟨#[99, 111, 112, 105, 101, 115, 32]⟩ : ByteArray)) ++ t163).size + 1 ≤ 9223372036854775807 then (some (((x5_1 ++ (⟨#[99, 111, 112, 105, 101, 115, 32]⟩ : ByteArray)) ++ t163) ++ (⟨#[10]⟩ : ByteArray), 0)) else (none)) else (none)) = some (r1, r2) := H
                  have A40 := Aside0.mk A400
                  clear A400
                  by_cases c41 : (x5_1 ++ (⟨#[99, 111, 112, 105, 101, 115, 32]⟩ : ByteArray)).size + t163.size ≤ 9223372036854775807
                  · rw [if_pos c41] at H
                    have c41b0 := eq_true c41
                    have c41b1 : decide ((x5_1 ++ (⟨#[99, 111, 112, 105, 101, 115, 32]⟩ : ByteArray)).size + t163.size ≤ 9223372036854775807) = true := decide_eq_true c41
                    try have c41b2 : (9223372036854775807 < (x5_1 ++ (⟨#[99, 111, 112, 105, 101, 115, 32]⟩ : ByteArray)).size + t163.size) = False := eq_false (Nat.not_lt.2 c41)
                    try (have c41b8 := c41b2; simp only [ByteArray.size_append, show (⟨#[99, 111, 112, 105, 101, 115, 32]⟩ : ByteArray).size = 7 from rfl,  Nat.reduceAdd] at c41b8)
                    by_cases c42 : ((x5_1 ++ (⟨#[99, 111, 112, 105, 101, 115, 32]⟩ : ByteArray)) ++ t163).size + 1 ≤ 9223372036854775807
                    · rw [if_pos c42] at H
                      have c42b0 := eq_true c42
                      have c42b1 : decide (((x5_1 ++ (⟨#[99, 111, 112, 105, 101, 115, 32]⟩ : ByteArray)) ++ t163).size + 1 ≤ 9223372036854775807) = true := decide_eq_true c42
                      try have c42b2 : (9223372036854775807 < ((x5_1 ++ (⟨#[99, 111, 112, 105, 101, 115, 32]⟩ : ByteArray)) ++ t163).size + 1) = False := eq_false (Nat.not_lt.2 c42)
                      try (have c42b8 := c42b2; simp only [ByteArray.size_append, show (⟨#[99, 111, 112, 105, 101, 115, 32]⟩ : ByteArray).size = 7 from rfl,  Nat.reduceAdd] at c42b8)
                      simp only [Option.some.injEq, Prod.mk.injEq] at H
                      obtain ⟨rfl, rfl⟩ := H
                      go_wp2_with (first | ((with_reducible refine gate_callee (f := 37) rfl ?_); refine goesL_ (some 48) rfl rfl Tryd.func37 (by kernel_rfl) rfl #[.int .i64 (l0.length : Int)] rfl (by (try simp only [List.map_toArray, List.map_cons, List.map_nil]); first | done | rfl | (simp only [List.length_drop, List.length_take]; rfl)) ?_; (with_reducible refine (strconv_Itoa.calls (l0.length : Int) t163 _ A40.out).mono ?_); rintro e w43 ⟨rfl, hb⟩; refine ⟨_, rfl, ?_⟩; have n0_ := Aside0.mk (below_step (by repeat (first | (with_reducible first | exact HB.out | apply below_alloc | apply pw_below_drewN | apply below_drew1) | exact HB.out)) hb); clear HB; have HB := n0_; clear n0_; (try clear hb); (try clear hb2); (try clear hk); (try clear hi)))
                      go_ret2
                      exact ⟨by first | rfl | (simp [errW_none, errW_some] <;> rfl) | (simp [*, errW_none, errW_some] <;> rfl), by repeat (first | (with_reducible first | exact HB.out | apply below_alloc | apply pw_below_drewN | apply below_drew1) | exact HB.out)⟩
                    · rw [if_neg c42] at H
                      exact absurd H (by simp)
                  · rw [if_neg c41] at H
                    exact absurd H (by simp)
                · rw [if_neg c39] at H
                  exact absurd H (by simp)
        · rw [if_neg c7] at H
          exact absurd H (by simp)
      · rw [if_neg c6] at H
        exact absurd H (by simp)
    · rw [if_neg c4] at H
      exact absurd H (by simp)
  · rw [if_neg c3] at H
    have c3b0 : (t156 == 0) = false := beq_eq_false_iff_ne.mpr c3
    have c3b1 : (t156 != 0) = true := bne_iff_ne.mpr c3
    simp only [Option.some.injEq, Prod.mk.injEq] at H
    obtain ⟨rfl, rfl⟩ := H
    go_enter Tryd.func15, Tryd.ntmps15
    go_wp2_with (first | ((with_reducible refine gate_callee (f := 8) rfl ?_); refine goesL_ (some 10) rfl rfl Tryd.func8 (by kernel_rfl) rfl #[.slice A0 l0.length c0] rfl (by (try simp only [List.map_toArray, List.map_cons, List.map_nil]); first | done | rfl | (simp only [List.length_drop, List.length_take]; rfl)) ?_; (with_reducible refine (stemma_Check.calls k _ _ l0 t156 _ ?side1 ?side2 A2.out).mono ?_); (case side1 => repeat (first | exact HR0.out | (with_reducible refine Kd.C_alloc ?_ _) | (with_reducible refine Kd.C_drewN ?_ _) | (with_reducible refine Kd.C_drew ?_))); (case side2 => exact HC0.out); rintro e w44 ⟨rfl, hb⟩; refine ⟨_, rfl, ?_⟩; have n0_ := Aside0.mk (below_step (by repeat (first | (with_reducible first | exact HB.out | apply below_alloc | apply pw_below_drewN | apply below_drew1) | exact HB.out)) hb); clear HB; have HB := n0_; clear n0_; (try clear hb); (try clear hb2); (try clear hk); (try clear hi)))
    go_ret2
    exact ⟨by first | rfl | (simp [errW_none, errW_some] <;> rfl) | (simp [*, errW_none, errW_some] <;> rfl), by repeat (first | (with_reducible first | exact HB.out | apply below_alloc | apply pw_below_drewN | apply below_drew1) | exact HB.out)⟩
end Go.Proofs.YtecdjnabmjhakaaDoor.P
namespace Go.Proofs.YtecdjnabmjhakaaDoor.P
open Go.RowKit Go.Proofs.YtecdjnabmjhakaaDoorW.PrintWords Go.Proofs.YtecdjnabmjhakaaDoorW.PrintLast Go.Proofs.YtecdjnabmjhakaaDoorW.PrintMore
attribute [local go_sem] max2_int min2_int max_two min_two max_three min_three max_four min_four   -- for this text's walks alone
set_option linter.unusedVariables false
set_option linter.unusedSimpArgs false
def cippuskit_SameTexts.l0 : Nat → List ByteArray → List ByteArray → Bool → Int → Option (Bool)
  | 0, _, _, _, _ => none
  | k + 1, x0, x1, x5, x6 => if x5 = true then (if x6 < (x0.length : Int) then (if 0 ≤ x6 then (if x6 < (x1.length : Int) then (cippuskit_SameTexts.l0 k x0 x1 ((rdOf ByteArray.empty x0 x6).toList == (rdOf ByteArray.empty x1 x6).toList) (wrap64 (x6 + 1))) else (none)) else (none)) else (some x5)) else (some x5)
def cippuskit_SameTexts.f (k : Nat) (l0 : List ByteArray) (l1 : List ByteArray) : Option (Bool) := cippuskit_SameTexts.l0 k l0 l1 ((l0.length : Int) == (l1.length : Int)) 0
set_option maxHeartbeats 8000000 in
set_option maxRecDepth 100000 in
theorem cippuskit_SameTexts.calls (k : Nat) (A0 : Option Addr) (c0 : Nat) (l0 : List ByteArray) (A1 : Option Addr) (c1 : Nat) (l1 : List ByteArray) (r : Bool) (w : World) (hr0 : Kd.C Kd.string w A0 l0.length l0) (hc0 : l0.length ≤ c0) (hr1 : Kd.C Kd.string w A1 l1.length l1) (hc1 : l1.length ≤ c1) (h : cippuskit_SameTexts.f k l0 l1 = some r) :
    Calls Tryd.prog 16 #[.slice A0 l0.length c0, .slice A1 l1.length c1] w fun e w' => e = .returned (.bool r) ∧ Drawn0 w w' := by
  have HR0 := Aside0.mk hr0
  have HC0 := Aside0.mk hc0
  clear hr0 hc0
  have HR1 := Aside0.mk hr1
  have HC1 := Aside0.mk hc1
  clear hr1 hc1
  have H : (cippuskit_SameTexts.l0 k l0 l1 ((l0.length : Int) == (l1.length : Int)) 0) = some r := h
  clear h
  have H' := Aside0.mk H
  clear H
  go_enter Tryd.func16, Tryd.ntmps16
  go_wp2
  repeat (go_quiet (fail); try go_wp2)
  go_loopg [5, 6] k (fun kq v5 v6 w' => ∃ (x5_1 : Bool) (x6_1 : Int), v5 = .bool x5_1 ∧ v6 = .int .i64 x6_1 ∧ Aside0 (cippuskit_SameTexts.l0 kq l0 l1 x5_1 x6_1 = some r) ∧ Aside0 (kq ≤ k) ∧ Drawn0 w w')
  case atStart => exact ⟨(((l0.length : Int) == (l1.length : Int))), (0), (by first | rfl | (simp; done) | (simp [*]; done)), (by first | rfl | (simp; done) | (simp [*]; done)), H', ⟨Nat.le_refl _⟩, by repeat (first | exact Drawn0.refl _ | apply Drawn0.step)⟩
  case round =>
    clear H'
    try clear c1
    try clear p2
    obtain ⟨x5_1, x6_1, rfl, rfl, HA, HK1, ⟨m1, rfl⟩⟩ := hrel
    cases gk with
    | zero => exact absurd HA.out (by simp [cippuskit_SameTexts.l0])
    | succ k1 =>
      have H := HA.out
      clear HA
      simp only [cippuskit_SameTexts.l0] at H
      by_cases c3 : x5_1 = true
      · subst c3
        have H1 : (if x6_1 < (l0.length : Int) then (if 0 ≤ x6_1 then (if x6_1 < (l1.length : Int) then (cippuskit_SameTexts.l0 k1 l0 l1 ((rdOf ByteArray.empty l0 x6_1).toList == (rdOf ByteArray.empty l1 x6_1).toList) (wrap64 (x6_1 + 1))) else (none)) else (none)) else (some true)) = some r := by rw [if_pos rfl] at H; exact H
        clear H
        have H := H1
        clear H1
        by_cases c4 : x6_1 < (l0.length : Int)
        · rw [if_pos c4] at H
          have c4b0 : decide (x6_1 < (l0.length : Int)) = true := decide_eq_true c4
          clear c4
          by_cases c5 : 0 ≤ x6_1
          · rw [if_pos c5] at H
            have c5b0 : decide (0 ≤ x6_1) = true := decide_eq_true c5
            clear c5
            by_cases c6 : x6_1 < (l1.length : Int)
            · rw [if_pos c6] at H
              have c6b0 : decide (x6_1 < (l1.length : Int)) = true := decide_eq_true c6
              clear c6
              have H' := Aside0.mk H
              clear H
              have p164 : 0 ≤ (x6_1 : Int) := of_decide_eq_true (by first | (with_reducible assumption) | assumption)
              have q164 : x6_1 < (l0.length : Int) := of_decide_eq_true (by first | (with_reducible assumption) | assumption)
              obtain ⟨ad164, e164, hx164_0⟩ := Kd.at_string HR0.out x6_1 p164 q164
              cases e164
              replace p164 := eq_true p164
              replace q164 := eq_true q164
              have p165 : 0 ≤ (x6_1 : Int) := of_decide_eq_true (by first | (with_reducible assumption) | assumption)
              have q165 : x6_1 < (l1.length : Int) := of_decide_eq_true (by first | (with_reducible assumption) | assumption)
              obtain ⟨ad165, e165, hx165_0⟩ := Kd.at_string HR1.out x6_1 p165 q165
              cases e165
              replace p165 := eq_true p165
              replace q165 := eq_true q165
              go_wp2
              repeat (go_quiet (fail); try go_wp2)
              go_roundg k1
              case measure => have := HK1.out; omega
              case rel => exact ⟨(((rdOf ByteArray.empty l0 x6_1).toList == (rdOf ByteArray.empty l1 x6_1).toList)), (wrap64 (x6_1 + 1)), (by first | rfl | (simp; done) | (simp [*]; done)), (by first | rfl | (simp; done) | (simp [*]; done)), H', ⟨by have := HK1.out; omega⟩, by repeat (first | exact Drawn0.refl _ | apply Drawn0.step)⟩
            · rw [if_neg c6] at H
              exact absurd H (by simp)
          · rw [if_neg c5] at H
            exact absurd H (by simp)
        · rw [if_neg c4] at H
          have c4b0 : decide (x6_1 < (l0.length : Int)) = false := decide_eq_false c4
          clear c4
          obtain rfl := Option.some.inj H
          go_wp2
          repeat (go_quiet (fail); try go_wp2)
          go_ret
          exact ⟨by first | rfl | (simp; done) | (simp [*]; done), by repeat (first | exact Drawn0.refl _ | apply Drawn0.step)⟩
      · replace c3 := Bool.eq_false_iff.mpr c3
        subst c3
        have H1 : (some false) = some r := by rw [if_neg (show ¬ (false = true) by decide)] at H; exact H
        clear H
        have H := H1
        clear H1
        obtain rfl := Option.some.inj H
        go_wp2
        repeat (go_quiet (fail); try go_wp2)
        go_ret
        exact ⟨by first | rfl | (simp; done) | (simp [*]; done), by repeat (first | exact Drawn0.refl _ | apply Drawn0.step)⟩
end Go.Proofs.YtecdjnabmjhakaaDoor.P
namespace Go.Proofs.YtecdjnabmjhakaaDoor.P
open Go.RowKit Go.Proofs.YtecdjnabmjhakaaDoorW.PrintWords Go.Proofs.YtecdjnabmjhakaaDoorW.PrintLast Go.Proofs.YtecdjnabmjhakaaDoorW.PrintMore
attribute [local go_sem] max2_int min2_int max_two min_two max_three min_three max_four min_four   -- for this text's walks alone
set_option linter.unusedVariables false
set_option linter.unusedSimpArgs false
mutual
def cippuslaw07_StemmaKnown.j0 : Nat → Bool → Option (Bool)
  | 0, _ => none
  | k + 1, x46 => if x46 = true then (some false) else ((cippuslaw07_copies.f 1 0 true).bind fun t181 => ((stemma_Sources.f k t181).bind fun bt184 => ((cippuslaw07_copies.f 1 0 false).bind fun t188 => ((stemma_Sources.f k t188).bind fun bt191 => (if bt184.2 = 0 then (if bt191.2 = 9 then ((cippuskit_SameGrids.f k bt184.1 (([(([1] : List Int)), (([1, 2] : List Int)), (([2, 2, 1] : List Int))] : List (List Int)))).bind fun t207 => (cippuslaw07_StemmaKnown.j1 k (!t207))) else (cippuslaw07_StemmaKnown.j1 k true)) else (cippuslaw07_StemmaKnown.j1 k true))))))
def cippuslaw07_StemmaKnown.j1 : Nat → Bool → Option (Bool)
  | 0, _ => none
  | k + 1, x71 => if x71 = true then (some false) else ((cippuslaw07_copies.f 1 0 true).bind fun t208 => ((stemma_Depends.f k t208 2 1).bind fun bt211 => ((cippuslaw07_copies.f 1 0 true).bind fun t213 => ((stemma_Depends.f k t213 2 0).bind fun bt216 => ((cippuslaw07_copies.f 1 1 true).bind fun t218 => ((stemma_Depends.f k t218 2 0).bind fun bt221 => ((cippuslaw07_copies.f 1 1 true).bind fun t223 => ((stemma_Depends.f k t223 0 2).bind fun bt226 => (if bt211.2 = 0 then (if bt216.2 = 0 then (if bt221.2 = 0 then (if bt226.2 = 0 then (if bt211.1 = 1 then (if bt216.1 = 2 then (if bt221.1 = 3 then (cippuslaw07_StemmaKnown.j2 k (bt226.1 != 2)) else (cippuslaw07_StemmaKnown.j2 k true)) else (cippuslaw07_StemmaKnown.j2 k true)) else (cippuslaw07_StemmaKnown.j2 k true)) else (cippuslaw07_StemmaKnown.j2 k true)) else (cippuslaw07_StemmaKnown.j2 k true)) else (cippuslaw07_StemmaKnown.j2 k true)) else (cippuslaw07_StemmaKnown.j2 k true))))))))))
def cippuslaw07_StemmaKnown.j2 : Nat → Bool → Option (Bool)
  | 0, _ => none
  | k + 1, x121 => if x121 = true then (some false) else ((cippuslaw07_copies.f 0 1 true).bind fun t228 => ((stemma_Letters.f k t228).bind fun bt231 => ((cippuslaw07_copies.f 1 1 true).bind fun t235 => ((stemma_Letters.f k t235).bind fun bt238 => ((cippuslaw07_copies.f 1 1 true).bind fun t242 => ((stemma_Print.f k t242).bind fun bt245 => ((cippuslaw07_copies.f 1 1 true).bind fun t247 => ((stemma_Fewest.f k t247).bind fun bt250 => ((cippuslaw07_copies.f 0 1 true).bind fun t252 => ((stemma_Fewest.f k t252).bind fun bt255 => ((cippuslaw07_copies.f 1 0 true).bind fun t257 => ((stemma_Write.f k t257).bind fun bt260 => (if bt231.2 = 0 then (if bt238.2 = 0 then (if bt245.2 = 0 then (if bt250.2 = 0 then (if bt255.2 = 0 then (if bt260.2 = 0 then (if bt245.1.toList = ([45, 45, 45, 45] : List UInt8) then (if bt250.1 = 2 then (if bt255.1 = 2 then (if (bt238.1.length : Int) = 4 then (if 0 < (bt238.1.length : Int) then (if (rdOf ByteArray.empty bt238.1 0).toList = ([65, 66, 67, 68, 69, 70, 71, 72, 73, 74, 75, 76, 77, 78, 79, 80, 81, 82, 83, 84, 85, 86, 87, 88, 89, 90] : List UInt8) then ((cippuskit_SameTexts.f k bt231.1 (([(⟨#[65]⟩ : ByteArray), (⟨#[82]⟩ : ByteArray), (⟨#[77]⟩ : ByteArray), (⟨#[65]⟩ : ByteArray)] : List ByteArray))).bind fun t266 => (if t266 = true then (some (bt260.1.toList == ([112, 108, 97, 99, 101, 115, 32, 52, 10, 115, 97, 119, 32, 65, 82, 77, 65, 32, 49, 10, 115, 97, 119, 32, 65, 82, 77, 79, 32, 48, 10, 104, 97, 100, 32, 69, 82, 77, 79, 32, 49, 10, 99, 111, 112, 105, 101, 115, 32, 51, 10] : List UInt8))) else (some false))) else (some false)) else (none)) else (some false)) else (some false)) else (some false)) else (some false)) else (some false)) else (some false)) else (some false)) else (some false)) else (some false)) else (some false))))))))))))))
end
def cippuslaw07_StemmaKnown.f (k : Nat)  : Option (Bool) := (cippuslaw07_copies.f 1 0 true).bind fun t166 => ((cippuslaw07_copies.f 4 0 true).bind fun t169 => (if 1 < (t166.length : Int) then ((cippuslaw07_found.f k).bind fun t173 => (if t173 = true then ((cippuslaw07_copies.f 1 0 true).bind fun t174 => ((stemma_Check.f k t174).bind fun t177 => (if t177 = 0 then ((stemma_Check.f k ([] : List (S25))).bind fun t178 => (if t178 = 7 then ((stemma_Check.f k (t166.set (1 : Int).toNat (⟨(⟨#[65, 82, 77]⟩ : ByteArray), (rd_T25 t166 1).f1, (rd_T25 t166 1).f2⟩ : S25))).bind fun t179 => (if t179 = 2 then ((stemma_Check.f k t169).bind fun t180 => (cippuslaw07_StemmaKnown.j0 k (t180 != 1))) else (cippuslaw07_StemmaKnown.j0 k true))) else (cippuslaw07_StemmaKnown.j0 k true))) else (cippuslaw07_StemmaKnown.j0 k true)))) else (cippuslaw07_StemmaKnown.j0 k true))) else (none)))
theorem check_nil (k : Nat) (r : Int) (w : World) (h : stemma_Check.f k ([] : List S25) = some r) : Calls Tryd.prog 8 #[.slice none 0 0] w fun e w' => e = .returned (.int .i64 r) ∧ Below w.heap.size w w' := stemma_Check.calls k none 0 [] r w (Kd.C_nil _ _) (Nat.le_refl _) h
theorem cippuslaw07_StemmaKnown.j0_shut (k : Nat) : ¬ cippuslaw07_StemmaKnown.j0 k true = some true := by cases k <;> simp [cippuslaw07_StemmaKnown.j0]
theorem cippuslaw07_StemmaKnown.j1_shut (k : Nat) : ¬ cippuslaw07_StemmaKnown.j1 k true = some true := by cases k <;> simp [cippuslaw07_StemmaKnown.j1]
theorem cippuslaw07_StemmaKnown.j2_shut (k : Nat) : ¬ cippuslaw07_StemmaKnown.j2 k true = some true := by cases k <;> simp [cippuslaw07_StemmaKnown.j2]
set_option maxHeartbeats 3000000 in
set_option maxRecDepth 100000 in
theorem cippuslaw07_StemmaKnown.calls (k : Nat)  (w : World) (h : cippuslaw07_StemmaKnown.f k  = some true) :
    Calls Tryd.prog 3 #[] w fun e w' => e = .returned (.bool true) ∧ Below w.heap.size w w' := by
  have HB := Aside0.mk (Below.refl w.heap.size w)
  have H : ((cippuslaw07_copies.f 1 0 true).bind fun t166 => ((cippuslaw07_copies.f 4 0 true).bind fun t169 => (if 1 < (t166.length : Int) then ((cippuslaw07_found.f k).bind fun t173 => (if t173 = true then ((cippuslaw07_copies.f 1 0 true).bind fun t174 => ((stemma_Check.f k t174).bind fun t177 => (if t177 = 0 then ((stemma_Check.f k ([] : List (S25))).bind fun t178 => (if t178 = 7 then ((stemma_Check.f k (t166.set (1 : Int).toNat (⟨(⟨#[65, 82, 77]⟩ : ByteArray), (rd_T25 t166 1).f1, (rd_T25 t166 1).f2⟩ : S25))).bind fun t179 => (if t179 = 2 then ((stemma_Check.f k t169).bind fun t180 => (cippuslaw07_StemmaKnown.j0 k (t180 != 1))) else (cippuslaw07_StemmaKnown.j0 k true))) else (cippuslaw07_StemmaKnown.j0 k true))) else (cippuslaw07_StemmaKnown.j0 k true)))) else (cippuslaw07_StemmaKnown.j0 k true))) else (none)))) = some true := h
  clear h
  replace H := Option.bind_eq_some_iff.mp H
  obtain ⟨t166, A10, H⟩ := H
  replace H : ((cippuslaw07_copies.f 4 0 true).bind fun t169 => (if 1 < (t166.length : Int) then ((cippuslaw07_found.f k).bind fun t173 => (if t173 = true then ((cippuslaw07_copies.f 1 0 true).bind fun t174 => ((stemma_Check.f k t174).bind fun t177 => (if t177 = 0 then ((stemma_Check.f k ([] : List (S25))).bind fun t178 => (if t178 = 7 then ((stemma_Check.f k (t166.set (1 : Int).toNat (⟨(⟨#[65, 82, 77]⟩ : ByteArray), (rd_T25 t166 1).f1, (rd_T25 t166 1).f2⟩ : S25))).bind fun t179 => (if t179 = 2 then ((stemma_Check.f k t169).bind fun t180 => (cippuslaw07_StemmaKnown.j0 k (t180 != 1))) else (cippuslaw07_StemmaKnown.j0 k true))) else (cippuslaw07_StemmaKnown.j0 k true))) else (cippuslaw07_StemmaKnown.j0 k true)))) else (cippuslaw07_StemmaKnown.j0 k true))) else (none))) = some true := H
  have A1 := Aside0.mk A10
  clear A10
  replace H := Option.bind_eq_some_iff.mp H
  obtain ⟨t169, A20, H⟩ := H
  replace H : (if 1 < (t166.length : Int) then ((cippuslaw07_found.f k).bind fun t173 => (if t173 = true then ((cippuslaw07_copies.f 1 0 true).bind fun t174 => ((stemma_Check.f k t174).bind fun t177 => (if t177 = 0 then ((stemma_Check.f k ([] : List (S25))).bind fun t178 => (if t178 = 7 then ((stemma_Check.f k (t166.set (1 : Int).toNat (⟨(⟨#[65, 82, 77]⟩ : ByteArray), (rd_T25 t166 1).f1, (rd_T25 t166 1).f2⟩ : S25))).bind fun t179 => (if t179 = 2 then ((stemma_Check.f k t169).bind fun t180 => (cippuslaw07_StemmaKnown.j0 k (t180 != 1))) else (cippuslaw07_StemmaKnown.j0 k true))) else (cippuslaw07_StemmaKnown.j0 k true))) else (cippuslaw07_StemmaKnown.j0 k true)))) else (cippuslaw07_StemmaKnown.j0 k true))) else (none)) = some true := H
  have A2 := Aside0.mk A20
  clear A20
  by_cases c3 : 1 < (t166.length : Int)
  · rw [if_pos c3] at H
    have c3b0 : decide (1 < (t166.length : Int)) = true := decide_eq_true c3
    have c3b1 : decide (1 < t166.length) = true := decide_eq_true (by omega)
    clear c3
    obtain ⟨y172, hy172⟩ : ∃ y_ : List (S25), y_ = (t166.set (1 : Int).toNat (⟨(⟨#[65, 82, 77]⟩ : ByteArray), (rd_T25 t166 1).f1, (rd_T25 t166 1).f2⟩ : S25)) := ⟨_, rfl⟩
    replace H : ((cippuslaw07_found.f k).bind fun t173 => (if t173 = true then ((cippuslaw07_copies.f 1 0 true).bind fun t174 => ((stemma_Check.f k t174).bind fun t177 => (if t177 = 0 then ((stemma_Check.f k ([] : List (S25))).bind fun t178 => (if t178 = 7 then ((stemma_Check.f k y172).bind fun t179 => (if t179 = 2 then ((stemma_Check.f k t169).bind fun t180 => (cippuslaw07_StemmaKnown.j0 k (t180 != 1))) else (cippuslaw07_StemmaKnown.j0 k true))) else (cippuslaw07_StemmaKnown.j0 k true))) else (cippuslaw07_StemmaKnown.j0 k true)))) else (cippuslaw07_StemmaKnown.j0 k true))) = some true := by first | (rw [hy172]; with_reducible exact H) | (have H2_ := (Option.bind_some _ _).symm.trans H; rw [hy172]; with_reducible exact H2_) | (have H2_ := (Option.bind_some _ _).symm.trans H; with_reducible exact H2_) | with_reducible exact H | (rw [hy172]; exact H) | exact H
    have Ny172 := Aside0.mk hy172
    clear hy172
    have HC5 := Aside0.mk H
    clear H
    go_enter Tryd.func3, Tryd.ntmps3
    go_upto_region 3 with (first | ((with_reducible refine gate_callee (f := 6) rfl ?_); refine goesL_ (some 21) rfl rfl Tryd.func6 (by kernel_rfl) rfl #[.int .i64 1, .int .i64 0, .bool true] rfl (by (try simp only [List.map_toArray, List.map_cons, List.map_nil]); first | done | rfl | (simp only [List.length_drop, List.length_take]; rfl)) ?_; (with_reducible refine (cippuslaw07_copies.calls 1 0 true t166 _ A1.out).mono ?_); rintro e w6 ⟨v167, rfl, ho0, hb⟩; refine ⟨_, rfl, ?_⟩; have n0_ := Aside0.mk (Kd.R_lower ho0 (below_size (by repeat (first | (with_reducible first | exact HB.out | apply below_alloc | apply pw_below_drewN | apply below_drew1) | exact HB.out)))); have n1_ := Aside0.mk (below_step (by repeat (first | (with_reducible first | exact HB.out | apply below_alloc | apply pw_below_drewN | apply below_drew1) | exact HB.out)) hb); clear HB; have HO168 := n0_; have HB := n1_; clear n0_ n1_; (try clear hb); (try clear hb2); (try clear hk); (try clear hi); (try clear ho0)) | ((with_reducible refine gate_callee (f := 6) rfl ?_); refine goesL_ (some 22) rfl rfl Tryd.func6 (by kernel_rfl) rfl #[.int .i64 4, .int .i64 0, .bool true] rfl (by (try simp only [List.map_toArray, List.map_cons, List.map_nil]); first | done | rfl | (simp only [List.length_drop, List.length_take]; rfl)) ?_; (with_reducible refine (cippuslaw07_copies.calls 4 0 true t169 _ A2.out).mono ?_); rintro e w7 ⟨v170, rfl, ho0, hb⟩; refine ⟨_, rfl, ?_⟩; have n0_ := Aside0.mk (Kd.R_elder' (by (with_reducible repeat (first | apply Kd.R_alloc | apply Kd.R_drewN | apply Kd.R_drew)); exact HO168.out) (Kd.R_base ho0) hb); have n1_ := Aside0.mk (Kd.R_lower (Kd.R_new' ho0 (Kd.R_lt (by (with_reducible repeat (first | apply Kd.R_alloc | apply Kd.R_drewN | apply Kd.R_drew)); exact HO168.out))) (below_size (by repeat (first | (with_reducible first | exact HB.out | apply below_alloc | apply pw_below_drewN | apply below_drew1) | exact HB.out)))); have n2_ := Aside0.mk (below_step (by repeat (first | (with_reducible first | exact HB.out | apply below_alloc | apply pw_below_drewN | apply below_drew1) | exact HB.out)) hb); clear HO168; clear HB; have HO168 := n0_; have HO171 := n1_; have HB := n2_; clear n0_ n1_ n2_; (try clear hb); (try clear hb2); (try clear hk); (try clear hi); (try clear ho0); have p4 : 0 ≤ (1 : Int) := (by omega); have q4 : (1 : Int) < ((t166.length : Int) : Int) := of_decide_eq_true (by first | (with_reducible assumption) | assumption); have qi4 : (1 < t166.length) = True := eq_true (by omega); obtain ⟨go4, co4, eo4, gb4, gl4, cl4, HG4⟩ := Kd.R_form HO168.out (by omega); (first | cases eo4 | (injection eo4 with ea_ en_ ec_; (first | subst ea_ | (injection ea_ with ea_; subst ea_)); subst ec_; clear en_)); have GB4 := Aside0.mk gb4; have GG4 := Aside0.mk HG4; clear gb4 gl4 HG4; obtain ⟨ce4, hcl4, hM4, hcc4, hfr4⟩ := Kd.R_elem HO168.out z25 (1 : Int) p4 q4; obtain rfl := k25_openM hM4; have hx4_0 : w7.cell? ⟨go4, (1 : Int).toNat * 3, none⟩ = some (.string ((rd_T25 t166 1).f0)) := hcc4 0 _ rfl; have hx4_1 : w7.cell? ⟨go4, (1 : Int).toNat * 3 + 1, none⟩ = some (.int .i64 ((rd_T25 t166 1).f1)) := hcc4 1 _ rfl; have hx4_2 : w7.cell? ⟨go4, (1 : Int).toNat * 3 + 2, none⟩ = some (.bool ((rd_T25 t166 1).f2)) := hcc4 2 _ rfl; have hf4_0 : w7.frozen? ⟨go4, (1 : Int).toNat * 3, none⟩ = false := hfr4 0; have hf4_1 : w7.frozen? ⟨go4, (1 : Int).toNat * 3 + 1, none⟩ = false := hfr4 1; have hf4_2 : w7.frozen? ⟨go4, (1 : Int).toNat * 3 + 2, none⟩ = false := hfr4 2; clear hcl4 hcc4 hfr4 hM4; (try rw [show ((1 : Int)).toNat = 1 from rfl] at hx4_0); (try simp only [Nat.reduceMul, Nat.zero_mul, Nat.zero_add, Nat.reduceAdd] at hx4_0); (try rw [show ((1 : Int)).toNat = 1 from rfl] at hf4_0); (try simp only [Nat.reduceMul, Nat.zero_mul, Nat.zero_add, Nat.reduceAdd] at hf4_0); (try rw [show ((1 : Int)).toNat = 1 from rfl] at hx4_1); (try simp only [Nat.reduceMul, Nat.zero_mul, Nat.zero_add, Nat.reduceAdd] at hx4_1); (try rw [show ((1 : Int)).toNat = 1 from rfl] at hf4_1); (try simp only [Nat.reduceMul, Nat.zero_mul, Nat.zero_add, Nat.reduceAdd] at hf4_1); (try rw [show ((1 : Int)).toNat = 1 from rfl] at hx4_2); (try simp only [Nat.reduceMul, Nat.zero_mul, Nat.zero_add, Nat.reduceAdd] at hx4_2); (try rw [show ((1 : Int)).toNat = 1 from rfl] at hf4_2); (try simp only [Nat.reduceMul, Nat.zero_mul, Nat.zero_add, Nat.reduceAdd] at hf4_2); replace p4 := eq_true p4; replace q4 := eq_true q4; have n_ := Aside0.mk (Kd.R_mono (ok' := (fun k_ => some k_ ≠ (v170 : Value).ownBlock)) HO168.out (fun k_ hk => hk.2)); clear HO168; have HO168 := n_; clear n_; have HX8 := Aside0.mk (show Kd.R k25 25 w7 w.heap.size (fun k_ => some k_ ≠ (v170 : Value).ownBlock) (.slice (some ⟨go4, 0, none⟩) t166.length co4) t166 from (by (with_reducible repeat (first | apply Kd.R_alloc | apply Kd.R_drewN | apply Kd.R_drew)); exact HO168.out)); obtain ⟨ce8, hcl8, hM8, hcc8, hfr8⟩ := Kd.R_elem HX8.out z25 (1 : Int) (by omega) (by have h_ : (1 : Int) < ((t166.length : Int) : Int) := of_decide_eq_true (by first | (with_reducible assumption) | assumption); first | exact h_ | (have e_ := (Kd.R_reads' HO168.out).1; omega) | simpa using h_); obtain rfl := k25_openM hM8; have HP8 := Kd.R_seg HX8.out (1 : Int) (by omega) (by have h_ : (1 : Int) < ((t166.length : Int) : Int) := of_decide_eq_true (by first | (with_reducible assumption) | assumption); first | exact h_ | (have e_ := (Kd.R_reads' HO168.out).1; omega) | simpa using h_) (seg := [.string (⟨#[65, 82, 77]⟩ : ByteArray)]) (j := 0) hcl8 hcc8 (show 1 ≤ 3 from by decide) (x' := (⟨(⟨#[65, 82, 77]⟩ : ByteArray), (rd_T25 t166 1).f1, (rd_T25 t166 1).f2⟩ : S25)) (k25_mkM _ _ _ (⟨(⟨#[65, 82, 77]⟩ : ByteArray), (rd_T25 t166 1).f1, (rd_T25 t166 1).f2⟩ : S25) ) (fun _ hk => hk); have hx8_0 := hcc8 0 _ rfl; (try simp only [show (k25).sz = 3 from rfl, Nat.mul_one, Nat.add_zero] at hx8_0); (try rw [show ((1 : Int)).toNat = 1 from rfl] at hx8_0); (try simp only [Nat.reduceMul, Nat.zero_mul, Nat.zero_add, Nat.reduceAdd] at hx8_0); have hf8_0 := hfr8 0; (try simp only [show (k25).sz = 3 from rfl, Nat.mul_one, Nat.add_zero] at hf8_0); (try rw [show ((1 : Int)).toNat = 1 from rfl] at hf8_0); (try simp only [Nat.reduceMul, Nat.zero_mul, Nat.zero_add, Nat.reduceAdd] at hf8_0); clear hcl8 hcc8 hfr8 hM8) | ((with_reducible refine gate_store (t := 9) (p := 25) rfl ?_); refine store_event (t := 9) (p := 25) (v := ?vo_w9) (w1 := (w7.setCell ⟨go4, 3, none⟩ (.string (⟨#[65, 82, 77]⟩ : ByteArray)))) ?hg ?ho ?hn ?hr ?_; (case ho => rfl); (case hg => rfl); (case hn => rfl); (case hr => first | (go_simp; done) | (go_simp; rfl)); intro w9 hw; have hg : w7.grownBy w9 (some go4) := (by rw [hw]; exact HP8.2); have hp_ : Kd.R k25 25 w9 w.heap.size (fun k_ => some k_ ≠ (v170 : Value).ownBlock) (.slice (some ⟨go4, 0, none⟩) t166.length co4) y172 := (by rw [hw, Ny172.out]; exact HP8.1); clear HP8; have n0_ := Aside0.mk (hp_); have n1_ := Aside0.mk (Kd.R_after (v := (.slice (some ⟨go4, 0, none⟩) t166.length co4)) (v1 := (.slice (some ⟨go4, 0, none⟩) t166.length co4)) (ok := (fun _ => True)) (by (with_reducible repeat (first | apply Kd.R_alloc | apply Kd.R_drewN | apply Kd.R_drew)); exact HO171.out) hg (.inl rfl)); have n2_ := Aside0.mk ((by rw [hw]; exact below_set (HB.out) GB4.out : Below w.heap.size w w9)); clear HO168; clear HO171; clear HB; have HO168 := n0_; have HO171 := n1_; have HB := n2_; clear n0_ n1_ n2_; clear hg hw hp_))
    (try simp only [Act.put, List.setIfInBounds_toArray, List.set_cons_zero, List.set_cons_succ])
    go_cut [46] (fun v46 wc => ∃ (kq : Nat) (x46_4 : Bool), v46 = .bool x46_4 ∧ Aside0 (cippuslaw07_StemmaKnown.j0 kq x46_4 = some true) ∧ Aside0 (kq ≤ k) ∧ Aside0 (Below w.heap.size w wc))
    case first =>
      have H := HC5.out
      clear HC5
      replace H := Option.bind_eq_some_iff.mp H
      obtain ⟨t173, A100, H⟩ := H
      replace H : (if t173 = true then ((cippuslaw07_copies.f 1 0 true).bind fun t174 => ((stemma_Check.f k t174).bind fun t177 => (if t177 = 0 then ((stemma_Check.f k ([] : List (S25))).bind fun t178 => (if t178 = 7 then ((stemma_Check.f k y172).bind fun t179 => (if t179 = 2 then ((stemma_Check.f k t169).bind fun t180 => (cippuslaw07_StemmaKnown.j0 k (t180 != 1))) else (cippuslaw07_StemmaKnown.j0 k true))) else (cippuslaw07_StemmaKnown.j0 k true))) else (cippuslaw07_StemmaKnown.j0 k true)))) else (cippuslaw07_StemmaKnown.j0 k true)) = some true := H
      have A10 := Aside0.mk A100
      clear A100
      by_cases c11 : t173 = true
      · subst c11
        have H1 : ((cippuslaw07_copies.f 1 0 true).bind fun t174 => ((stemma_Check.f k t174).bind fun t177 => (if t177 = 0 then ((stemma_Check.f k ([] : List (S25))).bind fun t178 => (if t178 = 7 then ((stemma_Check.f k y172).bind fun t179 => (if t179 = 2 then ((stemma_Check.f k t169).bind fun t180 => (cippuslaw07_StemmaKnown.j0 k (t180 != 1))) else (cippuslaw07_StemmaKnown.j0 k true))) else (cippuslaw07_StemmaKnown.j0 k true))) else (cippuslaw07_StemmaKnown.j0 k true)))) = some true := by rw [if_pos rfl] at H; exact H
        clear H
        have H := H1
        clear H1
        replace H := Option.bind_eq_some_iff.mp H
        obtain ⟨t174, A120, H⟩ := H
        replace H : ((stemma_Check.f k t174).bind fun t177 => (if t177 = 0 then ((stemma_Check.f k ([] : List (S25))).bind fun t178 => (if t178 = 7 then ((stemma_Check.f k y172).bind fun t179 => (if t179 = 2 then ((stemma_Check.f k t169).bind fun t180 => (cippuslaw07_StemmaKnown.j0 k (t180 != 1))) else (cippuslaw07_StemmaKnown.j0 k true))) else (cippuslaw07_StemmaKnown.j0 k true))) else (cippuslaw07_StemmaKnown.j0 k true))) = some true := H
        have A12 := Aside0.mk A120
        clear A120
        replace H := Option.bind_eq_some_iff.mp H
        obtain ⟨t177, A130, H⟩ := H
        replace H : (if t177 = 0 then ((stemma_Check.f k ([] : List (S25))).bind fun t178 => (if t178 = 7 then ((stemma_Check.f k y172).bind fun t179 => (if t179 = 2 then ((stemma_Check.f k t169).bind fun t180 => (cippuslaw07_StemmaKnown.j0 k (t180 != 1))) else (cippuslaw07_StemmaKnown.j0 k true))) else (cippuslaw07_StemmaKnown.j0 k true))) else (cippuslaw07_StemmaKnown.j0 k true)) = some true := H
        have A13 := Aside0.mk A130
        clear A130
        by_cases c14 : t177 = 0
        · rw [if_pos c14] at H
          have c14b0 : (t177 == 0) = true := beq_iff_eq.mpr c14
          have c14b1 : (t177 != 0) = false := bne_eq_false_iff_eq.mpr c14
          clear c14
          (first | rw [c14b0] | (simp only [i64_w, i32_w]; rw [c14b0]) | skip)
          replace H := Option.bind_eq_some_iff.mp H
          obtain ⟨t178, A150, H⟩ := H
          replace H : (if t178 = 7 then ((stemma_Check.f k y172).bind fun t179 => (if t179 = 2 then ((stemma_Check.f k t169).bind fun t180 => (cippuslaw07_StemmaKnown.j0 k (t180 != 1))) else (cippuslaw07_StemmaKnown.j0 k true))) else (cippuslaw07_StemmaKnown.j0 k true)) = some true := H
          have A15 := Aside0.mk A150
          clear A150
          by_cases c16 : t178 = 7
          · rw [if_pos c16] at H
            have c16b0 : (t178 == 7) = true := beq_iff_eq.mpr c16
            have c16b1 : (t178 != 7) = false := bne_eq_false_iff_eq.mpr c16
            clear c16
            replace H := Option.bind_eq_some_iff.mp H
            obtain ⟨t179, A170, H⟩ := H
            replace H : (if t179 = 2 then ((stemma_Check.f k t169).bind fun t180 => (cippuslaw07_StemmaKnown.j0 k (t180 != 1))) else (cippuslaw07_StemmaKnown.j0 k true)) = some true := H
            have A17 := Aside0.mk A170
            clear A170
            by_cases c18 : t179 = 2
            · rw [if_pos c18] at H
              have c18b0 : (t179 == 2) = true := beq_iff_eq.mpr c18
              have c18b1 : (t179 != 2) = false := bne_eq_false_iff_eq.mpr c18
              clear c18
              replace H := Option.bind_eq_some_iff.mp H
              obtain ⟨t180, A190, H⟩ := H
              replace H : (cippuslaw07_StemmaKnown.j0 k (t180 != 1)) = some true := H
              have A19 := Aside0.mk A190
              clear A190
              have H' := Aside0.mk H
              clear H
              go_wp2_with (first | ((with_reducible refine gate_callee (f := 7) rfl ?_); refine goesL_ (some 26) rfl rfl Tryd.func7 (by kernel_rfl) rfl #[] rfl (by (try simp only [List.map_toArray, List.map_cons, List.map_nil]); first | done | rfl | (simp only [List.length_drop, List.length_take]; rfl)) ?_; (with_reducible refine (cippuslaw07_found.calls k  true _ A10.out).mono ?_); rintro e w20 ⟨rfl, hb⟩; refine ⟨_, rfl, ?_⟩; have n0_ := Aside0.mk (Kd.R_below (by (with_reducible repeat (first | apply Kd.R_alloc | apply Kd.R_drewN | apply Kd.R_drew)); exact HO168.out) hb); have n1_ := Aside0.mk (Kd.R_below (by (with_reducible repeat (first | apply Kd.R_alloc | apply Kd.R_drewN | apply Kd.R_drew)); exact HO171.out) hb); have n2_ := Aside0.mk (below_step (by repeat (first | (with_reducible first | exact HB.out | apply below_alloc | apply pw_below_drewN | apply below_drew1) | exact HB.out)) hb); clear HO168; clear HO171; clear HB; have HO168 := n0_; have HO171 := n1_; have HB := n2_; clear n0_ n1_ n2_; (try clear hb); (try clear hb2); (try clear hk); (try clear hi)) | (go_at_call 6; (with_reducible refine (cippuslaw07_copies.calls 1 0 true t174 _ A12.out).mono ?_); rintro e w21 ⟨v175, rfl, ho0, hb⟩; have n0_ := Aside0.mk (Kd.R_elder' (by (with_reducible repeat (first | apply Kd.R_alloc | apply Kd.R_drewN | apply Kd.R_drew)); exact HO168.out) (Kd.R_base ho0) hb); have n1_ := Aside0.mk (Kd.R_elder' (by (with_reducible repeat (first | apply Kd.R_alloc | apply Kd.R_drewN | apply Kd.R_drew)); exact HO171.out) (Kd.R_base ho0) hb); have n2_ := Aside0.mk (Kd.R_lower (Kd.R_new' (Kd.R_new' ho0 (Kd.R_lt (by (with_reducible repeat (first | apply Kd.R_alloc | apply Kd.R_drewN | apply Kd.R_drew)); exact HO168.out))) (Kd.R_lt (by (with_reducible repeat (first | apply Kd.R_alloc | apply Kd.R_drewN | apply Kd.R_drew)); exact HO171.out))) (below_size (by repeat (first | (with_reducible first | exact HB.out | apply below_alloc | apply pw_below_drewN | apply below_drew1) | exact HB.out)))); have n3_ := Aside0.mk (below_step (by repeat (first | (with_reducible first | exact HB.out | apply below_alloc | apply pw_below_drewN | apply below_drew1) | exact HB.out)) hb); clear HO168; clear HO171; clear HB; have HO168 := n0_; have HO171 := n1_; have HO176 := n2_; have HB := n3_; clear n0_ n1_ n2_ n3_; (try clear hb); (try clear hb2); (try clear hk); (try clear hi); (try clear ho0); obtain ⟨Ao22, co22, eo22⟩ := Kd.R_slice HO176.out; subst eo22) | (go_at_call 8; (with_reducible refine (stemma_Check.calls k _ _ t174 t177 _ ?side1 ?side2 A13.out).mono ?_); (case side1 => repeat (first | exact (Kd.R_reads' HO176.out).2.2 | (with_reducible refine Kd.C_alloc ?_ _) | (with_reducible refine Kd.C_drewN ?_ _) | (with_reducible refine Kd.C_drew ?_))); (case side2 => exact (Kd.R_reads' HO176.out).2.1); rintro e w23 ⟨rfl, hb⟩; have n0_ := Aside0.mk (Kd.R_below (by (with_reducible repeat (first | apply Kd.R_alloc | apply Kd.R_drewN | apply Kd.R_drew)); exact HO168.out) hb); have n1_ := Aside0.mk (Kd.R_below (by (with_reducible repeat (first | apply Kd.R_alloc | apply Kd.R_drewN | apply Kd.R_drew)); exact HO171.out) hb); have n2_ := Aside0.mk (Kd.R_below (by (with_reducible repeat (first | apply Kd.R_alloc | apply Kd.R_drewN | apply Kd.R_drew)); exact HO176.out) hb); have n3_ := Aside0.mk (below_step (by repeat (first | (with_reducible first | exact HB.out | apply below_alloc | apply pw_below_drewN | apply below_drew1) | exact HB.out)) hb); clear HO168; clear HO171; clear HO176; clear HB; have HO168 := n0_; have HO171 := n1_; have HO176 := n2_; have HB := n3_; clear n0_ n1_ n2_ n3_; (try clear hb); (try clear hb2); (try clear hk); (try clear hi)) | (go_at_call 8; (with_reducible refine (check_nil k t178 _ A15.out).mono ?_); rintro e w24 ⟨rfl, hb⟩; have n0_ := Aside0.mk (Kd.R_below (by (with_reducible repeat (first | apply Kd.R_alloc | apply Kd.R_drewN | apply Kd.R_drew)); exact HO168.out) hb); have n1_ := Aside0.mk (Kd.R_below (by (with_reducible repeat (first | apply Kd.R_alloc | apply Kd.R_drewN | apply Kd.R_drew)); exact HO171.out) hb); have n2_ := Aside0.mk (Kd.R_below (by (with_reducible repeat (first | apply Kd.R_alloc | apply Kd.R_drewN | apply Kd.R_drew)); exact HO176.out) hb); have n3_ := Aside0.mk (below_step (by repeat (first | (with_reducible first | exact HB.out | apply below_alloc | apply pw_below_drewN | apply below_drew1) | exact HB.out)) hb); clear HO168; clear HO171; clear HO176; clear HB; have HO168 := n0_; have HO171 := n1_; have HO176 := n2_; have HB := n3_; clear n0_ n1_ n2_ n3_; (try clear hb); (try clear hb2); (try clear hk); (try clear hi)) | (go_at_call 8; refine calls_of_args (args' := #[.slice (some ⟨go4, 0, none⟩) y172.length co4]) (by first | (rw [show y172.length = t166.length from (Kd.R_reads' HO168.out).1.symm] <;> rfl) | rfl) ?_; (with_reducible refine (stemma_Check.calls k _ _ y172 t179 _ ?side1 ?side2 A17.out).mono ?_); (case side1 => repeat (first | exact (Kd.R_reads' HO168.out).2.2 | (with_reducible refine Kd.C_alloc ?_ _) | (with_reducible refine Kd.C_drewN ?_ _) | (with_reducible refine Kd.C_drew ?_))); (case side2 => rw [show y172.length = t166.length from (Kd.R_reads' HO168.out).1.symm]; exact (Kd.R_reads' HO168.out).2.1); rintro e w25 ⟨rfl, hb⟩; have n0_ := Aside0.mk (Kd.R_below (by (with_reducible repeat (first | apply Kd.R_alloc | apply Kd.R_drewN | apply Kd.R_drew)); exact HO168.out) hb); have n1_ := Aside0.mk (Kd.R_below (by (with_reducible repeat (first | apply Kd.R_alloc | apply Kd.R_drewN | apply Kd.R_drew)); exact HO171.out) hb); have n2_ := Aside0.mk (Kd.R_below (by (with_reducible repeat (first | apply Kd.R_alloc | apply Kd.R_drewN | apply Kd.R_drew)); exact HO176.out) hb); have n3_ := Aside0.mk (below_step (by repeat (first | (with_reducible first | exact HB.out | apply below_alloc | apply pw_below_drewN | apply below_drew1) | exact HB.out)) hb); clear HO168; clear HO171; clear HO176; clear HB; have HO168 := n0_; have HO171 := n1_; have HO176 := n2_; have HB := n3_; clear n0_ n1_ n2_ n3_; (try clear hb); (try clear hb2); (try clear hk); (try clear hi); obtain ⟨Ao26, co26, eo26⟩ := Kd.R_slice HO171.out; subst eo26) | (go_at_call 8; (with_reducible refine (stemma_Check.calls k _ _ t169 t180 _ ?side1 ?side2 A19.out).mono ?_); (case side1 => repeat (first | exact (Kd.R_reads' HO171.out).2.2 | (with_reducible refine Kd.C_alloc ?_ _) | (with_reducible refine Kd.C_drewN ?_ _) | (with_reducible refine Kd.C_drew ?_))); (case side2 => exact (Kd.R_reads' HO171.out).2.1); rintro e w27 ⟨rfl, hb⟩; have n0_ := Aside0.mk (Kd.R_below (by (with_reducible repeat (first | apply Kd.R_alloc | apply Kd.R_drewN | apply Kd.R_drew)); exact HO168.out) hb); have n1_ := Aside0.mk (Kd.R_below (by (with_reducible repeat (first | apply Kd.R_alloc | apply Kd.R_drewN | apply Kd.R_drew)); exact HO171.out) hb); have n2_ := Aside0.mk (Kd.R_below (by (with_reducible repeat (first | apply Kd.R_alloc | apply Kd.R_drewN | apply Kd.R_drew)); exact HO176.out) hb); have n3_ := Aside0.mk (below_step (by repeat (first | (with_reducible first | exact HB.out | apply below_alloc | apply pw_below_drewN | apply below_drew1) | exact HB.out)) hb); clear HO168; clear HO171; clear HO176; clear HB; have HO168 := n0_; have HO171 := n1_; have HO176 := n2_; have HB := n3_; clear n0_ n1_ n2_ n3_; (try clear hb); (try clear hb2); (try clear hk); (try clear hi)))
              go_meet
              case rel => exact ⟨_, ((t180 != 1)), (by first | rfl | (simp; done) | (simp [*]; done)), H', ⟨by first | omega | exact Nat.le_refl _⟩, ⟨by repeat (first | (with_reducible first | exact HB.out | apply below_alloc | apply pw_below_drewN | apply below_drew1) | exact HB.out)⟩⟩
            · rw [if_neg c18] at H
              have c18b0 : (t179 == 2) = false := beq_eq_false_iff_ne.mpr c18
              have c18b1 : (t179 != 2) = true := bne_iff_ne.mpr c18
              exact absurd H (by first | exact cippuslaw07_StemmaKnown.j0_shut _ | exact cippuslaw07_StemmaKnown.j1_shut _ | exact cippuslaw07_StemmaKnown.j2_shut _)
          · rw [if_neg c16] at H
            have c16b0 : (t178 == 7) = false := beq_eq_false_iff_ne.mpr c16
            have c16b1 : (t178 != 7) = true := bne_iff_ne.mpr c16
            exact absurd H (by first | exact cippuslaw07_StemmaKnown.j0_shut _ | exact cippuslaw07_StemmaKnown.j1_shut _ | exact cippuslaw07_StemmaKnown.j2_shut _)
        · rw [if_neg c14] at H
          have c14b0 : (t177 == 0) = false := beq_eq_false_iff_ne.mpr c14
          have c14b1 : (t177 != 0) = true := bne_iff_ne.mpr c14
          (first | rw [c14b0] | (simp only [i64_w, i32_w]; rw [c14b0]) | skip)
          exact absurd H (by first | exact cippuslaw07_StemmaKnown.j0_shut _ | exact cippuslaw07_StemmaKnown.j1_shut _ | exact cippuslaw07_StemmaKnown.j2_shut _)
      · replace c11 := Bool.eq_false_iff.mpr c11
        subst c11
        have H1 : (cippuslaw07_StemmaKnown.j0 k true) = some true := by rw [if_neg (show ¬ (false = true) by decide)] at H; exact H
        clear H
        have H := H1
        clear H1
        exact absurd H (by first | exact cippuslaw07_StemmaKnown.j0_shut _ | exact cippuslaw07_StemmaKnown.j1_shut _ | exact cippuslaw07_StemmaKnown.j2_shut _)
    case rest =>
      clear HC5
      try clear c1
      try clear p2
      try clear c3
      try clear c3b0
      try clear c3b1
      try clear c4
      try clear p4
      try clear q4
      try clear hx4
      try clear qi4
      try clear hf4
      try clear c6
      try clear c7
      try clear c8
      try clear hx8
      try clear hf8
      try clear c11
      try clear c14
      try clear c14b0
      try clear c14b1
      try clear c16
      try clear c16b0
      try clear c16b1
      try clear c18
      try clear c18b0
      try clear c18b1
      try clear hx4_0
      try clear hx4_1
      try clear hx4_2
      try clear hx8_0
      try clear p4
      try clear q4
      obtain ⟨kq, x46_4, rfl, HA, HJ4, HB⟩ := hcut
      cases kq with
      | zero => exact absurd HA.out (by simp [cippuslaw07_StemmaKnown.j0])
      | succ kj4 =>
        have H := HA.out
        clear HA
        simp only [cippuslaw07_StemmaKnown.j0] at H
        by_cases c44 : x46_4 = true
        · subst c44
          have H1 : (some false) = some true := by rw [if_pos rfl] at H; exact H
          clear H
          have H := H1
          clear H1
          exact absurd (Option.some.inj H) (by decide)
        · replace c44 := Bool.eq_false_iff.mpr c44
          subst c44
          have H1 : ((cippuslaw07_copies.f 1 0 true).bind fun t181 => ((stemma_Sources.f kj4 t181).bind fun bt184 => ((cippuslaw07_copies.f 1 0 false).bind fun t188 => ((stemma_Sources.f kj4 t188).bind fun bt191 => (if bt184.2 = 0 then (if bt191.2 = 9 then ((cippuskit_SameGrids.f kj4 bt184.1 (([(([1] : List Int)), (([1, 2] : List Int)), (([2, 2, 1] : List Int))] : List (List Int)))).bind fun t207 => (cippuslaw07_StemmaKnown.j1 kj4 (!t207))) else (cippuslaw07_StemmaKnown.j1 kj4 true)) else (cippuslaw07_StemmaKnown.j1 kj4 true)))))) = some true := by rw [if_neg (show ¬ (false = true) by decide)] at H; exact H
          clear H
          have H := H1
          clear H1
          replace H := Option.bind_eq_some_iff.mp H
          obtain ⟨t181, A450, H⟩ := H
          replace H : ((stemma_Sources.f kj4 t181).bind fun bt184 => ((cippuslaw07_copies.f 1 0 false).bind fun t188 => ((stemma_Sources.f kj4 t188).bind fun bt191 => (if bt184.2 = 0 then (if bt191.2 = 9 then ((cippuskit_SameGrids.f kj4 bt184.1 (([(([1] : List Int)), (([1, 2] : List Int)), (([2, 2, 1] : List Int))] : List (List Int)))).bind fun t207 => (cippuslaw07_StemmaKnown.j1 kj4 (!t207))) else (cippuslaw07_StemmaKnown.j1 kj4 true)) else (cippuslaw07_StemmaKnown.j1 kj4 true))))) = some true := H
          have A45 := Aside0.mk A450
          clear A450
          replace H := Option.bind_eq_some_iff.mp H
          obtain ⟨⟨t184, t187⟩, A460, H⟩ := H
          replace H : ((cippuslaw07_copies.f 1 0 false).bind fun t188 => ((stemma_Sources.f kj4 t188).bind fun bt191 => (if t187 = 0 then (if bt191.2 = 9 then ((cippuskit_SameGrids.f kj4 t184 (([(([1] : List Int)), (([1, 2] : List Int)), (([2, 2, 1] : List Int))] : List (List Int)))).bind fun t207 => (cippuslaw07_StemmaKnown.j1 kj4 (!t207))) else (cippuslaw07_StemmaKnown.j1 kj4 true)) else (cippuslaw07_StemmaKnown.j1 kj4 true)))) = some true := H
          have A46 := Aside0.mk A460
          clear A460
          replace H := Option.bind_eq_some_iff.mp H
          obtain ⟨t188, A470, H⟩ := H
          replace H : ((stemma_Sources.f kj4 t188).bind fun bt191 => (if t187 = 0 then (if bt191.2 = 9 then ((cippuskit_SameGrids.f kj4 t184 (([(([1] : List Int)), (([1, 2] : List Int)), (([2, 2, 1] : List Int))] : List (List Int)))).bind fun t207 => (cippuslaw07_StemmaKnown.j1 kj4 (!t207))) else (cippuslaw07_StemmaKnown.j1 kj4 true)) else (cippuslaw07_StemmaKnown.j1 kj4 true))) = some true := H
          have A47 := Aside0.mk A470
          clear A470
          replace H := Option.bind_eq_some_iff.mp H
          obtain ⟨⟨t191, t194⟩, A480, H⟩ := H
          replace H : (if t187 = 0 then (if t194 = 9 then ((cippuskit_SameGrids.f kj4 t184 (([(([1] : List Int)), (([1, 2] : List Int)), (([2, 2, 1] : List Int))] : List (List Int)))).bind fun t207 => (cippuslaw07_StemmaKnown.j1 kj4 (!t207))) else (cippuslaw07_StemmaKnown.j1 kj4 true)) else (cippuslaw07_StemmaKnown.j1 kj4 true)) = some true := H
          have A48 := Aside0.mk A480
          clear A480
          have HC49 := Aside0.mk H
          clear H
          go_upto_region 7 with (first | ((with_reducible refine gate_callee (f := 6) rfl ?_); refine goesL_ (some 48) rfl rfl Tryd.func6 (by kernel_rfl) rfl #[.int .i64 1, .int .i64 0, .bool true] rfl (by (try simp only [List.map_toArray, List.map_cons, List.map_nil]); first | done | rfl | (simp only [List.length_drop, List.length_take]; rfl)) ?_; (with_reducible refine (cippuslaw07_copies.calls 1 0 true t181 _ A45.out).mono ?_); rintro e w50 ⟨v182, rfl, ho0, hb⟩; refine ⟨_, rfl, ?_⟩; have n0_ := Aside0.mk (Kd.R_lower ho0 (below_size (by repeat (first | (with_reducible first | exact HB.out | apply below_alloc | apply pw_below_drewN | apply below_drew1) | exact HB.out)))); have n1_ := Aside0.mk (below_step (by repeat (first | (with_reducible first | exact HB.out | apply below_alloc | apply pw_below_drewN | apply below_drew1) | exact HB.out)) hb); clear HB; have HO183 := n0_; have HB := n1_; clear n0_ n1_; (try clear hb); (try clear hb2); (try clear hk); (try clear hi); (try clear ho0); obtain ⟨Ao51, co51, eo51⟩ := Kd.R_slice HO183.out; subst eo51) | ((with_reducible refine gate_callee (f := 9) rfl ?_); refine goesL_ (some 49) rfl rfl Tryd.func9 (by kernel_rfl) rfl #[.slice Ao51 t181.length co51] rfl (by (try simp only [List.map_toArray, List.map_cons, List.map_nil]); first | done | rfl | (simp only [List.length_drop, List.length_take]; rfl)) ?_; (with_reducible refine (stemma_Sources.calls kj4 _ _ t181 t184 t187 _ ?side1 ?side2 A46.out).mono ?_); (case side1 => repeat (first | exact (Kd.R_reads' HO183.out).2.2 | (with_reducible refine Kd.C_alloc ?_ _) | (with_reducible refine Kd.C_drewN ?_ _) | (with_reducible refine Kd.C_drew ?_))); (case side2 => exact (Kd.R_reads' HO183.out).2.1); rintro e w52 ⟨v185, rfl, ho0, hb⟩; refine ⟨_, rfl, ?_⟩; have n0_ := Aside0.mk (Kd.R_below (by (with_reducible repeat (first | apply Kd.R_alloc | apply Kd.R_drewN | apply Kd.R_drew)); exact HO183.out) hb); have n1_ := Aside0.mk (Kd.N_lower (Kd.N_mono (ok' := fun k_ => some k_ ≠ (.slice Ao51 t181.length co51 : Value).ownBlock) ho0 (fun k_ hk_ => (Kd.fresh' (Kd.R_lt (by (with_reducible repeat (first | apply Kd.R_alloc | apply Kd.R_drewN | apply Kd.R_drew)); exact HO183.out)) k_ hk_))) (below_size (by repeat (first | (with_reducible first | exact HB.out | apply below_alloc | apply pw_below_drewN | apply below_drew1) | exact HB.out)))); have n2_ := Aside0.mk (below_step (by repeat (first | (with_reducible first | exact HB.out | apply below_alloc | apply pw_below_drewN | apply below_drew1) | exact HB.out)) hb); clear HO183; clear HB; have HO183 := n0_; have HO186 := n1_; have HB := n2_; clear n0_ n1_ n2_; (try clear hb); (try clear hb2); (try clear hk); (try clear hi); (try clear ho0)) | ((with_reducible refine gate_callee (f := 6) rfl ?_); refine goesL_ (some 53) rfl rfl Tryd.func6 (by kernel_rfl) rfl #[.int .i64 1, .int .i64 0, .bool false] rfl (by (try simp only [List.map_toArray, List.map_cons, List.map_nil]); first | done | rfl | (simp only [List.length_drop, List.length_take]; rfl)) ?_; (with_reducible refine (cippuslaw07_copies.calls 1 0 false t188 _ A47.out).mono ?_); rintro e w53 ⟨v189, rfl, ho0, hb⟩; refine ⟨_, rfl, ?_⟩; have n0_ := Aside0.mk (Kd.R_elder' (by (with_reducible repeat (first | apply Kd.R_alloc | apply Kd.R_drewN | apply Kd.R_drew)); exact HO183.out) (Kd.R_base ho0) hb); have n1_ := Aside0.mk (Kd.N_elder' (by (with_reducible repeat (first | apply Kd.N_alloc | apply Kd.N_drewN | apply Kd.N_drew)); exact HO186.out) (Kd.R_base ho0) hb); have n2_ := Aside0.mk (Kd.R_lower (Kd.R_new' ho0 (Kd.R_lt (by (with_reducible repeat (first | apply Kd.R_alloc | apply Kd.R_drewN | apply Kd.R_drew)); exact HO183.out))) (below_size (by repeat (first | (with_reducible first | exact HB.out | apply below_alloc | apply pw_below_drewN | apply below_drew1) | exact HB.out)))); have n3_ := Aside0.mk (below_step (by repeat (first | (with_reducible first | exact HB.out | apply below_alloc | apply pw_below_drewN | apply below_drew1) | exact HB.out)) hb); clear HO183; clear HO186; clear HB; have HO183 := n0_; have HO186 := n1_; have HO190 := n2_; have HB := n3_; clear n0_ n1_ n2_ n3_; (try clear hb); (try clear hb2); (try clear hk); (try clear hi); (try clear ho0); obtain ⟨Ao54, co54, eo54⟩ := Kd.R_slice HO190.out; subst eo54) | ((with_reducible refine gate_callee (f := 9) rfl ?_); refine goesL_ (some 54) rfl rfl Tryd.func9 (by kernel_rfl) rfl #[.slice Ao54 t188.length co54] rfl (by (try simp only [List.map_toArray, List.map_cons, List.map_nil]); first | done | rfl | (simp only [List.length_drop, List.length_take]; rfl)) ?_; (with_reducible refine (stemma_Sources.calls kj4 _ _ t188 t191 t194 _ ?side1 ?side2 A48.out).mono ?_); (case side1 => repeat (first | exact (Kd.R_reads' HO190.out).2.2 | (with_reducible refine Kd.C_alloc ?_ _) | (with_reducible refine Kd.C_drewN ?_ _) | (with_reducible refine Kd.C_drew ?_))); (case side2 => exact (Kd.R_reads' HO190.out).2.1); rintro e w55 ⟨v192, rfl, ho0, hb⟩; refine ⟨_, rfl, ?_⟩; have n0_ := Aside0.mk (Kd.R_below (by (with_reducible repeat (first | apply Kd.R_alloc | apply Kd.R_drewN | apply Kd.R_drew)); exact HO183.out) hb); have n1_ := Aside0.mk (Kd.N_elder' (by (with_reducible repeat (first | apply Kd.N_alloc | apply Kd.N_drewN | apply Kd.N_drew)); exact HO186.out) (Kd.N_base ho0) hb); have n2_ := Aside0.mk (Kd.R_below (by (with_reducible repeat (first | apply Kd.R_alloc | apply Kd.R_drewN | apply Kd.R_drew)); exact HO190.out) hb); have n3_ := Aside0.mk (Kd.N_lower (Kd.N_mono (ok' := fun k_ => some k_ ≠ (.slice Ao51 t181.length co51 : Value).ownBlock ∧ some k_ ≠ (v185 : Value).ownBlock ∧ some k_ ≠ (.slice Ao54 t188.length co54 : Value).ownBlock) ho0 (fun k_ hk_ => ⟨(Kd.fresh' (Kd.R_lt (by (with_reducible repeat (first | apply Kd.R_alloc | apply Kd.R_drewN | apply Kd.R_drew)); exact HO183.out)) k_ hk_), (Kd.fresh' (Kd.N_lt (by (with_reducible repeat (first | apply Kd.N_alloc | apply Kd.N_drewN | apply Kd.N_drew)); exact HO186.out)) k_ hk_), (Kd.fresh' (Kd.R_lt (by (with_reducible repeat (first | apply Kd.R_alloc | apply Kd.R_drewN | apply Kd.R_drew)); exact HO190.out)) k_ hk_)⟩)) (below_size (by repeat (first | (with_reducible first | exact HB.out | apply below_alloc | apply pw_below_drewN | apply below_drew1) | exact HB.out)))); have n4_ := Aside0.mk (below_step (by repeat (first | (with_reducible first | exact HB.out | apply below_alloc | apply pw_below_drewN | apply below_drew1) | exact HB.out)) hb); clear HO183; clear HO186; clear HO190; clear HB; have HO183 := n0_; have HO186 := n1_; have HO190 := n2_; have HO193 := n3_; have HB := n4_; clear n0_ n1_ n2_ n3_ n4_; (try clear hb); (try clear hb2); (try clear hk); (try clear hi); (try clear ho0)))
          (try simp only [Act.put, List.setIfInBounds_toArray, List.set_cons_zero, List.set_cons_succ])
          go_cut [71] (fun v71 wc => ∃ (kq : Nat) (x71_48 : Bool), v71 = .bool x71_48 ∧ Aside0 (cippuslaw07_StemmaKnown.j1 kq x71_48 = some true) ∧ Aside0 (kq ≤ kj4) ∧ Aside0 (Below w.heap.size w wc))
          case first =>
            have H := HC49.out
            clear HC49
            by_cases c56 : t187 = 0
            · rw [if_pos c56] at H
              have c56b0 : (t187 == 0) = true := beq_iff_eq.mpr c56
              have c56b1 : (t187 != 0) = false := bne_eq_false_iff_eq.mpr c56
              clear c56
              (first | rw [c56b0] | (simp only [i64_w, i32_w]; rw [c56b0]) | skip)
              by_cases c57 : t194 = 9
              · rw [if_pos c57] at H
                have c57b0 : (t194 == 9) = true := beq_iff_eq.mpr c57
                have c57b1 : (t194 != 9) = false := bne_eq_false_iff_eq.mpr c57
                clear c57
                obtain ⟨y195, hy195⟩ : ∃ y_ : List Int, y_ = (([1] : List Int)) := ⟨_, rfl⟩
                replace H : ((cippuskit_SameGrids.f kj4 t184 (([y195, (([1, 2] : List Int)), (([2, 2, 1] : List Int))] : List (List Int)))).bind fun t207 => (cippuslaw07_StemmaKnown.j1 kj4 (!t207))) = some true := by first | (rw [hy195]; with_reducible exact H) | (have H2_ := (Option.bind_some _ _).symm.trans H; rw [hy195]; with_reducible exact H2_) | (have H2_ := (Option.bind_some _ _).symm.trans H; with_reducible exact H2_) | with_reducible exact H | (rw [hy195]; exact H) | exact H
                have Ny195 := Aside0.mk hy195
                clear hy195
                obtain ⟨y198, hy198⟩ : ∃ y_ : List Int, y_ = (([1, 2] : List Int)) := ⟨_, rfl⟩
                replace H : ((cippuskit_SameGrids.f kj4 t184 (([y195, y198, (([2, 2, 1] : List Int))] : List (List Int)))).bind fun t207 => (cippuslaw07_StemmaKnown.j1 kj4 (!t207))) = some true := by first | (rw [hy198]; with_reducible exact H) | (have H2_ := (Option.bind_some _ _).symm.trans H; rw [hy198]; with_reducible exact H2_) | (have H2_ := (Option.bind_some _ _).symm.trans H; with_reducible exact H2_) | with_reducible exact H | (rw [hy198]; exact H) | exact H
                have Ny198 := Aside0.mk hy198
                clear hy198
                obtain ⟨y201, hy201⟩ : ∃ y_ : List Int, y_ = (([2, 2, 1] : List Int)) := ⟨_, rfl⟩
                replace H : ((cippuskit_SameGrids.f kj4 t184 (([y195, y198, y201] : List (List Int)))).bind fun t207 => (cippuslaw07_StemmaKnown.j1 kj4 (!t207))) = some true := by first | (rw [hy201]; with_reducible exact H) | (have H2_ := (Option.bind_some _ _).symm.trans H; rw [hy201]; with_reducible exact H2_) | (have H2_ := (Option.bind_some _ _).symm.trans H; with_reducible exact H2_) | with_reducible exact H | (rw [hy201]; exact H) | exact H
                have Ny201 := Aside0.mk hy201
                clear hy201
                obtain ⟨y204, hy204⟩ : ∃ y_ : List (List Int), y_ = (([y195, y198, y201] : List (List Int))) := ⟨_, rfl⟩
                replace H : ((cippuskit_SameGrids.f kj4 t184 y204).bind fun t207 => (cippuslaw07_StemmaKnown.j1 kj4 (!t207))) = some true := by first | (rw [hy204]; with_reducible exact H) | (have H2_ := (Option.bind_some _ _).symm.trans H; rw [hy204]; with_reducible exact H2_) | (have H2_ := (Option.bind_some _ _).symm.trans H; with_reducible exact H2_) | with_reducible exact H | (rw [hy204]; exact H) | exact H
                have Ny204 := Aside0.mk hy204
                clear hy204
                replace H := Option.bind_eq_some_iff.mp H
                obtain ⟨t207, A580, H⟩ := H
                replace H : (cippuslaw07_StemmaKnown.j1 kj4 (!t207)) = some true := H
                have A58 := Aside0.mk A580
                clear A580
                have H' := Aside0.mk H
                clear H
                go_wp2_with (first | ((with_reducible refine gate_dst (N := 65) rfl ?_); (try (refine gate_guard (by rfl) ?_; dsimp only)); refine Kd.R_lit (Kd.int .i64) _ 3 ?hg (N := 65) ?hd (xs := ([1] : List Int)) (inner := [.int .i64 1]) (ok := fun _ => True) (okp := fun _ => True) ?hr ?hp (fun _ hk => hk) trivial (Below.refl _ _) (Nat.le_refl _) (by simp) ?_; (case hd => rfl); (case hg => rfl); (case hr => first | (go_simp; done) | (go_simp; rfl)); (case hp => exact (Reps.one (show Kd.M (Kd.int .i64) _ _ _ 1 [.int .i64 1] from rfl) (Reps.none _ _))); intro v196 w59 ho60 hb hg_ hnew_; clear hg_ hnew_; (first | rw [← Ny195.out] at ho60 | (simp only [Int.reduceToNat] at ho60; rw [← Ny195.out] at ho60)); have n0_ := Aside0.mk (Kd.R_below (by (with_reducible repeat (first | apply Kd.R_alloc | apply Kd.R_drewN | apply Kd.R_drew)); exact HO183.out) hb); have n1_ := Aside0.mk (Kd.N_elder' (by (with_reducible repeat (first | apply Kd.N_alloc | apply Kd.N_drewN | apply Kd.N_drew)); exact HO186.out) (Kd.R_base ho60) hb); have n2_ := Aside0.mk (Kd.R_below (by (with_reducible repeat (first | apply Kd.R_alloc | apply Kd.R_drewN | apply Kd.R_drew)); exact HO190.out) hb); have n3_ := Aside0.mk (Kd.N_elder' (by (with_reducible repeat (first | apply Kd.N_alloc | apply Kd.N_drewN | apply Kd.N_drew)); exact HO193.out) (Kd.R_base ho60) hb); have n4_ := Aside0.mk (Kd.R_lower ho60 (below_size (by repeat (first | (with_reducible first | exact HB.out | apply below_alloc | apply pw_below_drewN | apply below_drew1) | exact HB.out)))); have n5_ := Aside0.mk (below_step (by repeat (first | (with_reducible first | exact HB.out | apply below_alloc | apply pw_below_drewN | apply below_drew1) | exact HB.out)) hb); clear HO183; clear HO186; clear HO190; clear HO193; clear HB; have HO183 := n0_; have HO186 := n1_; have HO190 := n2_; have HO193 := n3_; have HO197 := n4_; have HB := n5_; clear n0_ n1_ n2_ n3_ n4_ n5_; clear hb ho60) | ((with_reducible refine gate_dst (N := 66) rfl ?_); (try (refine gate_guard (by rfl) ?_; dsimp only)); refine Kd.R_lit (Kd.int .i64) _ 3 ?hg (N := 66) ?hd (xs := ([1, 2] : List Int)) (inner := [.int .i64 1, .int .i64 2]) (ok := fun _ => True) (okp := fun _ => True) ?hr ?hp (fun _ hk => hk) trivial (Below.refl _ _) (Nat.le_refl _) (by simp) ?_; (case hd => rfl); (case hg => rfl); (case hr => first | (go_simp; done) | (go_simp; rfl)); (case hp => exact (Reps.one (show Kd.M (Kd.int .i64) _ _ _ 1 [.int .i64 1] from rfl) (Reps.one (show Kd.M (Kd.int .i64) _ _ _ 2 [.int .i64 2] from rfl) (Reps.none _ _)))); intro v199 w61 ho62 hb hg_ hnew_; clear hg_ hnew_; (first | rw [← Ny198.out] at ho62 | (simp only [Int.reduceToNat] at ho62; rw [← Ny198.out] at ho62)); have n0_ := Aside0.mk (Kd.R_below (by (with_reducible repeat (first | apply Kd.R_alloc | apply Kd.R_drewN | apply Kd.R_drew)); exact HO183.out) hb); have n1_ := Aside0.mk (Kd.N_elder' (by (with_reducible repeat (first | apply Kd.N_alloc | apply Kd.N_drewN | apply Kd.N_drew)); exact HO186.out) (Kd.R_base ho62) hb); have n2_ := Aside0.mk (Kd.R_below (by (with_reducible repeat (first | apply Kd.R_alloc | apply Kd.R_drewN | apply Kd.R_drew)); exact HO190.out) hb); have n3_ := Aside0.mk (Kd.N_elder' (by (with_reducible repeat (first | apply Kd.N_alloc | apply Kd.N_drewN | apply Kd.N_drew)); exact HO193.out) (Kd.R_base ho62) hb); have n4_ := Aside0.mk (Kd.R_elder' (by (with_reducible repeat (first | apply Kd.R_alloc | apply Kd.R_drewN | apply Kd.R_drew)); exact HO197.out) (Kd.R_base ho62) hb); have n5_ := Aside0.mk (Kd.R_lower (Kd.R_new' ho62 (Kd.R_lt (by (with_reducible repeat (first | apply Kd.R_alloc | apply Kd.R_drewN | apply Kd.R_drew)); exact HO197.out))) (below_size (by repeat (first | (with_reducible first | exact HB.out | apply below_alloc | apply pw_below_drewN | apply below_drew1) | exact HB.out)))); have n6_ := Aside0.mk (below_step (by repeat (first | (with_reducible first | exact HB.out | apply below_alloc | apply pw_below_drewN | apply below_drew1) | exact HB.out)) hb); clear HO183; clear HO186; clear HO190; clear HO193; clear HO197; clear HB; have HO183 := n0_; have HO186 := n1_; have HO190 := n2_; have HO193 := n3_; have HO197 := n4_; have HO200 := n5_; have HB := n6_; clear n0_ n1_ n2_ n3_ n4_ n5_ n6_; clear hb ho62) | ((with_reducible refine gate_dst (N := 67) rfl ?_); (try (refine gate_guard (by rfl) ?_; dsimp only)); refine Kd.R_lit (Kd.int .i64) _ 3 ?hg (N := 67) ?hd (xs := ([2, 2, 1] : List Int)) (inner := [.int .i64 2, .int .i64 2, .int .i64 1]) (ok := fun _ => True) (okp := fun _ => True) ?hr ?hp (fun _ hk => hk) trivial (Below.refl _ _) (Nat.le_refl _) (by simp) ?_; (case hd => rfl); (case hg => rfl); (case hr => first | (go_simp; done) | (go_simp; rfl)); (case hp => exact (Reps.one (show Kd.M (Kd.int .i64) _ _ _ 2 [.int .i64 2] from rfl) (Reps.one (show Kd.M (Kd.int .i64) _ _ _ 2 [.int .i64 2] from rfl) (Reps.one (show Kd.M (Kd.int .i64) _ _ _ 1 [.int .i64 1] from rfl) (Reps.none _ _))))); intro v202 w63 ho64 hb hg_ hnew_; clear hg_ hnew_; (first | rw [← Ny201.out] at ho64 | (simp only [Int.reduceToNat] at ho64; rw [← Ny201.out] at ho64)); have n0_ := Aside0.mk (Kd.R_below (by (with_reducible repeat (first | apply Kd.R_alloc | apply Kd.R_drewN | apply Kd.R_drew)); exact HO183.out) hb); have n1_ := Aside0.mk (Kd.N_elder' (by (with_reducible repeat (first | apply Kd.N_alloc | apply Kd.N_drewN | apply Kd.N_drew)); exact HO186.out) (Kd.R_base ho64) hb); have n2_ := Aside0.mk (Kd.R_below (by (with_reducible repeat (first | apply Kd.R_alloc | apply Kd.R_drewN | apply Kd.R_drew)); exact HO190.out) hb); have n3_ := Aside0.mk (Kd.N_elder' (by (with_reducible repeat (first | apply Kd.N_alloc | apply Kd.N_drewN | apply Kd.N_drew)); exact HO193.out) (Kd.R_base ho64) hb); have n4_ := Aside0.mk (Kd.R_elder' (by (with_reducible repeat (first | apply Kd.R_alloc | apply Kd.R_drewN | apply Kd.R_drew)); exact HO197.out) (Kd.R_base ho64) hb); have n5_ := Aside0.mk (Kd.R_elder' (by (with_reducible repeat (first | apply Kd.R_alloc | apply Kd.R_drewN | apply Kd.R_drew)); exact HO200.out) (Kd.R_base ho64) hb); have n6_ := Aside0.mk (Kd.R_lower (Kd.R_new' (Kd.R_new' ho64 (Kd.R_lt (by (with_reducible repeat (first | apply Kd.R_alloc | apply Kd.R_drewN | apply Kd.R_drew)); exact HO197.out))) (Kd.R_lt (by (with_reducible repeat (first | apply Kd.R_alloc | apply Kd.R_drewN | apply Kd.R_drew)); exact HO200.out))) (below_size (by repeat (first | (with_reducible first | exact HB.out | apply below_alloc | apply pw_below_drewN | apply below_drew1) | exact HB.out)))); have n7_ := Aside0.mk (below_step (by repeat (first | (with_reducible first | exact HB.out | apply below_alloc | apply pw_below_drewN | apply below_drew1) | exact HB.out)) hb); clear HO183; clear HO186; clear HO190; clear HO193; clear HO197; clear HO200; clear HB; have HO183 := n0_; have HO186 := n1_; have HO190 := n2_; have HO193 := n3_; have HO197 := n4_; have HO200 := n5_; have HO203 := n6_; have HB := n7_; clear n0_ n1_ n2_ n3_ n4_ n5_ n6_ n7_; clear hb ho64; obtain ⟨Ao65, co65, eo65⟩ := Kd.R_slice HO197.out; subst eo65; obtain ⟨Ao66, co66, eo66⟩ := Kd.R_slice HO200.out; subst eo66; obtain ⟨Ao67, co67, eo67⟩ := Kd.R_slice HO203.out; subst eo67) | ((with_reducible refine gate_dst (N := 68) rfl ?_); (try (refine gate_guard (by rfl) ?_; dsimp only)); refine Kd.N_lit (Kd.slice 3 (Kd.int .i64)) _ 33 ?hg (N' := 68) ?hd (xs := ([y195, y198, y201] : List (List Int))) (inner := [.slice Ao65 y195.length co65, .slice Ao66 y198.length co66, .slice Ao67 y201.length co67]) (ok := (fun k_ => some k_ ≠ (.slice Ao51 t181.length co51 : Value).ownBlock ∧ some k_ ≠ (v185 : Value).ownBlock ∧ some k_ ≠ (.slice Ao54 t188.length co54 : Value).ownBlock ∧ some k_ ≠ (v192 : Value).ownBlock)) (okp := (fun k_ => some k_ ≠ (.slice Ao51 t181.length co51 : Value).ownBlock ∧ some k_ ≠ (v185 : Value).ownBlock ∧ some k_ ≠ (.slice Ao54 t188.length co54 : Value).ownBlock ∧ some k_ ≠ (v192 : Value).ownBlock)) ?hr ?hp (fun _ hk => hk) ((show ∀ k_, w63.heap.size ≤ k_ → (fun k_ => some k_ ≠ (.slice Ao51 t181.length co51 : Value).ownBlock ∧ some k_ ≠ (v185 : Value).ownBlock ∧ some k_ ≠ (.slice Ao54 t188.length co54 : Value).ownBlock ∧ some k_ ≠ (v192 : Value).ownBlock) k_ from fun k_ hk => ⟨Kd.fresh' (Kd.R_lt (by (with_reducible repeat (first | apply Kd.R_alloc | apply Kd.R_drewN | apply Kd.R_drew)); exact HO183.out)) k_ hk, Kd.fresh' (Kd.N_lt (by (with_reducible repeat (first | apply Kd.N_alloc | apply Kd.N_drewN | apply Kd.N_drew)); exact HO186.out)) k_ hk, Kd.fresh' (Kd.R_lt (by (with_reducible repeat (first | apply Kd.R_alloc | apply Kd.R_drewN | apply Kd.R_drew)); exact HO190.out)) k_ hk, Kd.fresh' (Kd.N_lt (by (with_reducible repeat (first | apply Kd.N_alloc | apply Kd.N_drewN | apply Kd.N_drew)); exact HO193.out)) k_ hk⟩) _ (Nat.le_refl _)) (Below.refl _ _) (Nat.le_refl _) (by simp) ?_; (case hd => rfl); (case hg => rfl); (case hr => first | (go_simp; done) | (go_simp; rfl)); (case hp => exact (Reps.one (show Kd.FK (Kd.slice 3 (Kd.int .i64)) _ _ y195 [.slice Ao65 y195.length co65] from (Kd.FK_slice_mk (Kd.R_reads' (Kd.R_mono (ok' := (fun k_ => some k_ ≠ (.slice Ao51 t181.length co51 : Value).ownBlock ∧ some k_ ≠ (v185 : Value).ownBlock ∧ some k_ ≠ (.slice Ao54 t188.length co54 : Value).ownBlock ∧ some k_ ≠ (v192 : Value).ownBlock)) (Kd.R_apart' (Kd.R_apart' (Kd.R_apart' (Kd.R_apart' (HO197.out) (Kd.R_typed HO183.out) (by decide)) (Kd.N_typed HO186.out) (by decide)) (Kd.R_typed HO190.out) (by decide)) (Kd.N_typed HO193.out) (by decide)) (fun k_ hk => ⟨hk.1.1.1.2, ⟨hk.1.1.2, ⟨hk.1.2, hk.2⟩⟩⟩))).2.1 (Kd.R_F (Kd.R_mono (ok' := (fun k_ => some k_ ≠ (.slice Ao51 t181.length co51 : Value).ownBlock ∧ some k_ ≠ (v185 : Value).ownBlock ∧ some k_ ≠ (.slice Ao54 t188.length co54 : Value).ownBlock ∧ some k_ ≠ (v192 : Value).ownBlock)) (Kd.R_apart' (Kd.R_apart' (Kd.R_apart' (Kd.R_apart' (HO197.out) (Kd.R_typed HO183.out) (by decide)) (Kd.N_typed HO186.out) (by decide)) (Kd.R_typed HO190.out) (by decide)) (Kd.N_typed HO193.out) (by decide)) (fun k_ hk => ⟨hk.1.1.1.2, ⟨hk.1.1.2, ⟨hk.1.2, hk.2⟩⟩⟩))))) (Reps.one (show Kd.FK (Kd.slice 3 (Kd.int .i64)) _ _ y198 [.slice Ao66 y198.length co66] from (Kd.FK_slice_mk (Kd.R_reads' (Kd.R_mono (ok' := (fun k_ => some k_ ≠ (.slice Ao51 t181.length co51 : Value).ownBlock ∧ some k_ ≠ (v185 : Value).ownBlock ∧ some k_ ≠ (.slice Ao54 t188.length co54 : Value).ownBlock ∧ some k_ ≠ (v192 : Value).ownBlock)) (Kd.R_apart' (Kd.R_apart' (Kd.R_apart' (Kd.R_apart' (HO200.out) (Kd.R_typed HO183.out) (by decide)) (Kd.N_typed HO186.out) (by decide)) (Kd.R_typed HO190.out) (by decide)) (Kd.N_typed HO193.out) (by decide)) (fun k_ hk => ⟨hk.1.1.1.2, ⟨hk.1.1.2, ⟨hk.1.2, hk.2⟩⟩⟩))).2.1 (Kd.R_F (Kd.R_mono (ok' := (fun k_ => some k_ ≠ (.slice Ao51 t181.length co51 : Value).ownBlock ∧ some k_ ≠ (v185 : Value).ownBlock ∧ some k_ ≠ (.slice Ao54 t188.length co54 : Value).ownBlock ∧ some k_ ≠ (v192 : Value).ownBlock)) (Kd.R_apart' (Kd.R_apart' (Kd.R_apart' (Kd.R_apart' (HO200.out) (Kd.R_typed HO183.out) (by decide)) (Kd.N_typed HO186.out) (by decide)) (Kd.R_typed HO190.out) (by decide)) (Kd.N_typed HO193.out) (by decide)) (fun k_ hk => ⟨hk.1.1.1.2, ⟨hk.1.1.2, ⟨hk.1.2, hk.2⟩⟩⟩))))) (Reps.one (show Kd.FK (Kd.slice 3 (Kd.int .i64)) _ _ y201 [.slice Ao67 y201.length co67] from (Kd.FK_slice_mk (Kd.R_reads' (Kd.R_mono (ok' := (fun k_ => some k_ ≠ (.slice Ao51 t181.length co51 : Value).ownBlock ∧ some k_ ≠ (v185 : Value).ownBlock ∧ some k_ ≠ (.slice Ao54 t188.length co54 : Value).ownBlock ∧ some k_ ≠ (v192 : Value).ownBlock)) (Kd.R_apart' (Kd.R_apart' (Kd.R_apart' (Kd.R_apart' (HO203.out) (Kd.R_typed HO183.out) (by decide)) (Kd.N_typed HO186.out) (by decide)) (Kd.R_typed HO190.out) (by decide)) (Kd.N_typed HO193.out) (by decide)) (fun k_ hk => ⟨hk.1.1.1.2, ⟨hk.1.1.2, ⟨hk.1.2, hk.2⟩⟩⟩))).2.1 (Kd.R_F (Kd.R_mono (ok' := (fun k_ => some k_ ≠ (.slice Ao51 t181.length co51 : Value).ownBlock ∧ some k_ ≠ (v185 : Value).ownBlock ∧ some k_ ≠ (.slice Ao54 t188.length co54 : Value).ownBlock ∧ some k_ ≠ (v192 : Value).ownBlock)) (Kd.R_apart' (Kd.R_apart' (Kd.R_apart' (Kd.R_apart' (HO203.out) (Kd.R_typed HO183.out) (by decide)) (Kd.N_typed HO186.out) (by decide)) (Kd.R_typed HO190.out) (by decide)) (Kd.N_typed HO193.out) (by decide)) (fun k_ hk => ⟨hk.1.1.1.2, ⟨hk.1.1.2, ⟨hk.1.2, hk.2⟩⟩⟩))))) (Reps.none _ _))))); intro v205 w68 ho69 hb hg_ hnew_; clear hg_ hnew_; (first | rw [← Ny204.out] at ho69 | (simp only [Int.reduceToNat] at ho69; rw [← Ny204.out] at ho69)); have n0_ := Aside0.mk (Kd.R_below (by (with_reducible repeat (first | apply Kd.R_alloc | apply Kd.R_drewN | apply Kd.R_drew)); exact HO183.out) hb); have n1_ := Aside0.mk (Kd.N_elder' (by (with_reducible repeat (first | apply Kd.N_alloc | apply Kd.N_drewN | apply Kd.N_drew)); exact HO186.out) (Kd.N_base ho69) hb); have n2_ := Aside0.mk (Kd.R_below (by (with_reducible repeat (first | apply Kd.R_alloc | apply Kd.R_drewN | apply Kd.R_drew)); exact HO190.out) hb); have n3_ := Aside0.mk (Kd.N_elder' (by (with_reducible repeat (first | apply Kd.N_alloc | apply Kd.N_drewN | apply Kd.N_drew)); exact HO193.out) (Kd.N_base ho69) hb); have n4_ := Aside0.mk (Kd.N_lower ho69 (below_size (by repeat (first | (with_reducible first | exact HB.out | apply below_alloc | apply pw_below_drewN | apply below_drew1) | exact HB.out)))); have n5_ := Aside0.mk (below_step (by repeat (first | (with_reducible first | exact HB.out | apply below_alloc | apply pw_below_drewN | apply below_drew1) | exact HB.out)) hb); clear HO183; clear HO186; clear HO190; clear HO193; clear HB; clear HO197; clear HO200; clear HO203; have HO183 := n0_; have HO186 := n1_; have HO190 := n2_; have HO193 := n3_; have HO206 := n4_; have HB := n5_; clear n0_ n1_ n2_ n3_ n4_ n5_; clear hb ho69; obtain ⟨Ao70, co70, eo70⟩ := Kd.N_slice HO186.out; subst eo70; obtain ⟨Ao71, co71, eo71⟩ := Kd.N_slice HO206.out; subst eo71) | (go_at_call 10; (with_reducible refine (cippuskit_SameGrids.calls kj4 _ _ t184 _ _ y204 t207 _ ?side1 ?side2 ?side3 ?side4 A58.out).mono ?_); (case side1 => repeat (first | exact (Kd.N_reads' HO186.out).2.2 | (with_reducible refine Kd.C_alloc ?_ _) | (with_reducible refine Kd.C_drewN ?_ _) | (with_reducible refine Kd.C_drew ?_))); (case side2 => exact (Kd.N_reads' HO186.out).2.1); (case side3 => repeat (first | exact (Kd.N_reads' HO206.out).2.2 | (with_reducible refine Kd.C_alloc ?_ _) | (with_reducible refine Kd.C_drewN ?_ _) | (with_reducible refine Kd.C_drew ?_))); (case side4 => exact (Kd.N_reads' HO206.out).2.1); rintro e w' ⟨rfl, ⟨nd, rfl⟩⟩))
                go_meet
                case rel => exact ⟨_, (!t207), (by first | rfl | (simp; done) | (simp [*]; done)), H', ⟨by have := HJ4.out; first | omega | exact Nat.le_refl _⟩, ⟨by repeat (first | (with_reducible first | exact HB.out | apply below_alloc | apply pw_below_drewN | apply below_drew1) | exact HB.out)⟩⟩
              · rw [if_neg c57] at H
                have c57b0 : (t194 == 9) = false := beq_eq_false_iff_ne.mpr c57
                have c57b1 : (t194 != 9) = true := bne_iff_ne.mpr c57
                exact absurd H (by first | exact cippuslaw07_StemmaKnown.j0_shut _ | exact cippuslaw07_StemmaKnown.j1_shut _ | exact cippuslaw07_StemmaKnown.j2_shut _)
            · rw [if_neg c56] at H
              have c56b0 : (t187 == 0) = false := beq_eq_false_iff_ne.mpr c56
              have c56b1 : (t187 != 0) = true := bne_iff_ne.mpr c56
              (first | rw [c56b0] | (simp only [i64_w, i32_w]; rw [c56b0]) | skip)
              exact absurd H (by first | exact cippuslaw07_StemmaKnown.j0_shut _ | exact cippuslaw07_StemmaKnown.j1_shut _ | exact cippuslaw07_StemmaKnown.j2_shut _)
          case rest =>
            clear HC49
            try clear c1
            try clear p2
            try clear c3
            try clear c3b0
            try clear c3b1
            try clear c4
            try clear p4
            try clear q4
            try clear hx4
            try clear qi4
            try clear hf4
            try clear c5
            try clear c6
            try clear c7
            try clear c8
            try clear hx8
            try clear hf8
            try clear c9
            try clear c11
            try clear c14
            try clear c14b0
            try clear c14b1
            try clear c16
            try clear c16b0
            try clear c16b1
            try clear c18
            try clear c18b0
            try clear c18b1
            try clear c44
            try clear c56
            try clear c56b0
            try clear c56b1
            try clear c57
            try clear c57b0
            try clear c57b1
            try clear hx4_0
            try clear hx4_1
            try clear hx4_2
            try clear hx8_0
            try clear p2
            try clear p4
            try clear q4
            obtain ⟨kq, x71_48, rfl, HA, HJ48, HB⟩ := hcut
            cases kq with
            | zero => exact absurd HA.out (by simp [cippuslaw07_StemmaKnown.j1])
            | succ kj48 =>
              have H := HA.out
              clear HA
              simp only [cippuslaw07_StemmaKnown.j1] at H
              by_cases c72 : x71_48 = true
              · subst c72
                have H1 : (some false) = some true := by rw [if_pos rfl] at H; exact H
                clear H
                have H := H1
                clear H1
                exact absurd (Option.some.inj H) (by decide)
              · replace c72 := Bool.eq_false_iff.mpr c72
                subst c72
                have H1 : ((cippuslaw07_copies.f 1 0 true).bind fun t208 => ((stemma_Depends.f kj48 t208 2 1).bind fun bt211 => ((cippuslaw07_copies.f 1 0 true).bind fun t213 => ((stemma_Depends.f kj48 t213 2 0).bind fun bt216 => ((cippuslaw07_copies.f 1 1 true).bind fun t218 => ((stemma_Depends.f kj48 t218 2 0).bind fun bt221 => ((cippuslaw07_copies.f 1 1 true).bind fun t223 => ((stemma_Depends.f kj48 t223 0 2).bind fun bt226 => (if bt211.2 = 0 then (if bt216.2 = 0 then (if bt221.2 = 0 then (if bt226.2 = 0 then (if bt211.1 = 1 then (if bt216.1 = 2 then (if bt221.1 = 3 then (cippuslaw07_StemmaKnown.j2 kj48 (bt226.1 != 2)) else (cippuslaw07_StemmaKnown.j2 kj48 true)) else (cippuslaw07_StemmaKnown.j2 kj48 true)) else (cippuslaw07_StemmaKnown.j2 kj48 true)) else (cippuslaw07_StemmaKnown.j2 kj48 true)) else (cippuslaw07_StemmaKnown.j2 kj48 true)) else (cippuslaw07_StemmaKnown.j2 kj48 true)) else (cippuslaw07_StemmaKnown.j2 kj48 true)))))))))) = some true := by rw [if_neg (show ¬ (false = true) by decide)] at H; exact H
                clear H
                have H := H1
                clear H1
                replace H := Option.bind_eq_some_iff.mp H
                obtain ⟨t208, A730, H⟩ := H
                replace H : ((stemma_Depends.f kj48 t208 2 1).bind fun bt211 => ((cippuslaw07_copies.f 1 0 true).bind fun t213 => ((stemma_Depends.f kj48 t213 2 0).bind fun bt216 => ((cippuslaw07_copies.f 1 1 true).bind fun t218 => ((stemma_Depends.f kj48 t218 2 0).bind fun bt221 => ((cippuslaw07_copies.f 1 1 true).bind fun t223 => ((stemma_Depends.f kj48 t223 0 2).bind fun bt226 => (if bt211.2 = 0 then (if bt216.2 = 0 then (if bt221.2 = 0 then (if bt226.2 = 0 then (if bt211.1 = 1 then (if bt216.1 = 2 then (if bt221.1 = 3 then (cippuslaw07_StemmaKnown.j2 kj48 (bt226.1 != 2)) else (cippuslaw07_StemmaKnown.j2 kj48 true)) else (cippuslaw07_StemmaKnown.j2 kj48 true)) else (cippuslaw07_StemmaKnown.j2 kj48 true)) else (cippuslaw07_StemmaKnown.j2 kj48 true)) else (cippuslaw07_StemmaKnown.j2 kj48 true)) else (cippuslaw07_StemmaKnown.j2 kj48 true)) else (cippuslaw07_StemmaKnown.j2 kj48 true))))))))) = some true := H
                have A73 := Aside0.mk A730
                clear A730
                replace H := Option.bind_eq_some_iff.mp H
                obtain ⟨⟨t211, t212⟩, A740, H⟩ := H
                replace H : ((cippuslaw07_copies.f 1 0 true).bind fun t213 => ((stemma_Depends.f kj48 t213 2 0).bind fun bt216 => ((cippuslaw07_copies.f 1 1 true).bind fun t218 => ((stemma_Depends.f kj48 t218 2 0).bind fun bt221 => ((cippuslaw07_copies.f 1 1 true).bind fun t223 => ((stemma_Depends.f kj48 t223 0 2).bind fun bt226 => (if t212 = 0 then (if bt216.2 = 0 then (if bt221.2 = 0 then (if bt226.2 = 0 then (if t211 = 1 then (if bt216.1 = 2 then (if bt221.1 = 3 then (cippuslaw07_StemmaKnown.j2 kj48 (bt226.1 != 2)) else (cippuslaw07_StemmaKnown.j2 kj48 true)) else (cippuslaw07_StemmaKnown.j2 kj48 true)) else (cippuslaw07_StemmaKnown.j2 kj48 true)) else (cippuslaw07_StemmaKnown.j2 kj48 true)) else (cippuslaw07_StemmaKnown.j2 kj48 true)) else (cippuslaw07_StemmaKnown.j2 kj48 true)) else (cippuslaw07_StemmaKnown.j2 kj48 true)))))))) = some true := H
                have A74 := Aside0.mk A740
                clear A740
                replace H := Option.bind_eq_some_iff.mp H
                obtain ⟨t213, A750, H⟩ := H
                replace H : ((stemma_Depends.f kj48 t213 2 0).bind fun bt216 => ((cippuslaw07_copies.f 1 1 true).bind fun t218 => ((stemma_Depends.f kj48 t218 2 0).bind fun bt221 => ((cippuslaw07_copies.f 1 1 true).bind fun t223 => ((stemma_Depends.f kj48 t223 0 2).bind fun bt226 => (if t212 = 0 then (if bt216.2 = 0 then (if bt221.2 = 0 then (if bt226.2 = 0 then (if t211 = 1 then (if bt216.1 = 2 then (if bt221.1 = 3 then (cippuslaw07_StemmaKnown.j2 kj48 (bt226.1 != 2)) else (cippuslaw07_StemmaKnown.j2 kj48 true)) else (cippuslaw07_StemmaKnown.j2 kj48 true)) else (cippuslaw07_StemmaKnown.j2 kj48 true)) else (cippuslaw07_StemmaKnown.j2 kj48 true)) else (cippuslaw07_StemmaKnown.j2 kj48 true)) else (cippuslaw07_StemmaKnown.j2 kj48 true)) else (cippuslaw07_StemmaKnown.j2 kj48 true))))))) = some true := H
                have A75 := Aside0.mk A750
                clear A750
                replace H := Option.bind_eq_some_iff.mp H
                obtain ⟨⟨t216, t217⟩, A760, H⟩ := H
                replace H : ((cippuslaw07_copies.f 1 1 true).bind fun t218 => ((stemma_Depends.f kj48 t218 2 0).bind fun bt221 => ((cippuslaw07_copies.f 1 1 true).bind fun t223 => ((stemma_Depends.f kj48 t223 0 2).bind fun bt226 => (if t212 = 0 then (if t217 = 0 then (if bt221.2 = 0 then (if bt226.2 = 0 then (if t211 = 1 then (if t216 = 2 then (if bt221.1 = 3 then (cippuslaw07_StemmaKnown.j2 kj48 (bt226.1 != 2)) else (cippuslaw07_StemmaKnown.j2 kj48 true)) else (cippuslaw07_StemmaKnown.j2 kj48 true)) else (cippuslaw07_StemmaKnown.j2 kj48 true)) else (cippuslaw07_StemmaKnown.j2 kj48 true)) else (cippuslaw07_StemmaKnown.j2 kj48 true)) else (cippuslaw07_StemmaKnown.j2 kj48 true)) else (cippuslaw07_StemmaKnown.j2 kj48 true)))))) = some true := H
                have A76 := Aside0.mk A760
                clear A760
                replace H := Option.bind_eq_some_iff.mp H
                obtain ⟨t218, A770, H⟩ := H
                replace H : ((stemma_Depends.f kj48 t218 2 0).bind fun bt221 => ((cippuslaw07_copies.f 1 1 true).bind fun t223 => ((stemma_Depends.f kj48 t223 0 2).bind fun bt226 => (if t212 = 0 then (if t217 = 0 then (if bt221.2 = 0 then (if bt226.2 = 0 then (if t211 = 1 then (if t216 = 2 then (if bt221.1 = 3 then (cippuslaw07_StemmaKnown.j2 kj48 (bt226.1 != 2)) else (cippuslaw07_StemmaKnown.j2 kj48 true)) else (cippuslaw07_StemmaKnown.j2 kj48 true)) else (cippuslaw07_StemmaKnown.j2 kj48 true)) else (cippuslaw07_StemmaKnown.j2 kj48 true)) else (cippuslaw07_StemmaKnown.j2 kj48 true)) else (cippuslaw07_StemmaKnown.j2 kj48 true)) else (cippuslaw07_StemmaKnown.j2 kj48 true))))) = some true := H
                have A77 := Aside0.mk A770
                clear A770
                replace H := Option.bind_eq_some_iff.mp H
                obtain ⟨⟨t221, t222⟩, A780, H⟩ := H
                replace H : ((cippuslaw07_copies.f 1 1 true).bind fun t223 => ((stemma_Depends.f kj48 t223 0 2).bind fun bt226 => (if t212 = 0 then (if t217 = 0 then (if t222 = 0 then (if bt226.2 = 0 then (if t211 = 1 then (if t216 = 2 then (if t221 = 3 then (cippuslaw07_StemmaKnown.j2 kj48 (bt226.1 != 2)) else (cippuslaw07_StemmaKnown.j2 kj48 true)) else (cippuslaw07_StemmaKnown.j2 kj48 true)) else (cippuslaw07_StemmaKnown.j2 kj48 true)) else (cippuslaw07_StemmaKnown.j2 kj48 true)) else (cippuslaw07_StemmaKnown.j2 kj48 true)) else (cippuslaw07_StemmaKnown.j2 kj48 true)) else (cippuslaw07_StemmaKnown.j2 kj48 true)))) = some true := H
                have A78 := Aside0.mk A780
                clear A780
                replace H := Option.bind_eq_some_iff.mp H
                obtain ⟨t223, A790, H⟩ := H
                replace H : ((stemma_Depends.f kj48 t223 0 2).bind fun bt226 => (if t212 = 0 then (if t217 = 0 then (if t222 = 0 then (if bt226.2 = 0 then (if t211 = 1 then (if t216 = 2 then (if t221 = 3 then (cippuslaw07_StemmaKnown.j2 kj48 (bt226.1 != 2)) else (cippuslaw07_StemmaKnown.j2 kj48 true)) else (cippuslaw07_StemmaKnown.j2 kj48 true)) else (cippuslaw07_StemmaKnown.j2 kj48 true)) else (cippuslaw07_StemmaKnown.j2 kj48 true)) else (cippuslaw07_StemmaKnown.j2 kj48 true)) else (cippuslaw07_StemmaKnown.j2 kj48 true)) else (cippuslaw07_StemmaKnown.j2 kj48 true))) = some true := H
                have A79 := Aside0.mk A790
                clear A790
                replace H := Option.bind_eq_some_iff.mp H
                obtain ⟨⟨t226, t227⟩, A800, H⟩ := H
                replace H : (if t212 = 0 then (if t217 = 0 then (if t222 = 0 then (if t227 = 0 then (if t211 = 1 then (if t216 = 2 then (if t221 = 3 then (cippuslaw07_StemmaKnown.j2 kj48 (t226 != 2)) else (cippuslaw07_StemmaKnown.j2 kj48 true)) else (cippuslaw07_StemmaKnown.j2 kj48 true)) else (cippuslaw07_StemmaKnown.j2 kj48 true)) else (cippuslaw07_StemmaKnown.j2 kj48 true)) else (cippuslaw07_StemmaKnown.j2 kj48 true)) else (cippuslaw07_StemmaKnown.j2 kj48 true)) else (cippuslaw07_StemmaKnown.j2 kj48 true)) = some true := H
                have A80 := Aside0.mk A800
                clear A800
                have HC81 := Aside0.mk H
                clear H
                go_upto_region 13 with (first | ((with_reducible refine gate_callee (f := 6) rfl ?_); refine goesL_ (some 73) rfl rfl Tryd.func6 (by kernel_rfl) rfl #[.int .i64 1, .int .i64 0, .bool true] rfl (by (try simp only [List.map_toArray, List.map_cons, List.map_nil]); first | done | rfl | (simp only [List.length_drop, List.length_take]; rfl)) ?_; (with_reducible refine (cippuslaw07_copies.calls 1 0 true t208 _ A73.out).mono ?_); rintro e w82 ⟨v209, rfl, ho0, hb⟩; refine ⟨_, rfl, ?_⟩; have n0_ := Aside0.mk (Kd.R_lower ho0 (below_size (by repeat (first | (with_reducible first | exact HB.out | apply below_alloc | apply pw_below_drewN | apply below_drew1) | exact HB.out)))); have n1_ := Aside0.mk (below_step (by repeat (first | (with_reducible first | exact HB.out | apply below_alloc | apply pw_below_drewN | apply below_drew1) | exact HB.out)) hb); clear HB; have HO210 := n0_; have HB := n1_; clear n0_ n1_; (try clear hb); (try clear hb2); (try clear hk); (try clear hi); (try clear ho0); obtain ⟨Ao83, co83, eo83⟩ := Kd.R_slice HO210.out; subst eo83) | ((with_reducible refine gate_callee (f := 11) rfl ?_); refine goesL_ (some 74) rfl rfl Tryd.func11 (by kernel_rfl) rfl #[.slice Ao83 t208.length co83, .int .i64 2, .int .i64 1] rfl (by (try simp only [List.map_toArray, List.map_cons, List.map_nil]); first | done | rfl | (simp only [List.length_drop, List.length_take]; rfl)) ?_; (with_reducible refine (stemma_Depends.calls kj48 _ _ t208 2 1 t211 t212 _ ?side1 ?side2 A74.out).mono ?_); (case side1 => repeat (first | exact (Kd.R_reads' HO210.out).2.2 | (with_reducible refine Kd.C_alloc ?_ _) | (with_reducible refine Kd.C_drewN ?_ _) | (with_reducible refine Kd.C_drew ?_))); (case side2 => exact (Kd.R_reads' HO210.out).2.1); rintro e w84 ⟨rfl, hb⟩; refine ⟨_, rfl, ?_⟩; have n0_ := Aside0.mk (Kd.R_below (by (with_reducible repeat (first | apply Kd.R_alloc | apply Kd.R_drewN | apply Kd.R_drew)); exact HO210.out) hb); have n1_ := Aside0.mk (below_step (by repeat (first | (with_reducible first | exact HB.out | apply below_alloc | apply pw_below_drewN | apply below_drew1) | exact HB.out)) hb); clear HO210; clear HB; have HO210 := n0_; have HB := n1_; clear n0_ n1_; (try clear hb); (try clear hb2); (try clear hk); (try clear hi)) | ((with_reducible refine gate_callee (f := 6) rfl ?_); refine goesL_ (some 78) rfl rfl Tryd.func6 (by kernel_rfl) rfl #[.int .i64 1, .int .i64 0, .bool true] rfl (by (try simp only [List.map_toArray, List.map_cons, List.map_nil]); first | done | rfl | (simp only [List.length_drop, List.length_take]; rfl)) ?_; (with_reducible refine (cippuslaw07_copies.calls 1 0 true t213 _ A75.out).mono ?_); rintro e w85 ⟨v214, rfl, ho0, hb⟩; refine ⟨_, rfl, ?_⟩; have n0_ := Aside0.mk (Kd.R_elder' (by (with_reducible repeat (first | apply Kd.R_alloc | apply Kd.R_drewN | apply Kd.R_drew)); exact HO210.out) (Kd.R_base ho0) hb); have n1_ := Aside0.mk (Kd.R_lower (Kd.R_new' ho0 (Kd.R_lt (by (with_reducible repeat (first | apply Kd.R_alloc | apply Kd.R_drewN | apply Kd.R_drew)); exact HO210.out))) (below_size (by repeat (first | (with_reducible first | exact HB.out | apply below_alloc | apply pw_below_drewN | apply below_drew1) | exact HB.out)))); have n2_ := Aside0.mk (below_step (by repeat (first | (with_reducible first | exact HB.out | apply below_alloc | apply pw_below_drewN | apply below_drew1) | exact HB.out)) hb); clear HO210; clear HB; have HO210 := n0_; have HO215 := n1_; have HB := n2_; clear n0_ n1_ n2_; (try clear hb); (try clear hb2); (try clear hk); (try clear hi); (try clear ho0); obtain ⟨Ao86, co86, eo86⟩ := Kd.R_slice HO215.out; subst eo86) | ((with_reducible refine gate_callee (f := 11) rfl ?_); refine goesL_ (some 79) rfl rfl Tryd.func11 (by kernel_rfl) rfl #[.slice Ao86 t213.length co86, .int .i64 2, .int .i64 0] rfl (by (try simp only [List.map_toArray, List.map_cons, List.map_nil]); first | done | rfl | (simp only [List.length_drop, List.length_take]; rfl)) ?_; (with_reducible refine (stemma_Depends.calls kj48 _ _ t213 2 0 t216 t217 _ ?side1 ?side2 A76.out).mono ?_); (case side1 => repeat (first | exact (Kd.R_reads' HO215.out).2.2 | (with_reducible refine Kd.C_alloc ?_ _) | (with_reducible refine Kd.C_drewN ?_ _) | (with_reducible refine Kd.C_drew ?_))); (case side2 => exact (Kd.R_reads' HO215.out).2.1); rintro e w87 ⟨rfl, hb⟩; refine ⟨_, rfl, ?_⟩; have n0_ := Aside0.mk (Kd.R_below (by (with_reducible repeat (first | apply Kd.R_alloc | apply Kd.R_drewN | apply Kd.R_drew)); exact HO210.out) hb); have n1_ := Aside0.mk (Kd.R_below (by (with_reducible repeat (first | apply Kd.R_alloc | apply Kd.R_drewN | apply Kd.R_drew)); exact HO215.out) hb); have n2_ := Aside0.mk (below_step (by repeat (first | (with_reducible first | exact HB.out | apply below_alloc | apply pw_below_drewN | apply below_drew1) | exact HB.out)) hb); clear HO210; clear HO215; clear HB; have HO210 := n0_; have HO215 := n1_; have HB := n2_; clear n0_ n1_ n2_; (try clear hb); (try clear hb2); (try clear hk); (try clear hi)) | ((with_reducible refine gate_callee (f := 6) rfl ?_); refine goesL_ (some 83) rfl rfl Tryd.func6 (by kernel_rfl) rfl #[.int .i64 1, .int .i64 1, .bool true] rfl (by (try simp only [List.map_toArray, List.map_cons, List.map_nil]); first | done | rfl | (simp only [List.length_drop, List.length_take]; rfl)) ?_; (with_reducible refine (cippuslaw07_copies.calls 1 1 true t218 _ A77.out).mono ?_); rintro e w88 ⟨v219, rfl, ho0, hb⟩; refine ⟨_, rfl, ?_⟩; have n0_ := Aside0.mk (Kd.R_elder' (by (with_reducible repeat (first | apply Kd.R_alloc | apply Kd.R_drewN | apply Kd.R_drew)); exact HO210.out) (Kd.R_base ho0) hb); have n1_ := Aside0.mk (Kd.R_elder' (by (with_reducible repeat (first | apply Kd.R_alloc | apply Kd.R_drewN | apply Kd.R_drew)); exact HO215.out) (Kd.R_base ho0) hb); have n2_ := Aside0.mk (Kd.R_lower (Kd.R_new' (Kd.R_new' ho0 (Kd.R_lt (by (with_reducible repeat (first | apply Kd.R_alloc | apply Kd.R_drewN | apply Kd.R_drew)); exact HO210.out))) (Kd.R_lt (by (with_reducible repeat (first | apply Kd.R_alloc | apply Kd.R_drewN | apply Kd.R_drew)); exact HO215.out))) (below_size (by repeat (first | (with_reducible first | exact HB.out | apply below_alloc | apply pw_below_drewN | apply below_drew1) | exact HB.out)))); have n3_ := Aside0.mk (below_step (by repeat (first | (with_reducible first | exact HB.out | apply below_alloc | apply pw_below_drewN | apply below_drew1) | exact HB.out)) hb); clear HO210; clear HO215; clear HB; have HO210 := n0_; have HO215 := n1_; have HO220 := n2_; have HB := n3_; clear n0_ n1_ n2_ n3_; (try clear hb); (try clear hb2); (try clear hk); (try clear hi); (try clear ho0); obtain ⟨Ao89, co89, eo89⟩ := Kd.R_slice HO220.out; subst eo89) | ((with_reducible refine gate_callee (f := 11) rfl ?_); refine goesL_ (some 84) rfl rfl Tryd.func11 (by kernel_rfl) rfl #[.slice Ao89 t218.length co89, .int .i64 2, .int .i64 0] rfl (by (try simp only [List.map_toArray, List.map_cons, List.map_nil]); first | done | rfl | (simp only [List.length_drop, List.length_take]; rfl)) ?_; (with_reducible refine (stemma_Depends.calls kj48 _ _ t218 2 0 t221 t222 _ ?side1 ?side2 A78.out).mono ?_); (case side1 => repeat (first | exact (Kd.R_reads' HO220.out).2.2 | (with_reducible refine Kd.C_alloc ?_ _) | (with_reducible refine Kd.C_drewN ?_ _) | (with_reducible refine Kd.C_drew ?_))); (case side2 => exact (Kd.R_reads' HO220.out).2.1); rintro e w90 ⟨rfl, hb⟩; refine ⟨_, rfl, ?_⟩; have n0_ := Aside0.mk (Kd.R_below (by (with_reducible repeat (first | apply Kd.R_alloc | apply Kd.R_drewN | apply Kd.R_drew)); exact HO210.out) hb); have n1_ := Aside0.mk (Kd.R_below (by (with_reducible repeat (first | apply Kd.R_alloc | apply Kd.R_drewN | apply Kd.R_drew)); exact HO215.out) hb); have n2_ := Aside0.mk (Kd.R_below (by (with_reducible repeat (first | apply Kd.R_alloc | apply Kd.R_drewN | apply Kd.R_drew)); exact HO220.out) hb); have n3_ := Aside0.mk (below_step (by repeat (first | (with_reducible first | exact HB.out | apply below_alloc | apply pw_below_drewN | apply below_drew1) | exact HB.out)) hb); clear HO210; clear HO215; clear HO220; clear HB; have HO210 := n0_; have HO215 := n1_; have HO220 := n2_; have HB := n3_; clear n0_ n1_ n2_ n3_; (try clear hb); (try clear hb2); (try clear hk); (try clear hi)) | ((with_reducible refine gate_callee (f := 6) rfl ?_); refine goesL_ (some 88) rfl rfl Tryd.func6 (by kernel_rfl) rfl #[.int .i64 1, .int .i64 1, .bool true] rfl (by (try simp only [List.map_toArray, List.map_cons, List.map_nil]); first | done | rfl | (simp only [List.length_drop, List.length_take]; rfl)) ?_; (with_reducible refine (cippuslaw07_copies.calls 1 1 true t223 _ A79.out).mono ?_); rintro e w91 ⟨v224, rfl, ho0, hb⟩; refine ⟨_, rfl, ?_⟩; have n0_ := Aside0.mk (Kd.R_elder' (by (with_reducible repeat (first | apply Kd.R_alloc | apply Kd.R_drewN | apply Kd.R_drew)); exact HO210.out) (Kd.R_base ho0) hb); have n1_ := Aside0.mk (Kd.R_elder' (by (with_reducible repeat (first | apply Kd.R_alloc | apply Kd.R_drewN | apply Kd.R_drew)); exact HO215.out) (Kd.R_base ho0) hb); have n2_ := Aside0.mk (Kd.R_elder' (by (with_reducible repeat (first | apply Kd.R_alloc | apply Kd.R_drewN | apply Kd.R_drew)); exact HO220.out) (Kd.R_base ho0) hb); have n3_ := Aside0.mk (Kd.R_lower (Kd.R_new' (Kd.R_new' (Kd.R_new' ho0 (Kd.R_lt (by (with_reducible repeat (first | apply Kd.R_alloc | apply Kd.R_drewN | apply Kd.R_drew)); exact HO210.out))) (Kd.R_lt (by (with_reducible repeat (first | apply Kd.R_alloc | apply Kd.R_drewN | apply Kd.R_drew)); exact HO215.out))) (Kd.R_lt (by (with_reducible repeat (first | apply Kd.R_alloc | apply Kd.R_drewN | apply Kd.R_drew)); exact HO220.out))) (below_size (by repeat (first | (with_reducible first | exact HB.out | apply below_alloc | apply pw_below_drewN | apply below_drew1) | exact HB.out)))); have n4_ := Aside0.mk (below_step (by repeat (first | (with_reducible first | exact HB.out | apply below_alloc | apply pw_below_drewN | apply below_drew1) | exact HB.out)) hb); clear HO210; clear HO215; clear HO220; clear HB; have HO210 := n0_; have HO215 := n1_; have HO220 := n2_; have HO225 := n3_; have HB := n4_; clear n0_ n1_ n2_ n3_ n4_; (try clear hb); (try clear hb2); (try clear hk); (try clear hi); (try clear ho0); obtain ⟨Ao92, co92, eo92⟩ := Kd.R_slice HO225.out; subst eo92) | ((with_reducible refine gate_callee (f := 11) rfl ?_); refine goesL_ (some 89) rfl rfl Tryd.func11 (by kernel_rfl) rfl #[.slice Ao92 t223.length co92, .int .i64 0, .int .i64 2] rfl (by (try simp only [List.map_toArray, List.map_cons, List.map_nil]); first | done | rfl | (simp only [List.length_drop, List.length_take]; rfl)) ?_; (with_reducible refine (stemma_Depends.calls kj48 _ _ t223 0 2 t226 t227 _ ?side1 ?side2 A80.out).mono ?_); (case side1 => repeat (first | exact (Kd.R_reads' HO225.out).2.2 | (with_reducible refine Kd.C_alloc ?_ _) | (with_reducible refine Kd.C_drewN ?_ _) | (with_reducible refine Kd.C_drew ?_))); (case side2 => exact (Kd.R_reads' HO225.out).2.1); rintro e w93 ⟨rfl, hb⟩; refine ⟨_, rfl, ?_⟩; have n0_ := Aside0.mk (Kd.R_below (by (with_reducible repeat (first | apply Kd.R_alloc | apply Kd.R_drewN | apply Kd.R_drew)); exact HO210.out) hb); have n1_ := Aside0.mk (Kd.R_below (by (with_reducible repeat (first | apply Kd.R_alloc | apply Kd.R_drewN | apply Kd.R_drew)); exact HO215.out) hb); have n2_ := Aside0.mk (Kd.R_below (by (with_reducible repeat (first | apply Kd.R_alloc | apply Kd.R_drewN | apply Kd.R_drew)); exact HO220.out) hb); have n3_ := Aside0.mk (Kd.R_below (by (with_reducible repeat (first | apply Kd.R_alloc | apply Kd.R_drewN | apply Kd.R_drew)); exact HO225.out) hb); have n4_ := Aside0.mk (below_step (by repeat (first | (with_reducible first | exact HB.out | apply below_alloc | apply pw_below_drewN | apply below_drew1) | exact HB.out)) hb); clear HO210; clear HO215; clear HO220; clear HO225; clear HB; have HO210 := n0_; have HO215 := n1_; have HO220 := n2_; have HO225 := n3_; have HB := n4_; clear n0_ n1_ n2_ n3_ n4_; (try clear hb); (try clear hb2); (try clear hk); (try clear hi)))
                (try simp only [Act.put, List.setIfInBounds_toArray, List.set_cons_zero, List.set_cons_succ])
                go_cut [121] (fun v121 wc => ∃ (kq : Nat) (x121_80 : Bool), v121 = .bool x121_80 ∧ Aside0 (cippuslaw07_StemmaKnown.j2 kq x121_80 = some true) ∧ Aside0 (kq ≤ kj48) ∧ Aside0 (Below w.heap.size w wc))
                case first =>
                  have H := HC81.out
                  clear HC81
                  by_cases c94 : t212 = 0
                  · rw [if_pos c94] at H
                    have c94b0 : (t212 == 0) = true := beq_iff_eq.mpr c94
                    have c94b1 : (t212 != 0) = false := bne_eq_false_iff_eq.mpr c94
                    clear c94
                    (first | rw [c94b0] | (simp only [i64_w, i32_w]; rw [c94b0]) | skip)
                    by_cases c95 : t217 = 0
                    · rw [if_pos c95] at H
                      have c95b0 : (t217 == 0) = true := beq_iff_eq.mpr c95
                      have c95b1 : (t217 != 0) = false := bne_eq_false_iff_eq.mpr c95
                      clear c95
                      by_cases c96 : t222 = 0
                      · rw [if_pos c96] at H
                        have c96b0 : (t222 == 0) = true := beq_iff_eq.mpr c96
                        have c96b1 : (t222 != 0) = false := bne_eq_false_iff_eq.mpr c96
                        clear c96
                        by_cases c97 : t227 = 0
                        · rw [if_pos c97] at H
                          have c97b0 : (t227 == 0) = true := beq_iff_eq.mpr c97
                          have c97b1 : (t227 != 0) = false := bne_eq_false_iff_eq.mpr c97
                          clear c97
                          by_cases c98 : t211 = 1
                          · rw [if_pos c98] at H
                            have c98b0 : (t211 == 1) = true := beq_iff_eq.mpr c98
                            have c98b1 : (t211 != 1) = false := bne_eq_false_iff_eq.mpr c98
                            clear c98
                            by_cases c99 : t216 = 2
                            · rw [if_pos c99] at H
                              have c99b0 : (t216 == 2) = true := beq_iff_eq.mpr c99
                              have c99b1 : (t216 != 2) = false := bne_eq_false_iff_eq.mpr c99
                              clear c99
                              by_cases c100 : t221 = 3
                              · rw [if_pos c100] at H
                                have c100b0 : (t221 == 3) = true := beq_iff_eq.mpr c100
                                have c100b1 : (t221 != 3) = false := bne_eq_false_iff_eq.mpr c100
                                clear c100
                                have H' := Aside0.mk H
                                clear H
                                go_wp2
                                go_meet
                                case rel => exact ⟨_, ((t226 != 2)), (by first | rfl | (simp; done) | (simp [*]; done)), H', ⟨by have := HJ4.out; have := HJ48.out; first | omega | exact Nat.le_refl _⟩, ⟨by repeat (first | (with_reducible first | exact HB.out | apply below_alloc | apply pw_below_drewN | apply below_drew1) | exact HB.out)⟩⟩
                              · rw [if_neg c100] at H
                                have c100b0 : (t221 == 3) = false := beq_eq_false_iff_ne.mpr c100
                                have c100b1 : (t221 != 3) = true := bne_iff_ne.mpr c100
                                exact absurd H (by first | exact cippuslaw07_StemmaKnown.j0_shut _ | exact cippuslaw07_StemmaKnown.j1_shut _ | exact cippuslaw07_StemmaKnown.j2_shut _)
                            · rw [if_neg c99] at H
                              have c99b0 : (t216 == 2) = false := beq_eq_false_iff_ne.mpr c99
                              have c99b1 : (t216 != 2) = true := bne_iff_ne.mpr c99
                              exact absurd H (by first | exact cippuslaw07_StemmaKnown.j0_shut _ | exact cippuslaw07_StemmaKnown.j1_shut _ | exact cippuslaw07_StemmaKnown.j2_shut _)
                          · rw [if_neg c98] at H
                            have c98b0 : (t211 == 1) = false := beq_eq_false_iff_ne.mpr c98
                            have c98b1 : (t211 != 1) = true := bne_iff_ne.mpr c98
                            exact absurd H (by first | exact cippuslaw07_StemmaKnown.j0_shut _ | exact cippuslaw07_StemmaKnown.j1_shut _ | exact cippuslaw07_StemmaKnown.j2_shut _)
                        · rw [if_neg c97] at H
                          have c97b0 : (t227 == 0) = false := beq_eq_false_iff_ne.mpr c97
                          have c97b1 : (t227 != 0) = true := bne_iff_ne.mpr c97
                          exact absurd H (by first | exact cippuslaw07_StemmaKnown.j0_shut _ | exact cippuslaw07_StemmaKnown.j1_shut _ | exact cippuslaw07_StemmaKnown.j2_shut _)
                      · rw [if_neg c96] at H
                        have c96b0 : (t222 == 0) = false := beq_eq_false_iff_ne.mpr c96
                        have c96b1 : (t222 != 0) = true := bne_iff_ne.mpr c96
                        exact absurd H (by first | exact cippuslaw07_StemmaKnown.j0_shut _ | exact cippuslaw07_StemmaKnown.j1_shut _ | exact cippuslaw07_StemmaKnown.j2_shut _)
                    · rw [if_neg c95] at H
                      have c95b0 : (t217 == 0) = false := beq_eq_false_iff_ne.mpr c95
                      have c95b1 : (t217 != 0) = true := bne_iff_ne.mpr c95
                      exact absurd H (by first | exact cippuslaw07_StemmaKnown.j0_shut _ | exact cippuslaw07_StemmaKnown.j1_shut _ | exact cippuslaw07_StemmaKnown.j2_shut _)
                  · rw [if_neg c94] at H
                    have c94b0 : (t212 == 0) = false := beq_eq_false_iff_ne.mpr c94
                    have c94b1 : (t212 != 0) = true := bne_iff_ne.mpr c94
                    (first | rw [c94b0] | (simp only [i64_w, i32_w]; rw [c94b0]) | skip)
                    exact absurd H (by first | exact cippuslaw07_StemmaKnown.j0_shut _ | exact cippuslaw07_StemmaKnown.j1_shut _ | exact cippuslaw07_StemmaKnown.j2_shut _)
                case rest =>
                  clear HC81
                  try clear c1
                  try clear p2
                  try clear c3
                  try clear c3b0
                  try clear c3b1
                  try clear c4
                  try clear p4
                  try clear q4
                  try clear hx4
                  try clear qi4
                  try clear hf4
                  try clear c5
                  try clear c6
                  try clear c7
                  try clear c8
                  try clear hx8
                  try clear hf8
                  try clear c9
                  try clear c10
                  try clear c11
                  try clear c14
                  try clear c14b0
                  try clear c14b1
                  try clear c16
                  try clear c16b0
                  try clear c16b1
                  try clear c18
                  try clear c18b0
                  try clear c18b1
                  try clear c44
                  try clear c56
                  try clear c56b0
                  try clear c56b1
                  try clear c57
                  try clear c57b0
                  try clear c57b1
                  try clear c72
                  try clear c94
                  try clear c94b0
                  try clear c94b1
                  try clear c95
                  try clear c95b0
                  try clear c95b1
                  try clear c96
                  try clear c96b0
                  try clear c96b1
                  try clear c97
                  try clear c97b0
                  try clear c97b1
                  try clear c98
                  try clear c98b0
                  try clear c98b1
                  try clear c99
                  try clear c99b0
                  try clear c99b1
                  try clear c100
                  try clear c100b0
                  try clear c100b1
                  try clear hx4_0
                  try clear hx4_1
                  try clear hx4_2
                  try clear hx8_0
                  try clear p2
                  try clear p4
                  try clear q4
                  obtain ⟨kq, x121_80, rfl, HA, HJ80, HB⟩ := hcut
                  cases kq with
                  | zero => exact absurd HA.out (by simp [cippuslaw07_StemmaKnown.j2])
                  | succ kj80 =>
                    have H := HA.out
                    clear HA
                    simp only [cippuslaw07_StemmaKnown.j2] at H
                    by_cases c101 : x121_80 = true
                    · subst c101
                      have H1 : (some false) = some true := by rw [if_pos rfl] at H; exact H
                      clear H
                      have H := H1
                      clear H1
                      exact absurd (Option.some.inj H) (by decide)
                    · replace c101 := Bool.eq_false_iff.mpr c101
                      subst c101
                      have H1 : ((cippuslaw07_copies.f 0 1 true).bind fun t228 => ((stemma_Letters.f kj80 t228).bind fun bt231 => ((cippuslaw07_copies.f 1 1 true).bind fun t235 => ((stemma_Letters.f kj80 t235).bind fun bt238 => ((cippuslaw07_copies.f 1 1 true).bind fun t242 => ((stemma_Print.f kj80 t242).bind fun bt245 => ((cippuslaw07_copies.f 1 1 true).bind fun t247 => ((stemma_Fewest.f kj80 t247).bind fun bt250 => ((cippuslaw07_copies.f 0 1 true).bind fun t252 => ((stemma_Fewest.f kj80 t252).bind fun bt255 => ((cippuslaw07_copies.f 1 0 true).bind fun t257 => ((stemma_Write.f kj80 t257).bind fun bt260 => (if bt231.2 = 0 then (if bt238.2 = 0 then (if bt245.2 = 0 then (if bt250.2 = 0 then (if bt255.2 = 0 then (if bt260.2 = 0 then (if bt245.1.toList = ([45, 45, 45, 45] : List UInt8) then (if bt250.1 = 2 then (if bt255.1 = 2 then (if (bt238.1.length : Int) = 4 then (if 0 < (bt238.1.length : Int) then (if (rdOf ByteArray.empty bt238.1 0).toList = ([65, 66, 67, 68, 69, 70, 71, 72, 73, 74, 75, 76, 77, 78, 79, 80, 81, 82, 83, 84, 85, 86, 87, 88, 89, 90] : List UInt8) then ((cippuskit_SameTexts.f kj80 bt231.1 (([(⟨#[65]⟩ : ByteArray), (⟨#[82]⟩ : ByteArray), (⟨#[77]⟩ : ByteArray), (⟨#[65]⟩ : ByteArray)] : List ByteArray))).bind fun t266 => (if t266 = true then (some (bt260.1.toList == ([112, 108, 97, 99, 101, 115, 32, 52, 10, 115, 97, 119, 32, 65, 82, 77, 65, 32, 49, 10, 115, 97, 119, 32, 65, 82, 77, 79, 32, 48, 10, 104, 97, 100, 32, 69, 82, 77, 79, 32, 49, 10, 99, 111, 112, 105, 101, 115, 32, 51, 10] : List UInt8))) else (some false))) else (some false)) else (none)) else (some false)) else (some false)) else (some false)) else (some false)) else (some false)) else (some false)) else (some false)) else (some false)) else (some false)) else (some false)))))))))))))) = some true := by rw [if_neg (show ¬ (false = true) by decide)] at H; exact H
                      clear H
                      have H := H1
                      clear H1
                      replace H := Option.bind_eq_some_iff.mp H
                      obtain ⟨t228, A1020, H⟩ := H
                      replace H : ((stemma_Letters.f kj80 t228).bind fun bt231 => ((cippuslaw07_copies.f 1 1 true).bind fun t235 => ((stemma_Letters.f kj80 t235).bind fun bt238 => ((cippuslaw07_copies.f 1 1 true).bind fun t242 => ((stemma_Print.f kj80 t242).bind fun bt245 => ((cippuslaw07_copies.f 1 1 true).bind fun t247 => ((stemma_Fewest.f kj80 t247).bind fun bt250 => ((cippuslaw07_copies.f 0 1 true).bind fun t252 => ((stemma_Fewest.f kj80 t252).bind fun bt255 => ((cippuslaw07_copies.f 1 0 true).bind fun t257 => ((stemma_Write.f kj80 t257).bind fun bt260 => (if bt231.2 = 0 then (if bt238.2 = 0 then (if bt245.2 = 0 then (if bt250.2 = 0 then (if bt255.2 = 0 then (if bt260.2 = 0 then (if bt245.1.toList = ([45, 45, 45, 45] : List UInt8) then (if bt250.1 = 2 then (if bt255.1 = 2 then (if (bt238.1.length : Int) = 4 then (if 0 < (bt238.1.length : Int) then (if (rdOf ByteArray.empty bt238.1 0).toList = ([65, 66, 67, 68, 69, 70, 71, 72, 73, 74, 75, 76, 77, 78, 79, 80, 81, 82, 83, 84, 85, 86, 87, 88, 89, 90] : List UInt8) then ((cippuskit_SameTexts.f kj80 bt231.1 (([(⟨#[65]⟩ : ByteArray), (⟨#[82]⟩ : ByteArray), (⟨#[77]⟩ : ByteArray), (⟨#[65]⟩ : ByteArray)] : List ByteArray))).bind fun t266 => (if t266 = true then (some (bt260.1.toList == ([112, 108, 97, 99, 101, 115, 32, 52, 10, 115, 97, 119, 32, 65, 82, 77, 65, 32, 49, 10, 115, 97, 119, 32, 65, 82, 77, 79, 32, 48, 10, 104, 97, 100, 32, 69, 82, 77, 79, 32, 49, 10, 99, 111, 112, 105, 101, 115, 32, 51, 10] : List UInt8))) else (some false))) else (some false)) else (none)) else (some false)) else (some false)) else (some false)) else (some false)) else (some false)) else (some false)) else (some false)) else (some false)) else (some false)) else (some false))))))))))))) = some true := H
                      have A102 := Aside0.mk A1020
                      clear A1020
                      replace H := Option.bind_eq_some_iff.mp H
                      obtain ⟨⟨t231, t232⟩, A1030, H⟩ := H
                      replace H : ((cippuslaw07_copies.f 1 1 true).bind fun t235 => ((stemma_Letters.f kj80 t235).bind fun bt238 => ((cippuslaw07_copies.f 1 1 true).bind fun t242 => ((stemma_Print.f kj80 t242).bind fun bt245 => ((cippuslaw07_copies.f 1 1 true).bind fun t247 => ((stemma_Fewest.f kj80 t247).bind fun bt250 => ((cippuslaw07_copies.f 0 1 true).bind fun t252 => ((stemma_Fewest.f kj80 t252).bind fun bt255 => ((cippuslaw07_copies.f 1 0 true).bind fun t257 => ((stemma_Write.f kj80 t257).bind fun bt260 => (if t232 = 0 then (if bt238.2 = 0 then (if bt245.2 = 0 then (if bt250.2 = 0 then (if bt255.2 = 0 then (if bt260.2 = 0 then (if bt245.1.toList = ([45, 45, 45, 45] : List UInt8) then (if bt250.1 = 2 then (if bt255.1 = 2 then (if (bt238.1.length : Int) = 4 then (if 0 < (bt238.1.length : Int) then (if (rdOf ByteArray.empty bt238.1 0).toList = ([65, 66, 67, 68, 69, 70, 71, 72, 73, 74, 75, 76, 77, 78, 79, 80, 81, 82, 83, 84, 85, 86, 87, 88, 89, 90] : List UInt8) then ((cippuskit_SameTexts.f kj80 t231 (([(⟨#[65]⟩ : ByteArray), (⟨#[82]⟩ : ByteArray), (⟨#[77]⟩ : ByteArray), (⟨#[65]⟩ : ByteArray)] : List ByteArray))).bind fun t266 => (if t266 = true then (some (bt260.1.toList == ([112, 108, 97, 99, 101, 115, 32, 52, 10, 115, 97, 119, 32, 65, 82, 77, 65, 32, 49, 10, 115, 97, 119, 32, 65, 82, 77, 79, 32, 48, 10, 104, 97, 100, 32, 69, 82, 77, 79, 32, 49, 10, 99, 111, 112, 105, 101, 115, 32, 51, 10] : List UInt8))) else (some false))) else (some false)) else (none)) else (some false)) else (some false)) else (some false)) else (some false)) else (some false)) else (some false)) else (some false)) else (some false)) else (some false)) else (some false)))))))))))) = some true := H
                      have A103 := Aside0.mk A1030
                      clear A1030
                      replace H := Option.bind_eq_some_iff.mp H
                      obtain ⟨t235, A1040, H⟩ := H
                      replace H : ((stemma_Letters.f kj80 t235).bind fun bt238 => ((cippuslaw07_copies.f 1 1 true).bind fun t242 => ((stemma_Print.f kj80 t242).bind fun bt245 => ((cippuslaw07_copies.f 1 1 true).bind fun t247 => ((stemma_Fewest.f kj80 t247).bind fun bt250 => ((cippuslaw07_copies.f 0 1 true).bind fun t252 => ((stemma_Fewest.f kj80 t252).bind fun bt255 => ((cippuslaw07_copies.f 1 0 true).bind fun t257 => ((stemma_Write.f kj80 t257).bind fun bt260 => (if t232 = 0 then (if bt238.2 = 0 then (if bt245.2 = 0 then (if bt250.2 = 0 then (if bt255.2 = 0 then (if bt260.2 = 0 then (if bt245.1.toList = ([45, 45, 45, 45] : List UInt8) then (if bt250.1 = 2 then (if bt255.1 = 2 then (if (bt238.1.length : Int) = 4 then (if 0 < (bt238.1.length : Int) then (if (rdOf ByteArray.empty bt238.1 0).toList = ([65, 66, 67, 68, 69, 70, 71, 72, 73, 74, 75, 76, 77, 78, 79, 80, 81, 82, 83, 84, 85, 86, 87, 88, 89, 90] : List UInt8) then ((cippuskit_SameTexts.f kj80 t231 (([(⟨#[65]⟩ : ByteArray), (⟨#[82]⟩ : ByteArray), (⟨#[77]⟩ : ByteArray), (⟨#[65]⟩ : ByteArray)] : List ByteArray))).bind fun t266 => (if t266 = true then (some (bt260.1.toList == ([112, 108, 97, 99, 101, 115, 32, 52, 10, 115, 97, 119, 32, 65, 82, 77, 65, 32, 49, 10, 115, 97, 119, 32, 65, 82, 77, 79, 32, 48, 10, 104, 97, 100, 32, 69, 82, 77, 79, 32, 49, 10, 99, 111, 112, 105, 101, 115, 32, 51, 10] : List UInt8))) else (some false))) else (some false)) else (none)) else (some false)) else (some false)) else (some false)) else (some false)) else (some false)) else (some false)) else (some false)) else (some false)) else (some false)) else (some false))))))))))) = some true := H
                      have A104 := Aside0.mk A1040
                      clear A1040
                      replace H := Option.bind_eq_some_iff.mp H
                      obtain ⟨⟨t238, t239⟩, A1050, H⟩ := H
                      replace H : ((cippuslaw07_copies.f 1 1 true).bind fun t242 => ((stemma_Print.f kj80 t242).bind fun bt245 => ((cippuslaw07_copies.f 1 1 true).bind fun t247 => ((stemma_Fewest.f kj80 t247).bind fun bt250 => ((cippuslaw07_copies.f 0 1 true).bind fun t252 => ((stemma_Fewest.f kj80 t252).bind fun bt255 => ((cippuslaw07_copies.f 1 0 true).bind fun t257 => ((stemma_Write.f kj80 t257).bind fun bt260 => (if t232 = 0 then (if t239 = 0 then (if bt245.2 = 0 then (if bt250.2 = 0 then (if bt255.2 = 0 then (if bt260.2 = 0 then (if bt245.1.toList = ([45, 45, 45, 45] : List UInt8) then (if bt250.1 = 2 then (if bt255.1 = 2 then (if (t238.length : Int) = 4 then (if 0 < (t238.length : Int) then (if (rdOf ByteArray.empty t238 0).toList = ([65, 66, 67, 68, 69, 70, 71, 72, 73, 74, 75, 76, 77, 78, 79, 80, 81, 82, 83, 84, 85, 86, 87, 88, 89, 90] : List UInt8) then ((cippuskit_SameTexts.f kj80 t231 (([(⟨#[65]⟩ : ByteArray), (⟨#[82]⟩ : ByteArray), (⟨#[77]⟩ : ByteArray), (⟨#[65]⟩ : ByteArray)] : List ByteArray))).bind fun t266 => (if t266 = true then (some (bt260.1.toList == ([112, 108, 97, 99, 101, 115, 32, 52, 10, 115, 97, 119, 32, 65, 82, 77, 65, 32, 49, 10, 115, 97, 119, 32, 65, 82, 77, 79, 32, 48, 10, 104, 97, 100, 32, 69, 82, 77, 79, 32, 49, 10, 99, 111, 112, 105, 101, 115, 32, 51, 10] : List UInt8))) else (some false))) else (some false)) else (none)) else (some false)) else (some false)) else (some false)) else (some false)) else (some false)) else (some false)) else (some false)) else (some false)) else (some false)) else (some false)))))))))) = some true := H
                      have A105 := Aside0.mk A1050
                      clear A1050
                      replace H := Option.bind_eq_some_iff.mp H
                      obtain ⟨t242, A1060, H⟩ := H
                      replace H : ((stemma_Print.f kj80 t242).bind fun bt245 => ((cippuslaw07_copies.f 1 1 true).bind fun t247 => ((stemma_Fewest.f kj80 t247).bind fun bt250 => ((cippuslaw07_copies.f 0 1 true).bind fun t252 => ((stemma_Fewest.f kj80 t252).bind fun bt255 => ((cippuslaw07_copies.f 1 0 true).bind fun t257 => ((stemma_Write.f kj80 t257).bind fun bt260 => (if t232 = 0 then (if t239 = 0 then (if bt245.2 = 0 then (if bt250.2 = 0 then (if bt255.2 = 0 then (if bt260.2 = 0 then (if bt245.1.toList = ([45, 45, 45, 45] : List UInt8) then (if bt250.1 = 2 then (if bt255.1 = 2 then (if (t238.length : Int) = 4 then (if 0 < (t238.length : Int) then (if (rdOf ByteArray.empty t238 0).toList = ([65, 66, 67, 68, 69, 70, 71, 72, 73, 74, 75, 76, 77, 78, 79, 80, 81, 82, 83, 84, 85, 86, 87, 88, 89, 90] : List UInt8) then ((cippuskit_SameTexts.f kj80 t231 (([(⟨#[65]⟩ : ByteArray), (⟨#[82]⟩ : ByteArray), (⟨#[77]⟩ : ByteArray), (⟨#[65]⟩ : ByteArray)] : List ByteArray))).bind fun t266 => (if t266 = true then (some (bt260.1.toList == ([112, 108, 97, 99, 101, 115, 32, 52, 10, 115, 97, 119, 32, 65, 82, 77, 65, 32, 49, 10, 115, 97, 119, 32, 65, 82, 77, 79, 32, 48, 10, 104, 97, 100, 32, 69, 82, 77, 79, 32, 49, 10, 99, 111, 112, 105, 101, 115, 32, 51, 10] : List UInt8))) else (some false))) else (some false)) else (none)) else (some false)) else (some false)) else (some false)) else (some false)) else (some false)) else (some false)) else (some false)) else (some false)) else (some false)) else (some false))))))))) = some true := H
                      have A106 := Aside0.mk A1060
                      clear A1060
                      replace H := Option.bind_eq_some_iff.mp H
                      obtain ⟨⟨t245, t246⟩, A1070, H⟩ := H
                      replace H : ((cippuslaw07_copies.f 1 1 true).bind fun t247 => ((stemma_Fewest.f kj80 t247).bind fun bt250 => ((cippuslaw07_copies.f 0 1 true).bind fun t252 => ((stemma_Fewest.f kj80 t252).bind fun bt255 => ((cippuslaw07_copies.f 1 0 true).bind fun t257 => ((stemma_Write.f kj80 t257).bind fun bt260 => (if t232 = 0 then (if t239 = 0 then (if t246 = 0 then (if bt250.2 = 0 then (if bt255.2 = 0 then (if bt260.2 = 0 then (if t245.toList = ([45, 45, 45, 45] : List UInt8) then (if bt250.1 = 2 then (if bt255.1 = 2 then (if (t238.length : Int) = 4 then (if 0 < (t238.length : Int) then (if (rdOf ByteArray.empty t238 0).toList = ([65, 66, 67, 68, 69, 70, 71, 72, 73, 74, 75, 76, 77, 78, 79, 80, 81, 82, 83, 84, 85, 86, 87, 88, 89, 90] : List UInt8) then ((cippuskit_SameTexts.f kj80 t231 (([(⟨#[65]⟩ : ByteArray), (⟨#[82]⟩ : ByteArray), (⟨#[77]⟩ : ByteArray), (⟨#[65]⟩ : ByteArray)] : List ByteArray))).bind fun t266 => (if t266 = true then (some (bt260.1.toList == ([112, 108, 97, 99, 101, 115, 32, 52, 10, 115, 97, 119, 32, 65, 82, 77, 65, 32, 49, 10, 115, 97, 119, 32, 65, 82, 77, 79, 32, 48, 10, 104, 97, 100, 32, 69, 82, 77, 79, 32, 49, 10, 99, 111, 112, 105, 101, 115, 32, 51, 10] : List UInt8))) else (some false))) else (some false)) else (none)) else (some false)) else (some false)) else (some false)) else (some false)) else (some false)) else (some false)) else (some false)) else (some false)) else (some false)) else (some false)))))))) = some true := H
                      have A107 := Aside0.mk A1070
                      clear A1070
                      replace H := Option.bind_eq_some_iff.mp H
                      obtain ⟨t247, A1080, H⟩ := H
                      replace H : ((stemma_Fewest.f kj80 t247).bind fun bt250 => ((cippuslaw07_copies.f 0 1 true).bind fun t252 => ((stemma_Fewest.f kj80 t252).bind fun bt255 => ((cippuslaw07_copies.f 1 0 true).bind fun t257 => ((stemma_Write.f kj80 t257).bind fun bt260 => (if t232 = 0 then (if t239 = 0 then (if t246 = 0 then (if bt250.2 = 0 then (if bt255.2 = 0 then (if bt260.2 = 0 then (if t245.toList = ([45, 45, 45, 45] : List UInt8) then (if bt250.1 = 2 then (if bt255.1 = 2 then (if (t238.length : Int) = 4 then (if 0 < (t238.length : Int) then (if (rdOf ByteArray.empty t238 0).toList = ([65, 66, 67, 68, 69, 70, 71, 72, 73, 74, 75, 76, 77, 78, 79, 80, 81, 82, 83, 84, 85, 86, 87, 88, 89, 90] : List UInt8) then ((cippuskit_SameTexts.f kj80 t231 (([(⟨#[65]⟩ : ByteArray), (⟨#[82]⟩ : ByteArray), (⟨#[77]⟩ : ByteArray), (⟨#[65]⟩ : ByteArray)] : List ByteArray))).bind fun t266 => (if t266 = true then (some (bt260.1.toList == ([112, 108, 97, 99, 101, 115, 32, 52, 10, 115, 97, 119, 32, 65, 82, 77, 65, 32, 49, 10, 115, 97, 119, 32, 65, 82, 77, 79, 32, 48, 10, 104, 97, 100, 32, 69, 82, 77, 79, 32, 49, 10, 99, 111, 112, 105, 101, 115, 32, 51, 10] : List UInt8))) else (some false))) else (some false)) else (none)) else (some false)) else (some false)) else (some false)) else (some false)) else (some false)) else (some false)) else (some false)) else (some false)) else (some false)) else (some false))))))) = some true := H
                      have A108 := Aside0.mk A1080
                      clear A1080
                      replace H := Option.bind_eq_some_iff.mp H
                      obtain ⟨⟨t250, t251⟩, A1090, H⟩ := H
                      replace H : ((cippuslaw07_copies.f 0 1 true).bind fun t252 => ((stemma_Fewest.f kj80 t252).bind fun bt255 => ((cippuslaw07_copies.f 1 0 true).bind fun t257 => ((stemma_Write.f kj80 t257).bind fun bt260 => (if t232 = 0 then (if t239 = 0 then (if t246 = 0 then (if t251 = 0 then (if bt255.2 = 0 then (if bt260.2 = 0 then (if t245.toList = ([45, 45, 45, 45] : List UInt8) then (if t250 = 2 then (if bt255.1 = 2 then (if (t238.length : Int) = 4 then (if 0 < (t238.length : Int) then (if (rdOf ByteArray.empty t238 0).toList = ([65, 66, 67, 68, 69, 70, 71, 72, 73, 74, 75, 76, 77, 78, 79, 80, 81, 82, 83, 84, 85, 86, 87, 88, 89, 90] : List UInt8) then ((cippuskit_SameTexts.f kj80 t231 (([(⟨#[65]⟩ : ByteArray), (⟨#[82]⟩ : ByteArray), (⟨#[77]⟩ : ByteArray), (⟨#[65]⟩ : ByteArray)] : List ByteArray))).bind fun t266 => (if t266 = true then (some (bt260.1.toList == ([112, 108, 97, 99, 101, 115, 32, 52, 10, 115, 97, 119, 32, 65, 82, 77, 65, 32, 49, 10, 115, 97, 119, 32, 65, 82, 77, 79, 32, 48, 10, 104, 97, 100, 32, 69, 82, 77, 79, 32, 49, 10, 99, 111, 112, 105, 101, 115, 32, 51, 10] : List UInt8))) else (some false))) else (some false)) else (none)) else (some false)) else (some false)) else (some false)) else (some false)) else (some false)) else (some false)) else (some false)) else (some false)) else (some false)) else (some false)))))) = some true := H
                      have A109 := Aside0.mk A1090
                      clear A1090
                      replace H := Option.bind_eq_some_iff.mp H
                      obtain ⟨t252, A1100, H⟩ := H
                      replace H : ((stemma_Fewest.f kj80 t252).bind fun bt255 => ((cippuslaw07_copies.f 1 0 true).bind fun t257 => ((stemma_Write.f kj80 t257).bind fun bt260 => (if t232 = 0 then (if t239 = 0 then (if t246 = 0 then (if t251 = 0 then (if bt255.2 = 0 then (if bt260.2 = 0 then (if t245.toList = ([45, 45, 45, 45] : List UInt8) then (if t250 = 2 then (if bt255.1 = 2 then (if (t238.length : Int) = 4 then (if 0 < (t238.length : Int) then (if (rdOf ByteArray.empty t238 0).toList = ([65, 66, 67, 68, 69, 70, 71, 72, 73, 74, 75, 76, 77, 78, 79, 80, 81, 82, 83, 84, 85, 86, 87, 88, 89, 90] : List UInt8) then ((cippuskit_SameTexts.f kj80 t231 (([(⟨#[65]⟩ : ByteArray), (⟨#[82]⟩ : ByteArray), (⟨#[77]⟩ : ByteArray), (⟨#[65]⟩ : ByteArray)] : List ByteArray))).bind fun t266 => (if t266 = true then (some (bt260.1.toList == ([112, 108, 97, 99, 101, 115, 32, 52, 10, 115, 97, 119, 32, 65, 82, 77, 65, 32, 49, 10, 115, 97, 119, 32, 65, 82, 77, 79, 32, 48, 10, 104, 97, 100, 32, 69, 82, 77, 79, 32, 49, 10, 99, 111, 112, 105, 101, 115, 32, 51, 10] : List UInt8))) else (some false))) else (some false)) else (none)) else (some false)) else (some false)) else (some false)) else (some false)) else (some false)) else (some false)) else (some false)) else (some false)) else (some false)) else (some false))))) = some true := H
                      have A110 := Aside0.mk A1100
                      clear A1100
                      replace H := Option.bind_eq_some_iff.mp H
                      obtain ⟨⟨t255, t256⟩, A1110, H⟩ := H
                      replace H : ((cippuslaw07_copies.f 1 0 true).bind fun t257 => ((stemma_Write.f kj80 t257).bind fun bt260 => (if t232 = 0 then (if t239 = 0 then (if t246 = 0 then (if t251 = 0 then (if t256 = 0 then (if bt260.2 = 0 then (if t245.toList = ([45, 45, 45, 45] : List UInt8) then (if t250 = 2 then (if t255 = 2 then (if (t238.length : Int) = 4 then (if 0 < (t238.length : Int) then (if (rdOf ByteArray.empty t238 0).toList = ([65, 66, 67, 68, 69, 70, 71, 72, 73, 74, 75, 76, 77, 78, 79, 80, 81, 82, 83, 84, 85, 86, 87, 88, 89, 90] : List UInt8) then ((cippuskit_SameTexts.f kj80 t231 (([(⟨#[65]⟩ : ByteArray), (⟨#[82]⟩ : ByteArray), (⟨#[77]⟩ : ByteArray), (⟨#[65]⟩ : ByteArray)] : List ByteArray))).bind fun t266 => (if t266 = true then (some (bt260.1.toList == ([112, 108, 97, 99, 101, 115, 32, 52, 10, 115, 97, 119, 32, 65, 82, 77, 65, 32, 49, 10, 115, 97, 119, 32, 65, 82, 77, 79, 32, 48, 10, 104, 97, 100, 32, 69, 82, 77, 79, 32, 49, 10, 99, 111, 112, 105, 101, 115, 32, 51, 10] : List UInt8))) else (some false))) else (some false)) else (none)) else (some false)) else (some false)) else (some false)) else (some false)) else (some false)) else (some false)) else (some false)) else (some false)) else (some false)) else (some false)))) = some true := H
                      have A111 := Aside0.mk A1110
                      clear A1110
                      replace H := Option.bind_eq_some_iff.mp H
                      obtain ⟨t257, A1120, H⟩ := H
                      replace H : ((stemma_Write.f kj80 t257).bind fun bt260 => (if t232 = 0 then (if t239 = 0 then (if t246 = 0 then (if t251 = 0 then (if t256 = 0 then (if bt260.2 = 0 then (if t245.toList = ([45, 45, 45, 45] : List UInt8) then (if t250 = 2 then (if t255 = 2 then (if (t238.length : Int) = 4 then (if 0 < (t238.length : Int) then (if (rdOf ByteArray.empty t238 0).toList = ([65, 66, 67, 68, 69, 70, 71, 72, 73, 74, 75, 76, 77, 78, 79, 80, 81, 82, 83, 84, 85, 86, 87, 88, 89, 90] : List UInt8) then ((cippuskit_SameTexts.f kj80 t231 (([(⟨#[65]⟩ : ByteArray), (⟨#[82]⟩ : ByteArray), (⟨#[77]⟩ : ByteArray), (⟨#[65]⟩ : ByteArray)] : List ByteArray))).bind fun t266 => (if t266 = true then (some (bt260.1.toList == ([112, 108, 97, 99, 101, 115, 32, 52, 10, 115, 97, 119, 32, 65, 82, 77, 65, 32, 49, 10, 115, 97, 119, 32, 65, 82, 77, 79, 32, 48, 10, 104, 97, 100, 32, 69, 82, 77, 79, 32, 49, 10, 99, 111, 112, 105, 101, 115, 32, 51, 10] : List UInt8))) else (some false))) else (some false)) else (none)) else (some false)) else (some false)) else (some false)) else (some false)) else (some false)) else (some false)) else (some false)) else (some false)) else (some false)) else (some false))) = some true := H
                      have A112 := Aside0.mk A1120
                      clear A1120
                      replace H := Option.bind_eq_some_iff.mp H
                      obtain ⟨⟨t260, t261⟩, A1130, H⟩ := H
                      replace H : (if t232 = 0 then (if t239 = 0 then (if t246 = 0 then (if t251 = 0 then (if t256 = 0 then (if t261 = 0 then (if t245.toList = ([45, 45, 45, 45] : List UInt8) then (if t250 = 2 then (if t255 = 2 then (if (t238.length : Int) = 4 then (if 0 < (t238.length : Int) then (if (rdOf ByteArray.empty t238 0).toList = ([65, 66, 67, 68, 69, 70, 71, 72, 73, 74, 75, 76, 77, 78, 79, 80, 81, 82, 83, 84, 85, 86, 87, 88, 89, 90] : List UInt8) then ((cippuskit_SameTexts.f kj80 t231 (([(⟨#[65]⟩ : ByteArray), (⟨#[82]⟩ : ByteArray), (⟨#[77]⟩ : ByteArray), (⟨#[65]⟩ : ByteArray)] : List ByteArray))).bind fun t266 => (if t266 = true then (some (t260.toList == ([112, 108, 97, 99, 101, 115, 32, 52, 10, 115, 97, 119, 32, 65, 82, 77, 65, 32, 49, 10, 115, 97, 119, 32, 65, 82, 77, 79, 32, 48, 10, 104, 97, 100, 32, 69, 82, 77, 79, 32, 49, 10, 99, 111, 112, 105, 101, 115, 32, 51, 10] : List UInt8))) else (some false))) else (some false)) else (none)) else (some false)) else (some false)) else (some false)) else (some false)) else (some false)) else (some false)) else (some false)) else (some false)) else (some false)) else (some false)) = some true := H
                      have A113 := Aside0.mk A1130
                      clear A1130
                      by_cases c114 : t232 = 0
                      · rw [if_pos c114] at H
                        have c114b0 : (t232 == 0) = true := beq_iff_eq.mpr c114
                        have c114b1 : (t232 != 0) = false := bne_eq_false_iff_eq.mpr c114
                        clear c114
                        by_cases c115 : t239 = 0
                        · rw [if_pos c115] at H
                          have c115b0 : (t239 == 0) = true := beq_iff_eq.mpr c115
                          have c115b1 : (t239 != 0) = false := bne_eq_false_iff_eq.mpr c115
                          clear c115
                          by_cases c116 : t246 = 0
                          · rw [if_pos c116] at H
                            have c116b0 : (t246 == 0) = true := beq_iff_eq.mpr c116
                            have c116b1 : (t246 != 0) = false := bne_eq_false_iff_eq.mpr c116
                            clear c116
                            by_cases c117 : t251 = 0
                            · rw [if_pos c117] at H
                              have c117b0 : (t251 == 0) = true := beq_iff_eq.mpr c117
                              have c117b1 : (t251 != 0) = false := bne_eq_false_iff_eq.mpr c117
                              clear c117
                              by_cases c118 : t256 = 0
                              · rw [if_pos c118] at H
                                have c118b0 : (t256 == 0) = true := beq_iff_eq.mpr c118
                                have c118b1 : (t256 != 0) = false := bne_eq_false_iff_eq.mpr c118
                                clear c118
                                by_cases c119 : t261 = 0
                                · rw [if_pos c119] at H
                                  have c119b0 : (t261 == 0) = true := beq_iff_eq.mpr c119
                                  have c119b1 : (t261 != 0) = false := bne_eq_false_iff_eq.mpr c119
                                  clear c119
                                  by_cases c120 : t245.toList = ([45, 45, 45, 45] : List UInt8)
                                  · rw [if_pos c120] at H
                                    have c120b0 : (t245.toList == ([45, 45, 45, 45] : List UInt8)) = true := beq_iff_eq.mpr c120
                                    have c120b1 : (t245.toList != ([45, 45, 45, 45] : List UInt8)) = false := bne_eq_false_iff_eq.mpr c120
                                    clear c120
                                    by_cases c121 : t250 = 2
                                    · rw [if_pos c121] at H
                                      have c121b0 : (t250 == 2) = true := beq_iff_eq.mpr c121
                                      have c121b1 : (t250 != 2) = false := bne_eq_false_iff_eq.mpr c121
                                      clear c121
                                      by_cases c122 : t255 = 2
                                      · rw [if_pos c122] at H
                                        have c122b0 : (t255 == 2) = true := beq_iff_eq.mpr c122
                                        have c122b1 : (t255 != 2) = false := bne_eq_false_iff_eq.mpr c122
                                        clear c122
                                        by_cases c123 : (t238.length : Int) = 4
                                        · rw [if_pos c123] at H
                                          have c123b0 : ((t238.length : Int) == 4) = true := beq_iff_eq.mpr c123
                                          have c123b1 : ((t238.length : Int) != 4) = false := bne_eq_false_iff_eq.mpr c123
                                          clear c123
                                          by_cases c124 : 0 < (t238.length : Int)
                                          · rw [if_pos c124] at H
                                            have c124b0 : decide (0 < (t238.length : Int)) = true := decide_eq_true c124
                                            have c124b1 : decide (0 < t238.length) = true := decide_eq_true (by omega)
                                            clear c124
                                            by_cases c125 : (rdOf ByteArray.empty t238 0).toList = ([65, 66, 67, 68, 69, 70, 71, 72, 73, 74, 75, 76, 77, 78, 79, 80, 81, 82, 83, 84, 85, 86, 87, 88, 89, 90] : List UInt8)
                                            · rw [if_pos c125] at H
                                              have c125b0 : ((rdOf ByteArray.empty t238 0).toList == ([65, 66, 67, 68, 69, 70, 71, 72, 73, 74, 75, 76, 77, 78, 79, 80, 81, 82, 83, 84, 85, 86, 87, 88, 89, 90] : List UInt8)) = true := beq_iff_eq.mpr c125
                                              have c125b1 : ((rdOf ByteArray.empty t238 0).toList != ([65, 66, 67, 68, 69, 70, 71, 72, 73, 74, 75, 76, 77, 78, 79, 80, 81, 82, 83, 84, 85, 86, 87, 88, 89, 90] : List UInt8)) = false := bne_eq_false_iff_eq.mpr c125
                                              clear c125
                                              obtain ⟨y263, hy263⟩ : ∃ y_ : List ByteArray, y_ = (([(⟨#[65]⟩ : ByteArray), (⟨#[82]⟩ : ByteArray), (⟨#[77]⟩ : ByteArray), (⟨#[65]⟩ : ByteArray)] : List ByteArray)) := ⟨_, rfl⟩
                                              replace H : ((cippuskit_SameTexts.f kj80 t231 y263).bind fun t266 => (if t266 = true then (some (t260.toList == ([112, 108, 97, 99, 101, 115, 32, 52, 10, 115, 97, 119, 32, 65, 82, 77, 65, 32, 49, 10, 115, 97, 119, 32, 65, 82, 77, 79, 32, 48, 10, 104, 97, 100, 32, 69, 82, 77, 79, 32, 49, 10, 99, 111, 112, 105, 101, 115, 32, 51, 10] : List UInt8))) else (some false))) = some true := by first | (rw [hy263]; with_reducible exact H) | (have H2_ := (Option.bind_some _ _).symm.trans H; rw [hy263]; with_reducible exact H2_) | (have H2_ := (Option.bind_some _ _).symm.trans H; with_reducible exact H2_) | with_reducible exact H | (rw [hy263]; exact H) | exact H
                                              have Ny263 := Aside0.mk hy263
                                              clear hy263
                                              replace H := Option.bind_eq_some_iff.mp H
                                              obtain ⟨t266, A1260, H⟩ := H
                                              replace H : (if t266 = true then (some (t260.toList == ([112, 108, 97, 99, 101, 115, 32, 52, 10, 115, 97, 119, 32, 65, 82, 77, 65, 32, 49, 10, 115, 97, 119, 32, 65, 82, 77, 79, 32, 48, 10, 104, 97, 100, 32, 69, 82, 77, 79, 32, 49, 10, 99, 111, 112, 105, 101, 115, 32, 51, 10] : List UInt8))) else (some false)) = some true := H
                                              have A126 := Aside0.mk A1260
                                              clear A1260
                                              by_cases c127 : t266 = true
                                              · subst c127
                                                have H1 : (some (t260.toList == ([112, 108, 97, 99, 101, 115, 32, 52, 10, 115, 97, 119, 32, 65, 82, 77, 65, 32, 49, 10, 115, 97, 119, 32, 65, 82, 77, 79, 32, 48, 10, 104, 97, 100, 32, 69, 82, 77, 79, 32, 49, 10, 99, 111, 112, 105, 101, 115, 32, 51, 10] : List UInt8))) = some true := by rw [if_pos rfl] at H; exact H
                                                clear H
                                                have H := H1
                                                clear H1
                                                have hr_ := Option.some.inj H
                                                clear H
                                                go_wp2_with (first | ((with_reducible refine gate_callee (f := 6) rfl ?_); refine goesL_ (some 123) rfl rfl Tryd.func6 (by kernel_rfl) rfl #[.int .i64 0, .int .i64 1, .bool true] rfl (by (try simp only [List.map_toArray, List.map_cons, List.map_nil]); first | done | rfl | (simp only [List.length_drop, List.length_take]; rfl)) ?_; (with_reducible refine (cippuslaw07_copies.calls 0 1 true t228 _ A102.out).mono ?_); rintro e w128 ⟨v229, rfl, ho0, hb⟩; refine ⟨_, rfl, ?_⟩; have n0_ := Aside0.mk (Kd.R_lower ho0 (below_size (by repeat (first | (with_reducible first | exact HB.out | apply below_alloc | apply pw_below_drewN | apply below_drew1) | exact HB.out)))); have n1_ := Aside0.mk (below_step (by repeat (first | (with_reducible first | exact HB.out | apply below_alloc | apply pw_below_drewN | apply below_drew1) | exact HB.out)) hb); clear HB; have HO230 := n0_; have HB := n1_; clear n0_ n1_; (try clear hb); (try clear hb2); (try clear hk); (try clear hi); (try clear ho0); obtain ⟨Ao129, co129, eo129⟩ := Kd.R_slice HO230.out; subst eo129) | ((with_reducible refine gate_callee (f := 12) rfl ?_); refine goesL_ (some 124) rfl rfl Tryd.func12 (by kernel_rfl) rfl #[.slice Ao129 t228.length co129] rfl (by (try simp only [List.map_toArray, List.map_cons, List.map_nil]); first | done | rfl | (simp only [List.length_drop, List.length_take]; rfl)) ?_; (with_reducible refine (stemma_Letters.calls kj80 _ _ t228 t231 t232 _ ?side1 ?side2 A103.out).mono ?_); (case side1 => repeat (first | exact (Kd.R_reads' HO230.out).2.2 | (with_reducible refine Kd.C_alloc ?_ _) | (with_reducible refine Kd.C_drewN ?_ _) | (with_reducible refine Kd.C_drew ?_))); (case side2 => exact (Kd.R_reads' HO230.out).2.1); rintro e w130 ⟨v233, rfl, ho0, hb⟩; refine ⟨_, rfl, ?_⟩; have n0_ := Aside0.mk (Kd.R_below (by (with_reducible repeat (first | apply Kd.R_alloc | apply Kd.R_drewN | apply Kd.R_drew)); exact HO230.out) hb); have n1_ := Aside0.mk (Kd.R_lower ho0 (below_size (by repeat (first | (with_reducible first | exact HB.out | apply below_alloc | apply pw_below_drewN | apply below_drew1) | exact HB.out)))); have n2_ := Aside0.mk (below_step (by repeat (first | (with_reducible first | exact HB.out | apply below_alloc | apply pw_below_drewN | apply below_drew1) | exact HB.out)) hb); clear HO230; clear HB; have HO230 := n0_; have HO234 := n1_; have HB := n2_; clear n0_ n1_ n2_; (try clear hb); (try clear hb2); (try clear hk); (try clear hi); (try clear ho0)) | ((with_reducible refine gate_callee (f := 6) rfl ?_); refine goesL_ (some 128) rfl rfl Tryd.func6 (by kernel_rfl) rfl #[.int .i64 1, .int .i64 1, .bool true] rfl (by (try simp only [List.map_toArray, List.map_cons, List.map_nil]); first | done | rfl | (simp only [List.length_drop, List.length_take]; rfl)) ?_; (with_reducible refine (cippuslaw07_copies.calls 1 1 true t235 _ A104.out).mono ?_); rintro e w131 ⟨v236, rfl, ho0, hb⟩; refine ⟨_, rfl, ?_⟩; have n0_ := Aside0.mk (Kd.R_elder' (by (with_reducible repeat (first | apply Kd.R_alloc | apply Kd.R_drewN | apply Kd.R_drew)); exact HO230.out) (Kd.R_base ho0) hb); have n1_ := Aside0.mk (Kd.R_below (by (with_reducible repeat (first | apply Kd.R_alloc | apply Kd.R_drewN | apply Kd.R_drew)); exact HO234.out) hb); have n2_ := Aside0.mk (Kd.R_lower (Kd.R_new' ho0 (Kd.R_lt (by (with_reducible repeat (first | apply Kd.R_alloc | apply Kd.R_drewN | apply Kd.R_drew)); exact HO230.out))) (below_size (by repeat (first | (with_reducible first | exact HB.out | apply below_alloc | apply pw_below_drewN | apply below_drew1) | exact HB.out)))); have n3_ := Aside0.mk (below_step (by repeat (first | (with_reducible first | exact HB.out | apply below_alloc | apply pw_below_drewN | apply below_drew1) | exact HB.out)) hb); clear HO230; clear HO234; clear HB; have HO230 := n0_; have HO234 := n1_; have HO237 := n2_; have HB := n3_; clear n0_ n1_ n2_ n3_; (try clear hb); (try clear hb2); (try clear hk); (try clear hi); (try clear ho0); obtain ⟨Ao132, co132, eo132⟩ := Kd.R_slice HO237.out; subst eo132) | ((with_reducible refine gate_callee (f := 12) rfl ?_); refine goesL_ (some 129) rfl rfl Tryd.func12 (by kernel_rfl) rfl #[.slice Ao132 t235.length co132] rfl (by (try simp only [List.map_toArray, List.map_cons, List.map_nil]); first | done | rfl | (simp only [List.length_drop, List.length_take]; rfl)) ?_; (with_reducible refine (stemma_Letters.calls kj80 _ _ t235 t238 t239 _ ?side1 ?side2 A105.out).mono ?_); (case side1 => repeat (first | exact (Kd.R_reads' HO237.out).2.2 | (with_reducible refine Kd.C_alloc ?_ _) | (with_reducible refine Kd.C_drewN ?_ _) | (with_reducible refine Kd.C_drew ?_))); (case side2 => exact (Kd.R_reads' HO237.out).2.1); rintro e w133 ⟨v240, rfl, ho0, hb⟩; refine ⟨_, rfl, ?_⟩; have n0_ := Aside0.mk (Kd.R_below (by (with_reducible repeat (first | apply Kd.R_alloc | apply Kd.R_drewN | apply Kd.R_drew)); exact HO230.out) hb); have n1_ := Aside0.mk (Kd.R_elder' (by (with_reducible repeat (first | apply Kd.R_alloc | apply Kd.R_drewN | apply Kd.R_drew)); exact HO234.out) (Kd.R_base ho0) hb); have n2_ := Aside0.mk (Kd.R_below (by (with_reducible repeat (first | apply Kd.R_alloc | apply Kd.R_drewN | apply Kd.R_drew)); exact HO237.out) hb); have n3_ := Aside0.mk (Kd.R_lower (Kd.R_new' ho0 (Kd.R_lt (by (with_reducible repeat (first | apply Kd.R_alloc | apply Kd.R_drewN | apply Kd.R_drew)); exact HO234.out))) (below_size (by repeat (first | (with_reducible first | exact HB.out | apply below_alloc | apply pw_below_drewN | apply below_drew1) | exact HB.out)))); have n4_ := Aside0.mk (below_step (by repeat (first | (with_reducible first | exact HB.out | apply below_alloc | apply pw_below_drewN | apply below_drew1) | exact HB.out)) hb); clear HO230; clear HO234; clear HO237; clear HB; have HO230 := n0_; have HO234 := n1_; have HO237 := n2_; have HO241 := n3_; have HB := n4_; clear n0_ n1_ n2_ n3_ n4_; (try clear hb); (try clear hb2); (try clear hk); (try clear hi); (try clear ho0)) | ((with_reducible refine gate_callee (f := 6) rfl ?_); refine goesL_ (some 133) rfl rfl Tryd.func6 (by kernel_rfl) rfl #[.int .i64 1, .int .i64 1, .bool true] rfl (by (try simp only [List.map_toArray, List.map_cons, List.map_nil]); first | done | rfl | (simp only [List.length_drop, List.length_take]; rfl)) ?_; (with_reducible refine (cippuslaw07_copies.calls 1 1 true t242 _ A106.out).mono ?_); rintro e w134 ⟨v243, rfl, ho0, hb⟩; refine ⟨_, rfl, ?_⟩; have n0_ := Aside0.mk (Kd.R_elder' (by (with_reducible repeat (first | apply Kd.R_alloc | apply Kd.R_drewN | apply Kd.R_drew)); exact HO230.out) (Kd.R_base ho0) hb); have n1_ := Aside0.mk (Kd.R_below (by (with_reducible repeat (first | apply Kd.R_alloc | apply Kd.R_drewN | apply Kd.R_drew)); exact HO234.out) hb); have n2_ := Aside0.mk (Kd.R_elder' (by (with_reducible repeat (first | apply Kd.R_alloc | apply Kd.R_drewN | apply Kd.R_drew)); exact HO237.out) (Kd.R_base ho0) hb); have n3_ := Aside0.mk (Kd.R_below (by (with_reducible repeat (first | apply Kd.R_alloc | apply Kd.R_drewN | apply Kd.R_drew)); exact HO241.out) hb); have n4_ := Aside0.mk (Kd.R_lower (Kd.R_new' (Kd.R_new' ho0 (Kd.R_lt (by (with_reducible repeat (first | apply Kd.R_alloc | apply Kd.R_drewN | apply Kd.R_drew)); exact HO230.out))) (Kd.R_lt (by (with_reducible repeat (first | apply Kd.R_alloc | apply Kd.R_drewN | apply Kd.R_drew)); exact HO237.out))) (below_size (by repeat (first | (with_reducible first | exact HB.out | apply below_alloc | apply pw_below_drewN | apply below_drew1) | exact HB.out)))); have n5_ := Aside0.mk (below_step (by repeat (first | (with_reducible first | exact HB.out | apply below_alloc | apply pw_below_drewN | apply below_drew1) | exact HB.out)) hb); clear HO230; clear HO234; clear HO237; clear HO241; clear HB; have HO230 := n0_; have HO234 := n1_; have HO237 := n2_; have HO241 := n3_; have HO244 := n4_; have HB := n5_; clear n0_ n1_ n2_ n3_ n4_ n5_; (try clear hb); (try clear hb2); (try clear hk); (try clear hi); (try clear ho0); obtain ⟨Ao135, co135, eo135⟩ := Kd.R_slice HO244.out; subst eo135) | ((with_reducible refine gate_callee (f := 13) rfl ?_); refine goesL_ (some 134) rfl rfl Tryd.func13 (by kernel_rfl) rfl #[.slice Ao135 t242.length co135] rfl (by (try simp only [List.map_toArray, List.map_cons, List.map_nil]); first | done | rfl | (simp only [List.length_drop, List.length_take]; rfl)) ?_; (with_reducible refine (stemma_Print.calls kj80 _ _ t242 t245 t246 _ ?side1 ?side2 A107.out).mono ?_); (case side1 => repeat (first | exact (Kd.R_reads' HO244.out).2.2 | (with_reducible refine Kd.C_alloc ?_ _) | (with_reducible refine Kd.C_drewN ?_ _) | (with_reducible refine Kd.C_drew ?_))); (case side2 => exact (Kd.R_reads' HO244.out).2.1); rintro e w136 ⟨rfl, hb⟩; refine ⟨_, rfl, ?_⟩; have n0_ := Aside0.mk (Kd.R_below (by (with_reducible repeat (first | apply Kd.R_alloc | apply Kd.R_drewN | apply Kd.R_drew)); exact HO230.out) hb); have n1_ := Aside0.mk (Kd.R_below (by (with_reducible repeat (first | apply Kd.R_alloc | apply Kd.R_drewN | apply Kd.R_drew)); exact HO234.out) hb); have n2_ := Aside0.mk (Kd.R_below (by (with_reducible repeat (first | apply Kd.R_alloc | apply Kd.R_drewN | apply Kd.R_drew)); exact HO237.out) hb); have n3_ := Aside0.mk (Kd.R_below (by (with_reducible repeat (first | apply Kd.R_alloc | apply Kd.R_drewN | apply Kd.R_drew)); exact HO241.out) hb); have n4_ := Aside0.mk (Kd.R_below (by (with_reducible repeat (first | apply Kd.R_alloc | apply Kd.R_drewN | apply Kd.R_drew)); exact HO244.out) hb); have n5_ := Aside0.mk (below_step (by repeat (first | (with_reducible first | exact HB.out | apply below_alloc | apply pw_below_drewN | apply below_drew1) | exact HB.out)) hb); clear HO230; clear HO234; clear HO237; clear HO241; clear HO244; clear HB; have HO230 := n0_; have HO234 := n1_; have HO237 := n2_; have HO241 := n3_; have HO244 := n4_; have HB := n5_; clear n0_ n1_ n2_ n3_ n4_ n5_; (try clear hb); (try clear hb2); (try clear hk); (try clear hi)) | ((with_reducible refine gate_callee (f := 6) rfl ?_); refine goesL_ (some 138) rfl rfl Tryd.func6 (by kernel_rfl) rfl #[.int .i64 1, .int .i64 1, .bool true] rfl (by (try simp only [List.map_toArray, List.map_cons, List.map_nil]); first | done | rfl | (simp only [List.length_drop, List.length_take]; rfl)) ?_; (with_reducible refine (cippuslaw07_copies.calls 1 1 true t247 _ A108.out).mono ?_); rintro e w137 ⟨v248, rfl, ho0, hb⟩; refine ⟨_, rfl, ?_⟩; have n0_ := Aside0.mk (Kd.R_elder' (by (with_reducible repeat (first | apply Kd.R_alloc | apply Kd.R_drewN | apply Kd.R_drew)); exact HO230.out) (Kd.R_base ho0) hb); have n1_ := Aside0.mk (Kd.R_below (by (with_reducible repeat (first | apply Kd.R_alloc | apply Kd.R_drewN | apply Kd.R_drew)); exact HO234.out) hb); have n2_ := Aside0.mk (Kd.R_elder' (by (with_reducible repeat (first | apply Kd.R_alloc | apply Kd.R_drewN | apply Kd.R_drew)); exact HO237.out) (Kd.R_base ho0) hb); have n3_ := Aside0.mk (Kd.R_below (by (with_reducible repeat (first | apply Kd.R_alloc | apply Kd.R_drewN | apply Kd.R_drew)); exact HO241.out) hb); have n4_ := Aside0.mk (Kd.R_elder' (by (with_reducible repeat (first | apply Kd.R_alloc | apply Kd.R_drewN | apply Kd.R_drew)); exact HO244.out) (Kd.R_base ho0) hb); have n5_ := Aside0.mk (Kd.R_lower (Kd.R_new' (Kd.R_new' (Kd.R_new' ho0 (Kd.R_lt (by (with_reducible repeat (first | apply Kd.R_alloc | apply Kd.R_drewN | apply Kd.R_drew)); exact HO230.out))) (Kd.R_lt (by (with_reducible repeat (first | apply Kd.R_alloc | apply Kd.R_drewN | apply Kd.R_drew)); exact HO237.out))) (Kd.R_lt (by (with_reducible repeat (first | apply Kd.R_alloc | apply Kd.R_drewN | apply Kd.R_drew)); exact HO244.out))) (below_size (by repeat (first | (with_reducible first | exact HB.out | apply below_alloc | apply pw_below_drewN | apply below_drew1) | exact HB.out)))); have n6_ := Aside0.mk (below_step (by repeat (first | (with_reducible first | exact HB.out | apply below_alloc | apply pw_below_drewN | apply below_drew1) | exact HB.out)) hb); clear HO230; clear HO234; clear HO237; clear HO241; clear HO244; clear HB; have HO230 := n0_; have HO234 := n1_; have HO237 := n2_; have HO241 := n3_; have HO244 := n4_; have HO249 := n5_; have HB := n6_; clear n0_ n1_ n2_ n3_ n4_ n5_ n6_; (try clear hb); (try clear hb2); (try clear hk); (try clear hi); (try clear ho0); obtain ⟨Ao138, co138, eo138⟩ := Kd.R_slice HO249.out; subst eo138) | ((with_reducible refine gate_callee (f := 14) rfl ?_); refine goesL_ (some 139) rfl rfl Tryd.func14 (by kernel_rfl) rfl #[.slice Ao138 t247.length co138] rfl (by (try simp only [List.map_toArray, List.map_cons, List.map_nil]); first | done | rfl | (simp only [List.length_drop, List.length_take]; rfl)) ?_; (with_reducible refine (stemma_Fewest.calls kj80 _ _ t247 t250 t251 _ ?side1 ?side2 A109.out).mono ?_); (case side1 => repeat (first | exact (Kd.R_reads' HO249.out).2.2 | (with_reducible refine Kd.C_alloc ?_ _) | (with_reducible refine Kd.C_drewN ?_ _) | (with_reducible refine Kd.C_drew ?_))); (case side2 => exact (Kd.R_reads' HO249.out).2.1); rintro e w139 ⟨rfl, hb⟩; refine ⟨_, rfl, ?_⟩; have n0_ := Aside0.mk (Kd.R_below (by (with_reducible repeat (first | apply Kd.R_alloc | apply Kd.R_drewN | apply Kd.R_drew)); exact HO230.out) hb); have n1_ := Aside0.mk (Kd.R_below (by (with_reducible repeat (first | apply Kd.R_alloc | apply Kd.R_drewN | apply Kd.R_drew)); exact HO234.out) hb); have n2_ := Aside0.mk (Kd.R_below (by (with_reducible repeat (first | apply Kd.R_alloc | apply Kd.R_drewN | apply Kd.R_drew)); exact HO237.out) hb); have n3_ := Aside0.mk (Kd.R_below (by (with_reducible repeat (first | apply Kd.R_alloc | apply Kd.R_drewN | apply Kd.R_drew)); exact HO241.out) hb); have n4_ := Aside0.mk (Kd.R_below (by (with_reducible repeat (first | apply Kd.R_alloc | apply Kd.R_drewN | apply Kd.R_drew)); exact HO244.out) hb); have n5_ := Aside0.mk (Kd.R_below (by (with_reducible repeat (first | apply Kd.R_alloc | apply Kd.R_drewN | apply Kd.R_drew)); exact HO249.out) hb); have n6_ := Aside0.mk (below_step (by repeat (first | (with_reducible first | exact HB.out | apply below_alloc | apply pw_below_drewN | apply below_drew1) | exact HB.out)) hb); clear HO230; clear HO234; clear HO237; clear HO241; clear HO244; clear HO249; clear HB; have HO230 := n0_; have HO234 := n1_; have HO237 := n2_; have HO241 := n3_; have HO244 := n4_; have HO249 := n5_; have HB := n6_; clear n0_ n1_ n2_ n3_ n4_ n5_ n6_; (try clear hb); (try clear hb2); (try clear hk); (try clear hi)) | ((with_reducible refine gate_callee (f := 6) rfl ?_); refine goesL_ (some 143) rfl rfl Tryd.func6 (by kernel_rfl) rfl #[.int .i64 0, .int .i64 1, .bool true] rfl (by (try simp only [List.map_toArray, List.map_cons, List.map_nil]); first | done | rfl | (simp only [List.length_drop, List.length_take]; rfl)) ?_; (with_reducible refine (cippuslaw07_copies.calls 0 1 true t252 _ A110.out).mono ?_); rintro e w140 ⟨v253, rfl, ho0, hb⟩; refine ⟨_, rfl, ?_⟩; have n0_ := Aside0.mk (Kd.R_elder' (by (with_reducible repeat (first | apply Kd.R_alloc | apply Kd.R_drewN | apply Kd.R_drew)); exact HO230.out) (Kd.R_base ho0) hb); have n1_ := Aside0.mk (Kd.R_below (by (with_reducible repeat (first | apply Kd.R_alloc | apply Kd.R_drewN | apply Kd.R_drew)); exact HO234.out) hb); have n2_ := Aside0.mk (Kd.R_elder' (by (with_reducible repeat (first | apply Kd.R_alloc | apply Kd.R_drewN | apply Kd.R_drew)); exact HO237.out) (Kd.R_base ho0) hb); have n3_ := Aside0.mk (Kd.R_below (by (with_reducible repeat (first | apply Kd.R_alloc | apply Kd.R_drewN | apply Kd.R_drew)); exact HO241.out) hb); have n4_ := Aside0.mk (Kd.R_elder' (by (with_reducible repeat (first | apply Kd.R_alloc | apply Kd.R_drewN | apply Kd.R_drew)); exact HO244.out) (Kd.R_base ho0) hb); have n5_ := Aside0.mk (Kd.R_elder' (by (with_reducible repeat (first | apply Kd.R_alloc | apply Kd.R_drewN | apply Kd.R_drew)); exact HO249.out) (Kd.R_base ho0) hb); have n6_ := Aside0.mk (Kd.R_lower (Kd.R_new' (Kd.R_new' (Kd.R_new' (Kd.R_new' ho0 (Kd.R_lt (by (with_reducible repeat (first | apply Kd.R_alloc | apply Kd.R_drewN | apply Kd.R_drew)); exact HO230.out))) (Kd.R_lt (by (with_reducible repeat (first | apply Kd.R_alloc | apply Kd.R_drewN | apply Kd.R_drew)); exact HO237.out))) (Kd.R_lt (by (with_reducible repeat (first | apply Kd.R_alloc | apply Kd.R_drewN | apply Kd.R_drew)); exact HO244.out))) (Kd.R_lt (by (with_reducible repeat (first | apply Kd.R_alloc | apply Kd.R_drewN | apply Kd.R_drew)); exact HO249.out))) (below_size (by repeat (first | (with_reducible first | exact HB.out | apply below_alloc | apply pw_below_drewN | apply below_drew1) | exact HB.out)))); have n7_ := Aside0.mk (below_step (by repeat (first | (with_reducible first | exact HB.out | apply below_alloc | apply pw_below_drewN | apply below_drew1) | exact HB.out)) hb); clear HO230; clear HO234; clear HO237; clear HO241; clear HO244; clear HO249; clear HB; have HO230 := n0_; have HO234 := n1_; have HO237 := n2_; have HO241 := n3_; have HO244 := n4_; have HO249 := n5_; have HO254 := n6_; have HB := n7_; clear n0_ n1_ n2_ n3_ n4_ n5_ n6_ n7_; (try clear hb); (try clear hb2); (try clear hk); (try clear hi); (try clear ho0); obtain ⟨Ao141, co141, eo141⟩ := Kd.R_slice HO254.out; subst eo141) | ((with_reducible refine gate_callee (f := 14) rfl ?_); refine goesL_ (some 144) rfl rfl Tryd.func14 (by kernel_rfl) rfl #[.slice Ao141 t252.length co141] rfl (by (try simp only [List.map_toArray, List.map_cons, List.map_nil]); first | done | rfl | (simp only [List.length_drop, List.length_take]; rfl)) ?_; (with_reducible refine (stemma_Fewest.calls kj80 _ _ t252 t255 t256 _ ?side1 ?side2 A111.out).mono ?_); (case side1 => repeat (first | exact (Kd.R_reads' HO254.out).2.2 | (with_reducible refine Kd.C_alloc ?_ _) | (with_reducible refine Kd.C_drewN ?_ _) | (with_reducible refine Kd.C_drew ?_))); (case side2 => exact (Kd.R_reads' HO254.out).2.1); rintro e w142 ⟨rfl, hb⟩; refine ⟨_, rfl, ?_⟩; have n0_ := Aside0.mk (Kd.R_below (by (with_reducible repeat (first | apply Kd.R_alloc | apply Kd.R_drewN | apply Kd.R_drew)); exact HO230.out) hb); have n1_ := Aside0.mk (Kd.R_below (by (with_reducible repeat (first | apply Kd.R_alloc | apply Kd.R_drewN | apply Kd.R_drew)); exact HO234.out) hb); have n2_ := Aside0.mk (Kd.R_below (by (with_reducible repeat (first | apply Kd.R_alloc | apply Kd.R_drewN | apply Kd.R_drew)); exact HO237.out) hb); have n3_ := Aside0.mk (Kd.R_below (by (with_reducible repeat (first | apply Kd.R_alloc | apply Kd.R_drewN | apply Kd.R_drew)); exact HO241.out) hb); have n4_ := Aside0.mk (Kd.R_below (by (with_reducible repeat (first | apply Kd.R_alloc | apply Kd.R_drewN | apply Kd.R_drew)); exact HO244.out) hb); have n5_ := Aside0.mk (Kd.R_below (by (with_reducible repeat (first | apply Kd.R_alloc | apply Kd.R_drewN | apply Kd.R_drew)); exact HO249.out) hb); have n6_ := Aside0.mk (Kd.R_below (by (with_reducible repeat (first | apply Kd.R_alloc | apply Kd.R_drewN | apply Kd.R_drew)); exact HO254.out) hb); have n7_ := Aside0.mk (below_step (by repeat (first | (with_reducible first | exact HB.out | apply below_alloc | apply pw_below_drewN | apply below_drew1) | exact HB.out)) hb); clear HO230; clear HO234; clear HO237; clear HO241; clear HO244; clear HO249; clear HO254; clear HB; have HO230 := n0_; have HO234 := n1_; have HO237 := n2_; have HO241 := n3_; have HO244 := n4_; have HO249 := n5_; have HO254 := n6_; have HB := n7_; clear n0_ n1_ n2_ n3_ n4_ n5_ n6_ n7_; (try clear hb); (try clear hb2); (try clear hk); (try clear hi)) | ((with_reducible refine gate_callee (f := 6) rfl ?_); refine goesL_ (some 148) rfl rfl Tryd.func6 (by kernel_rfl) rfl #[.int .i64 1, .int .i64 0, .bool true] rfl (by (try simp only [List.map_toArray, List.map_cons, List.map_nil]); first | done | rfl | (simp only [List.length_drop, List.length_take]; rfl)) ?_; (with_reducible refine (cippuslaw07_copies.calls 1 0 true t257 _ A112.out).mono ?_); rintro e w143 ⟨v258, rfl, ho0, hb⟩; refine ⟨_, rfl, ?_⟩; have n0_ := Aside0.mk (Kd.R_elder' (by (with_reducible repeat (first | apply Kd.R_alloc | apply Kd.R_drewN | apply Kd.R_drew)); exact HO230.out) (Kd.R_base ho0) hb); have n1_ := Aside0.mk (Kd.R_below (by (with_reducible repeat (first | apply Kd.R_alloc | apply Kd.R_drewN | apply Kd.R_drew)); exact HO234.out) hb); have n2_ := Aside0.mk (Kd.R_elder' (by (with_reducible repeat (first | apply Kd.R_alloc | apply Kd.R_drewN | apply Kd.R_drew)); exact HO237.out) (Kd.R_base ho0) hb); have n3_ := Aside0.mk (Kd.R_below (by (with_reducible repeat (first | apply Kd.R_alloc | apply Kd.R_drewN | apply Kd.R_drew)); exact HO241.out) hb); have n4_ := Aside0.mk (Kd.R_elder' (by (with_reducible repeat (first | apply Kd.R_alloc | apply Kd.R_drewN | apply Kd.R_drew)); exact HO244.out) (Kd.R_base ho0) hb); have n5_ := Aside0.mk (Kd.R_elder' (by (with_reducible repeat (first | apply Kd.R_alloc | apply Kd.R_drewN | apply Kd.R_drew)); exact HO249.out) (Kd.R_base ho0) hb); have n6_ := Aside0.mk (Kd.R_elder' (by (with_reducible repeat (first | apply Kd.R_alloc | apply Kd.R_drewN | apply Kd.R_drew)); exact HO254.out) (Kd.R_base ho0) hb); have n7_ := Aside0.mk (Kd.R_lower (Kd.R_new' (Kd.R_new' (Kd.R_new' (Kd.R_new' (Kd.R_new' ho0 (Kd.R_lt (by (with_reducible repeat (first | apply Kd.R_alloc | apply Kd.R_drewN | apply Kd.R_drew)); exact HO230.out))) (Kd.R_lt (by (with_reducible repeat (first | apply Kd.R_alloc | apply Kd.R_drewN | apply Kd.R_drew)); exact HO237.out))) (Kd.R_lt (by (with_reducible repeat (first | apply Kd.R_alloc | apply Kd.R_drewN | apply Kd.R_drew)); exact HO244.out))) (Kd.R_lt (by (with_reducible repeat (first | apply Kd.R_alloc | apply Kd.R_drewN | apply Kd.R_drew)); exact HO249.out))) (Kd.R_lt (by (with_reducible repeat (first | apply Kd.R_alloc | apply Kd.R_drewN | apply Kd.R_drew)); exact HO254.out))) (below_size (by repeat (first | (with_reducible first | exact HB.out | apply below_alloc | apply pw_below_drewN | apply below_drew1) | exact HB.out)))); have n8_ := Aside0.mk (below_step (by repeat (first | (with_reducible first | exact HB.out | apply below_alloc | apply pw_below_drewN | apply below_drew1) | exact HB.out)) hb); clear HO230; clear HO234; clear HO237; clear HO241; clear HO244; clear HO249; clear HO254; clear HB; have HO230 := n0_; have HO234 := n1_; have HO237 := n2_; have HO241 := n3_; have HO244 := n4_; have HO249 := n5_; have HO254 := n6_; have HO259 := n7_; have HB := n8_; clear n0_ n1_ n2_ n3_ n4_ n5_ n6_ n7_ n8_; (try clear hb); (try clear hb2); (try clear hk); (try clear hi); (try clear ho0); obtain ⟨Ao144, co144, eo144⟩ := Kd.R_slice HO259.out; subst eo144) | ((with_reducible refine gate_callee (f := 15) rfl ?_); refine goesL_ (some 149) rfl rfl Tryd.func15 (by kernel_rfl) rfl #[.slice Ao144 t257.length co144] rfl (by (try simp only [List.map_toArray, List.map_cons, List.map_nil]); first | done | rfl | (simp only [List.length_drop, List.length_take]; rfl)) ?_; (with_reducible refine (stemma_Write.calls kj80 _ _ t257 t260 t261 _ ?side1 ?side2 A113.out).mono ?_); (case side1 => repeat (first | exact (Kd.R_reads' HO259.out).2.2 | (with_reducible refine Kd.C_alloc ?_ _) | (with_reducible refine Kd.C_drewN ?_ _) | (with_reducible refine Kd.C_drew ?_))); (case side2 => exact (Kd.R_reads' HO259.out).2.1); rintro e w145 ⟨rfl, hb⟩; refine ⟨_, rfl, ?_⟩; have n0_ := Aside0.mk (Kd.R_below (by (with_reducible repeat (first | apply Kd.R_alloc | apply Kd.R_drewN | apply Kd.R_drew)); exact HO230.out) hb); have n1_ := Aside0.mk (Kd.R_below (by (with_reducible repeat (first | apply Kd.R_alloc | apply Kd.R_drewN | apply Kd.R_drew)); exact HO234.out) hb); have n2_ := Aside0.mk (Kd.R_below (by (with_reducible repeat (first | apply Kd.R_alloc | apply Kd.R_drewN | apply Kd.R_drew)); exact HO237.out) hb); have n3_ := Aside0.mk (Kd.R_below (by (with_reducible repeat (first | apply Kd.R_alloc | apply Kd.R_drewN | apply Kd.R_drew)); exact HO241.out) hb); have n4_ := Aside0.mk (Kd.R_below (by (with_reducible repeat (first | apply Kd.R_alloc | apply Kd.R_drewN | apply Kd.R_drew)); exact HO244.out) hb); have n5_ := Aside0.mk (Kd.R_below (by (with_reducible repeat (first | apply Kd.R_alloc | apply Kd.R_drewN | apply Kd.R_drew)); exact HO249.out) hb); have n6_ := Aside0.mk (Kd.R_below (by (with_reducible repeat (first | apply Kd.R_alloc | apply Kd.R_drewN | apply Kd.R_drew)); exact HO254.out) hb); have n7_ := Aside0.mk (Kd.R_below (by (with_reducible repeat (first | apply Kd.R_alloc | apply Kd.R_drewN | apply Kd.R_drew)); exact HO259.out) hb); have n8_ := Aside0.mk (below_step (by repeat (first | (with_reducible first | exact HB.out | apply below_alloc | apply pw_below_drewN | apply below_drew1) | exact HB.out)) hb); clear HO230; clear HO234; clear HO237; clear HO241; clear HO244; clear HO249; clear HO254; clear HO259; clear HB; have HO230 := n0_; have HO234 := n1_; have HO237 := n2_; have HO241 := n3_; have HO244 := n4_; have HO249 := n5_; have HO254 := n6_; have HO259 := n7_; have HB := n8_; clear n0_ n1_ n2_ n3_ n4_ n5_ n6_ n7_ n8_; (try clear hb); (try clear hb2); (try clear hk); (try clear hi); obtain ⟨Ao146, co146, eo146⟩ := Kd.R_slice HO241.out; subst eo146; have p262 : 0 ≤ (0 : Int) := (by omega); have q262 : 0 < (t238.length : Int) := of_decide_eq_true (by first | (with_reducible assumption) | assumption); obtain ⟨ad262, e262, hx262_0⟩ := Kd.at_string (Kd.R_reads' HO241.out).2.2 0 p262 q262; cases e262; have qi262 : (0 < t238.length) = True := eq_true (by omega); (try rw [show ((0 : Int)).toNat = 0 from rfl] at hx262_0); (try rw [Addr.add_zero'] at hx262_0); replace p262 := eq_true p262; replace q262 := eq_true q262) | ((with_reducible refine gate_dst (N := 199) rfl ?_); (try (refine gate_guard (by rfl) ?_; dsimp only)); refine Kd.R_lit Kd.string _ 9 ?hg (N := 199) ?hd (xs := ([(⟨#[65]⟩ : ByteArray), (⟨#[82]⟩ : ByteArray), (⟨#[77]⟩ : ByteArray), (⟨#[65]⟩ : ByteArray)] : List ByteArray)) (inner := [.string (⟨#[65]⟩ : ByteArray), .string (⟨#[82]⟩ : ByteArray), .string (⟨#[77]⟩ : ByteArray), .string (⟨#[65]⟩ : ByteArray)]) (ok := fun _ => True) (okp := fun _ => True) ?hr ?hp (fun _ hk => hk) trivial (Below.refl _ _) (Nat.le_refl _) (by simp) ?_; (case hd => rfl); (case hg => rfl); (case hr => first | (go_simp; done) | (go_simp; rfl)); (case hp => exact (Reps.one (show Kd.M Kd.string _ _ _ (⟨#[65]⟩ : ByteArray) [.string (⟨#[65]⟩ : ByteArray)] from rfl) (Reps.one (show Kd.M Kd.string _ _ _ (⟨#[82]⟩ : ByteArray) [.string (⟨#[82]⟩ : ByteArray)] from rfl) (Reps.one (show Kd.M Kd.string _ _ _ (⟨#[77]⟩ : ByteArray) [.string (⟨#[77]⟩ : ByteArray)] from rfl) (Reps.one (show Kd.M Kd.string _ _ _ (⟨#[65]⟩ : ByteArray) [.string (⟨#[65]⟩ : ByteArray)] from rfl) (Reps.none _ _)))))); intro v264 w147 ho148 hb hg_ hnew_; clear hg_ hnew_; (first | rw [← Ny263.out] at ho148 | (simp only [Int.reduceToNat] at ho148; rw [← Ny263.out] at ho148)); have n0_ := Aside0.mk (Kd.R_below (by (with_reducible repeat (first | apply Kd.R_alloc | apply Kd.R_drewN | apply Kd.R_drew)); exact HO230.out) hb); have n1_ := Aside0.mk (Kd.R_elder' (by (with_reducible repeat (first | apply Kd.R_alloc | apply Kd.R_drewN | apply Kd.R_drew)); exact HO234.out) (Kd.R_base ho148) hb); have n2_ := Aside0.mk (Kd.R_below (by (with_reducible repeat (first | apply Kd.R_alloc | apply Kd.R_drewN | apply Kd.R_drew)); exact HO237.out) hb); have n3_ := Aside0.mk (Kd.R_elder' (by (with_reducible repeat (first | apply Kd.R_alloc | apply Kd.R_drewN | apply Kd.R_drew)); exact HO241.out) (Kd.R_base ho148) hb); have n4_ := Aside0.mk (Kd.R_below (by (with_reducible repeat (first | apply Kd.R_alloc | apply Kd.R_drewN | apply Kd.R_drew)); exact HO244.out) hb); have n5_ := Aside0.mk (Kd.R_below (by (with_reducible repeat (first | apply Kd.R_alloc | apply Kd.R_drewN | apply Kd.R_drew)); exact HO249.out) hb); have n6_ := Aside0.mk (Kd.R_below (by (with_reducible repeat (first | apply Kd.R_alloc | apply Kd.R_drewN | apply Kd.R_drew)); exact HO254.out) hb); have n7_ := Aside0.mk (Kd.R_below (by (with_reducible repeat (first | apply Kd.R_alloc | apply Kd.R_drewN | apply Kd.R_drew)); exact HO259.out) hb); have n8_ := Aside0.mk (Kd.R_lower (Kd.R_new' (Kd.R_new' ho148 (Kd.R_lt (by (with_reducible repeat (first | apply Kd.R_alloc | apply Kd.R_drewN | apply Kd.R_drew)); exact HO234.out))) (Kd.R_lt (by (with_reducible repeat (first | apply Kd.R_alloc | apply Kd.R_drewN | apply Kd.R_drew)); exact HO241.out))) (below_size (by repeat (first | (with_reducible first | exact HB.out | apply below_alloc | apply pw_below_drewN | apply below_drew1) | exact HB.out)))); have n9_ := Aside0.mk (below_step (by repeat (first | (with_reducible first | exact HB.out | apply below_alloc | apply pw_below_drewN | apply below_drew1) | exact HB.out)) hb); clear HO230; clear HO234; clear HO237; clear HO241; clear HO244; clear HO249; clear HO254; clear HO259; clear HB; have HO230 := n0_; have HO234 := n1_; have HO237 := n2_; have HO241 := n3_; have HO244 := n4_; have HO249 := n5_; have HO254 := n6_; have HO259 := n7_; have HO265 := n8_; have HB := n9_; clear n0_ n1_ n2_ n3_ n4_ n5_ n6_ n7_ n8_ n9_; clear hb ho148; obtain ⟨Ao149, co149, eo149⟩ := Kd.R_slice HO234.out; subst eo149; obtain ⟨Ao150, co150, eo150⟩ := Kd.R_slice HO265.out; subst eo150) | (go_at_call 16; (with_reducible refine (cippuskit_SameTexts.calls kj80 _ _ t231 _ _ y263 true _ ?side1 ?side2 ?side3 ?side4 A126.out).mono ?_); (case side1 => repeat (first | exact (Kd.R_reads' HO234.out).2.2 | (with_reducible refine Kd.C_alloc ?_ _) | (with_reducible refine Kd.C_drewN ?_ _) | (with_reducible refine Kd.C_drew ?_))); (case side2 => exact (Kd.R_reads' HO234.out).2.1); (case side3 => repeat (first | exact (Kd.R_reads' HO265.out).2.2 | (with_reducible refine Kd.C_alloc ?_ _) | (with_reducible refine Kd.C_drewN ?_ _) | (with_reducible refine Kd.C_drew ?_))); (case side4 => exact (Kd.R_reads' HO265.out).2.1); rintro e w' ⟨rfl, ⟨nd, rfl⟩⟩))
                                                go_ret
                                                exact ⟨by first | rfl | (simp [errW_none, errW_some] <;> rfl) | (simp [*, errW_none, errW_some] <;> rfl), by repeat (first | (with_reducible first | exact HB.out | apply below_alloc | apply pw_below_drewN | apply below_drew1) | exact HB.out)⟩
                                              · replace c127 := Bool.eq_false_iff.mpr c127
                                                subst c127
                                                have H1 : (some false) = some true := by rw [if_neg (show ¬ (false = true) by decide)] at H; exact H
                                                clear H
                                                have H := H1
                                                clear H1
                                                exact absurd (Option.some.inj H) (by decide)
                                            · rw [if_neg c125] at H
                                              have c125b0 : ((rdOf ByteArray.empty t238 0).toList == ([65, 66, 67, 68, 69, 70, 71, 72, 73, 74, 75, 76, 77, 78, 79, 80, 81, 82, 83, 84, 85, 86, 87, 88, 89, 90] : List UInt8)) = false := beq_eq_false_iff_ne.mpr c125
                                              have c125b1 : ((rdOf ByteArray.empty t238 0).toList != ([65, 66, 67, 68, 69, 70, 71, 72, 73, 74, 75, 76, 77, 78, 79, 80, 81, 82, 83, 84, 85, 86, 87, 88, 89, 90] : List UInt8)) = true := bne_iff_ne.mpr c125
                                              exact absurd (Option.some.inj H) (by decide)
                                          · rw [if_neg c124] at H
                                            exact absurd H (by simp)
                                        · rw [if_neg c123] at H
                                          have c123b0 : ((t238.length : Int) == 4) = false := beq_eq_false_iff_ne.mpr c123
                                          have c123b1 : ((t238.length : Int) != 4) = true := bne_iff_ne.mpr c123
                                          exact absurd (Option.some.inj H) (by decide)
                                      · rw [if_neg c122] at H
                                        have c122b0 : (t255 == 2) = false := beq_eq_false_iff_ne.mpr c122
                                        have c122b1 : (t255 != 2) = true := bne_iff_ne.mpr c122
                                        exact absurd (Option.some.inj H) (by decide)
                                    · rw [if_neg c121] at H
                                      have c121b0 : (t250 == 2) = false := beq_eq_false_iff_ne.mpr c121
                                      have c121b1 : (t250 != 2) = true := bne_iff_ne.mpr c121
                                      exact absurd (Option.some.inj H) (by decide)
                                  · rw [if_neg c120] at H
                                    have c120b0 : (t245.toList == ([45, 45, 45, 45] : List UInt8)) = false := beq_eq_false_iff_ne.mpr c120
                                    have c120b1 : (t245.toList != ([45, 45, 45, 45] : List UInt8)) = true := bne_iff_ne.mpr c120
                                    exact absurd (Option.some.inj H) (by decide)
                                · rw [if_neg c119] at H
                                  have c119b0 : (t261 == 0) = false := beq_eq_false_iff_ne.mpr c119
                                  have c119b1 : (t261 != 0) = true := bne_iff_ne.mpr c119
                                  exact absurd (Option.some.inj H) (by decide)
                              · rw [if_neg c118] at H
                                have c118b0 : (t256 == 0) = false := beq_eq_false_iff_ne.mpr c118
                                have c118b1 : (t256 != 0) = true := bne_iff_ne.mpr c118
                                exact absurd (Option.some.inj H) (by decide)
                            · rw [if_neg c117] at H
                              have c117b0 : (t251 == 0) = false := beq_eq_false_iff_ne.mpr c117
                              have c117b1 : (t251 != 0) = true := bne_iff_ne.mpr c117
                              exact absurd (Option.some.inj H) (by decide)
                          · rw [if_neg c116] at H
                            have c116b0 : (t246 == 0) = false := beq_eq_false_iff_ne.mpr c116
                            have c116b1 : (t246 != 0) = true := bne_iff_ne.mpr c116
                            exact absurd (Option.some.inj H) (by decide)
                        · rw [if_neg c115] at H
                          have c115b0 : (t239 == 0) = false := beq_eq_false_iff_ne.mpr c115
                          have c115b1 : (t239 != 0) = true := bne_iff_ne.mpr c115
                          exact absurd (Option.some.inj H) (by decide)
                      · rw [if_neg c114] at H
                        have c114b0 : (t232 == 0) = false := beq_eq_false_iff_ne.mpr c114
                        have c114b1 : (t232 != 0) = true := bne_iff_ne.mpr c114
                        exact absurd (Option.some.inj H) (by decide)
  · rw [if_neg c3] at H
    exact absurd H (by simp)
def cippuslaw07_StemmaKnown.Pure : Prop := ∃ k, cippuslaw07_StemmaKnown.f k  = some true
theorem cippuslaw07_StemmaKnown.walk (P : cippuslaw07_StemmaKnown.Pure)  (w : World)  :
    Calls Tryd.prog 3 #[] w fun e w' => e = .returned (.bool true) ∧ Below w.heap.size w w' := by
  obtain ⟨k, h⟩ := P
  refine (cippuslaw07_StemmaKnown.calls k  w h).mono ?_
  rintro e w' ⟨rfl, hd⟩
  exact ⟨rfl, hd⟩
end Go.Proofs.YtecdjnabmjhakaaDoor.P
namespace Go.Proofs.YtecdjnabmjhakaaDoor.Pure
open Go.RowKit Go.Proofs.YtecdjnabmjhakaaDoor.P
theorem known_40 : cippuslaw07_StemmaKnown.f 40 = some true := by kernel_rfl
theorem StemmaKnown : cippuslaw07_StemmaKnown.Pure := ⟨40, known_40⟩
end Go.Proofs.YtecdjnabmjhakaaDoor.Pure
