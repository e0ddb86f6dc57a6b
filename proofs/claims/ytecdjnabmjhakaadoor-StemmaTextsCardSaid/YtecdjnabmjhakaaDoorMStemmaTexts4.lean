/- Lemmas for the statement StemmaTexts of the given program, for every input that its row lets in. Conditions: none beyond those that each lemma tells. -/
import Derived.Lib.Hide
import Derived.Deep.AppendLies
import Derived.WalkKit
import Derived.Deep.RegionHeld3
import Derived.Deep.RegionWith
import Derived.Deep.RegionLaw
import Derived.StillTailTactics
import Derived.Deep.DeepCutAuto
import Derived.WalkSpells
import Derived.Test.YtecdjnabmjhakaaDoorMStemmaTexts3
set_option linter.unusedVariables false
set_option linter.unusedSimpArgs false
namespace Go.Proofs.YtecdjnabmjhakaaDoor.P
open Go.RowKit Go.Proofs.YtecdjnabmjhakaaDoorW.PrintWords Go.Proofs.YtecdjnabmjhakaaDoorW.PrintLast Go.Proofs.YtecdjnabmjhakaaDoorW.PrintMore
attribute [local go_sem] max2_int min2_int max_two min_two max_three min_three max_four min_four   -- for this text's walks alone
set_option linter.unusedVariables false
set_option linter.unusedSimpArgs false
def stemma_Write.l0 : Nat → List (S25) → ByteArray → List (S25) → Int → Int → Option (ByteArray × Int)
  | 0, _, _, _, _, _ => none
  | k + 1, x0, x5, x22, x23, x24 => if x24 < x23 then (if 0 ≤ x24 then (if x24 < (x22.length : Int) then (if (rd_T25 x22 x24).f2 = true then (if 3 + 1 ≤ 9223372036854775807 then (if 4 + ((rd_T25 x22 x24).f0).size ≤ 9223372036854775807 then (if (((⟨#[115, 97, 119]⟩ : ByteArray) ++ (⟨#[32]⟩ : ByteArray)) ++ ((rd_T25 x22 x24).f0)).size + 1 ≤ 9223372036854775807 then ((strconv_Itoa.f ((rd_T25 x22 x24).f1)).bind fun t161 => (if ((((⟨#[115, 97, 119]⟩ : ByteArray) ++ (⟨#[32]⟩ : ByteArray)) ++ ((rd_T25 x22 x24).f0)) ++ (⟨#[32]⟩ : ByteArray)).size + t161.size ≤ 9223372036854775807 then (if (((((⟨#[115, 97, 119]⟩ : ByteArray) ++ (⟨#[32]⟩ : ByteArray)) ++ ((rd_T25 x22 x24).f0)) ++ (⟨#[32]⟩ : ByteArray)) ++ t161).size + 1 ≤ 9223372036854775807 then (if x5.size + ((((((⟨#[115, 97, 119]⟩ : ByteArray) ++ (⟨#[32]⟩ : ByteArray)) ++ ((rd_T25 x22 x24).f0)) ++ (⟨#[32]⟩ : ByteArray)) ++ t161) ++ (⟨#[10]⟩ : ByteArray)).size ≤ 9223372036854775807 then (stemma_Write.l0 k x0 (x5 ++ ((((((⟨#[115, 97, 119]⟩ : ByteArray) ++ (⟨#[32]⟩ : ByteArray)) ++ ((rd_T25 x22 x24).f0)) ++ (⟨#[32]⟩ : ByteArray)) ++ t161) ++ (⟨#[10]⟩ : ByteArray))) x22 x23 (wrap64 (x24 + 1))) else (none)) else (none)) else (none))) else (none)) else (none)) else (none)) else (if 3 + 1 ≤ 9223372036854775807 then (if 4 + ((rd_T25 x22 x24).f0).size ≤ 9223372036854775807 then (if (((⟨#[104, 97, 100]⟩ : ByteArray) ++ (⟨#[32]⟩ : ByteArray)) ++ ((rd_T25 x22 x24).f0)).size + 1 ≤ 9223372036854775807 then ((strconv_Itoa.f ((rd_T25 x22 x24).f1)).bind fun t162 => (if ((((⟨#[104, 97, 100]⟩ : ByteArray) ++ (⟨#[32]⟩ : ByteArray)) ++ ((rd_T25 x22 x24).f0)) ++ (⟨#[32]⟩ : ByteArray)).size + t162.size ≤ 9223372036854775807 then (if (((((⟨#[104, 97, 100]⟩ : ByteArray) ++ (⟨#[32]⟩ : ByteArray)) ++ ((rd_T25 x22 x24).f0)) ++ (⟨#[32]⟩ : ByteArray)) ++ t162).size + 1 ≤ 9223372036854775807 then (if x5.size + ((((((⟨#[104, 97, 100]⟩ : ByteArray) ++ (⟨#[32]⟩ : ByteArray)) ++ ((rd_T25 x22 x24).f0)) ++ (⟨#[32]⟩ : ByteArray)) ++ t162) ++ (⟨#[10]⟩ : ByteArray)).size ≤ 9223372036854775807 then (stemma_Write.l0 k x0 (x5 ++ ((((((⟨#[104, 97, 100]⟩ : ByteArray) ++ (⟨#[32]⟩ : ByteArray)) ++ ((rd_T25 x22 x24).f0)) ++ (⟨#[32]⟩ : ByteArray)) ++ t162) ++ (⟨#[10]⟩ : ByteArray))) x22 x23 (wrap64 (x24 + 1))) else (none)) else (none)) else (none))) else (none)) else (none)) else (none))) else (none)) else (none)) else (if x5.size + 7 ≤ 9223372036854775807 then ((strconv_Itoa.f (x0.length : Int)).bind fun t163 => (if (x5 ++ (⟨#[99, 111, 112, 105, 101, 115, 32]⟩ : ByteArray)).size + t163.size ≤ 9223372036854775807 then (if ((x5 ++ (⟨#[99, 111, 112, 105, 101, 115, 32]⟩ : ByteArray)) ++ t163).size + 1 ≤ 9223372036854775807 then (some (((x5 ++ (⟨#[99, 111, 112, 105, 101, 115, 32]⟩ : ByteArray)) ++ t163) ++ (⟨#[10]⟩ : ByteArray), 0)) else (none)) else (none))) else (none))
def stemma_Write.f (k : Nat) (l0 : List (S25)) : Option (ByteArray × Int) := (stemma_Check.f k l0).bind fun t156 => (if t156 = 0 then (if 0 < (l0.length : Int) then ((strconv_Itoa.f (((rd_T25 l0 0).f0).size : Int)).bind fun t158 => (if 7 + t158.size ≤ 9223372036854775807 then (if ((⟨#[112, 108, 97, 99, 101, 115, 32]⟩ : ByteArray) ++ t158).size + 1 ≤ 9223372036854775807 then (stemma_Write.l0 k l0 (((⟨#[112, 108, 97, 99, 101, 115, 32]⟩ : ByteArray) ++ t158) ++ (⟨#[10]⟩ : ByteArray)) l0 (l0.length : Int) 0) else (none)) else (none))) else (none)) else (some ((⟨#[]⟩ : ByteArray), t156)))
def stemma_Write.T11 : Bool × List (List Nat × List Nat) := (true, [([], []), ([], []), ([1], [1]), ([], []), ([3], [3]), ([2, 4], [2, 4]), ([5], [5]), ([], []), ([7], [7]), ([8], [8]), ([6, 9], [6, 9]), ([10], [10]), ([0, 11], [0, 11]), ([12, 9, 0, 1, 2, 3, 4, 5, 6, 7, 8, 9, 10, 11, 12], [0, 12])])
def stemma_Write.B11 : List Nat := [0, 0, 2, 0, 8, 30, 62, 0, 128, 384, 1022, 2046, 4095, 8191]
theorem stemma_Write.tab11 : rtab .any (opsOf Tryd.f15 11) = stemma_Write.T11 := by kernel_rfl
theorem stemma_Write.bits11 : waitsOk stemma_Write.T11.2 stemma_Write.B11 = true := by kernel_rfl
set_option maxHeartbeats 8000000 in
set_option maxRecDepth 100000 in
theorem stemma_Write.calls (k : Nat) (A0 : Option Addr) (c0 : Nat) (l0 : List (S25)) (r1 : ByteArray) (r2 : Int) (w : World) (hr0 : Kd.C k25 w A0 l0.length l0) (hc0 : l0.length ≤ c0) (h : stemma_Write.f k l0 = some (r1, r2)) :
    Calls Tryd.prog 15 #[.slice A0 l0.length c0] w fun e w' => e = .returned (.tuple #[.string r1, .int .i64 r2]) ∧ Below w.heap.size w w' := by
  have hu25 := Tryd.underlying25
  have HR0 := Aside0.mk hr0
  have HC0 := Aside0.mk hc0
  clear hr0 hc0
  have HB := Aside0.mk (Below.refl w.heap.size w)
  have H : ((stemma_Check.f k l0).bind fun t156 => (if t156 = 0 then (if 0 < (l0.length : Int) then ((strconv_Itoa.f (((rd_T25 l0 0).f0).size : Int)).bind fun t158 => (if 7 + t158.size ≤ 9223372036854775807 then (if ((⟨#[112, 108, 97, 99, 101, 115, 32]⟩ : ByteArray) ++ t158).size + 1 ≤ 9223372036854775807 then (stemma_Write.l0 k l0 (((⟨#[112, 108, 97, 99, 101, 115, 32]⟩ : ByteArray) ++ t158) ++ (⟨#[10]⟩ : ByteArray)) l0 (l0.length : Int) 0) else (none)) else (none))) else (none)) else (some ((⟨#[]⟩ : ByteArray), t156)))) = some (r1, r2) := h
  clear h
  replace H := Option.bind_eq_some_iff.mp H
  obtain ⟨t156, A20, H⟩ := H
  replace H : (if t156 = 0 then (if 0 < (l0.length : Int) then ((strconv_Itoa.f (((rd_T25 l0 0).f0).size : Int)).bind fun t158 => (if 7 + t158.size ≤ 9223372036854775807 then (if ((⟨#[112, 108, 97, 99, 101, 115, 32]⟩ : ByteArray) ++ t158).size + 1 ≤ 9223372036854775807 then (stemma_Write.l0 k l0 (((⟨#[112, 108, 97, 99, 101, 115, 32]⟩ : ByteArray) ++ t158) ++ (⟨#[10]⟩ : ByteArray)) l0 (l0.length : Int) 0) else (none)) else (none))) else (none)) else (some ((⟨#[]⟩ : ByteArray), t156))) = some (r1, r2) := H
  have A2 := Aside0.mk A20
  clear A20
  by_cases c3 : t156 = 0
  · rw [if_pos c3] at H
    have c3b0 : (t156 == 0) = true := beq_iff_eq.mpr c3
    have c3b1 : (t156 != 0) = false := bne_eq_false_iff_eq.mpr c3
    clear c3
    by_cases c4 : 0 < (l0.length : Int)
    · rw [if_pos c4] at H
      have c4b0 : decide (0 < (l0.length : Int)) = true := decide_eq_true c4
      have c4b1 : decide (0 < l0.length) = true := decide_eq_true (by omega)
      clear c4
      replace H := Option.bind_eq_some_iff.mp H
      obtain ⟨t158, A50, H⟩ := H
      replace H : (if 7 + t158.size ≤ 9223372036854775807 then (if ((⟨#[112, 108, 97, 99, 101, 115, 32]⟩ : ByteArray) ++ t158).size + 1 ≤ 9223372036854775807 then (stemma_Write.l0 k l0 (((⟨#[112, 108, 97, 99, 101, 115, 32]⟩ : ByteArray) ++ t158) ++ (⟨#[10]⟩ : ByteArray)) l0 (l0.length : Int) 0) else (none)) else (none)) = some (r1, r2) := H
      have A5 := Aside0.mk A50
      clear A50
      by_cases c6 : 7 + t158.size ≤ 9223372036854775807
      · rw [if_pos c6] at H
        have c6b0 := eq_true c6
        have c6b1 : decide (7 + t158.size ≤ 9223372036854775807) = true := decide_eq_true c6
        try have c6b2 : (9223372036854775807 < 7 + t158.size) = False := eq_false (Nat.not_lt.2 c6)
        by_cases c7 : ((⟨#[112, 108, 97, 99, 101, 115, 32]⟩ : ByteArray) ++ t158).size + 1 ≤ 9223372036854775807
        · rw [if_pos c7] at H
          have c7b0 := eq_true c7
          have c7b1 : decide (((⟨#[112, 108, 97, 99, 101, 115, 32]⟩ : ByteArray) ++ t158).size + 1 ≤ 9223372036854775807) = true := decide_eq_true c7
          try have c7b2 : (9223372036854775807 < ((⟨#[112, 108, 97, 99, 101, 115, 32]⟩ : ByteArray) ++ t158).size + 1) = False := eq_false (Nat.not_lt.2 c7)
          try (have c7b8 := c7b2; simp only [ByteArray.size_append, show (⟨#[112, 108, 97, 99, 101, 115, 32]⟩ : ByteArray).size = 7 from rfl,  Nat.reduceAdd] at c7b8)
          have H' := Aside0.mk H
          clear H
          go_enter Tryd.func15, Tryd.ntmps15
          go_wp2_with (first | ((with_reducible refine gate_callee (f := 8) rfl ?_); refine goesL_ (some 10) rfl rfl Tryd.func8 (by kernel_rfl) rfl #[.slice A0 l0.length c0] rfl (by (try simp only [List.map_toArray, List.map_cons, List.map_nil]); first | done | rfl | (simp only [List.length_drop, List.length_take]; rfl)) ?_; (with_reducible refine (stemma_Check.calls k _ _ l0 t156 _ ?side1 ?side2 A2.out).mono ?_); (case side1 => repeat (first | exact HR0.out | (with_reducible refine Kd.C_alloc ?_ _) | (with_reducible refine Kd.C_drewN ?_ _) | (with_reducible refine Kd.C_drew ?_))); (case side2 => exact HC0.out); rintro e w8 ⟨rfl, hb⟩; refine ⟨_, rfl, ?_⟩; have n0_ := Aside0.mk (below_step (by repeat (first | (with_reducible first | exact HB.out | apply below_alloc | apply pw_below_drewN | apply below_drew1) | exact HB.out)) hb); clear HB; have HB := n0_; clear n0_; (try clear hb); (try clear hb2); (try clear hk); (try clear hi); have p157 : 0 ≤ (0 : Int) := (by omega); have q157 : 0 < (l0.length : Int) := of_decide_eq_true (by first | (with_reducible assumption) | assumption); obtain ⟨ad157, e157, hx157_0, hx157_1, hx157_2⟩ := at_T25 HR0.out 0 p157 q157; cases e157; have qi157 : (0 < l0.length) = True := eq_true (by omega); (try rw [show ((0 : Int)).toNat = 0 from rfl] at hx157_0); (try rw [show 0 * 3 = 0 from rfl] at hx157_0); (try rw [Addr.add_zero'] at hx157_0); (try rw [show ((0 : Int)).toNat = 0 from rfl] at hx157_1); (try rw [show 0 * 3 = 0 from rfl] at hx157_1); (try rw [Addr.add_zero'] at hx157_1); (try rw [show ((0 : Int)).toNat = 0 from rfl] at hx157_2); (try rw [show 0 * 3 = 0 from rfl] at hx157_2); (try rw [Addr.add_zero'] at hx157_2); replace hx157_0 := (HB.out.cell (World.block_lt_of_cell? w _ hx157_0)).trans hx157_0; replace hx157_1 := (HB.out.cell (World.block_lt_of_cell? w _ hx157_1)).trans hx157_1; replace hx157_2 := (HB.out.cell (World.block_lt_of_cell? w _ hx157_2)).trans hx157_2; replace p157 := eq_true p157; replace q157 := eq_true q157) | ((with_reducible refine gate_callee (f := 37) rfl ?_); refine goesL_ (some 19) rfl rfl Tryd.func37 (by kernel_rfl) rfl #[.int .i64 (((rd_T25 l0 0).f0).size : Int)] rfl (by (try simp only [List.map_toArray, List.map_cons, List.map_nil]); first | done | rfl | (simp only [List.length_drop, List.length_take]; rfl)) ?_; (with_reducible refine (strconv_Itoa.calls (((rd_T25 l0 0).f0).size : Int) t158 _ A5.out).mono ?_); rintro e w9 ⟨rfl, hb⟩; refine ⟨_, rfl, ?_⟩; have n0_ := Aside0.mk (below_step (by repeat (first | (with_reducible first | exact HB.out | apply below_alloc | apply pw_below_drewN | apply below_drew1) | exact HB.out)) hb); clear HB; have HB := n0_; clear n0_; (try clear hb); (try clear hb2); (try clear hk); (try clear hi)))
          go_loopg [5, 24] k (fun kq v5 v24 w' => ∃ (x5_1 : ByteArray) (x24_1 : Int), v5 = .string x5_1 ∧ v24 = .int .i64 x24_1 ∧ Aside0 (stemma_Write.l0 kq l0 x5_1 l0 (l0.length : Int) x24_1 = some (r1, r2)) ∧ Aside0 (kq ≤ k) ∧ Aside0 (Below w.heap.size w w'))
          case atStart => exact ⟨(((⟨#[112, 108, 97, 99, 101, 115, 32]⟩ : ByteArray) ++ t158) ++ (⟨#[10]⟩ : ByteArray)), (0), (by first | rfl | (simp; done) | (simp [*]; done)), (by first | rfl | (simp; done) | (simp [*]; done)), H', ⟨Nat.le_refl _⟩, ⟨by repeat (first | (with_reducible first | exact HB.out | apply below_alloc | apply pw_below_drewN | apply below_drew1) | exact HB.out)⟩⟩
          case round =>
            clear H'
            try clear c1
            try clear p1
            try clear q1
            try clear hx1
            try clear qi1
            try clear p2
            try clear c3
            try clear c3b0
            try clear c3b1
            try clear c4
            try clear c4b0
            try clear c4b1
            try clear c6
            try clear c6b0
            try clear c6b1
            try clear c6b2
            try clear c7
            try clear c7b0
            try clear c7b1
            try clear c7b2
            try clear c8
            try clear hx157_0
            try clear hx157_1
            try clear hx157_2
            try clear p157
            try clear q157
            obtain ⟨x5_1, x24_1, rfl, rfl, HA, HK1, HB⟩ := hrel
            cases gk with
            | zero => exact absurd HA.out (by simp [stemma_Write.l0])
            | succ k1 =>
              have H := HA.out
              clear HA
              simp only [stemma_Write.l0] at H
              by_cases c10 : x24_1 < (l0.length : Int)
              · rw [if_pos c10] at H
                have c10b0 : decide (x24_1 < (l0.length : Int)) = true := decide_eq_true c10
                clear c10
                by_cases c11 : 0 ≤ x24_1
                · rw [if_pos c11] at H
                  have c11b0 : decide (0 ≤ x24_1) = true := decide_eq_true c11
                  clear c11
                  by_cases c12 : x24_1 < (l0.length : Int)
                  · rw [if_pos c12] at H
                    have c12b0 : decide (x24_1 < (l0.length : Int)) = true := decide_eq_true c12
                    clear c12
                    obtain ⟨bq13, hbq13⟩ : ∃ b_ : Bool, b_ = ((rd_T25 l0 x24_1).f2) := ⟨_, rfl⟩
                    replace H : (if bq13 = true then (if 3 + 1 ≤ 9223372036854775807 then (if 4 + ((rd_T25 l0 x24_1).f0).size ≤ 9223372036854775807 then (if (((⟨#[115, 97, 119]⟩ : ByteArray) ++ (⟨#[32]⟩ : ByteArray)) ++ ((rd_T25 l0 x24_1).f0)).size + 1 ≤ 9223372036854775807 then ((strconv_Itoa.f ((rd_T25 l0 x24_1).f1)).bind fun t161 => (if ((((⟨#[115, 97, 119]⟩ : ByteArray) ++ (⟨#[32]⟩ : ByteArray)) ++ ((rd_T25 l0 x24_1).f0)) ++ (⟨#[32]⟩ : ByteArray)).size + t161.size ≤ 9223372036854775807 then (if (((((⟨#[115, 97, 119]⟩ : ByteArray) ++ (⟨#[32]⟩ : ByteArray)) ++ ((rd_T25 l0 x24_1).f0)) ++ (⟨#[32]⟩ : ByteArray)) ++ t161).size + 1 ≤ 9223372036854775807 then (if x5_1.size + ((((((⟨#[115, 97, 119]⟩ : ByteArray) ++ (⟨#[32]⟩ : ByteArray)) ++ ((rd_T25 l0 x24_1).f0)) ++ (⟨#[32]⟩ : ByteArray)) ++ t161) ++ (⟨#[10]⟩ : ByteArray)).size ≤ 9223372036854775807 then (stemma_Write.l0 k1 l0 (x5_1 ++ ((((((⟨#[115, 97, 119]⟩ : ByteArray) ++ (⟨#[32]⟩ : ByteArray)) ++ ((rd_T25 l0 x24_1).f0)) ++ (⟨#[32]⟩ : ByteArray)) ++ t161) ++ (⟨#[10]⟩ : ByteArray))) l0 (l0.length : Int) (wrap64 (x24_1 + 1))) else (none)) else (none)) else (none))) else (none)) else (none)) else (none)) else (if 3 + 1 ≤ 9223372036854775807 then (if 4 + ((rd_T25 l0 x24_1).f0).size ≤ 9223372036854775807 then (if (((⟨#[104, 97, 100]⟩ : ByteArray) ++ (⟨#[32]⟩ : ByteArray)) ++ ((rd_T25 l0 x24_1).f0)).size + 1 ≤ 9223372036854775807 then ((strconv_Itoa.f ((rd_T25 l0 x24_1).f1)).bind fun t162 => (if ((((⟨#[104, 97, 100]⟩ : ByteArray) ++ (⟨#[32]⟩ : ByteArray)) ++ ((rd_T25 l0 x24_1).f0)) ++ (⟨#[32]⟩ : ByteArray)).size + t162.size ≤ 9223372036854775807 then (if (((((⟨#[104, 97, 100]⟩ : ByteArray) ++ (⟨#[32]⟩ : ByteArray)) ++ ((rd_T25 l0 x24_1).f0)) ++ (⟨#[32]⟩ : ByteArray)) ++ t162).size + 1 ≤ 9223372036854775807 then (if x5_1.size + ((((((⟨#[104, 97, 100]⟩ : ByteArray) ++ (⟨#[32]⟩ : ByteArray)) ++ ((rd_T25 l0 x24_1).f0)) ++ (⟨#[32]⟩ : ByteArray)) ++ t162) ++ (⟨#[10]⟩ : ByteArray)).size ≤ 9223372036854775807 then (stemma_Write.l0 k1 l0 (x5_1 ++ ((((((⟨#[104, 97, 100]⟩ : ByteArray) ++ (⟨#[32]⟩ : ByteArray)) ++ ((rd_T25 l0 x24_1).f0)) ++ (⟨#[32]⟩ : ByteArray)) ++ t162) ++ (⟨#[10]⟩ : ByteArray))) l0 (l0.length : Int) (wrap64 (x24_1 + 1))) else (none)) else (none)) else (none))) else (none)) else (none)) else (none))) = some (r1, r2) := by rw [← hbq13] at H; exact H
                    have Nbq13 := Aside0.mk hbq13
                    clear hbq13
                    by_cases c14 : bq13 = true
                    · subst c14
                      have H1 : (if 3 + 1 ≤ 9223372036854775807 then (if 4 + ((rd_T25 l0 x24_1).f0).size ≤ 9223372036854775807 then (if (((⟨#[115, 97, 119]⟩ : ByteArray) ++ (⟨#[32]⟩ : ByteArray)) ++ ((rd_T25 l0 x24_1).f0)).size + 1 ≤ 9223372036854775807 then ((strconv_Itoa.f ((rd_T25 l0 x24_1).f1)).bind fun t161 => (if ((((⟨#[115, 97, 119]⟩ : ByteArray) ++ (⟨#[32]⟩ : ByteArray)) ++ ((rd_T25 l0 x24_1).f0)) ++ (⟨#[32]⟩ : ByteArray)).size + t161.size ≤ 9223372036854775807 then (if (((((⟨#[115, 97, 119]⟩ : ByteArray) ++ (⟨#[32]⟩ : ByteArray)) ++ ((rd_T25 l0 x24_1).f0)) ++ (⟨#[32]⟩ : ByteArray)) ++ t161).size + 1 ≤ 9223372036854775807 then (if x5_1.size + ((((((⟨#[115, 97, 119]⟩ : ByteArray) ++ (⟨#[32]⟩ : ByteArray)) ++ ((rd_T25 l0 x24_1).f0)) ++ (⟨#[32]⟩ : ByteArray)) ++ t161) ++ (⟨#[10]⟩ : ByteArray)).size ≤ 9223372036854775807 then (stemma_Write.l0 k1 l0 (x5_1 ++ ((((((⟨#[115, 97, 119]⟩ : ByteArray) ++ (⟨#[32]⟩ : ByteArray)) ++ ((rd_T25 l0 x24_1).f0)) ++ (⟨#[32]⟩ : ByteArray)) ++ t161) ++ (⟨#[10]⟩ : ByteArray))) l0 (l0.length : Int) (wrap64 (x24_1 + 1))) else (none)) else (none)) else (none))) else (none)) else (none)) else (none)) = some (r1, r2) := by rw [if_pos rfl] at H; exact H
                      clear H
                      have H := H1
                      clear H1
                      by_cases c15 : 3 + 1 ≤ 9223372036854775807
                      · rw [if_pos c15] at H
                        have c15b0 := eq_true c15
                        have c15b1 : decide (3 + 1 ≤ 9223372036854775807) = true := decide_eq_true c15
                        try have c15b2 : (9223372036854775807 < 3 + 1) = False := eq_false (Nat.not_lt.2 c15)
                        by_cases c16 : 4 + ((rd_T25 l0 x24_1).f0).size ≤ 9223372036854775807
                        · rw [if_pos c16] at H
                          have c16b0 := eq_true c16
                          have c16b1 : decide (4 + ((rd_T25 l0 x24_1).f0).size ≤ 9223372036854775807) = true := decide_eq_true c16
                          try have c16b2 : (9223372036854775807 < 4 + ((rd_T25 l0 x24_1).f0).size) = False := eq_false (Nat.not_lt.2 c16)
                          by_cases c17 : (((⟨#[115, 97, 119]⟩ : ByteArray) ++ (⟨#[32]⟩ : ByteArray)) ++ ((rd_T25 l0 x24_1).f0)).size + 1 ≤ 9223372036854775807
                          · rw [if_pos c17] at H
                            have c17b0 := eq_true c17
                            have c17b1 : decide ((((⟨#[115, 97, 119]⟩ : ByteArray) ++ (⟨#[32]⟩ : ByteArray)) ++ ((rd_T25 l0 x24_1).f0)).size + 1 ≤ 9223372036854775807) = true := decide_eq_true c17
                            try have c17b2 : (9223372036854775807 < (((⟨#[115, 97, 119]⟩ : ByteArray) ++ (⟨#[32]⟩ : ByteArray)) ++ ((rd_T25 l0 x24_1).f0)).size + 1) = False := eq_false (Nat.not_lt.2 c17)
                            try (have c17b8 := c17b2; simp only [ByteArray.size_append, show (⟨#[115, 97, 119]⟩ : ByteArray).size = 3 from rfl, show (⟨#[32]⟩ : ByteArray).size = 1 from rfl,  Nat.reduceAdd] at c17b8)
                            replace H := Option.bind_eq_some_iff.mp H
                            obtain ⟨t161, A180, H⟩ := H
                            replace H : (if ((((⟨#[115, 97, 119]⟩ : ByteArray) ++ (⟨#[32]⟩ : ByteArray)) ++ ((rd_T25 l0 x24_1).f0)) ++ (⟨#[32]⟩ : ByteArray)).size + t161.size ≤ 9223372036854775807 then (if (((((⟨#[115, 97, 119]⟩ : ByteArray) ++ (⟨#[32]⟩ : ByteArray)) ++ ((rd_T25 l0 x24_1).f0)) ++ (⟨#[32]⟩ : ByteArray)) ++ t161).size + 1 ≤ 9223372036854775807 then (if x5_1.size + ((((((⟨#[115, 97, 119]⟩ : ByteArray) ++ (⟨#[32]⟩ : ByteArray)) ++ ((rd_T25 l0 x24_1).f0)) ++ (⟨#[32]⟩ : ByteArray)) ++ t161) ++ (⟨#[10]⟩ : ByteArray)).size ≤ 9223372036854775807 then (stemma_Write.l0 k1 l0 (x5_1 ++ ((((((⟨#[115, 97, 119]⟩ : ByteArray) ++ (⟨#[32]⟩ : ByteArray)) ++ ((rd_T25 l0 x24_1).f0)) ++ (⟨#[32]⟩ : ByteArray)) ++ t161) ++ (⟨#[10]⟩ : ByteArray))) l0 (l0.length : Int) (wrap64 (x24_1 + 1))) else (none)) else (none)) else (none)) = some (r1, r2) := H
                            have A18 := Aside0.mk A180
                            clear A180
                            by_cases c19 : ((((⟨#[115, 97, 119]⟩ : ByteArray) ++ (⟨#[32]⟩ : ByteArray)) ++ ((rd_T25 l0 x24_1).f0)) ++ (⟨#[32]⟩ : ByteArray)).size + t161.size ≤ 9223372036854775807
                            · rw [if_pos c19] at H
                              have c19b0 := eq_true c19
                              have c19b1 : decide (((((⟨#[115, 97, 119]⟩ : ByteArray) ++ (⟨#[32]⟩ : ByteArray)) ++ ((rd_T25 l0 x24_1).f0)) ++ (⟨#[32]⟩ : ByteArray)).size + t161.size ≤ 9223372036854775807) = true := decide_eq_true c19
                              try have c19b2 : (9223372036854775807 < ((((⟨#[115, 97, 119]⟩ : ByteArray) ++ (⟨#[32]⟩ : ByteArray)) ++ ((rd_T25 l0 x24_1).f0)) ++ (⟨#[32]⟩ : ByteArray)).size + t161.size) = False := eq_false (Nat.not_lt.2 c19)
                              try (have c19b8 := c19b2; simp only [ByteArray.size_append, show (⟨#[115, 97, 119]⟩ : ByteArray).size = 3 from rfl, show (⟨#[32]⟩ : ByteArray).size = 1 from rfl,  Nat.reduceAdd] at c19b8)
                              by_cases c20 : (((((⟨#[115, 97, 119]⟩ : ByteArray) ++ (⟨#[32]⟩ : ByteArray)) ++ ((rd_T25 l0 x24_1).f0)) ++ (⟨#[32]⟩ : ByteArray)) ++ t161).size + 1 ≤ 9223372036854775807
                              · rw [if_pos c20] at H
                                have c20b0 := eq_true c20
                                have c20b1 : decide ((((((⟨#[115, 97, 119]⟩ : ByteArray) ++ (⟨#[32]⟩ : ByteArray)) ++ ((rd_T25 l0 x24_1).f0)) ++ (⟨#[32]⟩ : ByteArray)) ++ t161).size + 1 ≤ 9223372036854775807) = true := decide_eq_true c20
                                try have c20b2 : (9223372036854775807 < (((((⟨#[115, 97, 119]⟩ : ByteArray) ++ (⟨#[32]⟩ : ByteArray)) ++ ((rd_T25 l0 x24_1).f0)) ++ (⟨#[32]⟩ : ByteArray)) ++ t161).size + 1) = False := eq_false (Nat.not_lt.2 c20)
                                try (have c20b8 := c20b2; simp only [ByteArray.size_append, show (⟨#[115, 97, 119]⟩ : ByteArray).size = 3 from rfl, show (⟨#[32]⟩ : ByteArray).size = 1 from rfl,  Nat.reduceAdd] at c20b8)
                                by_cases c21 : x5_1.size + ((((((⟨#[115, 97, 119]⟩ : ByteArray) ++ (⟨#[32]⟩ : ByteArray)) ++ ((rd_T25 l0 x24_1).f0)) ++ (⟨#[32]⟩ : ByteArray)) ++ t161) ++ (⟨#[10]⟩ : ByteArray)).size ≤ 9223372036854775807
                                · rw [if_pos c21] at H
                                  have c21b0 := eq_true c21
                                  have c21b1 : decide (x5_1.size + ((((((⟨#[115, 97, 119]⟩ : ByteArray) ++ (⟨#[32]⟩ : ByteArray)) ++ ((rd_T25 l0 x24_1).f0)) ++ (⟨#[32]⟩ : ByteArray)) ++ t161) ++ (⟨#[10]⟩ : ByteArray)).size ≤ 9223372036854775807) = true := decide_eq_true c21
                                  try have c21b2 : (9223372036854775807 < x5_1.size + ((((((⟨#[115, 97, 119]⟩ : ByteArray) ++ (⟨#[32]⟩ : ByteArray)) ++ ((rd_T25 l0 x24_1).f0)) ++ (⟨#[32]⟩ : ByteArray)) ++ t161) ++ (⟨#[10]⟩ : ByteArray)).size) = False := eq_false (Nat.not_lt.2 c21)
                                  try (have c21b8 := c21b2; simp only [ByteArray.size_append, show (⟨#[10]⟩ : ByteArray).size = 1 from rfl, show (⟨#[115, 97, 119]⟩ : ByteArray).size = 3 from rfl, show (⟨#[32]⟩ : ByteArray).size = 1 from rfl,  Nat.reduceAdd] at c21b8)
                                  have H' := Aside0.mk H
                                  clear H
                                  have p159 : 0 ≤ (x24_1 : Int) := of_decide_eq_true (by first | (with_reducible assumption) | assumption)
                                  have q159 : x24_1 < (l0.length : Int) := of_decide_eq_true (by first | (with_reducible assumption) | assumption)
                                  obtain ⟨ad159, e159, hx159_0, hx159_1, hx159_2⟩ := at_T25 HR0.out x24_1 p159 q159
                                  (try rw [← Nbq13.out] at hx159_2); (try rw [← Nbq13.out] at hw159_2)
                                  obtain rfl : ad157 = ad159 := (by injection e159)
                                  try replace hx159_0 := (HB.out.cell (World.block_lt_of_cell? w _ hx159_0)).trans hx159_0
                                  try replace hx159_1 := (HB.out.cell (World.block_lt_of_cell? w _ hx159_1)).trans hx159_1
                                  try replace hx159_2 := (HB.out.cell (World.block_lt_of_cell? w _ hx159_2)).trans hx159_2
                                  replace p159 := eq_true p159
                                  replace q159 := eq_true q159
                                  try go_wp2_with (first | ((with_reducible refine gate_dst (N := 7) rfl ?_); refine box_event ?hg (N := 7) ?hd (cs := #[.string (⟨#[]⟩ : ByteArray), .int .i64 0, .bool false]) (t := 25) ?hr ?_; (case hd => rfl); (case hg => rfl); (case hr => first | (go_simp; done) | (go_simp; rfl)); intro gb160 hg w22 hbox hb; have n0_ := Aside0.mk (below_step (by repeat (first | (with_reducible first | exact HB.out | apply below_alloc | apply pw_below_drewN | apply below_drew1) | exact HB.out)) hb); have n1_ := Aside0.mk (hbox); have n2_ := Aside0.mk ((by rw [hg]; exact (below_size (by repeat (first | (with_reducible first | exact HB.out | apply below_alloc | apply pw_below_drewN | apply below_drew1) | exact HB.out))) : w.heap.size ≤ gb160)); have n3_ := Aside0.mk ((by rw [hg]; exact (below_size (by repeat (first | (with_reducible first | exact HB.out | apply below_alloc | apply pw_below_drewN | apply below_drew1) | exact HB.out))) : w.heap.size ≤ gb160)); clear HB; have HB := n0_; have BK160 := n1_; have GW160 := n2_; have GE160 := n3_; clear n0_ n1_ n2_ n3_; clear hb hbox hg; have hcz23_0 : w22.cell? ⟨gb160, 0, none⟩ = some (.string (⟨#[]⟩ : ByteArray)) := (blk_cell BK160.out 0).trans rfl; have hcz23_1 : w22.cell? ⟨gb160, 1, none⟩ = some (.int .i64 0) := (blk_cell BK160.out 1).trans rfl; have hcz23_2 : w22.cell? ⟨gb160, 2, none⟩ = some (.bool false) := (blk_cell BK160.out 2).trans rfl; have hfz23_0 := blk_frozen BK160.out 0; have hfz23_1 := blk_frozen BK160.out 1; have hfz23_2 := blk_frozen BK160.out 2))
                                  have n0_ : Aside0 ((((w22.setCell ⟨gb160, 0, none⟩ (.string ((rd_T25 l0 x24_1).f0))).setCell ⟨gb160, 1, none⟩ (.int .i64 ((rd_T25 l0 x24_1).f1))).setCell ⟨gb160, 2, none⟩ (.bool true)).heap[gb160]? = some (.cells #[.string ((rd_T25 l0 x24_1).f0), .int .i64 ((rd_T25 l0 x24_1).f1), .bool true] 25 (0, 0))) := ⟨by (with_reducible repeat (first | refine blk_drewN ?_ _ | refine blk_drew ?_ | refine blk_alloc ?_ _)); refine blk_put (cs := #[.string ((rd_T25 l0 x24_1).f0), .int .i64 ((rd_T25 l0 x24_1).f1), .bool false]) ?_ 2 _ rfl; (with_reducible repeat (first | refine blk_drewN ?_ _ | refine blk_drew ?_ | refine blk_alloc ?_ _)); refine blk_put (cs := #[.string ((rd_T25 l0 x24_1).f0), .int .i64 0, .bool false]) ?_ 1 _ rfl; (with_reducible repeat (first | refine blk_drewN ?_ _ | refine blk_drew ?_ | refine blk_alloc ?_ _)); refine blk_put (cs := #[.string (⟨#[]⟩ : ByteArray), .int .i64 0, .bool false]) ?_ 0 _ rfl; (with_reducible repeat (first | refine blk_drewN ?_ _ | refine blk_drew ?_ | refine blk_alloc ?_ _)); exact BK160.out⟩
                                  have n1_ : Aside0 (Below w.heap.size w (((w22.setCell ⟨gb160, 0, none⟩ (.string ((rd_T25 l0 x24_1).f0))).setCell ⟨gb160, 1, none⟩ (.int .i64 ((rd_T25 l0 x24_1).f1))).setCell ⟨gb160, 2, none⟩ (.bool true))) := ⟨by repeat (first | (with_reducible first | exact HB.out | apply below_alloc | apply pw_below_drewN | apply below_drew1 | refine below_set ?_ GE160.out) | exact HB.out)⟩
                                  (try clear BK160)
                                  (try clear HB)
                                  generalize (((w22.setCell ⟨gb160, 0, none⟩ (.string ((rd_T25 l0 x24_1).f0))).setCell ⟨gb160, 1, none⟩ (.int .i64 ((rd_T25 l0 x24_1).f1))).setCell ⟨gb160, 2, none⟩ (.bool true)) = w24 at n0_ n1_ ⊢
                                  have BK160 := n0_
                                  have HB := n1_
                                  clear n0_ n1_
                                  have n0_ := Aside0.mk (blk_drew BK160.out)
                                  have n1_ := Aside0.mk (below_drew1 HB.out)
                                  clear BK160
                                  clear HB
                                  have BK160 := n0_
                                  have HB := n1_
                                  clear n0_ n1_
                                  refine start_ (n := 14) (S := fun w' => w'.cell? ⟨gb160, 0, none⟩ = some (.string ((rd_T25 l0 x24_1).f0)) ∧ w'.cell? ⟨gb160, 1, none⟩ = some (.int .i64 ((rd_T25 l0 x24_1).f1)) ∧ w'.cell? ⟨gb160, 2, none⟩ = some (.bool true)) (ds := []) #[false, false, false, false, false, false, false, false, false, false, false, false, false, false] (by kernel_rfl) rfl rfl ⟨(blk_cell BK160.out 0).trans rfl, (blk_cell BK160.out 1).trans rfl, (blk_cell BK160.out 2).trans rfl⟩ (fun hHeld => ?_); refine with_tabW stemma_Write.tab11 stemma_Write.bits11 (fun HT_ HW_ => ?_)
                                  generalize w24.drew = w25 at BK160 HB hHeld ⊢
                                  refine pure_ (i := 0) (N := some 30) (v := ?_) (a' := ?_) #[true, false, false, false, false, false, false, false, false, false, false, false, false, false] rfl rfl (any_of HT_.out (by kernel_rfl)) (fun _ _ _ h => h) (Or.inl ⟨by rfl, ?_⟩) ?_ ?_
                                  rotate_left
                                  · intro w'
                                    go_simp
                                    with_reducible rfl
                                  rotate_left
                                  · simp only [Act.put, List.setIfInBounds_toArray, List.set_cons_zero, List.set_cons_succ, i64_w, i32_w]
                                    rfl
                                  refine pure_ (i := 1) (N := some 31) (v := ?_) (a' := ?_) #[true, true, false, false, false, false, false, false, false, false, false, false, false, false] rfl rfl (any_of HT_.out (by kernel_rfl)) (fun _ _ _ h => h) (Or.inl ⟨by rfl, ?_⟩) ?_ ?_
                                  rotate_left
                                  · intro w'
                                    go_simp
                                    with_reducible rfl
                                  rotate_left
                                  · simp only [Act.put, List.setIfInBounds_toArray, List.set_cons_zero, List.set_cons_succ, i64_w, i32_w]
                                    rfl
                                  refine pure_ (i := 2) (N := some 32) (v := ?_) (a' := ?_) #[true, true, true, false, false, false, false, false, false, false, false, false, false, false] rfl rfl (any_of HT_.out (by kernel_rfl)) (fun _ _ _ h => h) (Or.inl ⟨by rfl, ?_⟩) ?_ ?_
                                  rotate_left
                                  · intro w'
                                    go_simp
                                    with_reducible rfl
                                  rotate_left
                                  · simp only [Act.put, List.setIfInBounds_toArray, List.set_cons_zero, List.set_cons_succ, i64_w, i32_w]
                                    rfl
                                  refine pure_ (i := 3) (N := some 33) (v := ?_) (a' := ?_) #[true, true, true, true, false, false, false, false, false, false, false, false, false, false] rfl rfl (any_of HT_.out (by kernel_rfl)) (fun _ _ _ h => h) (Or.inl ⟨by rfl, ?_⟩) ?_ ?_
                                  rotate_left
                                  · intro w'
                                    go_simp
                                    with_reducible rfl
                                  rotate_left
                                  · simp only [Act.put, List.setIfInBounds_toArray, List.set_cons_zero, List.set_cons_succ, i64_w, i32_w]
                                    rfl
                                  refine pure_ (i := 7) (N := some 37) (v := ?_) (a' := ?_) #[true, true, true, true, false, false, false, true, false, false, false, false, false, false] rfl rfl (any_of HT_.out (by kernel_rfl)) (fun _ _ _ h => h) (Or.inl ⟨by rfl, ?_⟩) ?_ ?_
                                  rotate_left
                                  · intro w'
                                    go_simp
                                    with_reducible rfl
                                  rotate_left
                                  · simp only [Act.put, List.setIfInBounds_toArray, List.set_cons_zero, List.set_cons_succ, i64_w, i32_w]
                                    rfl
                                  refine take_ (i := 4) (N := some 34) (v := ?_) (a' := ?_) #[true, true, true, true, true, false, false, true, false, false, false, false, false, false] rfl rfl (take_ofW HT_.out HW_.out (by kernel_rfl)) (fun _ _ _ h => h) (Or.inl ⟨by rfl, ?_⟩) hHeld ?_ ?_
                                  rotate_left
                                  · rintro w' ⟨s0, s1, s2⟩
                                    go_simp
                                    with_reducible rfl
                                  rotate_left
                                  · simp only [Act.put, List.setIfInBounds_toArray, List.set_cons_zero, List.set_cons_succ, i64_w, i32_w]
                                    rfl
                                  refine pure_ (i := 5) (N := some 35) (v := ?_) (a' := ?_) #[true, true, true, true, true, true, false, true, false, false, false, false, false, false] rfl rfl (any_of HT_.out (by kernel_rfl)) (fun _ _ _ h => h) (Or.inl ⟨by rfl, ?_⟩) ?_ ?_
                                  rotate_left
                                  · intro w'
                                    go_simp
                                    with_reducible rfl
                                  rotate_left
                                  · simp only [Act.put, List.setIfInBounds_toArray, List.set_cons_zero, List.set_cons_succ, i64_w, i32_w]
                                    rfl
                                  refine pure_ (i := 6) (N := some 36) (v := ?_) (a' := ?_) #[true, true, true, true, true, true, true, true, false, false, false, false, false, false] rfl rfl (any_of HT_.out (by kernel_rfl)) (fun _ _ _ h => h) (Or.inl ⟨by rfl, ?_⟩) ?_ ?_
                                  rotate_left
                                  · intro w'
                                    go_simp
                                    with_reducible rfl
                                  rotate_left
                                  · simp only [Act.put, List.setIfInBounds_toArray, List.set_cons_zero, List.set_cons_succ, i64_w, i32_w]
                                    rfl
                                  refine take_ (i := 8) (N := some 38) (v := ?_) (a' := ?_) #[true, true, true, true, true, true, true, true, true, false, false, false, false, false] rfl rfl (take_ofW HT_.out HW_.out (by kernel_rfl)) (fun _ _ _ h => h) (Or.inl ⟨by rfl, ?_⟩) hHeld ?_ ?_
                                  rotate_left
                                  · rintro w' ⟨s0, s1, s2⟩
                                    go_simp
                                    with_reducible rfl
                                  rotate_left
                                  · simp only [Act.put, List.setIfInBounds_toArray, List.set_cons_zero, List.set_cons_succ, i64_w, i32_w]
                                    rfl
                                  refine one_ (i := 9) (N := some 39) #[true, true, true, true, true, true, true, true, true, true, false, false, false, false] rfl rfl (one_of HT_.out (by kernel_rfl)) (by decide) (fun K hK => ?_)
                                  refine goes_ Tryd.func37 (by kernel_rfl) rfl #[.int .i64 ((rd_T25 l0 x24_1).f1)] (by rfl) rfl rfl (by (try simp only [List.map_toArray, List.map_cons, List.map_nil]); first | done | rfl | (simp only [List.length_drop, List.length_take]; rfl)) ?_
                                  with_reducible refine (strconv_Itoa.calls ((rd_T25 l0 x24_1).f1) t161 _ A18.out).mono ?_
                                  rintro e w26 ⟨rfl, hb⟩
                                  refine ⟨_, rfl, ?_⟩
                                  have n0_ := Aside0.mk (blk_below (g := gb160) (o := .cells #[.string ((rd_T25 l0 x24_1).f0), .int .i64 ((rd_T25 l0 x24_1).f1), .bool true] 25 (0, 0)) (by (with_reducible repeat (first | refine blk_drewN ?_ _ | refine blk_drew ?_ | refine blk_alloc ?_ _)); exact BK160.out) hb)
                                  have n1_ := Aside0.mk (below_step (by repeat (first | (with_reducible first | exact HB.out | apply below_alloc | apply pw_below_drewN | apply below_drew1 | refine below_set ?_ GE160.out) | exact HB.out)) hb)
                                  clear BK160
                                  clear HB
                                  have BK160 := n0_
                                  have HB := n1_
                                  clear n0_ n1_
                                  (try clear hb)
                                  (try clear hb2)
                                  (try clear hk)
                                  (try clear hi)
                                  refine hK.out _ _ ⟨(blk_cell BK160.out 0).trans rfl, (blk_cell BK160.out 1).trans rfl, (blk_cell BK160.out 2).trans rfl⟩ (fun hHeld => ?_)
                                  clear hK K
                                  refine norm_ (a' := ?_) ?_ ?_
                                  rotate_left
                                  · show Act.put _ (some 39) _ = _
                                    simp only [Act.put, List.setIfInBounds_toArray, List.set_cons_zero, List.set_cons_succ, i64_w, i32_w]
                                    rfl
                                  refine pure_ (i := 10) (N := some 40) (v := ?_) (a' := ?_) #[true, true, true, true, true, true, true, true, true, true, true, false, false, false] rfl rfl (any_of HT_.out (by kernel_rfl)) (fun _ _ _ h => h) (Or.inl ⟨by rfl, ?_⟩) ?_ ?_
                                  rotate_left
                                  · intro w'
                                    go_simp
                                    with_reducible rfl
                                  rotate_left
                                  · simp only [Act.put, List.setIfInBounds_toArray, List.set_cons_zero, List.set_cons_succ, i64_w, i32_w]
                                    rfl
                                  refine pure_ (i := 11) (N := some 41) (v := ?_) (a' := ?_) #[true, true, true, true, true, true, true, true, true, true, true, true, false, false] rfl rfl (any_of HT_.out (by kernel_rfl)) (fun _ _ _ h => h) (Or.inl ⟨by rfl, ?_⟩) ?_ ?_
                                  rotate_left
                                  · intro w'
                                    go_simp
                                    with_reducible rfl
                                  rotate_left
                                  · simp only [Act.put, List.setIfInBounds_toArray, List.set_cons_zero, List.set_cons_succ, i64_w, i32_w]
                                    rfl
                                  refine pure_ (i := 12) (N := some 42) (v := ?_) (a' := ?_) #[true, true, true, true, true, true, true, true, true, true, true, true, true, false] rfl rfl (any_of HT_.out (by kernel_rfl)) (fun _ _ _ h => h) (Or.inl ⟨by rfl, ?_⟩) ?_ ?_
                                  rotate_left
                                  · intro w'
                                    go_simp
                                    with_reducible rfl
                                  rotate_left
                                  · simp only [Act.put, List.setIfInBounds_toArray, List.set_cons_zero, List.set_cons_succ, i64_w, i32_w]
                                    rfl
                                  refine pure_ (i := 13) (N := some 5) (v := ?_) (a' := ?_) #[true, true, true, true, true, true, true, true, true, true, true, true, true, true] rfl rfl (any_of HT_.out (by kernel_rfl)) (fun _ _ _ h => h) (Or.inl ⟨by rfl, ?_⟩) ?_ ?_
                                  rotate_left
                                  · intro w'
                                    go_simp
                                    with_reducible rfl
                                  rotate_left
                                  · simp only [Act.put, List.setIfInBounds_toArray, List.set_cons_zero, List.set_cons_succ, i64_w, i32_w]
                                    rfl
                                  refine done_ (done_of HT_.out (by kernel_rfl)) ?_
                                  try go_wp2
                                  go_roundg k1
                                  case measure => have := HK1.out; omega
                                  case rel => exact ⟨(x5_1 ++ ((((((⟨#[115, 97, 119]⟩ : ByteArray) ++ (⟨#[32]⟩ : ByteArray)) ++ ((rd_T25 l0 x24_1).f0)) ++ (⟨#[32]⟩ : ByteArray)) ++ t161) ++ (⟨#[10]⟩ : ByteArray))), (wrap64 (x24_1 + 1)), (by first | rfl | (simp; done) | (simp [*]; done)), (by first | rfl | (simp; done) | (simp [*]; done)), H', ⟨by have := HK1.out; omega⟩, ⟨by repeat (first | (with_reducible first | exact HB.out | apply below_alloc | apply pw_below_drewN | apply below_drew1 | refine below_set ?_ GE160.out) | exact HB.out)⟩⟩
                                · rw [if_neg c21] at H
                                  exact absurd H (by simp)
                              · rw [if_neg c20] at H
                                exact absurd H (by simp)
                            · rw [if_neg c19] at H
                              exact absurd H (by simp)
                          · rw [if_neg c17] at H
                            exact absurd H (by simp)
                        · rw [if_neg c16] at H
                          exact absurd H (by simp)
                      · rw [if_neg c15] at H
                        exact absurd H (by simp)
                    · replace c14 := Bool.eq_false_iff.mpr c14
                      subst c14
                      have H1 : (if 3 + 1 ≤ 9223372036854775807 then (if 4 + ((rd_T25 l0 x24_1).f0).size ≤ 9223372036854775807 then (if (((⟨#[104, 97, 100]⟩ : ByteArray) ++ (⟨#[32]⟩ : ByteArray)) ++ ((rd_T25 l0 x24_1).f0)).size + 1 ≤ 9223372036854775807 then ((strconv_Itoa.f ((rd_T25 l0 x24_1).f1)).bind fun t162 => (if ((((⟨#[104, 97, 100]⟩ : ByteArray) ++ (⟨#[32]⟩ : ByteArray)) ++ ((rd_T25 l0 x24_1).f0)) ++ (⟨#[32]⟩ : ByteArray)).size + t162.size ≤ 9223372036854775807 then (if (((((⟨#[104, 97, 100]⟩ : ByteArray) ++ (⟨#[32]⟩ : ByteArray)) ++ ((rd_T25 l0 x24_1).f0)) ++ (⟨#[32]⟩ : ByteArray)) ++ t162).size + 1 ≤ 9223372036854775807 then (if x5_1.size + ((((((⟨#[104, 97, 100]⟩ : ByteArray) ++ (⟨#[32]⟩ : ByteArray)) ++ ((rd_T25 l0 x24_1).f0)) ++ (⟨#[32]⟩ : ByteArray)) ++ t162) ++ (⟨#[10]⟩ : ByteArray)).size ≤ 9223372036854775807 then (stemma_Write.l0 k1 l0 (x5_1 ++ ((((((⟨#[104, 97, 100]⟩ : ByteArray) ++ (⟨#[32]⟩ : ByteArray)) ++ ((rd_T25 l0 x24_1).f0)) ++ (⟨#[32]⟩ : ByteArray)) ++ t162) ++ (⟨#[10]⟩ : ByteArray))) l0 (l0.length : Int) (wrap64 (x24_1 + 1))) else (none)) else (none)) else (none))) else (none)) else (none)) else (none)) = some (r1, r2) := by rw [if_neg (show ¬ (false = true) by decide)] at H; exact H
                      clear H
                      have H := H1
                      clear H1
                      by_cases c27 : 3 + 1 ≤ 9223372036854775807
                      · rw [if_pos c27] at H
                        have c27b0 := eq_true c27
                        have c27b1 : decide (3 + 1 ≤ 9223372036854775807) = true := decide_eq_true c27
                        try have c27b2 : (9223372036854775807 < 3 + 1) = False := eq_false (Nat.not_lt.2 c27)
                        by_cases c28 : 4 + ((rd_T25 l0 x24_1).f0).size ≤ 9223372036854775807
                        · rw [if_pos c28] at H
                          have c28b0 := eq_true c28
                          have c28b1 : decide (4 + ((rd_T25 l0 x24_1).f0).size ≤ 9223372036854775807) = true := decide_eq_true c28
                          try have c28b2 : (9223372036854775807 < 4 + ((rd_T25 l0 x24_1).f0).size) = False := eq_false (Nat.not_lt.2 c28)
                          by_cases c29 : (((⟨#[104, 97, 100]⟩ : ByteArray) ++ (⟨#[32]⟩ : ByteArray)) ++ ((rd_T25 l0 x24_1).f0)).size + 1 ≤ 9223372036854775807
                          · rw [if_pos c29] at H
                            have c29b0 := eq_true c29
                            have c29b1 : decide ((((⟨#[104, 97, 100]⟩ : ByteArray) ++ (⟨#[32]⟩ : ByteArray)) ++ ((rd_T25 l0 x24_1).f0)).size + 1 ≤ 9223372036854775807) = true := decide_eq_true c29
                            try have c29b2 : (9223372036854775807 < (((⟨#[104, 97, 100]⟩ : ByteArray) ++ (⟨#[32]⟩ : ByteArray)) ++ ((rd_T25 l0 x24_1).f0)).size + 1) = False := eq_false (Nat.not_lt.2 c29)
                            try (have c29b8 := c29b2; simp only [ByteArray.size_append, show (⟨#[104, 97, 100]⟩ : ByteArray).size = 3 from rfl, show (⟨#[32]⟩ : ByteArray).size = 1 from rfl,  Nat.reduceAdd] at c29b8)
                            replace H := Option.bind_eq_some_iff.mp H
                            obtain ⟨t162, A300, H⟩ := H
                            replace H : (if ((((⟨#[104, 97, 100]⟩ : ByteArray) ++ (⟨#[32]⟩ : ByteArray)) ++ ((rd_T25 l0 x24_1).f0)) ++ (⟨#[32]⟩ : ByteArray)).size + t162.size ≤ 9223372036854775807 then (if (((((⟨#[104, 97, 100]⟩ : ByteArray) ++ (⟨#[32]⟩ : ByteArray)) ++ ((rd_T25 l0 x24_1).f0)) ++ (⟨#[32]⟩ : ByteArray)) ++ t162).size + 1 ≤ 9223372036854775807 then (if x5_1.size + ((((((⟨#[104, 97, 100]⟩ : ByteArray) ++ (⟨#[32]⟩ : ByteArray)) ++ ((rd_T25 l0 x24_1).f0)) ++ (⟨#[32]⟩ : ByteArray)) ++ t162) ++ (⟨#[10]⟩ : ByteArray)).size ≤ 9223372036854775807 then (stemma_Write.l0 k1 l0 (x5_1 ++ ((((((⟨#[104, 97, 100]⟩ : ByteArray) ++ (⟨#[32]⟩ : ByteArray)) ++ ((rd_T25 l0 x24_1).f0)) ++ (⟨#[32]⟩ : ByteArray)) ++ t162) ++ (⟨#[10]⟩ : ByteArray))) l0 (l0.length : Int) (wrap64 (x24_1 + 1))) else (none)) else (none)) else (none)) = some (r1, r2) := H
                            have A30 := Aside0.mk A300
                            clear A300
                            by_cases c31 : ((((⟨#[104, 97, 100]⟩ : ByteArray) ++ (⟨#[32]⟩ : ByteArray)) ++ ((rd_T25 l0 x24_1).f0)) ++ (⟨#[32]⟩ : ByteArray)).size + t162.size ≤ 9223372036854775807
                            · rw [if_pos c31] at H
                              have c31b0 := eq_true c31
                              have c31b1 : decide (((((⟨#[104, 97, 100]⟩ : ByteArray) ++ (⟨#[32]⟩ : ByteArray)) ++ ((rd_T25 l0 x24_1).f0)) ++ (⟨#[32]⟩ : ByteArray)).size + t162.size ≤ 9223372036854775807) = true := decide_eq_true c31
                              try have c31b2 : (9223372036854775807 < ((((⟨#[104, 97, 100]⟩ : ByteArray) ++ (⟨#[32]⟩ : ByteArray)) ++ ((rd_T25 l0 x24_1).f0)) ++ (⟨#[32]⟩ : ByteArray)).size + t162.size) = False := eq_false (Nat.not_lt.2 c31)
                              try (have c31b8 := c31b2; simp only [ByteArray.size_append, show (⟨#[104, 97, 100]⟩ : ByteArray).size = 3 from rfl, show (⟨#[32]⟩ : ByteArray).size = 1 from rfl,  Nat.reduceAdd] at c31b8)
                              by_cases c32 : (((((⟨#[104, 97, 100]⟩ : ByteArray) ++ (⟨#[32]⟩ : ByteArray)) ++ ((rd_T25 l0 x24_1).f0)) ++ (⟨#[32]⟩ : ByteArray)) ++ t162).size + 1 ≤ 9223372036854775807
                              · rw [if_pos c32] at H
                                have c32b0 := eq_true c32
                                have c32b1 : decide ((((((⟨#[104, 97, 100]⟩ : ByteArray) ++ (⟨#[32]⟩ : ByteArray)) ++ ((rd_T25 l0 x24_1).f0)) ++ (⟨#[32]⟩ : ByteArray)) ++ t162).size + 1 ≤ 9223372036854775807) = true := decide_eq_true c32
                                try have c32b2 : (9223372036854775807 < (((((⟨#[104, 97, 100]⟩ : ByteArray) ++ (⟨#[32]⟩ : ByteArray)) ++ ((rd_T25 l0 x24_1).f0)) ++ (⟨#[32]⟩ : ByteArray)) ++ t162).size + 1) = False := eq_false (Nat.not_lt.2 c32)
                                try (have c32b8 := c32b2; simp only [ByteArray.size_append, show (⟨#[104, 97, 100]⟩ : ByteArray).size = 3 from rfl, show (⟨#[32]⟩ : ByteArray).size = 1 from rfl,  Nat.reduceAdd] at c32b8)
                                by_cases c33 : x5_1.size + ((((((⟨#[104, 97, 100]⟩ : ByteArray) ++ (⟨#[32]⟩ : ByteArray)) ++ ((rd_T25 l0 x24_1).f0)) ++ (⟨#[32]⟩ : ByteArray)) ++ t162) ++ (⟨#[10]⟩ : ByteArray)).size ≤ 9223372036854775807
                                · rw [if_pos c33] at H
                                  have c33b0 := eq_true c33
                                  have c33b1 : decide (x5_1.size + ((((((⟨#[104, 97, 100]⟩ : ByteArray) ++ (⟨#[32]⟩ : ByteArray)) ++ ((rd_T25 l0 x24_1).f0)) ++ (⟨#[32]⟩ : ByteArray)) ++ t162) ++ (⟨#[10]⟩ : ByteArray)).size ≤ 9223372036854775807) = true := decide_eq_true c33
                                  try have c33b2 : (9223372036854775807 < x5_1.size + ((((((⟨#[104, 97, 100]⟩ : ByteArray) ++ (⟨#[32]⟩ : ByteArray)) ++ ((rd_T25 l0 x24_1).f0)) ++ (⟨#[32]⟩ : ByteArray)) ++ t162) ++ (⟨#[10]⟩ : ByteArray)).size) = False := eq_false (Nat.not_lt.2 c33)
                                  try (have c33b8 := c33b2; simp only [ByteArray.size_append, show (⟨#[104, 97, 100]⟩ : ByteArray).size = 3 from rfl, show (⟨#[10]⟩ : ByteArray).size = 1 from rfl, show (⟨#[32]⟩ : ByteArray).size = 1 from rfl,  Nat.reduceAdd] at c33b8)
                                  have H' := Aside0.mk H
                                  clear H
                                  have p159 : 0 ≤ (x24_1 : Int) := of_decide_eq_true (by first | (with_reducible assumption) | assumption)
                                  have q159 : x24_1 < (l0.length : Int) := of_decide_eq_true (by first | (with_reducible assumption) | assumption)
                                  obtain ⟨ad159, e159, hx159_0, hx159_1, hx159_2⟩ := at_T25 HR0.out x24_1 p159 q159
                                  (try rw [← Nbq13.out] at hx159_2); (try rw [← Nbq13.out] at hw159_2)
                                  obtain rfl : ad157 = ad159 := (by injection e159)
                                  try replace hx159_0 := (HB.out.cell (World.block_lt_of_cell? w _ hx159_0)).trans hx159_0
                                  try replace hx159_1 := (HB.out.cell (World.block_lt_of_cell? w _ hx159_1)).trans hx159_1
                                  try replace hx159_2 := (HB.out.cell (World.block_lt_of_cell? w _ hx159_2)).trans hx159_2
                                  replace p159 := eq_true p159
                                  replace q159 := eq_true q159
                                  try go_wp2_with (first | ((with_reducible refine gate_dst (N := 7) rfl ?_); refine box_event ?hg (N := 7) ?hd (cs := #[.string (⟨#[]⟩ : ByteArray), .int .i64 0, .bool false]) (t := 25) ?hr ?_; (case hd => rfl); (case hg => rfl); (case hr => first | (go_simp; done) | (go_simp; rfl)); intro gb160 hg w34 hbox hb; have n0_ := Aside0.mk (below_step (by repeat (first | (with_reducible first | exact HB.out | apply below_alloc | apply pw_below_drewN | apply below_drew1) | exact HB.out)) hb); have n1_ := Aside0.mk (hbox); have n2_ := Aside0.mk ((by rw [hg]; exact (below_size (by repeat (first | (with_reducible first | exact HB.out | apply below_alloc | apply pw_below_drewN | apply below_drew1) | exact HB.out))) : w.heap.size ≤ gb160)); have n3_ := Aside0.mk ((by rw [hg]; exact (below_size (by repeat (first | (with_reducible first | exact HB.out | apply below_alloc | apply pw_below_drewN | apply below_drew1) | exact HB.out))) : w.heap.size ≤ gb160)); clear HB; have HB := n0_; have BK160 := n1_; have GW160 := n2_; have GE160 := n3_; clear n0_ n1_ n2_ n3_; clear hb hbox hg; have hcz35_0 : w34.cell? ⟨gb160, 0, none⟩ = some (.string (⟨#[]⟩ : ByteArray)) := (blk_cell BK160.out 0).trans rfl; have hcz35_1 : w34.cell? ⟨gb160, 1, none⟩ = some (.int .i64 0) := (blk_cell BK160.out 1).trans rfl; have hcz35_2 : w34.cell? ⟨gb160, 2, none⟩ = some (.bool false) := (blk_cell BK160.out 2).trans rfl; have hfz35_0 := blk_frozen BK160.out 0; have hfz35_1 := blk_frozen BK160.out 1; have hfz35_2 := blk_frozen BK160.out 2))
                                  have n0_ : Aside0 ((((w34.setCell ⟨gb160, 0, none⟩ (.string ((rd_T25 l0 x24_1).f0))).setCell ⟨gb160, 1, none⟩ (.int .i64 ((rd_T25 l0 x24_1).f1))).setCell ⟨gb160, 2, none⟩ (.bool false)).heap[gb160]? = some (.cells #[.string ((rd_T25 l0 x24_1).f0), .int .i64 ((rd_T25 l0 x24_1).f1), .bool false] 25 (0, 0))) := ⟨by (with_reducible repeat (first | refine blk_drewN ?_ _ | refine blk_drew ?_ | refine blk_alloc ?_ _)); refine blk_put (cs := #[.string ((rd_T25 l0 x24_1).f0), .int .i64 ((rd_T25 l0 x24_1).f1), .bool false]) ?_ 2 _ rfl; (with_reducible repeat (first | refine blk_drewN ?_ _ | refine blk_drew ?_ | refine blk_alloc ?_ _)); refine blk_put (cs := #[.string ((rd_T25 l0 x24_1).f0), .int .i64 0, .bool false]) ?_ 1 _ rfl; (with_reducible repeat (first | refine blk_drewN ?_ _ | refine blk_drew ?_ | refine blk_alloc ?_ _)); refine blk_put (cs := #[.string (⟨#[]⟩ : ByteArray), .int .i64 0, .bool false]) ?_ 0 _ rfl; (with_reducible repeat (first | refine blk_drewN ?_ _ | refine blk_drew ?_ | refine blk_alloc ?_ _)); exact BK160.out⟩
                                  have n1_ : Aside0 (Below w.heap.size w (((w34.setCell ⟨gb160, 0, none⟩ (.string ((rd_T25 l0 x24_1).f0))).setCell ⟨gb160, 1, none⟩ (.int .i64 ((rd_T25 l0 x24_1).f1))).setCell ⟨gb160, 2, none⟩ (.bool false))) := ⟨by repeat (first | (with_reducible first | exact HB.out | apply below_alloc | apply pw_below_drewN | apply below_drew1 | refine below_set ?_ GE160.out) | exact HB.out)⟩
                                  (try clear BK160)
                                  (try clear HB)
                                  generalize (((w34.setCell ⟨gb160, 0, none⟩ (.string ((rd_T25 l0 x24_1).f0))).setCell ⟨gb160, 1, none⟩ (.int .i64 ((rd_T25 l0 x24_1).f1))).setCell ⟨gb160, 2, none⟩ (.bool false)) = w36 at n0_ n1_ ⊢
                                  have BK160 := n0_
                                  have HB := n1_
                                  clear n0_ n1_
                                  have n0_ := Aside0.mk (blk_drew BK160.out)
                                  have n1_ := Aside0.mk (below_drew1 HB.out)
                                  clear BK160
                                  clear HB
                                  have BK160 := n0_
                                  have HB := n1_
                                  clear n0_ n1_
                                  refine start_ (n := 14) (S := fun w' => w'.cell? ⟨gb160, 0, none⟩ = some (.string ((rd_T25 l0 x24_1).f0)) ∧ w'.cell? ⟨gb160, 1, none⟩ = some (.int .i64 ((rd_T25 l0 x24_1).f1)) ∧ w'.cell? ⟨gb160, 2, none⟩ = some (.bool false)) (ds := []) #[false, false, false, false, false, false, false, false, false, false, false, false, false, false] (by kernel_rfl) rfl rfl ⟨(blk_cell BK160.out 0).trans rfl, (blk_cell BK160.out 1).trans rfl, (blk_cell BK160.out 2).trans rfl⟩ (fun hHeld => ?_); refine with_tabW stemma_Write.tab11 stemma_Write.bits11 (fun HT_ HW_ => ?_)
                                  generalize w36.drew = w37 at BK160 HB hHeld ⊢
                                  refine pure_ (i := 0) (N := some 30) (v := ?_) (a' := ?_) #[true, false, false, false, false, false, false, false, false, false, false, false, false, false] rfl rfl (any_of HT_.out (by kernel_rfl)) (fun _ _ _ h => h) (Or.inl ⟨by rfl, ?_⟩) ?_ ?_
                                  rotate_left
                                  · intro w'
                                    go_simp
                                    with_reducible rfl
                                  rotate_left
                                  · simp only [Act.put, List.setIfInBounds_toArray, List.set_cons_zero, List.set_cons_succ, i64_w, i32_w]
                                    rfl
                                  refine pure_ (i := 1) (N := some 31) (v := ?_) (a' := ?_) #[true, true, false, false, false, false, false, false, false, false, false, false, false, false] rfl rfl (any_of HT_.out (by kernel_rfl)) (fun _ _ _ h => h) (Or.inl ⟨by rfl, ?_⟩) ?_ ?_
                                  rotate_left
                                  · intro w'
                                    go_simp
                                    with_reducible rfl
                                  rotate_left
                                  · simp only [Act.put, List.setIfInBounds_toArray, List.set_cons_zero, List.set_cons_succ, i64_w, i32_w]
                                    rfl
                                  refine pure_ (i := 2) (N := some 32) (v := ?_) (a' := ?_) #[true, true, true, false, false, false, false, false, false, false, false, false, false, false] rfl rfl (any_of HT_.out (by kernel_rfl)) (fun _ _ _ h => h) (Or.inl ⟨by rfl, ?_⟩) ?_ ?_
                                  rotate_left
                                  · intro w'
                                    go_simp
                                    with_reducible rfl
                                  rotate_left
                                  · simp only [Act.put, List.setIfInBounds_toArray, List.set_cons_zero, List.set_cons_succ, i64_w, i32_w]
                                    rfl
                                  refine pure_ (i := 3) (N := some 33) (v := ?_) (a' := ?_) #[true, true, true, true, false, false, false, false, false, false, false, false, false, false] rfl rfl (any_of HT_.out (by kernel_rfl)) (fun _ _ _ h => h) (Or.inl ⟨by rfl, ?_⟩) ?_ ?_
                                  rotate_left
                                  · intro w'
                                    go_simp
                                    with_reducible rfl
                                  rotate_left
                                  · simp only [Act.put, List.setIfInBounds_toArray, List.set_cons_zero, List.set_cons_succ, i64_w, i32_w]
                                    rfl
                                  refine pure_ (i := 7) (N := some 37) (v := ?_) (a' := ?_) #[true, true, true, true, false, false, false, true, false, false, false, false, false, false] rfl rfl (any_of HT_.out (by kernel_rfl)) (fun _ _ _ h => h) (Or.inl ⟨by rfl, ?_⟩) ?_ ?_
                                  rotate_left
                                  · intro w'
                                    go_simp
                                    with_reducible rfl
                                  rotate_left
                                  · simp only [Act.put, List.setIfInBounds_toArray, List.set_cons_zero, List.set_cons_succ, i64_w, i32_w]
                                    rfl
                                  refine take_ (i := 4) (N := some 34) (v := ?_) (a' := ?_) #[true, true, true, true, true, false, false, true, false, false, false, false, false, false] rfl rfl (take_ofW HT_.out HW_.out (by kernel_rfl)) (fun _ _ _ h => h) (Or.inl ⟨by rfl, ?_⟩) hHeld ?_ ?_
                                  rotate_left
                                  · rintro w' ⟨s0, s1, s2⟩
                                    go_simp
                                    with_reducible rfl
                                  rotate_left
                                  · simp only [Act.put, List.setIfInBounds_toArray, List.set_cons_zero, List.set_cons_succ, i64_w, i32_w]
                                    rfl
                                  refine pure_ (i := 5) (N := some 35) (v := ?_) (a' := ?_) #[true, true, true, true, true, true, false, true, false, false, false, false, false, false] rfl rfl (any_of HT_.out (by kernel_rfl)) (fun _ _ _ h => h) (Or.inl ⟨by rfl, ?_⟩) ?_ ?_
                                  rotate_left
                                  · intro w'
                                    go_simp
                                    with_reducible rfl
                                  rotate_left
                                  · simp only [Act.put, List.setIfInBounds_toArray, List.set_cons_zero, List.set_cons_succ, i64_w, i32_w]
                                    rfl
                                  refine pure_ (i := 6) (N := some 36) (v := ?_) (a' := ?_) #[true, true, true, true, true, true, true, true, false, false, false, false, false, false] rfl rfl (any_of HT_.out (by kernel_rfl)) (fun _ _ _ h => h) (Or.inl ⟨by rfl, ?_⟩) ?_ ?_
                                  rotate_left
                                  · intro w'
                                    go_simp
                                    with_reducible rfl
                                  rotate_left
                                  · simp only [Act.put, List.setIfInBounds_toArray, List.set_cons_zero, List.set_cons_succ, i64_w, i32_w]
                                    rfl
                                  refine take_ (i := 8) (N := some 38) (v := ?_) (a' := ?_) #[true, true, true, true, true, true, true, true, true, false, false, false, false, false] rfl rfl (take_ofW HT_.out HW_.out (by kernel_rfl)) (fun _ _ _ h => h) (Or.inl ⟨by rfl, ?_⟩) hHeld ?_ ?_
                                  rotate_left
                                  · rintro w' ⟨s0, s1, s2⟩
                                    go_simp
                                    with_reducible rfl
                                  rotate_left
                                  · simp only [Act.put, List.setIfInBounds_toArray, List.set_cons_zero, List.set_cons_succ, i64_w, i32_w]
                                    rfl
                                  refine one_ (i := 9) (N := some 39) #[true, true, true, true, true, true, true, true, true, true, false, false, false, false] rfl rfl (one_of HT_.out (by kernel_rfl)) (by decide) (fun K hK => ?_)
                                  refine goes_ Tryd.func37 (by kernel_rfl) rfl #[.int .i64 ((rd_T25 l0 x24_1).f1)] (by rfl) rfl rfl (by (try simp only [List.map_toArray, List.map_cons, List.map_nil]); first | done | rfl | (simp only [List.length_drop, List.length_take]; rfl)) ?_
                                  with_reducible refine (strconv_Itoa.calls ((rd_T25 l0 x24_1).f1) t162 _ A30.out).mono ?_
                                  rintro e w38 ⟨rfl, hb⟩
                                  refine ⟨_, rfl, ?_⟩
                                  have n0_ := Aside0.mk (blk_below (g := gb160) (o := .cells #[.string ((rd_T25 l0 x24_1).f0), .int .i64 ((rd_T25 l0 x24_1).f1), .bool false] 25 (0, 0)) (by (with_reducible repeat (first | refine blk_drewN ?_ _ | refine blk_drew ?_ | refine blk_alloc ?_ _)); exact BK160.out) hb)
                                  have n1_ := Aside0.mk (below_step (by repeat (first | (with_reducible first | exact HB.out | apply below_alloc | apply pw_below_drewN | apply below_drew1 | refine below_set ?_ GE160.out) | exact HB.out)) hb)
                                  clear BK160
                                  clear HB
                                  have BK160 := n0_
                                  have HB := n1_
                                  clear n0_ n1_
                                  (try clear hb)
                                  (try clear hb2)
                                  (try clear hk)
                                  (try clear hi)
                                  refine hK.out _ _ ⟨(blk_cell BK160.out 0).trans rfl, (blk_cell BK160.out 1).trans rfl, (blk_cell BK160.out 2).trans rfl⟩ (fun hHeld => ?_)
                                  clear hK K
                                  refine norm_ (a' := ?_) ?_ ?_
                                  rotate_left
                                  · show Act.put _ (some 39) _ = _
                                    simp only [Act.put, List.setIfInBounds_toArray, List.set_cons_zero, List.set_cons_succ, i64_w, i32_w]
                                    rfl
                                  refine pure_ (i := 10) (N := some 40) (v := ?_) (a' := ?_) #[true, true, true, true, true, true, true, true, true, true, true, false, false, false] rfl rfl (any_of HT_.out (by kernel_rfl)) (fun _ _ _ h => h) (Or.inl ⟨by rfl, ?_⟩) ?_ ?_
                                  rotate_left
                                  · intro w'
                                    go_simp
                                    with_reducible rfl
                                  rotate_left
                                  · simp only [Act.put, List.setIfInBounds_toArray, List.set_cons_zero, List.set_cons_succ, i64_w, i32_w]
                                    rfl
                                  refine pure_ (i := 11) (N := some 41) (v := ?_) (a' := ?_) #[true, true, true, true, true, true, true, true, true, true, true, true, false, false] rfl rfl (any_of HT_.out (by kernel_rfl)) (fun _ _ _ h => h) (Or.inl ⟨by rfl, ?_⟩) ?_ ?_
                                  rotate_left
                                  · intro w'
                                    go_simp
                                    with_reducible rfl
                                  rotate_left
                                  · simp only [Act.put, List.setIfInBounds_toArray, List.set_cons_zero, List.set_cons_succ, i64_w, i32_w]
                                    rfl
                                  refine pure_ (i := 12) (N := some 42) (v := ?_) (a' := ?_) #[true, true, true, true, true, true, true, true, true, true, true, true, true, false] rfl rfl (any_of HT_.out (by kernel_rfl)) (fun _ _ _ h => h) (Or.inl ⟨by rfl, ?_⟩) ?_ ?_
                                  rotate_left
                                  · intro w'
                                    go_simp
                                    with_reducible rfl
                                  rotate_left
                                  · simp only [Act.put, List.setIfInBounds_toArray, List.set_cons_zero, List.set_cons_succ, i64_w, i32_w]
                                    rfl
                                  refine pure_ (i := 13) (N := some 5) (v := ?_) (a' := ?_) #[true, true, true, true, true, true, true, true, true, true, true, true, true, true] rfl rfl (any_of HT_.out (by kernel_rfl)) (fun _ _ _ h => h) (Or.inl ⟨by rfl, ?_⟩) ?_ ?_
                                  rotate_left
                                  · intro w'
                                    go_simp
                                    with_reducible rfl
                                  rotate_left
                                  · simp only [Act.put, List.setIfInBounds_toArray, List.set_cons_zero, List.set_cons_succ, i64_w, i32_w]
                                    rfl
                                  refine done_ (done_of HT_.out (by kernel_rfl)) ?_
                                  try go_wp2
                                  go_roundg k1
                                  case measure => have := HK1.out; omega
                                  case rel => exact ⟨(x5_1 ++ ((((((⟨#[104, 97, 100]⟩ : ByteArray) ++ (⟨#[32]⟩ : ByteArray)) ++ ((rd_T25 l0 x24_1).f0)) ++ (⟨#[32]⟩ : ByteArray)) ++ t162) ++ (⟨#[10]⟩ : ByteArray))), (wrap64 (x24_1 + 1)), (by first | rfl | (simp; done) | (simp [*]; done)), (by first | rfl | (simp; done) | (simp [*]; done)), H', ⟨by have := HK1.out; omega⟩, ⟨by repeat (first | (with_reducible first | exact HB.out | apply below_alloc | apply pw_below_drewN | apply below_drew1 | refine below_set ?_ GE160.out) | exact HB.out)⟩⟩
                                · rw [if_neg c33] at H
                                  exact absurd H (by simp)
                              · rw [if_neg c32] at H
                                exact absurd H (by simp)
                            · rw [if_neg c31] at H
                              exact absurd H (by simp)
                          · rw [if_neg c29] at H
                            exact absurd H (by simp)
                        · rw [if_neg c28] at H
                          exact absurd H (by simp)
                      · rw [if_neg c27] at H
                        exact absurd H (by simp)
                  · rw [if_neg c12] at H
                    exact absurd H (by simp)
                · rw [if_neg c11] at H
                  exact absurd H (by simp)
              · rw [if_neg c10] at H
                have c10b0 : decide (x24_1 < (l0.length : Int)) = false := decide_eq_false c10
                clear c10
                by_cases c39 : x5_1.size + 7 ≤ 9223372036854775807
                · rw [if_pos c39] at H
                  have c39b0 := eq_true c39
                  have c39b1 : decide (x5_1.size + 7 ≤ 9223372036854775807) = true := decide_eq_true c39
                  try have c39b2 : (9223372036854775807 < x5_1.size + 7) = False := eq_false (Nat.not_lt.2 c39)
                  replace H := Option.bind_eq_some_iff.mp H
                  obtain ⟨t163, A400, H⟩ := H
                  replace H : (if (x5_1 ++ (⟨#[99, 111, 112, 105, 101, 115, 32]⟩ : ByteArray)).size + t163.size ≤ 9223372036854775807 then (if ((x5_1 ++ (⟨#[99, 111, 112, 105, 101, 115, 32]⟩ : ByteArray)) ++ t163).size + 1 ≤ 9223372036854775807 then (some (((x5_1 ++ (⟨#[99, 111, 112, 105, 101, 115, 32]⟩ : ByteArray)) ++ t163) ++ (⟨#[10]⟩ : ByteArray), 0)) else (none)) else (none)) = some (r1, r2) := H
                  have A40 := Aside0.mk A400
                  clear A400
                  by_cases c41 : (x5_1 ++ (⟨#[99, 111, 112, 105, 101, 115, 32]⟩ : ByteArray)).size + t163.size ≤ 9223372036854775807
                  · rw [if_pos c41] at H
                    have c41b0 := eq_true c41
                    have c41b1 : decide ((x5_1 ++ (⟨#[99, 111, 112, 105, 101, 115, 32]⟩ : ByteArray)).size + t163.size ≤ 9223372036854775807) = true := decide_eq_true c41
                    try have c41b2 : (9223372036854775807 < (x5_1 ++ (⟨#[99, 111, 112, 105, 101, 115, 32]⟩ : ByteArray)).size + t163.size) = False := eq_false (Nat.not_lt.2 c41)
                    try (have c41b8 := c41b2; simp only [ByteArray.size_append, show (⟨#[99, 111, 112, 105, 101, 115, 32]⟩ : ByteArray).size = 7 from rfl,  Nat.reduceAdd] at c41b8)
                    by_cases c42 : ((x5_1 ++ (⟨#[99, 111, 112, 105, 101, 115, 32]⟩ : ByteArray)) ++ t163).size + 1 ≤ 9223372036854775807
                    · rw [if_pos c42] at H
                      have c42b0 := eq_true c42
                      have c42b1 : decide (((x5_1 ++ (⟨#[99, 111, 112, 105, 101, 115, 32]⟩ : ByteArray)) ++ t163).size + 1 ≤ 9223372036854775807) = true := decide_eq_true c42
                      try have c42b2 : (9223372036854775807 < ((x5_1 ++ (⟨#[99, 111, 112, 105, 101, 115, 32]⟩ : ByteArray)) ++ t163).size + 1) = False := eq_false (Nat.not_lt.2 c42)
                      try (have c42b8 := c42b2; simp only [ByteArray.size_append, show (⟨#[99, 111, 112, 105, 101, 115, 32]⟩ : ByteArray).size = 7 from rfl,  Nat.reduceAdd] at c42b8)
                      simp only [Option.some.injEq, Prod.mk.injEq] at H
                      obtain ⟨rfl, rfl⟩ := H
                      go_wp2_with (first | ((with_reducible refine gate_callee (f := 37) rfl ?_); refine goesL_ (some 48) rfl rfl Tryd.func37 (by kernel_rfl) rfl #[.int .i64 (l0.length : Int)] rfl (by (try simp only [List.map_toArray, List.map_cons, List.map_nil]); first | done | rfl | (simp only [List.length_drop, List.length_take]; rfl)) ?_; (with_reducible refine (strconv_Itoa.calls (l0.length : Int) t163 _ A40.out).mono ?_); rintro e w43 ⟨rfl, hb⟩; refine ⟨_, rfl, ?_⟩; have n0_ := Aside0.mk (below_step (by repeat (first | (with_reducible first | exact HB.out | apply below_alloc | apply pw_below_drewN | apply below_drew1) | exact HB.out)) hb); clear HB; have HB := n0_; clear n0_; (try clear hb); (try clear hb2); (try clear hk); (try clear hi)))
                      go_ret2
                      exact ⟨by first | rfl | (simp [errW_none, errW_some] <;> rfl) | (simp [*, errW_none, errW_some] <;> rfl), by repeat (first | (with_reducible first | exact HB.out | apply below_alloc | apply pw_below_drewN | apply below_drew1) | exact HB.out)⟩
                    · rw [if_neg c42] at H
                      exact absurd H (by simp)
                  · rw [if_neg c41] at H
                    exact absurd H (by simp)
                · rw [if_neg c39] at H
                  exact absurd H (by simp)
        · rw [if_neg c7] at H
          exact absurd H (by simp)
      · rw [if_neg c6] at H
        exact absurd H (by simp)
    · rw [if_neg c4] at H
      exact absurd H (by simp)
  · rw [if_neg c3] at H
    have c3b0 : (t156 == 0) = false := beq_eq_false_iff_ne.mpr c3
    have c3b1 : (t156 != 0) = true := bne_iff_ne.mpr c3
    simp only [Option.some.injEq, Prod.mk.injEq] at H
    obtain ⟨rfl, rfl⟩ := H
    go_enter Tryd.func15, Tryd.ntmps15
    go_wp2_with (first | ((with_reducible refine gate_callee (f := 8) rfl ?_); refine goesL_ (some 10) rfl rfl Tryd.func8 (by kernel_rfl) rfl #[.slice A0 l0.length c0] rfl (by (try simp only [List.map_toArray, List.map_cons, List.map_nil]); first | done | rfl | (simp only [List.length_drop, List.length_take]; rfl)) ?_; (with_reducible refine (stemma_Check.calls k _ _ l0 t156 _ ?side1 ?side2 A2.out).mono ?_); (case side1 => repeat (first | exact HR0.out | (with_reducible refine Kd.C_alloc ?_ _) | (with_reducible refine Kd.C_drewN ?_ _) | (with_reducible refine Kd.C_drew ?_))); (case side2 => exact HC0.out); rintro e w44 ⟨rfl, hb⟩; refine ⟨_, rfl, ?_⟩; have n0_ := Aside0.mk (below_step (by repeat (first | (with_reducible first | exact HB.out | apply below_alloc | apply pw_below_drewN | apply below_drew1) | exact HB.out)) hb); clear HB; have HB := n0_; clear n0_; (try clear hb); (try clear hb2); (try clear hk); (try clear hi)))
    go_ret2
    exact ⟨by first | rfl | (simp [errW_none, errW_some] <;> rfl) | (simp [*, errW_none, errW_some] <;> rfl), by repeat (first | (with_reducible first | exact HB.out | apply below_alloc | apply pw_below_drewN | apply below_drew1) | exact HB.out)⟩
end Go.Proofs.YtecdjnabmjhakaaDoor.P
namespace Go.Proofs.YtecdjnabmjhakaaDoor.P
open Go.RowKit Go.Proofs.YtecdjnabmjhakaaDoorW.PrintWords Go.Proofs.YtecdjnabmjhakaaDoorW.PrintLast Go.Proofs.YtecdjnabmjhakaaDoorW.PrintMore
attribute [local go_sem] max2_int min2_int max_two min_two max_three min_three max_four min_four   -- for this text's walks alone
set_option linter.unusedVariables false
set_option linter.unusedSimpArgs false
def IsS87 (w0 W : World) (g : Nat) (f0 : Int) (f1 : Int) : Prop := W.heap[g]? = some (.cells #[.int .u64 f0, .int .u64 f1] 87 (0, 0)) ∧ w0.heap.size ≤ g
theorem IsS87.grown {w0 W : World} {g : Nat} {f0 : Int} {f1 : Int} {W1 : World} {row : Option Nat} (h : IsS87 w0 W g f0 f1) (hw : W.grownBy W1 row) (hne : some g ≠ row) : IsS87 w0 W1 g f0 f1 := by
  obtain ⟨hb, hg⟩ := h
  exact ⟨blk_grown hb hw hne, hg⟩
theorem IsS87.kept {w0 W : World} {g : Nat} {f0 : Int} {f1 : Int} {W1 : World} {S : Nat → Prop} (h : IsS87 w0 W g f0 f1) (hk : Kept W W1 S) (hne : ¬ S g) : IsS87 w0 W1 g f0 f1 := by
  obtain ⟨hb, hg⟩ := h
  exact ⟨blk_kept hb hk hne, hg⟩
theorem IsS87.below {w0 W : World} {g : Nat} {f0 : Int} {f1 : Int} {W1 : World} (h : IsS87 w0 W g f0 f1) (hw : Below W.heap.size W W1) : IsS87 w0 W1 g f0 f1 := h.grown (grown_of_below hw none) (by simp)
theorem IsS87.alloc {w0 W : World} {g : Nat} {f0 : Int} {f1 : Int} (h : IsS87 w0 W g f0 f1) (o : Obj) : IsS87 w0 (W.alloc o) g f0 f1 := h.below (below_alloc (Below.refl _ _) o)
theorem IsS87.drewN {w0 W : World} {g : Nat} {f0 : Int} {f1 : Int} (h : IsS87 w0 W g f0 f1) (m : Nat) : IsS87 w0 (W.drewN m) g f0 f1 := h
theorem IsS87.drew {w0 W : World} {g : Nat} {f0 : Int} {f1 : Int} (h : IsS87 w0 W g f0 f1) : IsS87 w0 W.drew g f0 f1 := h
theorem IsS87.at_ {w0 W : World} {g : Nat} {f0 : Int} {f1 : Int} {w' : World} {m : Nat} (hq : W.drewN m = w') (h : IsS87 w0 W g f0 f1) : IsS87 w0 w' g f0 f1 := by subst hq; exact IsS87.drewN h m
theorem IsS87.apart {w0 W : World} {g : Nat} {f0 : Int} {f1 : Int} {α : Type} {d : Kd α} {e : Nat} {base : Nat} {ok : Nat → Prop} {v : Value} {xs : List α} (h : IsS87 w0 W g f0 f1) (ho : d.R e W base ok v xs) (ht : ∀ q, q ∈ e :: d.E → q ≠ 87) : d.R e W base (fun k => ok k ∧ k ≠ g) v xs := by
  obtain ⟨hb, hg⟩ := h
  exact Kd.R_types ho hb ht
theorem IsS87.own_ne {w0 W : World} {g : Nat} {f0 : Int} {f1 : Int} {α : Type} {d : Kd α} {e : Nat} {base : Nat} {ok : Nat → Prop} {v : Value} {xs : List α} (h : IsS87 w0 W g f0 f1) (ho : d.R e W base ok v xs) (ht : e ≠ 87) : some g ≠ v.ownBlock := by
  obtain ⟨hb, hg⟩ := h
  exact Kd.R_ne ho hb ht
theorem IsS87.lt {w0 W : World} {g : Nat} {f0 : Int} {f1 : Int} (h : IsS87 w0 W g f0 f1) : g < W.heap.size := by
  obtain ⟨hb, hg⟩ := h
  exact blk_lt hb
theorem IsS87.ge {w0 W : World} {g : Nat} {f0 : Int} {f1 : Int} (h : IsS87 w0 W g f0 f1) : w0.heap.size ≤ g := by
  obtain ⟨hb, hg⟩ := h
  exact hg
theorem IsS87.far {w0 W : World} {g : Nat} {f0 : Int} {f1 : Int} {p : Addr} (h : IsS87 w0 W g f0 f1) (hne : g ≠ p.block) (u : Value) : IsS87 w0 (W.setCell p u) g f0 f1 := by
  obtain ⟨hb, hg⟩ := h
  exact ⟨blk_far hb hne u, hg⟩
theorem cellS87_0 {W : World} {g : Nat} {f0 : Int} {f1 : Int} (h : W.heap[g]? = some (.cells #[.int .u64 f0, .int .u64 f1] 87 (0, 0))) : W.cell? ⟨g, 0, none⟩ = some (.int .u64 f0) := (blk_cell h 0).trans rfl
theorem IsS87.set_0 {w0 W : World} {g : Nat} {f0 : Int} {f1 : Int} (h : IsS87 w0 W g f0 f1) (x : Int) : IsS87 w0 (W.setCell ⟨g, 0, none⟩ (.int .u64 x)) g x f1 := by
  obtain ⟨hb, hg⟩ := h
  exact ⟨by simpa using blk_set hb 0 (.int .u64 x), hg⟩
theorem cellS87_1 {W : World} {g : Nat} {f0 : Int} {f1 : Int} (h : W.heap[g]? = some (.cells #[.int .u64 f0, .int .u64 f1] 87 (0, 0))) : W.cell? ⟨g, 1, none⟩ = some (.int .u64 f1) := (blk_cell h 1).trans rfl
theorem IsS87.set_1 {w0 W : World} {g : Nat} {f0 : Int} {f1 : Int} (h : IsS87 w0 W g f0 f1) (x : Int) : IsS87 w0 (W.setCell ⟨g, 1, none⟩ (.int .u64 x)) g f0 x := by
  obtain ⟨hb, hg⟩ := h
  exact ⟨by simpa using blk_set hb 1 (.int .u64 x), hg⟩
theorem IsS87.new (w0 W : World) (f0 : Int) (f1 : Int) (hB : Below w0.heap.size w0 W) : IsS87 w0 (W.alloc (.cells #[.int .u64 f0, .int .u64 f1] 87)) W.heap.size f0 f1 := ⟨by simpa using heap_alloc_new W _, hB.size⟩
def cippuskit_Urn_turn.f (s0_0 : Int) (s0_1 : Int) : Option (Int × Int × Int) := if (Go.bits .or .u64 s0_1 (Go.bits .xor .u64 (Go.bits .xor .u64 (Go.bits .xor .u64 (Go.bits .xor .u64 s0_0 (IntKind.u64.wrap (s0_0 * 8388608))) s0_1) ((Go.bits .xor .u64 s0_0 (IntKind.u64.wrap (s0_0 * 8388608))) / 131072)) (s0_1 / 67108864))) = 0 then (some (IntKind.u64.wrap (1 + s0_1), s0_1, 1)) else (some (IntKind.u64.wrap ((Go.bits .xor .u64 (Go.bits .xor .u64 (Go.bits .xor .u64 (Go.bits .xor .u64 s0_0 (IntKind.u64.wrap (s0_0 * 8388608))) s0_1) ((Go.bits .xor .u64 s0_0 (IntKind.u64.wrap (s0_0 * 8388608))) / 131072)) (s0_1 / 67108864)) + s0_1), s0_1, Go.bits .xor .u64 (Go.bits .xor .u64 (Go.bits .xor .u64 (Go.bits .xor .u64 s0_0 (IntKind.u64.wrap (s0_0 * 8388608))) s0_1) ((Go.bits .xor .u64 s0_0 (IntKind.u64.wrap (s0_0 * 8388608))) / 131072)) (s0_1 / 67108864)))
set_option maxHeartbeats 8000000 in
set_option maxRecDepth 100000 in
theorem cippuskit_Urn_turn.calls (g : Nat) (s0_0 : Int) (s0_1 : Int) (r1 : Int) (r2 : Int) (r3 : Int) (w0 w : World) (hI : IsS87 w0 w g s0_0 s0_1) (hB : Below w0.heap.size w0 w) (h : cippuskit_Urn_turn.f s0_0 s0_1 = some (r1, r2, r3)) :
    Calls Tryd.prog 42 #[.pointer (some ⟨g, 0, none⟩)] w fun e w' => e = .returned (.int .u64 r1) ∧ IsS87 w0 w' g r2 r3 ∧ Below w0.heap.size w0 w' ∧ KeepBut w w' g none := by
  have HI0 := Aside0.mk hI
  have HK := Aside0.mk (KeepBut.refl w g none)
  have HL := Aside0.mk hB.size
  clear hI
  have HW0 := Aside0.mk hB.size
  have HB := Aside0.mk hB
  clear hB
  have H : (if (Go.bits .or .u64 s0_1 (Go.bits .xor .u64 (Go.bits .xor .u64 (Go.bits .xor .u64 (Go.bits .xor .u64 s0_0 (IntKind.u64.wrap (s0_0 * 8388608))) s0_1) ((Go.bits .xor .u64 s0_0 (IntKind.u64.wrap (s0_0 * 8388608))) / 131072)) (s0_1 / 67108864))) = 0 then (some (IntKind.u64.wrap (1 + s0_1), s0_1, 1)) else (some (IntKind.u64.wrap ((Go.bits .xor .u64 (Go.bits .xor .u64 (Go.bits .xor .u64 (Go.bits .xor .u64 s0_0 (IntKind.u64.wrap (s0_0 * 8388608))) s0_1) ((Go.bits .xor .u64 s0_0 (IntKind.u64.wrap (s0_0 * 8388608))) / 131072)) (s0_1 / 67108864)) + s0_1), s0_1, Go.bits .xor .u64 (Go.bits .xor .u64 (Go.bits .xor .u64 (Go.bits .xor .u64 s0_0 (IntKind.u64.wrap (s0_0 * 8388608))) s0_1) ((Go.bits .xor .u64 s0_0 (IntKind.u64.wrap (s0_0 * 8388608))) / 131072)) (s0_1 / 67108864)))) = some (r1, r2, r3) := h
  clear h
  by_cases c2 : (Go.bits .or .u64 s0_1 (Go.bits .xor .u64 (Go.bits .xor .u64 (Go.bits .xor .u64 (Go.bits .xor .u64 s0_0 (IntKind.u64.wrap (s0_0 * 8388608))) s0_1) ((Go.bits .xor .u64 s0_0 (IntKind.u64.wrap (s0_0 * 8388608))) / 131072)) (s0_1 / 67108864))) = 0
  · rw [if_pos c2] at H
    have c2b0 : ((Go.bits .or .u64 s0_1 (Go.bits .xor .u64 (Go.bits .xor .u64 (Go.bits .xor .u64 (Go.bits .xor .u64 s0_0 (IntKind.u64.wrap (s0_0 * 8388608))) s0_1) ((Go.bits .xor .u64 s0_0 (IntKind.u64.wrap (s0_0 * 8388608))) / 131072)) (s0_1 / 67108864))) == 0) = true := beq_iff_eq.mpr c2
    have c2b1 : ((Go.bits .or .u64 s0_1 (Go.bits .xor .u64 (Go.bits .xor .u64 (Go.bits .xor .u64 (Go.bits .xor .u64 s0_0 (IntKind.u64.wrap (s0_0 * 8388608))) s0_1) ((Go.bits .xor .u64 s0_0 (IntKind.u64.wrap (s0_0 * 8388608))) / 131072)) (s0_1 / 67108864))) != 0) = false := bne_eq_false_iff_eq.mpr c2
    clear c2
    simp only [Option.some.injEq, Prod.mk.injEq] at H
    obtain ⟨rfl, rfl, rfl⟩ := H
    obtain ⟨HGz3, hgz3⟩ := HI0.out
    have hcz3_0 := cellS87_0 HGz3
    have hcz3_1 := cellS87_1 HGz3
    have hfz3_0 := blk_frozen HGz3 0
    have hfz3_1 := blk_frozen HGz3 1
    clear HGz3 hgz3
    go_enter Tryd.func42, Tryd.ntmps42
    go_wp2
    repeat (go_quiet (fail); try go_wp2)
    go_ret
    exact ⟨by first | rfl | (simp [errW_none, errW_some] <;> rfl) | (simp [*, errW_none, errW_some] <;> rfl), by repeat (first | (with_reducible first | exact HI0.out | apply IsS87.alloc | apply IsS87.drewN | apply IsS87.drew | apply IsS87.set_0 | apply IsS87.set_1) | exact HI0.out), by repeat (first | (with_reducible first | exact HB.out | apply below_alloc | apply pw_below_drewN | apply below_drew1 | refine below_set ?_ (IsS87.ge HI0.out)) | exact HB.out), by repeat (first | (with_reducible first | exact HK.out | apply KeepBut.set_ | apply keep_drewN | apply keep_drew | apply keep_alloc) | exact HK.out)⟩
  · rw [if_neg c2] at H
    have c2b0 : ((Go.bits .or .u64 s0_1 (Go.bits .xor .u64 (Go.bits .xor .u64 (Go.bits .xor .u64 (Go.bits .xor .u64 s0_0 (IntKind.u64.wrap (s0_0 * 8388608))) s0_1) ((Go.bits .xor .u64 s0_0 (IntKind.u64.wrap (s0_0 * 8388608))) / 131072)) (s0_1 / 67108864))) == 0) = false := beq_eq_false_iff_ne.mpr c2
    have c2b1 : ((Go.bits .or .u64 s0_1 (Go.bits .xor .u64 (Go.bits .xor .u64 (Go.bits .xor .u64 (Go.bits .xor .u64 s0_0 (IntKind.u64.wrap (s0_0 * 8388608))) s0_1) ((Go.bits .xor .u64 s0_0 (IntKind.u64.wrap (s0_0 * 8388608))) / 131072)) (s0_1 / 67108864))) != 0) = true := bne_iff_ne.mpr c2
    simp only [Option.some.injEq, Prod.mk.injEq] at H
    obtain ⟨rfl, rfl, rfl⟩ := H
    obtain ⟨HGz4, hgz4⟩ := HI0.out
    have hcz4_0 := cellS87_0 HGz4
    have hcz4_1 := cellS87_1 HGz4
    have hfz4_0 := blk_frozen HGz4 0
    have hfz4_1 := blk_frozen HGz4 1
    clear HGz4 hgz4
    go_enter Tryd.func42, Tryd.ntmps42
    go_wp2
    repeat (go_quiet (fail); try go_wp2)
    go_ret
    exact ⟨by first | rfl | (simp [errW_none, errW_some] <;> rfl) | (simp [*, errW_none, errW_some] <;> rfl), by repeat (first | (with_reducible first | exact HI0.out | apply IsS87.alloc | apply IsS87.drewN | apply IsS87.drew | apply IsS87.set_0 | apply IsS87.set_1) | exact HI0.out), by repeat (first | (with_reducible first | exact HB.out | apply below_alloc | apply pw_below_drewN | apply below_drew1 | refine below_set ?_ (IsS87.ge HI0.out)) | exact HB.out), by repeat (first | (with_reducible first | exact HK.out | apply KeepBut.set_ | apply keep_drewN | apply keep_drew | apply keep_alloc) | exact HK.out)⟩
end Go.Proofs.YtecdjnabmjhakaaDoor.P
namespace Go.Proofs.YtecdjnabmjhakaaDoor.P
open Go.RowKit Go.Proofs.YtecdjnabmjhakaaDoorW.PrintWords Go.Proofs.YtecdjnabmjhakaaDoorW.PrintLast Go.Proofs.YtecdjnabmjhakaaDoorW.PrintMore
attribute [local go_sem] max2_int min2_int max_two min_two max_three min_three max_four min_four   -- for this text's walks alone
set_option linter.unusedVariables false
set_option linter.unusedSimpArgs false
def cippuskit_Urn_Up.f (s0_0 : Int) (s0_1 : Int) (a1 : Int) : Option (Int × Int × Int) := if a1 < 2 then (some (0, s0_0, s0_1)) else ((cippuskit_Urn_turn.f s0_0 s0_1).bind fun bt267 => (if (IntKind.u64.wrap (a1)) = 0 then (none) else (some (wrap64 (Int.tmod (bt267.1 / 2048) (IntKind.u64.wrap (a1))), bt267.2.1, bt267.2.2))))
set_option maxHeartbeats 8000000 in
set_option maxRecDepth 100000 in
theorem cippuskit_Urn_Up.calls (g : Nat) (s0_0 : Int) (s0_1 : Int) (a1 : Int) (r1 : Int) (r2 : Int) (r3 : Int) (w0 w : World) (hI : IsS87 w0 w g s0_0 s0_1) (hB : Below w0.heap.size w0 w) (h : cippuskit_Urn_Up.f s0_0 s0_1 a1 = some (r1, r2, r3)) :
    Calls Tryd.prog 39 #[.pointer (some ⟨g, 0, none⟩), .int .i64 a1] w fun e w' => e = .returned (.int .i64 r1) ∧ IsS87 w0 w' g r2 r3 ∧ Below w0.heap.size w0 w' ∧ KeepBut w w' g none := by
  have HI0 := Aside0.mk hI
  have HK := Aside0.mk (KeepBut.refl w g none)
  have HL := Aside0.mk hB.size
  clear hI
  have HW0 := Aside0.mk hB.size
  have HB := Aside0.mk hB
  clear hB
  have H : (if a1 < 2 then (some (0, s0_0, s0_1)) else ((cippuskit_Urn_turn.f s0_0 s0_1).bind fun bt267 => (if (IntKind.u64.wrap (a1)) = 0 then (none) else (some (wrap64 (Int.tmod (bt267.1 / 2048) (IntKind.u64.wrap (a1))), bt267.2.1, bt267.2.2))))) = some (r1, r2, r3) := h
  clear h
  by_cases c3 : a1 < 2
  · rw [if_pos c3] at H
    have c3b0 : decide (a1 < 2) = true := decide_eq_true c3
    clear c3
    simp only [Option.some.injEq, Prod.mk.injEq] at H
    obtain ⟨rfl, rfl, rfl⟩ := H
    go_enter Tryd.func39, Tryd.ntmps39
    go_wp2
    go_ret
    exact ⟨by first | rfl | (simp [errW_none, errW_some] <;> rfl) | (simp [*, errW_none, errW_some] <;> rfl), by repeat (first | (with_reducible first | exact HI0.out | apply IsS87.alloc | apply IsS87.drewN | apply IsS87.drew | apply IsS87.set_0 | apply IsS87.set_1) | exact HI0.out), by repeat (first | (with_reducible first | exact HB.out | apply below_alloc | apply pw_below_drewN | apply below_drew1 | refine below_set ?_ (IsS87.ge HI0.out)) | exact HB.out), by repeat (first | (with_reducible first | exact HK.out | apply KeepBut.set_ | apply keep_drewN | apply keep_drew | apply keep_alloc) | exact HK.out)⟩
  · rw [if_neg c3] at H
    have c3b0 : decide (a1 < 2) = false := decide_eq_false c3
    clear c3
    replace H := Option.bind_eq_some_iff.mp H
    obtain ⟨⟨t267, t268, t269⟩, A40, H⟩ := H
    replace H : (if (IntKind.u64.wrap (a1)) = 0 then (none) else (some (wrap64 (Int.tmod (t267 / 2048) (IntKind.u64.wrap (a1))), t268, t269))) = some (r1, r2, r3) := H
    have A4 := Aside0.mk A40
    clear A40
    by_cases c5 : (IntKind.u64.wrap (a1)) = 0
    · rw [if_pos c5] at H
      exact absurd H (by simp)
    · rw [if_neg c5] at H
      have c5b0 : ((IntKind.u64.wrap (a1)) == 0) = false := beq_eq_false_iff_ne.mpr c5
      have c5b1 : ((IntKind.u64.wrap (a1)) != 0) = true := bne_iff_ne.mpr c5
      simp only [Option.some.injEq, Prod.mk.injEq] at H
      obtain ⟨rfl, rfl, rfl⟩ := H
      go_enter Tryd.func39, Tryd.ntmps39
      go_wp2_with (first | ((with_reducible refine gate_callee (f := 42) rfl ?_); refine goesL_ (some 8) rfl rfl Tryd.func42 (by kernel_rfl) rfl #[.pointer (some ⟨g, 0, none⟩)] rfl (by (try simp only [List.map_toArray, List.map_cons, List.map_nil]); first | done | rfl | (simp only [List.length_drop, List.length_take]; rfl)) ?_; (with_reducible refine (cippuskit_Urn_turn.calls g s0_0 s0_1 t267 t268 t269 w0 _ ?side1 ?side2 A4.out).mono ?_); (case side1 => repeat (first | (with_reducible first | exact HI0.out | apply IsS87.alloc | apply IsS87.drewN | apply IsS87.drew | apply IsS87.set_0 | apply IsS87.set_1) | exact HI0.out)); (case side2 => repeat (first | (with_reducible first | exact HB.out | apply below_alloc | apply pw_below_drewN | apply below_drew1 | refine below_set ?_ (IsS87.ge HI0.out)) | exact HB.out)); rintro e w6 ⟨rfl, hi, hb, hk⟩; refine ⟨_, rfl, ?_⟩; have n0_ := Aside0.mk (KeepBut.trans (by repeat (first | (with_reducible first | exact HK.out | apply KeepBut.set_ | apply keep_drewN | apply keep_drew | apply keep_alloc) | exact HK.out)) hk (.inl rfl)); have n1_ := Aside0.mk (hb); have n2_ := Aside0.mk (hi); clear HK; clear HB; clear HI0; have HK := n0_; have HB := n1_; have HI0 := n2_; clear n0_ n1_ n2_; (try clear hb); (try clear hb2); (try clear hk); (try clear hi)))
      go_ret
      exact ⟨by first | rfl | (simp [errW_none, errW_some] <;> rfl) | (simp [*, errW_none, errW_some] <;> rfl), by repeat (first | (with_reducible first | exact HI0.out | apply IsS87.alloc | apply IsS87.drewN | apply IsS87.drew | apply IsS87.set_0 | apply IsS87.set_1) | exact HI0.out), by repeat (first | (with_reducible first | exact HB.out | apply below_alloc | apply pw_below_drewN | apply below_drew1 | refine below_set ?_ (IsS87.ge HI0.out)) | exact HB.out), by repeat (first | (with_reducible first | exact HK.out | apply KeepBut.set_ | apply keep_drewN | apply keep_drew | apply keep_alloc) | exact HK.out)⟩
end Go.Proofs.YtecdjnabmjhakaaDoor.P
namespace Go.Proofs.YtecdjnabmjhakaaDoor.P
open Go.RowKit Go.Proofs.YtecdjnabmjhakaaDoorW.PrintWords Go.Proofs.YtecdjnabmjhakaaDoorW.PrintLast Go.Proofs.YtecdjnabmjhakaaDoorW.PrintMore
attribute [local go_sem] max2_int min2_int max_two min_two max_three min_three max_four min_four   -- for this text's walks alone
set_option linter.unusedVariables false
set_option linter.unusedSimpArgs false
def cippuskit_Urn_From.f (s0_0 : Int) (s0_1 : Int) (a1 : Int) (a2 : Int) : Option (Int × Int × Int) := (cippuskit_Urn_Up.f s0_0 s0_1 (wrap64 ((wrap64 (a2 - a1)) + 1))).bind fun bt270 => (some (wrap64 (a1 + bt270.1), bt270.2.1, bt270.2.2))
set_option maxHeartbeats 8000000 in
set_option maxRecDepth 100000 in
theorem cippuskit_Urn_From.calls (g : Nat) (s0_0 : Int) (s0_1 : Int) (a1 : Int) (a2 : Int) (r1 : Int) (r2 : Int) (r3 : Int) (w0 w : World) (hI : IsS87 w0 w g s0_0 s0_1) (hB : Below w0.heap.size w0 w) (h : cippuskit_Urn_From.f s0_0 s0_1 a1 a2 = some (r1, r2, r3)) :
    Calls Tryd.prog 38 #[.pointer (some ⟨g, 0, none⟩), .int .i64 a1, .int .i64 a2] w fun e w' => e = .returned (.int .i64 r1) ∧ IsS87 w0 w' g r2 r3 ∧ Below w0.heap.size w0 w' ∧ KeepBut w w' g none := by
  have HI0 := Aside0.mk hI
  have HK := Aside0.mk (KeepBut.refl w g none)
  have HL := Aside0.mk hB.size
  clear hI
  have HW0 := Aside0.mk hB.size
  have HB := Aside0.mk hB
  clear hB
  have H : ((cippuskit_Urn_Up.f s0_0 s0_1 (wrap64 ((wrap64 (a2 - a1)) + 1))).bind fun bt270 => (some (wrap64 (a1 + bt270.1), bt270.2.1, bt270.2.2))) = some (r1, r2, r3) := h
  clear h
  replace H := Option.bind_eq_some_iff.mp H
  obtain ⟨⟨t270, t271, t272⟩, A40, H⟩ := H
  replace H : (some (wrap64 (a1 + t270), t271, t272)) = some (r1, r2, r3) := H
  have A4 := Aside0.mk A40
  clear A40
  simp only [Option.some.injEq, Prod.mk.injEq] at H
  obtain ⟨rfl, rfl, rfl⟩ := H
  go_enter Tryd.func38, Tryd.ntmps38
  go_wp2_with (first | ((with_reducible refine gate_callee (f := 39) rfl ?_); refine goesL_ (some 13) rfl rfl Tryd.func39 (by kernel_rfl) rfl #[.pointer (some ⟨g, 0, none⟩), .int .i64 (wrap64 ((wrap64 (a2 - a1)) + 1))] rfl (by (try simp only [List.map_toArray, List.map_cons, List.map_nil]); first | done | rfl | (simp only [List.length_drop, List.length_take]; rfl)) ?_; (with_reducible refine (cippuskit_Urn_Up.calls g s0_0 s0_1 (wrap64 ((wrap64 (a2 - a1)) + 1)) t270 t271 t272 w0 _ ?side1 ?side2 A4.out).mono ?_); (case side1 => repeat (first | (with_reducible first | exact HI0.out | apply IsS87.alloc | apply IsS87.drewN | apply IsS87.drew | apply IsS87.set_0 | apply IsS87.set_1) | exact HI0.out)); (case side2 => repeat (first | (with_reducible first | exact HB.out | apply below_alloc | apply pw_below_drewN | apply below_drew1 | refine below_set ?_ (IsS87.ge HI0.out)) | exact HB.out)); rintro e w5 ⟨rfl, hi, hb, hk⟩; refine ⟨_, rfl, ?_⟩; have n0_ := Aside0.mk (KeepBut.trans (by repeat (first | (with_reducible first | exact HK.out | apply KeepBut.set_ | apply keep_drewN | apply keep_drew | apply keep_alloc) | exact HK.out)) hk (.inl rfl)); have n1_ := Aside0.mk (hb); have n2_ := Aside0.mk (hi); clear HK; clear HB; clear HI0; have HK := n0_; have HB := n1_; have HI0 := n2_; clear n0_ n1_ n2_; (try clear hb); (try clear hb2); (try clear hk); (try clear hi)))
  go_ret
  exact ⟨by first | rfl | (simp [errW_none, errW_some] <;> rfl) | (simp [*, errW_none, errW_some] <;> rfl), by repeat (first | (with_reducible first | exact HI0.out | apply IsS87.alloc | apply IsS87.drewN | apply IsS87.drew | apply IsS87.set_0 | apply IsS87.set_1) | exact HI0.out), by repeat (first | (with_reducible first | exact HB.out | apply below_alloc | apply pw_below_drewN | apply below_drew1 | refine below_set ?_ (IsS87.ge HI0.out)) | exact HB.out), by repeat (first | (with_reducible first | exact HK.out | apply KeepBut.set_ | apply keep_drewN | apply keep_drew | apply keep_alloc) | exact HK.out)⟩
end Go.Proofs.YtecdjnabmjhakaaDoor.P
namespace Go.Proofs.YtecdjnabmjhakaaDoor.P
open Go.RowKit Go.Proofs.YtecdjnabmjhakaaDoorW.PrintWords Go.Proofs.YtecdjnabmjhakaaDoorW.PrintLast Go.Proofs.YtecdjnabmjhakaaDoorW.PrintMore
attribute [local go_sem] max2_int min2_int max_two min_two max_three min_three max_four min_four   -- for this text's walks alone
set_option linter.unusedVariables false
set_option linter.unusedSimpArgs false
def cippuskit_Urn_Odds.f (s0_0 : Int) (s0_1 : Int) (a1 : Int) (a2 : Int) : Option (Bool × Int × Int) := (cippuskit_Urn_Up.f s0_0 s0_1 a2).bind fun bt273 => (some (decide (bt273.1 < a1), bt273.2.1, bt273.2.2))
set_option maxHeartbeats 8000000 in
set_option maxRecDepth 100000 in
theorem cippuskit_Urn_Odds.calls (g : Nat) (s0_0 : Int) (s0_1 : Int) (a1 : Int) (a2 : Int) (r1 : Bool) (r2 : Int) (r3 : Int) (w0 w : World) (hI : IsS87 w0 w g s0_0 s0_1) (hB : Below w0.heap.size w0 w) (h : cippuskit_Urn_Odds.f s0_0 s0_1 a1 a2 = some (r1, r2, r3)) :
    Calls Tryd.prog 40 #[.pointer (some ⟨g, 0, none⟩), .int .i64 a1, .int .i64 a2] w fun e w' => e = .returned (.bool r1) ∧ IsS87 w0 w' g r2 r3 ∧ Below w0.heap.size w0 w' ∧ KeepBut w w' g none := by
  have HI0 := Aside0.mk hI
  have HK := Aside0.mk (KeepBut.refl w g none)
  have HL := Aside0.mk hB.size
  clear hI
  have HW0 := Aside0.mk hB.size
  have HB := Aside0.mk hB
  clear hB
  have H : ((cippuskit_Urn_Up.f s0_0 s0_1 a2).bind fun bt273 => (some (decide (bt273.1 < a1), bt273.2.1, bt273.2.2))) = some (r1, r2, r3) := h
  clear h
  replace H := Option.bind_eq_some_iff.mp H
  obtain ⟨⟨t273, t274, t275⟩, A40, H⟩ := H
  replace H : (some (decide (t273 < a1), t274, t275)) = some (r1, r2, r3) := H
  have A4 := Aside0.mk A40
  clear A40
  simp only [Option.some.injEq, Prod.mk.injEq] at H
  obtain ⟨rfl, rfl, rfl⟩ := H
  go_enter Tryd.func40, Tryd.ntmps40
  go_wp2_with (first | ((with_reducible refine gate_callee (f := 39) rfl ?_); refine goesL_ (some 9) rfl rfl Tryd.func39 (by kernel_rfl) rfl #[.pointer (some ⟨g, 0, none⟩), .int .i64 a2] rfl (by (try simp only [List.map_toArray, List.map_cons, List.map_nil]); first | done | rfl | (simp only [List.length_drop, List.length_take]; rfl)) ?_; (with_reducible refine (cippuskit_Urn_Up.calls g s0_0 s0_1 a2 t273 t274 t275 w0 _ ?side1 ?side2 A4.out).mono ?_); (case side1 => repeat (first | (with_reducible first | exact HI0.out | apply IsS87.alloc | apply IsS87.drewN | apply IsS87.drew | apply IsS87.set_0 | apply IsS87.set_1) | exact HI0.out)); (case side2 => repeat (first | (with_reducible first | exact HB.out | apply below_alloc | apply pw_below_drewN | apply below_drew1 | refine below_set ?_ (IsS87.ge HI0.out)) | exact HB.out)); rintro e w5 ⟨rfl, hi, hb, hk⟩; refine ⟨_, rfl, ?_⟩; have n0_ := Aside0.mk (KeepBut.trans (by repeat (first | (with_reducible first | exact HK.out | apply KeepBut.set_ | apply keep_drewN | apply keep_drew | apply keep_alloc) | exact HK.out)) hk (.inl rfl)); have n1_ := Aside0.mk (hb); have n2_ := Aside0.mk (hi); clear HK; clear HB; clear HI0; have HK := n0_; have HB := n1_; have HI0 := n2_; clear n0_ n1_ n2_; (try clear hb); (try clear hb2); (try clear hk); (try clear hi)))
  go_ret
  exact ⟨by first | rfl | (simp [errW_none, errW_some] <;> rfl) | (simp [*, errW_none, errW_some] <;> rfl), by repeat (first | (with_reducible first | exact HI0.out | apply IsS87.alloc | apply IsS87.drewN | apply IsS87.drew | apply IsS87.set_0 | apply IsS87.set_1) | exact HI0.out), by repeat (first | (with_reducible first | exact HB.out | apply below_alloc | apply pw_below_drewN | apply below_drew1 | refine below_set ?_ (IsS87.ge HI0.out)) | exact HB.out), by repeat (first | (with_reducible first | exact HK.out | apply KeepBut.set_ | apply keep_drewN | apply keep_drew | apply keep_alloc) | exact HK.out)⟩
end Go.Proofs.YtecdjnabmjhakaaDoor.P
namespace Go.Proofs.YtecdjnabmjhakaaDoor.P.OwnUrn
open Go.RowKit Go.Proofs.YtecdjnabmjhakaaDoorW.PrintWords Go.Proofs.YtecdjnabmjhakaaDoorW.PrintLast Go.Proofs.YtecdjnabmjhakaaDoorW.PrintMore
def urnGo : List Int → Int → Int → Option (Int × Int)
  | [], a, b => some (a, b)
  | x :: xs, a, b => (cippuskit_Urn_turn.f a (IntKind.u64.wrap (b + IntKind.u64.wrap x))).bind fun t => (cippuskit_Urn_turn.f t.2.1 t.2.2).bind fun t2 => urnGo xs t2.2.1 t2.2.2
def newUrn (l : List Int) : Option (Int × Int) := if l.length < 4611686018427387904 then urnGo l 11400714819323198485 14029467366897019727 else none
def erredGo : Nat → List Int → Int → Int → Option (List Int × Int × Int)
  | 0, b, s0, s1 => some (b, s0, s1)
  | n + 1, b, s0, s1 => (cippuskit_Urn_Up.f s0 s1 (b.length : Int)).bind fun t => (cippuskit_Urn_Up.f t.2.1 t.2.2 3).bind fun u =>
    if 0 ≤ t.1 ∧ t.1 < (b.length : Int) then erredGo n (b.set t.1.toNat ((wrap64 (65 + u.1)) % 256)) u.2.1 u.2.2 else none
def erred (s0 s1 : Int) (a1 : ByteArray) (a2 : Int) : Option (ByteArray × Int × Int) :=
  if a1.size ≤ 9223372036854775807 ∧ a2 ≤ 9223372036854775807 then (erredGo a2.toNat (bytesOf a1) s0 s1).map fun r => (strOfNums r.1, r.2.1, r.2.2) else none
def stoneGo : Nat → Int → Int → ByteArray → Option (ByteArray × Int × Int)
  | 0, a, b, s => some (s, a, b)
  | n + 1, a, b, s => (cippuskit_Urn_Up.f a b 3).bind fun t => if s.size + 1 ≤ 9223372036854775807 then stoneGo n t.2.1 t.2.2 (s ++ strOfNums [(wrap64 (65 + t.1)) % 256]) else none
def copyGo : Nat → Int → ByteArray → List S25 → List Int → Int → Int → Option (List S25 × List Int × Int × Int)
  | 0, _, _, l, src, a, b => some (l, src, a, b)
  | n + 1, er, st, l, src, a, b => (cippuskit_Urn_From.f a b (-1) (wrap64 ((l.length : Int) - 1))).bind fun t => (cippuskit_Urn_Up.f t.2.1 t.2.2 (wrap64 (er + 1))).bind fun u =>
    (if t.1 < 0 then some (true, u.2.1, u.2.2) else cippuskit_Urn_Odds.f u.2.1 u.2.2 1 2).bind fun o =>
    (if 0 ≤ t.1 then (if t.1 < (l.length : Int) then some (rd_T25 l t.1).f0 else none) else some st).bind fun fr =>
    (erred o.2.1 o.2.2 fr u.1).bind fun e =>
    if l.length + 1 < 4398046511104 ∧ src.length + 1 < 17592186044416 then copyGo n er st (l ++ [⟨e.1, u.1, o.1⟩]) (src ++ [t.1]) e.2.1 e.2.2 else none
def copiesOf (s0 s1 copies places errors : Int) : Option (List S25 × ByteArray × List Int × Int × Int) :=
  (cippuskit_Urn_From.f s0 s1 1 places).bind fun t => (stoneGo t.1.toNat t.2.1 t.2.2 ⟨#[]⟩).bind fun s => (cippuskit_Urn_From.f s.2.1 s.2.2 1 copies).bind fun t =>
    (copyGo t.1.toNat errors s.1 [] [] t.2.1 t.2.2).map fun r => (r.1, s.1, r.2.1, r.2.2.1, r.2.2.2)
end Go.Proofs.YtecdjnabmjhakaaDoor.P.OwnUrn
namespace Go.Proofs.YtecdjnabmjhakaaDoor.P.OwnUrn
open Go.RowKit Go.Proofs.YtecdjnabmjhakaaDoorW.PrintWords Go.Proofs.YtecdjnabmjhakaaDoorW.PrintLast Go.Proofs.YtecdjnabmjhakaaDoorW.PrintMore
set_option linter.unusedVariables false
theorem below_of_keep {w0 w W W' : World} {g : Nat} (h0 : Below w0.heap.size w0 w) (h1 : Below w0.heap.size w0 W') (hw : Below w.heap.size w W) (hk : KeepBut W W' g none) (hg : w.heap.size ≤ g) : Below w.heap.size w W' :=
  ⟨h1.os.trans h0.os.symm, h1.tape.trans h0.tape.symm, h1.output.trans h0.output.symm, Nat.le_trans hw.size hk.1, fun k hk' => (hk.2 k (Nat.lt_of_lt_of_le hk' hw.size) (by omega) (by simp)).trans (hw.block k hk')⟩
def RelNew (w0 w : World) (l0 : List Int) (r1 r2 : Int) (k : Nat) (wr : World) : Prop :=
  ∃ a b : Int, IsS87 w0 wr w.heap.size a b ∧ Below w0.heap.size w0 wr ∧ Below w.heap.size w wr ∧ urnGo (l0.drop k) a b = some (r1, r2)
set_option maxHeartbeats 4000000 in
set_option maxRecDepth 100000 in
theorem newUrn_calls (A0 : Option Addr) (c0 : Nat) (l0 : List Int) (r1 : Int) (r2 : Int) (w0 w : World) (hB : Below w0.heap.size w0 w) (hr0 : Kd.C (Kd.int .i64) w0 A0 l0.length l0) (hc0 : l0.length ≤ c0) (h : newUrn l0 = some (r1, r2)) :
    Calls Tryd.prog 18 #[.slice A0 l0.length c0] w fun e w' => ∃ g_ : Nat, e = .returned (.pointer (some ⟨g_, 0, none⟩)) ∧ IsS87 w0 w' g_ r1 r2 ∧ Below w0.heap.size w0 w' ∧ Below w.heap.size w w' := by
  have hlen : l0.length < 4611686018427387904 := by
    unfold newUrn at h
    split at h
    · assumption
    · cases h
  rw [newUrn, if_pos hlen] at h
  have H := Lib.hid h; clear h
  have HB := Aside0.mk hB; clear hB
  have HR := Aside0.mk hr0; clear hr0
  go_enter Tryd.func18, Tryd.ntmps18
  go_wp2
  go_loopw [4] (fun v wr => ∃ k : Nat, v = .int .i64 k ∧ k ≤ l0.length ∧ RelNew w0 w l0 r1 r2 k wr) (fun v _ => l0.length - (intOf v).toNat)
  case atStart =>
    refine ⟨0, rfl, Nat.zero_le _, _, _, IsS87.new w0 w _ _ HB.out, ?_, ?_, H.out⟩
    · exact HB.out.alloc HB.out.size _
    · exact (Below.refl _ _).alloc (Nat.le_refl _) _
  case round =>
    obtain ⟨k, rfl, hk, a, b, hI, hb0, hb1, hg⟩ := hrel
    by_cases hlt : k < l0.length
    · obtain ⟨ad, e, hx⟩ := Kd.at_int HR.out (k : Int) (by omega) (by omega)
      subst e
      simp only [Int.toNat_natCast] at hx
      replace hx := (hb0.cell (World.block_lt_of_cell? w0 _ hx)).trans hx
      obtain ⟨HG, hg0⟩ := id hI
      have hc0 := cellS87_0 HG
      have hc1 := cellS87_1 HG
      have hf0 := blk_frozen HG 0
      have hf1 := blk_frozen HG 1
      have hlt' : (k : Int) < (l0.length : Int) := by omega
      have hd : l0.drop k = rd l0 k :: l0.drop (k + 1) := by rw [List.drop_eq_getElem_cons hlt]; simp [rd, List.getD_eq_getElem?_getD, hlt]
      rw [hd, urnGo, Option.bind_eq_some_iff] at hg
      obtain ⟨⟨t1, t2, t3⟩, ht, hg⟩ := hg
      rw [Option.bind_eq_some_iff] at hg
      obtain ⟨⟨u1, u2, u3⟩, hu, hg⟩ := hg
      dsimp only at hu hg
      have HT := Aside0.mk ht; clear ht
      have HU := Aside0.mk hu; clear hu
      have HG2 := Aside0.mk hg; clear hg hd
      go_wp2_with fail
      go_region
      go_wp2_with fail
      refine (cippuskit_Urn_turn.calls _ _ _ _ _ _ w0 _ ((hI.set_1 _).drew) (below_drew (below_set hb0 hg0)) HT.out).mono ?_
      rintro e w1 ⟨rfl, hI1, hB1, hK1⟩
      go_wp2_with fail
      refine (cippuskit_Urn_turn.calls _ _ _ _ _ _ w0 _ hI1 hB1 HU.out).mono ?_
      rintro e w2 ⟨rfl, hI2, hB2, hK2⟩
      go_wp2_with fail
      go_roundw
      case rel =>
        refine ⟨k + 1, by go_num, by omega, _, _, hI2, hB2, ?_, HG2.out⟩
        exact below_of_keep HB.out hB2 (below_of_keep HB.out hB1 (below_drew (below_set hb1 (Nat.le_refl _))) hK1 (Nat.le_refl _)) hK2 (Nat.le_refl _)
      case measure => simp [intOf]; omega
    · go_wp2
      go_ret
      refine ⟨_, rfl, ?_, hb0, hb1⟩
      rw [List.drop_of_length_le (by omega)] at hg
      simp only [urnGo, Option.some.injEq, Prod.mk.injEq] at hg
      obtain ⟨rfl, rfl⟩ := hg
      exact hI
def Buf (W : World) (gb : Nat) (xs : List Int) : Prop := (∀ i, i < xs.length → W.cell? ⟨gb, i, none⟩ = some (.int .u8 (rd xs i)) ∧ W.frozen? ⟨gb, i, none⟩ = false) ∧ gb < W.heap.size
theorem Buf.keep {W W' : World} {gb : Nat} {xs : List Int} (h : Buf W gb xs) (hb : W'.heap[gb]? = W.heap[gb]?) (hs : W.heap.size ≤ W'.heap.size) : Buf W' gb xs :=
  ⟨fun i hi => ⟨(World.cell?_of_block (a := ⟨gb, i, none⟩) hb).trans (h.1 i hi).1, (World.frozen?_of_block (a := ⟨gb, i, none⟩) hb).trans (h.1 i hi).2⟩, Nat.lt_of_lt_of_le h.2 hs⟩
theorem Buf.set {W : World} {gb : Nat} {xs : List Int} (h : Buf W gb xs) (i : Nat) (hi : i < xs.length) (x : Int) : Buf (W.setCell ⟨gb, i, none⟩ (.int .u8 x)) gb (xs.set i x) := by
  refine ⟨fun j hj => ?_, by simpa using h.2⟩
  rw [List.length_set] at hj
  refine ⟨?_, by rw [World.frozen?_setCell]; exact (h.1 j hj).2⟩
  by_cases e : j = i
  · subst e
    rw [World.cell?_setCell_same' _ _ _ (by rw [(h.1 j hj).1]; rfl)]
    simp [rd, List.getD_eq_getElem?_getD, hj]
  · rw [World.cell?_setCell_other W _ (a := ⟨gb, i, none⟩) (b := ⟨gb, j, none⟩) (fun e_ => e (by injection e_ with _ h2; exact h2.symm)), (h.1 j hj).1]
    simp [rd, List.getD_eq_getElem?_getD, List.getElem?_set, Ne.symm e]
theorem Buf.reads {W : World} {gb : Nat} {xs : List Int} (h : Buf W gb xs) (hm : xs.length ≤ 9223372036854775807) : ReadsInt W .u8 (some ⟨gb, 0, none⟩) xs.length xs :=
  ⟨rfl, hm, fun _ => ⟨_, rfl, fun j hj => by
    have := (h.1 j hj).1
    rw [add_plain]
    rw [this]
    simp [rd, List.getD_eq_getElem?_getD]⟩⟩
theorem Buf.new (W : World) (s : ByteArray) : Buf (Lib.bytesWorld W 5 s) W.heap.size (bytesOf s) := by
  refine ⟨fun i hi => ?_, by rw [Lib.bytesWorld_size]; omega⟩
  rw [bytesOf_length] at hi
  refine ⟨?_, ?_⟩
  · rw [Lib.bytesWorld_cell _ _ _ _ hi]
    simp [rd, bytesOf, List.getD_eq_getElem?_getD, hi]
  · unfold World.frozen?
    rw [Lib.bytesWorld_at_new]
    have hz : s.size ≤ (Lib.bytesCells W 5 s).size := by
      unfold Lib.bytesCells; rw [Array.size_append, Array.size_map]; exact Nat.le_add_right _ _
    simp
    omega
def RelErr (w0 w : World) (g : Nat) (n m : Nat) (L : List Int) (r2 r3 : Int) (k : Nat) (wr : World) : Prop :=
  ∃ (xs : List Int) (a b : Int), IsS87 w0 wr g a b ∧ Below w0.heap.size w0 wr ∧ KeepBut w wr g none ∧ Buf wr w.heap.size xs ∧ xs.length = m ∧ erredGo (n - k) xs a b = some (L, r2, r3)
set_option maxHeartbeats 4000000 in
set_option maxRecDepth 100000 in
theorem erred_calls (g : Nat) (s0_0 : Int) (s0_1 : Int) (a1 : ByteArray) (a2 : Int) (r1 : ByteArray) (r2 : Int) (r3 : Int) (w0 w : World) (hI : IsS87 w0 w g s0_0 s0_1) (hB : Below w0.heap.size w0 w) (h : erred s0_0 s0_1 a1 a2 = some (r1, r2, r3)) :
    Calls Tryd.prog 41 #[.pointer (some ⟨g, 0, none⟩), .string a1, .int .i64 a2] w fun e w' => e = .returned (.string r1) ∧ IsS87 w0 w' g r2 r3 ∧ Below w0.heap.size w0 w' ∧ KeepBut w w' g none := by
  unfold erred at h
  split at h
  case isFalse => cases h
  case isTrue hsz =>
  obtain ⟨hs1, hs2⟩ := hsz
  rw [Option.map_eq_some_iff] at h
  obtain ⟨⟨L, p, q⟩, he, hr⟩ := h
  simp only [Prod.mk.injEq] at hr
  obtain ⟨rfl, rfl, rfl⟩ := hr
  have HE := Lib.hid he; clear he
  have HI := Aside0.mk hI
  have HB := Aside0.mk hB
  have hgw : g < w.heap.size := hI.lt
  clear hI hB
  have kc := fun W => print_bytes (P := Tryd.prog) 9 82 5 Tryd.underlying9 Tryd.underlying82 Tryd.underlying5 a1 W
  go_enter Tryd.func41, Tryd.ntmps41
  go_wp2
  clear kc
  go_loopw [8] (fun v wr => ∃ k : Nat, v = .int .i64 k ∧ (k : Int) ≤ max a2 0 ∧ RelErr w0 w g a2.toNat a1.size L p q k wr) (fun v _ => a2.toNat - (intOf v).toNat)
  case atStart =>
    refine ⟨0, rfl, by omega, bytesOf a1, s0_0, s0_1, ?_, ?_, ?_, Buf.new w a1, bytesOf_length _, HE.out⟩
    · exact ⟨(Lib.bytesWorld_at_old w 5 a1 g hgw).trans HI.out.1, HI.out.2⟩
    · exact bytes_below HB.out HB.out.size _ _
    · exact ⟨by rw [Lib.bytesWorld_size]; omega, fun i hi _ _ => Lib.bytesWorld_at_old w 5 a1 i hi⟩
  case round =>
    obtain ⟨k, rfl, hk, xs, a, b, hI, hb0, hK, hbuf, hxl, hg⟩ := hrel
    have HI2 := Aside0.mk hI
    have HB2 := Aside0.mk hb0
    have HK := Aside0.mk hK
    have HBuf := Aside0.mk hbuf
    have HG := Aside0.mk hg
    clear hI hb0 hK hbuf hg
    by_cases hlt : (k : Int) < a2
    · obtain ⟨n, hn⟩ : ∃ n, a2.toNat - k = n + 1 := ⟨a2.toNat - k - 1, by omega⟩
      have hg := HG.out
      rw [hn, erredGo, Option.bind_eq_some_iff] at hg
      obtain ⟨⟨t1, t2, t3⟩, ht, hg⟩ := hg
      rw [Option.bind_eq_some_iff] at hg
      obtain ⟨⟨u1, u2, u3⟩, hu, hg⟩ := hg
      dsimp only at hu hg
      split at hg
      case isFalse => cases hg
      case isTrue hix =>
      obtain ⟨hi0, hi1⟩ := hix
      obtain ⟨j, rfl⟩ := Int.eq_ofNat_of_zero_le hi0
      simp only [Int.toNat_natCast] at hg
      rw [hxl] at ht
      have HT := Aside0.mk ht; clear ht
      have HU := Aside0.mk hu; clear hu
      have hn' : n = a2.toNat - (k + 1) := by omega
      subst hn'
      have HG2 := Aside0.mk hg; clear hg hn
      go_wp2_with fail
      refine (cippuskit_Urn_Up.calls _ _ _ _ _ _ _ w0 _ HI2.out HB2.out HT.out).mono ?_
      rintro e w1 ⟨rfl, hI1, hB1, hK1⟩
      go_wp2_with fail
      refine (cippuskit_Urn_Up.calls _ _ _ _ _ _ _ w0 _ hI1 hB1 HU.out).mono ?_
      rintro e w2 ⟨rfl, hI2, hB2, hK2⟩
      have hbuf2 : Buf w2 w.heap.size xs := (HBuf.out.keep (hK1.2 _ HBuf.out.2 (by omega) (by simp)) hK1.1).keep (hK2.2 _ (Nat.lt_of_lt_of_le HBuf.out.2 hK1.1) (by omega) (by simp)) hK2.1
      have hj : j < xs.length := by omega
      obtain ⟨hcj, hfj⟩ := hbuf2.1 j hj
      have hj2 : (j : Int) < (a1.size : Int) := by omega
      have HBuf2 := Aside0.mk hbuf2
      have HIa := Aside0.mk hI2
      have HBa := Aside0.mk hB2
      have HKa := Aside0.mk hK2
      have HKb := Aside0.mk hK1
      clear hbuf2 hI2 hB2 hK2 hK1 hI1 hB1
      go_wp2_with fail
      go_roundw
      case rel =>
        refine ⟨k + 1, by go_num, by omega, xs.set j _, u2, u3, ?_, ?_, ?_, HBuf2.out.set j hj _, by rw [List.length_set]; exact hxl, HG2.out⟩
        · exact HIa.out.far (by simp; omega) _
        · exact HBa.out.setCell (Nat.le_trans HB.out.size (by simp)) _
        · exact keep_far (((HK.out).trans HKb.out (.inl rfl)).trans HKa.out (.inl rfl)) (by simp) _
      case measure => simp [intOf]; omega
    · have hk0 : a2.toNat - k = 0 := by omega
      have hg := HG.out
      rw [hk0, erredGo] at hg
      simp only [Option.some.injEq, Prod.mk.injEq] at hg
      obtain ⟨rfl, rfl, rfl⟩ := hg
      have kc := string_of_reads (src := 82) (dst := 9) (c := grownCap w a1.size 0 5) Tryd.underlying82 Tryd.underlying5 Tryd.underlying9 (HBuf.out.reads (by omega))
      rw [hxl] at kc
      go_wp2
      go_ret
      exact ⟨rfl, HI2.out, HB2.out, HK.out⟩
end Go.Proofs.YtecdjnabmjhakaaDoor.P.OwnUrn
namespace Go.Proofs.YtecdjnabmjhakaaDoor.OLies
open Go.RowKit Go.Proofs.YtecdjnabmjhakaaDoorW.PrintWords Go.Proofs.YtecdjnabmjhakaaDoorW.PrintLast Go.Proofs.YtecdjnabmjhakaaDoorW.PrintMore
section
variable {P : Program} {ops : Array Oper} {o : Oper} {a : Act} {Q : Exit → Act → World → Prop} {Kc : Act → World → Prop} {α : Type}
theorem R_append_lies (d : Kd α) {w0 W : World} (base : Nat) (s x : Operand) (t e : TypeId) (z : Value) (bytes : Nat)
    (ho : o.op = .call { callee := .builtin .append, args := #[s, x], argTypes := #[t, t] })
    (ht : P.underlying t = some (.slice e)) (hinfo : (P.info? e).map (fun i => (i.zero, i.size, i.bytes)) = some (some z, d.sz, bytes)) (hz : z.cells.size = d.sz) (hs0 : 0 < d.sz) (hb0 : 0 < bytes)
    (v : Value) (xs : List α) (p : α) (cs : List Value) (ok okp : Nat → Prop) (B : Nat) (fr : Nat × Nat) (hs : a.eval s = v) (hx : a.eval x = .slice (some ⟨B, 0, none⟩) 1 1) (hblk : W.heap[B]? = some (.cells cs.toArray e fr))
    (hp : d.M W base okp p cs) (hokp : ∀ k, okp k → ok k ∧ some k ≠ v.ownBlock) (hfresh : ∀ k, W.heap.size ≤ k → ok k)
    (HO : d.R e W base ok v xs) (HB : Below base w0 W) (hbase : base ≤ W.heap.size) (hl : (xs.length + 1) * bytes ≤ 140737488355328)
    (h : ∀ v1 w1, d.R e w1 base ok v1 (xs ++ [p]) → Below base w0 w1 → W.grownBy w1 v.ownBlock → (v1.ownBlock = v.ownBlock ∨ ∃ b, v1.ownBlock = some b ∧ W.heap.size ≤ b) → Kc (a.put o.dst v1) w1) :
    Oper.wp P o a W Kc Q := by
  obtain ⟨h0, inner, hown, hr⟩ := HO
  obtain ⟨i0, hi, hzz⟩ := Option.map_eq_some_iff.1 hinfo
  simp only [Prod.mk.injEq] at hzz
  obtain ⟨hz0, hz1, hz2⟩ := hzz
  have hlen : xs.length + 1 ≤ 140737488355328 := Nat.le_trans (Nat.le_mul_of_pos_right _ hb0) hl
  have hcl := d.K_len (d.K_of_M hp)
  refine wp_append_lies W s x t ho base e i0 z d.sz bytes ht hi hz0 hz1 hz2 hz hs0 v xs.length inner hs hown ⟨B, 0, none⟩ 1 1 cs hx (by rw [hcl]; simp)
    (by simpa using World.news_of_block (cs := cs.toArray) hblk) (d.K_one (d.K_of_M hp)) (by decide) (by simp only [maxLen]; omega) hl hbase _ rfl ?_
  intro g cap w1 hown1 hg1 hat1 hlt
  have hat : (Value.slice (some ⟨g, 0, none⟩) (xs.length + 1) cap).ownBlock = v.ownBlock ∨ ∃ b, (Value.slice (some ⟨g, 0, none⟩) (xs.length + 1) cap).ownBlock = some b ∧ W.heap.size ≤ b := by
    rcases hat1 with hat1 | hat1
    · exact .inl (by rw [hat1]; rfl)
    · exact .inr ⟨g, rfl, by omega⟩
  exact h _ _ (Kd.R_appended h0 hr hp hokp hfresh hown1 hg1 hat) (HB.grown hg1 hbase (own_base hown)) hg1 hat
theorem R_append_lies_step (d : Kd α) {w0 W : World} {E : Prop} (base : Nat) (hgd : o.guard = none) (s x : Operand) (t e : TypeId) (z : Value) (bytes : Nat)
    (ho : o.op = .call { callee := .builtin .append, args := #[s, x], argTypes := #[t, t] })
    (ht : P.underlying t = some (.slice e)) (hinfo : (P.info? e).map (fun i => (i.zero, i.size, i.bytes)) = some (some z, d.sz, bytes)) (hz : z.cells.size = d.sz) (hs0 : 0 < d.sz) (hb0 : 0 < bytes)
    (v : Value) (xs : List α) (p : α) (cs : List Value) (ok okp : Nat → Prop) (B : Nat) (fr : Nat × Nat) (hs : a.eval s = v) (hx : a.eval x = .slice (some ⟨B, 0, none⟩) 1 1) (hblk : W.heap[B]? = some (.cells cs.toArray e fr))
    (hp : d.M W base okp p cs) (hokp : ∀ k, okp k → ok k ∧ some k ≠ v.ownBlock) (hfresh : ∀ k, W.heap.size ≤ k → ok k)
    (HO : d.R e W base ok v xs) (HB : Below base w0 W) (hbase : base ≤ W.heap.size) (hl : (xs.length + 1) * bytes ≤ 140737488355328)
    (h : ∀ v1 w1, d.R e w1 base ok v1 (xs ++ [p]) → Below base w0 w1 → W.grownBy w1 v.ownBlock → (v1.ownBlock = v.ownBlock ∨ ∃ b, v1.ownBlock = some b ∧ W.heap.size ≤ b) → Kc (a.put o.dst v1) w1) :
    if Region.wanted o (yielded ops a.tmps) = true then Oper.wp P o a W Kc Q else E := by
  have hw : Region.wanted o (yielded ops a.tmps) = true := by simp [Region.wanted, hgd]
  rw [if_pos hw]
  exact R_append_lies d base s x t e z bytes ho ht hinfo hz hs0 hb0 v xs p cs ok okp B fr hs hx hblk hp hokp hfresh HO HB hbase hl h
end
end Go.Proofs.YtecdjnabmjhakaaDoor.OLies
namespace Go.Proofs.YtecdjnabmjhakaaDoor.P.OwnUrn
open Go.RowKit Go.Proofs.YtecdjnabmjhakaaDoorW.PrintWords Go.Proofs.YtecdjnabmjhakaaDoorW.PrintLast Go.Proofs.YtecdjnabmjhakaaDoorW.PrintMore
set_option linter.unusedVariables false
def Mades (W : World) (b : Nat) (s : ByteArray) (v : Value) : Prop :=
  W.heap[b]? = some (.cells #[.string ⟨#[]⟩, .slice none 0 0] 44 (0, 0)) ∧ W.heap[b + 1]? = some (.cells #[.string s, v] 44 (0, 0))
theorem keep_mades {w W W' : World} {g : Nat} {s : ByteArray} {v : Value} (hs : w.heap.size ≤ W.heap.size) (h : Mades W w.heap.size s v) (hg : g < w.heap.size) (hk : KeepBut W W' g none) : Mades W' w.heap.size s v :=
  ⟨hk.blk h.1 (by omega) (by simp), hk.blk h.2 (by omega) (by simp)⟩
theorem mades_cell {W : World} {b : Nat} {s : ByteArray} {v : Value} (h : Mades W b s v) : W.cell? ⟨b + 1, 0, none⟩ = some (.string s) := (blk_cell h.2 0).trans rfl
theorem mades_cell1 {W : World} {b : Nat} {s : ByteArray} {v : Value} (h : Mades W b s v) : W.cell? ⟨b + 1, 1, none⟩ = some v := (blk_cell h.2 1).trans rfl
theorem mades_frozen {W : World} {b : Nat} {s : ByteArray} {v : Value} (h : Mades W b s v) : W.frozen? ⟨b + 1, 0, none⟩ = false := blk_frozen h.2 0
theorem mades_frozen1 {W : World} {b : Nat} {s : ByteArray} {v : Value} (h : Mades W b s v) : W.frozen? ⟨b + 1, 1, none⟩ = false := blk_frozen h.2 1
theorem set_mades {W : World} {b : Nat} {s : ByteArray} {v : Value} (h : Mades W b s v) (s' : ByteArray) (o : Obj) : Mades ((W.setCell ⟨b + 1, 0, none⟩ (.string s')).alloc o) b s' v :=
  ⟨blk_alloc (blk_far h.1 (by simp) _) o, blk_alloc (by simpa using blk_set h.2 0 (.string s')) o⟩
theorem from_le {a b c d n p q : Int} (h : cippuskit_Urn_From.f a b c d = some (n, p, q)) : n ≤ 9223372036854775807 := by
  unfold cippuskit_Urn_From.f at h
  rw [Option.bind_eq_some_iff] at h
  obtain ⟨z, _, h⟩ := h
  simp only [Option.some.injEq, Prod.mk.injEq] at h
  rw [← h.1]
  unfold wrap64
  omega
theorem conv_one (W : World) (x : Int) : (Go.convert 82 9 (.slice (some ⟨W.heap.size, 0, none⟩) 1 1)).run Tryd.prog (W.alloc (.cells #[.int .u8 x] 5)) = .ok (.string (strOfNums [x])) (W.alloc (.cells #[.int .u8 x] 5)) := by
  refine string_of_reads (e := 5) Tryd.underlying82 Tryd.underlying5 Tryd.underlying9 ⟨rfl, by decide, fun _ => ⟨_, rfl, fun j hj => ?_⟩⟩
  obtain rfl : j = 0 := by omega
  rw [add_plain]
  exact (blk_cell (blk_new W _) 0).trans rfl
def RelStone (w0 w : World) (g : Nat) (st : ByteArray) (r4 r5 : Int) (n : Nat) (wr : World) : Prop :=
  ∃ (s : ByteArray) (a b : Int), IsS87 w0 wr g a b ∧ Below w0.heap.size w0 wr ∧ KeepBut w wr g none ∧ Mades wr w.heap.size s (.slice none 0 0) ∧ stoneGo n a b s = some (st, r4, r5)
structure F16 (w0 w : World) (g bx : Nat) (x : S25) (s : ByteArray) (vL v : Value) (L : List S25) (S : List Int) (a b : Int) (W : World) : Prop where
  hI : IsS87 w0 W g a b
  hB : Below w0.heap.size w0 W
  hK : KeepBut w W g none
  hM : Mades W w.heap.size s v
  hbx : W.heap[bx]? = some (.cells #[.string x.f0, .int .i64 x.f1, .bool x.f2] 25 (0, 0))
  hL : Kd.R k25 25 W w.heap.size (fun _ => True) vL L
  hS : Kd.R (Kd.int .i64) 3 W w.heap.size (fun _ => True) v S
  hge : w.heap.size ≤ bx
  hne : some bx ≠ vL.ownBlock
theorem R_keepg {α : Type} {d : Kd α} {e base g : Nat} {v : Value} {xs : List α} {W W' w0 : World} {a b : Int} (h : d.R e W base (fun _ => True) v xs) (hI : IsS87 w0 W g a b) (ht : ∀ q, q ∈ e :: d.E → q ≠ 87) (hk : ∀ k, k < W.heap.size → k ≠ g → W'.heap[k]? = W.heap[k]?) : d.R e W' base (fun _ => True) v xs :=
  Kd.R_mono (Kd.R_step (Kd.R_types h hI.1 ht) (fun k ok hlt => hk k hlt ok.2)) (fun _ _ => trivial)
theorem f16_mk {w0 w wr w6 w7 : World} {g : Nat} {x : S25} {s : ByteArray} {vL v : Value} {L : List S25} {S : List Int} {a b a' b' : Int} (hgw : g < w.heap.size) (hB0 : Below w0.heap.size w0 w)
    (hI : IsS87 w0 wr g a b) (hK : KeepBut w wr g none) (hM : Mades wr w.heap.size s v) (hL : Kd.R k25 25 wr w.heap.size (fun _ => True) vL L) (hS : Kd.R (Kd.int .i64) 3 wr w.heap.size (fun _ => True) v S)
    (h6 : KeepBut wr w6 g none) (h7 : KeepBut (w6.alloc (.cells #[.string ⟨#[]⟩, .int .i64 x.f1, .bool x.f2] 25)) w7 g none) (hI7 : IsS87 w0 w7 g a' b') (hB7 : Below w0.heap.size w0 w7) :
    F16 w0 w g w6.heap.size x s vL v L S a' b' (w7.setCell ⟨w6.heap.size, 0, none⟩ (.string x.f0)) := by
  have hgl : g < wr.heap.size := hI.lt
  have hs6 := h6.1
  have hs7 := h7.1
  simp only [World.size_alloc] at hs7
  have hs0 := hK.1
  have hkeep : ∀ k, k < wr.heap.size → k ≠ g → (w7.setCell ⟨w6.heap.size, 0, none⟩ (.string x.f0)).heap[k]? = wr.heap[k]? := fun k hk hkg => by
    rw [Below.heap_setCell w7 _ _ k (by show k ≠ w6.heap.size; omega), h7.2 k (by simp only [World.size_alloc]; omega) hkg (by simp), Below.heap_alloc w6 _ k (by omega), h6.2 k hk hkg (by simp)]
  have hbx : w7.heap[w6.heap.size]? = some (.cells #[.string ⟨#[]⟩, .int .i64 x.f1, .bool x.f2] 25 (0, 0)) := h7.blk (blk_new w6 _) (by omega) (by simp)
  refine ⟨hI7.far (by show g ≠ w6.heap.size; omega) _, hB7.setCell (by show _ ≤ w6.heap.size; have := hB0.size; omega) _, ?_, ⟨(hkeep _ (blk_lt hM.1) (by omega)).trans hM.1, (hkeep _ (blk_lt hM.2) (by omega)).trans hM.2⟩, by simpa using blk_set hbx 0 (.string x.f0), R_keepg hL hI (by decide) hkeep, R_keepg hS hI (by decide) hkeep, by omega, fun e_ => by
    obtain ⟨_, h2⟩ := Kd.R_typed hL _ e_.symm
    have := blk_lt h2
    omega⟩
  exact ⟨by simp; omega, fun k hk hkg _ => (hkeep k (by omega) hkg).trans (hK.2 k hk hkg (by simp))⟩
structure F17 (w0 w : World) (g : Nat) (s : ByteArray) (vL v : Value) (L : List S25) (S : List Int) (a b : Int) (W : World) : Prop where
  hI : IsS87 w0 W g a b
  hB : Below w0.heap.size w0 W
  hK : KeepBut w W g none
  hM : Mades W w.heap.size s v
  hL : Kd.R k25 25 W w.heap.size (fun _ => True) vL L
  hS : Kd.R (Kd.int .i64) 3 W w.heap.size (fun _ => True) v S
theorem f17_mk {w0 w W wB : World} {g bx : Nat} {x : S25} {s : ByteArray} {vL v vA vB : Value} {L : List S25} {S : List Int} {a b t : Int} (hgw : g < w.heap.size) (hw : Below w0.heap.size w0 w)
    (hF : F16 w0 w g bx x s vL v L S a b W) (hBB : Below w.heap.size W wB) (hMB : Mades wB w.heap.size s v) (hLB : Kd.R k25 25 wB w.heap.size (fun _ => True) vA (L ++ [x])) (hSB : Kd.R (Kd.int .i64) 3 wB w.heap.size (fun _ => True) vB (S ++ [t])) :
    F17 w0 w g s vA vB (L ++ [x]) (S ++ [t]) a b (wB.setCell ⟨w.heap.size + 1, 1, none⟩ vB) := by
  have hkeep : ∀ k, k ≠ w.heap.size + 1 → (wB.setCell ⟨w.heap.size + 1, 1, none⟩ vB).heap[k]? = wB.heap[k]? := fun k hk => Below.heap_setCell wB _ _ k hk
  have hI : IsS87 w0 wB g a b := ⟨(hBB.block g hgw).trans hF.hI.1, hF.hI.2⟩
  have hB : Below w0.heap.size w0 wB := hF.hB.trans (hBB.mono hw.size)
  refine ⟨hI.far (by show g ≠ w.heap.size + 1; omega) _, hB.setCell (by show _ ≤ w.heap.size + 1; have := hw.size; omega) _, ?_, ⟨(hkeep _ (by omega)).trans hMB.1, ?_⟩, ?_, ?_⟩
  · refine keep_far ?_ (by show w.heap.size ≤ w.heap.size + 1; omega) _
    exact ⟨Nat.le_trans hF.hK.1 hBB.size, fun k hk hkg _ => (hBB.block k hk).trans (hF.hK.2 k hk hkg (by simp))⟩
  · simpa using blk_set hMB.2 1 vB
  · exact Kd.R_mono (Kd.R_step (Kd.R_types hLB hMB.2 (by decide)) (fun k ok _ => hkeep k ok.2)) (fun _ _ => trivial)
  · exact Kd.R_mono (Kd.R_step (Kd.R_types hSB hMB.2 (by decide)) (fun k ok _ => hkeep k ok.2)) (fun _ _ => trivial)
theorem blk_new2 (W : World) (o1 o2 : Obj) : ((W.alloc o1).alloc o2).heap[W.heap.size + 1]? = some o2 := by
  have := blk_new (W.alloc o1) o2
  rwa [World.size_alloc] at this
theorem keepA {W wA : World} {row : Option Nat} (hg : W.grownBy wA row) : ∀ (k : Nat) (o : Obj), W.heap[k]? = some o → some k ≠ row → wA.heap[k]? = some o := fun _ _ h1 h2 => blk_grown h1 hg h2
theorem across_mades {W w1 : World} {b : Nat} {s : ByteArray} {v vR : Value} {α : Type} {d : Kd α} {e base : Nat} {ok : Nat → Prop} {xs : List α} (hM : Mades W b s v) (hR : d.R e W base ok vR xs) (hg : W.grownBy w1 vR.ownBlock) (he : e ≠ 44) : Mades w1 b s v :=
  ⟨blk_grown hM.1 hg (Kd.R_ne hR hM.1 he), blk_grown hM.2 hg (Kd.R_ne hR hM.2 he)⟩
theorem across_R {W w1 : World} {vR v : Value} {α β : Type} {d : Kd α} {d' : Kd β} {e e' base : Nat} {xs : List α} {ys : List β} (h : d.R e W base (fun _ => True) v xs) (hR : d'.R e' W base (fun _ => True) vR ys) (hg : W.grownBy w1 vR.ownBlock) (he : ∀ q, q ∈ e :: d.E → q ≠ e') : d.R e w1 base (fun _ => True) v xs :=
  Kd.R_mono (Kd.R_grown (Kd.R_apart' h (Kd.R_typed hR) he) hg (fun k ok => ok.2)) (fun _ _ => trivial)
def RelCopy (w0 w : World) (g : Nat) (er : Int) (st : ByteArray) (z1 : List S25) (z2 : List Int) (z3 z4 : Int) (n : Nat) (v12 : Value) (wr : World) : Prop :=
  ∃ (L : List S25) (S : List Int) (a b : Int) (v : Value), IsS87 w0 wr g a b ∧ Below w0.heap.size w0 wr ∧ KeepBut w wr g none ∧ Mades wr w.heap.size st v ∧ Kd.R k25 25 wr w.heap.size (fun _ => True) v12 L ∧ Kd.R (Kd.int .i64) 3 wr w.heap.size (fun _ => True) v S ∧ copyGo n er st L S a b = some (z1, z2, z3, z4)
set_option maxHeartbeats 4000000 in
set_option maxRecDepth 100000 in
theorem copiesOf_calls (g : Nat) (s0_0 : Int) (s0_1 : Int) (a1 : Int) (a2 : Int) (a3 : Int) (r1 : List (S25)) (r2 : ByteArray) (r3 : List Int) (r4 : Int) (r5 : Int) (w0 w : World) (hI : IsS87 w0 w g s0_0 s0_1) (hB : Below w0.heap.size w0 w) (h : copiesOf s0_0 s0_1 a1 a2 a3 = some (r1, r2, r3, r4, r5)) :
    Calls Tryd.prog 17 #[.pointer (some ⟨g, 0, none⟩), .int .i64 a1, .int .i64 a2, .int .i64 a3] w fun e w' => ∃ v0_ v2_ : Value, e = .returned (.tuple #[v0_, .agg #[.string r2, v2_]]) ∧ Kd.R k25 25 w' w.heap.size (fun _ => True) v0_ r1 ∧ Kd.R (Kd.int .i64) 3 w' w.heap.size (fun _ => True) v2_ r3 ∧ IsS87 w0 w' g r4 r5 ∧ Below w0.heap.size w0 w' ∧ KeepBut w w' g none := by
  unfold copiesOf at h
  rw [Option.bind_eq_some_iff] at h
  obtain ⟨⟨n1, p1, q1⟩, h1, h⟩ := h
  rw [Option.bind_eq_some_iff] at h
  obtain ⟨⟨st, p2, q2⟩, h2, h⟩ := h
  rw [Option.bind_eq_some_iff] at h
  obtain ⟨⟨n3, p3, q3⟩, h3, h⟩ := h
  rw [Option.map_eq_some_iff] at h
  obtain ⟨⟨z1, z2, z3, z4⟩, h4, hr⟩ := h
  dsimp only at h2 h3 h4 hr
  simp only [Prod.mk.injEq] at hr
  obtain ⟨rfl, rfl, rfl, rfl, rfl⟩ := hr
  have H1 := Aside0.mk h1; have H2 := Aside0.mk h2; have H3 := Aside0.mk h3; have H4 := Aside0.mk h4
  clear h1 h2 h3 h4
  have HI := Aside0.mk hI
  have HB := Aside0.mk hB
  have hgw : g < w.heap.size := hI.lt
  clear hI hB
  go_enter Tryd.func17, Tryd.ntmps17
  go_wp2_with fail
  refine (cippuskit_Urn_From.calls _ _ _ _ _ _ _ _ w0 _ ((HI.out.alloc _).alloc _) (below_alloc (below_alloc HB.out _) _) H1.out).mono ?_
  rintro e w1 ⟨rfl, hI1, hB1, hK1⟩
  have hM : Mades w1 w.heap.size ⟨#[]⟩ (.slice none 0 0) := by
    refine ⟨hK1.blk (blk_alloc (blk_new w _) _) (by omega) (by simp), hK1.blk ?_ (by omega) (by simp)⟩
    have := blk_new (w.alloc (.cells #[.string ⟨#[]⟩, .slice none 0 0] 44)) (.cells #[.string ⟨#[]⟩, .slice none 0 0] 44)
    simpa using this
  have hK0 : KeepBut w w1 g none := (keep_alloc (keep_alloc (KeepBut.refl w g none) _) _).trans hK1 (.inl rfl)
  have HI1 := Aside0.mk hI1; have HB1 := Aside0.mk hB1; have HM := Aside0.mk hM; have HK := Aside0.mk hK0
  clear hI1 hB1 hM hK0 hK1
  go_wp2_with fail
  go_loopw [11] (fun v wr => ∃ i : Int, v = .int .i64 i ∧ i ≤ 9223372036854775807 ∧ RelStone w0 w g st p2 q2 i.toNat wr) (fun v _ => (intOf v).toNat)
  case atStart => exact ⟨n1, rfl, from_le H1.out, _, _, _, HI1.out, HB1.out, HK.out, HM.out, H2.out⟩
  case round =>
    obtain ⟨i, rfl, hi, s, a, b, hI, hb0, hK, hM, hs⟩ := hrel
    by_cases hlt : 0 < i
    · obtain ⟨n, hn⟩ : ∃ n, i.toNat = n + 1 := ⟨i.toNat - 1, by omega⟩
      rw [hn, stoneGo, Option.bind_eq_some_iff] at hs
      obtain ⟨⟨t1, t2, t3⟩, ht, hs⟩ := hs
      dsimp only at hs
      split at hs
      case isFalse => cases hs
      case isTrue hz =>
      have HT := Aside0.mk ht; have HS := Aside0.mk hs; have HM2 := Aside0.mk hM; have HI2 := Aside0.mk hI; have HB2 := Aside0.mk hb0; have HK2 := Aside0.mk hK
      have hc := mades_cell hM
      have hf := mades_frozen hM
      clear ht hs hM hI hb0 hK
      go_wp2_with fail
      have kc := conv_one
      have kz : ∀ x : Int, (strOfNums [x]).size = 1 := fun _ => rfl
      have kw : (9223372036854775807 < s.size + 1) = False := eq_false (by omega)
      go_region_with (go_at_call 39; refine (cippuskit_Urn_Up.calls _ _ _ _ _ _ _ w0 _ (by exact HI2.out) (by exact below_drew HB2.out) HT.out).mono ?_; rintro e w2 ⟨rfl, hI3, hB3, hK3⟩; have hM3 := keep_mades HK2.out.1 HM2.out hgw hK3; have hc3 := mades_cell hM3; have hf3 := mades_frozen hM3; have hl3 : w.heap.size + 1 < w2.heap.size := blk_lt hM3.2)
      all_goals
        go_wp2_with fail
        go_roundw
        case rel =>
          refine ⟨i - 1, by go_num, by omega, s ++ strOfNums [(wrap64 (65 + t1)) % 256], t2, t3, ?_, ?_, ?_, ?_, ?_⟩
          rotate_left 4
          · rw [show (i - 1).toNat = n by omega]; exact HS.out
          · exact (hI3.far (by simp; omega) _).alloc _
          · exact below_alloc (hB3.setCell (Nat.le_trans HB.out.size (by simp)) _) _
          · exact keep_alloc (keep_far (HK2.out.trans hK3 (.inl rfl)) (by simp) _) _
          · exact set_mades hM3 _ _
        case measure => simp [intOf]; omega
    · have h0 : i.toNat = 0 := by omega
      rw [h0, stoneGo] at hs
      simp only [Option.some.injEq, Prod.mk.injEq] at hs
      obtain ⟨rfl, rfl, rfl⟩ := hs
      have HI2 := Aside0.mk hI; have HB2 := Aside0.mk hb0; have HK2 := Aside0.mk hK; have HM2 := Aside0.mk hM
      clear hI hb0 hK hM
      go_wp2_with fail
      refine (cippuskit_Urn_From.calls _ _ _ _ _ _ _ _ w0 _ HI2.out HB2.out H3.out).mono ?_
      rintro e w2 ⟨rfl, hI3, hB3, hK3⟩
      have hM3 := keep_mades HK2.out.1 HM2.out hgw hK3
      have HI3 := Aside0.mk hI3; have HB3 := Aside0.mk hB3; have HK3 := Aside0.mk (HK2.out.trans hK3 (.inl rfl)); have HM3 := Aside0.mk hM3
      clear hI3 hB3 hK3 hM3
      go_wp2_with fail
      go_loopw [12, 13] (fun v12 v13 wr => ∃ i : Int, v13 = .int .i64 i ∧ i ≤ 9223372036854775807 ∧ RelCopy w0 w g a3 s z1 z2 z3 z4 i.toNat v12 wr) (fun _ v _ => (intOf v).toNat)
      case atStart => exact ⟨n3, rfl, from_le H3.out, [], [], _, _, _, HI3.out, HB3.out, HK3.out, HM3.out, Kd.R_nil _ _ _ _ _, Kd.R_nil _ _ _ _ _, H4.out⟩
      case round =>
        obtain ⟨i, rfl, hi, L, S, a, b, v, hI, hb0, hK, hM, hL, hS, hc⟩ := hrel
        have HI4 := Aside0.mk hI; have HB4 := Aside0.mk hb0; have HK4 := Aside0.mk hK; have HM4 := Aside0.mk hM; have HL4 := Aside0.mk hL; have HS4 := Aside0.mk hS
        clear hI hb0 hK hM hL hS
        by_cases hlt : 0 < i
        · obtain ⟨n, hn⟩ : ∃ n, i.toNat = n + 1 := ⟨i.toNat - 1, by omega⟩
          rw [hn, copyGo, Option.bind_eq_some_iff] at hc
          obtain ⟨⟨t1, t2, t3⟩, ht, hc⟩ := hc
          rw [Option.bind_eq_some_iff] at hc
          obtain ⟨⟨u1, u2, u3⟩, hu, hc⟩ := hc
          dsimp only at hu hc
          go_upto_block 3 with fail
          go_cut [12] (fun s12 wx => RelCopy w0 w g a3 s z1 z2 z3 z4 n s12 wx)
          case first =>
            obtain ⟨A, c, rfl, hLc, hLr⟩ := Kd.R_reads HL4.out
            have HT := Aside0.mk ht; have HU := Aside0.mk hu
            clear ht hu
            by_cases hneg : t1 < 0
            · rw [if_pos hneg, if_neg (by omega)] at hc
              simp only [Option.bind_some] at hc
              rw [Option.bind_eq_some_iff] at hc
              obtain ⟨⟨e1, e2, e3⟩, he, hc⟩ := hc
              split at hc
              case isFalse => cases hc
              case isTrue hroom =>
              have HE := Aside0.mk he; have HC := Aside0.mk hc
              clear he hc
              have ht := HT.out
              rw [show wrap64 ((L.length : Int) - 1) = (L.length : Int) - 1 by unfold wrap64; omega] at ht
              have HT := Aside0.mk ht
              clear ht
              have hnegb : decide (t1 < 0) = true := decide_eq_true hneg
              have hnegc : decide (0 ≤ t1) = false := decide_eq_false (by omega)
              go_wp2_with fail
              (with_reducible refine (cippuskit_Urn_From.calls _ _ _ _ _ _ _ _ w0 _ HI4.out HB4.out HT.out).mono ?_)
              rintro e w5 ⟨rfl, hI5, hB5, hK5⟩
              go_wp2_with fail
              (with_reducible refine (cippuskit_Urn_Up.calls _ _ _ _ _ _ _ w0 _ hI5 hB5 HU.out).mono ?_)
              rintro e w6 ⟨rfl, hI6, hB6, hK6⟩
              have hM6 := keep_mades (Nat.le_trans HK4.out.1 hK5.1) (keep_mades HK4.out.1 HM4.out hgw hK5) hgw hK6
              have hc6 := mades_cell hM6
              have hl6 : w.heap.size + 1 < w6.heap.size := blk_lt hM6.2
              go_wp2_with fail
              (with_reducible refine (erred_calls _ _ _ _ _ _ _ _ w0 _ (hI6.alloc _) (below_alloc hB6 _) HE.out).mono ?_)
              rintro e w7 ⟨rfl, hI7, hB7, hK7⟩
              have hM7 : Mades w7 w.heap.size s v := keep_mades (by simp; omega) ⟨blk_alloc hM6.1 _, blk_alloc hM6.2 _⟩ hgw hK7
              have hbx7 : w7.heap[w6.heap.size]? = some (.cells #[.string ⟨#[]⟩, .int .i64 u1, .bool true] 25 (0, 0)) := hK7.blk (blk_new w6 _) (by omega) (by simp)
              have hx0 := (blk_cell hbx7 0).trans rfl
              have hf0 := blk_frozen hbx7 0
              go_upto_region 16 with fail
              have hF0 := f16_mk (x := ⟨e1, u1, true⟩) hgw HB.out HI4.out HK4.out HM4.out HL4.out HS4.out (hK5.trans hK6 (.inl rfl)) hK7 hI7 hB7
              generalize (w7.setCell { block := w6.heap.size, off := 0 } (Value.string e1)) = W8 at hF0 ⊢
              obtain ⟨bx, hbx⟩ : ∃ bx, w6.heap.size = bx := ⟨_, rfl⟩
              rw [hbx] at hF0 ⊢
              have hF := Aside0.mk hF0
              clear hF0 hI5 hB5 hK5 hI6 hB6 hK6 hM6 hc6 hl6 hI7 hB7 hK7 hM7 hx0 hf0
              try clear hbx
              clear hLc hLr HI4 HB4 HK4 HM4 HL4 HS4 HI3 HB3 HK3 HM3 HI2 HB2 HK2 HM2 HI1 HB1 HM HK HT HU HE H1 H2 H3 H4
              have hx0 : W8.cell? ⟨bx, 0, none⟩ = some (.string e1) := (blk_cell hF.out.hbx 0).trans rfl
              have hx1 : W8.cell? ⟨bx, 1, none⟩ = some (.int .i64 u1) := (blk_cell hF.out.hbx 1).trans rfl
              have hx2 : W8.cell? ⟨bx, 2, none⟩ = some (.bool true) := (blk_cell hF.out.hbx 2).trans rfl
              have hy1 : W8.cell? ⟨w.heap.size + 1, 1, none⟩ = some v := mades_cell1 hF.out.hM
              have hbxne : w.heap.size + 1 ≠ bx := fun e_ => by
                have h1 := hF.out.hbx
                rw [← e_, hF.out.hM.2] at h1
                simp at h1
              have hbxl : bx < W8.heap.size := blk_lt hF.out.hbx
              have hml : w.heap.size + 1 < W8.heap.size := blk_lt hF.out.hM.2
              have hml1 : w.heap.size < W8.heap.size := by omega
              have hbxl1 : bx < W8.heap.size + 1 := by omega
              have hbxl2 : bx ≤ W8.heap.size := by omega
              have hLen : L.length + 1 < 4398046511104 := hroom.1
              have hSen : S.length + 1 < 17592186044416 := hroom.2
              have hLne : Aside0 (∀ k, W8.heap.size ≤ k → some k ≠ (Value.slice A L.length c).ownBlock) := ⟨fun k hk e => by
                have := Kd.R_typed hF.out.hL k e.symm
                obtain ⟨_, h2⟩ := this
                have := blk_lt h2
                omega⟩
              go_region_law (first
                | (refine OLies.R_append_lies_step k25 (w0 := W8) w.heap.size rfl (.tmp 72) (.tmp 74) 22 25 (.agg #[.string ⟨#[]⟩, .int .i64 0, .bool false]) 32 rfl Tryd.underlying22 info25 rfl (by decide) (by omega) (.slice A L.length c) L ⟨e1, u1, true⟩ [.string e1, .int .i64 u1, .bool true] (fun _ => True) (fun _ => False) _ (0, 0) rfl rfl ?_ (k25_mkM _ _ _ _) (fun _ h => h.elim) (fun _ _ => trivial) ?_ ?_ ?_ ?_ ?_
                   · first | exact blk_new _ _ | exact blk_alloc (blk_new _ _) _ | exact blk_new2 _ _ _
                   · repeat (first | exact hF.out.hL | apply Kd.R_alloc | apply Kd.R_drew)
                   · repeat (first | exact Below.refl _ _ | apply below_drew | refine Below.alloc ?_ (by first | (simp; done) | (simp; omega) | omega) _)
                   · first | (simp; done) | (simp; omega) | omega
                   · omega
                   intro vA wA hLA hBA hgA hatA
                   have hkeepA := Aside0.mk (keepA hgA)
                   have hMA : Mades wA w.heap.size s v := across_mades (by first | exact ⟨hF.out.hM.1, hF.out.hM.2⟩ | exact ⟨blk_alloc hF.out.hM.1 _, blk_alloc hF.out.hM.2 _⟩ | exact ⟨blk_alloc (blk_alloc hF.out.hM.1 _) _, blk_alloc (blk_alloc hF.out.hM.2 _) _⟩) (by repeat (first | exact hF.out.hL | apply Kd.R_alloc | apply Kd.R_drew)) hgA (by decide)
                   have hSA : Kd.R (Kd.int .i64) 3 wA w.heap.size (fun _ => True) v S := across_R (by repeat (first | exact hF.out.hS | apply Kd.R_alloc | apply Kd.R_drew)) (by repeat (first | exact hF.out.hL | apply Kd.R_alloc | apply Kd.R_drew)) hgA (by decide)
                   have hbxA := keepA hgA bx _ (by first | exact hF.out.hbx | exact blk_alloc hF.out.hbx _ | exact blk_alloc (blk_alloc hF.out.hbx _) _) hF.out.hne
                   have hxA0 := (blk_cell hbxA 0).trans rfl
                   have hxA1 := (blk_cell hbxA 1).trans rfl
                   have hxA2 := (blk_cell hbxA 2).trans rfl
                   have hyA : wA.cell? ⟨w.heap.size + 1, 1, none⟩ = some v := mades_cell1 hMA
                   have hmA : w.heap.size + 1 < wA.heap.size := blk_lt hMA.2
                   have hmA1 : w.heap.size < wA.heap.size := by omega)
                | (refine OLies.R_append_lies_step (Kd.int .i64) (w0 := W8) w.heap.size rfl (.tmp 77) (.tmp 79) 33 3 (.int .i64 0) 8 rfl Tryd.underlying33 info3 rfl (by decide) (by omega) v S t1 [.int .i64 t1] (fun _ => True) (fun _ => False) _ (0, 0) rfl rfl ?_ rfl (fun _ h => h.elim) (fun _ _ => trivial) ?_ ?_ ?_ ?_ ?_
                   · first | exact blk_new _ _ | exact hkeepA.out _ _ (blk_new2 _ _ _) (hLne.out _ (by omega)) | exact hkeepA.out _ _ (blk_alloc (blk_new _ _) _) (hLne.out _ (by omega)) | exact hkeepA.out _ _ (blk_new _ _) (hLne.out _ (by omega))
                   · repeat (first | exact hSA | apply Kd.R_alloc | apply Kd.R_drew)
                   · repeat (first | exact hBA | apply below_drew | refine Below.alloc ?_ (by first | (simp; done) | (simp; omega) | omega) _)
                   · first | (simp; done) | (simp; omega) | omega
                   · omega
                   intro vB wB hSB hBB hgB hatB
                   obtain ⟨AB, cB, hvB⟩ := Kd.R_slice hSB
                   rw [List.length_append] at hvB
                   simp only [List.length_cons, List.length_nil] at hvB
                   subst hvB
                   have hMB : Mades wB w.heap.size s v := across_mades (by first | exact ⟨hMA.1, hMA.2⟩ | exact ⟨blk_alloc hMA.1 _, blk_alloc hMA.2 _⟩) (by repeat (first | exact hSA | apply Kd.R_alloc | apply Kd.R_drew)) hgB (by decide)
                   have hLB : Kd.R k25 25 wB w.heap.size (fun _ => True) vA (L ++ [⟨e1, u1, true⟩]) := across_R (by repeat (first | exact hLA | apply Kd.R_alloc | apply Kd.R_drew)) (by repeat (first | exact hSA | apply Kd.R_alloc | apply Kd.R_drew)) hgB (by decide)
                   have hbxB := keepA hgB bx _ (by first | exact hbxA | exact blk_alloc hbxA _) (Kd.R_ne hSA hbxA (by decide))
                   have hxB0 := (blk_cell hbxB 0).trans rfl
                   have hxB1 := (blk_cell hbxB 1).trans rfl
                   have hxB2 := (blk_cell hbxB 2).trans rfl
                   have hyB : wB.cell? ⟨w.heap.size + 1, 1, none⟩ = some v := mades_cell1 hMB
                   have hfB : wB.frozen? ⟨w.heap.size + 1, 1, none⟩ = false := mades_frozen1 hMB
                   have HAll := Aside0.mk (f17_mk hgw HB.out hF.out hBB hMB hLB hSB)))
              all_goals
                go_wp2_with fail
                go_meet
                exact ⟨_, _, _, _, _, HAll.out.hI, HAll.out.hB, HAll.out.hK, HAll.out.hM, HAll.out.hL, HAll.out.hS, HC.out⟩
            · rw [if_neg hneg] at hc
              rw [Option.bind_eq_some_iff] at hc
              obtain ⟨⟨o1, o2, o3⟩, ho, hc⟩ := hc
              dsimp only at hc
              rw [if_pos (by omega)] at hc
              split at hc
              case isFalse => simp at hc
              case isTrue hlen =>
              simp only [Option.bind_some] at hc
              rw [Option.bind_eq_some_iff] at hc
              obtain ⟨⟨e1, e2, e3⟩, he, hc⟩ := hc
              split at hc
              case isFalse => cases hc
              case isTrue hroom =>
              have HE := Aside0.mk he; have HC := Aside0.mk hc; have HO := Aside0.mk ho
              clear he hc ho
              have ht := HT.out
              rw [show wrap64 ((L.length : Int) - 1) = (L.length : Int) - 1 by unfold wrap64; omega] at ht
              have HT := Aside0.mk ht
              clear ht
              have hnegb : decide (t1 < 0) = false := decide_eq_false hneg
              have hnegc : decide (0 ≤ t1) = true := decide_eq_true (by omega)
              have hneg0 : 0 ≤ t1 := by omega
              obtain ⟨ad, rfl, hxa, hxb, hxc⟩ := at_T25 hLr t1 hneg0 hlen
              go_wp2_with fail
              (with_reducible refine (cippuskit_Urn_From.calls _ _ _ _ _ _ _ _ w0 _ HI4.out HB4.out HT.out).mono ?_)
              rintro e w5 ⟨rfl, hI5, hB5, hK5⟩
              go_wp2_with fail
              (with_reducible refine (cippuskit_Urn_Up.calls _ _ _ _ _ _ _ w0 _ hI5 hB5 HU.out).mono ?_)
              rintro e w6 ⟨rfl, hI6, hB6, hK6⟩
              go_wp2_with fail
              (with_reducible refine (cippuskit_Urn_Odds.calls _ _ _ _ _ _ _ _ w0 _ hI6 hB6 HO.out).mono ?_)
              rintro e wo ⟨rfl, hIo, hBo, hKo⟩
              have hMo := keep_mades (Nat.le_trans (Nat.le_trans HK4.out.1 hK5.1) hK6.1) (keep_mades (Nat.le_trans HK4.out.1 hK5.1) (keep_mades HK4.out.1 HM4.out hgw hK5) hgw hK6) hgw hKo
              have hco := mades_cell hMo
              have hlo : w.heap.size + 1 < wo.heap.size := blk_lt hMo.2
              have hgne : (ad.add (t1.toNat * 3)).block ≠ g := fun e_ => by
                have h1 : (ad.add (t1.toNat * 3)).block = ad.block := by unfold Addr.add; split <;> rfl
                obtain ⟨cl, h2⟩ := Kd.R_typed HL4.out ad.block rfl
                rw [← h1, e_, HI4.out.1] at h2
                simp at h2
              have hxo : wo.cell? (ad.add (t1.toNat * 3)) = some (.string (rd_T25 L t1).f0) := keep_cell ((hK5.trans hK6 (.inl rfl)).trans hKo (.inl rfl)) hxa hgne
              have hxl : (ad.add (t1.toNat * 3)).block < wo.heap.size := World.block_lt_of_cell? wo _ hxo
              go_wp2_with fail
              (with_reducible refine (erred_calls _ _ _ _ _ _ _ _ w0 _ (hIo.alloc _) (below_alloc hBo _) HE.out).mono ?_)
              rintro e w7 ⟨rfl, hI7, hB7, hK7⟩
              have hM7 : Mades w7 w.heap.size s v := keep_mades (by simp; omega) ⟨blk_alloc hMo.1 _, blk_alloc hMo.2 _⟩ hgw hK7
              have hbx7 : w7.heap[wo.heap.size]? = some (.cells #[.string ⟨#[]⟩, .int .i64 u1, .bool o1] 25 (0, 0)) := hK7.blk (blk_new wo _) (by omega) (by simp)
              have hx0 := (blk_cell hbx7 0).trans rfl
              have hf0 := blk_frozen hbx7 0
              go_upto_region 16 with fail
              have hF0 := f16_mk (x := ⟨e1, u1, o1⟩) hgw HB.out HI4.out HK4.out HM4.out HL4.out HS4.out ((hK5.trans hK6 (.inl rfl)).trans hKo (.inl rfl)) hK7 hI7 hB7
              generalize (w7.setCell { block := wo.heap.size, off := 0 } (Value.string e1)) = W8 at hF0 ⊢
              obtain ⟨bx, hbx⟩ : ∃ bx, wo.heap.size = bx := ⟨_, rfl⟩
              rw [hbx] at hF0 ⊢
              have hF := Aside0.mk hF0
              clear hF0 hI5 hB5 hK5 hI6 hB6 hK6 hIo hBo hKo hMo hco hlo hI7 hB7 hK7 hM7 hx0 hf0
              try clear hbx
              clear hLc hLr HI4 HB4 HK4 HM4 HL4 HS4 HI3 HB3 HK3 HM3 HI2 HB2 HK2 HM2 HI1 HB1 HM HK HT HU HE H1 H2 H3 H4
              have hx0 : W8.cell? ⟨bx, 0, none⟩ = some (.string e1) := (blk_cell hF.out.hbx 0).trans rfl
              have hx1 : W8.cell? ⟨bx, 1, none⟩ = some (.int .i64 u1) := (blk_cell hF.out.hbx 1).trans rfl
              have hx2 : W8.cell? ⟨bx, 2, none⟩ = some (.bool o1) := (blk_cell hF.out.hbx 2).trans rfl
              have hy1 : W8.cell? ⟨w.heap.size + 1, 1, none⟩ = some v := mades_cell1 hF.out.hM
              have hbxne : w.heap.size + 1 ≠ bx := fun e_ => by
                have h1 := hF.out.hbx
                rw [← e_, hF.out.hM.2] at h1
                simp at h1
              have hbxl : bx < W8.heap.size := blk_lt hF.out.hbx
              have hml : w.heap.size + 1 < W8.heap.size := blk_lt hF.out.hM.2
              have hml1 : w.heap.size < W8.heap.size := by omega
              have hbxl1 : bx < W8.heap.size + 1 := by omega
              have hbxl2 : bx ≤ W8.heap.size := by omega
              have hLen : L.length + 1 < 4398046511104 := hroom.1
              have hSen : S.length + 1 < 17592186044416 := hroom.2
              have hLne : Aside0 (∀ k, W8.heap.size ≤ k → some k ≠ (Value.slice (some ad) L.length c).ownBlock) := ⟨fun k hk e => by
                have := Kd.R_typed hF.out.hL k e.symm
                obtain ⟨_, h2⟩ := this
                have := blk_lt h2
                omega⟩
              go_region_law (first
                | (refine OLies.R_append_lies_step k25 (w0 := W8) w.heap.size rfl (.tmp 72) (.tmp 74) 22 25 (.agg #[.string ⟨#[]⟩, .int .i64 0, .bool false]) 32 rfl Tryd.underlying22 info25 rfl (by decide) (by omega) (.slice (some ad) L.length c) L ⟨e1, u1, o1⟩ [.string e1, .int .i64 u1, .bool o1] (fun _ => True) (fun _ => False) _ (0, 0) rfl rfl ?_ (k25_mkM _ _ _ _) (fun _ h => h.elim) (fun _ _ => trivial) ?_ ?_ ?_ ?_ ?_
                   · first | exact blk_new _ _ | exact blk_alloc (blk_new _ _) _ | exact blk_new2 _ _ _
                   · repeat (first | exact hF.out.hL | apply Kd.R_alloc | apply Kd.R_drew)
                   · repeat (first | exact Below.refl _ _ | apply below_drew | refine Below.alloc ?_ (by first | (simp; done) | (simp; omega) | omega) _)
                   · first | (simp; done) | (simp; omega) | omega
                   · omega
                   intro vA wA hLA hBA hgA hatA
                   have hkeepA := Aside0.mk (keepA hgA)
                   have hMA : Mades wA w.heap.size s v := across_mades (by first | exact ⟨hF.out.hM.1, hF.out.hM.2⟩ | exact ⟨blk_alloc hF.out.hM.1 _, blk_alloc hF.out.hM.2 _⟩ | exact ⟨blk_alloc (blk_alloc hF.out.hM.1 _) _, blk_alloc (blk_alloc hF.out.hM.2 _) _⟩) (by repeat (first | exact hF.out.hL | apply Kd.R_alloc | apply Kd.R_drew)) hgA (by decide)
                   have hSA : Kd.R (Kd.int .i64) 3 wA w.heap.size (fun _ => True) v S := across_R (by repeat (first | exact hF.out.hS | apply Kd.R_alloc | apply Kd.R_drew)) (by repeat (first | exact hF.out.hL | apply Kd.R_alloc | apply Kd.R_drew)) hgA (by decide)
                   have hbxA := keepA hgA bx _ (by first | exact hF.out.hbx | exact blk_alloc hF.out.hbx _ | exact blk_alloc (blk_alloc hF.out.hbx _) _) hF.out.hne
                   have hxA0 := (blk_cell hbxA 0).trans rfl
                   have hxA1 := (blk_cell hbxA 1).trans rfl
                   have hxA2 := (blk_cell hbxA 2).trans rfl
                   have hyA : wA.cell? ⟨w.heap.size + 1, 1, none⟩ = some v := mades_cell1 hMA
                   have hmA : w.heap.size + 1 < wA.heap.size := blk_lt hMA.2
                   have hmA1 : w.heap.size < wA.heap.size := by omega)
                | (refine OLies.R_append_lies_step (Kd.int .i64) (w0 := W8) w.heap.size rfl (.tmp 77) (.tmp 79) 33 3 (.int .i64 0) 8 rfl Tryd.underlying33 info3 rfl (by decide) (by omega) v S t1 [.int .i64 t1] (fun _ => True) (fun _ => False) _ (0, 0) rfl rfl ?_ rfl (fun _ h => h.elim) (fun _ _ => trivial) ?_ ?_ ?_ ?_ ?_
                   · first | exact blk_new _ _ | exact hkeepA.out _ _ (blk_new2 _ _ _) (hLne.out _ (by omega)) | exact hkeepA.out _ _ (blk_alloc (blk_new _ _) _) (hLne.out _ (by omega)) | exact hkeepA.out _ _ (blk_new _ _) (hLne.out _ (by omega))
                   · repeat (first | exact hSA | apply Kd.R_alloc | apply Kd.R_drew)
                   · repeat (first | exact hBA | apply below_drew | refine Below.alloc ?_ (by first | (simp; done) | (simp; omega) | omega) _)
                   · first | (simp; done) | (simp; omega) | omega
                   · omega
                   intro vB wB hSB hBB hgB hatB
                   obtain ⟨AB, cB, hvB⟩ := Kd.R_slice hSB
                   rw [List.length_append] at hvB
                   simp only [List.length_cons, List.length_nil] at hvB
                   subst hvB
                   have hMB : Mades wB w.heap.size s v := across_mades (by first | exact ⟨hMA.1, hMA.2⟩ | exact ⟨blk_alloc hMA.1 _, blk_alloc hMA.2 _⟩) (by repeat (first | exact hSA | apply Kd.R_alloc | apply Kd.R_drew)) hgB (by decide)
                   have hLB : Kd.R k25 25 wB w.heap.size (fun _ => True) vA (L ++ [⟨e1, u1, o1⟩]) := across_R (by repeat (first | exact hLA | apply Kd.R_alloc | apply Kd.R_drew)) (by repeat (first | exact hSA | apply Kd.R_alloc | apply Kd.R_drew)) hgB (by decide)
                   have hbxB := keepA hgB bx _ (by first | exact hbxA | exact blk_alloc hbxA _) (Kd.R_ne hSA hbxA (by decide))
                   have hxB0 := (blk_cell hbxB 0).trans rfl
                   have hxB1 := (blk_cell hbxB 1).trans rfl
                   have hxB2 := (blk_cell hbxB 2).trans rfl
                   have hyB : wB.cell? ⟨w.heap.size + 1, 1, none⟩ = some v := mades_cell1 hMB
                   have hfB : wB.frozen? ⟨w.heap.size + 1, 1, none⟩ = false := mades_frozen1 hMB
                   have HAll := Aside0.mk (f17_mk hgw HB.out hF.out hBB hMB hLB hSB)))
              all_goals
                go_wp2_with fail
                go_meet
                exact ⟨_, _, _, _, _, HAll.out.hI, HAll.out.hB, HAll.out.hK, HAll.out.hM, HAll.out.hL, HAll.out.hS, HC.out⟩
          case rest =>
            have hcut' := Aside0.mk hcut
            clear hcut
            go_wp2_with fail
            go_roundw
            case rel => exact ⟨i - 1, by go_num, by omega, by rw [show (i - 1).toNat = n by omega]; exact hcut'.out⟩
            case measure => simp [intOf]; omega
        · have h0 : i.toNat = 0 := by omega
          rw [h0, copyGo] at hc
          simp only [Option.some.injEq, Prod.mk.injEq] at hc
          obtain ⟨rfl, rfl, rfl, rfl⟩ := hc
          obtain ⟨A, c, rfl⟩ := Kd.R_slice HL4.out
          obtain ⟨A2, c2, rfl⟩ := Kd.R_slice HS4.out
          have hm0 := mades_cell HM4.out
          have hm1 := mades_cell1 HM4.out
          have hz0 : wr.cell? ⟨w.heap.size, 0, none⟩ = some (.string ⟨#[]⟩) := (blk_cell HM4.out.1 0).trans rfl
          have hz1 : wr.cell? ⟨w.heap.size, 1, none⟩ = some (.slice none 0 0) := (blk_cell HM4.out.1 1).trans rfl
          have hf0 := blk_frozen HM4.out.1 0
          have hf1 := blk_frozen HM4.out.1 1
          go_wp2_with fail
          go_region
          go_wp2_with fail
          have hW : ((wr.setCell ⟨w.heap.size, 0, none⟩ (.string s)).setCell ⟨w.heap.size, 1, none⟩ (.slice A2 S.length c2)).heap[w.heap.size]? = some (.cells #[.string s, .slice A2 S.length c2] 44 (0, 0)) := by
            have h1 := blk_set HM4.out.1 0 (.string s)
            simpa using blk_set h1 1 (.slice A2 S.length c2)
          have hk : ∀ k, k ≠ w.heap.size → ((wr.setCell ⟨w.heap.size, 0, none⟩ (.string s)).setCell ⟨w.heap.size, 1, none⟩ (.slice A2 S.length c2)).heap[k]? = wr.heap[k]? := fun k hk => by rw [Below.heap_setCell _ _ _ k hk, Below.heap_setCell _ _ _ k hk]
          refine bodyPost_ret (results_tc rfl _ _ w.heap.size 44 #[.string s, .slice A2 S.length c2] (0, 0) _ rfl hW Tryd.underlying44 rfl (by kernel_rfl)) rfl ?_
          refine ⟨_, _, rfl, ?_, ?_, ?_, ?_, ?_⟩
          · exact Kd.R_drew (Kd.R_mono (Kd.R_step (Kd.R_types HL4.out HM4.out.1 (by decide)) (fun k ok _ => hk k ok.2)) (fun _ _ => trivial))
          · exact Kd.R_drew (Kd.R_mono (Kd.R_step (Kd.R_types HS4.out HM4.out.1 (by decide)) (fun k ok _ => hk k ok.2)) (fun _ _ => trivial))
          · exact ((HI4.out.far (by show g ≠ w.heap.size; omega) _).far (by show g ≠ w.heap.size; omega) _).drew
          · exact below_drew ((HB4.out.setCell HB.out.size _).setCell HB.out.size _)
          · exact keep_drew (keep_far (keep_far HK4.out (Nat.le_refl _) _) (Nat.le_refl _) _)
end Go.Proofs.YtecdjnabmjhakaaDoor.P.OwnUrn
namespace Go.Proofs.YtecdjnabmjhakaaDoor.P
open Go.RowKit Go.Proofs.YtecdjnabmjhakaaDoorW.PrintWords Go.Proofs.YtecdjnabmjhakaaDoorW.PrintLast Go.Proofs.YtecdjnabmjhakaaDoorW.PrintMore
attribute [local go_sem] max2_int min2_int max_two min_two max_three min_three max_four min_four   -- for this text's walks alone
set_option linter.unusedVariables false
set_option linter.unusedSimpArgs false
def cippuskit_CopiesOf.f (s0_0 : Int) (s0_1 : Int) (a1 : Int) (a2 : Int) (a3 : Int) : Option ((List (S25)) × ByteArray × List Int × Int × Int) := OwnUrn.copiesOf s0_0 s0_1 a1 a2 a3
theorem cippuskit_CopiesOf.calls (g : Nat) (s0_0 : Int) (s0_1 : Int) (a1 : Int) (a2 : Int) (a3 : Int) (r1 : List (S25)) (r2 : ByteArray) (r3 : List Int) (r4 : Int) (r5 : Int) (w0 w : World) (hI : IsS87 w0 w g s0_0 s0_1) (hB : Below w0.heap.size w0 w) (h : cippuskit_CopiesOf.f s0_0 s0_1 a1 a2 a3 = some (r1, r2, r3, r4, r5)) :
    Calls Tryd.prog 17 #[.pointer (some ⟨g, 0, none⟩), .int .i64 a1, .int .i64 a2, .int .i64 a3] w fun e w' => ∃ v0_ v2_ : Value, e = .returned (.tuple #[v0_, .agg #[.string r2, v2_]]) ∧ Kd.R k25 25 w' w.heap.size (fun _ => True) v0_ r1 ∧ Kd.R (Kd.int .i64) 3 w' w.heap.size (fun _ => True) v2_ r3 ∧ IsS87 w0 w' g r4 r5 ∧ Below w0.heap.size w0 w' ∧ KeepBut w w' g none := by
  exact OwnUrn.copiesOf_calls g s0_0 s0_1 a1 a2 a3 r1 r2 r3 r4 r5 w0 w hI hB h
end Go.Proofs.YtecdjnabmjhakaaDoor.P
namespace Go.Proofs.YtecdjnabmjhakaaDoor.P
open Go.RowKit Go.Proofs.YtecdjnabmjhakaaDoorW.PrintWords Go.Proofs.YtecdjnabmjhakaaDoorW.PrintLast Go.Proofs.YtecdjnabmjhakaaDoorW.PrintMore
attribute [local go_sem] max2_int min2_int max_two min_two max_three min_three max_four min_four   -- for this text's walks alone
set_option linter.unusedVariables false
set_option linter.unusedSimpArgs false
def cippuskit_NewUrn.f (l0 : List Int) : Option (Int × Int) := OwnUrn.newUrn l0
theorem cippuskit_NewUrn.calls (A0 : Option Addr) (c0 : Nat) (l0 : List Int) (r1 : Int) (r2 : Int) (w0 w : World) (hB : Below w0.heap.size w0 w) (hr0 : Kd.C (Kd.int .i64) w0 A0 l0.length l0) (hc0 : l0.length ≤ c0) (h : cippuskit_NewUrn.f l0 = some (r1, r2)) :
    Calls Tryd.prog 18 #[.slice A0 l0.length c0] w fun e w' => ∃ g_ : Nat, e = .returned (.pointer (some ⟨g_, 0, none⟩)) ∧ IsS87 w0 w' g_ r1 r2 ∧ Below w0.heap.size w0 w' ∧ Below w.heap.size w w' := by
  exact OwnUrn.newUrn_calls A0 c0 l0 r1 r2 w0 w hB hr0 hc0 h
end Go.Proofs.YtecdjnabmjhakaaDoor.P
namespace Go.Proofs.YtecdjnabmjhakaaDoor.P
open Go.RowKit Go.Proofs.YtecdjnabmjhakaaDoorW.PrintWords Go.Proofs.YtecdjnabmjhakaaDoorW.PrintLast Go.Proofs.YtecdjnabmjhakaaDoorW.PrintMore
attribute [local go_sem] max2_int min2_int max_two min_two max_three min_three max_four min_four   -- for this text's walks alone
set_option linter.unusedVariables false
set_option linter.unusedSimpArgs false
mutual
def cippusref07_Check.l0 : Nat → List (S25) → Int → Option (Int)
  | 0, _, _ => none
  | k + 1, x0, x3 => if x3 < (x0.length : Int) then (if 0 ≤ x3 then (if (((rd_T25 x0 x3).f0).size : Int) < 1 then (cippusref07_Check.j1 k x0 x3 ((rd_T25 x0 x3).f0) true) else (if (((rd_T25 x0 x3).f0).size : Int) > 8 then (cippusref07_Check.j1 k x0 x3 ((rd_T25 x0 x3).f0) true) else (if 0 < (x0.length : Int) then (cippusref07_Check.j1 k x0 x3 ((rd_T25 x0 x3).f0) ((((rd_T25 x0 x3).f0).size : Int) != (((rd_T25 x0 0).f0).size : Int))) else (none)))) else (none)) else (some 0)
def cippusref07_Check.j1 : Nat → List (S25) → Int → ByteArray → Bool → Option (Int)
  | 0, _, _, _, _ => none
  | k + 1, x0, x3, x4, x40 => if x40 = true then (some 2) else (cippusref07_Check.l1 k x0 x3 x4 0)
def cippusref07_Check.l1 : Nat → List (S25) → Int → ByteArray → Int → Option (Int)
  | 0, _, _, _, _ => none
  | k + 1, x0, x3, x4, x5 => if x5 < (x4.size : Int) then (if 0 ≤ x5 then (if (bt x4 x5) < 65 then (some 2) else (if (bt x4 x5) > 90 then (some 2) else (cippusref07_Check.l1 k x0 x3 x4 (wrap64 (x5 + 1))))) else (none)) else (if 0 ≤ x3 then (if x3 < (x0.length : Int) then (if ((rd_T25 x0 x3).f1) < 0 then (some 1) else (if ((rd_T25 x0 x3).f1) > 3 then (some 1) else (cippusref07_Check.l0 k x0 (wrap64 (x3 + 1))))) else (none)) else (none))
end
def cippusref07_Check.f (k : Nat) (l0 : List (S25)) : Option (Int) := if (l0.length : Int) = 0 then (some 7) else (if (l0.length : Int) > 5 then (some 6) else (cippusref07_Check.l0 k l0 0))
set_option maxHeartbeats 8000000 in
set_option maxRecDepth 100000 in
theorem cippusref07_Check.calls (k : Nat) (A0 : Option Addr) (c0 : Nat) (l0 : List (S25)) (r : Int) (w : World) (hr0 : Kd.C k25 w A0 l0.length l0) (hc0 : l0.length ≤ c0) (h : cippusref07_Check.f k l0 = some r) :
    Calls Tryd.prog 43 #[.slice A0 l0.length c0] w fun e w' => e = .returned (.int .i64 r) ∧ Drawn0 w w' := by
  have HR0 := Aside0.mk hr0
  have HC0 := Aside0.mk hc0
  clear hr0 hc0
  have H : (if (l0.length : Int) = 0 then (some 7) else (if (l0.length : Int) > 5 then (some 6) else (cippusref07_Check.l0 k l0 0))) = some r := h
  clear h
  by_cases c2 : (l0.length : Int) = 0
  · rw [if_pos c2] at H
    have c2b0 : ((l0.length : Int) == 0) = true := beq_iff_eq.mpr c2
    have c2b1 : ((l0.length : Int) != 0) = false := bne_eq_false_iff_eq.mpr c2
    clear c2
    obtain rfl := Option.some.inj H
    go_enter Tryd.func43, Tryd.ntmps43
    go_wp2
    go_ret
    exact ⟨by first | rfl | (simp; done) | (simp [*]; done), by repeat (first | exact Drawn0.refl _ | apply Drawn0.step)⟩
  · rw [if_neg c2] at H
    have c2b0 : ((l0.length : Int) == 0) = false := beq_eq_false_iff_ne.mpr c2
    have c2b1 : ((l0.length : Int) != 0) = true := bne_iff_ne.mpr c2
    have c2b2 : ¬ (l0 = []) := fun h_ => c2 (by rw [h_]; rfl)
    by_cases c3 : (l0.length : Int) > 5
    · rw [if_pos c3] at H
      have c3b0 : decide (5 < (l0.length : Int)) = true := decide_eq_true c3
      have c3b1 : decide (5 < l0.length) = true := decide_eq_true (by omega)
      clear c3
      obtain rfl := Option.some.inj H
      go_enter Tryd.func43, Tryd.ntmps43
      go_wp2
      go_ret
      exact ⟨by first | rfl | (simp; done) | (simp [*]; done), by repeat (first | exact Drawn0.refl _ | apply Drawn0.step)⟩
    · rw [if_neg c3] at H
      have c3b0 : decide (5 < (l0.length : Int)) = false := decide_eq_false c3
      have c3b1 : decide (5 < l0.length) = false := decide_eq_false (by omega)
      clear c3
      have H' := Aside0.mk H
      clear H
      go_enter Tryd.func43, Tryd.ntmps43
      go_wp2
      go_loopg [3] k (fun kq v3 w' => ∃ (x3_1 : Int), v3 = .int .i64 x3_1 ∧ Aside0 (cippusref07_Check.l0 kq l0 x3_1 = some r) ∧ Aside0 (kq ≤ k) ∧ Drawn0 w w')
      case atStart => exact ⟨(0), (by first | rfl | (simp; done) | (simp [*]; done)), H', ⟨Nat.le_refl _⟩, by repeat (first | exact Drawn0.refl _ | apply Drawn0.step)⟩
      case round =>
        clear H'
        try clear c2
        try clear c2b0
        try clear c2b1
        try clear c2b2
        try clear p2
        try clear c3
        try clear c3b0
        try clear c3b1
        obtain ⟨x3_1, rfl, HA, HK1, ⟨m1, rfl⟩⟩ := hrel
        cases gk with
        | zero => exact absurd HA.out (by simp [cippusref07_Check.l0])
        | succ k1 =>
          have H := HA.out
          clear HA
          simp only [cippusref07_Check.l0] at H
          by_cases c4 : x3_1 < (l0.length : Int)
          · rw [if_pos c4] at H
            have c4b0 : decide (x3_1 < (l0.length : Int)) = true := decide_eq_true c4
            clear c4
            by_cases c5 : 0 ≤ x3_1
            · rw [if_pos c5] at H
              have c5b0 : decide (0 ≤ x3_1) = true := decide_eq_true c5
              clear c5
              have HC6 := Aside0.mk H
              clear H
              have p276 : 0 ≤ (x3_1 : Int) := of_decide_eq_true (by first | (with_reducible assumption) | assumption)
              have q276 : x3_1 < (l0.length : Int) := of_decide_eq_true (by first | (with_reducible assumption) | assumption)
              obtain ⟨ad276, e276, hx276_0, hx276_1, hx276_2⟩ := at_T25 HR0.out x3_1 p276 q276
              cases e276
              replace p276 := eq_true p276
              replace q276 := eq_true q276
              go_upto_region 9 with (fail)
              go_cut [40] (fun v40 wc => ∃ (kq : Nat) (x40_5 : Bool), v40 = .bool x40_5 ∧ Aside0 (cippusref07_Check.j1 kq l0 x3_1 ((rd_T25 l0 x3_1).f0) x40_5 = some r) ∧ Aside0 (kq ≤ k1) ∧ Drawn0 w wc)
              case first =>
                have H := HC6.out
                clear HC6
                by_cases c7 : (((rd_T25 l0 x3_1).f0).size : Int) < 1
                · rw [if_pos c7] at H
                  have c7b0 : decide ((((rd_T25 l0 x3_1).f0).size : Int) < 1) = true := decide_eq_true c7
                  have c7b1 : decide (((rd_T25 l0 x3_1).f0).size < 1) = true := decide_eq_true (by omega)
                  clear c7
                  (first | rw [c7b0] | (simp only [i64_w, i32_w]; rw [c7b0]) | skip)
                  have H' := Aside0.mk H
                  clear H
                  go_wp2
                  go_meet
                  case rel => exact ⟨_, (true), (by first | rfl | (simp; done) | (simp [*]; done)), H', ⟨by have := HK1.out; first | omega | exact Nat.le_refl _⟩, by repeat (first | exact Drawn0.refl _ | apply Drawn0.step)⟩
                · rw [if_neg c7] at H
                  have c7b0 : decide ((((rd_T25 l0 x3_1).f0).size : Int) < 1) = false := decide_eq_false c7
                  have c7b1 : decide (((rd_T25 l0 x3_1).f0).size < 1) = false := decide_eq_false (by omega)
                  clear c7
                  (first | rw [c7b0] | (simp only [i64_w, i32_w]; rw [c7b0]) | skip)
                  by_cases c8 : (((rd_T25 l0 x3_1).f0).size : Int) > 8
                  · rw [if_pos c8] at H
                    have c8b0 : decide (8 < (((rd_T25 l0 x3_1).f0).size : Int)) = true := decide_eq_true c8
                    have c8b1 : decide (8 < ((rd_T25 l0 x3_1).f0).size) = true := decide_eq_true (by omega)
                    clear c8
                    have H' := Aside0.mk H
                    clear H
                    go_wp2
                    go_meet
                    case rel => exact ⟨_, (true), (by first | rfl | (simp; done) | (simp [*]; done)), H', ⟨by have := HK1.out; first | omega | exact Nat.le_refl _⟩, by repeat (first | exact Drawn0.refl _ | apply Drawn0.step)⟩
                  · rw [if_neg c8] at H
                    have c8b0 : decide (8 < (((rd_T25 l0 x3_1).f0).size : Int)) = false := decide_eq_false c8
                    have c8b1 : decide (8 < ((rd_T25 l0 x3_1).f0).size) = false := decide_eq_false (by omega)
                    clear c8
                    by_cases c9 : 0 < (l0.length : Int)
                    · rw [if_pos c9] at H
                      have c9b0 : decide (0 < (l0.length : Int)) = true := decide_eq_true c9
                      have c9b1 : decide (0 < l0.length) = true := decide_eq_true (by omega)
                      clear c9
                      have H' := Aside0.mk H
                      clear H
                      have p277 : 0 ≤ (0 : Int) := (by omega)
                      have q277 : 0 < (l0.length : Int) := of_decide_eq_true (by first | (with_reducible assumption) | assumption)
                      obtain ⟨ad277, e277, hx277_0, hx277_1, hx277_2⟩ := at_T25 HR0.out 0 p277 q277
                      obtain rfl : ad276 = ad277 := (by injection e277)
                      have qi277 : (0 < l0.length) = True := eq_true (by omega)
                      (try rw [show ((0 : Int)).toNat = 0 from rfl] at hx277_0)
                      (try rw [show 0 * 3 = 0 from rfl] at hx277_0)
                      (try rw [Addr.add_zero'] at hx277_0)
                      (try rw [show ((0 : Int)).toNat = 0 from rfl] at hx277_1)
                      (try rw [show 0 * 3 = 0 from rfl] at hx277_1)
                      (try rw [Addr.add_zero'] at hx277_1)
                      (try rw [show ((0 : Int)).toNat = 0 from rfl] at hx277_2)
                      (try rw [show 0 * 3 = 0 from rfl] at hx277_2)
                      (try rw [Addr.add_zero'] at hx277_2)
                      replace p277 := eq_true p277
                      replace q277 := eq_true q277
                      go_wp2
                      go_meet
                      case rel => exact ⟨_, (((((rd_T25 l0 x3_1).f0).size : Int) != (((rd_T25 l0 0).f0).size : Int))), (by first | rfl | (simp; done) | (simp [*]; done)), H', ⟨by have := HK1.out; first | omega | exact Nat.le_refl _⟩, by repeat (first | exact Drawn0.refl _ | apply Drawn0.step)⟩
                    · rw [if_neg c9] at H
                      exact absurd H (by simp)
              case rest =>
                clear HC6
                try clear c2
                try clear c2b0
                try clear c2b1
                try clear c2b2
                try clear p2
                try clear q2
                try clear hx2
                try clear qi2
                try clear c3
                try clear c3b0
                try clear c3b1
                try clear c4
                try clear c4b0
                try clear c5
                try clear c5b0
                try clear c7
                try clear c7b0
                try clear c7b1
                try clear c8
                try clear c8b0
                try clear c8b1
                try clear c9
                try clear c9b0
                try clear c9b1
                try clear hx276_0
                try clear hx276_1
                try clear hx276_2
                try clear hx277_0
                try clear hx277_1
                try clear hx277_2
                try clear p2
                try clear p276
                try clear p277
                try clear q276
                try clear q277
                obtain ⟨kq, x40_5, rfl, HA, HJ5, ⟨mc5, rfl⟩⟩ := hcut
                cases kq with
                | zero => exact absurd HA.out (by simp [cippusref07_Check.j1])
                | succ kj5 =>
                  have H := HA.out
                  clear HA
                  simp only [cippusref07_Check.j1] at H
                  by_cases c10 : x40_5 = true
                  · subst c10
                    have H1 : (some 2) = some r := by rw [if_pos rfl] at H; exact H
                    clear H
                    have H := H1
                    clear H1
                    obtain rfl := Option.some.inj H
                    go_wp2
                    go_ret
                    exact ⟨by first | rfl | (simp; done) | (simp [*]; done), by repeat (first | exact Drawn0.refl _ | apply Drawn0.step)⟩
                  · replace c10 := Bool.eq_false_iff.mpr c10
                    subst c10
                    have H1 : (cippusref07_Check.l1 kj5 l0 x3_1 ((rd_T25 l0 x3_1).f0) 0) = some r := by rw [if_neg (show ¬ (false = true) by decide)] at H; exact H
                    clear H
                    have H := H1
                    clear H1
                    have H' := Aside0.mk H
                    clear H
                    go_wp2
                    go_loopg [5] kj5 (fun kq v5 w' => ∃ (x5_3 : Int), v5 = .int .i64 x5_3 ∧ Aside0 (cippusref07_Check.l1 kq l0 x3_1 ((rd_T25 l0 x3_1).f0) x5_3 = some r) ∧ Aside0 (kq ≤ kj5) ∧ Drawn0 w w')
                    case atStart => exact ⟨(0), (by first | rfl | (simp; done) | (simp [*]; done)), H', ⟨Nat.le_refl _⟩, by repeat (first | exact Drawn0.refl _ | apply Drawn0.step)⟩
                    case round =>
                      clear H'
                      try clear c1
                      try clear c2
                      try clear c2b0
                      try clear c2b1
                      try clear c2b2
                      try clear p2
                      try clear q2
                      try clear hx2
                      try clear qi2
                      try clear c3
                      try clear c3b0
                      try clear c3b1
                      try clear c4
                      try clear c4b0
                      try clear c5
                      try clear c5b0
                      try clear c7
                      try clear c7b0
                      try clear c7b1
                      try clear c8
                      try clear c8b0
                      try clear c8b1
                      try clear c9
                      try clear c9b0
                      try clear c9b1
                      try clear c10
                      try clear hx276_0
                      try clear hx276_1
                      try clear hx276_2
                      try clear hx277_0
                      try clear hx277_1
                      try clear hx277_2
                      try clear p2
                      try clear p276
                      try clear p277
                      try clear q2
                      try clear q276
                      try clear q277
                      obtain ⟨x5_3, rfl, HA, HK3, ⟨m3, rfl⟩⟩ := hrel
                      cases gk with
                      | zero => exact absurd HA.out (by simp [cippusref07_Check.l1])
                      | succ k3 =>
                        have H := HA.out
                        clear HA
                        simp only [cippusref07_Check.l1] at H
                        by_cases c11 : x5_3 < (((rd_T25 l0 x3_1).f0).size : Int)
                        · rw [if_pos c11] at H
                          have c11b0 : decide (x5_3 < (((rd_T25 l0 x3_1).f0).size : Int)) = true := decide_eq_true c11
                          clear c11
                          by_cases c12 : 0 ≤ x5_3
                          · rw [if_pos c12] at H
                            have c12b0 : decide (0 ≤ x5_3) = true := decide_eq_true c12
                            clear c12
                            by_cases c14 : (bt ((rd_T25 l0 x3_1).f0) x5_3) < 65
                            · rw [if_pos c14] at H
                              have c14b0 : decide ((bt ((rd_T25 l0 x3_1).f0) x5_3) < 65) = true := decide_eq_true c14
                              clear c14
                              obtain rfl := Option.some.inj H
                              have p13 : 0 ≤ (x5_3 : Int) := of_decide_eq_true (by first | (with_reducible assumption) | assumption)
                              have q13 : x5_3 < (((rd_T25 l0 x3_1).f0).size : Int) := of_decide_eq_true (by first | (with_reducible assumption) | assumption)
                              have hx13 := bt_at ((rd_T25 l0 x3_1).f0) x5_3
                              replace p13 := eq_true p13
                              replace q13 := eq_true q13
                              go_wp2
                              go_ret
                              exact ⟨by first | rfl | (simp; done) | (simp [*]; done), by repeat (first | exact Drawn0.refl _ | apply Drawn0.step)⟩
                            · rw [if_neg c14] at H
                              have c14b0 : decide ((bt ((rd_T25 l0 x3_1).f0) x5_3) < 65) = false := decide_eq_false c14
                              clear c14
                              by_cases c16 : (bt ((rd_T25 l0 x3_1).f0) x5_3) > 90
                              · rw [if_pos c16] at H
                                have c16b0 : decide (90 < (bt ((rd_T25 l0 x3_1).f0) x5_3)) = true := decide_eq_true c16
                                clear c16
                                obtain rfl := Option.some.inj H
                                have p13 : 0 ≤ (x5_3 : Int) := of_decide_eq_true (by first | (with_reducible assumption) | assumption)
                                have q13 : x5_3 < (((rd_T25 l0 x3_1).f0).size : Int) := of_decide_eq_true (by first | (with_reducible assumption) | assumption)
                                have hx13 := bt_at ((rd_T25 l0 x3_1).f0) x5_3
                                replace p13 := eq_true p13
                                replace q13 := eq_true q13
                                have p15 : 0 ≤ (x5_3 : Int) := of_decide_eq_true (by first | (with_reducible assumption) | assumption)
                                have q15 : x5_3 < (((rd_T25 l0 x3_1).f0).size : Int) := of_decide_eq_true (by first | (with_reducible assumption) | assumption)
                                have hx15 := bt_at ((rd_T25 l0 x3_1).f0) x5_3
                                replace p15 := eq_true p15
                                replace q15 := eq_true q15
                                go_wp2
                                go_ret
                                exact ⟨by first | rfl | (simp; done) | (simp [*]; done), by repeat (first | exact Drawn0.refl _ | apply Drawn0.step)⟩
                              · rw [if_neg c16] at H
                                have c16b0 : decide (90 < (bt ((rd_T25 l0 x3_1).f0) x5_3)) = false := decide_eq_false c16
                                clear c16
                                have H' := Aside0.mk H
                                clear H
                                have p13 : 0 ≤ (x5_3 : Int) := of_decide_eq_true (by first | (with_reducible assumption) | assumption)
                                have q13 : x5_3 < (((rd_T25 l0 x3_1).f0).size : Int) := of_decide_eq_true (by first | (with_reducible assumption) | assumption)
                                have hx13 := bt_at ((rd_T25 l0 x3_1).f0) x5_3
                                replace p13 := eq_true p13
                                replace q13 := eq_true q13
                                have p15 : 0 ≤ (x5_3 : Int) := of_decide_eq_true (by first | (with_reducible assumption) | assumption)
                                have q15 : x5_3 < (((rd_T25 l0 x3_1).f0).size : Int) := of_decide_eq_true (by first | (with_reducible assumption) | assumption)
                                have hx15 := bt_at ((rd_T25 l0 x3_1).f0) x5_3
                                replace p15 := eq_true p15
                                replace q15 := eq_true q15
                                go_wp2
                                go_roundg k3
                                case measure => have := HK1.out; have := HJ5.out; have := HK3.out; omega
                                case rel => exact ⟨(wrap64 (x5_3 + 1)), (by first | rfl | (simp; done) | (simp [*]; done)), H', ⟨by have := HK1.out; have := HJ5.out; have := HK3.out; omega⟩, by repeat (first | exact Drawn0.refl _ | apply Drawn0.step)⟩
                          · rw [if_neg c12] at H
                            exact absurd H (by simp)
                        · rw [if_neg c11] at H
                          have c11b0 : decide (x5_3 < (((rd_T25 l0 x3_1).f0).size : Int)) = false := decide_eq_false c11
                          clear c11
                          by_cases c17 : 0 ≤ x3_1
                          · rw [if_pos c17] at H
                            have c17b0 : decide (0 ≤ x3_1) = true := decide_eq_true c17
                            clear c17
                            by_cases c18 : x3_1 < (l0.length : Int)
                            · rw [if_pos c18] at H
                              have c18b0 : decide (x3_1 < (l0.length : Int)) = true := decide_eq_true c18
                              clear c18
                              by_cases c19 : ((rd_T25 l0 x3_1).f1) < 0
                              · rw [if_pos c19] at H
                                have c19b0 : decide (((rd_T25 l0 x3_1).f1) < 0) = true := decide_eq_true c19
                                clear c19
                                obtain rfl := Option.some.inj H
                                have p278 : 0 ≤ (x3_1 : Int) := of_decide_eq_true (by first | (with_reducible assumption) | assumption)
                                have q278 : x3_1 < (l0.length : Int) := of_decide_eq_true (by first | (with_reducible assumption) | assumption)
                                obtain ⟨ad278, e278, hx278_0, hx278_1, hx278_2⟩ := at_T25 HR0.out x3_1 p278 q278
                                obtain rfl : ad276 = ad278 := (by injection e278)
                                replace p278 := eq_true p278
                                replace q278 := eq_true q278
                                go_wp2
                                go_ret
                                exact ⟨by first | rfl | (simp; done) | (simp [*]; done), by repeat (first | exact Drawn0.refl _ | apply Drawn0.step)⟩
                              · rw [if_neg c19] at H
                                have c19b0 : decide (((rd_T25 l0 x3_1).f1) < 0) = false := decide_eq_false c19
                                clear c19
                                by_cases c20 : ((rd_T25 l0 x3_1).f1) > 3
                                · rw [if_pos c20] at H
                                  have c20b0 : decide (3 < ((rd_T25 l0 x3_1).f1)) = true := decide_eq_true c20
                                  clear c20
                                  obtain rfl := Option.some.inj H
                                  have p278 : 0 ≤ (x3_1 : Int) := of_decide_eq_true (by first | (with_reducible assumption) | assumption)
                                  have q278 : x3_1 < (l0.length : Int) := of_decide_eq_true (by first | (with_reducible assumption) | assumption)
                                  obtain ⟨ad278, e278, hx278_0, hx278_1, hx278_2⟩ := at_T25 HR0.out x3_1 p278 q278
                                  obtain rfl : ad276 = ad278 := (by injection e278)
                                  replace p278 := eq_true p278
                                  replace q278 := eq_true q278
                                  have p279 : 0 ≤ (x3_1 : Int) := of_decide_eq_true (by first | (with_reducible assumption) | assumption)
                                  have q279 : x3_1 < (l0.length : Int) := of_decide_eq_true (by first | (with_reducible assumption) | assumption)
                                  obtain ⟨ad279, e279, hx279_0, hx279_1, hx279_2⟩ := at_T25 HR0.out x3_1 p279 q279
                                  obtain rfl : ad276 = ad279 := (by injection e279)
                                  replace p279 := eq_true p279
                                  replace q279 := eq_true q279
                                  go_wp2
                                  go_ret
                                  exact ⟨by first | rfl | (simp; done) | (simp [*]; done), by repeat (first | exact Drawn0.refl _ | apply Drawn0.step)⟩
                                · rw [if_neg c20] at H
                                  have c20b0 : decide (3 < ((rd_T25 l0 x3_1).f1)) = false := decide_eq_false c20
                                  clear c20
                                  have H' := Aside0.mk H
                                  clear H
                                  have p278 : 0 ≤ (x3_1 : Int) := of_decide_eq_true (by first | (with_reducible assumption) | assumption)
                                  have q278 : x3_1 < (l0.length : Int) := of_decide_eq_true (by first | (with_reducible assumption) | assumption)
                                  obtain ⟨ad278, e278, hx278_0, hx278_1, hx278_2⟩ := at_T25 HR0.out x3_1 p278 q278
                                  obtain rfl : ad276 = ad278 := (by injection e278)
                                  replace p278 := eq_true p278
                                  replace q278 := eq_true q278
                                  have p279 : 0 ≤ (x3_1 : Int) := of_decide_eq_true (by first | (with_reducible assumption) | assumption)
                                  have q279 : x3_1 < (l0.length : Int) := of_decide_eq_true (by first | (with_reducible assumption) | assumption)
                                  obtain ⟨ad279, e279, hx279_0, hx279_1, hx279_2⟩ := at_T25 HR0.out x3_1 p279 q279
                                  obtain rfl : ad276 = ad279 := (by injection e279)
                                  replace p279 := eq_true p279
                                  replace q279 := eq_true q279
                                  go_wp2
                                  go_roundg k3
                                  case measure => have := HK1.out; have := HJ5.out; have := HK3.out; omega
                                  case rel => exact ⟨(wrap64 (x3_1 + 1)), (by first | rfl | (simp; done) | (simp [*]; done)), H', ⟨by have := HK1.out; have := HJ5.out; have := HK3.out; omega⟩, by repeat (first | exact Drawn0.refl _ | apply Drawn0.step)⟩
                            · rw [if_neg c18] at H
                              exact absurd H (by simp)
                          · rw [if_neg c17] at H
                            exact absurd H (by simp)
            · rw [if_neg c5] at H
              exact absurd H (by simp)
          · rw [if_neg c4] at H
            have c4b0 : decide (x3_1 < (l0.length : Int)) = false := decide_eq_false c4
            clear c4
            obtain rfl := Option.some.inj H
            go_wp2
            go_ret
            exact ⟨by first | rfl | (simp; done) | (simp [*]; done), by repeat (first | exact Drawn0.refl _ | apply Drawn0.step)⟩
end Go.Proofs.YtecdjnabmjhakaaDoor.P
namespace Go.Proofs.YtecdjnabmjhakaaDoor.P
open Go.RowKit Go.Proofs.YtecdjnabmjhakaaDoorW.PrintWords Go.Proofs.YtecdjnabmjhakaaDoorW.PrintLast Go.Proofs.YtecdjnabmjhakaaDoorW.PrintMore
attribute [local go_sem] max2_int min2_int max_two min_two max_three min_three max_four min_four   -- for this text's walks alone
set_option linter.unusedVariables false
set_option linter.unusedSimpArgs false
def cippusref07_digit.f (a0 : Int) : Option (ByteArray) := some (strOfNums (([(48 + ((a0) % 256)) % 256] : List Int)))
set_option maxHeartbeats 8000000 in
set_option maxRecDepth 100000 in
theorem cippusref07_digit.calls (a0 : Int) (r : ByteArray) (w : World) (h : cippusref07_digit.f a0 = some r) :
    Calls Tryd.prog 44 #[.int .i64 a0] w fun e w' => e = .returned (.string r) ∧ Below w.heap.size w w' := by
  have HB := Aside0.mk (Below.refl w.heap.size w)
  have H : (some (strOfNums (([(48 + ((a0) % 256)) % 256] : List Int)))) = some r := h
  clear h
  obtain ⟨y280, hy280⟩ : ∃ y_ : List Int, y_ = (([(48 + ((a0) % 256)) % 256] : List Int)) := ⟨_, rfl⟩
  replace H : (some (strOfNums y280)) = some r := by first | (rw [hy280]; with_reducible exact H) | (have H2_ := (Option.bind_some _ _).symm.trans H; rw [hy280]; with_reducible exact H2_) | (have H2_ := (Option.bind_some _ _).symm.trans H; with_reducible exact H2_) | with_reducible exact H | (rw [hy280]; exact H) | exact H
  have Ny280 := Aside0.mk hy280
  clear hy280
  obtain rfl := Option.some.inj H
  go_enter Tryd.func44, Tryd.ntmps44
  go_wp2_with (first | ((with_reducible refine gate_dst (N := 6) rfl ?_); refine Kd.R_lit (Kd.int .u8) _ 5 ?hg (N := 6) ?hd (xs := ([(48 + ((a0) % 256)) % 256] : List Int)) (inner := [.int .u8 ((48 + ((a0) % 256)) % 256)]) (ok := fun _ => True) (okp := fun _ => True) ?hr ?hp (fun _ hk => hk) trivial (Below.refl _ _) (Nat.le_refl _) (by simp) ?_; (case hd => rfl); (case hg => rfl); (case hr => first | (go_simp; done) | (go_simp; rfl)); (case hp => exact (Reps.one (show Kd.M (Kd.int .u8) _ _ _ ((48 + ((a0) % 256)) % 256) [.int .u8 ((48 + ((a0) % 256)) % 256)] from rfl) (Reps.none _ _))); intro v281 w2 ho3 hb hg_ hnew_; clear hg_ hnew_; (first | rw [← Ny280.out] at ho3 | (simp only [Int.reduceToNat] at ho3; rw [← Ny280.out] at ho3)); have n0_ := Aside0.mk (Kd.R_lower ho3 (below_size (by repeat (first | (with_reducible first | exact HB.out | apply below_alloc | apply pw_below_drewN | apply below_drew1) | exact HB.out)))); have n1_ := Aside0.mk (below_step (by repeat (first | (with_reducible first | exact HB.out | apply below_alloc | apply pw_below_drewN | apply below_drew1) | exact HB.out)) hb); clear HB; have HO282 := n0_; have HB := n1_; clear n0_ n1_; clear hb ho3; have hcv4 := own_string (P := Tryd.prog) Tryd.underlying82 Tryd.underlying5 Tryd.underlying9 (Kd.own_of_R HO282.out)))
  go_ret
  exact ⟨by first | rfl | (simp [errW_none, errW_some] <;> rfl) | (simp [*, errW_none, errW_some] <;> rfl), by repeat (first | (with_reducible first | exact HB.out | apply below_alloc | apply pw_below_drewN | apply below_drew1) | exact HB.out)⟩
end Go.Proofs.YtecdjnabmjhakaaDoor.P
namespace Go.Proofs.YtecdjnabmjhakaaDoor.P
open Go.RowKit Go.Proofs.YtecdjnabmjhakaaDoorW.PrintWords Go.Proofs.YtecdjnabmjhakaaDoorW.PrintLast Go.Proofs.YtecdjnabmjhakaaDoorW.PrintMore
attribute [local go_sem] max2_int min2_int max_two min_two max_three min_three max_four min_four   -- for this text's walks alone
set_option linter.unusedVariables false
set_option linter.unusedSimpArgs false
def cippusref07_Write.l0 : Nat → List (S25) → ByteArray → Int → Option (ByteArray × Int)
  | 0, _, _, _ => none
  | k + 1, x0, x5, x6 => if x6 < (x0.length : Int) then (if 0 ≤ x6 then (if (rd_T25 x0 x6).f2 = true then (if x5.size + 4 ≤ 9223372036854775807 then (if (x5 ++ (⟨#[115, 97, 119, 32]⟩ : ByteArray)).size + ((rd_T25 x0 x6).f0).size ≤ 9223372036854775807 then (if ((x5 ++ (⟨#[115, 97, 119, 32]⟩ : ByteArray)) ++ ((rd_T25 x0 x6).f0)).size + 1 ≤ 9223372036854775807 then ((cippusref07_digit.f ((rd_T25 x0 x6).f1)).bind fun t289 => (if (((x5 ++ (⟨#[115, 97, 119, 32]⟩ : ByteArray)) ++ ((rd_T25 x0 x6).f0)) ++ (⟨#[32]⟩ : ByteArray)).size + t289.size ≤ 9223372036854775807 then (if ((((x5 ++ (⟨#[115, 97, 119, 32]⟩ : ByteArray)) ++ ((rd_T25 x0 x6).f0)) ++ (⟨#[32]⟩ : ByteArray)) ++ t289).size + 1 ≤ 9223372036854775807 then (cippusref07_Write.l0 k x0 (((((x5 ++ (⟨#[115, 97, 119, 32]⟩ : ByteArray)) ++ ((rd_T25 x0 x6).f0)) ++ (⟨#[32]⟩ : ByteArray)) ++ t289) ++ (⟨#[10]⟩ : ByteArray)) (wrap64 (x6 + 1))) else (none)) else (none))) else (none)) else (none)) else (none)) else (if x5.size + 4 ≤ 9223372036854775807 then (if (x5 ++ (⟨#[104, 97, 100, 32]⟩ : ByteArray)).size + ((rd_T25 x0 x6).f0).size ≤ 9223372036854775807 then (if ((x5 ++ (⟨#[104, 97, 100, 32]⟩ : ByteArray)) ++ ((rd_T25 x0 x6).f0)).size + 1 ≤ 9223372036854775807 then ((cippusref07_digit.f ((rd_T25 x0 x6).f1)).bind fun t292 => (if (((x5 ++ (⟨#[104, 97, 100, 32]⟩ : ByteArray)) ++ ((rd_T25 x0 x6).f0)) ++ (⟨#[32]⟩ : ByteArray)).size + t292.size ≤ 9223372036854775807 then (if ((((x5 ++ (⟨#[104, 97, 100, 32]⟩ : ByteArray)) ++ ((rd_T25 x0 x6).f0)) ++ (⟨#[32]⟩ : ByteArray)) ++ t292).size + 1 ≤ 9223372036854775807 then (cippusref07_Write.l0 k x0 (((((x5 ++ (⟨#[104, 97, 100, 32]⟩ : ByteArray)) ++ ((rd_T25 x0 x6).f0)) ++ (⟨#[32]⟩ : ByteArray)) ++ t292) ++ (⟨#[10]⟩ : ByteArray)) (wrap64 (x6 + 1))) else (none)) else (none))) else (none)) else (none)) else (none))) else (none)) else (if x5.size + 7 ≤ 9223372036854775807 then ((cippusref07_digit.f (x0.length : Int)).bind fun t293 => (if (x5 ++ (⟨#[99, 111, 112, 105, 101, 115, 32]⟩ : ByteArray)).size + t293.size ≤ 9223372036854775807 then (if ((x5 ++ (⟨#[99, 111, 112, 105, 101, 115, 32]⟩ : ByteArray)) ++ t293).size + 1 ≤ 9223372036854775807 then (some (((x5 ++ (⟨#[99, 111, 112, 105, 101, 115, 32]⟩ : ByteArray)) ++ t293) ++ (⟨#[10]⟩ : ByteArray), 0)) else (none)) else (none))) else (none))
def cippusref07_Write.f (k : Nat) (l0 : List (S25)) : Option (ByteArray × Int) := (cippusref07_Check.f k l0).bind fun t283 => (if t283 = 0 then (if 0 < (l0.length : Int) then ((cippusref07_digit.f (((rd_T25 l0 0).f0).size : Int)).bind fun t285 => (if 7 + t285.size ≤ 9223372036854775807 then (if ((⟨#[112, 108, 97, 99, 101, 115, 32]⟩ : ByteArray) ++ t285).size + 1 ≤ 9223372036854775807 then (cippusref07_Write.l0 k l0 (((⟨#[112, 108, 97, 99, 101, 115, 32]⟩ : ByteArray) ++ t285) ++ (⟨#[10]⟩ : ByteArray)) 0) else (none)) else (none))) else (none)) else (some ((⟨#[]⟩ : ByteArray), t283)))
def cippusref07_Write.T11 : Bool × List (List Nat × List Nat) := (true, [([], []), ([], []), ([0, 1], [0, 1]), ([], []), ([], []), ([3, 4], [3, 4]), ([5], [5]), ([6], [6]), ([2, 7], [2, 7]), ([8], [8]), ([], []), ([], []), ([10, 11], [10, 11]), ([12], [12]), ([13], [13]), ([14], [14]), ([9, 15], [9, 15]), ([16], [16]), ([17, 15, 0, 1, 2, 3, 4, 5, 6, 7, 8, 9, 10, 11, 12, 13, 14, 15, 16, 17], [0, 17])])
def cippusref07_Write.B11 : List Nat := [0, 0, 3, 0, 0, 24, 56, 120, 255, 511, 0, 0, 3072, 7168, 15360, 31744, 65535, 131071, 262143]
theorem cippusref07_Write.tab11 : rtab .any (opsOf Tryd.f19 11) = cippusref07_Write.T11 := by kernel_rfl
theorem cippusref07_Write.bits11 : waitsOk cippusref07_Write.T11.2 cippusref07_Write.B11 = true := by kernel_rfl
set_option maxHeartbeats 8000000 in
set_option maxRecDepth 100000 in
theorem cippusref07_Write.calls (k : Nat) (A0 : Option Addr) (c0 : Nat) (l0 : List (S25)) (r1 : ByteArray) (r2 : Int) (w : World) (hr0 : Kd.C k25 w A0 l0.length l0) (hc0 : l0.length ≤ c0) (h : cippusref07_Write.f k l0 = some (r1, r2)) :
    Calls Tryd.prog 19 #[.slice A0 l0.length c0] w fun e w' => e = .returned (.tuple #[.string r1, .int .i64 r2]) ∧ Below w.heap.size w w' := by
  have HR0 := Aside0.mk hr0
  have HC0 := Aside0.mk hc0
  clear hr0 hc0
  have HB := Aside0.mk (Below.refl w.heap.size w)
  have H : ((cippusref07_Check.f k l0).bind fun t283 => (if t283 = 0 then (if 0 < (l0.length : Int) then ((cippusref07_digit.f (((rd_T25 l0 0).f0).size : Int)).bind fun t285 => (if 7 + t285.size ≤ 9223372036854775807 then (if ((⟨#[112, 108, 97, 99, 101, 115, 32]⟩ : ByteArray) ++ t285).size + 1 ≤ 9223372036854775807 then (cippusref07_Write.l0 k l0 (((⟨#[112, 108, 97, 99, 101, 115, 32]⟩ : ByteArray) ++ t285) ++ (⟨#[10]⟩ : ByteArray)) 0) else (none)) else (none))) else (none)) else (some ((⟨#[]⟩ : ByteArray), t283)))) = some (r1, r2) := h
  clear h
  replace H := Option.bind_eq_some_iff.mp H
  obtain ⟨t283, A20, H⟩ := H
  replace H : (if t283 = 0 then (if 0 < (l0.length : Int) then ((cippusref07_digit.f (((rd_T25 l0 0).f0).size : Int)).bind fun t285 => (if 7 + t285.size ≤ 9223372036854775807 then (if ((⟨#[112, 108, 97, 99, 101, 115, 32]⟩ : ByteArray) ++ t285).size + 1 ≤ 9223372036854775807 then (cippusref07_Write.l0 k l0 (((⟨#[112, 108, 97, 99, 101, 115, 32]⟩ : ByteArray) ++ t285) ++ (⟨#[10]⟩ : ByteArray)) 0) else (none)) else (none))) else (none)) else (some ((⟨#[]⟩ : ByteArray), t283))) = some (r1, r2) := H
  have A2 := Aside0.mk A20
  clear A20
  by_cases c3 : t283 = 0
  · rw [if_pos c3] at H
    have c3b0 : (t283 == 0) = true := beq_iff_eq.mpr c3
    have c3b1 : (t283 != 0) = false := bne_eq_false_iff_eq.mpr c3
    clear c3
    by_cases c4 : 0 < (l0.length : Int)
    · rw [if_pos c4] at H
      have c4b0 : decide (0 < (l0.length : Int)) = true := decide_eq_true c4
      have c4b1 : decide (0 < l0.length) = true := decide_eq_true (by omega)
      clear c4
      replace H := Option.bind_eq_some_iff.mp H
      obtain ⟨t285, A50, H⟩ := H
      replace H : (if 7 + t285.size ≤ 9223372036854775807 then (if ((⟨#[112, 108, 97, 99, 101, 115, 32]⟩ : ByteArray) ++ t285).size + 1 ≤ 9223372036854775807 then (cippusref07_Write.l0 k l0 (((⟨#[112, 108, 97, 99, 101, 115, 32]⟩ : ByteArray) ++ t285) ++ (⟨#[10]⟩ : ByteArray)) 0) else (none)) else (none)) = some (r1, r2) := H
      have A5 := Aside0.mk A50
      clear A50
      by_cases c6 : 7 + t285.size ≤ 9223372036854775807
      · rw [if_pos c6] at H
        have c6b0 := eq_true c6
        have c6b1 : decide (7 + t285.size ≤ 9223372036854775807) = true := decide_eq_true c6
        try have c6b2 : (9223372036854775807 < 7 + t285.size) = False := eq_false (Nat.not_lt.2 c6)
        by_cases c7 : ((⟨#[112, 108, 97, 99, 101, 115, 32]⟩ : ByteArray) ++ t285).size + 1 ≤ 9223372036854775807
        · rw [if_pos c7] at H
          have c7b0 := eq_true c7
          have c7b1 : decide (((⟨#[112, 108, 97, 99, 101, 115, 32]⟩ : ByteArray) ++ t285).size + 1 ≤ 9223372036854775807) = true := decide_eq_true c7
          try have c7b2 : (9223372036854775807 < ((⟨#[112, 108, 97, 99, 101, 115, 32]⟩ : ByteArray) ++ t285).size + 1) = False := eq_false (Nat.not_lt.2 c7)
          try (have c7b8 := c7b2; simp only [ByteArray.size_append, show (⟨#[112, 108, 97, 99, 101, 115, 32]⟩ : ByteArray).size = 7 from rfl,  Nat.reduceAdd] at c7b8)
          have H' := Aside0.mk H
          clear H
          go_enter Tryd.func19, Tryd.ntmps19
          go_wp2_with (first | ((with_reducible refine gate_callee (f := 43) rfl ?_); refine goesL_ (some 9) rfl rfl Tryd.func43 (by kernel_rfl) rfl #[.slice A0 l0.length c0] rfl (by (try simp only [List.map_toArray, List.map_cons, List.map_nil]); first | done | rfl | (simp only [List.length_drop, List.length_take]; rfl)) ?_; (with_reducible refine (cippusref07_Check.calls k _ _ l0 t283 _ ?side1 ?side2 A2.out).mono ?_); (case side1 => repeat (first | exact HR0.out | (with_reducible refine Kd.C_alloc ?_ _) | (with_reducible refine Kd.C_drewN ?_ _) | (with_reducible refine Kd.C_drew ?_))); (case side2 => exact HC0.out); rintro e w' ⟨rfl, ⟨nd, rfl⟩⟩; refine ⟨_, rfl, ?_⟩; have p284 : 0 ≤ (0 : Int) := (by omega); have q284 : 0 < (l0.length : Int) := of_decide_eq_true (by first | (with_reducible assumption) | assumption); obtain ⟨ad284, e284, hx284_0, hx284_1, hx284_2⟩ := at_T25 HR0.out 0 p284 q284; cases e284; have qi284 : (0 < l0.length) = True := eq_true (by omega); (try rw [show ((0 : Int)).toNat = 0 from rfl] at hx284_0); (try rw [show 0 * 3 = 0 from rfl] at hx284_0); (try rw [Addr.add_zero'] at hx284_0); (try rw [show ((0 : Int)).toNat = 0 from rfl] at hx284_1); (try rw [show 0 * 3 = 0 from rfl] at hx284_1); (try rw [Addr.add_zero'] at hx284_1); (try rw [show ((0 : Int)).toNat = 0 from rfl] at hx284_2); (try rw [show 0 * 3 = 0 from rfl] at hx284_2); (try rw [Addr.add_zero'] at hx284_2); replace p284 := eq_true p284; replace q284 := eq_true q284) | ((with_reducible refine gate_callee (f := 44) rfl ?_); refine goesL_ (some 18) rfl rfl Tryd.func44 (by kernel_rfl) rfl #[.int .i64 (((rd_T25 l0 0).f0).size : Int)] rfl (by (try simp only [List.map_toArray, List.map_cons, List.map_nil]); first | done | rfl | (simp only [List.length_drop, List.length_take]; rfl)) ?_; (with_reducible refine (cippusref07_digit.calls (((rd_T25 l0 0).f0).size : Int) t285 _ A5.out).mono ?_); rintro e w8 ⟨rfl, hb⟩; refine ⟨_, rfl, ?_⟩; have n0_ := Aside0.mk (below_step (by repeat (first | (with_reducible first | exact HB.out | apply below_alloc | apply pw_below_drewN | apply below_drew1) | exact HB.out)) hb); clear HB; have HB := n0_; clear n0_; (try clear hb); (try clear hb2); (try clear hk); (try clear hi)))
          go_loopg [5, 6] k (fun kq v5 v6 w' => ∃ (x5_1 : ByteArray) (x6_1 : Int), v5 = .string x5_1 ∧ v6 = .int .i64 x6_1 ∧ Aside0 (cippusref07_Write.l0 kq l0 x5_1 x6_1 = some (r1, r2)) ∧ Aside0 (kq ≤ k) ∧ Aside0 (Below w.heap.size w w'))
          case atStart => exact ⟨(((⟨#[112, 108, 97, 99, 101, 115, 32]⟩ : ByteArray) ++ t285) ++ (⟨#[10]⟩ : ByteArray)), (0), (by first | rfl | (simp; done) | (simp [*]; done)), (by first | rfl | (simp; done) | (simp [*]; done)), H', ⟨Nat.le_refl _⟩, ⟨by repeat (first | (with_reducible first | exact HB.out | apply below_alloc | apply pw_below_drewN | apply below_drew1) | exact HB.out)⟩⟩
          case round =>
            clear H'
            try clear c1
            try clear p2
            try clear q2
            try clear hx2
            try clear qi2
            try clear c3
            try clear c3b0
            try clear c3b1
            try clear c4
            try clear c4b0
            try clear c4b1
            try clear c6
            try clear c6b0
            try clear c6b1
            try clear c6b2
            try clear c7
            try clear c7b0
            try clear c7b1
            try clear c7b2
            try clear hx284_0
            try clear hx284_1
            try clear hx284_2
            try clear p284
            try clear q284
            obtain ⟨x5_1, x6_1, rfl, rfl, HA, HK1, HB⟩ := hrel
            cases gk with
            | zero => exact absurd HA.out (by simp [cippusref07_Write.l0])
            | succ k1 =>
              have H := HA.out
              clear HA
              simp only [cippusref07_Write.l0] at H
              by_cases c9 : x6_1 < (l0.length : Int)
              · rw [if_pos c9] at H
                have c9b0 : decide (x6_1 < (l0.length : Int)) = true := decide_eq_true c9
                clear c9
                by_cases c10 : 0 ≤ x6_1
                · rw [if_pos c10] at H
                  have c10b0 : decide (0 ≤ x6_1) = true := decide_eq_true c10
                  clear c10
                  obtain ⟨bq11, hbq11⟩ : ∃ b_ : Bool, b_ = ((rd_T25 l0 x6_1).f2) := ⟨_, rfl⟩
                  replace H : (if bq11 = true then (if x5_1.size + 4 ≤ 9223372036854775807 then (if (x5_1 ++ (⟨#[115, 97, 119, 32]⟩ : ByteArray)).size + ((rd_T25 l0 x6_1).f0).size ≤ 9223372036854775807 then (if ((x5_1 ++ (⟨#[115, 97, 119, 32]⟩ : ByteArray)) ++ ((rd_T25 l0 x6_1).f0)).size + 1 ≤ 9223372036854775807 then ((cippusref07_digit.f ((rd_T25 l0 x6_1).f1)).bind fun t289 => (if (((x5_1 ++ (⟨#[115, 97, 119, 32]⟩ : ByteArray)) ++ ((rd_T25 l0 x6_1).f0)) ++ (⟨#[32]⟩ : ByteArray)).size + t289.size ≤ 9223372036854775807 then (if ((((x5_1 ++ (⟨#[115, 97, 119, 32]⟩ : ByteArray)) ++ ((rd_T25 l0 x6_1).f0)) ++ (⟨#[32]⟩ : ByteArray)) ++ t289).size + 1 ≤ 9223372036854775807 then (cippusref07_Write.l0 k1 l0 (((((x5_1 ++ (⟨#[115, 97, 119, 32]⟩ : ByteArray)) ++ ((rd_T25 l0 x6_1).f0)) ++ (⟨#[32]⟩ : ByteArray)) ++ t289) ++ (⟨#[10]⟩ : ByteArray)) (wrap64 (x6_1 + 1))) else (none)) else (none))) else (none)) else (none)) else (none)) else (if x5_1.size + 4 ≤ 9223372036854775807 then (if (x5_1 ++ (⟨#[104, 97, 100, 32]⟩ : ByteArray)).size + ((rd_T25 l0 x6_1).f0).size ≤ 9223372036854775807 then (if ((x5_1 ++ (⟨#[104, 97, 100, 32]⟩ : ByteArray)) ++ ((rd_T25 l0 x6_1).f0)).size + 1 ≤ 9223372036854775807 then ((cippusref07_digit.f ((rd_T25 l0 x6_1).f1)).bind fun t292 => (if (((x5_1 ++ (⟨#[104, 97, 100, 32]⟩ : ByteArray)) ++ ((rd_T25 l0 x6_1).f0)) ++ (⟨#[32]⟩ : ByteArray)).size + t292.size ≤ 9223372036854775807 then (if ((((x5_1 ++ (⟨#[104, 97, 100, 32]⟩ : ByteArray)) ++ ((rd_T25 l0 x6_1).f0)) ++ (⟨#[32]⟩ : ByteArray)) ++ t292).size + 1 ≤ 9223372036854775807 then (cippusref07_Write.l0 k1 l0 (((((x5_1 ++ (⟨#[104, 97, 100, 32]⟩ : ByteArray)) ++ ((rd_T25 l0 x6_1).f0)) ++ (⟨#[32]⟩ : ByteArray)) ++ t292) ++ (⟨#[10]⟩ : ByteArray)) (wrap64 (x6_1 + 1))) else (none)) else (none))) else (none)) else (none)) else (none))) = some (r1, r2) := by rw [← hbq11] at H; exact H
                  have Nbq11 := Aside0.mk hbq11
                  clear hbq11
                  by_cases c12 : bq11 = true
                  · subst c12
                    have H1 : (if x5_1.size + 4 ≤ 9223372036854775807 then (if (x5_1 ++ (⟨#[115, 97, 119, 32]⟩ : ByteArray)).size + ((rd_T25 l0 x6_1).f0).size ≤ 9223372036854775807 then (if ((x5_1 ++ (⟨#[115, 97, 119, 32]⟩ : ByteArray)) ++ ((rd_T25 l0 x6_1).f0)).size + 1 ≤ 9223372036854775807 then ((cippusref07_digit.f ((rd_T25 l0 x6_1).f1)).bind fun t289 => (if (((x5_1 ++ (⟨#[115, 97, 119, 32]⟩ : ByteArray)) ++ ((rd_T25 l0 x6_1).f0)) ++ (⟨#[32]⟩ : ByteArray)).size + t289.size ≤ 9223372036854775807 then (if ((((x5_1 ++ (⟨#[115, 97, 119, 32]⟩ : ByteArray)) ++ ((rd_T25 l0 x6_1).f0)) ++ (⟨#[32]⟩ : ByteArray)) ++ t289).size + 1 ≤ 9223372036854775807 then (cippusref07_Write.l0 k1 l0 (((((x5_1 ++ (⟨#[115, 97, 119, 32]⟩ : ByteArray)) ++ ((rd_T25 l0 x6_1).f0)) ++ (⟨#[32]⟩ : ByteArray)) ++ t289) ++ (⟨#[10]⟩ : ByteArray)) (wrap64 (x6_1 + 1))) else (none)) else (none))) else (none)) else (none)) else (none)) = some (r1, r2) := by rw [if_pos rfl] at H; exact H
                    clear H
                    have H := H1
                    clear H1
                    by_cases c13 : x5_1.size + 4 ≤ 9223372036854775807
                    · rw [if_pos c13] at H
                      have c13b0 := eq_true c13
                      have c13b1 : decide (x5_1.size + 4 ≤ 9223372036854775807) = true := decide_eq_true c13
                      try have c13b2 : (9223372036854775807 < x5_1.size + 4) = False := eq_false (Nat.not_lt.2 c13)
                      by_cases c14 : (x5_1 ++ (⟨#[115, 97, 119, 32]⟩ : ByteArray)).size + ((rd_T25 l0 x6_1).f0).size ≤ 9223372036854775807
                      · rw [if_pos c14] at H
                        have c14b0 := eq_true c14
                        have c14b1 : decide ((x5_1 ++ (⟨#[115, 97, 119, 32]⟩ : ByteArray)).size + ((rd_T25 l0 x6_1).f0).size ≤ 9223372036854775807) = true := decide_eq_true c14
                        try have c14b2 : (9223372036854775807 < (x5_1 ++ (⟨#[115, 97, 119, 32]⟩ : ByteArray)).size + ((rd_T25 l0 x6_1).f0).size) = False := eq_false (Nat.not_lt.2 c14)
                        try (have c14b8 := c14b2; simp only [ByteArray.size_append, show (⟨#[115, 97, 119, 32]⟩ : ByteArray).size = 4 from rfl,  Nat.reduceAdd] at c14b8)
                        by_cases c15 : ((x5_1 ++ (⟨#[115, 97, 119, 32]⟩ : ByteArray)) ++ ((rd_T25 l0 x6_1).f0)).size + 1 ≤ 9223372036854775807
                        · rw [if_pos c15] at H
                          have c15b0 := eq_true c15
                          have c15b1 : decide (((x5_1 ++ (⟨#[115, 97, 119, 32]⟩ : ByteArray)) ++ ((rd_T25 l0 x6_1).f0)).size + 1 ≤ 9223372036854775807) = true := decide_eq_true c15
                          try have c15b2 : (9223372036854775807 < ((x5_1 ++ (⟨#[115, 97, 119, 32]⟩ : ByteArray)) ++ ((rd_T25 l0 x6_1).f0)).size + 1) = False := eq_false (Nat.not_lt.2 c15)
                          try (have c15b8 := c15b2; simp only [ByteArray.size_append, show (⟨#[115, 97, 119, 32]⟩ : ByteArray).size = 4 from rfl,  Nat.reduceAdd] at c15b8)
                          replace H := Option.bind_eq_some_iff.mp H
                          obtain ⟨t289, A160, H⟩ := H
                          replace H : (if (((x5_1 ++ (⟨#[115, 97, 119, 32]⟩ : ByteArray)) ++ ((rd_T25 l0 x6_1).f0)) ++ (⟨#[32]⟩ : ByteArray)).size + t289.size ≤ 9223372036854775807 then (if ((((x5_1 ++ (⟨#[115, 97, 119, 32]⟩ : ByteArray)) ++ ((rd_T25 l0 x6_1).f0)) ++ (⟨#[32]⟩ : ByteArray)) ++ t289).size + 1 ≤ 9223372036854775807 then (cippusref07_Write.l0 k1 l0 (((((x5_1 ++ (⟨#[115, 97, 119, 32]⟩ : ByteArray)) ++ ((rd_T25 l0 x6_1).f0)) ++ (⟨#[32]⟩ : ByteArray)) ++ t289) ++ (⟨#[10]⟩ : ByteArray)) (wrap64 (x6_1 + 1))) else (none)) else (none)) = some (r1, r2) := H
                          have A16 := Aside0.mk A160
                          clear A160
                          by_cases c17 : (((x5_1 ++ (⟨#[115, 97, 119, 32]⟩ : ByteArray)) ++ ((rd_T25 l0 x6_1).f0)) ++ (⟨#[32]⟩ : ByteArray)).size + t289.size ≤ 9223372036854775807
                          · rw [if_pos c17] at H
                            have c17b0 := eq_true c17
                            have c17b1 : decide ((((x5_1 ++ (⟨#[115, 97, 119, 32]⟩ : ByteArray)) ++ ((rd_T25 l0 x6_1).f0)) ++ (⟨#[32]⟩ : ByteArray)).size + t289.size ≤ 9223372036854775807) = true := decide_eq_true c17
                            try have c17b2 : (9223372036854775807 < (((x5_1 ++ (⟨#[115, 97, 119, 32]⟩ : ByteArray)) ++ ((rd_T25 l0 x6_1).f0)) ++ (⟨#[32]⟩ : ByteArray)).size + t289.size) = False := eq_false (Nat.not_lt.2 c17)
                            try (have c17b8 := c17b2; simp only [ByteArray.size_append, show (⟨#[115, 97, 119, 32]⟩ : ByteArray).size = 4 from rfl, show (⟨#[32]⟩ : ByteArray).size = 1 from rfl,  Nat.reduceAdd] at c17b8)
                            by_cases c18 : ((((x5_1 ++ (⟨#[115, 97, 119, 32]⟩ : ByteArray)) ++ ((rd_T25 l0 x6_1).f0)) ++ (⟨#[32]⟩ : ByteArray)) ++ t289).size + 1 ≤ 9223372036854775807
                            · rw [if_pos c18] at H
                              have c18b0 := eq_true c18
                              have c18b1 : decide (((((x5_1 ++ (⟨#[115, 97, 119, 32]⟩ : ByteArray)) ++ ((rd_T25 l0 x6_1).f0)) ++ (⟨#[32]⟩ : ByteArray)) ++ t289).size + 1 ≤ 9223372036854775807) = true := decide_eq_true c18
                              try have c18b2 : (9223372036854775807 < ((((x5_1 ++ (⟨#[115, 97, 119, 32]⟩ : ByteArray)) ++ ((rd_T25 l0 x6_1).f0)) ++ (⟨#[32]⟩ : ByteArray)) ++ t289).size + 1) = False := eq_false (Nat.not_lt.2 c18)
                              try (have c18b8 := c18b2; simp only [ByteArray.size_append, show (⟨#[115, 97, 119, 32]⟩ : ByteArray).size = 4 from rfl, show (⟨#[32]⟩ : ByteArray).size = 1 from rfl,  Nat.reduceAdd] at c18b8)
                              have H' := Aside0.mk H
                              clear H
                              have p286 : 0 ≤ (x6_1 : Int) := of_decide_eq_true (by first | (with_reducible assumption) | assumption)
                              have q286 : x6_1 < (l0.length : Int) := of_decide_eq_true (by first | (with_reducible assumption) | assumption)
                              obtain ⟨ad286, e286, hx286_0, hx286_1, hx286_2⟩ := at_T25 HR0.out x6_1 p286 q286
                              (try rw [← Nbq11.out] at hx286_2); (try rw [← Nbq11.out] at hw286_2)
                              obtain rfl : ad284 = ad286 := (by injection e286)
                              try replace hx286_0 := (HB.out.cell (World.block_lt_of_cell? w _ hx286_0)).trans hx286_0
                              try replace hx286_1 := (HB.out.cell (World.block_lt_of_cell? w _ hx286_1)).trans hx286_1
                              try replace hx286_2 := (HB.out.cell (World.block_lt_of_cell? w _ hx286_2)).trans hx286_2
                              replace p286 := eq_true p286
                              replace q286 := eq_true q286
                              try go_wp2
                              have n0_ := Aside0.mk (below_drew1 HB.out)
                              clear HB
                              have HB := n0_
                              clear n0_
                              have p287 : 0 ≤ (x6_1 : Int) := of_decide_eq_true (by first | (with_reducible assumption) | assumption)
                              have q287 : x6_1 < (l0.length : Int) := of_decide_eq_true (by first | (with_reducible assumption) | assumption)
                              obtain ⟨ad287, e287, hx287_0, hx287_1, hx287_2⟩ := at_T25 HR0.out x6_1 p287 q287
                              have hw287_2 := hx287_2
                              have hw287_1 := hx287_1
                              have hw287_0 := hx287_0
                              (try rw [← Nbq11.out] at hx287_2); (try rw [← Nbq11.out] at hw287_2)
                              obtain rfl : ad284 = ad287 := (by injection e287)
                              try replace hx287_0 := (HB.out.cell (World.block_lt_of_cell? w _ hx287_0)).trans hx287_0
                              try replace hx287_1 := (HB.out.cell (World.block_lt_of_cell? w _ hx287_1)).trans hx287_1
                              try replace hx287_2 := (HB.out.cell (World.block_lt_of_cell? w _ hx287_2)).trans hx287_2
                              replace p287 := eq_true p287
                              replace q287 := eq_true q287
                              have p288 : 0 ≤ (x6_1 : Int) := of_decide_eq_true (by first | (with_reducible assumption) | assumption)
                              have q288 : x6_1 < (l0.length : Int) := of_decide_eq_true (by first | (with_reducible assumption) | assumption)
                              obtain ⟨ad288, e288, hx288_0, hx288_1, hx288_2⟩ := at_T25 HR0.out x6_1 p288 q288
                              have hw288_2 := hx288_2
                              have hw288_1 := hx288_1
                              have hw288_0 := hx288_0
                              (try rw [← Nbq11.out] at hx288_2); (try rw [← Nbq11.out] at hw288_2)
                              obtain rfl : ad284 = ad288 := (by injection e288)
                              try replace hx288_0 := (HB.out.cell (World.block_lt_of_cell? w _ hx288_0)).trans hx288_0
                              try replace hx288_1 := (HB.out.cell (World.block_lt_of_cell? w _ hx288_1)).trans hx288_1
                              try replace hx288_2 := (HB.out.cell (World.block_lt_of_cell? w _ hx288_2)).trans hx288_2
                              replace p288 := eq_true p288
                              replace q288 := eq_true q288
                              refine start_ (n := 19) (S := fun w' => w'.cell? (ad284.add ((x6_1).toNat * 3)) = some (.string ((rd_T25 l0 x6_1).f0)) ∧ w'.cell? ⟨(ad284.add ((x6_1).toNat * 3)).block, (ad284.add ((x6_1).toNat * 3)).off + 1, none⟩ = some (.int .i64 ((rd_T25 l0 x6_1).f1)) ∧ w'.cell? ⟨(ad284.add ((x6_1).toNat * 3)).block, (ad284.add ((x6_1).toNat * 3)).off + 2, none⟩ = some (.bool (true)) ∧ w'.cell? (ad284.add ((x6_1).toNat * 3)) = some (.string ((rd_T25 l0 x6_1).f0)) ∧ w'.cell? ⟨(ad284.add ((x6_1).toNat * 3)).block, (ad284.add ((x6_1).toNat * 3)).off + 1, none⟩ = some (.int .i64 ((rd_T25 l0 x6_1).f1)) ∧ w'.cell? ⟨(ad284.add ((x6_1).toNat * 3)).block, (ad284.add ((x6_1).toNat * 3)).off + 2, none⟩ = some (.bool (true))) (ds := []) #[false, false, false, false, false, false, false, false, false, false, false, false, false, false, false, false, false, false, false] (by kernel_rfl) rfl rfl ⟨((HB.out.cell (World.block_lt_of_cell? w _ hw287_0)).trans hw287_0), ((HB.out.cell (World.block_lt_of_cell? w _ hw287_1)).trans hw287_1), ((HB.out.cell (World.block_lt_of_cell? w _ hw287_2)).trans hw287_2), ((HB.out.cell (World.block_lt_of_cell? w _ hw288_0)).trans hw288_0), ((HB.out.cell (World.block_lt_of_cell? w _ hw288_1)).trans hw288_1), ((HB.out.cell (World.block_lt_of_cell? w _ hw288_2)).trans hw288_2)⟩ (fun hHeld => ?_); refine with_tabW cippusref07_Write.tab11 cippusref07_Write.bits11 (fun HT_ HW_ => ?_)
                              generalize wr.drew = w19 at HB hx287_0 hx287_1 hx287_2 hx288_0 hx288_1 hx288_2 hHeld ⊢
                              refine pure_ (i := 0) (N := some 32) (v := ?_) (a' := ?_) #[true, false, false, false, false, false, false, false, false, false, false, false, false, false, false, false, false, false, false] rfl rfl (any_of HT_.out (by kernel_rfl)) (fun _ _ _ h => h) (Or.inl ⟨by rfl, ?_⟩) ?_ ?_
                              rotate_left
                              · intro w'
                                go_simp
                                with_reducible rfl
                              rotate_left
                              · simp only [Act.put, List.setIfInBounds_toArray, List.set_cons_zero, List.set_cons_succ, i64_w, i32_w]
                                rfl
                              refine pure_ (i := 1) (N := some 33) (v := ?_) (a' := ?_) #[true, true, false, false, false, false, false, false, false, false, false, false, false, false, false, false, false, false, false] rfl rfl (any_of HT_.out (by kernel_rfl)) (fun _ _ _ h => h) (Or.inl ⟨by rfl, ?_⟩) ?_ ?_
                              rotate_left
                              · intro w'
                                go_simp
                                with_reducible rfl
                              rotate_left
                              · simp only [Act.put, List.setIfInBounds_toArray, List.set_cons_zero, List.set_cons_succ, i64_w, i32_w]
                                rfl
                              refine pure_ (i := 2) (N := some 34) (v := ?_) (a' := ?_) #[true, true, true, false, false, false, false, false, false, false, false, false, false, false, false, false, false, false, false] rfl rfl (any_of HT_.out (by kernel_rfl)) (fun _ _ _ h => h) (Or.inl ⟨by rfl, ?_⟩) ?_ ?_
                              rotate_left
                              · intro w'
                                go_simp
                                with_reducible rfl
                              rotate_left
                              · simp only [Act.put, List.setIfInBounds_toArray, List.set_cons_zero, List.set_cons_succ, i64_w, i32_w]
                                rfl
                              refine pure_ (i := 3) (N := some 35) (v := ?_) (a' := ?_) #[true, true, true, true, false, false, false, false, false, false, false, false, false, false, false, false, false, false, false] rfl rfl (any_of HT_.out (by kernel_rfl)) (fun _ _ _ h => h) (Or.inl ⟨by rfl, ?_⟩) ?_ ?_
                              rotate_left
                              · intro w'
                                go_simp
                                with_reducible rfl
                              rotate_left
                              · simp only [Act.put, List.setIfInBounds_toArray, List.set_cons_zero, List.set_cons_succ, i64_w, i32_w]
                                rfl
                              refine pure_ (i := 4) (N := some 36) (v := ?_) (a' := ?_) #[true, true, true, true, true, false, false, false, false, false, false, false, false, false, false, false, false, false, false] rfl rfl (any_of HT_.out (by kernel_rfl)) (fun _ _ _ h => h) (Or.inl ⟨by rfl, ?_⟩) ?_ ?_
                              rotate_left
                              · intro w'
                                go_simp
                                with_reducible rfl
                              rotate_left
                              · simp only [Act.put, List.setIfInBounds_toArray, List.set_cons_zero, List.set_cons_succ, i64_w, i32_w]
                                rfl
                              refine pure_ (i := 5) (N := some 37) (v := ?_) (a' := ?_) #[true, true, true, true, true, true, false, false, false, false, false, false, false, false, false, false, false, false, false] rfl rfl (any_of HT_.out (by kernel_rfl)) (fun _ _ _ h => h) (Or.inl ⟨by rfl, ?_⟩) ?_ ?_
                              rotate_left
                              · intro w'
                                go_simp
                                with_reducible rfl
                              rotate_left
                              · simp only [Act.put, List.setIfInBounds_toArray, List.set_cons_zero, List.set_cons_succ, i64_w, i32_w]
                                rfl
                              refine pure_ (i := 6) (N := some 38) (v := ?_) (a' := ?_) #[true, true, true, true, true, true, true, false, false, false, false, false, false, false, false, false, false, false, false] rfl rfl (any_of HT_.out (by kernel_rfl)) (fun _ _ _ h => h) (Or.inl ⟨by rfl, ?_⟩) ?_ ?_
                              rotate_left
                              · intro w'
                                go_simp
                                with_reducible rfl
                              rotate_left
                              · simp only [Act.put, List.setIfInBounds_toArray, List.set_cons_zero, List.set_cons_succ, i64_w, i32_w]
                                rfl
                              refine pure_ (i := 10) (N := some 42) (v := ?_) (a' := ?_) #[true, true, true, true, true, true, true, false, false, false, true, false, false, false, false, false, false, false, false] rfl rfl (any_of HT_.out (by kernel_rfl)) (fun _ _ _ h => h) (Or.inl ⟨by rfl, ?_⟩) ?_ ?_
                              rotate_left
                              · intro w'
                                go_simp
                                with_reducible rfl
                              rotate_left
                              · simp only [Act.put, List.setIfInBounds_toArray, List.set_cons_zero, List.set_cons_succ, i64_w, i32_w]
                                rfl
                              refine pure_ (i := 11) (N := some 43) (v := ?_) (a' := ?_) #[true, true, true, true, true, true, true, false, false, false, true, true, false, false, false, false, false, false, false] rfl rfl (any_of HT_.out (by kernel_rfl)) (fun _ _ _ h => h) (Or.inl ⟨by rfl, ?_⟩) ?_ ?_
                              rotate_left
                              · intro w'
                                go_simp
                                with_reducible rfl
                              rotate_left
                              · simp only [Act.put, List.setIfInBounds_toArray, List.set_cons_zero, List.set_cons_succ, i64_w, i32_w]
                                rfl
                              refine pure_ (i := 12) (N := some 44) (v := ?_) (a' := ?_) #[true, true, true, true, true, true, true, false, false, false, true, true, true, false, false, false, false, false, false] rfl rfl (any_of HT_.out (by kernel_rfl)) (fun _ _ _ h => h) (Or.inl ⟨by rfl, ?_⟩) ?_ ?_
                              rotate_left
                              · intro w'
                                go_simp
                                with_reducible rfl
                              rotate_left
                              · simp only [Act.put, List.setIfInBounds_toArray, List.set_cons_zero, List.set_cons_succ, i64_w, i32_w]
                                rfl
                              refine pure_ (i := 13) (N := some 45) (v := ?_) (a' := ?_) #[true, true, true, true, true, true, true, false, false, false, true, true, true, true, false, false, false, false, false] rfl rfl (any_of HT_.out (by kernel_rfl)) (fun _ _ _ h => h) (Or.inl ⟨by rfl, ?_⟩) ?_ ?_
                              rotate_left
                              · intro w'
                                go_simp
                                with_reducible rfl
                              rotate_left
                              · simp only [Act.put, List.setIfInBounds_toArray, List.set_cons_zero, List.set_cons_succ, i64_w, i32_w]
                                rfl
                              refine take_ (i := 7) (N := some 39) (v := ?_) (a' := ?_) #[true, true, true, true, true, true, true, true, false, false, true, true, true, true, false, false, false, false, false] rfl rfl (take_ofW HT_.out HW_.out (by kernel_rfl)) (fun _ _ _ h => h) (Or.inl ⟨by rfl, ?_⟩) hHeld ?_ ?_
                              rotate_left
                              · rintro w' ⟨s0, s1, s2, s3, s4, s5⟩
                                go_simp
                                with_reducible rfl
                              rotate_left
                              · simp only [Act.put, List.setIfInBounds_toArray, List.set_cons_zero, List.set_cons_succ, i64_w, i32_w]
                                rfl
                              refine pure_ (i := 8) (N := some 40) (v := ?_) (a' := ?_) #[true, true, true, true, true, true, true, true, true, false, true, true, true, true, false, false, false, false, false] rfl rfl (any_of HT_.out (by kernel_rfl)) (fun _ _ _ h => h) (Or.inl ⟨by rfl, ?_⟩) ?_ ?_
                              rotate_left
                              · intro w'
                                go_simp
                                with_reducible rfl
                              rotate_left
                              · simp only [Act.put, List.setIfInBounds_toArray, List.set_cons_zero, List.set_cons_succ, i64_w, i32_w]
                                rfl
                              refine pure_ (i := 9) (N := some 41) (v := ?_) (a' := ?_) #[true, true, true, true, true, true, true, true, true, true, true, true, true, true, false, false, false, false, false] rfl rfl (any_of HT_.out (by kernel_rfl)) (fun _ _ _ h => h) (Or.inl ⟨by rfl, ?_⟩) ?_ ?_
                              rotate_left
                              · intro w'
                                go_simp
                                with_reducible rfl
                              rotate_left
                              · simp only [Act.put, List.setIfInBounds_toArray, List.set_cons_zero, List.set_cons_succ, i64_w, i32_w]
                                rfl
                              refine take_ (i := 14) (N := some 46) (v := ?_) (a' := ?_) #[true, true, true, true, true, true, true, true, true, true, true, true, true, true, true, false, false, false, false] rfl rfl (take_ofW HT_.out HW_.out (by kernel_rfl)) (fun _ _ _ h => h) (Or.inl ⟨by rfl, ?_⟩) hHeld ?_ ?_
                              rotate_left
                              · rintro w' ⟨s0, s1, s2, s3, s4, s5⟩
                                go_simp
                                with_reducible rfl
                              rotate_left
                              · simp only [Act.put, List.setIfInBounds_toArray, List.set_cons_zero, List.set_cons_succ, i64_w, i32_w]
                                rfl
                              refine one_ (i := 15) (N := some 47) #[true, true, true, true, true, true, true, true, true, true, true, true, true, true, true, true, false, false, false] rfl rfl (one_of HT_.out (by kernel_rfl)) (by decide) (fun K hK => ?_)
                              refine goes_ Tryd.func44 (by kernel_rfl) rfl #[.int .i64 ((rd_T25 l0 x6_1).f1)] (by rfl) rfl rfl (by (try simp only [List.map_toArray, List.map_cons, List.map_nil]); first | done | rfl | (simp only [List.length_drop, List.length_take]; rfl)) ?_
                              with_reducible refine (cippusref07_digit.calls ((rd_T25 l0 x6_1).f1) t289 _ A16.out).mono ?_
                              rintro e w20 ⟨rfl, hb⟩
                              refine ⟨_, rfl, ?_⟩
                              have n0_ := Aside0.mk (below_step (by repeat (first | (with_reducible first | exact HB.out | apply below_alloc | apply pw_below_drewN | apply below_drew1) | exact HB.out)) hb)
                              clear HB
                              have HB := n0_
                              clear n0_
                              (try clear hb)
                              (try clear hb2)
                              (try clear hk)
                              (try clear hi)
                              refine hK.out _ _ ⟨((HB.out.cell (World.block_lt_of_cell? w _ hw287_0)).trans hw287_0), ((HB.out.cell (World.block_lt_of_cell? w _ hw287_1)).trans hw287_1), ((HB.out.cell (World.block_lt_of_cell? w _ hw287_2)).trans hw287_2), ((HB.out.cell (World.block_lt_of_cell? w _ hw288_0)).trans hw288_0), ((HB.out.cell (World.block_lt_of_cell? w _ hw288_1)).trans hw288_1), ((HB.out.cell (World.block_lt_of_cell? w _ hw288_2)).trans hw288_2)⟩ (fun hHeld => ?_)
                              clear hK K
                              refine norm_ (a' := ?_) ?_ ?_
                              rotate_left
                              · show Act.put _ (some 47) _ = _
                                simp only [Act.put, List.setIfInBounds_toArray, List.set_cons_zero, List.set_cons_succ, i64_w, i32_w]
                                rfl
                              refine pure_ (i := 16) (N := some 48) (v := ?_) (a' := ?_) #[true, true, true, true, true, true, true, true, true, true, true, true, true, true, true, true, true, false, false] rfl rfl (any_of HT_.out (by kernel_rfl)) (fun _ _ _ h => h) (Or.inl ⟨by rfl, ?_⟩) ?_ ?_
                              rotate_left
                              · intro w'
                                go_simp
                                with_reducible rfl
                              rotate_left
                              · simp only [Act.put, List.setIfInBounds_toArray, List.set_cons_zero, List.set_cons_succ, i64_w, i32_w]
                                rfl
                              refine pure_ (i := 17) (N := some 49) (v := ?_) (a' := ?_) #[true, true, true, true, true, true, true, true, true, true, true, true, true, true, true, true, true, true, false] rfl rfl (any_of HT_.out (by kernel_rfl)) (fun _ _ _ h => h) (Or.inl ⟨by rfl, ?_⟩) ?_ ?_
                              rotate_left
                              · intro w'
                                go_simp
                                with_reducible rfl
                              rotate_left
                              · simp only [Act.put, List.setIfInBounds_toArray, List.set_cons_zero, List.set_cons_succ, i64_w, i32_w]
                                rfl
                              refine pure_ (i := 18) (N := some 5) (v := ?_) (a' := ?_) #[true, true, true, true, true, true, true, true, true, true, true, true, true, true, true, true, true, true, true] rfl rfl (any_of HT_.out (by kernel_rfl)) (fun _ _ _ h => h) (Or.inl ⟨by rfl, ?_⟩) ?_ ?_
                              rotate_left
                              · intro w'
                                go_simp
                                with_reducible rfl
                              rotate_left
                              · simp only [Act.put, List.setIfInBounds_toArray, List.set_cons_zero, List.set_cons_succ, i64_w, i32_w]
                                rfl
                              refine done_ (done_of HT_.out (by kernel_rfl)) ?_
                              try go_wp2
                              go_roundg k1
                              case measure => have := HK1.out; omega
                              case rel => exact ⟨(((((x5_1 ++ (⟨#[115, 97, 119, 32]⟩ : ByteArray)) ++ ((rd_T25 l0 x6_1).f0)) ++ (⟨#[32]⟩ : ByteArray)) ++ t289) ++ (⟨#[10]⟩ : ByteArray)), (wrap64 (x6_1 + 1)), (by first | rfl | (simp; done) | (simp [*]; done)), (by first | rfl | (simp; done) | (simp [*]; done)), H', ⟨by have := HK1.out; omega⟩, ⟨by repeat (first | (with_reducible first | exact HB.out | apply below_alloc | apply pw_below_drewN | apply below_drew1) | exact HB.out)⟩⟩
                            · rw [if_neg c18] at H
                              exact absurd H (by simp)
                          · rw [if_neg c17] at H
                            exact absurd H (by simp)
                        · rw [if_neg c15] at H
                          exact absurd H (by simp)
                      · rw [if_neg c14] at H
                        exact absurd H (by simp)
                    · rw [if_neg c13] at H
                      exact absurd H (by simp)
                  · replace c12 := Bool.eq_false_iff.mpr c12
                    subst c12
                    have H1 : (if x5_1.size + 4 ≤ 9223372036854775807 then (if (x5_1 ++ (⟨#[104, 97, 100, 32]⟩ : ByteArray)).size + ((rd_T25 l0 x6_1).f0).size ≤ 9223372036854775807 then (if ((x5_1 ++ (⟨#[104, 97, 100, 32]⟩ : ByteArray)) ++ ((rd_T25 l0 x6_1).f0)).size + 1 ≤ 9223372036854775807 then ((cippusref07_digit.f ((rd_T25 l0 x6_1).f1)).bind fun t292 => (if (((x5_1 ++ (⟨#[104, 97, 100, 32]⟩ : ByteArray)) ++ ((rd_T25 l0 x6_1).f0)) ++ (⟨#[32]⟩ : ByteArray)).size + t292.size ≤ 9223372036854775807 then (if ((((x5_1 ++ (⟨#[104, 97, 100, 32]⟩ : ByteArray)) ++ ((rd_T25 l0 x6_1).f0)) ++ (⟨#[32]⟩ : ByteArray)) ++ t292).size + 1 ≤ 9223372036854775807 then (cippusref07_Write.l0 k1 l0 (((((x5_1 ++ (⟨#[104, 97, 100, 32]⟩ : ByteArray)) ++ ((rd_T25 l0 x6_1).f0)) ++ (⟨#[32]⟩ : ByteArray)) ++ t292) ++ (⟨#[10]⟩ : ByteArray)) (wrap64 (x6_1 + 1))) else (none)) else (none))) else (none)) else (none)) else (none)) = some (r1, r2) := by rw [if_neg (show ¬ (false = true) by decide)] at H; exact H
                    clear H
                    have H := H1
                    clear H1
                    by_cases c21 : x5_1.size + 4 ≤ 9223372036854775807
                    · rw [if_pos c21] at H
                      have c21b0 := eq_true c21
                      have c21b1 : decide (x5_1.size + 4 ≤ 9223372036854775807) = true := decide_eq_true c21
                      try have c21b2 : (9223372036854775807 < x5_1.size + 4) = False := eq_false (Nat.not_lt.2 c21)
                      by_cases c22 : (x5_1 ++ (⟨#[104, 97, 100, 32]⟩ : ByteArray)).size + ((rd_T25 l0 x6_1).f0).size ≤ 9223372036854775807
                      · rw [if_pos c22] at H
                        have c22b0 := eq_true c22
                        have c22b1 : decide ((x5_1 ++ (⟨#[104, 97, 100, 32]⟩ : ByteArray)).size + ((rd_T25 l0 x6_1).f0).size ≤ 9223372036854775807) = true := decide_eq_true c22
                        try have c22b2 : (9223372036854775807 < (x5_1 ++ (⟨#[104, 97, 100, 32]⟩ : ByteArray)).size + ((rd_T25 l0 x6_1).f0).size) = False := eq_false (Nat.not_lt.2 c22)
                        try (have c22b8 := c22b2; simp only [ByteArray.size_append, show (⟨#[104, 97, 100, 32]⟩ : ByteArray).size = 4 from rfl,  Nat.reduceAdd] at c22b8)
                        by_cases c23 : ((x5_1 ++ (⟨#[104, 97, 100, 32]⟩ : ByteArray)) ++ ((rd_T25 l0 x6_1).f0)).size + 1 ≤ 9223372036854775807
                        · rw [if_pos c23] at H
                          have c23b0 := eq_true c23
                          have c23b1 : decide (((x5_1 ++ (⟨#[104, 97, 100, 32]⟩ : ByteArray)) ++ ((rd_T25 l0 x6_1).f0)).size + 1 ≤ 9223372036854775807) = true := decide_eq_true c23
                          try have c23b2 : (9223372036854775807 < ((x5_1 ++ (⟨#[104, 97, 100, 32]⟩ : ByteArray)) ++ ((rd_T25 l0 x6_1).f0)).size + 1) = False := eq_false (Nat.not_lt.2 c23)
                          try (have c23b8 := c23b2; simp only [ByteArray.size_append, show (⟨#[104, 97, 100, 32]⟩ : ByteArray).size = 4 from rfl,  Nat.reduceAdd] at c23b8)
                          replace H := Option.bind_eq_some_iff.mp H
                          obtain ⟨t292, A240, H⟩ := H
                          replace H : (if (((x5_1 ++ (⟨#[104, 97, 100, 32]⟩ : ByteArray)) ++ ((rd_T25 l0 x6_1).f0)) ++ (⟨#[32]⟩ : ByteArray)).size + t292.size ≤ 9223372036854775807 then (if ((((x5_1 ++ (⟨#[104, 97, 100, 32]⟩ : ByteArray)) ++ ((rd_T25 l0 x6_1).f0)) ++ (⟨#[32]⟩ : ByteArray)) ++ t292).size + 1 ≤ 9223372036854775807 then (cippusref07_Write.l0 k1 l0 (((((x5_1 ++ (⟨#[104, 97, 100, 32]⟩ : ByteArray)) ++ ((rd_T25 l0 x6_1).f0)) ++ (⟨#[32]⟩ : ByteArray)) ++ t292) ++ (⟨#[10]⟩ : ByteArray)) (wrap64 (x6_1 + 1))) else (none)) else (none)) = some (r1, r2) := H
                          have A24 := Aside0.mk A240
                          clear A240
                          by_cases c25 : (((x5_1 ++ (⟨#[104, 97, 100, 32]⟩ : ByteArray)) ++ ((rd_T25 l0 x6_1).f0)) ++ (⟨#[32]⟩ : ByteArray)).size + t292.size ≤ 9223372036854775807
                          · rw [if_pos c25] at H
                            have c25b0 := eq_true c25
                            have c25b1 : decide ((((x5_1 ++ (⟨#[104, 97, 100, 32]⟩ : ByteArray)) ++ ((rd_T25 l0 x6_1).f0)) ++ (⟨#[32]⟩ : ByteArray)).size + t292.size ≤ 9223372036854775807) = true := decide_eq_true c25
                            try have c25b2 : (9223372036854775807 < (((x5_1 ++ (⟨#[104, 97, 100, 32]⟩ : ByteArray)) ++ ((rd_T25 l0 x6_1).f0)) ++ (⟨#[32]⟩ : ByteArray)).size + t292.size) = False := eq_false (Nat.not_lt.2 c25)
                            try (have c25b8 := c25b2; simp only [ByteArray.size_append, show (⟨#[104, 97, 100, 32]⟩ : ByteArray).size = 4 from rfl, show (⟨#[32]⟩ : ByteArray).size = 1 from rfl,  Nat.reduceAdd] at c25b8)
                            by_cases c26 : ((((x5_1 ++ (⟨#[104, 97, 100, 32]⟩ : ByteArray)) ++ ((rd_T25 l0 x6_1).f0)) ++ (⟨#[32]⟩ : ByteArray)) ++ t292).size + 1 ≤ 9223372036854775807
                            · rw [if_pos c26] at H
                              have c26b0 := eq_true c26
                              have c26b1 : decide (((((x5_1 ++ (⟨#[104, 97, 100, 32]⟩ : ByteArray)) ++ ((rd_T25 l0 x6_1).f0)) ++ (⟨#[32]⟩ : ByteArray)) ++ t292).size + 1 ≤ 9223372036854775807) = true := decide_eq_true c26
                              try have c26b2 : (9223372036854775807 < ((((x5_1 ++ (⟨#[104, 97, 100, 32]⟩ : ByteArray)) ++ ((rd_T25 l0 x6_1).f0)) ++ (⟨#[32]⟩ : ByteArray)) ++ t292).size + 1) = False := eq_false (Nat.not_lt.2 c26)
                              try (have c26b8 := c26b2; simp only [ByteArray.size_append, show (⟨#[104, 97, 100, 32]⟩ : ByteArray).size = 4 from rfl, show (⟨#[32]⟩ : ByteArray).size = 1 from rfl,  Nat.reduceAdd] at c26b8)
                              have H' := Aside0.mk H
                              clear H
                              have p286 : 0 ≤ (x6_1 : Int) := of_decide_eq_true (by first | (with_reducible assumption) | assumption)
                              have q286 : x6_1 < (l0.length : Int) := of_decide_eq_true (by first | (with_reducible assumption) | assumption)
                              obtain ⟨ad286, e286, hx286_0, hx286_1, hx286_2⟩ := at_T25 HR0.out x6_1 p286 q286
                              (try rw [← Nbq11.out] at hx286_2); (try rw [← Nbq11.out] at hw286_2)
                              obtain rfl : ad284 = ad286 := (by injection e286)
                              try replace hx286_0 := (HB.out.cell (World.block_lt_of_cell? w _ hx286_0)).trans hx286_0
                              try replace hx286_1 := (HB.out.cell (World.block_lt_of_cell? w _ hx286_1)).trans hx286_1
                              try replace hx286_2 := (HB.out.cell (World.block_lt_of_cell? w _ hx286_2)).trans hx286_2
                              replace p286 := eq_true p286
                              replace q286 := eq_true q286
                              try go_wp2
                              have n0_ := Aside0.mk (below_drew1 HB.out)
                              clear HB
                              have HB := n0_
                              clear n0_
                              have p290 : 0 ≤ (x6_1 : Int) := of_decide_eq_true (by first | (with_reducible assumption) | assumption)
                              have q290 : x6_1 < (l0.length : Int) := of_decide_eq_true (by first | (with_reducible assumption) | assumption)
                              obtain ⟨ad290, e290, hx290_0, hx290_1, hx290_2⟩ := at_T25 HR0.out x6_1 p290 q290
                              have hw290_2 := hx290_2
                              have hw290_1 := hx290_1
                              have hw290_0 := hx290_0
                              (try rw [← Nbq11.out] at hx290_2); (try rw [← Nbq11.out] at hw290_2)
                              obtain rfl : ad284 = ad290 := (by injection e290)
                              try replace hx290_0 := (HB.out.cell (World.block_lt_of_cell? w _ hx290_0)).trans hx290_0
                              try replace hx290_1 := (HB.out.cell (World.block_lt_of_cell? w _ hx290_1)).trans hx290_1
                              try replace hx290_2 := (HB.out.cell (World.block_lt_of_cell? w _ hx290_2)).trans hx290_2
                              replace p290 := eq_true p290
                              replace q290 := eq_true q290
                              have p291 : 0 ≤ (x6_1 : Int) := of_decide_eq_true (by first | (with_reducible assumption) | assumption)
                              have q291 : x6_1 < (l0.length : Int) := of_decide_eq_true (by first | (with_reducible assumption) | assumption)
                              obtain ⟨ad291, e291, hx291_0, hx291_1, hx291_2⟩ := at_T25 HR0.out x6_1 p291 q291
                              have hw291_2 := hx291_2
                              have hw291_1 := hx291_1
                              have hw291_0 := hx291_0
                              (try rw [← Nbq11.out] at hx291_2); (try rw [← Nbq11.out] at hw291_2)
                              obtain rfl : ad284 = ad291 := (by injection e291)
                              try replace hx291_0 := (HB.out.cell (World.block_lt_of_cell? w _ hx291_0)).trans hx291_0
                              try replace hx291_1 := (HB.out.cell (World.block_lt_of_cell? w _ hx291_1)).trans hx291_1
                              try replace hx291_2 := (HB.out.cell (World.block_lt_of_cell? w _ hx291_2)).trans hx291_2
                              replace p291 := eq_true p291
                              replace q291 := eq_true q291
                              refine start_ (n := 19) (S := fun w' => w'.cell? (ad284.add ((x6_1).toNat * 3)) = some (.string ((rd_T25 l0 x6_1).f0)) ∧ w'.cell? ⟨(ad284.add ((x6_1).toNat * 3)).block, (ad284.add ((x6_1).toNat * 3)).off + 1, none⟩ = some (.int .i64 ((rd_T25 l0 x6_1).f1)) ∧ w'.cell? ⟨(ad284.add ((x6_1).toNat * 3)).block, (ad284.add ((x6_1).toNat * 3)).off + 2, none⟩ = some (.bool (false)) ∧ w'.cell? (ad284.add ((x6_1).toNat * 3)) = some (.string ((rd_T25 l0 x6_1).f0)) ∧ w'.cell? ⟨(ad284.add ((x6_1).toNat * 3)).block, (ad284.add ((x6_1).toNat * 3)).off + 1, none⟩ = some (.int .i64 ((rd_T25 l0 x6_1).f1)) ∧ w'.cell? ⟨(ad284.add ((x6_1).toNat * 3)).block, (ad284.add ((x6_1).toNat * 3)).off + 2, none⟩ = some (.bool (false))) (ds := []) #[false, false, false, false, false, false, false, false, false, false, false, false, false, false, false, false, false, false, false] (by kernel_rfl) rfl rfl ⟨((HB.out.cell (World.block_lt_of_cell? w _ hw290_0)).trans hw290_0), ((HB.out.cell (World.block_lt_of_cell? w _ hw290_1)).trans hw290_1), ((HB.out.cell (World.block_lt_of_cell? w _ hw290_2)).trans hw290_2), ((HB.out.cell (World.block_lt_of_cell? w _ hw291_0)).trans hw291_0), ((HB.out.cell (World.block_lt_of_cell? w _ hw291_1)).trans hw291_1), ((HB.out.cell (World.block_lt_of_cell? w _ hw291_2)).trans hw291_2)⟩ (fun hHeld => ?_); refine with_tabW cippusref07_Write.tab11 cippusref07_Write.bits11 (fun HT_ HW_ => ?_)
                              generalize wr.drew = w27 at HB hx290_0 hx290_1 hx290_2 hx291_0 hx291_1 hx291_2 hHeld ⊢
                              refine pure_ (i := 0) (N := some 32) (v := ?_) (a' := ?_) #[true, false, false, false, false, false, false, false, false, false, false, false, false, false, false, false, false, false, false] rfl rfl (any_of HT_.out (by kernel_rfl)) (fun _ _ _ h => h) (Or.inl ⟨by rfl, ?_⟩) ?_ ?_
                              rotate_left
                              · intro w'
                                go_simp
                                with_reducible rfl
                              rotate_left
                              · simp only [Act.put, List.setIfInBounds_toArray, List.set_cons_zero, List.set_cons_succ, i64_w, i32_w]
                                rfl
                              refine pure_ (i := 1) (N := some 33) (v := ?_) (a' := ?_) #[true, true, false, false, false, false, false, false, false, false, false, false, false, false, false, false, false, false, false] rfl rfl (any_of HT_.out (by kernel_rfl)) (fun _ _ _ h => h) (Or.inl ⟨by rfl, ?_⟩) ?_ ?_
                              rotate_left
                              · intro w'
                                go_simp
                                with_reducible rfl
                              rotate_left
                              · simp only [Act.put, List.setIfInBounds_toArray, List.set_cons_zero, List.set_cons_succ, i64_w, i32_w]
                                rfl
                              refine pure_ (i := 2) (N := some 34) (v := ?_) (a' := ?_) #[true, true, true, false, false, false, false, false, false, false, false, false, false, false, false, false, false, false, false] rfl rfl (any_of HT_.out (by kernel_rfl)) (fun _ _ _ h => h) (Or.inl ⟨by rfl, ?_⟩) ?_ ?_
                              rotate_left
                              · intro w'
                                go_simp
                                with_reducible rfl
                              rotate_left
                              · simp only [Act.put, List.setIfInBounds_toArray, List.set_cons_zero, List.set_cons_succ, i64_w, i32_w]
                                rfl
                              refine pure_ (i := 3) (N := some 35) (v := ?_) (a' := ?_) #[true, true, true, true, false, false, false, false, false, false, false, false, false, false, false, false, false, false, false] rfl rfl (any_of HT_.out (by kernel_rfl)) (fun _ _ _ h => h) (Or.inl ⟨by rfl, ?_⟩) ?_ ?_
                              rotate_left
                              · intro w'
                                go_simp
                                with_reducible rfl
                              rotate_left
                              · simp only [Act.put, List.setIfInBounds_toArray, List.set_cons_zero, List.set_cons_succ, i64_w, i32_w]
                                rfl
                              refine pure_ (i := 4) (N := some 36) (v := ?_) (a' := ?_) #[true, true, true, true, true, false, false, false, false, false, false, false, false, false, false, false, false, false, false] rfl rfl (any_of HT_.out (by kernel_rfl)) (fun _ _ _ h => h) (Or.inl ⟨by rfl, ?_⟩) ?_ ?_
                              rotate_left
                              · intro w'
                                go_simp
                                with_reducible rfl
                              rotate_left
                              · simp only [Act.put, List.setIfInBounds_toArray, List.set_cons_zero, List.set_cons_succ, i64_w, i32_w]
                                rfl
                              refine pure_ (i := 5) (N := some 37) (v := ?_) (a' := ?_) #[true, true, true, true, true, true, false, false, false, false, false, false, false, false, false, false, false, false, false] rfl rfl (any_of HT_.out (by kernel_rfl)) (fun _ _ _ h => h) (Or.inl ⟨by rfl, ?_⟩) ?_ ?_
                              rotate_left
                              · intro w'
                                go_simp
                                with_reducible rfl
                              rotate_left
                              · simp only [Act.put, List.setIfInBounds_toArray, List.set_cons_zero, List.set_cons_succ, i64_w, i32_w]
                                rfl
                              refine pure_ (i := 6) (N := some 38) (v := ?_) (a' := ?_) #[true, true, true, true, true, true, true, false, false, false, false, false, false, false, false, false, false, false, false] rfl rfl (any_of HT_.out (by kernel_rfl)) (fun _ _ _ h => h) (Or.inl ⟨by rfl, ?_⟩) ?_ ?_
                              rotate_left
                              · intro w'
                                go_simp
                                with_reducible rfl
                              rotate_left
                              · simp only [Act.put, List.setIfInBounds_toArray, List.set_cons_zero, List.set_cons_succ, i64_w, i32_w]
                                rfl
                              refine pure_ (i := 10) (N := some 42) (v := ?_) (a' := ?_) #[true, true, true, true, true, true, true, false, false, false, true, false, false, false, false, false, false, false, false] rfl rfl (any_of HT_.out (by kernel_rfl)) (fun _ _ _ h => h) (Or.inl ⟨by rfl, ?_⟩) ?_ ?_
                              rotate_left
                              · intro w'
                                go_simp
                                with_reducible rfl
                              rotate_left
                              · simp only [Act.put, List.setIfInBounds_toArray, List.set_cons_zero, List.set_cons_succ, i64_w, i32_w]
                                rfl
                              refine pure_ (i := 11) (N := some 43) (v := ?_) (a' := ?_) #[true, true, true, true, true, true, true, false, false, false, true, true, false, false, false, false, false, false, false] rfl rfl (any_of HT_.out (by kernel_rfl)) (fun _ _ _ h => h) (Or.inl ⟨by rfl, ?_⟩) ?_ ?_
                              rotate_left
                              · intro w'
                                go_simp
                                with_reducible rfl
                              rotate_left
                              · simp only [Act.put, List.setIfInBounds_toArray, List.set_cons_zero, List.set_cons_succ, i64_w, i32_w]
                                rfl
                              refine pure_ (i := 12) (N := some 44) (v := ?_) (a' := ?_) #[true, true, true, true, true, true, true, false, false, false, true, true, true, false, false, false, false, false, false] rfl rfl (any_of HT_.out (by kernel_rfl)) (fun _ _ _ h => h) (Or.inl ⟨by rfl, ?_⟩) ?_ ?_
                              rotate_left
                              · intro w'
                                go_simp
                                with_reducible rfl
                              rotate_left
                              · simp only [Act.put, List.setIfInBounds_toArray, List.set_cons_zero, List.set_cons_succ, i64_w, i32_w]
                                rfl
                              refine pure_ (i := 13) (N := some 45) (v := ?_) (a' := ?_) #[true, true, true, true, true, true, true, false, false, false, true, true, true, true, false, false, false, false, false] rfl rfl (any_of HT_.out (by kernel_rfl)) (fun _ _ _ h => h) (Or.inl ⟨by rfl, ?_⟩) ?_ ?_
                              rotate_left
                              · intro w'
                                go_simp
                                with_reducible rfl
                              rotate_left
                              · simp only [Act.put, List.setIfInBounds_toArray, List.set_cons_zero, List.set_cons_succ, i64_w, i32_w]
                                rfl
                              refine take_ (i := 7) (N := some 39) (v := ?_) (a' := ?_) #[true, true, true, true, true, true, true, true, false, false, true, true, true, true, false, false, false, false, false] rfl rfl (take_ofW HT_.out HW_.out (by kernel_rfl)) (fun _ _ _ h => h) (Or.inl ⟨by rfl, ?_⟩) hHeld ?_ ?_
                              rotate_left
                              · rintro w' ⟨s0, s1, s2, s3, s4, s5⟩
                                go_simp
                                with_reducible rfl
                              rotate_left
                              · simp only [Act.put, List.setIfInBounds_toArray, List.set_cons_zero, List.set_cons_succ, i64_w, i32_w]
                                rfl
                              refine pure_ (i := 8) (N := some 40) (v := ?_) (a' := ?_) #[true, true, true, true, true, true, true, true, true, false, true, true, true, true, false, false, false, false, false] rfl rfl (any_of HT_.out (by kernel_rfl)) (fun _ _ _ h => h) (Or.inl ⟨by rfl, ?_⟩) ?_ ?_
                              rotate_left
                              · intro w'
                                go_simp
                                with_reducible rfl
                              rotate_left
                              · simp only [Act.put, List.setIfInBounds_toArray, List.set_cons_zero, List.set_cons_succ, i64_w, i32_w]
                                rfl
                              refine pure_ (i := 9) (N := some 41) (v := ?_) (a' := ?_) #[true, true, true, true, true, true, true, true, true, true, true, true, true, true, false, false, false, false, false] rfl rfl (any_of HT_.out (by kernel_rfl)) (fun _ _ _ h => h) (Or.inl ⟨by rfl, ?_⟩) ?_ ?_
                              rotate_left
                              · intro w'
                                go_simp
                                with_reducible rfl
                              rotate_left
                              · simp only [Act.put, List.setIfInBounds_toArray, List.set_cons_zero, List.set_cons_succ, i64_w, i32_w]
                                rfl
                              refine take_ (i := 14) (N := some 46) (v := ?_) (a' := ?_) #[true, true, true, true, true, true, true, true, true, true, true, true, true, true, true, false, false, false, false] rfl rfl (take_ofW HT_.out HW_.out (by kernel_rfl)) (fun _ _ _ h => h) (Or.inl ⟨by rfl, ?_⟩) hHeld ?_ ?_
                              rotate_left
                              · rintro w' ⟨s0, s1, s2, s3, s4, s5⟩
                                go_simp
                                with_reducible rfl
                              rotate_left
                              · simp only [Act.put, List.setIfInBounds_toArray, List.set_cons_zero, List.set_cons_succ, i64_w, i32_w]
                                rfl
                              refine one_ (i := 15) (N := some 47) #[true, true, true, true, true, true, true, true, true, true, true, true, true, true, true, true, false, false, false] rfl rfl (one_of HT_.out (by kernel_rfl)) (by decide) (fun K hK => ?_)
                              refine goes_ Tryd.func44 (by kernel_rfl) rfl #[.int .i64 ((rd_T25 l0 x6_1).f1)] (by rfl) rfl rfl (by (try simp only [List.map_toArray, List.map_cons, List.map_nil]); first | done | rfl | (simp only [List.length_drop, List.length_take]; rfl)) ?_
                              with_reducible refine (cippusref07_digit.calls ((rd_T25 l0 x6_1).f1) t292 _ A24.out).mono ?_
                              rintro e w28 ⟨rfl, hb⟩
                              refine ⟨_, rfl, ?_⟩
                              have n0_ := Aside0.mk (below_step (by repeat (first | (with_reducible first | exact HB.out | apply below_alloc | apply pw_below_drewN | apply below_drew1) | exact HB.out)) hb)
                              clear HB
                              have HB := n0_
                              clear n0_
                              (try clear hb)
                              (try clear hb2)
                              (try clear hk)
                              (try clear hi)
                              refine hK.out _ _ ⟨((HB.out.cell (World.block_lt_of_cell? w _ hw290_0)).trans hw290_0), ((HB.out.cell (World.block_lt_of_cell? w _ hw290_1)).trans hw290_1), ((HB.out.cell (World.block_lt_of_cell? w _ hw290_2)).trans hw290_2), ((HB.out.cell (World.block_lt_of_cell? w _ hw291_0)).trans hw291_0), ((HB.out.cell (World.block_lt_of_cell? w _ hw291_1)).trans hw291_1), ((HB.out.cell (World.block_lt_of_cell? w _ hw291_2)).trans hw291_2)⟩ (fun hHeld => ?_)
                              clear hK K
                              refine norm_ (a' := ?_) ?_ ?_
                              rotate_left
                              · show Act.put _ (some 47) _ = _
                                simp only [Act.put, List.setIfInBounds_toArray, List.set_cons_zero, List.set_cons_succ, i64_w, i32_w]
                                rfl
                              refine pure_ (i := 16) (N := some 48) (v := ?_) (a' := ?_) #[true, true, true, true, true, true, true, true, true, true, true, true, true, true, true, true, true, false, false] rfl rfl (any_of HT_.out (by kernel_rfl)) (fun _ _ _ h => h) (Or.inl ⟨by rfl, ?_⟩) ?_ ?_
                              rotate_left
                              · intro w'
                                go_simp
                                with_reducible rfl
                              rotate_left
                              · simp only [Act.put, List.setIfInBounds_toArray, List.set_cons_zero, List.set_cons_succ, i64_w, i32_w]
                                rfl
                              refine pure_ (i := 17) (N := some 49) (v := ?_) (a' := ?_) #[true, true, true, true, true, true, true, true, true, true, true, true, true, true, true, true, true, true, false] rfl rfl (any_of HT_.out (by kernel_rfl)) (fun _ _ _ h => h) (Or.inl ⟨by rfl, ?_⟩) ?_ ?_
                              rotate_left
                              · intro w'
                                go_simp
                                with_reducible rfl
                              rotate_left
                              · simp only [Act.put, List.setIfInBounds_toArray, List.set_cons_zero, List.set_cons_succ, i64_w, i32_w]
                                rfl
                              refine pure_ (i := 18) (N := some 5) (v := ?_) (a' := ?_) #[true, true, true, true, true, true, true, true, true, true, true, true, true, true, true, true, true, true, true] rfl rfl (any_of HT_.out (by kernel_rfl)) (fun _ _ _ h => h) (Or.inl ⟨by rfl, ?_⟩) ?_ ?_
                              rotate_left
                              · intro w'
                                go_simp
                                with_reducible rfl
                              rotate_left
                              · simp only [Act.put, List.setIfInBounds_toArray, List.set_cons_zero, List.set_cons_succ, i64_w, i32_w]
                                rfl
                              refine done_ (done_of HT_.out (by kernel_rfl)) ?_
                              try go_wp2
                              go_roundg k1
                              case measure => have := HK1.out; omega
                              case rel => exact ⟨(((((x5_1 ++ (⟨#[104, 97, 100, 32]⟩ : ByteArray)) ++ ((rd_T25 l0 x6_1).f0)) ++ (⟨#[32]⟩ : ByteArray)) ++ t292) ++ (⟨#[10]⟩ : ByteArray)), (wrap64 (x6_1 + 1)), (by first | rfl | (simp; done) | (simp [*]; done)), (by first | rfl | (simp; done) | (simp [*]; done)), H', ⟨by have := HK1.out; omega⟩, ⟨by repeat (first | (with_reducible first | exact HB.out | apply below_alloc | apply pw_below_drewN | apply below_drew1) | exact HB.out)⟩⟩
                            · rw [if_neg c26] at H
                              exact absurd H (by simp)
                          · rw [if_neg c25] at H
                            exact absurd H (by simp)
                        · rw [if_neg c23] at H
                          exact absurd H (by simp)
                      · rw [if_neg c22] at H
                        exact absurd H (by simp)
                    · rw [if_neg c21] at H
                      exact absurd H (by simp)
                · rw [if_neg c10] at H
                  exact absurd H (by simp)
              · rw [if_neg c9] at H
                have c9b0 : decide (x6_1 < (l0.length : Int)) = false := decide_eq_false c9
                clear c9
                by_cases c29 : x5_1.size + 7 ≤ 9223372036854775807
                · rw [if_pos c29] at H
                  have c29b0 := eq_true c29
                  have c29b1 : decide (x5_1.size + 7 ≤ 9223372036854775807) = true := decide_eq_true c29
                  try have c29b2 : (9223372036854775807 < x5_1.size + 7) = False := eq_false (Nat.not_lt.2 c29)
                  replace H := Option.bind_eq_some_iff.mp H
                  obtain ⟨t293, A300, H⟩ := H
                  replace H : (if (x5_1 ++ (⟨#[99, 111, 112, 105, 101, 115, 32]⟩ : ByteArray)).size + t293.size ≤ 9223372036854775807 then (if ((x5_1 ++ (⟨#[99, 111, 112, 105, 101, 115, 32]⟩ : ByteArray)) ++ t293).size + 1 ≤ 9223372036854775807 then (some (((x5_1 ++ (⟨#[99, 111, 112, 105, 101, 115, 32]⟩ : ByteArray)) ++ t293) ++ (⟨#[10]⟩ : ByteArray), 0)) else (none)) else (none)) = some (r1, r2) := H
                  have A30 := Aside0.mk A300
                  clear A300
                  by_cases c31 : (x5_1 ++ (⟨#[99, 111, 112, 105, 101, 115, 32]⟩ : ByteArray)).size + t293.size ≤ 9223372036854775807
                  · rw [if_pos c31] at H
                    have c31b0 := eq_true c31
                    have c31b1 : decide ((x5_1 ++ (⟨#[99, 111, 112, 105, 101, 115, 32]⟩ : ByteArray)).size + t293.size ≤ 9223372036854775807) = true := decide_eq_true c31
                    try have c31b2 : (9223372036854775807 < (x5_1 ++ (⟨#[99, 111, 112, 105, 101, 115, 32]⟩ : ByteArray)).size + t293.size) = False := eq_false (Nat.not_lt.2 c31)
                    try (have c31b8 := c31b2; simp only [ByteArray.size_append, show (⟨#[99, 111, 112, 105, 101, 115, 32]⟩ : ByteArray).size = 7 from rfl,  Nat.reduceAdd] at c31b8)
                    by_cases c32 : ((x5_1 ++ (⟨#[99, 111, 112, 105, 101, 115, 32]⟩ : ByteArray)) ++ t293).size + 1 ≤ 9223372036854775807
                    · rw [if_pos c32] at H
                      have c32b0 := eq_true c32
                      have c32b1 : decide (((x5_1 ++ (⟨#[99, 111, 112, 105, 101, 115, 32]⟩ : ByteArray)) ++ t293).size + 1 ≤ 9223372036854775807) = true := decide_eq_true c32
                      try have c32b2 : (9223372036854775807 < ((x5_1 ++ (⟨#[99, 111, 112, 105, 101, 115, 32]⟩ : ByteArray)) ++ t293).size + 1) = False := eq_false (Nat.not_lt.2 c32)
                      try (have c32b8 := c32b2; simp only [ByteArray.size_append, show (⟨#[99, 111, 112, 105, 101, 115, 32]⟩ : ByteArray).size = 7 from rfl,  Nat.reduceAdd] at c32b8)
                      simp only [Option.some.injEq, Prod.mk.injEq] at H
                      obtain ⟨rfl, rfl⟩ := H
                      go_wp2_with (first | ((with_reducible refine gate_callee (f := 44) rfl ?_); refine goesL_ (some 54) rfl rfl Tryd.func44 (by kernel_rfl) rfl #[.int .i64 (l0.length : Int)] rfl (by (try simp only [List.map_toArray, List.map_cons, List.map_nil]); first | done | rfl | (simp only [List.length_drop, List.length_take]; rfl)) ?_; (with_reducible refine (cippusref07_digit.calls (l0.length : Int) t293 _ A30.out).mono ?_); rintro e w33 ⟨rfl, hb⟩; refine ⟨_, rfl, ?_⟩; have n0_ := Aside0.mk (below_step (by repeat (first | (with_reducible first | exact HB.out | apply below_alloc | apply pw_below_drewN | apply below_drew1) | exact HB.out)) hb); clear HB; have HB := n0_; clear n0_; (try clear hb); (try clear hb2); (try clear hk); (try clear hi)))
                      go_ret2
                      exact ⟨by first | rfl | (simp [errW_none, errW_some] <;> rfl) | (simp [*, errW_none, errW_some] <;> rfl), by repeat (first | (with_reducible first | exact HB.out | apply below_alloc | apply pw_below_drewN | apply below_drew1) | exact HB.out)⟩
                    · rw [if_neg c32] at H
                      exact absurd H (by simp)
                  · rw [if_neg c31] at H
                    exact absurd H (by simp)
                · rw [if_neg c29] at H
                  exact absurd H (by simp)
        · rw [if_neg c7] at H
          exact absurd H (by simp)
      · rw [if_neg c6] at H
        exact absurd H (by simp)
    · rw [if_neg c4] at H
      exact absurd H (by simp)
  · rw [if_neg c3] at H
    have c3b0 : (t283 == 0) = false := beq_eq_false_iff_ne.mpr c3
    have c3b1 : (t283 != 0) = true := bne_iff_ne.mpr c3
    simp only [Option.some.injEq, Prod.mk.injEq] at H
    obtain ⟨rfl, rfl⟩ := H
    go_enter Tryd.func19, Tryd.ntmps19
    go_wp2_with (first | ((with_reducible refine gate_callee (f := 43) rfl ?_); refine goesL_ (some 9) rfl rfl Tryd.func43 (by kernel_rfl) rfl #[.slice A0 l0.length c0] rfl (by (try simp only [List.map_toArray, List.map_cons, List.map_nil]); first | done | rfl | (simp only [List.length_drop, List.length_take]; rfl)) ?_; (with_reducible refine (cippusref07_Check.calls k _ _ l0 t283 _ ?side1 ?side2 A2.out).mono ?_); (case side1 => repeat (first | exact HR0.out | (with_reducible refine Kd.C_alloc ?_ _) | (with_reducible refine Kd.C_drewN ?_ _) | (with_reducible refine Kd.C_drew ?_))); (case side2 => exact HC0.out); rintro e w' ⟨rfl, ⟨nd, rfl⟩⟩; refine ⟨_, rfl, ?_⟩))
    go_ret2
    exact ⟨by first | rfl | (simp [errW_none, errW_some] <;> rfl) | (simp [*, errW_none, errW_some] <;> rfl), by repeat (first | (with_reducible first | exact HB.out | apply below_alloc | apply pw_below_drewN | apply below_drew1) | exact HB.out)⟩
end Go.Proofs.YtecdjnabmjhakaaDoor.P
namespace Go.Proofs.YtecdjnabmjhakaaDoor.P
open Go.RowKit Go.Proofs.YtecdjnabmjhakaaDoorW.PrintWords Go.Proofs.YtecdjnabmjhakaaDoorW.PrintLast Go.Proofs.YtecdjnabmjhakaaDoorW.PrintMore
attribute [local go_sem] max2_int min2_int max_two min_two max_three min_three max_four min_four   -- for this text's walks alone
set_option linter.unusedVariables false
set_option linter.unusedSimpArgs false
def cippuskit_Wrap.f (a0 : Int) (a1 : Int) : Option (Int) := if a1 < 2 then (some 0) else (if a1 = 0 then (none) else (some (Int.tmod (wrap64 ((Int.tmod a0 a1) + a1)) a1)))
set_option maxHeartbeats 8000000 in
set_option maxRecDepth 100000 in
theorem cippuskit_Wrap.calls (a0 : Int) (a1 : Int) (r : Int) (w : World) (h : cippuskit_Wrap.f a0 a1 = some r) :
    Calls Tryd.prog 45 #[.int .i64 a0, .int .i64 a1] w fun e w' => e = .returned (.int .i64 r) ∧ Drawn0 w w' := by
  have H : (if a1 < 2 then (some 0) else (if a1 = 0 then (none) else (some (Int.tmod (wrap64 ((Int.tmod a0 a1) + a1)) a1)))) = some r := h
  clear h
  by_cases c3 : a1 < 2
  · rw [if_pos c3] at H
    have c3b0 : decide (a1 < 2) = true := decide_eq_true c3
    clear c3
    obtain rfl := Option.some.inj H
    go_enter Tryd.func45, Tryd.ntmps45
    go_wp2
    go_ret
    exact ⟨by first | rfl | (simp; done) | (simp [*]; done), by repeat (first | exact Drawn0.refl _ | apply Drawn0.step)⟩
  · rw [if_neg c3] at H
    have c3b0 : decide (a1 < 2) = false := decide_eq_false c3
    clear c3
    by_cases c4 : a1 = 0
    · rw [if_pos c4] at H
      exact absurd H (by simp)
    · rw [if_neg c4] at H
      have c4b0 : (a1 == 0) = false := beq_eq_false_iff_ne.mpr c4
      have c4b1 : (a1 != 0) = true := bne_iff_ne.mpr c4
      obtain rfl := Option.some.inj H
      go_enter Tryd.func45, Tryd.ntmps45
      go_wp2
      go_ret
      exact ⟨by first | rfl | (simp; done) | (simp [*]; done), by repeat (first | exact Drawn0.refl _ | apply Drawn0.step)⟩
end Go.Proofs.YtecdjnabmjhakaaDoor.P
