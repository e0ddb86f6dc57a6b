/- Lemmas for the statement StemmaSources of the given program, for every input that its row lets in. Conditions: none beyond those that each lemma tells. -/
import Derived.Lib.Hide
import Derived.DeepKeys4
import Derived.Maps.Own
import Derived.RangeFuncRecord
import Derived.Deep.DeepCutAuto
import Derived.BigQuiet
import Derived.WalkSpells
import Derived.Deep.LoopGhost
import Derived.Deep.CutRange
import Derived.RangeFuncNested
import Derived.RangeFuncBound
import Derived.RangeFuncCalls
import Derived.RangeFuncLeaves
import Derived.Shelf.Abstract
import Derived.Shelf.RegionOpen
import Derived.OwnWalkIn
import Derived.TacticsInMore
import Derived.LoopNIn
import Derived.LoopIn
import Derived.Maps.OwnIn
import Derived.Test.YtegjollhajgcdaaMStemmaSources2
set_option linter.unusedVariables false
set_option linter.unusedSimpArgs false
namespace Go.Proofs.Ytegjollhajgcdaa.P
open Go.RowKit Go.Proofs.YtegjollhajgcdaaW.PrintWords Go.Proofs.YtegjollhajgcdaaW.PrintLast Go.Proofs.YtegjollhajgcdaaW.PrintMore
attribute [local go_sem] max2_int min2_int max_two min_two max_three min_three max_four min_four   -- for this text's walks alone
set_option linter.unusedVariables false
set_option linter.unusedSimpArgs false
mutual
def cippusref07_stones.l0 : Nat → List (S24) → List Int → ByteArray → Int → Int → Option (List ByteArray)
  | 0, _, _, _, _, _ => none
  | k + 1, x0, x1, x2, x7, x8 => if x8 < (x0.length : Int) then (if 0 ≤ x8 then (if x8 < (x1.length : Int) then (if (rd x1 x8) = (-1) then (if 0 ≤ x7 then (if x7 ≤ (((rd_T24 x0 x8).f0).size : Int) then ((cippusref07_Apart.f k x2 (((rd_T24 x0 x8).f0).extract 0 (x7 : Int).toNat)).bind fun t163 => (if t163 > ((rd_T24 x0 x8).f1) then (some ([] : List ByteArray)) else (cippusref07_stones.l0 k x0 x1 x2 x7 (wrap64 (x8 + 1))))) else (none)) else (none)) else (cippusref07_stones.l0 k x0 x1 x2 x7 (wrap64 (x8 + 1)))) else (none)) else (none)) else (if 0 < (x0.length : Int) then (if x7 = (((rd_T24 x0 0).f0).size : Int) then (some (([x2] : List ByteArray))) else (cippusref07_stones.l1 k x0 x1 x2 x7 (strOfNums (([42] : List Int))) 0)) else (none))
def cippusref07_stones.l1 : Nat → List (S24) → List Int → ByteArray → Int → ByteArray → Int → Option (List ByteArray)
  | 0, _, _, _, _, _, _ => none
  | k + 1, x0, x1, x2, x7, x9, x10 => if x10 < (x0.length : Int) then (if 0 ≤ x10 then (if 0 ≤ x7 then (if x7 < (((rd_T24 x0 x10).f0).size : Int) then ((cippusref07_has.f k x9 (bt ((rd_T24 x0 x10).f0) x7)).bind fun t173 => (if t173 = true then (cippusref07_stones.l1 k x0 x1 x2 x7 x9 (wrap64 (x10 + 1))) else (if x7 ≤ (wrap64 (x7 + 1)) then (if (wrap64 (x7 + 1)) ≤ (((rd_T24 x0 x10).f0).size : Int) then (if x9.size + (((rd_T24 x0 x10).f0).extract (x7 : Int).toNat ((wrap64 (x7 + 1)) : Int).toNat).size ≤ 9223372036854775807 then (cippusref07_stones.l1 k x0 x1 x2 x7 (x9 ++ (((rd_T24 x0 x10).f0).extract (x7 : Int).toNat ((wrap64 (x7 + 1)) : Int).toNat)) (wrap64 (x10 + 1))) else (none)) else (none)) else (none)))) else (none)) else (none)) else (none)) else (cippusref07_stones.l2 k x0 x1 x2 x9 ([] : List ByteArray) 0)
def cippusref07_stones.l2 : Nat → List (S24) → List Int → ByteArray → ByteArray → List ByteArray → Int → Option (List ByteArray)
  | 0, _, _, _, _, _, _ => none
  | k + 1, x0, x1, x2, x9, x11, x12 => if x12 < (x9.size : Int) then (if 0 ≤ x12 then (if x12 ≤ (wrap64 (x12 + 1)) then (if (wrap64 (x12 + 1)) ≤ (x9.size : Int) then (if x2.size + (x9.extract (x12 : Int).toNat ((wrap64 (x12 + 1)) : Int).toNat).size ≤ 9223372036854775807 then ((cippusref07_stones.f k x0 x1 (x2 ++ (x9.extract (x12 : Int).toNat ((wrap64 (x12 + 1)) : Int).toNat))).bind fun t175 => (if x11.length + t175.length < 8796093022208 then (cippusref07_stones.l2 k x0 x1 x2 x9 (x11 ++ t175) (wrap64 (x12 + 1))) else (none))) else (none)) else (none)) else (none)) else (none)) else (some x11)
def cippusref07_stones.f : Nat → List (S24) → List Int → ByteArray → Option (List ByteArray)
  | 0, _, _, _ => none
  | k + 1, l0, l1, a2 => cippusref07_stones.l0 k l0 l1 a2 (a2.size : Int) 0
end
set_option maxHeartbeats 8000000 in
set_option maxRecDepth 100000 in
theorem cippusref07_stones.calls (k : Nat) : ∀ (A0 : Option Addr) (c0 : Nat) (l0 : List (S24)) (A1 : Option Addr) (c1 : Nat) (l1 : List Int) (a2 : ByteArray) (r : List ByteArray) (w : World) (hr0 : Kd.C k24 w A0 l0.length l0) (hc0 : l0.length ≤ c0) (hr1 : Kd.C (Kd.int .i64) w A1 l1.length l1) (hc1 : l1.length ≤ c1) (h : cippusref07_stones.f k l0 l1 a2 = some r),
    Calls Try.prog 77 #[.slice A0 l0.length c0, .slice A1 l1.length c1, .string a2] w fun e w' => ∃ v0_ : Value, e = .returned (v0_) ∧ Kd.R Kd.string 9 w' w.heap.size (fun _ => True) v0_ r ∧ Below w.heap.size w w' := by
  induction k using Nat.strongRecOn with
  | _ k ih =>
  intro A0 c0 l0 A1 c1 l1 a2 r w hr0 hc0 hr1 hc1 h
  cases k with
  | zero => exact absurd h (by simp [cippusref07_stones.f])
  | succ k =>
  simp only [cippusref07_stones.f] at h
  have HR0 := Aside0.mk hr0
  have HC0 := Aside0.mk hc0
  clear hr0 hc0
  have HR1 := Aside0.mk hr1
  have HC1 := Aside0.mk hc1
  clear hr1 hc1
  have HB := Aside0.mk (Below.refl w.heap.size w)
  have H : (cippusref07_stones.l0 k l0 l1 a2 (a2.size : Int) 0) = some r := h
  clear h
  have H' := Aside0.mk H
  clear H
  go_enter Try.func77, Try.ntmps77
  go_wp2
  repeat (go_quiet (fail); try go_wp2)
  go_loopg [8] k (fun kq v8 w' => ∃ (x8_1 : Int), v8 = .int .i64 x8_1 ∧ Aside0 (cippusref07_stones.l0 kq l0 l1 a2 (a2.size : Int) x8_1 = some r) ∧ Aside0 (kq ≤ k) ∧ Aside0 (Below w.heap.size w w'))
  case atStart => exact ⟨(0), (by first | rfl | (simp; done) | (simp [*]; done)), H', ⟨Nat.le_refl _⟩, ⟨by repeat (first | (with_reducible first | exact HB.out | apply below_alloc | apply pw_below_drewN | apply below_drew1) | exact HB.out)⟩⟩
  case round =>
    clear H'
    try clear c1
    try clear p2
    obtain ⟨x8_1, rfl, HA, HK1, HB⟩ := hrel
    cases gk with
    | zero => exact absurd HA.out (by simp [cippusref07_stones.l0])
    | succ k1 =>
      have H := HA.out
      clear HA
      simp only [cippusref07_stones.l0] at H
      by_cases c4 : x8_1 < (l0.length : Int)
      · rw [if_pos c4] at H
        have c4b0 : decide (x8_1 < (l0.length : Int)) = true := decide_eq_true c4
        clear c4
        by_cases c5 : 0 ≤ x8_1
        · rw [if_pos c5] at H
          have c5b0 : decide (0 ≤ x8_1) = true := decide_eq_true c5
          clear c5
          by_cases c6 : x8_1 < (l1.length : Int)
          · rw [if_pos c6] at H
            have c6b0 : decide (x8_1 < (l1.length : Int)) = true := decide_eq_true c6
            clear c6
            by_cases c7 : (rd l1 x8_1) = (-1)
            · rw [if_pos c7] at H
              have c7b0 : ((rd l1 x8_1) == (-1)) = true := beq_iff_eq.mpr c7
              have c7b1 : ((rd l1 x8_1) != (-1)) = false := bne_eq_false_iff_eq.mpr c7
              clear c7
              by_cases c8 : 0 ≤ (a2.size : Int)
              · rw [if_pos c8] at H
                have c8b0 := eq_true c8
                have c8b1 : decide (0 ≤ (a2.size : Int)) = true := decide_eq_true c8
                clear c8
                by_cases c9 : (a2.size : Int) ≤ (((rd_T24 l0 x8_1).f0).size : Int)
                · rw [if_pos c9] at H
                  have c9b0 := eq_true c9
                  have c9b1 : decide ((a2.size : Int) ≤ (((rd_T24 l0 x8_1).f0).size : Int)) = true := decide_eq_true c9
                  clear c9
                  replace H := Option.bind_eq_some_iff.mp H
                  obtain ⟨t163, A100, H⟩ := H
                  replace H : (if t163 > ((rd_T24 l0 x8_1).f1) then (some ([] : List ByteArray)) else (cippusref07_stones.l0 k1 l0 l1 a2 (a2.size : Int) (wrap64 (x8_1 + 1)))) = some r := H
                  have A10 := Aside0.mk A100
                  clear A100
                  by_cases c11 : t163 > ((rd_T24 l0 x8_1).f1)
                  · rw [if_pos c11] at H
                    have c11b0 : decide (((rd_T24 l0 x8_1).f1) < t163) = true := decide_eq_true c11
                    clear c11
                    obtain rfl := Option.some.inj H
                    have p161 : 0 ≤ (x8_1 : Int) := of_decide_eq_true (by first | (with_reducible assumption) | assumption)
                    have q161 : x8_1 < (l1.length : Int) := of_decide_eq_true (by first | (with_reducible assumption) | assumption)
                    obtain ⟨ad161, e161, hx161_0⟩ := Kd.at_int HR1.out x8_1 p161 q161
                    cases e161
                    try replace hx161_0 := (HB.out.cell (World.block_lt_of_cell? w _ hx161_0)).trans hx161_0
                    replace p161 := eq_true p161
                    replace q161 := eq_true q161
                    have p162 : 0 ≤ (x8_1 : Int) := of_decide_eq_true (by first | (with_reducible assumption) | assumption)
                    have q162 : x8_1 < (l0.length : Int) := of_decide_eq_true (by first | (with_reducible assumption) | assumption)
                    obtain ⟨ad162, e162, hx162_0, hx162_1, hx162_2⟩ := at_T24 HR0.out x8_1 p162 q162
                    cases e162
                    try replace hx162_0 := (HB.out.cell (World.block_lt_of_cell? w _ hx162_0)).trans hx162_0
                    try replace hx162_1 := (HB.out.cell (World.block_lt_of_cell? w _ hx162_1)).trans hx162_1
                    try replace hx162_2 := (HB.out.cell (World.block_lt_of_cell? w _ hx162_2)).trans hx162_2
                    replace p162 := eq_true p162
                    replace q162 := eq_true q162
                    go_wp2_with (first | (go_at_call 43; (with_reducible refine (cippusref07_Apart.calls k1 a2 (((rd_T24 l0 x8_1).f0).extract 0 a2.size) t163 _ (by have h_ := A10.out; simp only [Int.toNat_natCast] at h_; exact h_)).mono ?_); rintro e w' ⟨rfl, ⟨nd, rfl⟩⟩; (try first | exact ⟨rfl, _, World.drewN_drewN _ _ _⟩ | exact ⟨rfl, _, Eq.trans (World.drewN_drewN _ _ _) (congrArg (World.drewN _) (Nat.add_assoc _ _ _))⟩); have p164 : 0 ≤ (x8_1 : Int) := of_decide_eq_true (by first | (with_reducible assumption) | assumption); have q164 : x8_1 < (l0.length : Int) := of_decide_eq_true (by first | (with_reducible assumption) | assumption); obtain ⟨ad164, e164, hx164_0, hx164_1, hx164_2⟩ := at_T24 HR0.out x8_1 p164 q164; obtain rfl : ad162 = ad164 := (by injection e164); replace hx164_0 := (HB.out.cell (World.block_lt_of_cell? w _ hx164_0)).trans hx164_0; replace hx164_1 := (HB.out.cell (World.block_lt_of_cell? w _ hx164_1)).trans hx164_1; replace hx164_2 := (HB.out.cell (World.block_lt_of_cell? w _ hx164_2)).trans hx164_2; replace p164 := eq_true p164; replace q164 := eq_true q164))
                    repeat (go_quiet (first | (go_at_call 43; (with_reducible refine (cippusref07_Apart.calls k1 a2 (((rd_T24 l0 x8_1).f0).extract 0 a2.size) t163 _ (by have h_ := A10.out; simp only [Int.toNat_natCast] at h_; exact h_)).mono ?_); rintro e w' ⟨rfl, ⟨nd, rfl⟩⟩; (try first | exact ⟨rfl, _, World.drewN_drewN _ _ _⟩ | exact ⟨rfl, _, Eq.trans (World.drewN_drewN _ _ _) (congrArg (World.drewN _) (Nat.add_assoc _ _ _))⟩); have p164 : 0 ≤ (x8_1 : Int) := of_decide_eq_true (by first | (with_reducible assumption) | assumption); have q164 : x8_1 < (l0.length : Int) := of_decide_eq_true (by first | (with_reducible assumption) | assumption); obtain ⟨ad164, e164, hx164_0, hx164_1, hx164_2⟩ := at_T24 HR0.out x8_1 p164 q164; obtain rfl : ad162 = ad164 := (by injection e164); replace hx164_0 := (HB.out.cell (World.block_lt_of_cell? w _ hx164_0)).trans hx164_0; replace hx164_1 := (HB.out.cell (World.block_lt_of_cell? w _ hx164_1)).trans hx164_1; replace hx164_2 := (HB.out.cell (World.block_lt_of_cell? w _ hx164_2)).trans hx164_2; replace p164 := eq_true p164; replace q164 := eq_true q164)); try go_wp2_with (first | (go_at_call 43; (with_reducible refine (cippusref07_Apart.calls k1 a2 (((rd_T24 l0 x8_1).f0).extract 0 a2.size) t163 _ (by have h_ := A10.out; simp only [Int.toNat_natCast] at h_; exact h_)).mono ?_); rintro e w' ⟨rfl, ⟨nd, rfl⟩⟩; (try first | exact ⟨rfl, _, World.drewN_drewN _ _ _⟩ | exact ⟨rfl, _, Eq.trans (World.drewN_drewN _ _ _) (congrArg (World.drewN _) (Nat.add_assoc _ _ _))⟩); have p164 : 0 ≤ (x8_1 : Int) := of_decide_eq_true (by first | (with_reducible assumption) | assumption); have q164 : x8_1 < (l0.length : Int) := of_decide_eq_true (by first | (with_reducible assumption) | assumption); obtain ⟨ad164, e164, hx164_0, hx164_1, hx164_2⟩ := at_T24 HR0.out x8_1 p164 q164; obtain rfl : ad162 = ad164 := (by injection e164); replace hx164_0 := (HB.out.cell (World.block_lt_of_cell? w _ hx164_0)).trans hx164_0; replace hx164_1 := (HB.out.cell (World.block_lt_of_cell? w _ hx164_1)).trans hx164_1; replace hx164_2 := (HB.out.cell (World.block_lt_of_cell? w _ hx164_2)).trans hx164_2; replace p164 := eq_true p164; replace q164 := eq_true q164)))
                    go_ret
                    exact ⟨_, by first | rfl | (simp [errW_none, errW_some] <;> rfl) | (simp [*, errW_none, errW_some] <;> rfl), by first | exact Kd.R_nil _ _ _ _ _ | exact Kd.N_nil _ _ _ _ _ | exact Kd.V_nil _ _ _ _ _ | exact Kd.Q_nil _ _ _ _ _ | exact Kd.S_nil _ _ _ _ _, by repeat (first | (with_reducible first | exact HB.out | apply below_alloc | apply pw_below_drewN | apply below_drew1) | exact HB.out)⟩
                  · rw [if_neg c11] at H
                    have c11b0 : decide (((rd_T24 l0 x8_1).f1) < t163) = false := decide_eq_false c11
                    clear c11
                    have H' := Aside0.mk H
                    clear H
                    have p161 : 0 ≤ (x8_1 : Int) := of_decide_eq_true (by first | (with_reducible assumption) | assumption)
                    have q161 : x8_1 < (l1.length : Int) := of_decide_eq_true (by first | (with_reducible assumption) | assumption)
                    obtain ⟨ad161, e161, hx161_0⟩ := Kd.at_int HR1.out x8_1 p161 q161
                    cases e161
                    try replace hx161_0 := (HB.out.cell (World.block_lt_of_cell? w _ hx161_0)).trans hx161_0
                    replace p161 := eq_true p161
                    replace q161 := eq_true q161
                    have p162 : 0 ≤ (x8_1 : Int) := of_decide_eq_true (by first | (with_reducible assumption) | assumption)
                    have q162 : x8_1 < (l0.length : Int) := of_decide_eq_true (by first | (with_reducible assumption) | assumption)
                    obtain ⟨ad162, e162, hx162_0, hx162_1, hx162_2⟩ := at_T24 HR0.out x8_1 p162 q162
                    cases e162
                    try replace hx162_0 := (HB.out.cell (World.block_lt_of_cell? w _ hx162_0)).trans hx162_0
                    try replace hx162_1 := (HB.out.cell (World.block_lt_of_cell? w _ hx162_1)).trans hx162_1
                    try replace hx162_2 := (HB.out.cell (World.block_lt_of_cell? w _ hx162_2)).trans hx162_2
                    replace p162 := eq_true p162
                    replace q162 := eq_true q162
                    go_wp2_with (first | (go_at_call 43; (with_reducible refine (cippusref07_Apart.calls k1 a2 (((rd_T24 l0 x8_1).f0).extract 0 a2.size) t163 _ (by have h_ := A10.out; simp only [Int.toNat_natCast] at h_; exact h_)).mono ?_); rintro e w' ⟨rfl, ⟨nd, rfl⟩⟩; (try first | exact ⟨rfl, _, World.drewN_drewN _ _ _⟩ | exact ⟨rfl, _, Eq.trans (World.drewN_drewN _ _ _) (congrArg (World.drewN _) (Nat.add_assoc _ _ _))⟩); have p164 : 0 ≤ (x8_1 : Int) := of_decide_eq_true (by first | (with_reducible assumption) | assumption); have q164 : x8_1 < (l0.length : Int) := of_decide_eq_true (by first | (with_reducible assumption) | assumption); obtain ⟨ad164, e164, hx164_0, hx164_1, hx164_2⟩ := at_T24 HR0.out x8_1 p164 q164; obtain rfl : ad162 = ad164 := (by injection e164); replace hx164_0 := (HB.out.cell (World.block_lt_of_cell? w _ hx164_0)).trans hx164_0; replace hx164_1 := (HB.out.cell (World.block_lt_of_cell? w _ hx164_1)).trans hx164_1; replace hx164_2 := (HB.out.cell (World.block_lt_of_cell? w _ hx164_2)).trans hx164_2; replace p164 := eq_true p164; replace q164 := eq_true q164))
                    repeat (go_quiet (first | (go_at_call 43; (with_reducible refine (cippusref07_Apart.calls k1 a2 (((rd_T24 l0 x8_1).f0).extract 0 a2.size) t163 _ (by have h_ := A10.out; simp only [Int.toNat_natCast] at h_; exact h_)).mono ?_); rintro e w' ⟨rfl, ⟨nd, rfl⟩⟩; (try first | exact ⟨rfl, _, World.drewN_drewN _ _ _⟩ | exact ⟨rfl, _, Eq.trans (World.drewN_drewN _ _ _) (congrArg (World.drewN _) (Nat.add_assoc _ _ _))⟩); have p164 : 0 ≤ (x8_1 : Int) := of_decide_eq_true (by first | (with_reducible assumption) | assumption); have q164 : x8_1 < (l0.length : Int) := of_decide_eq_true (by first | (with_reducible assumption) | assumption); obtain ⟨ad164, e164, hx164_0, hx164_1, hx164_2⟩ := at_T24 HR0.out x8_1 p164 q164; obtain rfl : ad162 = ad164 := (by injection e164); replace hx164_0 := (HB.out.cell (World.block_lt_of_cell? w _ hx164_0)).trans hx164_0; replace hx164_1 := (HB.out.cell (World.block_lt_of_cell? w _ hx164_1)).trans hx164_1; replace hx164_2 := (HB.out.cell (World.block_lt_of_cell? w _ hx164_2)).trans hx164_2; replace p164 := eq_true p164; replace q164 := eq_true q164)); try go_wp2_with (first | (go_at_call 43; (with_reducible refine (cippusref07_Apart.calls k1 a2 (((rd_T24 l0 x8_1).f0).extract 0 a2.size) t163 _ (by have h_ := A10.out; simp only [Int.toNat_natCast] at h_; exact h_)).mono ?_); rintro e w' ⟨rfl, ⟨nd, rfl⟩⟩; (try first | exact ⟨rfl, _, World.drewN_drewN _ _ _⟩ | exact ⟨rfl, _, Eq.trans (World.drewN_drewN _ _ _) (congrArg (World.drewN _) (Nat.add_assoc _ _ _))⟩); have p164 : 0 ≤ (x8_1 : Int) := of_decide_eq_true (by first | (with_reducible assumption) | assumption); have q164 : x8_1 < (l0.length : Int) := of_decide_eq_true (by first | (with_reducible assumption) | assumption); obtain ⟨ad164, e164, hx164_0, hx164_1, hx164_2⟩ := at_T24 HR0.out x8_1 p164 q164; obtain rfl : ad162 = ad164 := (by injection e164); replace hx164_0 := (HB.out.cell (World.block_lt_of_cell? w _ hx164_0)).trans hx164_0; replace hx164_1 := (HB.out.cell (World.block_lt_of_cell? w _ hx164_1)).trans hx164_1; replace hx164_2 := (HB.out.cell (World.block_lt_of_cell? w _ hx164_2)).trans hx164_2; replace p164 := eq_true p164; replace q164 := eq_true q164)))
                    go_roundg k1
                    case measure => have := HK1.out; omega
                    case rel => exact ⟨(wrap64 (x8_1 + 1)), (by first | rfl | (simp; done) | (simp [*]; done)), H', ⟨by have := HK1.out; omega⟩, ⟨by repeat (first | (with_reducible first | exact HB.out | apply below_alloc | apply pw_below_drewN | apply below_drew1) | exact HB.out)⟩⟩
                · rw [if_neg c9] at H
                  exact absurd H (by simp)
              · rw [if_neg c8] at H
                exact absurd H (by simp)
            · rw [if_neg c7] at H
              have c7b0 : ((rd l1 x8_1) == (-1)) = false := beq_eq_false_iff_ne.mpr c7
              have c7b1 : ((rd l1 x8_1) != (-1)) = true := bne_iff_ne.mpr c7
              have H' := Aside0.mk H
              clear H
              have p161 : 0 ≤ (x8_1 : Int) := of_decide_eq_true (by first | (with_reducible assumption) | assumption)
              have q161 : x8_1 < (l1.length : Int) := of_decide_eq_true (by first | (with_reducible assumption) | assumption)
              obtain ⟨ad161, e161, hx161_0⟩ := Kd.at_int HR1.out x8_1 p161 q161
              cases e161
              try replace hx161_0 := (HB.out.cell (World.block_lt_of_cell? w _ hx161_0)).trans hx161_0
              replace p161 := eq_true p161
              replace q161 := eq_true q161
              go_wp2
              repeat (go_quiet (fail); try go_wp2)
              go_roundg k1
              case measure => have := HK1.out; omega
              case rel => exact ⟨(wrap64 (x8_1 + 1)), (by first | rfl | (simp; done) | (simp [*]; done)), H', ⟨by have := HK1.out; omega⟩, ⟨by repeat (first | (with_reducible first | exact HB.out | apply below_alloc | apply pw_below_drewN | apply below_drew1) | exact HB.out)⟩⟩
          · rw [if_neg c6] at H
            exact absurd H (by simp)
        · rw [if_neg c5] at H
          exact absurd H (by simp)
      · rw [if_neg c4] at H
        have c4b0 : decide (x8_1 < (l0.length : Int)) = false := decide_eq_false c4
        clear c4
        by_cases c12 : 0 < (l0.length : Int)
        · rw [if_pos c12] at H
          have c12b0 : decide (0 < (l0.length : Int)) = true := decide_eq_true c12
          have c12b1 : decide (0 < l0.length) = true := decide_eq_true (by omega)
          clear c12
          by_cases c13 : (a2.size : Int) = (((rd_T24 l0 0).f0).size : Int)
          · rw [if_pos c13] at H
            have c13b0 : ((a2.size : Int) == (((rd_T24 l0 0).f0).size : Int)) = true := beq_iff_eq.mpr c13
            have c13b1 : ((a2.size : Int) != (((rd_T24 l0 0).f0).size : Int)) = false := bne_eq_false_iff_eq.mpr c13
            have c13b2 : (a2.size == ((rd_T24 l0 0).f0).size) = true := by first | simpa using c13 | (simp at c13 ⊢; omega)
            clear c13
            obtain ⟨y166, hy166⟩ : ∃ y_ : List ByteArray, y_ = (([a2] : List ByteArray)) := ⟨_, rfl⟩
            replace H : (some y166) = some r := by first | (rw [hy166]; with_reducible exact H) | (have H2_ := (Option.bind_some _ _).symm.trans H; rw [hy166]; with_reducible exact H2_) | (have H2_ := (Option.bind_some _ _).symm.trans H; with_reducible exact H2_) | with_reducible exact H | (rw [hy166]; exact H) | exact H
            have Ny166 := Aside0.mk hy166
            clear hy166
            obtain rfl := Option.some.inj H
            have p165 : 0 ≤ (0 : Int) := (by omega)
            have q165 : 0 < (l0.length : Int) := of_decide_eq_true (by first | (with_reducible assumption) | assumption)
            obtain ⟨ad165, e165, hx165_0, hx165_1, hx165_2⟩ := at_T24 HR0.out 0 p165 q165
            cases e165
            have qi165 : (0 < l0.length) = True := eq_true (by omega)
            (try rw [show ((0 : Int)).toNat = 0 from rfl] at hx165_0)
            (try rw [show 0 * 3 = 0 from rfl] at hx165_0)
            (try rw [Addr.add_zero'] at hx165_0)
            (try rw [show ((0 : Int)).toNat = 0 from rfl] at hx165_1)
            (try rw [show 0 * 3 = 0 from rfl] at hx165_1)
            (try rw [Addr.add_zero'] at hx165_1)
            (try rw [show ((0 : Int)).toNat = 0 from rfl] at hx165_2)
            (try rw [show 0 * 3 = 0 from rfl] at hx165_2)
            (try rw [Addr.add_zero'] at hx165_2)
            try replace hx165_0 := (HB.out.cell (World.block_lt_of_cell? w _ hx165_0)).trans hx165_0
            try replace hx165_1 := (HB.out.cell (World.block_lt_of_cell? w _ hx165_1)).trans hx165_1
            try replace hx165_2 := (HB.out.cell (World.block_lt_of_cell? w _ hx165_2)).trans hx165_2
            replace p165 := eq_true p165
            replace q165 := eq_true q165
            go_wp2_with (first | ((with_reducible refine gate_dst (N := 51) rfl ?_); refine Kd.R_lit Kd.string _ 9 ?hg (N := 51) ?hd (xs := ([a2] : List ByteArray)) (inner := [.string a2]) (ok := fun _ => True) (okp := fun _ => True) ?hr ?hp (fun _ hk => hk) trivial (Below.refl _ _) (Nat.le_refl _) (by simp) ?_; (case hd => rfl); (case hg => rfl); (case hr => first | (go_simp; done) | (go_simp; rfl)); (case hp => exact (Reps.one (show Kd.M Kd.string _ _ _ a2 [.string a2] from rfl) (Reps.none _ _))); intro v167 w14 ho15 hb hg_ hnew_; clear hg_ hnew_; (first | rw [← Ny166.out] at ho15 | (simp only [Int.reduceToNat] at ho15; rw [← Ny166.out] at ho15)); have n0_ := Aside0.mk (Kd.R_lower ho15 (below_size (by repeat (first | (with_reducible first | exact HB.out | apply below_alloc | apply pw_below_drewN | apply below_drew1) | exact HB.out)))); have n1_ := Aside0.mk (below_step (by repeat (first | (with_reducible first | exact HB.out | apply below_alloc | apply pw_below_drewN | apply below_drew1) | exact HB.out)) hb); clear HB; have HO168 := n0_; have HB := n1_; clear n0_ n1_; clear hb ho15))
            repeat (go_quiet (first | ((with_reducible refine gate_dst (N := 51) rfl ?_); refine Kd.R_lit Kd.string _ 9 ?hg (N := 51) ?hd (xs := ([a2] : List ByteArray)) (inner := [.string a2]) (ok := fun _ => True) (okp := fun _ => True) ?hr ?hp (fun _ hk => hk) trivial (Below.refl _ _) (Nat.le_refl _) (by simp) ?_; (case hd => rfl); (case hg => rfl); (case hr => first | (go_simp; done) | (go_simp; rfl)); (case hp => exact (Reps.one (show Kd.M Kd.string _ _ _ a2 [.string a2] from rfl) (Reps.none _ _))); intro v167 w14 ho15 hb hg_ hnew_; clear hg_ hnew_; (first | rw [← Ny166.out] at ho15 | (simp only [Int.reduceToNat] at ho15; rw [← Ny166.out] at ho15)); have n0_ := Aside0.mk (Kd.R_lower ho15 (below_size (by repeat (first | (with_reducible first | exact HB.out | apply below_alloc | apply pw_below_drewN | apply below_drew1) | exact HB.out)))); have n1_ := Aside0.mk (below_step (by repeat (first | (with_reducible first | exact HB.out | apply below_alloc | apply pw_below_drewN | apply below_drew1) | exact HB.out)) hb); clear HB; have HO168 := n0_; have HB := n1_; clear n0_ n1_; clear hb ho15)); try go_wp2_with (first | ((with_reducible refine gate_dst (N := 51) rfl ?_); refine Kd.R_lit Kd.string _ 9 ?hg (N := 51) ?hd (xs := ([a2] : List ByteArray)) (inner := [.string a2]) (ok := fun _ => True) (okp := fun _ => True) ?hr ?hp (fun _ hk => hk) trivial (Below.refl _ _) (Nat.le_refl _) (by simp) ?_; (case hd => rfl); (case hg => rfl); (case hr => first | (go_simp; done) | (go_simp; rfl)); (case hp => exact (Reps.one (show Kd.M Kd.string _ _ _ a2 [.string a2] from rfl) (Reps.none _ _))); intro v167 w14 ho15 hb hg_ hnew_; clear hg_ hnew_; (first | rw [← Ny166.out] at ho15 | (simp only [Int.reduceToNat] at ho15; rw [← Ny166.out] at ho15)); have n0_ := Aside0.mk (Kd.R_lower ho15 (below_size (by repeat (first | (with_reducible first | exact HB.out | apply below_alloc | apply pw_below_drewN | apply below_drew1) | exact HB.out)))); have n1_ := Aside0.mk (below_step (by repeat (first | (with_reducible first | exact HB.out | apply below_alloc | apply pw_below_drewN | apply below_drew1) | exact HB.out)) hb); clear HB; have HO168 := n0_; have HB := n1_; clear n0_ n1_; clear hb ho15)))
            go_ret
            exact ⟨_, by first | rfl | (simp [errW_none, errW_some] <;> rfl) | (simp [*, errW_none, errW_some] <;> rfl), by (with_reducible repeat (first | apply Kd.R_alloc | apply Kd.R_drewN | apply Kd.R_drew)); exact HO168.out, by repeat (first | (with_reducible first | exact HB.out | apply below_alloc | apply pw_below_drewN | apply below_drew1) | exact HB.out)⟩
          · rw [if_neg c13] at H
            have c13b0 : ((a2.size : Int) == (((rd_T24 l0 0).f0).size : Int)) = false := beq_eq_false_iff_ne.mpr c13
            have c13b1 : ((a2.size : Int) != (((rd_T24 l0 0).f0).size : Int)) = true := bne_iff_ne.mpr c13
            have c13b2 : (a2.size == ((rd_T24 l0 0).f0).size) = false := by first | simpa using c13 | (simp at c13 ⊢; omega)
            obtain ⟨y169, hy169⟩ : ∃ y_ : List Int, y_ = (([42] : List Int)) := ⟨_, rfl⟩
            replace H : (cippusref07_stones.l1 k1 l0 l1 a2 (a2.size : Int) (strOfNums y169) 0) = some r := by first | (rw [hy169]; with_reducible exact H) | (have H2_ := (Option.bind_some _ _).symm.trans H; rw [hy169]; with_reducible exact H2_) | (have H2_ := (Option.bind_some _ _).symm.trans H; with_reducible exact H2_) | with_reducible exact H | (rw [hy169]; exact H) | exact H
            have Ny169 := Aside0.mk hy169
            clear hy169
            have H' := Aside0.mk H
            clear H
            have p165 : 0 ≤ (0 : Int) := (by omega)
            have q165 : 0 < (l0.length : Int) := of_decide_eq_true (by first | (with_reducible assumption) | assumption)
            obtain ⟨ad165, e165, hx165_0, hx165_1, hx165_2⟩ := at_T24 HR0.out 0 p165 q165
            cases e165
            have qi165 : (0 < l0.length) = True := eq_true (by omega)
            (try rw [show ((0 : Int)).toNat = 0 from rfl] at hx165_0)
            (try rw [show 0 * 3 = 0 from rfl] at hx165_0)
            (try rw [Addr.add_zero'] at hx165_0)
            (try rw [show ((0 : Int)).toNat = 0 from rfl] at hx165_1)
            (try rw [show 0 * 3 = 0 from rfl] at hx165_1)
            (try rw [Addr.add_zero'] at hx165_1)
            (try rw [show ((0 : Int)).toNat = 0 from rfl] at hx165_2)
            (try rw [show 0 * 3 = 0 from rfl] at hx165_2)
            (try rw [Addr.add_zero'] at hx165_2)
            try replace hx165_0 := (HB.out.cell (World.block_lt_of_cell? w _ hx165_0)).trans hx165_0
            try replace hx165_1 := (HB.out.cell (World.block_lt_of_cell? w _ hx165_1)).trans hx165_1
            try replace hx165_2 := (HB.out.cell (World.block_lt_of_cell? w _ hx165_2)).trans hx165_2
            replace p165 := eq_true p165
            replace q165 := eq_true q165
            go_wp2_with (first | ((with_reducible refine gate_dst (N := 52) rfl ?_); refine Kd.R_lit (Kd.int .u8) _ 5 ?hg (N := 52) ?hd (xs := ([42] : List Int)) (inner := [.int .u8 42]) (ok := fun _ => True) (okp := fun _ => True) ?hr ?hp (fun _ hk => hk) trivial (Below.refl _ _) (Nat.le_refl _) (by simp) ?_; (case hd => rfl); (case hg => rfl); (case hr => first | (go_simp; done) | (go_simp; rfl)); (case hp => exact (Reps.one (show Kd.M (Kd.int .u8) _ _ _ 42 [.int .u8 42] from rfl) (Reps.none _ _))); intro v170 w16 ho17 hb hg_ hnew_; clear hg_ hnew_; (first | rw [← Ny169.out] at ho17 | (simp only [Int.reduceToNat] at ho17; rw [← Ny169.out] at ho17)); have n0_ := Aside0.mk (Kd.R_lower ho17 (below_size (by repeat (first | (with_reducible first | exact HB.out | apply below_alloc | apply pw_below_drewN | apply below_drew1) | exact HB.out)))); have n1_ := Aside0.mk (below_step (by repeat (first | (with_reducible first | exact HB.out | apply below_alloc | apply pw_below_drewN | apply below_drew1) | exact HB.out)) hb); clear HB; have HO171 := n0_; have HB := n1_; clear n0_ n1_; clear hb ho17; have hcv18 := own_string (P := Try.prog) Try.underlying61 Try.underlying5 Try.underlying9 (Kd.own_of_R HO171.out)))
            repeat (go_quiet (first | ((with_reducible refine gate_dst (N := 52) rfl ?_); refine Kd.R_lit (Kd.int .u8) _ 5 ?hg (N := 52) ?hd (xs := ([42] : List Int)) (inner := [.int .u8 42]) (ok := fun _ => True) (okp := fun _ => True) ?hr ?hp (fun _ hk => hk) trivial (Below.refl _ _) (Nat.le_refl _) (by simp) ?_; (case hd => rfl); (case hg => rfl); (case hr => first | (go_simp; done) | (go_simp; rfl)); (case hp => exact (Reps.one (show Kd.M (Kd.int .u8) _ _ _ 42 [.int .u8 42] from rfl) (Reps.none _ _))); intro v170 w16 ho17 hb hg_ hnew_; clear hg_ hnew_; (first | rw [← Ny169.out] at ho17 | (simp only [Int.reduceToNat] at ho17; rw [← Ny169.out] at ho17)); have n0_ := Aside0.mk (Kd.R_lower ho17 (below_size (by repeat (first | (with_reducible first | exact HB.out | apply below_alloc | apply pw_below_drewN | apply below_drew1) | exact HB.out)))); have n1_ := Aside0.mk (below_step (by repeat (first | (with_reducible first | exact HB.out | apply below_alloc | apply pw_below_drewN | apply below_drew1) | exact HB.out)) hb); clear HB; have HO171 := n0_; have HB := n1_; clear n0_ n1_; clear hb ho17; have hcv18 := own_string (P := Try.prog) Try.underlying61 Try.underlying5 Try.underlying9 (Kd.own_of_R HO171.out))); try go_wp2_with (first | ((with_reducible refine gate_dst (N := 52) rfl ?_); refine Kd.R_lit (Kd.int .u8) _ 5 ?hg (N := 52) ?hd (xs := ([42] : List Int)) (inner := [.int .u8 42]) (ok := fun _ => True) (okp := fun _ => True) ?hr ?hp (fun _ hk => hk) trivial (Below.refl _ _) (Nat.le_refl _) (by simp) ?_; (case hd => rfl); (case hg => rfl); (case hr => first | (go_simp; done) | (go_simp; rfl)); (case hp => exact (Reps.one (show Kd.M (Kd.int .u8) _ _ _ 42 [.int .u8 42] from rfl) (Reps.none _ _))); intro v170 w16 ho17 hb hg_ hnew_; clear hg_ hnew_; (first | rw [← Ny169.out] at ho17 | (simp only [Int.reduceToNat] at ho17; rw [← Ny169.out] at ho17)); have n0_ := Aside0.mk (Kd.R_lower ho17 (below_size (by repeat (first | (with_reducible first | exact HB.out | apply below_alloc | apply pw_below_drewN | apply below_drew1) | exact HB.out)))); have n1_ := Aside0.mk (below_step (by repeat (first | (with_reducible first | exact HB.out | apply below_alloc | apply pw_below_drewN | apply below_drew1) | exact HB.out)) hb); clear HB; have HO171 := n0_; have HB := n1_; clear n0_ n1_; clear hb ho17; have hcv18 := own_string (P := Try.prog) Try.underlying61 Try.underlying5 Try.underlying9 (Kd.own_of_R HO171.out))))
            go_loopg [9, 10] k1 (fun kq v9 v10 w' => ∃ (x9_2 : ByteArray) (x10_2 : Int), v9 = .string x9_2 ∧ v10 = .int .i64 x10_2 ∧ Aside0 (cippusref07_stones.l1 kq l0 l1 a2 (a2.size : Int) x9_2 x10_2 = some r) ∧ Aside0 (kq ≤ k1) ∧ Aside0 (Below w.heap.size w w'))
            case atStart => exact ⟨(strOfNums y169), (0), (by first | rfl | (simp; done) | (simp [*]; done)), (by first | rfl | (simp; done) | (simp [*]; done)), H', ⟨Nat.le_refl _⟩, ⟨by repeat (first | (with_reducible first | exact HB.out | apply below_alloc | apply pw_below_drewN | apply below_drew1) | exact HB.out)⟩⟩
            case round =>
              clear H'
              try clear c1
              try clear p1
              try clear q1
              try clear hx1
              try clear hcv1
              try clear qi1
              try clear p2
              try clear c4
              try clear c4b0
              try clear c5
              try clear c5b0
              try clear c6
              try clear c6b0
              try clear p6
              try clear c7
              try clear c7b0
              try clear c7b1
              try clear c8
              try clear c8b0
              try clear c8b1
              try clear c9
              try clear c9b0
              try clear c9b1
              try clear c11
              try clear c11b0
              try clear c12
              try clear c12b0
              try clear c12b1
              try clear c13
              try clear c13b0
              try clear c13b1
              try clear c13b2
              try clear p16
              try clear q16
              try clear hx16
              try clear qi16
              try clear hcv18
              try clear hx161_0
              try clear hx162_0
              try clear hx162_1
              try clear hx162_2
              try clear hx164_0
              try clear hx164_1
              try clear hx164_2
              try clear hx165_0
              try clear hx165_1
              try clear hx165_2
              try clear p161
              try clear p162
              try clear p164
              try clear p165
              try clear p2
              try clear q161
              try clear q162
              try clear q164
              try clear q165
              obtain ⟨x9_2, x10_2, rfl, rfl, HA, HK2, HB⟩ := hrel
              cases gk with
              | zero => exact absurd HA.out (by simp [cippusref07_stones.l1])
              | succ k2 =>
                have H := HA.out
                clear HA
                simp only [cippusref07_stones.l1] at H
                by_cases c19 : x10_2 < (l0.length : Int)
                · rw [if_pos c19] at H
                  have c19b0 : decide (x10_2 < (l0.length : Int)) = true := decide_eq_true c19
                  clear c19
                  by_cases c20 : 0 ≤ x10_2
                  · rw [if_pos c20] at H
                    have c20b0 : decide (0 ≤ x10_2) = true := decide_eq_true c20
                    clear c20
                    by_cases c21 : 0 ≤ (a2.size : Int)
                    · rw [if_pos c21] at H
                      have c21b0 : decide (0 ≤ (a2.size : Int)) = true := decide_eq_true c21
                      have c21b1 : decide (0 ≤ a2.size) = true := decide_eq_true (by omega)
                      clear c21
                      by_cases c22 : (a2.size : Int) < (((rd_T24 l0 x10_2).f0).size : Int)
                      · rw [if_pos c22] at H
                        have c22b0 : decide ((a2.size : Int) < (((rd_T24 l0 x10_2).f0).size : Int)) = true := decide_eq_true c22
                        have c22b1 : decide (a2.size < ((rd_T24 l0 x10_2).f0).size) = true := decide_eq_true (Int.ofNat_lt.mp c22)
                        clear c22
                        replace H := Option.bind_eq_some_iff.mp H
                        obtain ⟨t173, A240, H⟩ := H
                        replace H : (if t173 = true then (cippusref07_stones.l1 k2 l0 l1 a2 (a2.size : Int) x9_2 (wrap64 (x10_2 + 1))) else (if (a2.size : Int) ≤ (wrap64 ((a2.size : Int) + 1)) then (if (wrap64 ((a2.size : Int) + 1)) ≤ (((rd_T24 l0 x10_2).f0).size : Int) then (if x9_2.size + (((rd_T24 l0 x10_2).f0).extract ((a2.size : Int) : Int).toNat ((wrap64 ((a2.size : Int) + 1)) : Int).toNat).size ≤ 9223372036854775807 then (cippusref07_stones.l1 k2 l0 l1 a2 (a2.size : Int) (x9_2 ++ (((rd_T24 l0 x10_2).f0).extract ((a2.size : Int) : Int).toNat ((wrap64 ((a2.size : Int) + 1)) : Int).toNat)) (wrap64 (x10_2 + 1))) else (none)) else (none)) else (none))) = some r := H
                        have A24 := Aside0.mk A240
                        clear A240
                        by_cases c25 : t173 = true
                        · subst c25
                          have H1 : (cippusref07_stones.l1 k2 l0 l1 a2 (a2.size : Int) x9_2 (wrap64 (x10_2 + 1))) = some r := by rw [if_pos rfl] at H; exact H
                          clear H
                          have H := H1
                          clear H1
                          have H' := Aside0.mk H
                          clear H
                          have p172 : 0 ≤ (x10_2 : Int) := of_decide_eq_true (by first | (with_reducible assumption) | assumption)
                          have q172 : x10_2 < (l0.length : Int) := of_decide_eq_true (by first | (with_reducible assumption) | assumption)
                          obtain ⟨ad172, e172, hx172_0, hx172_1, hx172_2⟩ := at_T24 HR0.out x10_2 p172 q172
                          obtain rfl : ad165 = ad172 := (by injection e172)
                          try replace hx172_0 := (HB.out.cell (World.block_lt_of_cell? w _ hx172_0)).trans hx172_0
                          try replace hx172_1 := (HB.out.cell (World.block_lt_of_cell? w _ hx172_1)).trans hx172_1
                          try replace hx172_2 := (HB.out.cell (World.block_lt_of_cell? w _ hx172_2)).trans hx172_2
                          replace p172 := eq_true p172
                          replace q172 := eq_true q172
                          have p23 : 0 ≤ ((a2.size : Int) : Int) := of_decide_eq_true (by first | (with_reducible assumption) | assumption)
                          have q23 : (a2.size : Int) < (((rd_T24 l0 x10_2).f0).size : Int) := of_decide_eq_true (by first | (with_reducible assumption) | assumption)
                          have hx23 := bt_at ((rd_T24 l0 x10_2).f0) (a2.size : Int) (by simp only [Int.toNat_natCast]; omega)
                          simp only [Int.toNat_natCast] at hx23
                          replace p23 := eq_true p23
                          replace q23 := eq_true q23
                          go_wp2_with (first | (go_at_call 55; (with_reducible refine (cippusref07_has.calls k2 x9_2 (bt ((rd_T24 l0 x10_2).f0) (a2.size : Int)) true _ A24.out).mono ?_); rintro e w' ⟨rfl, ⟨nd, rfl⟩⟩; (try first | exact ⟨rfl, _, World.drewN_drewN _ _ _⟩ | exact ⟨rfl, _, Eq.trans (World.drewN_drewN _ _ _) (congrArg (World.drewN _) (Nat.add_assoc _ _ _))⟩)))
                          repeat (go_quiet (first | (go_at_call 55; (with_reducible refine (cippusref07_has.calls k2 x9_2 (bt ((rd_T24 l0 x10_2).f0) (a2.size : Int)) true _ A24.out).mono ?_); rintro e w' ⟨rfl, ⟨nd, rfl⟩⟩; (try first | exact ⟨rfl, _, World.drewN_drewN _ _ _⟩ | exact ⟨rfl, _, Eq.trans (World.drewN_drewN _ _ _) (congrArg (World.drewN _) (Nat.add_assoc _ _ _))⟩))); try go_wp2_with (first | (go_at_call 55; (with_reducible refine (cippusref07_has.calls k2 x9_2 (bt ((rd_T24 l0 x10_2).f0) (a2.size : Int)) true _ A24.out).mono ?_); rintro e w' ⟨rfl, ⟨nd, rfl⟩⟩; (try first | exact ⟨rfl, _, World.drewN_drewN _ _ _⟩ | exact ⟨rfl, _, Eq.trans (World.drewN_drewN _ _ _) (congrArg (World.drewN _) (Nat.add_assoc _ _ _))⟩))))
                          go_roundg k2
                          case measure => have := HK1.out; have := HK2.out; omega
                          case rel => exact ⟨(x9_2), (wrap64 (x10_2 + 1)), (by first | rfl | (simp; done) | (simp [*]; done)), (by first | rfl | (simp; done) | (simp [*]; done)), H', ⟨by have := HK1.out; have := HK2.out; omega⟩, ⟨by repeat (first | (with_reducible first | exact HB.out | apply below_alloc | apply pw_below_drewN | apply below_drew1) | exact HB.out)⟩⟩
                        · replace c25 := Bool.eq_false_iff.mpr c25
                          subst c25
                          have H1 : (if (a2.size : Int) ≤ (wrap64 ((a2.size : Int) + 1)) then (if (wrap64 ((a2.size : Int) + 1)) ≤ (((rd_T24 l0 x10_2).f0).size : Int) then (if x9_2.size + (((rd_T24 l0 x10_2).f0).extract ((a2.size : Int) : Int).toNat ((wrap64 ((a2.size : Int) + 1)) : Int).toNat).size ≤ 9223372036854775807 then (cippusref07_stones.l1 k2 l0 l1 a2 (a2.size : Int) (x9_2 ++ (((rd_T24 l0 x10_2).f0).extract ((a2.size : Int) : Int).toNat ((wrap64 ((a2.size : Int) + 1)) : Int).toNat)) (wrap64 (x10_2 + 1))) else (none)) else (none)) else (none)) = some r := by rw [if_neg (show ¬ (false = true) by decide)] at H; exact H
                          clear H
                          have H := H1
                          clear H1
                          have c26b0 := eq_true (of_decide_eq_true (by first | (with_reducible assumption) | assumption) : 0 ≤ (a2.size : Int))
                          by_cases c27 : (a2.size : Int) ≤ (wrap64 ((a2.size : Int) + 1))
                          · rw [if_pos c27] at H
                            have c27b0 := eq_true c27
                            have c27b1 : decide ((a2.size : Int) ≤ (wrap64 ((a2.size : Int) + 1))) = true := decide_eq_true c27
                            by_cases c28 : (wrap64 ((a2.size : Int) + 1)) ≤ (((rd_T24 l0 x10_2).f0).size : Int)
                            · rw [if_pos c28] at H
                              have c28b0 := eq_true c28
                              have c28b1 : decide ((wrap64 ((a2.size : Int) + 1)) ≤ (((rd_T24 l0 x10_2).f0).size : Int)) = true := decide_eq_true c28
                              by_cases c29 : x9_2.size + (((rd_T24 l0 x10_2).f0).extract ((a2.size : Int) : Int).toNat ((wrap64 ((a2.size : Int) + 1)) : Int).toNat).size ≤ 9223372036854775807
                              · rw [if_pos c29] at H
                                have c29b0 := eq_true c29
                                have c29b1 : decide (x9_2.size + (((rd_T24 l0 x10_2).f0).extract ((a2.size : Int) : Int).toNat ((wrap64 ((a2.size : Int) + 1)) : Int).toNat).size ≤ 9223372036854775807) = true := decide_eq_true c29
                                try simp only [Int.toNat_natCast] at c29b1
                                try have c29b2 : (9223372036854775807 < x9_2.size + (((rd_T24 l0 x10_2).f0).extract ((a2.size : Int) : Int).toNat ((wrap64 ((a2.size : Int) + 1)) : Int).toNat).size) = False := eq_false (Nat.not_lt.2 c29)
                                try have c29b7 : (9223372036854775807 < x9_2.size + (((wrap64 ((a2.size : Int) + 1)) : Int).toNat - a2.size)) = False := by first | (have h_ := c29; rw [ByteArray.size_extract] at h_; simp only [Int.toNat_natCast] at h_; simp only [eq_iff_iff, iff_false]; omega) | (have h_ := c29; rw [ByteArray.size_extract] at h_; simp at h_; simp; omega)
                                try simp only [Int.toNat_natCast] at c29b2
                                have H' := Aside0.mk H
                                clear H
                                have p172 : 0 ≤ (x10_2 : Int) := of_decide_eq_true (by first | (with_reducible assumption) | assumption)
                                have q172 : x10_2 < (l0.length : Int) := of_decide_eq_true (by first | (with_reducible assumption) | assumption)
                                obtain ⟨ad172, e172, hx172_0, hx172_1, hx172_2⟩ := at_T24 HR0.out x10_2 p172 q172
                                obtain rfl : ad165 = ad172 := (by injection e172)
                                try replace hx172_0 := (HB.out.cell (World.block_lt_of_cell? w _ hx172_0)).trans hx172_0
                                try replace hx172_1 := (HB.out.cell (World.block_lt_of_cell? w _ hx172_1)).trans hx172_1
                                try replace hx172_2 := (HB.out.cell (World.block_lt_of_cell? w _ hx172_2)).trans hx172_2
                                replace p172 := eq_true p172
                                replace q172 := eq_true q172
                                have p23 : 0 ≤ ((a2.size : Int) : Int) := of_decide_eq_true (by first | (with_reducible assumption) | assumption)
                                have q23 : (a2.size : Int) < (((rd_T24 l0 x10_2).f0).size : Int) := of_decide_eq_true (by first | (with_reducible assumption) | assumption)
                                have hx23 := bt_at ((rd_T24 l0 x10_2).f0) (a2.size : Int) (by simp only [Int.toNat_natCast]; omega)
                                simp only [Int.toNat_natCast] at hx23
                                replace p23 := eq_true p23
                                replace q23 := eq_true q23
                                go_wp2_with (first | (go_at_call 55; (with_reducible refine (cippusref07_has.calls k2 x9_2 (bt ((rd_T24 l0 x10_2).f0) (a2.size : Int)) false _ A24.out).mono ?_); rintro e w' ⟨rfl, ⟨nd, rfl⟩⟩; (try first | exact ⟨rfl, _, World.drewN_drewN _ _ _⟩ | exact ⟨rfl, _, Eq.trans (World.drewN_drewN _ _ _) (congrArg (World.drewN _) (Nat.add_assoc _ _ _))⟩); have p174 : 0 ≤ (x10_2 : Int) := of_decide_eq_true (by first | (with_reducible assumption) | assumption); have q174 : x10_2 < (l0.length : Int) := of_decide_eq_true (by first | (with_reducible assumption) | assumption); obtain ⟨ad174, e174, hx174_0, hx174_1, hx174_2⟩ := at_T24 HR0.out x10_2 p174 q174; obtain rfl : ad165 = ad174 := (by injection e174); replace hx174_0 := (HB.out.cell (World.block_lt_of_cell? w _ hx174_0)).trans hx174_0; replace hx174_1 := (HB.out.cell (World.block_lt_of_cell? w _ hx174_1)).trans hx174_1; replace hx174_2 := (HB.out.cell (World.block_lt_of_cell? w _ hx174_2)).trans hx174_2; replace p174 := eq_true p174; replace q174 := eq_true q174))
                                repeat (go_quiet (first | (go_at_call 55; (with_reducible refine (cippusref07_has.calls k2 x9_2 (bt ((rd_T24 l0 x10_2).f0) (a2.size : Int)) false _ A24.out).mono ?_); rintro e w' ⟨rfl, ⟨nd, rfl⟩⟩; (try first | exact ⟨rfl, _, World.drewN_drewN _ _ _⟩ | exact ⟨rfl, _, Eq.trans (World.drewN_drewN _ _ _) (congrArg (World.drewN _) (Nat.add_assoc _ _ _))⟩); have p174 : 0 ≤ (x10_2 : Int) := of_decide_eq_true (by first | (with_reducible assumption) | assumption); have q174 : x10_2 < (l0.length : Int) := of_decide_eq_true (by first | (with_reducible assumption) | assumption); obtain ⟨ad174, e174, hx174_0, hx174_1, hx174_2⟩ := at_T24 HR0.out x10_2 p174 q174; obtain rfl : ad165 = ad174 := (by injection e174); replace hx174_0 := (HB.out.cell (World.block_lt_of_cell? w _ hx174_0)).trans hx174_0; replace hx174_1 := (HB.out.cell (World.block_lt_of_cell? w _ hx174_1)).trans hx174_1; replace hx174_2 := (HB.out.cell (World.block_lt_of_cell? w _ hx174_2)).trans hx174_2; replace p174 := eq_true p174; replace q174 := eq_true q174)); try go_wp2_with (first | (go_at_call 55; (with_reducible refine (cippusref07_has.calls k2 x9_2 (bt ((rd_T24 l0 x10_2).f0) (a2.size : Int)) false _ A24.out).mono ?_); rintro e w' ⟨rfl, ⟨nd, rfl⟩⟩; (try first | exact ⟨rfl, _, World.drewN_drewN _ _ _⟩ | exact ⟨rfl, _, Eq.trans (World.drewN_drewN _ _ _) (congrArg (World.drewN _) (Nat.add_assoc _ _ _))⟩); have p174 : 0 ≤ (x10_2 : Int) := of_decide_eq_true (by first | (with_reducible assumption) | assumption); have q174 : x10_2 < (l0.length : Int) := of_decide_eq_true (by first | (with_reducible assumption) | assumption); obtain ⟨ad174, e174, hx174_0, hx174_1, hx174_2⟩ := at_T24 HR0.out x10_2 p174 q174; obtain rfl : ad165 = ad174 := (by injection e174); replace hx174_0 := (HB.out.cell (World.block_lt_of_cell? w _ hx174_0)).trans hx174_0; replace hx174_1 := (HB.out.cell (World.block_lt_of_cell? w _ hx174_1)).trans hx174_1; replace hx174_2 := (HB.out.cell (World.block_lt_of_cell? w _ hx174_2)).trans hx174_2; replace p174 := eq_true p174; replace q174 := eq_true q174)))
                                go_roundg k2
                                case measure => have := HK1.out; have := HK2.out; omega
                                case rel => exact ⟨(x9_2 ++ (((rd_T24 l0 x10_2).f0).extract ((a2.size : Int) : Int).toNat ((wrap64 ((a2.size : Int) + 1)) : Int).toNat)), (wrap64 (x10_2 + 1)), (by first | rfl | (simp; done) | (simp [*]; done)), (by first | rfl | (simp; done) | (simp [*]; done)), H', ⟨by have := HK1.out; have := HK2.out; omega⟩, ⟨by repeat (first | (with_reducible first | exact HB.out | apply below_alloc | apply pw_below_drewN | apply below_drew1) | exact HB.out)⟩⟩
                              · rw [if_neg c29] at H
                                exact absurd H (by simp)
                            · rw [if_neg c28] at H
                              exact absurd H (by simp)
                          · rw [if_neg c27] at H
                            exact absurd H (by simp)
                      · rw [if_neg c22] at H
                        exact absurd H (by simp)
                    · rw [if_neg c21] at H
                      exact absurd H (by simp)
                  · rw [if_neg c20] at H
                    exact absurd H (by simp)
                · rw [if_neg c19] at H
                  have c19b0 : decide (x10_2 < (l0.length : Int)) = false := decide_eq_false c19
                  clear c19
                  have H' := Aside0.mk H
                  clear H
                  go_wp2
                  repeat (go_quiet (fail); try go_wp2)
                  go_loopg [11, 12] k2 (fun kq v11 v12 w' => ∃ (x11_3 : List ByteArray) (x12_3 : Int), v12 = .int .i64 x12_3 ∧ Aside0 (cippusref07_stones.l2 kq l0 l1 a2 x9_2 x11_3 x12_3 = some r) ∧ Aside0 (kq ≤ k2) ∧ Aside0 (Kd.R Kd.string 9 w' w.heap.size (fun _ => True) v11 x11_3) ∧ Aside0 (Below w.heap.size w w'))
                  case atStart => exact ⟨(([] : List ByteArray)), (0), (by first | rfl | (simp; done) | (simp [*]; done)), H', ⟨Nat.le_refl _⟩, ⟨by first | exact Kd.R_nil _ _ _ _ _ | exact Kd.N_nil _ _ _ _ _ | exact Kd.V_nil _ _ _ _ _ | exact Kd.Q_nil _ _ _ _ _ | exact Kd.S_nil _ _ _ _ _⟩, ⟨by repeat (first | (with_reducible first | exact HB.out | apply below_alloc | apply pw_below_drewN | apply below_drew1) | exact HB.out)⟩⟩
                  case round =>
                    clear H'
                    try clear c1
                    try clear p1
                    try clear q1
                    try clear hx1
                    try clear hcv1
                    try clear qi1
                    try clear c2
                    try clear p2
                    try clear q2
                    try clear hx2
                    try clear c4
                    try clear c4b0
                    try clear c5
                    try clear c5b0
                    try clear c6
                    try clear c6b0
                    try clear p6
                    try clear c7
                    try clear c7b0
                    try clear c7b1
                    try clear c8
                    try clear c8b0
                    try clear c8b1
                    try clear c9
                    try clear c9b0
                    try clear c9b1
                    try clear c11
                    try clear c11b0
                    try clear c12
                    try clear c12b0
                    try clear c12b1
                    try clear c13
                    try clear c13b0
                    try clear c13b1
                    try clear c13b2
                    try clear p16
                    try clear q16
                    try clear hx16
                    try clear qi16
                    try clear p17
                    try clear q17
                    try clear hx17
                    try clear hcv18
                    try clear c19
                    try clear c19b0
                    try clear c20
                    try clear c20b0
                    try clear c21
                    try clear c21b0
                    try clear c21b1
                    try clear c22
                    try clear c22b0
                    try clear c22b1
                    try clear p23
                    try clear q23
                    try clear hx23
                    try clear c25
                    try clear c26
                    try clear c26b0
                    try clear c27
                    try clear c27b0
                    try clear c27b1
                    try clear c28
                    try clear c28b0
                    try clear c28b1
                    try clear c29
                    try clear c29b0
                    try clear c29b1
                    try clear c29b2
                    try clear hx161_0
                    try clear hx162_0
                    try clear hx162_1
                    try clear hx162_2
                    try clear hx164_0
                    try clear hx164_1
                    try clear hx164_2
                    try clear hx165_0
                    try clear hx165_1
                    try clear hx165_2
                    try clear hx172_0
                    try clear hx172_1
                    try clear hx172_2
                    try clear hx174_0
                    try clear hx174_1
                    try clear hx174_2
                    try clear p1
                    try clear p16
                    try clear p161
                    try clear p162
                    try clear p164
                    try clear p165
                    try clear p172
                    try clear p174
                    try clear p2
                    try clear p23
                    try clear p6
                    try clear q1
                    try clear q16
                    try clear q161
                    try clear q162
                    try clear q164
                    try clear q165
                    try clear q172
                    try clear q174
                    try clear q23
                    obtain ⟨x11_3, x12_3, rfl, HA, HK3, HO_11, HB⟩ := hrel
                    cases gk with
                    | zero => exact absurd HA.out (by simp [cippusref07_stones.l2])
                    | succ k3 =>
                      have H := HA.out
                      clear HA
                      simp only [cippusref07_stones.l2] at H
                      by_cases c30 : x12_3 < (x9_2.size : Int)
                      · rw [if_pos c30] at H
                        have c30b0 : decide (x12_3 < (x9_2.size : Int)) = true := decide_eq_true c30
                        clear c30
                        by_cases c31 : 0 ≤ x12_3
                        · rw [if_pos c31] at H
                          have c31b0 := eq_true c31
                          have c31b1 : decide (0 ≤ x12_3) = true := decide_eq_true c31
                          clear c31
                          by_cases c32 : x12_3 ≤ (wrap64 (x12_3 + 1))
                          · rw [if_pos c32] at H
                            have c32b0 := eq_true c32
                            have c32b1 : decide (x12_3 ≤ (wrap64 (x12_3 + 1))) = true := decide_eq_true c32
                            by_cases c33 : (wrap64 (x12_3 + 1)) ≤ (x9_2.size : Int)
                            · rw [if_pos c33] at H
                              have c33b0 := eq_true c33
                              have c33b1 : decide ((wrap64 (x12_3 + 1)) ≤ (x9_2.size : Int)) = true := decide_eq_true c33
                              by_cases c34 : a2.size + (x9_2.extract (x12_3 : Int).toNat ((wrap64 (x12_3 + 1)) : Int).toNat).size ≤ 9223372036854775807
                              · rw [if_pos c34] at H
                                have c34b0 := eq_true c34
                                have c34b1 : decide (a2.size + (x9_2.extract (x12_3 : Int).toNat ((wrap64 (x12_3 + 1)) : Int).toNat).size ≤ 9223372036854775807) = true := decide_eq_true c34
                                try have c34b2 : (9223372036854775807 < a2.size + (x9_2.extract (x12_3 : Int).toNat ((wrap64 (x12_3 + 1)) : Int).toNat).size) = False := eq_false (Nat.not_lt.2 c34)
                                replace H := Option.bind_eq_some_iff.mp H
                                obtain ⟨t175, A350, H⟩ := H
                                replace H : (if x11_3.length + t175.length < 8796093022208 then (cippusref07_stones.l2 k3 l0 l1 a2 x9_2 (x11_3 ++ t175) (wrap64 (x12_3 + 1))) else (none)) = some r := H
                                have A35 := Aside0.mk A350
                                clear A350
                                by_cases c36 : x11_3.length + t175.length < 8796093022208
                                · rw [if_pos c36] at H
                                  have LMc36 := Aside0.mk c36
                                  clear c36
                                  obtain ⟨y178, hy178⟩ : ∃ y_ : List ByteArray, y_ = (x11_3 ++ t175) := ⟨_, rfl⟩
                                  replace H : (cippusref07_stones.l2 k3 l0 l1 a2 x9_2 y178 (wrap64 (x12_3 + 1))) = some r := by first | (rw [hy178]; with_reducible exact H) | (have H2_ := (Option.bind_some _ _).symm.trans H; rw [hy178]; with_reducible exact H2_) | (have H2_ := (Option.bind_some _ _).symm.trans H; with_reducible exact H2_) | with_reducible exact H | (rw [hy178]; exact H) | exact H
                                  have Ny178 := Aside0.mk hy178
                                  clear hy178
                                  have H' := Aside0.mk H
                                  clear H
                                  go_wp2_with (first | (go_at_call 77; (with_reducible refine (ih k3 (by have := HK1.out; have := HK2.out; have := HK3.out; omega) _ _ l0 _ _ l1 (a2 ++ (x9_2.extract (x12_3 : Int).toNat ((wrap64 (x12_3 + 1)) : Int).toNat)) t175 _ ?side1 ?side2 ?side3 ?side4 A35.out).mono ?_); (case side1 => repeat (first | exact (Kd.C_below HR0.out HB.out) | (with_reducible refine Kd.C_alloc ?_ _) | (with_reducible refine Kd.C_drewN ?_ _) | (with_reducible refine Kd.C_drew ?_))); (case side2 => exact HC0.out); (case side3 => repeat (first | exact (Kd.C_below HR1.out HB.out) | (with_reducible refine Kd.C_alloc ?_ _) | (with_reducible refine Kd.C_drewN ?_ _) | (with_reducible refine Kd.C_drew ?_))); (case side4 => exact HC1.out); rintro e w37 ⟨v176, rfl, ho0, hb⟩; have n0_ := Aside0.mk (Kd.R_elder' (by (with_reducible repeat (first | apply Kd.R_alloc | apply Kd.R_drewN | apply Kd.R_drew)); exact HO_11.out) (Kd.R_base ho0) hb); have n1_ := Aside0.mk (Kd.R_lower (Kd.R_new' ho0 (Kd.R_lt (by (with_reducible repeat (first | apply Kd.R_alloc | apply Kd.R_drewN | apply Kd.R_drew)); exact HO_11.out))) (below_size (by repeat (first | (with_reducible first | exact HB.out | apply below_alloc | apply pw_below_drewN | apply below_drew1) | exact HB.out)))); have n2_ := Aside0.mk (below_step (by repeat (first | (with_reducible first | exact HB.out | apply below_alloc | apply pw_below_drewN | apply below_drew1) | exact HB.out)) hb); clear HO_11; clear HB; have HO_11 := n0_; have HO177 := n1_; have HB := n2_; clear n0_ n1_ n2_; (try clear hb); (try clear hb2); (try clear hk); (try clear hi); (try clear ho0); obtain ⟨Ao39, co39, eo39⟩ := Kd.R_slice HO177.out; subst eo39) | ((with_reducible refine gate_builtin (b := .append) (xs := #[.tmp 87, .tmp 97]) rfl ?_); at_builtin; refine Kd.R_append_rows Kd.string (w0 := w) w.heap.size rfl (.tmp 87) (.tmp 97) 36 9 (.string ⟨#[]⟩) 16 rfl Try.underlying36 info9 rfl (by decide) (by omega) u11 x11_3 t175 _ _ _ (fun k_ => some k_ ≠ (.slice Ao39 t175.length co39 : Value).ownBlock) (fun _ => False) rfl rfl ?aO ?aR (fun _ _ h => h) (fun _ h => h.elim) ?aF ?aB ?aS ?aL ?_; (case aR => repeat (first | exact (Kd.R_reads' HO177.out).2.2 | (with_reducible refine Kd.C_alloc ?_ _) | (with_reducible refine Kd.C_drewN ?_ _) | (with_reducible refine Kd.C_drew ?_))); (case aB => exact (by repeat (first | (with_reducible first | exact HB.out | apply below_alloc | apply pw_below_drewN | apply below_drew1) | exact HB.out))); (case aF => exact (fun k_ hk => Kd.fresh' (Kd.R_lt (by (with_reducible repeat (first | apply Kd.R_alloc | apply Kd.R_drewN | apply Kd.R_drew)); exact HO177.out)) k_ hk)); (case aO => exact (by (with_reducible repeat (first | apply Kd.R_alloc | apply Kd.R_drewN | apply Kd.R_drew)); exact Kd.R_mono HO_11.out (fun _ hk => hk.2))); (case aS => exact (below_size (by repeat (first | (with_reducible first | exact HB.out | apply below_alloc | apply pw_below_drewN | apply below_drew1) | exact HB.out)))); (case aL => have := LMc36.out; omega); intro v179 w38 ho hb hg hat; rw [← Ny178.out] at ho; have n0_ := Aside0.mk (Kd.R_after (ok := (fun _ => True)) (by (with_reducible repeat (first | apply Kd.R_alloc | apply Kd.R_drewN | apply Kd.R_drew)); exact HO177.out) hg hat); have n1_ := Aside0.mk (hb); have n2_ := Aside0.mk (ho); clear HO177; clear HB; clear HO_11; have HO177 := n0_; have HB := n1_; have HO180 := n2_; clear n0_ n1_ n2_; clear ho hb hg hat))
                                  repeat (go_quiet (first | (go_at_call 77; (with_reducible refine (ih k3 (by have := HK1.out; have := HK2.out; have := HK3.out; omega) _ _ l0 _ _ l1 (a2 ++ (x9_2.extract (x12_3 : Int).toNat ((wrap64 (x12_3 + 1)) : Int).toNat)) t175 _ ?side1 ?side2 ?side3 ?side4 A35.out).mono ?_); (case side1 => repeat (first | exact (Kd.C_below HR0.out HB.out) | (with_reducible refine Kd.C_alloc ?_ _) | (with_reducible refine Kd.C_drewN ?_ _) | (with_reducible refine Kd.C_drew ?_))); (case side2 => exact HC0.out); (case side3 => repeat (first | exact (Kd.C_below HR1.out HB.out) | (with_reducible refine Kd.C_alloc ?_ _) | (with_reducible refine Kd.C_drewN ?_ _) | (with_reducible refine Kd.C_drew ?_))); (case side4 => exact HC1.out); rintro e w37 ⟨v176, rfl, ho0, hb⟩; have n0_ := Aside0.mk (Kd.R_elder' (by (with_reducible repeat (first | apply Kd.R_alloc | apply Kd.R_drewN | apply Kd.R_drew)); exact HO_11.out) (Kd.R_base ho0) hb); have n1_ := Aside0.mk (Kd.R_lower (Kd.R_new' ho0 (Kd.R_lt (by (with_reducible repeat (first | apply Kd.R_alloc | apply Kd.R_drewN | apply Kd.R_drew)); exact HO_11.out))) (below_size (by repeat (first | (with_reducible first | exact HB.out | apply below_alloc | apply pw_below_drewN | apply below_drew1) | exact HB.out)))); have n2_ := Aside0.mk (below_step (by repeat (first | (with_reducible first | exact HB.out | apply below_alloc | apply pw_below_drewN | apply below_drew1) | exact HB.out)) hb); clear HO_11; clear HB; have HO_11 := n0_; have HO177 := n1_; have HB := n2_; clear n0_ n1_ n2_; (try clear hb); (try clear hb2); (try clear hk); (try clear hi); (try clear ho0); obtain ⟨Ao39, co39, eo39⟩ := Kd.R_slice HO177.out; subst eo39) | ((with_reducible refine gate_builtin (b := .append) (xs := #[.tmp 87, .tmp 97]) rfl ?_); at_builtin; refine Kd.R_append_rows Kd.string (w0 := w) w.heap.size rfl (.tmp 87) (.tmp 97) 36 9 (.string ⟨#[]⟩) 16 rfl Try.underlying36 info9 rfl (by decide) (by omega) u11 x11_3 t175 _ _ _ (fun k_ => some k_ ≠ (.slice Ao39 t175.length co39 : Value).ownBlock) (fun _ => False) rfl rfl ?aO ?aR (fun _ _ h => h) (fun _ h => h.elim) ?aF ?aB ?aS ?aL ?_; (case aR => repeat (first | exact (Kd.R_reads' HO177.out).2.2 | (with_reducible refine Kd.C_alloc ?_ _) | (with_reducible refine Kd.C_drewN ?_ _) | (with_reducible refine Kd.C_drew ?_))); (case aB => exact (by repeat (first | (with_reducible first | exact HB.out | apply below_alloc | apply pw_below_drewN | apply below_drew1) | exact HB.out))); (case aF => exact (fun k_ hk => Kd.fresh' (Kd.R_lt (by (with_reducible repeat (first | apply Kd.R_alloc | apply Kd.R_drewN | apply Kd.R_drew)); exact HO177.out)) k_ hk)); (case aO => exact (by (with_reducible repeat (first | apply Kd.R_alloc | apply Kd.R_drewN | apply Kd.R_drew)); exact Kd.R_mono HO_11.out (fun _ hk => hk.2))); (case aS => exact (below_size (by repeat (first | (with_reducible first | exact HB.out | apply below_alloc | apply pw_below_drewN | apply below_drew1) | exact HB.out)))); (case aL => have := LMc36.out; omega); intro v179 w38 ho hb hg hat; rw [← Ny178.out] at ho; have n0_ := Aside0.mk (Kd.R_after (ok := (fun _ => True)) (by (with_reducible repeat (first | apply Kd.R_alloc | apply Kd.R_drewN | apply Kd.R_drew)); exact HO177.out) hg hat); have n1_ := Aside0.mk (hb); have n2_ := Aside0.mk (ho); clear HO177; clear HB; clear HO_11; have HO177 := n0_; have HB := n1_; have HO180 := n2_; clear n0_ n1_ n2_; clear ho hb hg hat)); try go_wp2_with (first | (go_at_call 77; (with_reducible refine (ih k3 (by have := HK1.out; have := HK2.out; have := HK3.out; omega) _ _ l0 _ _ l1 (a2 ++ (x9_2.extract (x12_3 : Int).toNat ((wrap64 (x12_3 + 1)) : Int).toNat)) t175 _ ?side1 ?side2 ?side3 ?side4 A35.out).mono ?_); (case side1 => repeat (first | exact (Kd.C_below HR0.out HB.out) | (with_reducible refine Kd.C_alloc ?_ _) | (with_reducible refine Kd.C_drewN ?_ _) | (with_reducible refine Kd.C_drew ?_))); (case side2 => exact HC0.out); (case side3 => repeat (first | exact (Kd.C_below HR1.out HB.out) | (with_reducible refine Kd.C_alloc ?_ _) | (with_reducible refine Kd.C_drewN ?_ _) | (with_reducible refine Kd.C_drew ?_))); (case side4 => exact HC1.out); rintro e w37 ⟨v176, rfl, ho0, hb⟩; have n0_ := Aside0.mk (Kd.R_elder' (by (with_reducible repeat (first | apply Kd.R_alloc | apply Kd.R_drewN | apply Kd.R_drew)); exact HO_11.out) (Kd.R_base ho0) hb); have n1_ := Aside0.mk (Kd.R_lower (Kd.R_new' ho0 (Kd.R_lt (by (with_reducible repeat (first | apply Kd.R_alloc | apply Kd.R_drewN | apply Kd.R_drew)); exact HO_11.out))) (below_size (by repeat (first | (with_reducible first | exact HB.out | apply below_alloc | apply pw_below_drewN | apply below_drew1) | exact HB.out)))); have n2_ := Aside0.mk (below_step (by repeat (first | (with_reducible first | exact HB.out | apply below_alloc | apply pw_below_drewN | apply below_drew1) | exact HB.out)) hb); clear HO_11; clear HB; have HO_11 := n0_; have HO177 := n1_; have HB := n2_; clear n0_ n1_ n2_; (try clear hb); (try clear hb2); (try clear hk); (try clear hi); (try clear ho0); obtain ⟨Ao39, co39, eo39⟩ := Kd.R_slice HO177.out; subst eo39) | ((with_reducible refine gate_builtin (b := .append) (xs := #[.tmp 87, .tmp 97]) rfl ?_); at_builtin; refine Kd.R_append_rows Kd.string (w0 := w) w.heap.size rfl (.tmp 87) (.tmp 97) 36 9 (.string ⟨#[]⟩) 16 rfl Try.underlying36 info9 rfl (by decide) (by omega) u11 x11_3 t175 _ _ _ (fun k_ => some k_ ≠ (.slice Ao39 t175.length co39 : Value).ownBlock) (fun _ => False) rfl rfl ?aO ?aR (fun _ _ h => h) (fun _ h => h.elim) ?aF ?aB ?aS ?aL ?_; (case aR => repeat (first | exact (Kd.R_reads' HO177.out).2.2 | (with_reducible refine Kd.C_alloc ?_ _) | (with_reducible refine Kd.C_drewN ?_ _) | (with_reducible refine Kd.C_drew ?_))); (case aB => exact (by repeat (first | (with_reducible first | exact HB.out | apply below_alloc | apply pw_below_drewN | apply below_drew1) | exact HB.out))); (case aF => exact (fun k_ hk => Kd.fresh' (Kd.R_lt (by (with_reducible repeat (first | apply Kd.R_alloc | apply Kd.R_drewN | apply Kd.R_drew)); exact HO177.out)) k_ hk)); (case aO => exact (by (with_reducible repeat (first | apply Kd.R_alloc | apply Kd.R_drewN | apply Kd.R_drew)); exact Kd.R_mono HO_11.out (fun _ hk => hk.2))); (case aS => exact (below_size (by repeat (first | (with_reducible first | exact HB.out | apply below_alloc | apply pw_below_drewN | apply below_drew1) | exact HB.out)))); (case aL => have := LMc36.out; omega); intro v179 w38 ho hb hg hat; rw [← Ny178.out] at ho; have n0_ := Aside0.mk (Kd.R_after (ok := (fun _ => True)) (by (with_reducible repeat (first | apply Kd.R_alloc | apply Kd.R_drewN | apply Kd.R_drew)); exact HO177.out) hg hat); have n1_ := Aside0.mk (hb); have n2_ := Aside0.mk (ho); clear HO177; clear HB; clear HO_11; have HO177 := n0_; have HB := n1_; have HO180 := n2_; clear n0_ n1_ n2_; clear ho hb hg hat)))
                                  go_roundg k3
                                  case measure => have := HK1.out; have := HK2.out; have := HK3.out; omega
                                  case rel => exact ⟨(y178), (wrap64 (x12_3 + 1)), (by first | rfl | (simp; done) | (simp [*]; done)), H', ⟨by have := HK1.out; have := HK2.out; have := HK3.out; omega⟩, ⟨by (with_reducible repeat (first | apply Kd.R_alloc | apply Kd.R_drewN | apply Kd.R_drew)); exact Kd.R_mono HO180.out (fun _ hk => trivial)⟩, ⟨by repeat (first | (with_reducible first | exact HB.out | apply below_alloc | apply pw_below_drewN | apply below_drew1) | exact HB.out)⟩⟩
                                · rw [if_neg c36] at H
                                  exact absurd H (by simp)
                              · rw [if_neg c34] at H
                                exact absurd H (by simp)
                            · rw [if_neg c33] at H
                              exact absurd H (by simp)
                          · rw [if_neg c32] at H
                            exact absurd H (by simp)
                        · rw [if_neg c31] at H
                          exact absurd H (by simp)
                      · rw [if_neg c30] at H
                        have c30b0 : decide (x12_3 < (x9_2.size : Int)) = false := decide_eq_false c30
                        clear c30
                        obtain rfl := Option.some.inj H
                        go_wp2
                        repeat (go_quiet (fail); try go_wp2)
                        go_ret
                        exact ⟨_, by first | rfl | (simp [errW_none, errW_some] <;> rfl) | (simp [*, errW_none, errW_some] <;> rfl), by (with_reducible repeat (first | apply Kd.R_alloc | apply Kd.R_drewN | apply Kd.R_drew)); exact HO_11.out, by repeat (first | (with_reducible first | exact HB.out | apply below_alloc | apply pw_below_drewN | apply below_drew1) | exact HB.out)⟩
        · rw [if_neg c12] at H
          exact absurd H (by simp)
end Go.Proofs.Ytegjollhajgcdaa.P
namespace Go.Proofs.Ytegjollhajgcdaa.P
open Go.RowKit Go.Proofs.YtegjollhajgcdaaW.PrintWords Go.Proofs.YtegjollhajgcdaaW.PrintLast Go.Proofs.YtegjollhajgcdaaW.PrintMore
attribute [local go_sem] max2_int min2_int max_two min_two max_three min_three max_four min_four   -- for this text's walks alone
set_option linter.unusedVariables false
set_option linter.unusedSimpArgs false
def cippusref07_Truths.l0 : Nat → List (S24) → List (S95) → List (List Int) → Int → Option ((List (S95)))
  | 0, _, _, _, _ => none
  | k + 1, x0, x3, x4, x5 => if x5 < (x4.length : Int) then (if 0 ≤ x5 then ((cippusref07_stones.f k x0 (rd_L4 x4 x5) (⟨#[]⟩ : ByteArray)).bind fun t185 => (if (t185.length : Int) > 0 then (if x3.length < 2932031007402 then (cippusref07_Truths.l0 k x0 (x3 ++ [(⟨rd_L4 x4 x5, t185⟩ : S95)]) x4 (wrap64 (x5 + 1))) else (none)) else (cippusref07_Truths.l0 k x0 x3 x4 (wrap64 (x5 + 1))))) else (none)) else (some x3)
def cippusref07_Truths.f (k : Nat) (l0 : List (S24)) : Option ((List (S95))) := (cippusref07_Trees.f k l0 ([] : List Int)).bind fun t181 => (cippusref07_Truths.l0 k l0 ([] : List (S95)) t181 0)
set_option maxHeartbeats 8000000 in
set_option maxRecDepth 100000 in
theorem cippusref07_Truths.calls (k : Nat) (A0 : Option Addr) (c0 : Nat) (l0 : List (S24)) (r : List (S95)) (w : World) (hr0 : Kd.C k24 w A0 l0.length l0) (hc0 : l0.length ≤ c0) (h : cippusref07_Truths.f k l0 = some r) :
    Calls Try.prog 68 #[.slice A0 l0.length c0] w fun e w' => ∃ v0_ : Value, e = .returned (v0_) ∧ Kd.N k95 95 w' w.heap.size (fun k_ => (w.heap.size ≤ k_)) v0_ r ∧ Below w.heap.size w w' := by
  have hu95 := Try.underlying95
  have HR0 := Aside0.mk hr0
  have HC0 := Aside0.mk hc0
  clear hr0 hc0
  have HB := Aside0.mk (Below.refl w.heap.size w)
  have H : ((cippusref07_Trees.f k l0 ([] : List Int)).bind fun t181 => (cippusref07_Truths.l0 k l0 ([] : List (S95)) t181 0)) = some r := h
  clear h
  replace H := Option.bind_eq_some_iff.mp H
  obtain ⟨t181, A20, H⟩ := H
  replace H : (cippusref07_Truths.l0 k l0 ([] : List (S95)) t181 0) = some r := H
  have A2 := Aside0.mk A20
  clear A20
  have H' := Aside0.mk H
  clear H
  go_enter Try.func68, Try.ntmps68
  go_wp2_with (first | ((with_reducible refine gate_callee (f := 76) rfl ?_); refine goesL_ (some 8) rfl rfl Try.func76 (by kernel_rfl) rfl #[.slice A0 l0.length c0, .slice none 0 0] rfl (by (try simp only [List.map_toArray, List.map_cons, List.map_nil]); first | done | rfl | (simp only [List.length_drop, List.length_take]; rfl)) ?_; (refine (cippusref07_Trees.calls k _ _ l0 (fun k_ => False) _ _ ([] : List Int) t181 _ ?side1 ?side2 ?side3 A2.out).mono ?_); (case side1 => repeat (first | exact HR0.out | (with_reducible refine Kd.C_alloc ?_ _) | (with_reducible refine Kd.C_drewN ?_ _) | (with_reducible refine Kd.C_drew ?_))); (case side2 => exact HC0.out); (case side3 => exact Kd.V_nil _ _ _ _ _); rintro e w3 ⟨v182, rfl, ho0, hb⟩; refine ⟨_, rfl, ?_⟩; have n0_ := Aside0.mk (Kd.N_lower (Kd.N_mono (ok' := fun k_ => (w.heap.size ≤ k_)) ho0 (fun k_ hk_ => Or.elim hk_ (fun hs_ => (hs_).elim) (fun hn_ => (Nat.le_trans (below_size (by repeat (first | (with_reducible first | exact HB.out | apply below_alloc | apply pw_below_drewN | apply below_drew1) | exact HB.out))) hn_)))) (below_size (by repeat (first | (with_reducible first | exact HB.out | apply below_alloc | apply pw_below_drewN | apply below_drew1) | exact HB.out)))); have n1_ := Aside0.mk (below_step (by repeat (first | (with_reducible first | exact HB.out | apply below_alloc | apply pw_below_drewN | apply below_drew1) | exact HB.out)) hb); clear HB; have HO183 := n0_; have HB := n1_; clear n0_ n1_; (try clear hb); (try clear hb2); (try clear hk); (try clear hi); (try clear ho0)))
  go_loopg [3, 5] k (fun kq v3 v5 w' => ∃ (x3_1 : List (S95)) (x5_1 : Int), v5 = .int .i64 x5_1 ∧ Aside0 (cippusref07_Truths.l0 kq l0 x3_1 t181 x5_1 = some r) ∧ Aside0 (kq ≤ k) ∧ Aside0 (Kd.N k95 95 w' w.heap.size (fun k_ => (w.heap.size ≤ k_) ∧ some k_ ≠ (v182 : Value).ownBlock) v3 x3_1) ∧ Aside0 (Kd.N (Kd.slice 3 (Kd.int .i64)) 25 w' w.heap.size (fun k_ => (w.heap.size ≤ k_) ∧ some k_ ≠ (v3 : Value).ownBlock) v182 t181) ∧ Aside0 (Below w.heap.size w w'))
  case atStart => exact ⟨(([] : List (S95))), (0), (by first | rfl | (simp; done) | (simp [*]; done)), H', ⟨Nat.le_refl _⟩, ⟨by first | exact Kd.S_nil _ _ _ _ _ | exact Kd.N_nil _ _ _ _ _ | exact Kd.V_nil _ _ _ _ _ | exact Kd.Q_nil _ _ _ _ _ | exact Kd.R_nil _ _ _ _ _⟩, ⟨by (with_reducible repeat (first | apply Kd.N_alloc | apply Kd.N_drewN | apply Kd.N_drew)); exact Kd.N_mono HO183.out (fun _ hk => ⟨hk, (by simp [Value.ownBlock])⟩)⟩, ⟨by repeat (first | (with_reducible first | exact HB.out | apply below_alloc | apply pw_below_drewN | apply below_drew1) | exact HB.out)⟩⟩
  case round =>
    clear H'
    try clear p2
    obtain ⟨x3_1, x5_1, rfl, HA, HK1, HO_3, HO_4, HB⟩ := hrel
    cases gk with
    | zero => exact absurd HA.out (by simp [cippusref07_Truths.l0])
    | succ k1 =>
      have H := HA.out
      clear HA
      simp only [cippusref07_Truths.l0] at H
      by_cases c4 : x5_1 < (t181.length : Int)
      · rw [if_pos c4] at H
        have c4b0 : decide (x5_1 < (t181.length : Int)) = true := decide_eq_true c4
        clear c4
        by_cases c5 : 0 ≤ x5_1
        · rw [if_pos c5] at H
          have c5b0 : decide (0 ≤ x5_1) = true := decide_eq_true c5
          clear c5
          replace H := Option.bind_eq_some_iff.mp H
          obtain ⟨t185, A60, H⟩ := H
          replace H : (if (t185.length : Int) > 0 then (if x3_1.length < 2932031007402 then (cippusref07_Truths.l0 k1 l0 (x3_1 ++ [(⟨rd_L4 t181 x5_1, t185⟩ : S95)]) t181 (wrap64 (x5_1 + 1))) else (none)) else (cippusref07_Truths.l0 k1 l0 x3_1 t181 (wrap64 (x5_1 + 1)))) = some r := H
          have A6 := Aside0.mk A60
          clear A60
          by_cases c7 : (t185.length : Int) > 0
          · rw [if_pos c7] at H
            have c7b0 : decide (0 < (t185.length : Int)) = true := decide_eq_true c7
            have c7b1 : decide (0 < t185.length) = true := decide_eq_true (by omega)
            clear c7
            by_cases c8 : x3_1.length < 2932031007402
            · rw [if_pos c8] at H
              have LMc8 := Aside0.mk c8
              clear c8
              obtain ⟨y189, hy189⟩ : ∃ y_ : List (S95), y_ = (x3_1 ++ [(⟨rd_L4 t181 x5_1, t185⟩ : S95)]) := ⟨_, rfl⟩
              replace H : (cippusref07_Truths.l0 k1 l0 y189 t181 (wrap64 (x5_1 + 1))) = some r := by first | (rw [hy189]; with_reducible exact H) | (have H2_ := (Option.bind_some _ _).symm.trans H; rw [hy189]; with_reducible exact H2_) | (have H2_ := (Option.bind_some _ _).symm.trans H; with_reducible exact H2_) | with_reducible exact H | (rw [hy189]; exact H) | exact H
              have Ny189 := Aside0.mk hy189
              clear hy189
              have H' := Aside0.mk H
              clear H
              obtain ⟨Ao9, co9, eo9⟩ := Kd.N_slice HO_4.out
              subst eo9
              have p184 : 0 ≤ (x5_1 : Int) := of_decide_eq_true (by first | (with_reducible assumption) | assumption)
              have q184 : x5_1 < (t181.length : Int) := of_decide_eq_true (by first | (with_reducible assumption) | assumption)
              obtain ⟨ad184, A184_0, c184_0, e184, hx184_0, hl184_0, hi184_0⟩ := at_L4 (Kd.N_reads' HO_4.out).2.2 x5_1 p184 q184
              cases e184
              obtain ⟨ce184, hce184, hMe184, hcc184⟩ := Kd.N_get HO_4.out [] x5_1 p184 (by first | exact q184 | exact of_decide_eq_true (by first | (with_reducible assumption) | assumption) | (have e_ := (Kd.N_reads' HO_4.out).1; omega))
              obtain ⟨ua184_0, uc184_0, rfl, ul184_0, ge184_0⟩ := Kd.FK_slice_open hMe184
              have hv184_0 := hcc184 0 _ rfl
              rw [Nat.add_zero, show ((Kd.slice 3 (Kd.int .i64))).sz = 1 from rfl, Nat.mul_one] at hv184_0
              replace hv184_0 := Option.some.inj (hv184_0.symm.trans hx184_0)
              injection hv184_0 with hva_ hvn_ hvc_
              rw [hva_] at ge184_0
              rw [hvc_] at ul184_0
              have HL184_0 := Aside0.mk (show Kd.V (Kd.int .i64) 3 _ w.heap.size _ _ (rd_L4 t181 x5_1) from Kd.V_mk ul184_0 ge184_0)
              clear hva_ hvn_ hvc_ ge184_0 ul184_0
              clear hcc184 hce184
              have HR184_0 := Aside0.mk hi184_0
              have HC184_0 := Aside0.mk hl184_0
              clear hi184_0 hl184_0
              replace p184 := eq_true p184
              replace q184 := eq_true q184
              go_wp2_with (first | ((with_reducible refine gate_callee (f := 77) rfl ?_); refine goesL_ (some 20) rfl rfl Try.func77 (by kernel_rfl) rfl #[.slice A0 l0.length c0, .slice A184_0 (rd_L4 t181 x5_1).length c184_0, .string (⟨#[]⟩ : ByteArray)] rfl (by (try simp only [List.map_toArray, List.map_cons, List.map_nil]); first | done | rfl | (simp only [List.length_drop, List.length_take]; rfl)) ?_; (with_reducible refine (cippusref07_stones.calls k1 _ _ l0 _ _ (rd_L4 t181 x5_1) (⟨#[]⟩ : ByteArray) t185 _ ?side1 ?side2 ?side3 ?side4 A6.out).mono ?_); (case side1 => repeat (first | exact (Kd.C_below HR0.out HB.out) | (with_reducible refine Kd.C_alloc ?_ _) | (with_reducible refine Kd.C_drewN ?_ _) | (with_reducible refine Kd.C_drew ?_))); (case side2 => exact HC0.out); (case side3 => repeat (first | exact (by repeat (first | (with_reducible exact HR184_0.out) | (with_reducible refine Kd.C_alloc ?_ _) | (with_reducible refine Kd.C_drewN ?_ _) | (with_reducible refine Kd.C_drew ?_) | exact HR184_0.out)) | (with_reducible refine Kd.C_alloc ?_ _) | (with_reducible refine Kd.C_drewN ?_ _) | (with_reducible refine Kd.C_drew ?_))); (case side4 => exact HC184_0.out); rintro e w10 ⟨v186, rfl, ho0, hb⟩; refine ⟨_, rfl, ?_⟩; have n0_ := Aside0.mk (Kd.N_elder' (by (with_reducible repeat (first | apply Kd.N_alloc | apply Kd.N_drewN | apply Kd.N_drew)); exact HO_3.out) (Kd.R_base ho0) hb); have n1_ := Aside0.mk (Kd.N_elder' (by (with_reducible repeat (first | apply Kd.N_alloc | apply Kd.N_drewN | apply Kd.N_drew)); exact HO_4.out) (Kd.R_base ho0) hb); have n2_ := Aside0.mk (Kd.V_elder' (by (with_reducible repeat (first | apply Kd.V_alloc | apply Kd.V_drewN | apply Kd.V_drew)); exact HL184_0.out) (Kd.R_base ho0) hb); have n3_ := Aside0.mk (Kd.R_lower (Kd.R_newM (M := fun k_ => (w.heap.size ≤ k_)) ho0 (below_size (by repeat (first | (with_reducible first | exact HB.out | apply below_alloc | apply pw_below_drewN | apply below_drew1) | exact HB.out))) (fun k_ h_ => h_)) (below_size (by repeat (first | (with_reducible first | exact HB.out | apply below_alloc | apply pw_below_drewN | apply below_drew1) | exact HB.out)))); have n4_ := Aside0.mk (Kd.C_below (by repeat (first | (with_reducible exact HR184_0.out) | (with_reducible refine Kd.C_alloc ?_ _) | (with_reducible refine Kd.C_drewN ?_ _) | (with_reducible refine Kd.C_drew ?_) | exact HR184_0.out)) hb); have n5_ := Aside0.mk (below_step (by repeat (first | (with_reducible first | exact HB.out | apply below_alloc | apply pw_below_drewN | apply below_drew1) | exact HB.out)) hb); clear HO_3; clear HO_4; clear HL184_0; clear HR184_0; clear HB; have HO_3 := n0_; have HO_4 := n1_; have HL184_0 := n2_; have HO187 := n3_; have HR184_0 := n4_; have HB := n5_; clear n0_ n1_ n2_ n3_ n4_ n5_; (try clear hb); (try clear hb2); (try clear hk); (try clear hi); (try clear ho0); obtain ⟨Ao11, co11, eo11⟩ := Kd.R_slice HO187.out; subst eo11; have p188 : 0 ≤ (x5_1 : Int) := of_decide_eq_true (by first | (with_reducible assumption) | assumption); have q188 : x5_1 < (t181.length : Int) := of_decide_eq_true (by first | (with_reducible assumption) | assumption); obtain ⟨ad188, A188_0, c188_0, e188, hx188_0, hl188_0, hi188_0⟩ := at_L4 (Kd.N_reads' HO_4.out).2.2 x5_1 p188 q188; obtain rfl : ad184 = ad188 := (by injection e188); obtain ⟨ce188, hce188, hMe188, hcc188⟩ := Kd.N_get HO_4.out [] x5_1 p188 (by first | exact q188 | exact of_decide_eq_true (by first | (with_reducible assumption) | assumption) | (have e_ := (Kd.N_reads' HO_4.out).1; omega)); obtain ⟨ua188_0, uc188_0, rfl, ul188_0, ge188_0⟩ := Kd.FK_slice_open hMe188; have hv188_0 := hcc188 0 _ rfl; rw [Nat.add_zero, show ((Kd.slice 3 (Kd.int .i64))).sz = 1 from rfl, Nat.mul_one] at hv188_0; replace hv188_0 := Option.some.inj (hv188_0.symm.trans hx188_0); injection hv188_0 with hva_ hvn_ hvc_; rw [hva_] at ge188_0; rw [hvc_] at ul188_0; have HL188_0 := Aside0.mk (show Kd.V (Kd.int .i64) 3 _ w.heap.size _ _ (rd_L4 t181 x5_1) from Kd.V_mk ul188_0 ge188_0); clear hva_ hvn_ hvc_ ge188_0 ul188_0; clear hcc188 hce188; have HR188_0 := Aside0.mk hi188_0; have HC188_0 := Aside0.mk hl188_0; clear hi188_0 hl188_0; replace p188 := eq_true p188; replace q188 := eq_true q188) | ((with_reducible refine gate_builtin (b := .append) (xs := #[.tmp 24, .tmp 31]) rfl ?_); at_builtin; refine Kd.N_append k95 (w0 := w) w.heap.size rfl (.tmp 24) (.tmp 31) 91 95 (.agg #[(.slice none 0 0), (.slice none 0 0)]) 48 rfl Try.underlying91 info95 rfl (by decide) (by omega) u3 x3_1 (⟨rd_L4 t181 x5_1, t185⟩ : S95) [.slice A188_0 (rd_L4 t181 x5_1).length c188_0, .slice Ao11 t185.length co11] (fun k_ => (w.heap.size ≤ k_) ∧ some k_ ≠ (.slice (some ad184) t181.length co9 : Value).ownBlock) (fun k_ => ((fun k_ => (w.heap.size ≤ k_) ∧ some k_ ≠ (.slice (some ad184) t181.length co9 : Value).ownBlock)) k_ ∧ some k_ ≠ (u3 : Value).ownBlock) rfl rfl ?aP (fun _ hk => hk) ?aF ?aO ?aB ?aS ?aL ?_; (case aP => exact (k95_mkF _ _ (⟨rd_L4 t181 x5_1, t185⟩ : S95) (Kd.V_reads' (Kd.V_mono (ok' := (fun k_ => ((fun k_ => (w.heap.size ≤ k_) ∧ some k_ ≠ (.slice (some ad184) t181.length co9 : Value).ownBlock)) k_ ∧ some k_ ≠ (u3 : Value).ownBlock)) (HL188_0.out) (fun k_ hk => ⟨⟨hk.1.1.1, hk.2⟩, hk.1.1.2⟩))).2.1 (Kd.V_F (Kd.V_mono (ok' := (fun k_ => ((fun k_ => (w.heap.size ≤ k_) ∧ some k_ ≠ (.slice (some ad184) t181.length co9 : Value).ownBlock)) k_ ∧ some k_ ≠ (u3 : Value).ownBlock)) (HL188_0.out) (fun k_ hk => ⟨⟨hk.1.1.1, hk.2⟩, hk.1.1.2⟩))) (Kd.R_reads' (Kd.R_mono (ok' := (fun k_ => ((fun k_ => (w.heap.size ≤ k_) ∧ some k_ ≠ (.slice (some ad184) t181.length co9 : Value).ownBlock)) k_ ∧ some k_ ≠ (u3 : Value).ownBlock)) (Kd.R_apart' (Kd.R_apart' (HO187.out) (Kd.N_typed HO_4.out) (by decide)) (Kd.N_typed HO_3.out) (by decide)) (fun k_ hk => ⟨⟨hk.1.1.1, hk.1.2⟩, hk.2⟩))).2.1 (Kd.R_F (Kd.R_mono (ok' := (fun k_ => ((fun k_ => (w.heap.size ≤ k_) ∧ some k_ ≠ (.slice (some ad184) t181.length co9 : Value).ownBlock)) k_ ∧ some k_ ≠ (u3 : Value).ownBlock)) (Kd.R_apart' (Kd.R_apart' (HO187.out) (Kd.N_typed HO_4.out) (by decide)) (Kd.N_typed HO_3.out) (by decide)) (fun k_ hk => ⟨⟨hk.1.1.1, hk.1.2⟩, hk.2⟩))))); (case aB => exact (by repeat (first | (with_reducible first | exact HB.out | apply below_alloc | apply pw_below_drewN | apply below_drew1) | exact HB.out))); (case aF => exact (fun k_ hk => ⟨(Nat.le_trans (below_size (by repeat (first | (with_reducible first | exact HB.out | apply below_alloc | apply pw_below_drewN | apply below_drew1) | exact HB.out))) hk), Kd.fresh' (Kd.N_lt (by (with_reducible repeat (first | apply Kd.N_alloc | apply Kd.N_drewN | apply Kd.N_drew)); exact HO_4.out)) k_ hk⟩)); (case aO => exact (by (with_reducible repeat (first | apply Kd.N_alloc | apply Kd.N_drewN | apply Kd.N_drew)); exact Kd.N_mono HO_3.out (fun _ hk => ⟨hk.1.1, hk.1.2⟩))); (case aS => exact (below_size (by repeat (first | (with_reducible first | exact HB.out | apply below_alloc | apply pw_below_drewN | apply below_drew1) | exact HB.out)))); (case aL => have := LMc8.out; omega); intro v190 w12 ho hb hg hat; rw [← Ny189.out] at ho; have n0_ := Aside0.mk (Kd.N_afterv (ok := (fun k_ => (w.heap.size ≤ k_) ∧ some k_ ≠ (.slice Ao11 t185.length co11 : Value).ownBlock)) (by (with_reducible repeat (first | apply Kd.N_alloc | apply Kd.N_drewN | apply Kd.N_drew)); exact Kd.N_mono HO_4.out (fun _ hk => ⟨⟨hk.1.1, hk.2⟩, hk.1.2⟩)) hg hat); have n1_ := Aside0.mk (Kd.V_afterv (ok := (fun k_ => (w.heap.size ≤ k_) ∧ some k_ ≠ (.slice (some ad184) t181.length co9 : Value).ownBlock ∧ some k_ ≠ (.slice Ao11 t185.length co11 : Value).ownBlock)) (by (with_reducible repeat (first | apply Kd.V_alloc | apply Kd.V_drewN | apply Kd.V_drew)); exact Kd.V_mono HL184_0.out (fun _ hk => ⟨⟨hk.1.1.1, ⟨hk.1.2, hk.2⟩⟩, hk.1.1.2⟩)) hg hat); have n2_ := Aside0.mk (Kd.V_afterv (ok := (fun k_ => (w.heap.size ≤ k_) ∧ some k_ ≠ (.slice (some ad184) t181.length co9 : Value).ownBlock ∧ some k_ ≠ (.slice Ao11 t185.length co11 : Value).ownBlock)) (by (with_reducible repeat (first | apply Kd.V_alloc | apply Kd.V_drewN | apply Kd.V_drew)); exact Kd.V_mono HL188_0.out (fun _ hk => ⟨⟨hk.1.1.1, ⟨hk.2, hk.1.2⟩⟩, hk.1.1.2⟩)) hg hat); have n3_ := Aside0.mk (hb); have n4_ := Aside0.mk (ho); clear HO_4; clear HL184_0; clear HL188_0; clear HB; clear HO_3; clear HO187; have HO_4 := n0_; have HL184_0 := n1_; have HL188_0 := n2_; have HB := n3_; have HO191 := n4_; clear n0_ n1_ n2_ n3_ n4_; clear ho hb hg hat))
              go_roundg k1
              case measure => have := HK1.out; omega
              case rel => exact ⟨(y189), (wrap64 (x5_1 + 1)), (by first | rfl | (simp; done) | (simp [*]; done)), H', ⟨by have := HK1.out; omega⟩, ⟨by (with_reducible repeat (first | apply Kd.N_alloc | apply Kd.N_drewN | apply Kd.N_drew)); exact HO191.out⟩, ⟨by (with_reducible repeat (first | apply Kd.N_alloc | apply Kd.N_drewN | apply Kd.N_drew)); exact Kd.N_mono HO_4.out (fun _ hk => ⟨hk.1.1, hk.2⟩)⟩, ⟨by repeat (first | (with_reducible first | exact HB.out | apply below_alloc | apply pw_below_drewN | apply below_drew1) | exact HB.out)⟩⟩
            · rw [if_neg c8] at H
              exact absurd H (by simp)
          · rw [if_neg c7] at H
            have c7b0 : decide (0 < (t185.length : Int)) = false := decide_eq_false c7
            have c7b1 : decide (0 < t185.length) = false := decide_eq_false (by omega)
            clear c7
            have H' := Aside0.mk H
            clear H
            obtain ⟨Ao13, co13, eo13⟩ := Kd.N_slice HO_4.out
            subst eo13
            have p184 : 0 ≤ (x5_1 : Int) := of_decide_eq_true (by first | (with_reducible assumption) | assumption)
            have q184 : x5_1 < (t181.length : Int) := of_decide_eq_true (by first | (with_reducible assumption) | assumption)
            obtain ⟨ad184, A184_0, c184_0, e184, hx184_0, hl184_0, hi184_0⟩ := at_L4 (Kd.N_reads' HO_4.out).2.2 x5_1 p184 q184
            cases e184
            obtain ⟨ce184, hce184, hMe184, hcc184⟩ := Kd.N_get HO_4.out [] x5_1 p184 (by first | exact q184 | exact of_decide_eq_true (by first | (with_reducible assumption) | assumption) | (have e_ := (Kd.N_reads' HO_4.out).1; omega))
            obtain ⟨ua184_0, uc184_0, rfl, ul184_0, ge184_0⟩ := Kd.FK_slice_open hMe184
            have hv184_0 := hcc184 0 _ rfl
            rw [Nat.add_zero, show ((Kd.slice 3 (Kd.int .i64))).sz = 1 from rfl, Nat.mul_one] at hv184_0
            replace hv184_0 := Option.some.inj (hv184_0.symm.trans hx184_0)
            injection hv184_0 with hva_ hvn_ hvc_
            rw [hva_] at ge184_0
            rw [hvc_] at ul184_0
            have HL184_0 := Aside0.mk (show Kd.V (Kd.int .i64) 3 _ w.heap.size _ _ (rd_L4 t181 x5_1) from Kd.V_mk ul184_0 ge184_0)
            clear hva_ hvn_ hvc_ ge184_0 ul184_0
            clear hcc184 hce184
            have HR184_0 := Aside0.mk hi184_0
            have HC184_0 := Aside0.mk hl184_0
            clear hi184_0 hl184_0
            replace p184 := eq_true p184
            replace q184 := eq_true q184
            go_wp2_with (first | ((with_reducible refine gate_callee (f := 77) rfl ?_); refine goesL_ (some 20) rfl rfl Try.func77 (by kernel_rfl) rfl #[.slice A0 l0.length c0, .slice A184_0 (rd_L4 t181 x5_1).length c184_0, .string (⟨#[]⟩ : ByteArray)] rfl (by (try simp only [List.map_toArray, List.map_cons, List.map_nil]); first | done | rfl | (simp only [List.length_drop, List.length_take]; rfl)) ?_; (with_reducible refine (cippusref07_stones.calls k1 _ _ l0 _ _ (rd_L4 t181 x5_1) (⟨#[]⟩ : ByteArray) t185 _ ?side1 ?side2 ?side3 ?side4 A6.out).mono ?_); (case side1 => repeat (first | exact (Kd.C_below HR0.out HB.out) | (with_reducible refine Kd.C_alloc ?_ _) | (with_reducible refine Kd.C_drewN ?_ _) | (with_reducible refine Kd.C_drew ?_))); (case side2 => exact HC0.out); (case side3 => repeat (first | exact (by repeat (first | (with_reducible exact HR184_0.out) | (with_reducible refine Kd.C_alloc ?_ _) | (with_reducible refine Kd.C_drewN ?_ _) | (with_reducible refine Kd.C_drew ?_) | exact HR184_0.out)) | (with_reducible refine Kd.C_alloc ?_ _) | (with_reducible refine Kd.C_drewN ?_ _) | (with_reducible refine Kd.C_drew ?_))); (case side4 => exact HC184_0.out); rintro e w14 ⟨v186, rfl, ho0, hb⟩; refine ⟨_, rfl, ?_⟩; have n0_ := Aside0.mk (Kd.N_elder' (by (with_reducible repeat (first | apply Kd.N_alloc | apply Kd.N_drewN | apply Kd.N_drew)); exact HO_3.out) (Kd.R_base ho0) hb); have n1_ := Aside0.mk (Kd.N_elder' (by (with_reducible repeat (first | apply Kd.N_alloc | apply Kd.N_drewN | apply Kd.N_drew)); exact HO_4.out) (Kd.R_base ho0) hb); have n2_ := Aside0.mk (Kd.V_elder' (by (with_reducible repeat (first | apply Kd.V_alloc | apply Kd.V_drewN | apply Kd.V_drew)); exact HL184_0.out) (Kd.R_base ho0) hb); have n3_ := Aside0.mk (Kd.R_lower (Kd.R_newM (M := fun k_ => (w.heap.size ≤ k_)) ho0 (below_size (by repeat (first | (with_reducible first | exact HB.out | apply below_alloc | apply pw_below_drewN | apply below_drew1) | exact HB.out))) (fun k_ h_ => h_)) (below_size (by repeat (first | (with_reducible first | exact HB.out | apply below_alloc | apply pw_below_drewN | apply below_drew1) | exact HB.out)))); have n4_ := Aside0.mk (Kd.C_below (by repeat (first | (with_reducible exact HR184_0.out) | (with_reducible refine Kd.C_alloc ?_ _) | (with_reducible refine Kd.C_drewN ?_ _) | (with_reducible refine Kd.C_drew ?_) | exact HR184_0.out)) hb); have n5_ := Aside0.mk (below_step (by repeat (first | (with_reducible first | exact HB.out | apply below_alloc | apply pw_below_drewN | apply below_drew1) | exact HB.out)) hb); clear HO_3; clear HO_4; clear HL184_0; clear HR184_0; clear HB; have HO_3 := n0_; have HO_4 := n1_; have HL184_0 := n2_; have HO187 := n3_; have HR184_0 := n4_; have HB := n5_; clear n0_ n1_ n2_ n3_ n4_ n5_; (try clear hb); (try clear hb2); (try clear hk); (try clear hi); (try clear ho0); obtain ⟨Ao15, co15, eo15⟩ := Kd.R_slice HO187.out; subst eo15))
            go_roundg k1
            case measure => have := HK1.out; omega
            case rel => exact ⟨(x3_1), (wrap64 (x5_1 + 1)), (by first | rfl | (simp; done) | (simp [*]; done)), H', ⟨by have := HK1.out; omega⟩, ⟨by (with_reducible repeat (first | apply Kd.N_alloc | apply Kd.N_drewN | apply Kd.N_drew)); exact Kd.N_mono HO_3.out (fun _ hk => ⟨hk.1.1, hk.1.2⟩)⟩, ⟨by (with_reducible repeat (first | apply Kd.N_alloc | apply Kd.N_drewN | apply Kd.N_drew)); exact Kd.N_mono HO_4.out (fun _ hk => ⟨hk.1.1, hk.1.2⟩)⟩, ⟨by repeat (first | (with_reducible first | exact HB.out | apply below_alloc | apply pw_below_drewN | apply below_drew1) | exact HB.out)⟩⟩
        · rw [if_neg c5] at H
          exact absurd H (by simp)
      · rw [if_neg c4] at H
        have c4b0 : decide (x5_1 < (t181.length : Int)) = false := decide_eq_false c4
        clear c4
        obtain rfl := Option.some.inj H
        obtain ⟨Ao16, co16, eo16⟩ := Kd.N_slice HO_4.out
        subst eo16
        go_wp2
        go_ret
        exact ⟨_, by first | rfl | (simp [errW_none, errW_some] <;> rfl) | (simp [*, errW_none, errW_some] <;> rfl), by (with_reducible repeat (first | apply Kd.N_alloc | apply Kd.N_drewN | apply Kd.N_drew)); exact Kd.N_mono HO_3.out (fun _ hk => hk.1), by repeat (first | (with_reducible first | exact HB.out | apply below_alloc | apply pw_below_drewN | apply below_drew1) | exact HB.out)⟩
end Go.Proofs.Ytegjollhajgcdaa.P
namespace Go.Proofs.Ytegjollhajgcdaa.P
open Go.RowKit Go.Proofs.YtegjollhajgcdaaW.PrintWords Go.Proofs.YtegjollhajgcdaaW.PrintLast Go.Proofs.YtegjollhajgcdaaW.PrintMore
attribute [local go_sem] max2_int min2_int max_two min_two max_three min_three max_four min_four   -- for this text's walks alone
set_option linter.unusedVariables false
set_option linter.unusedSimpArgs false
def cippusref07_known.f (k : Nat) (l0 : List (S24)) : Option ((List (S95)) × Int) := (cippusref07_Check.f k l0).bind fun t192 => (if t192 = 0 then ((cippusref07_Truths.f k l0).bind fun t193 => (if (t193.length : Int) = 0 then (some (([] : List (S95)), 9)) else (some (t193, 0)))) else (some (([] : List (S95)), t192)))
set_option maxHeartbeats 8000000 in
set_option maxRecDepth 100000 in
theorem cippusref07_known.calls (k : Nat) (A0 : Option Addr) (c0 : Nat) (l0 : List (S24)) (r1 : List (S95)) (r2 : Int) (w : World) (hr0 : Kd.C k24 w A0 l0.length l0) (hc0 : l0.length ≤ c0) (h : cippusref07_known.f k l0 = some (r1, r2)) :
    Calls Try.prog 54 #[.slice A0 l0.length c0] w fun e w' => ∃ v0_ : Value, e = .returned (.tuple #[v0_, .int .i64 r2]) ∧ Kd.N k95 95 w' w.heap.size (fun k_ => (w.heap.size ≤ k_)) v0_ r1 ∧ Below w.heap.size w w' := by
  have HR0 := Aside0.mk hr0
  have HC0 := Aside0.mk hc0
  clear hr0 hc0
  have HB := Aside0.mk (Below.refl w.heap.size w)
  have H : ((cippusref07_Check.f k l0).bind fun t192 => (if t192 = 0 then ((cippusref07_Truths.f k l0).bind fun t193 => (if (t193.length : Int) = 0 then (some (([] : List (S95)), 9)) else (some (t193, 0)))) else (some (([] : List (S95)), t192)))) = some (r1, r2) := h
  clear h
  replace H := Option.bind_eq_some_iff.mp H
  obtain ⟨t192, A20, H⟩ := H
  replace H : (if t192 = 0 then ((cippusref07_Truths.f k l0).bind fun t193 => (if (t193.length : Int) = 0 then (some (([] : List (S95)), 9)) else (some (t193, 0)))) else (some (([] : List (S95)), t192))) = some (r1, r2) := H
  have A2 := Aside0.mk A20
  clear A20
  by_cases c3 : t192 = 0
  · rw [if_pos c3] at H
    have c3b0 : (t192 == 0) = true := beq_iff_eq.mpr c3
    have c3b1 : (t192 != 0) = false := bne_eq_false_iff_eq.mpr c3
    clear c3
    replace H := Option.bind_eq_some_iff.mp H
    obtain ⟨t193, A40, H⟩ := H
    replace H : (if (t193.length : Int) = 0 then (some (([] : List (S95)), 9)) else (some (t193, 0))) = some (r1, r2) := H
    have A4 := Aside0.mk A40
    clear A40
    by_cases c5 : (t193.length : Int) = 0
    · rw [if_pos c5] at H
      have c5b0 : ((t193.length : Int) == 0) = true := beq_iff_eq.mpr c5
      have c5b1 : ((t193.length : Int) != 0) = false := bne_eq_false_iff_eq.mpr c5
      clear c5
      simp only [Option.some.injEq, Prod.mk.injEq] at H
      obtain ⟨rfl, rfl⟩ := H
      go_enter Try.func54, Try.ntmps54
      go_wp2_with (first | ((with_reducible refine gate_callee (f := 40) rfl ?_); refine goesL_ (some 7) rfl rfl Try.func40 (by kernel_rfl) rfl #[.slice A0 l0.length c0] rfl (by (try simp only [List.map_toArray, List.map_cons, List.map_nil]); first | done | rfl | (simp only [List.length_drop, List.length_take]; rfl)) ?_; (with_reducible refine (cippusref07_Check.calls k _ _ l0 t192 _ ?side1 ?side2 A2.out).mono ?_); (case side1 => repeat (first | exact HR0.out | (with_reducible refine Kd.C_alloc ?_ _) | (with_reducible refine Kd.C_drewN ?_ _) | (with_reducible refine Kd.C_drew ?_))); (case side2 => exact HC0.out); rintro e w' ⟨rfl, ⟨nd, rfl⟩⟩; refine ⟨_, rfl, ?_⟩) | ((with_reducible refine gate_callee (f := 68) rfl ?_); refine goesL_ (some 12) rfl rfl Try.func68 (by kernel_rfl) rfl #[.slice A0 l0.length c0] rfl (by (try simp only [List.map_toArray, List.map_cons, List.map_nil]); first | done | rfl | (simp only [List.length_drop, List.length_take]; rfl)) ?_; (with_reducible refine (cippusref07_Truths.calls k _ _ l0 t193 _ ?side1 ?side2 A4.out).mono ?_); (case side1 => repeat (first | exact HR0.out | (with_reducible refine Kd.C_alloc ?_ _) | (with_reducible refine Kd.C_drewN ?_ _) | (with_reducible refine Kd.C_drew ?_))); (case side2 => exact HC0.out); rintro e w6 ⟨v194, rfl, ho0, hb⟩; refine ⟨_, rfl, ?_⟩; have n0_ := Aside0.mk (Kd.N_lower (Kd.N_mono (ok' := fun k_ => (w.heap.size ≤ k_)) ho0 (fun k_ hk_ => (Nat.le_trans (below_size (by repeat (first | (with_reducible first | exact HB.out | apply below_alloc | apply pw_below_drewN | apply below_drew1) | exact HB.out))) hk_))) (below_size (by repeat (first | (with_reducible first | exact HB.out | apply below_alloc | apply pw_below_drewN | apply below_drew1) | exact HB.out)))); have n1_ := Aside0.mk (below_step (by repeat (first | (with_reducible first | exact HB.out | apply below_alloc | apply pw_below_drewN | apply below_drew1) | exact HB.out)) hb); clear HB; have HO195 := n0_; have HB := n1_; clear n0_ n1_; (try clear hb); (try clear hb2); (try clear hk); (try clear hi); (try clear ho0); obtain ⟨Ao7, co7, eo7⟩ := Kd.N_slice HO195.out; subst eo7))
      go_ret2
      exact ⟨_, by first | rfl | (simp [errW_none, errW_some] <;> rfl) | (simp [*, errW_none, errW_some] <;> rfl), by first | exact Kd.S_nil _ _ _ _ _ | exact Kd.N_nil _ _ _ _ _ | exact Kd.V_nil _ _ _ _ _ | exact Kd.Q_nil _ _ _ _ _ | exact Kd.R_nil _ _ _ _ _, by repeat (first | (with_reducible first | exact HB.out | apply below_alloc | apply pw_below_drewN | apply below_drew1) | exact HB.out)⟩
    · rw [if_neg c5] at H
      have c5b0 : ((t193.length : Int) == 0) = false := beq_eq_false_iff_ne.mpr c5
      have c5b1 : ((t193.length : Int) != 0) = true := bne_iff_ne.mpr c5
      have c5b2 : ¬ (t193 = []) := fun h_ => c5 (by rw [h_]; rfl)
      simp only [Option.some.injEq, Prod.mk.injEq] at H
      obtain ⟨rfl, rfl⟩ := H
      go_enter Try.func54, Try.ntmps54
      go_wp2_with (first | ((with_reducible refine gate_callee (f := 40) rfl ?_); refine goesL_ (some 7) rfl rfl Try.func40 (by kernel_rfl) rfl #[.slice A0 l0.length c0] rfl (by (try simp only [List.map_toArray, List.map_cons, List.map_nil]); first | done | rfl | (simp only [List.length_drop, List.length_take]; rfl)) ?_; (with_reducible refine (cippusref07_Check.calls k _ _ l0 t192 _ ?side1 ?side2 A2.out).mono ?_); (case side1 => repeat (first | exact HR0.out | (with_reducible refine Kd.C_alloc ?_ _) | (with_reducible refine Kd.C_drewN ?_ _) | (with_reducible refine Kd.C_drew ?_))); (case side2 => exact HC0.out); rintro e w' ⟨rfl, ⟨nd, rfl⟩⟩; refine ⟨_, rfl, ?_⟩) | ((with_reducible refine gate_callee (f := 68) rfl ?_); refine goesL_ (some 12) rfl rfl Try.func68 (by kernel_rfl) rfl #[.slice A0 l0.length c0] rfl (by (try simp only [List.map_toArray, List.map_cons, List.map_nil]); first | done | rfl | (simp only [List.length_drop, List.length_take]; rfl)) ?_; (with_reducible refine (cippusref07_Truths.calls k _ _ l0 t193 _ ?side1 ?side2 A4.out).mono ?_); (case side1 => repeat (first | exact HR0.out | (with_reducible refine Kd.C_alloc ?_ _) | (with_reducible refine Kd.C_drewN ?_ _) | (with_reducible refine Kd.C_drew ?_))); (case side2 => exact HC0.out); rintro e w8 ⟨v194, rfl, ho0, hb⟩; refine ⟨_, rfl, ?_⟩; have n0_ := Aside0.mk (Kd.N_lower (Kd.N_mono (ok' := fun k_ => (w.heap.size ≤ k_)) ho0 (fun k_ hk_ => (Nat.le_trans (below_size (by repeat (first | (with_reducible first | exact HB.out | apply below_alloc | apply pw_below_drewN | apply below_drew1) | exact HB.out))) hk_))) (below_size (by repeat (first | (with_reducible first | exact HB.out | apply below_alloc | apply pw_below_drewN | apply below_drew1) | exact HB.out)))); have n1_ := Aside0.mk (below_step (by repeat (first | (with_reducible first | exact HB.out | apply below_alloc | apply pw_below_drewN | apply below_drew1) | exact HB.out)) hb); clear HB; have HO195 := n0_; have HB := n1_; clear n0_ n1_; (try clear hb); (try clear hb2); (try clear hk); (try clear hi); (try clear ho0); obtain ⟨Ao9, co9, eo9⟩ := Kd.N_slice HO195.out; subst eo9))
      go_ret2
      exact ⟨_, by first | rfl | (simp [errW_none, errW_some] <;> rfl) | (simp [*, errW_none, errW_some] <;> rfl), by (with_reducible repeat (first | apply Kd.N_alloc | apply Kd.N_drewN | apply Kd.N_drew)); exact HO195.out, by repeat (first | (with_reducible first | exact HB.out | apply below_alloc | apply pw_below_drewN | apply below_drew1) | exact HB.out)⟩
  · rw [if_neg c3] at H
    have c3b0 : (t192 == 0) = false := beq_eq_false_iff_ne.mpr c3
    have c3b1 : (t192 != 0) = true := bne_iff_ne.mpr c3
    simp only [Option.some.injEq, Prod.mk.injEq] at H
    obtain ⟨rfl, rfl⟩ := H
    go_enter Try.func54, Try.ntmps54
    go_wp2_with (first | ((with_reducible refine gate_callee (f := 40) rfl ?_); refine goesL_ (some 7) rfl rfl Try.func40 (by kernel_rfl) rfl #[.slice A0 l0.length c0] rfl (by (try simp only [List.map_toArray, List.map_cons, List.map_nil]); first | done | rfl | (simp only [List.length_drop, List.length_take]; rfl)) ?_; (with_reducible refine (cippusref07_Check.calls k _ _ l0 t192 _ ?side1 ?side2 A2.out).mono ?_); (case side1 => repeat (first | exact HR0.out | (with_reducible refine Kd.C_alloc ?_ _) | (with_reducible refine Kd.C_drewN ?_ _) | (with_reducible refine Kd.C_drew ?_))); (case side2 => exact HC0.out); rintro e w' ⟨rfl, ⟨nd, rfl⟩⟩; refine ⟨_, rfl, ?_⟩))
    go_ret2
    exact ⟨_, by first | rfl | (simp [errW_none, errW_some] <;> rfl) | (simp [*, errW_none, errW_some] <;> rfl), by first | exact Kd.S_nil _ _ _ _ _ | exact Kd.N_nil _ _ _ _ _ | exact Kd.V_nil _ _ _ _ _ | exact Kd.Q_nil _ _ _ _ _ | exact Kd.R_nil _ _ _ _ _, by repeat (first | (with_reducible first | exact HB.out | apply below_alloc | apply pw_below_drewN | apply below_drew1) | exact HB.out)⟩
end Go.Proofs.Ytegjollhajgcdaa.P
namespace Go.Proofs.Ytegjollhajgcdaa.P
open Go.RowKit Go.Proofs.YtegjollhajgcdaaW.PrintWords Go.Proofs.YtegjollhajgcdaaW.PrintLast Go.Proofs.YtegjollhajgcdaaW.PrintMore
attribute [local go_sem] max2_int min2_int max_two min_two max_three min_three max_four min_four   -- for this text's walks alone
set_option linter.unusedVariables false
set_option linter.unusedSimpArgs false
def cippusref07_verdict.f (a0 : Int) (a1 : Int) : Option (Int) := if a0 = a1 then (some 1) else (if a0 = 0 then (some 2) else (some 3))
set_option maxHeartbeats 8000000 in
set_option maxRecDepth 100000 in
theorem cippusref07_verdict.calls (a0 : Int) (a1 : Int) (r : Int) (w : World) (h : cippusref07_verdict.f a0 a1 = some r) :
    Calls Try.prog 63 #[.int .i64 a0, .int .i64 a1] w fun e w' => e = .returned (.int .i64 r) ∧ Drawn0 w w' := by
  have H : (if a0 = a1 then (some 1) else (if a0 = 0 then (some 2) else (some 3))) = some r := h
  clear h
  by_cases c3 : a0 = a1
  · rw [if_pos c3] at H
    have c3b0 : (a0 == a1) = true := beq_iff_eq.mpr c3
    have c3b1 : (a0 != a1) = false := bne_eq_false_iff_eq.mpr c3
    clear c3
    obtain rfl := Option.some.inj H
    go_enter Try.func63, Try.ntmps63
    go_wp2
    go_ret
    exact ⟨by first | rfl | (simp; done) | (simp [*]; done), by repeat (first | exact Drawn0.refl _ | apply Drawn0.step)⟩
  · rw [if_neg c3] at H
    have c3b0 : (a0 == a1) = false := beq_eq_false_iff_ne.mpr c3
    have c3b1 : (a0 != a1) = true := bne_iff_ne.mpr c3
    by_cases c4 : a0 = 0
    · rw [if_pos c4] at H
      have c4b0 : (a0 == 0) = true := beq_iff_eq.mpr c4
      have c4b1 : (a0 != 0) = false := bne_eq_false_iff_eq.mpr c4
      clear c4
      obtain rfl := Option.some.inj H
      go_enter Try.func63, Try.ntmps63
      go_wp2
      go_ret
      exact ⟨by first | rfl | (simp; done) | (simp [*]; done), by repeat (first | exact Drawn0.refl _ | apply Drawn0.step)⟩
    · rw [if_neg c4] at H
      have c4b0 : (a0 == 0) = false := beq_eq_false_iff_ne.mpr c4
      have c4b1 : (a0 != 0) = true := bne_iff_ne.mpr c4
      obtain rfl := Option.some.inj H
      go_enter Try.func63, Try.ntmps63
      go_wp2
      go_ret
      exact ⟨by first | rfl | (simp; done) | (simp [*]; done), by repeat (first | exact Drawn0.refl _ | apply Drawn0.step)⟩
end Go.Proofs.Ytegjollhajgcdaa.P
namespace Go.Proofs.Ytegjollhajgcdaa.P
open Go.RowKit Go.Proofs.YtegjollhajgcdaaW.PrintWords Go.Proofs.YtegjollhajgcdaaW.PrintLast Go.Proofs.YtegjollhajgcdaaW.PrintMore
attribute [local go_sem] max2_int min2_int max_two min_two max_three min_three max_four min_four   -- for this text's walks alone
set_option linter.unusedVariables false
set_option linter.unusedSimpArgs false
mutual
def cippusref07_Sources.l0 : Nat → List (S24) → List (S95) → List (List Int) → Int → Option ((List (List Int)) × Int)
  | 0, _, _, _, _ => none
  | k + 1, x0, x4, x6, x7 => if x7 < (x0.length : Int) then (cippusref07_Sources.l1 k x0 x4 x6 x7 ([] : List Int) (-1)) else (some (x6, 0))
def cippusref07_Sources.l1 : Nat → List (S24) → List (S95) → List (List Int) → Int → List Int → Int → Option ((List (List Int)) × Int)
  | 0, _, _, _, _, _, _ => none
  | k + 1, x0, x4, x6, x7, x8, x9 => if x9 < x7 then (cippusref07_Sources.l2 k x0 x4 x6 x7 x8 x9 0 0) else (if x6.length < 5864062014805 then (cippusref07_Sources.l0 k x0 x4 (x6 ++ [x8]) (wrap64 (x7 + 1))) else (none))
def cippusref07_Sources.l2 : Nat → List (S24) → List (S95) → List (List Int) → Int → List Int → Int → Int → Int → Option ((List (List Int)) × Int)
  | 0, _, _, _, _, _, _, _, _ => none
  | k + 1, x0, x4, x6, x7, x8, x9, x10, x11 => if x11 < (x4.length : Int) then (if 0 ≤ x11 then (if 0 ≤ x7 then (if x7 < (((rd_T95 x4 x11).f0).length : Int) then (if (rd ((rd_T95 x4 x11).f0) x7) = x9 then (cippusref07_Sources.l2 k x0 x4 x6 x7 x8 x9 (wrap64 (x10 + 1)) (wrap64 (x11 + 1))) else (cippusref07_Sources.l2 k x0 x4 x6 x7 x8 x9 x10 (wrap64 (x11 + 1)))) else (none)) else (none)) else (none)) else ((cippusref07_verdict.f x10 (x4.length : Int)).bind fun t256 => (if x8.length < 17592186044416 then (cippusref07_Sources.l1 k x0 x4 x6 x7 (x8 ++ [t256]) (wrap64 (x9 + 1))) else (none)))
end
def cippusref07_Sources.f (k : Nat) (l0 : List (S24)) : Option ((List (List Int)) × Int) := (cippusref07_known.f k l0).bind fun bt247 => (if bt247.2 = 0 then (cippusref07_Sources.l0 k l0 bt247.1 ([] : List (List Int)) 0) else (some (([] : List (List Int)), bt247.2)))
set_option maxHeartbeats 8000000 in
set_option maxRecDepth 100000 in
theorem cippusref07_Sources.calls (k : Nat) (A0 : Option Addr) (c0 : Nat) (l0 : List (S24)) (r1 : List (List Int)) (r2 : Int) (w : World) (hr0 : Kd.C k24 w A0 l0.length l0) (hc0 : l0.length ≤ c0) (h : cippusref07_Sources.f k l0 = some (r1, r2)) :
    Calls Try.prog 36 #[.slice A0 l0.length c0] w fun e w' => ∃ v0_ : Value, e = .returned (.tuple #[v0_, .int .i64 r2]) ∧ Kd.N (Kd.slice 3 (Kd.int .i64)) 25 w' w.heap.size (fun k_ => (w.heap.size ≤ k_)) v0_ r1 ∧ Below w.heap.size w w' := by
  have HR0 := Aside0.mk hr0
  have HC0 := Aside0.mk hc0
  clear hr0 hc0
  have HB := Aside0.mk (Below.refl w.heap.size w)
  have H : ((cippusref07_known.f k l0).bind fun bt247 => (if bt247.2 = 0 then (cippusref07_Sources.l0 k l0 bt247.1 ([] : List (List Int)) 0) else (some (([] : List (List Int)), bt247.2)))) = some (r1, r2) := h
  clear h
  replace H := Option.bind_eq_some_iff.mp H
  obtain ⟨⟨t247, t250⟩, A20, H⟩ := H
  replace H : (if t250 = 0 then (cippusref07_Sources.l0 k l0 t247 ([] : List (List Int)) 0) else (some (([] : List (List Int)), t250))) = some (r1, r2) := H
  have A2 := Aside0.mk A20
  clear A20
  by_cases c3 : t250 = 0
  · rw [if_pos c3] at H
    have c3b0 : (t250 == 0) = true := beq_iff_eq.mpr c3
    have c3b1 : (t250 != 0) = false := bne_eq_false_iff_eq.mpr c3
    clear c3
    have H' := Aside0.mk H
    clear H
    go_enter Try.func36, Try.ntmps36
    go_wp2_with (first | ((with_reducible refine gate_callee (f := 54) rfl ?_); refine goesL_ (some 14) rfl rfl Try.func54 (by kernel_rfl) rfl #[.slice A0 l0.length c0] rfl (by (try simp only [List.map_toArray, List.map_cons, List.map_nil]); first | done | rfl | (simp only [List.length_drop, List.length_take]; rfl)) ?_; (with_reducible refine (cippusref07_known.calls k _ _ l0 t247 t250 _ ?side1 ?side2 A2.out).mono ?_); (case side1 => repeat (first | exact HR0.out | (with_reducible refine Kd.C_alloc ?_ _) | (with_reducible refine Kd.C_drewN ?_ _) | (with_reducible refine Kd.C_drew ?_))); (case side2 => exact HC0.out); rintro e w4 ⟨v248, rfl, ho0, hb⟩; refine ⟨_, rfl, ?_⟩; have n0_ := Aside0.mk (Kd.N_lower (Kd.N_mono (ok' := fun k_ => (w.heap.size ≤ k_)) ho0 (fun k_ hk_ => (Nat.le_trans (below_size (by repeat (first | (with_reducible first | exact HB.out | apply below_alloc | apply pw_below_drewN | apply below_drew1) | exact HB.out))) hk_))) (below_size (by repeat (first | (with_reducible first | exact HB.out | apply below_alloc | apply pw_below_drewN | apply below_drew1) | exact HB.out)))); have n1_ := Aside0.mk (below_step (by repeat (first | (with_reducible first | exact HB.out | apply below_alloc | apply pw_below_drewN | apply below_drew1) | exact HB.out)) hb); clear HB; have HO249 := n0_; have HB := n1_; clear n0_ n1_; (try clear hb); (try clear hb2); (try clear hk); (try clear hi); (try clear ho0)))
    go_loopg [6, 7] k (fun kq v6 v7 w' => ∃ (x6_1 : List (List Int)) (x7_1 : Int), v7 = .int .i64 x7_1 ∧ Aside0 (cippusref07_Sources.l0 kq l0 t247 x6_1 x7_1 = some (r1, r2)) ∧ Aside0 (kq ≤ k) ∧ Aside0 (Kd.N k95 95 w' w.heap.size (fun k_ => (w.heap.size ≤ k_) ∧ some k_ ≠ (v6 : Value).ownBlock) v248 t247) ∧ Aside0 (Kd.N (Kd.slice 3 (Kd.int .i64)) 25 w' w.heap.size (fun k_ => (w.heap.size ≤ k_) ∧ some k_ ≠ (v248 : Value).ownBlock) v6 x6_1) ∧ Aside0 (Below w.heap.size w w'))
    case atStart => exact ⟨(([] : List (List Int))), (0), (by first | rfl | (simp; done) | (simp [*]; done)), H', ⟨Nat.le_refl _⟩, ⟨by (with_reducible repeat (first | apply Kd.N_alloc | apply Kd.N_drewN | apply Kd.N_drew)); exact Kd.N_mono HO249.out (fun _ hk => ⟨hk, (by simp [Value.ownBlock])⟩)⟩, ⟨by first | exact Kd.S_nil _ _ _ _ _ | exact Kd.N_nil _ _ _ _ _ | exact Kd.V_nil _ _ _ _ _ | exact Kd.Q_nil _ _ _ _ _ | exact Kd.R_nil _ _ _ _ _⟩, ⟨by repeat (first | (with_reducible first | exact HB.out | apply below_alloc | apply pw_below_drewN | apply below_drew1) | exact HB.out)⟩⟩
    case round =>
      clear H'
      try clear p2
      try clear c3
      try clear c3b0
      try clear c3b1
      obtain ⟨x6_1, x7_1, rfl, HA, HK1, HO_4, HO_6, HB⟩ := hrel
      cases gk with
      | zero => exact absurd HA.out (by simp [cippusref07_Sources.l0])
      | succ k1 =>
        have H := HA.out
        clear HA
        simp only [cippusref07_Sources.l0] at H
        by_cases c5 : x7_1 < (l0.length : Int)
        · rw [if_pos c5] at H
          have c5b0 : decide (x7_1 < (l0.length : Int)) = true := decide_eq_true c5
          clear c5
          have H' := Aside0.mk H
          clear H
          go_wp2
          go_loopg [8, 9] k1 (fun kq v8 v9 w' => ∃ (x8_2 : List Int) (x9_2 : Int), v9 = .int .i64 x9_2 ∧ Aside0 (cippusref07_Sources.l1 kq l0 t247 x6_1 x7_1 x8_2 x9_2 = some (r1, r2)) ∧ Aside0 (kq ≤ k1) ∧ Aside0 (Kd.N k95 95 w' w.heap.size (fun k_ => (w.heap.size ≤ k_) ∧ some k_ ≠ (u6 : Value).ownBlock ∧ some k_ ≠ (v8 : Value).ownBlock) v248 t247) ∧ Aside0 (Kd.N (Kd.slice 3 (Kd.int .i64)) 25 w' w.heap.size (fun k_ => (w.heap.size ≤ k_) ∧ some k_ ≠ (v248 : Value).ownBlock ∧ some k_ ≠ (v8 : Value).ownBlock) u6 x6_1) ∧ Aside0 (Kd.R (Kd.int .i64) 3 w' w.heap.size (fun k_ => (w.heap.size ≤ k_)) v8 x8_2) ∧ Aside0 (Below w.heap.size w w'))
          case atStart => exact ⟨(([] : List Int)), ((-1)), (by first | rfl | (simp; done) | (simp [*]; done)), H', ⟨Nat.le_refl _⟩, ⟨by (with_reducible repeat (first | apply Kd.N_alloc | apply Kd.N_drewN | apply Kd.N_drew)); exact Kd.N_mono HO_4.out (fun _ hk => ⟨hk.1, ⟨hk.2, (by simp [Value.ownBlock])⟩⟩)⟩, ⟨by (with_reducible repeat (first | apply Kd.N_alloc | apply Kd.N_drewN | apply Kd.N_drew)); exact Kd.N_mono HO_6.out (fun _ hk => ⟨hk.1, ⟨hk.2, (by simp [Value.ownBlock])⟩⟩)⟩, ⟨by first | exact Kd.R_nil _ _ _ _ _ | exact Kd.N_nil _ _ _ _ _ | exact Kd.V_nil _ _ _ _ _ | exact Kd.Q_nil _ _ _ _ _ | exact Kd.S_nil _ _ _ _ _⟩, ⟨by repeat (first | (with_reducible first | exact HB.out | apply below_alloc | apply pw_below_drewN | apply below_drew1) | exact HB.out)⟩⟩
          case round =>
            clear H'
            try clear p2
            try clear c3
            try clear c3b0
            try clear c3b1
            try clear c5
            try clear c5b0
            try clear p2
            obtain ⟨x8_2, x9_2, rfl, HA, HK2, HO_4, HO_6, HO_8, HB⟩ := hrel
            cases gk with
            | zero => exact absurd HA.out (by simp [cippusref07_Sources.l1])
            | succ k2 =>
              have H := HA.out
              clear HA
              simp only [cippusref07_Sources.l1] at H
              by_cases c6 : x9_2 < x7_1
              · rw [if_pos c6] at H
                have c6b0 : decide (x9_2 < x7_1) = true := decide_eq_true c6
                clear c6
                have H' := Aside0.mk H
                clear H
                go_wp2
                go_loopg [10, 11] k2 (fun kq v10 v11 w' => ∃ (x10_3 : Int) (x11_3 : Int), v10 = .int .i64 x10_3 ∧ v11 = .int .i64 x11_3 ∧ Aside0 (cippusref07_Sources.l2 kq l0 t247 x6_1 x7_1 x8_2 x9_2 x10_3 x11_3 = some (r1, r2)) ∧ Aside0 (kq ≤ k2) ∧ Aside0 (Kd.N k95 95 w' w.heap.size (fun k_ => (w.heap.size ≤ k_) ∧ some k_ ≠ (u6 : Value).ownBlock ∧ some k_ ≠ (u8 : Value).ownBlock) v248 t247) ∧ Aside0 (Kd.N (Kd.slice 3 (Kd.int .i64)) 25 w' w.heap.size (fun k_ => (w.heap.size ≤ k_) ∧ some k_ ≠ (v248 : Value).ownBlock ∧ some k_ ≠ (u8 : Value).ownBlock) u6 x6_1) ∧ Aside0 (Kd.R (Kd.int .i64) 3 w' w.heap.size (fun k_ => (w.heap.size ≤ k_)) u8 x8_2) ∧ Aside0 (Below w.heap.size w w'))
                case atStart => exact ⟨(0), (0), (by first | rfl | (simp; done) | (simp [*]; done)), (by first | rfl | (simp; done) | (simp [*]; done)), H', ⟨Nat.le_refl _⟩, ⟨by (with_reducible repeat (first | apply Kd.N_alloc | apply Kd.N_drewN | apply Kd.N_drew)); exact HO_4.out⟩, ⟨by (with_reducible repeat (first | apply Kd.N_alloc | apply Kd.N_drewN | apply Kd.N_drew)); exact HO_6.out⟩, ⟨by (with_reducible repeat (first | apply Kd.R_alloc | apply Kd.R_drewN | apply Kd.R_drew)); exact HO_8.out⟩, ⟨by repeat (first | (with_reducible first | exact HB.out | apply below_alloc | apply pw_below_drewN | apply below_drew1) | exact HB.out)⟩⟩
                case round =>
                  clear H'
                  try clear p2
                  try clear c3
                  try clear c3b0
                  try clear c3b1
                  try clear c5
                  try clear c5b0
                  try clear c6
                  try clear c6b0
                  try clear p2
                  obtain ⟨x10_3, x11_3, rfl, rfl, HA, HK3, HO_4, HO_6, HO_8, HB⟩ := hrel
                  cases gk with
                  | zero => exact absurd HA.out (by simp [cippusref07_Sources.l2])
                  | succ k3 =>
                    have H := HA.out
                    clear HA
                    simp only [cippusref07_Sources.l2] at H
                    by_cases c7 : x11_3 < (t247.length : Int)
                    · rw [if_pos c7] at H
                      have c7b0 : decide (x11_3 < (t247.length : Int)) = true := decide_eq_true c7
                      clear c7
                      by_cases c8 : 0 ≤ x11_3
                      · rw [if_pos c8] at H
                        have c8b0 : decide (0 ≤ x11_3) = true := decide_eq_true c8
                        clear c8
                        by_cases c9 : 0 ≤ x7_1
                        · rw [if_pos c9] at H
                          have c9b0 : decide (0 ≤ x7_1) = true := decide_eq_true c9
                          clear c9
                          by_cases c10 : x7_1 < (((rd_T95 t247 x11_3).f0).length : Int)
                          · rw [if_pos c10] at H
                            have c10b0 : decide (x7_1 < (((rd_T95 t247 x11_3).f0).length : Int)) = true := decide_eq_true c10
                            clear c10
                            by_cases c11 : (rd ((rd_T95 t247 x11_3).f0) x7_1) = x9_2
                            · rw [if_pos c11] at H
                              have c11b0 : ((rd ((rd_T95 t247 x11_3).f0) x7_1) == x9_2) = true := beq_iff_eq.mpr c11
                              have c11b1 : ((rd ((rd_T95 t247 x11_3).f0) x7_1) != x9_2) = false := bne_eq_false_iff_eq.mpr c11
                              clear c11
                              have H' := Aside0.mk H
                              clear H
                              obtain ⟨Ao12, co12, eo12⟩ := Kd.N_slice HO_4.out
                              subst eo12
                              have p254 : 0 ≤ (x11_3 : Int) := of_decide_eq_true (by first | (with_reducible assumption) | assumption)
                              have q254 : x11_3 < (t247.length : Int) := of_decide_eq_true (by first | (with_reducible assumption) | assumption)
                              obtain ⟨ad254, A254_0, c254_0, A254_1, c254_1, e254, hx254_0, hx254_1, hl254_0, hi254_0, hl254_1, hi254_1⟩ := at_T95 (Kd.N_reads' HO_4.out).2.2 x11_3 p254 q254
                              cases e254
                              obtain ⟨ce254, hce254, hMe254, hcc254⟩ := Kd.N_get HO_4.out z95 x11_3 p254 (by first | exact q254 | exact of_decide_eq_true (by first | (with_reducible assumption) | assumption) | (have e_ := (Kd.N_reads' HO_4.out).1; omega))
                              obtain ⟨ua254_0, uc254_0, ua254_1, uc254_1, rfl, ul254_0, ge254_0, ul254_1, ge254_1⟩ := k95_openF hMe254
                              have hv254_0 := hcc254 0 _ rfl
                              rw [Nat.add_zero] at hv254_0
                              replace hv254_0 := Option.some.inj (hv254_0.symm.trans hx254_0)
                              injection hv254_0 with hva_ hvn_ hvc_
                              rw [hva_] at ge254_0
                              rw [hvc_] at ul254_0
                              have HL254_0 := Aside0.mk (show Kd.V (Kd.int .i64) 3 _ w.heap.size _ _ ((rd_T95 t247 x11_3).f0) from Kd.V_mk ul254_0 ge254_0)
                              clear hva_ hvn_ hvc_ ge254_0 ul254_0
                              have hv254_1 := hcc254 1 _ rfl
                              rw [add_field _ _ 1 (by omega)] at hv254_1
                              replace hv254_1 := Option.some.inj (hv254_1.symm.trans hx254_1)
                              injection hv254_1 with hva_ hvn_ hvc_
                              rw [hva_] at ge254_1
                              rw [hvc_] at ul254_1
                              have HL254_1 := Aside0.mk (show Kd.V Kd.string 9 _ w.heap.size _ _ ((rd_T95 t247 x11_3).f1) from Kd.V_mk ul254_1 ge254_1)
                              clear hva_ hvn_ hvc_ ge254_1 ul254_1
                              clear hcc254 hce254
                              have HR254_0 := Aside0.mk hi254_0
                              have HC254_0 := Aside0.mk hl254_0
                              clear hi254_0 hl254_0
                              have HR254_1 := Aside0.mk hi254_1
                              have HC254_1 := Aside0.mk hl254_1
                              clear hi254_1 hl254_1
                              replace p254 := eq_true p254
                              replace q254 := eq_true q254
                              have p255 : 0 ≤ (x7_1 : Int) := of_decide_eq_true (by first | (with_reducible assumption) | assumption)
                              have q255 : x7_1 < (((rd_T95 t247 x11_3).f0).length : Int) := of_decide_eq_true (by first | (with_reducible assumption) | assumption)
                              obtain ⟨ad255, e255, hx255_0⟩ := Kd.at_int (by repeat (first | (with_reducible exact HR254_0.out) | (with_reducible refine Kd.C_alloc ?_ _) | (with_reducible refine Kd.C_drewN ?_ _) | (with_reducible refine Kd.C_drew ?_) | exact HR254_0.out)) x7_1 p255 q255
                              cases e255
                              replace p255 := eq_true p255
                              replace q255 := eq_true q255
                              go_wp2
                              go_roundg k3
                              case measure => have := HK1.out; have := HK2.out; have := HK3.out; omega
                              case rel => exact ⟨(wrap64 (x10_3 + 1)), (wrap64 (x11_3 + 1)), (by first | rfl | (simp; done) | (simp [*]; done)), (by first | rfl | (simp; done) | (simp [*]; done)), H', ⟨by have := HK1.out; have := HK2.out; have := HK3.out; omega⟩, ⟨by (with_reducible repeat (first | apply Kd.N_alloc | apply Kd.N_drewN | apply Kd.N_drew)); exact HO_4.out⟩, ⟨by (with_reducible repeat (first | apply Kd.N_alloc | apply Kd.N_drewN | apply Kd.N_drew)); exact HO_6.out⟩, ⟨by (with_reducible repeat (first | apply Kd.R_alloc | apply Kd.R_drewN | apply Kd.R_drew)); exact HO_8.out⟩, ⟨by repeat (first | (with_reducible first | exact HB.out | apply below_alloc | apply pw_below_drewN | apply below_drew1) | exact HB.out)⟩⟩
                            · rw [if_neg c11] at H
                              have c11b0 : ((rd ((rd_T95 t247 x11_3).f0) x7_1) == x9_2) = false := beq_eq_false_iff_ne.mpr c11
                              have c11b1 : ((rd ((rd_T95 t247 x11_3).f0) x7_1) != x9_2) = true := bne_iff_ne.mpr c11
                              have H' := Aside0.mk H
                              clear H
                              obtain ⟨Ao13, co13, eo13⟩ := Kd.N_slice HO_4.out
                              subst eo13
                              have p254 : 0 ≤ (x11_3 : Int) := of_decide_eq_true (by first | (with_reducible assumption) | assumption)
                              have q254 : x11_3 < (t247.length : Int) := of_decide_eq_true (by first | (with_reducible assumption) | assumption)
                              obtain ⟨ad254, A254_0, c254_0, A254_1, c254_1, e254, hx254_0, hx254_1, hl254_0, hi254_0, hl254_1, hi254_1⟩ := at_T95 (Kd.N_reads' HO_4.out).2.2 x11_3 p254 q254
                              cases e254
                              obtain ⟨ce254, hce254, hMe254, hcc254⟩ := Kd.N_get HO_4.out z95 x11_3 p254 (by first | exact q254 | exact of_decide_eq_true (by first | (with_reducible assumption) | assumption) | (have e_ := (Kd.N_reads' HO_4.out).1; omega))
                              obtain ⟨ua254_0, uc254_0, ua254_1, uc254_1, rfl, ul254_0, ge254_0, ul254_1, ge254_1⟩ := k95_openF hMe254
                              have hv254_0 := hcc254 0 _ rfl
                              rw [Nat.add_zero] at hv254_0
                              replace hv254_0 := Option.some.inj (hv254_0.symm.trans hx254_0)
                              injection hv254_0 with hva_ hvn_ hvc_
                              rw [hva_] at ge254_0
                              rw [hvc_] at ul254_0
                              have HL254_0 := Aside0.mk (show Kd.V (Kd.int .i64) 3 _ w.heap.size _ _ ((rd_T95 t247 x11_3).f0) from Kd.V_mk ul254_0 ge254_0)
                              clear hva_ hvn_ hvc_ ge254_0 ul254_0
                              have hv254_1 := hcc254 1 _ rfl
                              rw [add_field _ _ 1 (by omega)] at hv254_1
                              replace hv254_1 := Option.some.inj (hv254_1.symm.trans hx254_1)
                              injection hv254_1 with hva_ hvn_ hvc_
                              rw [hva_] at ge254_1
                              rw [hvc_] at ul254_1
                              have HL254_1 := Aside0.mk (show Kd.V Kd.string 9 _ w.heap.size _ _ ((rd_T95 t247 x11_3).f1) from Kd.V_mk ul254_1 ge254_1)
                              clear hva_ hvn_ hvc_ ge254_1 ul254_1
                              clear hcc254 hce254
                              have HR254_0 := Aside0.mk hi254_0
                              have HC254_0 := Aside0.mk hl254_0
                              clear hi254_0 hl254_0
                              have HR254_1 := Aside0.mk hi254_1
                              have HC254_1 := Aside0.mk hl254_1
                              clear hi254_1 hl254_1
                              replace p254 := eq_true p254
                              replace q254 := eq_true q254
                              have p255 : 0 ≤ (x7_1 : Int) := of_decide_eq_true (by first | (with_reducible assumption) | assumption)
                              have q255 : x7_1 < (((rd_T95 t247 x11_3).f0).length : Int) := of_decide_eq_true (by first | (with_reducible assumption) | assumption)
                              obtain ⟨ad255, e255, hx255_0⟩ := Kd.at_int (by repeat (first | (with_reducible exact HR254_0.out) | (with_reducible refine Kd.C_alloc ?_ _) | (with_reducible refine Kd.C_drewN ?_ _) | (with_reducible refine Kd.C_drew ?_) | exact HR254_0.out)) x7_1 p255 q255
                              cases e255
                              replace p255 := eq_true p255
                              replace q255 := eq_true q255
                              go_wp2
                              go_roundg k3
                              case measure => have := HK1.out; have := HK2.out; have := HK3.out; omega
                              case rel => exact ⟨(x10_3), (wrap64 (x11_3 + 1)), (by first | rfl | (simp; done) | (simp [*]; done)), (by first | rfl | (simp; done) | (simp [*]; done)), H', ⟨by have := HK1.out; have := HK2.out; have := HK3.out; omega⟩, ⟨by (with_reducible repeat (first | apply Kd.N_alloc | apply Kd.N_drewN | apply Kd.N_drew)); exact HO_4.out⟩, ⟨by (with_reducible repeat (first | apply Kd.N_alloc | apply Kd.N_drewN | apply Kd.N_drew)); exact HO_6.out⟩, ⟨by (with_reducible repeat (first | apply Kd.R_alloc | apply Kd.R_drewN | apply Kd.R_drew)); exact HO_8.out⟩, ⟨by repeat (first | (with_reducible first | exact HB.out | apply below_alloc | apply pw_below_drewN | apply below_drew1) | exact HB.out)⟩⟩
                          · rw [if_neg c10] at H
                            exact absurd H (by simp)
                        · rw [if_neg c9] at H
                          exact absurd H (by simp)
                      · rw [if_neg c8] at H
                        exact absurd H (by simp)
                    · rw [if_neg c7] at H
                      have c7b0 : decide (x11_3 < (t247.length : Int)) = false := decide_eq_false c7
                      clear c7
                      replace H := Option.bind_eq_some_iff.mp H
                      obtain ⟨t256, A140, H⟩ := H
                      replace H : (if x8_2.length < 17592186044416 then (cippusref07_Sources.l1 k3 l0 t247 x6_1 x7_1 (x8_2 ++ [t256]) (wrap64 (x9_2 + 1))) else (none)) = some (r1, r2) := H
                      have A14 := Aside0.mk A140
                      clear A140
                      by_cases c15 : x8_2.length < 17592186044416
                      · rw [if_pos c15] at H
                        have LMc15 := Aside0.mk c15
                        clear c15
                        obtain ⟨y257, hy257⟩ : ∃ y_ : List Int, y_ = (x8_2 ++ [t256]) := ⟨_, rfl⟩
                        replace H : (cippusref07_Sources.l1 k3 l0 t247 x6_1 x7_1 y257 (wrap64 (x9_2 + 1))) = some (r1, r2) := by first | (rw [hy257]; with_reducible exact H) | (have H2_ := (Option.bind_some _ _).symm.trans H; rw [hy257]; with_reducible exact H2_) | (have H2_ := (Option.bind_some _ _).symm.trans H; with_reducible exact H2_) | with_reducible exact H | (rw [hy257]; exact H) | exact H
                        have Ny257 := Aside0.mk hy257
                        clear hy257
                        have H' := Aside0.mk H
                        clear H
                        obtain ⟨Ao16, co16, eo16⟩ := Kd.N_slice HO_4.out
                        subst eo16
                        go_wp2_with (first | ((with_reducible refine gate_callee (f := 63) rfl ?_); refine goesL_ (some 53) rfl rfl Try.func63 (by kernel_rfl) rfl #[.int .i64 x10_3, .int .i64 (t247.length : Int)] rfl (by (try simp only [List.map_toArray, List.map_cons, List.map_nil]); first | done | rfl | (simp only [List.length_drop, List.length_take]; rfl)) ?_; (with_reducible refine (cippusref07_verdict.calls x10_3 (t247.length : Int) t256 _ A14.out).mono ?_); rintro e w' ⟨rfl, ⟨nd, rfl⟩⟩; refine ⟨_, rfl, ?_⟩) | ((with_reducible refine gate_builtin (b := .append) (xs := #[.tmp 49, .tmp 54]) rfl ?_); at_builtin; refine Kd.R_append (Kd.int .i64) (w0 := w) w.heap.size rfl (.tmp 49) (.tmp 54) 25 3 (.int .i64 0) 8 rfl Try.underlying25 info3 rfl (by decide) (by omega) u8 x8_2 t256 [.int .i64 t256] (fun k_ => (w.heap.size ≤ k_)) (fun _ => False) rfl rfl ?aP (fun _ hk => hk.elim) ?aF ?aO ?aB ?aS ?aL ?_; (case aP => exact rfl); (case aB => exact (by repeat (first | (with_reducible first | exact HB.out | apply below_alloc | apply pw_below_drewN | apply below_drew1) | exact HB.out))); (case aF => exact (fun k_ hk => (Nat.le_trans (below_size (by repeat (first | (with_reducible first | exact HB.out | apply below_alloc | apply pw_below_drewN | apply below_drew1) | exact HB.out))) hk))); (case aO => exact (by (with_reducible repeat (first | apply Kd.R_alloc | apply Kd.R_drewN | apply Kd.R_drew)); exact HO_8.out)); (case aS => exact (below_size (by repeat (first | (with_reducible first | exact HB.out | apply below_alloc | apply pw_below_drewN | apply below_drew1) | exact HB.out)))); (case aL => have := LMc15.out; omega); intro v258 w17 ho hb hg hat; rw [← Ny257.out] at ho; have n0_ := Aside0.mk (Kd.N_afterv (ok := (fun k_ => (w.heap.size ≤ k_) ∧ some k_ ≠ (u6 : Value).ownBlock)) (by (with_reducible repeat (first | apply Kd.N_alloc | apply Kd.N_drewN | apply Kd.N_drew)); exact Kd.N_mono HO_4.out (fun _ hk => ⟨⟨hk.1, hk.2.1⟩, hk.2.2⟩)) hg hat); have n1_ := Aside0.mk (Kd.N_afterv (ok := (fun k_ => (w.heap.size ≤ k_) ∧ some k_ ≠ (.slice Ao16 t247.length co16 : Value).ownBlock)) (by (with_reducible repeat (first | apply Kd.N_alloc | apply Kd.N_drewN | apply Kd.N_drew)); exact Kd.N_mono HO_6.out (fun _ hk => ⟨⟨hk.1, hk.2.1⟩, hk.2.2⟩)) hg hat); have n2_ := Aside0.mk (hb); have n3_ := Aside0.mk (ho); clear HO_4; clear HO_6; clear HB; clear HO_8; have HO_4 := n0_; have HO_6 := n1_; have HB := n2_; have HO259 := n3_; clear n0_ n1_ n2_ n3_; clear ho hb hg hat))
                        go_roundg k3
                        case measure => have := HK1.out; have := HK2.out; have := HK3.out; omega
                        case rel => exact ⟨(y257), (wrap64 (x9_2 + 1)), (by first | rfl | (simp; done) | (simp [*]; done)), H', ⟨by have := HK1.out; have := HK2.out; have := HK3.out; omega⟩, ⟨by (with_reducible repeat (first | apply Kd.N_alloc | apply Kd.N_drewN | apply Kd.N_drew)); exact Kd.N_mono HO_4.out (fun _ hk => ⟨hk.1.1, ⟨hk.1.2, hk.2⟩⟩)⟩, ⟨by (with_reducible repeat (first | apply Kd.N_alloc | apply Kd.N_drewN | apply Kd.N_drew)); exact Kd.N_mono HO_6.out (fun _ hk => ⟨hk.1.1, ⟨hk.1.2, hk.2⟩⟩)⟩, ⟨by (with_reducible repeat (first | apply Kd.R_alloc | apply Kd.R_drewN | apply Kd.R_drew)); exact HO259.out⟩, ⟨by repeat (first | (with_reducible first | exact HB.out | apply below_alloc | apply pw_below_drewN | apply below_drew1) | exact HB.out)⟩⟩
                      · rw [if_neg c15] at H
                        exact absurd H (by simp)
              · rw [if_neg c6] at H
                have c6b0 : decide (x9_2 < x7_1) = false := decide_eq_false c6
                clear c6
                by_cases c18 : x6_1.length < 5864062014805
                · rw [if_pos c18] at H
                  have LMc18 := Aside0.mk c18
                  clear c18
                  obtain ⟨y251, hy251⟩ : ∃ y_ : List (List Int), y_ = (x6_1 ++ [x8_2]) := ⟨_, rfl⟩
                  replace H : (cippusref07_Sources.l0 k2 l0 t247 y251 (wrap64 (x7_1 + 1))) = some (r1, r2) := by first | (rw [hy251]; with_reducible exact H) | (have H2_ := (Option.bind_some _ _).symm.trans H; rw [hy251]; with_reducible exact H2_) | (have H2_ := (Option.bind_some _ _).symm.trans H; with_reducible exact H2_) | with_reducible exact H | (rw [hy251]; exact H) | exact H
                  have Ny251 := Aside0.mk hy251
                  clear hy251
                  have H' := Aside0.mk H
                  clear H
                  obtain ⟨Ao20, co20, eo20⟩ := Kd.R_slice HO_8.out
                  subst eo20
                  go_wp2_with (first | ((with_reducible refine gate_builtin (b := .append) (xs := #[.tmp 56, .tmp 58]) rfl ?_); at_builtin; refine Kd.N_append (Kd.slice 3 (Kd.int .i64)) (w0 := w) w.heap.size rfl (.tmp 56) (.tmp 58) 53 25 (.slice none 0 0) 24 rfl Try.underlying53 info25 rfl (by decide) (by omega) u6 x6_1 x8_2 [.slice Ao20 x8_2.length co20] (fun k_ => (w.heap.size ≤ k_) ∧ some k_ ≠ (v248 : Value).ownBlock) (fun k_ => ((fun k_ => (w.heap.size ≤ k_) ∧ some k_ ≠ (v248 : Value).ownBlock)) k_ ∧ some k_ ≠ (u6 : Value).ownBlock) rfl rfl ?aP (fun _ hk => hk) ?aF ?aO ?aB ?aS ?aL ?_; (case aP => exact (Kd.FK_slice_mk (Kd.R_reads' (Kd.R_mono (ok' := (fun k_ => ((fun k_ => (w.heap.size ≤ k_) ∧ some k_ ≠ (v248 : Value).ownBlock)) k_ ∧ some k_ ≠ (u6 : Value).ownBlock)) (Kd.R_apart' (Kd.R_apart' (HO_8.out) (Kd.N_typed HO_4.out) (by decide)) (Kd.N_typed HO_6.out) (by decide)) (fun k_ hk => ⟨⟨hk.1.1, hk.1.2⟩, hk.2⟩))).2.1 (Kd.R_F (Kd.R_mono (ok' := (fun k_ => ((fun k_ => (w.heap.size ≤ k_) ∧ some k_ ≠ (v248 : Value).ownBlock)) k_ ∧ some k_ ≠ (u6 : Value).ownBlock)) (Kd.R_apart' (Kd.R_apart' (HO_8.out) (Kd.N_typed HO_4.out) (by decide)) (Kd.N_typed HO_6.out) (by decide)) (fun k_ hk => ⟨⟨hk.1.1, hk.1.2⟩, hk.2⟩))))); (case aB => exact (by repeat (first | (with_reducible first | exact HB.out | apply below_alloc | apply pw_below_drewN | apply below_drew1) | exact HB.out))); (case aF => exact (fun k_ hk => ⟨(Nat.le_trans (below_size (by repeat (first | (with_reducible first | exact HB.out | apply below_alloc | apply pw_below_drewN | apply below_drew1) | exact HB.out))) hk), Kd.fresh' (Kd.N_lt (by (with_reducible repeat (first | apply Kd.N_alloc | apply Kd.N_drewN | apply Kd.N_drew)); exact HO_4.out)) k_ hk⟩)); (case aO => exact (by (with_reducible repeat (first | apply Kd.N_alloc | apply Kd.N_drewN | apply Kd.N_drew)); exact Kd.N_mono HO_6.out (fun _ hk => ⟨hk.1, hk.2.1⟩))); (case aS => exact (below_size (by repeat (first | (with_reducible first | exact HB.out | apply below_alloc | apply pw_below_drewN | apply below_drew1) | exact HB.out)))); (case aL => have := LMc18.out; omega); intro v252 w19 ho hb hg hat; rw [← Ny251.out] at ho; have n0_ := Aside0.mk (Kd.N_afterv (ok := (fun k_ => (w.heap.size ≤ k_) ∧ some k_ ≠ (.slice Ao20 x8_2.length co20 : Value).ownBlock)) (by (with_reducible repeat (first | apply Kd.N_alloc | apply Kd.N_drewN | apply Kd.N_drew)); exact Kd.N_mono HO_4.out (fun _ hk => ⟨⟨hk.1, hk.2.2⟩, hk.2.1⟩)) hg hat); have n1_ := Aside0.mk (hb); have n2_ := Aside0.mk (ho); clear HO_4; clear HB; clear HO_6; clear HO_8; have HO_4 := n0_; have HB := n1_; have HO253 := n2_; clear n0_ n1_ n2_; clear ho hb hg hat))
                  go_roundg k2
                  case measure => have := HK1.out; have := HK2.out; omega
                  case rel => exact ⟨(y251), (wrap64 (x7_1 + 1)), (by first | rfl | (simp; done) | (simp [*]; done)), H', ⟨by have := HK1.out; have := HK2.out; omega⟩, ⟨by (with_reducible repeat (first | apply Kd.N_alloc | apply Kd.N_drewN | apply Kd.N_drew)); exact Kd.N_mono HO_4.out (fun _ hk => ⟨hk.1.1, hk.2⟩)⟩, ⟨by (with_reducible repeat (first | apply Kd.N_alloc | apply Kd.N_drewN | apply Kd.N_drew)); exact HO253.out⟩, ⟨by repeat (first | (with_reducible first | exact HB.out | apply below_alloc | apply pw_below_drewN | apply below_drew1) | exact HB.out)⟩⟩
                · rw [if_neg c18] at H
                  exact absurd H (by simp)
        · rw [if_neg c5] at H
          have c5b0 : decide (x7_1 < (l0.length : Int)) = false := decide_eq_false c5
          clear c5
          simp only [Option.some.injEq, Prod.mk.injEq] at H
          obtain ⟨rfl, rfl⟩ := H
          go_wp2
          go_ret2
          exact ⟨_, by first | rfl | (simp [errW_none, errW_some] <;> rfl) | (simp [*, errW_none, errW_some] <;> rfl), by (with_reducible repeat (first | apply Kd.N_alloc | apply Kd.N_drewN | apply Kd.N_drew)); exact Kd.N_mono HO_6.out (fun _ hk => hk.1), by repeat (first | (with_reducible first | exact HB.out | apply below_alloc | apply pw_below_drewN | apply below_drew1) | exact HB.out)⟩
  · rw [if_neg c3] at H
    have c3b0 : (t250 == 0) = false := beq_eq_false_iff_ne.mpr c3
    have c3b1 : (t250 != 0) = true := bne_iff_ne.mpr c3
    simp only [Option.some.injEq, Prod.mk.injEq] at H
    obtain ⟨rfl, rfl⟩ := H
    go_enter Try.func36, Try.ntmps36
    go_wp2_with (first | ((with_reducible refine gate_callee (f := 54) rfl ?_); refine goesL_ (some 14) rfl rfl Try.func54 (by kernel_rfl) rfl #[.slice A0 l0.length c0] rfl (by (try simp only [List.map_toArray, List.map_cons, List.map_nil]); first | done | rfl | (simp only [List.length_drop, List.length_take]; rfl)) ?_; (with_reducible refine (cippusref07_known.calls k _ _ l0 t247 t250 _ ?side1 ?side2 A2.out).mono ?_); (case side1 => repeat (first | exact HR0.out | (with_reducible refine Kd.C_alloc ?_ _) | (with_reducible refine Kd.C_drewN ?_ _) | (with_reducible refine Kd.C_drew ?_))); (case side2 => exact HC0.out); rintro e w21 ⟨v248, rfl, ho0, hb⟩; refine ⟨_, rfl, ?_⟩; have n0_ := Aside0.mk (Kd.N_lower (Kd.N_mono (ok' := fun k_ => (w.heap.size ≤ k_)) ho0 (fun k_ hk_ => (Nat.le_trans (below_size (by repeat (first | (with_reducible first | exact HB.out | apply below_alloc | apply pw_below_drewN | apply below_drew1) | exact HB.out))) hk_))) (below_size (by repeat (first | (with_reducible first | exact HB.out | apply below_alloc | apply pw_below_drewN | apply below_drew1) | exact HB.out)))); have n1_ := Aside0.mk (below_step (by repeat (first | (with_reducible first | exact HB.out | apply below_alloc | apply pw_below_drewN | apply below_drew1) | exact HB.out)) hb); clear HB; have HO249 := n0_; have HB := n1_; clear n0_ n1_; (try clear hb); (try clear hb2); (try clear hk); (try clear hi); (try clear ho0)))
    go_ret2
    exact ⟨_, by first | rfl | (simp [errW_none, errW_some] <;> rfl) | (simp [*, errW_none, errW_some] <;> rfl), by first | exact Kd.S_nil _ _ _ _ _ | exact Kd.N_nil _ _ _ _ _ | exact Kd.V_nil _ _ _ _ _ | exact Kd.Q_nil _ _ _ _ _ | exact Kd.R_nil _ _ _ _ _, by repeat (first | (with_reducible first | exact HB.out | apply below_alloc | apply pw_below_drewN | apply below_drew1) | exact HB.out)⟩
end Go.Proofs.Ytegjollhajgcdaa.P
namespace Go.Proofs.Ytegjollhajgcdaa.P
open Go.RowKit Go.Proofs.YtegjollhajgcdaaW.PrintWords Go.Proofs.YtegjollhajgcdaaW.PrintLast Go.Proofs.YtegjollhajgcdaaW.PrintMore
attribute [local go_sem] max2_int min2_int max_two min_two max_three min_three max_four min_four   -- for this text's walks alone
set_option linter.unusedVariables false
set_option linter.unusedSimpArgs false
def IsS72 (w0 W : World) (g : Nat) (f0 : Int) (f1 : Int) : Prop := W.heap[g]? = some (.cells #[.int .u64 f0, .int .u64 f1] 72 (0, 0)) ∧ w0.heap.size ≤ g
theorem IsS72.grown {w0 W : World} {g : Nat} {f0 : Int} {f1 : Int} {W1 : World} {row : Option Nat} (h : IsS72 w0 W g f0 f1) (hw : W.grownBy W1 row) (hne : some g ≠ row) : IsS72 w0 W1 g f0 f1 := by
  obtain ⟨hb, hg⟩ := h
  exact ⟨blk_grown hb hw hne, hg⟩
theorem IsS72.kept {w0 W : World} {g : Nat} {f0 : Int} {f1 : Int} {W1 : World} {S : Nat → Prop} (h : IsS72 w0 W g f0 f1) (hk : Kept W W1 S) (hne : ¬ S g) : IsS72 w0 W1 g f0 f1 := by
  obtain ⟨hb, hg⟩ := h
  exact ⟨blk_kept hb hk hne, hg⟩
theorem IsS72.below {w0 W : World} {g : Nat} {f0 : Int} {f1 : Int} {W1 : World} (h : IsS72 w0 W g f0 f1) (hw : Below W.heap.size W W1) : IsS72 w0 W1 g f0 f1 := h.grown (grown_of_below hw none) (by simp)
theorem IsS72.alloc {w0 W : World} {g : Nat} {f0 : Int} {f1 : Int} (h : IsS72 w0 W g f0 f1) (o : Obj) : IsS72 w0 (W.alloc o) g f0 f1 := h.below (below_alloc (Below.refl _ _) o)
theorem IsS72.drewN {w0 W : World} {g : Nat} {f0 : Int} {f1 : Int} (h : IsS72 w0 W g f0 f1) (m : Nat) : IsS72 w0 (W.drewN m) g f0 f1 := h
theorem IsS72.drew {w0 W : World} {g : Nat} {f0 : Int} {f1 : Int} (h : IsS72 w0 W g f0 f1) : IsS72 w0 W.drew g f0 f1 := h
theorem IsS72.at_ {w0 W : World} {g : Nat} {f0 : Int} {f1 : Int} {w' : World} {m : Nat} (hq : W.drewN m = w') (h : IsS72 w0 W g f0 f1) : IsS72 w0 w' g f0 f1 := by subst hq; exact IsS72.drewN h m
theorem IsS72.apart {w0 W : World} {g : Nat} {f0 : Int} {f1 : Int} {α : Type} {d : Kd α} {e : Nat} {base : Nat} {ok : Nat → Prop} {v : Value} {xs : List α} (h : IsS72 w0 W g f0 f1) (ho : d.R e W base ok v xs) (ht : ∀ q, q ∈ e :: d.E → q ≠ 72) : d.R e W base (fun k => ok k ∧ k ≠ g) v xs := by
  obtain ⟨hb, hg⟩ := h
  exact Kd.R_types ho hb ht
theorem IsS72.own_ne {w0 W : World} {g : Nat} {f0 : Int} {f1 : Int} {α : Type} {d : Kd α} {e : Nat} {base : Nat} {ok : Nat → Prop} {v : Value} {xs : List α} (h : IsS72 w0 W g f0 f1) (ho : d.R e W base ok v xs) (ht : e ≠ 72) : some g ≠ v.ownBlock := by
  obtain ⟨hb, hg⟩ := h
  exact Kd.R_ne ho hb ht
theorem IsS72.lt {w0 W : World} {g : Nat} {f0 : Int} {f1 : Int} (h : IsS72 w0 W g f0 f1) : g < W.heap.size := by
  obtain ⟨hb, hg⟩ := h
  exact blk_lt hb
theorem IsS72.ge {w0 W : World} {g : Nat} {f0 : Int} {f1 : Int} (h : IsS72 w0 W g f0 f1) : w0.heap.size ≤ g := by
  obtain ⟨hb, hg⟩ := h
  exact hg
theorem IsS72.ne_blk {w0 W : World} {g : Nat} {f0 : Int} {f1 : Int} {a : Nat} {cs : Array Value} {t : TypeId} {fr : Nat × Nat} (h : IsS72 w0 W g f0 f1) (hb2 : W.heap[a]? = some (.cells cs t fr)) (ht : t ≠ 72) : g ≠ a := by
  obtain ⟨hb, hg⟩ := h
  rintro rfl
  rw [hb] at hb2
  injection hb2 with hb2
  injection hb2 with _ ht2
  exact ht ht2.symm
theorem IsS72.far {w0 W : World} {g : Nat} {f0 : Int} {f1 : Int} {p : Addr} (h : IsS72 w0 W g f0 f1) (hne : g ≠ p.block) (u : Value) : IsS72 w0 (W.setCell p u) g f0 f1 := by
  obtain ⟨hb, hg⟩ := h
  exact ⟨blk_far hb hne u, hg⟩
theorem cellS72_0 {W : World} {g : Nat} {f0 : Int} {f1 : Int} (h : W.heap[g]? = some (.cells #[.int .u64 f0, .int .u64 f1] 72 (0, 0))) : W.cell? ⟨g, 0, none⟩ = some (.int .u64 f0) := (blk_cell h 0).trans rfl
theorem IsS72.set_0 {w0 W : World} {g : Nat} {f0 : Int} {f1 : Int} (h : IsS72 w0 W g f0 f1) (x : Int) : IsS72 w0 (W.setCell ⟨g, 0, none⟩ (.int .u64 x)) g x f1 := by
  obtain ⟨hb, hg⟩ := h
  exact ⟨by simpa using blk_set hb 0 (.int .u64 x), hg⟩
theorem cellS72_1 {W : World} {g : Nat} {f0 : Int} {f1 : Int} (h : W.heap[g]? = some (.cells #[.int .u64 f0, .int .u64 f1] 72 (0, 0))) : W.cell? ⟨g, 1, none⟩ = some (.int .u64 f1) := (blk_cell h 1).trans rfl
theorem IsS72.set_1 {w0 W : World} {g : Nat} {f0 : Int} {f1 : Int} (h : IsS72 w0 W g f0 f1) (x : Int) : IsS72 w0 (W.setCell ⟨g, 1, none⟩ (.int .u64 x)) g f0 x := by
  obtain ⟨hb, hg⟩ := h
  exact ⟨by simpa using blk_set hb 1 (.int .u64 x), hg⟩
theorem IsS72.new (w0 W : World) (f0 : Int) (f1 : Int) (hB : Below w0.heap.size w0 W) : IsS72 w0 (W.alloc (.cells #[.int .u64 f0, .int .u64 f1] 72)) W.heap.size f0 f1 := ⟨by simpa using heap_alloc_new W _, hB.size⟩
def cippuskit_Urn_turn.f (s0_0 : Int) (s0_1 : Int) : Option (Int × Int × Int) := if (Go.bits .or .u64 s0_1 (Go.bits .xor .u64 (Go.bits .xor .u64 (Go.bits .xor .u64 (Go.bits .xor .u64 s0_0 (IntKind.u64.wrap (s0_0 * 8388608))) s0_1) ((Go.bits .xor .u64 s0_0 (IntKind.u64.wrap (s0_0 * 8388608))) / 131072)) (s0_1 / 67108864))) = 0 then (some (IntKind.u64.wrap (1 + s0_1), s0_1, 1)) else (some (IntKind.u64.wrap ((Go.bits .xor .u64 (Go.bits .xor .u64 (Go.bits .xor .u64 (Go.bits .xor .u64 s0_0 (IntKind.u64.wrap (s0_0 * 8388608))) s0_1) ((Go.bits .xor .u64 s0_0 (IntKind.u64.wrap (s0_0 * 8388608))) / 131072)) (s0_1 / 67108864)) + s0_1), s0_1, Go.bits .xor .u64 (Go.bits .xor .u64 (Go.bits .xor .u64 (Go.bits .xor .u64 s0_0 (IntKind.u64.wrap (s0_0 * 8388608))) s0_1) ((Go.bits .xor .u64 s0_0 (IntKind.u64.wrap (s0_0 * 8388608))) / 131072)) (s0_1 / 67108864)))
set_option maxHeartbeats 8000000 in
set_option maxRecDepth 100000 in
theorem cippuskit_Urn_turn.calls (g : Nat) (s0_0 : Int) (s0_1 : Int) (r1 : Int) (r2 : Int) (r3 : Int) (w0 w : World) (hI : IsS72 w0 w g s0_0 s0_1) (hB : Below w0.heap.size w0 w) (h : cippuskit_Urn_turn.f s0_0 s0_1 = some (r1, r2, r3)) :
    Calls Try.prog 46 #[.pointer (some ⟨g, 0, none⟩)] w fun e w' => e = .returned (.int .u64 r1) ∧ IsS72 w0 w' g r2 r3 ∧ Below w0.heap.size w0 w' ∧ KeepBut w w' g none := by
  have HI0 := Aside0.mk hI
  have HK := Aside0.mk (KeepBut.refl w g none)
  have HL := Aside0.mk hB.size
  clear hI
  have HW0 := Aside0.mk hB.size
  have HB := Aside0.mk hB
  clear hB
  have H : (if (Go.bits .or .u64 s0_1 (Go.bits .xor .u64 (Go.bits .xor .u64 (Go.bits .xor .u64 (Go.bits .xor .u64 s0_0 (IntKind.u64.wrap (s0_0 * 8388608))) s0_1) ((Go.bits .xor .u64 s0_0 (IntKind.u64.wrap (s0_0 * 8388608))) / 131072)) (s0_1 / 67108864))) = 0 then (some (IntKind.u64.wrap (1 + s0_1), s0_1, 1)) else (some (IntKind.u64.wrap ((Go.bits .xor .u64 (Go.bits .xor .u64 (Go.bits .xor .u64 (Go.bits .xor .u64 s0_0 (IntKind.u64.wrap (s0_0 * 8388608))) s0_1) ((Go.bits .xor .u64 s0_0 (IntKind.u64.wrap (s0_0 * 8388608))) / 131072)) (s0_1 / 67108864)) + s0_1), s0_1, Go.bits .xor .u64 (Go.bits .xor .u64 (Go.bits .xor .u64 (Go.bits .xor .u64 s0_0 (IntKind.u64.wrap (s0_0 * 8388608))) s0_1) ((Go.bits .xor .u64 s0_0 (IntKind.u64.wrap (s0_0 * 8388608))) / 131072)) (s0_1 / 67108864)))) = some (r1, r2, r3) := h
  clear h
  by_cases c2 : (Go.bits .or .u64 s0_1 (Go.bits .xor .u64 (Go.bits .xor .u64 (Go.bits .xor .u64 (Go.bits .xor .u64 s0_0 (IntKind.u64.wrap (s0_0 * 8388608))) s0_1) ((Go.bits .xor .u64 s0_0 (IntKind.u64.wrap (s0_0 * 8388608))) / 131072)) (s0_1 / 67108864))) = 0
  · rw [if_pos c2] at H
    have c2b0 : ((Go.bits .or .u64 s0_1 (Go.bits .xor .u64 (Go.bits .xor .u64 (Go.bits .xor .u64 (Go.bits .xor .u64 s0_0 (IntKind.u64.wrap (s0_0 * 8388608))) s0_1) ((Go.bits .xor .u64 s0_0 (IntKind.u64.wrap (s0_0 * 8388608))) / 131072)) (s0_1 / 67108864))) == 0) = true := beq_iff_eq.mpr c2
    have c2b1 : ((Go.bits .or .u64 s0_1 (Go.bits .xor .u64 (Go.bits .xor .u64 (Go.bits .xor .u64 (Go.bits .xor .u64 s0_0 (IntKind.u64.wrap (s0_0 * 8388608))) s0_1) ((Go.bits .xor .u64 s0_0 (IntKind.u64.wrap (s0_0 * 8388608))) / 131072)) (s0_1 / 67108864))) != 0) = false := bne_eq_false_iff_eq.mpr c2
    clear c2
    simp only [Option.some.injEq, Prod.mk.injEq] at H
    obtain ⟨rfl, rfl, rfl⟩ := H
    obtain ⟨HGz3, hgz3⟩ := HI0.out
    have hcz3_0 := cellS72_0 HGz3
    have hcz3_1 := cellS72_1 HGz3
    have hfz3_0 := blk_frozen HGz3 0
    have hfz3_1 := blk_frozen HGz3 1
    clear HGz3 hgz3
    go_enter Try.func46, Try.ntmps46
    go_wp2
    repeat (go_quiet (fail); try go_wp2)
    go_ret
    exact ⟨by first | rfl | (simp [errW_none, errW_some] <;> rfl) | (simp [*, errW_none, errW_some] <;> rfl), by repeat (first | (with_reducible first | exact HI0.out | apply IsS72.alloc | apply IsS72.drewN | apply IsS72.drew | apply IsS72.set_0 | apply IsS72.set_1) | exact HI0.out), by repeat (first | (with_reducible first | exact HB.out | apply below_alloc | apply pw_below_drewN | apply below_drew1 | refine below_set ?_ (IsS72.ge HI0.out)) | exact HB.out), by repeat (first | (with_reducible first | exact HK.out | apply KeepBut.set_ | apply keep_drewN | apply keep_drew | apply keep_alloc) | exact HK.out)⟩
  · rw [if_neg c2] at H
    have c2b0 : ((Go.bits .or .u64 s0_1 (Go.bits .xor .u64 (Go.bits .xor .u64 (Go.bits .xor .u64 (Go.bits .xor .u64 s0_0 (IntKind.u64.wrap (s0_0 * 8388608))) s0_1) ((Go.bits .xor .u64 s0_0 (IntKind.u64.wrap (s0_0 * 8388608))) / 131072)) (s0_1 / 67108864))) == 0) = false := beq_eq_false_iff_ne.mpr c2
    have c2b1 : ((Go.bits .or .u64 s0_1 (Go.bits .xor .u64 (Go.bits .xor .u64 (Go.bits .xor .u64 (Go.bits .xor .u64 s0_0 (IntKind.u64.wrap (s0_0 * 8388608))) s0_1) ((Go.bits .xor .u64 s0_0 (IntKind.u64.wrap (s0_0 * 8388608))) / 131072)) (s0_1 / 67108864))) != 0) = true := bne_iff_ne.mpr c2
    simp only [Option.some.injEq, Prod.mk.injEq] at H
    obtain ⟨rfl, rfl, rfl⟩ := H
    obtain ⟨HGz4, hgz4⟩ := HI0.out
    have hcz4_0 := cellS72_0 HGz4
    have hcz4_1 := cellS72_1 HGz4
    have hfz4_0 := blk_frozen HGz4 0
    have hfz4_1 := blk_frozen HGz4 1
    clear HGz4 hgz4
    go_enter Try.func46, Try.ntmps46
    go_wp2
    repeat (go_quiet (fail); try go_wp2)
    go_ret
    exact ⟨by first | rfl | (simp [errW_none, errW_some] <;> rfl) | (simp [*, errW_none, errW_some] <;> rfl), by repeat (first | (with_reducible first | exact HI0.out | apply IsS72.alloc | apply IsS72.drewN | apply IsS72.drew | apply IsS72.set_0 | apply IsS72.set_1) | exact HI0.out), by repeat (first | (with_reducible first | exact HB.out | apply below_alloc | apply pw_below_drewN | apply below_drew1 | refine below_set ?_ (IsS72.ge HI0.out)) | exact HB.out), by repeat (first | (with_reducible first | exact HK.out | apply KeepBut.set_ | apply keep_drewN | apply keep_drew | apply keep_alloc) | exact HK.out)⟩
end Go.Proofs.Ytegjollhajgcdaa.P
namespace Go.Proofs.Ytegjollhajgcdaa.P
open Go.RowKit Go.Proofs.YtegjollhajgcdaaW.PrintWords Go.Proofs.YtegjollhajgcdaaW.PrintLast Go.Proofs.YtegjollhajgcdaaW.PrintMore
attribute [local go_sem] max2_int min2_int max_two min_two max_three min_three max_four min_four   -- for this text's walks alone
set_option linter.unusedVariables false
set_option linter.unusedSimpArgs false
def cippuskit_Urn_Up.f (s0_0 : Int) (s0_1 : Int) (a1 : Int) : Option (Int × Int × Int) := if a1 < 2 then (some (0, s0_0, s0_1)) else ((cippuskit_Urn_turn.f s0_0 s0_1).bind fun bt101 => (if (IntKind.u64.wrap (a1)) = 0 then (none) else (some (wrap64 (Int.tmod (bt101.1 / 2048) (IntKind.u64.wrap (a1))), bt101.2.1, bt101.2.2))))
set_option maxHeartbeats 8000000 in
set_option maxRecDepth 100000 in
theorem cippuskit_Urn_Up.calls (g : Nat) (s0_0 : Int) (s0_1 : Int) (a1 : Int) (r1 : Int) (r2 : Int) (r3 : Int) (w0 w : World) (hI : IsS72 w0 w g s0_0 s0_1) (hB : Below w0.heap.size w0 w) (h : cippuskit_Urn_Up.f s0_0 s0_1 a1 = some (r1, r2, r3)) :
    Calls Try.prog 28 #[.pointer (some ⟨g, 0, none⟩), .int .i64 a1] w fun e w' => e = .returned (.int .i64 r1) ∧ IsS72 w0 w' g r2 r3 ∧ Below w0.heap.size w0 w' ∧ KeepBut w w' g none := by
  have HI0 := Aside0.mk hI
  have HK := Aside0.mk (KeepBut.refl w g none)
  have HL := Aside0.mk hB.size
  clear hI
  have HW0 := Aside0.mk hB.size
  have HB := Aside0.mk hB
  clear hB
  have H : (if a1 < 2 then (some (0, s0_0, s0_1)) else ((cippuskit_Urn_turn.f s0_0 s0_1).bind fun bt101 => (if (IntKind.u64.wrap (a1)) = 0 then (none) else (some (wrap64 (Int.tmod (bt101.1 / 2048) (IntKind.u64.wrap (a1))), bt101.2.1, bt101.2.2))))) = some (r1, r2, r3) := h
  clear h
  by_cases c3 : a1 < 2
  · rw [if_pos c3] at H
    have c3b0 : decide (a1 < 2) = true := decide_eq_true c3
    clear c3
    simp only [Option.some.injEq, Prod.mk.injEq] at H
    obtain ⟨rfl, rfl, rfl⟩ := H
    go_enter Try.func28, Try.ntmps28
    go_wp2
    go_ret
    exact ⟨by first | rfl | (simp [errW_none, errW_some] <;> rfl) | (simp [*, errW_none, errW_some] <;> rfl), by repeat (first | (with_reducible first | exact HI0.out | apply IsS72.alloc | apply IsS72.drewN | apply IsS72.drew | apply IsS72.set_0 | apply IsS72.set_1) | exact HI0.out), by repeat (first | (with_reducible first | exact HB.out | apply below_alloc | apply pw_below_drewN | apply below_drew1 | refine below_set ?_ (IsS72.ge HI0.out)) | exact HB.out), by repeat (first | (with_reducible first | exact HK.out | apply KeepBut.set_ | apply keep_drewN | apply keep_drew | apply keep_alloc) | exact HK.out)⟩
  · rw [if_neg c3] at H
    have c3b0 : decide (a1 < 2) = false := decide_eq_false c3
    clear c3
    replace H := Option.bind_eq_some_iff.mp H
    obtain ⟨⟨t101, t102, t103⟩, A40, H⟩ := H
    replace H : (if (IntKind.u64.wrap (a1)) = 0 then (none) else (some (wrap64 (Int.tmod (t101 / 2048) (IntKind.u64.wrap (a1))), t102, t103))) = some (r1, r2, r3) := H
    have A4 := Aside0.mk A40
    clear A40
    by_cases c5 : (IntKind.u64.wrap (a1)) = 0
    · rw [if_pos c5] at H
      exact absurd H (by simp)
    · rw [if_neg c5] at H
      have c5b0 : ((IntKind.u64.wrap (a1)) == 0) = false := beq_eq_false_iff_ne.mpr c5
      have c5b1 : ((IntKind.u64.wrap (a1)) != 0) = true := bne_iff_ne.mpr c5
      simp only [Option.some.injEq, Prod.mk.injEq] at H
      obtain ⟨rfl, rfl, rfl⟩ := H
      go_enter Try.func28, Try.ntmps28
      go_wp2_with (first | ((with_reducible refine gate_callee (f := 46) rfl ?_); refine goesL_ (some 8) rfl rfl Try.func46 (by kernel_rfl) rfl #[.pointer (some ⟨g, 0, none⟩)] rfl (by (try simp only [List.map_toArray, List.map_cons, List.map_nil]); first | done | rfl | (simp only [List.length_drop, List.length_take]; rfl)) ?_; (with_reducible refine (cippuskit_Urn_turn.calls g s0_0 s0_1 t101 t102 t103 w0 _ ?side1 ?side2 A4.out).mono ?_); (case side1 => repeat (first | (with_reducible first | exact HI0.out | apply IsS72.alloc | apply IsS72.drewN | apply IsS72.drew | apply IsS72.set_0 | apply IsS72.set_1) | exact HI0.out)); (case side2 => repeat (first | (with_reducible first | exact HB.out | apply below_alloc | apply pw_below_drewN | apply below_drew1 | refine below_set ?_ (IsS72.ge HI0.out)) | exact HB.out)); rintro e w6 ⟨rfl, hi, hb, hk⟩; refine ⟨_, rfl, ?_⟩; have n0_ := Aside0.mk (KeepBut.trans (by repeat (first | (with_reducible first | exact HK.out | apply KeepBut.set_ | apply keep_drewN | apply keep_drew | apply keep_alloc) | exact HK.out)) hk (.inl rfl)); have n1_ := Aside0.mk (hb); have n2_ := Aside0.mk (hi); clear HK; clear HB; clear HI0; have HK := n0_; have HB := n1_; have HI0 := n2_; clear n0_ n1_ n2_; (try clear hb); (try clear hb2); (try clear hk); (try clear hi)))
      go_ret
      exact ⟨by first | rfl | (simp [errW_none, errW_some] <;> rfl) | (simp [*, errW_none, errW_some] <;> rfl), by repeat (first | (with_reducible first | exact HI0.out | apply IsS72.alloc | apply IsS72.drewN | apply IsS72.drew | apply IsS72.set_0 | apply IsS72.set_1) | exact HI0.out), by repeat (first | (with_reducible first | exact HB.out | apply below_alloc | apply pw_below_drewN | apply below_drew1 | refine below_set ?_ (IsS72.ge HI0.out)) | exact HB.out), by repeat (first | (with_reducible first | exact HK.out | apply KeepBut.set_ | apply keep_drewN | apply keep_drew | apply keep_alloc) | exact HK.out)⟩
end Go.Proofs.Ytegjollhajgcdaa.P
namespace Go.Proofs.Ytegjollhajgcdaa.P
open Go.RowKit Go.Proofs.YtegjollhajgcdaaW.PrintWords Go.Proofs.YtegjollhajgcdaaW.PrintLast Go.Proofs.YtegjollhajgcdaaW.PrintMore
attribute [local go_sem] max2_int min2_int max_two min_two max_three min_three max_four min_four   -- for this text's walks alone
set_option linter.unusedVariables false
set_option linter.unusedSimpArgs false
def stemma_apart.l0 : Nat → ByteArray → ByteArray → Int → Int → Int → Option (Int)
  | 0, _, _, _, _, _ => none
  | k + 1, x0, x1, x5, x8, x9 => if x9 < x8 then (if 0 ≤ x9 then (if x9 < (x0.size : Int) then (if x9 < (x1.size : Int) then (if (bt x0 x9) = (bt x1 x9) then (stemma_apart.l0 k x0 x1 x5 x8 (wrap64 (x9 + 1))) else (stemma_apart.l0 k x0 x1 (wrap64 (x5 + 1)) x8 (wrap64 (x9 + 1)))) else (none)) else (none)) else (none)) else (some x5)
def stemma_apart.f (k : Nat) (a0 : ByteArray) (a1 : ByteArray) : Option (Int) := stemma_apart.l0 k a0 a1 0 (a0.size : Int) 0
set_option maxHeartbeats 8000000 in
set_option maxRecDepth 100000 in
theorem stemma_apart.calls (k : Nat) (a0 : ByteArray) (a1 : ByteArray) (r : Int) (w : World) (h : stemma_apart.f k a0 a1 = some r) :
    Calls Try.prog 58 #[.string a0, .string a1] w fun e w' => e = .returned (.int .i64 r) ∧ Drawn0 w w' := by
  have H : (stemma_apart.l0 k a0 a1 0 (a0.size : Int) 0) = some r := h
  clear h
  have H' := Aside0.mk H
  clear H
  go_enter Try.func58, Try.ntmps58
  go_wp2
  repeat (go_quiet (fail); try go_wp2)
  go_loopg [5, 9] k (fun kq v5 v9 w' => ∃ (x5_1 : Int) (x9_1 : Int), v5 = .int .i64 x5_1 ∧ v9 = .int .i64 x9_1 ∧ Aside0 (stemma_apart.l0 kq a0 a1 x5_1 (a0.size : Int) x9_1 = some r) ∧ Aside0 (kq ≤ k) ∧ Drawn0 w w')
  case atStart => exact ⟨(0), (0), (by first | rfl | (simp; done) | (simp [*]; done)), (by first | rfl | (simp; done) | (simp [*]; done)), H', ⟨Nat.le_refl _⟩, by repeat (first | exact Drawn0.refl _ | apply Drawn0.step)⟩
  case round =>
    clear H'
    try clear p2
    obtain ⟨x5_1, x9_1, rfl, rfl, HA, HK1, ⟨m1, rfl⟩⟩ := hrel
    cases gk with
    | zero => exact absurd HA.out (by simp [stemma_apart.l0])
    | succ k1 =>
      have H := HA.out
      clear HA
      simp only [stemma_apart.l0] at H
      by_cases c3 : x9_1 < (a0.size : Int)
      · rw [if_pos c3] at H
        have c3b0 : decide (x9_1 < (a0.size : Int)) = true := decide_eq_true c3
        clear c3
        by_cases c4 : 0 ≤ x9_1
        · rw [if_pos c4] at H
          have c4b0 : decide (0 ≤ x9_1) = true := decide_eq_true c4
          clear c4
          by_cases c5 : x9_1 < (a0.size : Int)
          · rw [if_pos c5] at H
            have c5b0 : decide (x9_1 < (a0.size : Int)) = true := decide_eq_true c5
            clear c5
            by_cases c7 : x9_1 < (a1.size : Int)
            · rw [if_pos c7] at H
              have c7b0 : decide (x9_1 < (a1.size : Int)) = true := decide_eq_true c7
              clear c7
              by_cases c9 : (bt a0 x9_1) = (bt a1 x9_1)
              · rw [if_pos c9] at H
                have c9b0 : ((bt a0 x9_1) == (bt a1 x9_1)) = true := beq_iff_eq.mpr c9
                have c9b1 : ((bt a0 x9_1) != (bt a1 x9_1)) = false := bne_eq_false_iff_eq.mpr c9
                clear c9
                have H' := Aside0.mk H
                clear H
                have p6 : 0 ≤ (x9_1 : Int) := of_decide_eq_true (by first | (with_reducible assumption) | assumption)
                have q6 : x9_1 < (a0.size : Int) := of_decide_eq_true (by first | (with_reducible assumption) | assumption)
                have hx6 := bt_at a0 x9_1
                replace p6 := eq_true p6
                replace q6 := eq_true q6
                have p8 : 0 ≤ (x9_1 : Int) := of_decide_eq_true (by first | (with_reducible assumption) | assumption)
                have q8 : x9_1 < (a1.size : Int) := of_decide_eq_true (by first | (with_reducible assumption) | assumption)
                have hx8 := bt_at a1 x9_1
                replace p8 := eq_true p8
                replace q8 := eq_true q8
                go_wp2
                repeat (go_quiet (fail); try go_wp2)
                go_roundg k1
                case measure => have := HK1.out; omega
                case rel => exact ⟨(x5_1), (wrap64 (x9_1 + 1)), (by first | rfl | (simp; done) | (simp [*]; done)), (by first | rfl | (simp; done) | (simp [*]; done)), H', ⟨by have := HK1.out; omega⟩, by repeat (first | exact Drawn0.refl _ | apply Drawn0.step)⟩
              · rw [if_neg c9] at H
                have c9b0 : ((bt a0 x9_1) == (bt a1 x9_1)) = false := beq_eq_false_iff_ne.mpr c9
                have c9b1 : ((bt a0 x9_1) != (bt a1 x9_1)) = true := bne_iff_ne.mpr c9
                have H' := Aside0.mk H
                clear H
                have p6 : 0 ≤ (x9_1 : Int) := of_decide_eq_true (by first | (with_reducible assumption) | assumption)
                have q6 : x9_1 < (a0.size : Int) := of_decide_eq_true (by first | (with_reducible assumption) | assumption)
                have hx6 := bt_at a0 x9_1
                replace p6 := eq_true p6
                replace q6 := eq_true q6
                have p8 : 0 ≤ (x9_1 : Int) := of_decide_eq_true (by first | (with_reducible assumption) | assumption)
                have q8 : x9_1 < (a1.size : Int) := of_decide_eq_true (by first | (with_reducible assumption) | assumption)
                have hx8 := bt_at a1 x9_1
                replace p8 := eq_true p8
                replace q8 := eq_true q8
                go_wp2
                repeat (go_quiet (fail); try go_wp2)
                go_roundg k1
                case measure => have := HK1.out; omega
                case rel => exact ⟨(wrap64 (x5_1 + 1)), (wrap64 (x9_1 + 1)), (by first | rfl | (simp; done) | (simp [*]; done)), (by first | rfl | (simp; done) | (simp [*]; done)), H', ⟨by have := HK1.out; omega⟩, by repeat (first | exact Drawn0.refl _ | apply Drawn0.step)⟩
            · rw [if_neg c7] at H
              exact absurd H (by simp)
          · rw [if_neg c5] at H
            exact absurd H (by simp)
        · rw [if_neg c4] at H
          exact absurd H (by simp)
      · rw [if_neg c3] at H
        have c3b0 : decide (x9_1 < (a0.size : Int)) = false := decide_eq_false c3
        clear c3
        obtain rfl := Option.some.inj H
        go_wp2
        repeat (go_quiet (fail); try go_wp2)
        go_ret
        exact ⟨by first | rfl | (simp; done) | (simp [*]; done), by repeat (first | exact Drawn0.refl _ | apply Drawn0.step)⟩
end Go.Proofs.Ytegjollhajgcdaa.P
namespace Go.Proofs.Ytegjollhajgcdaa.P.OwnSt
open Go.RowKit Go.Proofs.YtegjollhajgcdaaW.PrintWords Go.Proofs.YtegjollhajgcdaaW.PrintLast Go.Proofs.YtegjollhajgcdaaW.PrintMore
set_option linter.unusedVariables false
def atOne (l : List S24) (fs : Nat → Int) (place ch : Int) (i : Nat) : Bool := fs i == -1 && bt (rd_T24 l (i : Int)).f0 place == ch
def atB (l : List S24) (fs : Nat → Int) (place ch : Int) : Bool := (List.range l.length).any (atOne l fs place ch)
def LostAt (W : World) (b : Nat) (A : Option Addr) (n c : Nat) (fs : Nat → Int) : Prop :=
  W.heap[b]? = some (.cells #[.slice A n c, .int .i64 (fs 0), .int .i64 (fs 1), .int .i64 (fs 2), .int .i64 (fs 3), .int .i64 (fs 4)] 84 (0, 0))
theorem LostAt.list {W : World} {b : Nat} {A : Option Addr} {n c : Nat} {fs : Nat → Int} (h : LostAt W b A n c fs) : W.cell? ⟨b, 0, none⟩ = some (.slice A n c) := (blk_cell h 0).trans rfl
theorem LostAt.src {W : World} {b : Nat} {A : Option Addr} {n c : Nat} {fs : Nat → Int} (h : LostAt W b A n c fs) (k : Nat) (hk : k < 5) : W.cell? ⟨b, 1 + k, none⟩ = some (.int .i64 (fs k)) := by
  rw [blk_cell h]
  rcases k with _ | _ | _ | _ | _ | k
  all_goals first | rfl | omega
theorem LostAt.below {W W' : World} {b : Nat} {A : Option Addr} {n c : Nat} {fs : Nat → Int} (h : LostAt W b A n c fs) (hb : Below W.heap.size W W') : LostAt W' b A n c fs := blk_below h hb
theorem any_succ (k : Nat) (p : Nat → Bool) : (List.range (k + 1)).any p = ((List.range k).any p || p k) := by
  rw [List.range_succ, List.any_append]; simp
set_option maxHeartbeats 4000000 in
set_option maxRecDepth 100000 in
theorem at_calls (A : Option Addr) (c : Nat) (l : List S24) (fs : Nat → Int) (place ch : Int) (w : World) (hr : Kd.C k24 w A l.length l) (hc : l.length ≤ c) (h5 : l.length ≤ 5)
    (hp0 : 0 ≤ place) (hp : ∀ i : Nat, i < l.length → place < ((rd_T24 l (i : Int)).f0.size : Int)) :
    Calls Try.prog 67 #[.agg #[.slice A l.length c, .int .i64 (fs 0), .int .i64 (fs 1), .int .i64 (fs 2), .int .i64 (fs 3), .int .i64 (fs 4)], .int .i64 place, .int .u8 ch] w fun e w' =>
      e = .returned (.bool (atB l fs place ch)) ∧ Below w.heap.size w w' := by
  have HR := Aside0.mk hr
  have HP := Aside0.mk hp
  clear hr hp
  have HL0 := Aside0.mk (show LostAt (w.alloc (.cells #[.slice A l.length c, .int .i64 (fs 0), .int .i64 (fs 1), .int .i64 (fs 2), .int .i64 (fs 3), .int .i64 (fs 4)] 84)) w.heap.size A l.length c fs from blk_new w _)
  have h0 := HL0.out.list
  go_enter Try.func67, Try.ntmps67
  go_wp2
  clear h0
  go_loopw [12] (fun v wr => ∃ k : Nat, v = .int .i64 k ∧ k ≤ l.length ∧ Aside0 (LostAt wr w.heap.size A l.length c fs) ∧ Aside0 (Below w.heap.size w wr) ∧ Aside0 ((List.range k).any (atOne l fs place ch) = false)) (fun v _ => l.length - (intOf v).toNat)
  case atStart => exact ⟨0, rfl, by omega, HL0, ⟨(Below.refl _ _).alloc (Nat.le_refl _) _⟩, ⟨rfl⟩⟩
  case round =>
    obtain ⟨k, rfl, hk, HL, HB, HN⟩ := hrel
    by_cases hlt : k < l.length
    · obtain ⟨ad, rfl, hx0, hx1, hx2⟩ := at_T24 HR.out (k : Int) (by omega) (by omega)
      simp only [Int.toNat_natCast] at hx0 hx1 hx2
      replace hx0 := (HB.out.cell (World.block_lt_of_cell? w _ hx0)).trans hx0
      replace hx1 := (HB.out.cell (World.block_lt_of_cell? w _ hx1)).trans hx1
      replace hx2 := (HB.out.cell (World.block_lt_of_cell? w _ hx2)).trans hx2
      have hs := HL.out.src k (by omega)
      have hsl : w.heap.size < wr.heap.size := blk_lt HL.out
      have hk5 : (k : Int) < 5 := by omega
      have hpk := HP.out k hlt
      have hbt := bt_at (rd_T24 l (k : Int)).f0 place
      by_cases hst : fs k = -1
      · have hst1 : (fs k == -1) = true := by simpa using hst
        clear hst
        by_cases heq : bt (rd_T24 l (k : Int)).f0 place = ch
        · have heq1 : (bt (rd_T24 l (k : Int)).f0 place == ch) = true := by simpa using heq
          clear heq
          go_wp2_with fail
          go_ret
          refine ⟨?_, ?_⟩
          · have : atB l fs place ch = true := by
              rw [atB, List.any_eq_true]
              exact ⟨k, by simpa using hlt, by simp [atOne, hst1, heq1]⟩
            rw [this]
            rfl
          · exact HB.out.alloc HB.out.size _
        · have heq1 : (bt (rd_T24 l (k : Int)).f0 place == ch) = false := by simpa using heq
          have HN2 := Aside0.mk (show (List.range (k + 1)).any (atOne l fs place ch) = false by rw [any_succ, HN.out]; simp [atOne, heq1])
          clear heq
          go_wp2_with fail
          go_roundw
          case rel => exact ⟨k + 1, by go_num, by omega, ⟨HL.out.below (below_alloc (Below.refl _ _) _)⟩, ⟨HB.out.alloc HB.out.size _⟩, HN2⟩
          case measure => simp [intOf]; omega
      · have hst1 : (fs k == -1) = false := by simpa using hst
        have HN2 := Aside0.mk (show (List.range (k + 1)).any (atOne l fs place ch) = false by rw [any_succ, HN.out]; simp [atOne, hst1])
        clear hst hbt
        go_wp2_with fail
        go_roundw
        case rel => exact ⟨k + 1, by go_num, by omega, ⟨HL.out.below (below_alloc (Below.refl _ _) _)⟩, ⟨HB.out.alloc HB.out.size _⟩, HN2⟩
        case measure => simp [intOf]; omega
    · have hk' : k = l.length := by omega
      go_wp2_with fail
      go_ret
      refine ⟨?_, HB.out⟩
      rw [atB, ← hk', HN.out]
      rfl
end Go.Proofs.Ytegjollhajgcdaa.P.OwnSt
namespace Go.Proofs.Ytegjollhajgcdaa.P.OwnSt
open Go.RowKit Go.Proofs.YtegjollhajgcdaaW.PrintWords Go.Proofs.YtegjollhajgcdaaW.PrintLast Go.Proofs.YtegjollhajgcdaaW.PrintMore
set_option linter.unusedVariables false
def madeB (n : Nat) (fs : Nat → Int) (i : Nat) : Bool := decide (i < n) && (fs i == -1)
def madeV (m : Nat → Bool) : Value := .agg #[.bool (m 0), .bool (m 1), .bool (m 2), .bool (m 3), .bool (m 4)]
def MadeAt (W : World) (b : Nat) (m : Nat → Bool) : Prop := W.heap[b]? = some (.cells #[.bool (m 0), .bool (m 1), .bool (m 2), .bool (m 3), .bool (m 4)] 85 (0, 0))
theorem MadeAt.cell {W : World} {b : Nat} {m : Nat → Bool} (h : MadeAt W b m) (k : Nat) (hk : k < 5) : W.cell? ⟨b, k, none⟩ = some (.bool (m k)) := by
  rw [blk_cell h]
  rcases k with _ | _ | _ | _ | _ | k
  all_goals first | rfl | omega
theorem MadeAt.set {W : World} {b n : Nat} {fs : Nat → Int} (h : MadeAt W b (madeB n fs)) (hn : n < 5) : MadeAt (W.setCell ⟨b, n, none⟩ (.bool (fs n == -1))) b (madeB (n + 1) fs) := by
  have h1 := blk_set h n (.bool (fs n == -1))
  unfold MadeAt
  rw [h1]
  rcases n with _ | _ | _ | _ | _ | n
  all_goals first | (simp [madeB]; done) | omega
set_option maxHeartbeats 4000000 in
set_option maxRecDepth 100000 in
theorem made_calls (A : Option Addr) (c : Nat) (l : List S24) (fs : Nat → Int) (w : World) (hr : Kd.C k24 w A l.length l) (h5 : l.length ≤ 5) :
    Calls Try.prog 49 #[.agg #[.slice A l.length c, .int .i64 (fs 0), .int .i64 (fs 1), .int .i64 (fs 2), .int .i64 (fs 3), .int .i64 (fs 4)]] w fun e w' =>
      e = .returned (madeV (madeB l.length fs)) ∧ Below w.heap.size w w' := by
  have HL0 := Aside0.mk (show LostAt (w.alloc (.cells #[.slice A l.length c, .int .i64 (fs 0), .int .i64 (fs 1), .int .i64 (fs 2), .int .i64 (fs 3), .int .i64 (fs 4)] 84)) w.heap.size A l.length c fs from blk_new w _)
  have h0 := (HL0.out.below (below_alloc (Below.refl _ _) (.cells #[.bool false, .bool false, .bool false, .bool false, .bool false] 85))).list
  go_enter Try.func49, Try.ntmps49
  go_wp2
  clear h0
  go_loopw [7] (fun v wr => ∃ k : Nat, v = .int .i64 k ∧ k ≤ l.length ∧ Aside0 (LostAt wr w.heap.size A l.length c fs) ∧ Aside0 (Below w.heap.size w wr) ∧ Aside0 (MadeAt wr (w.heap.size + 1) (madeB k fs))) (fun v _ => l.length - (intOf v).toNat)
  case atStart =>
    refine ⟨0, rfl, by omega, ⟨HL0.out.below (below_alloc (Below.refl _ _) _)⟩, ⟨((Below.refl _ _).alloc (Nat.le_refl _) _).alloc (by simp) _⟩, ⟨?_⟩⟩
    have := blk_new (w.alloc (.cells #[.slice A l.length c, .int .i64 (fs 0), .int .i64 (fs 1), .int .i64 (fs 2), .int .i64 (fs 3), .int .i64 (fs 4)] 84)) (.cells #[.bool false, .bool false, .bool false, .bool false, .bool false] 85)
    simpa [MadeAt, madeB] using this
  case round =>
    obtain ⟨k, rfl, hk, HL, HB, HM⟩ := hrel
    by_cases hlt : k < l.length
    · have hs := HL.out.src k (by omega)
      have hk5 : (k : Int) < 5 := by omega
      have hc5 := HM.out.cell k (by omega)
      have hf5 := blk_frozen HM.out k
      go_wp2_with fail
      go_roundw
      case rel => exact ⟨k + 1, by go_num, by omega, ⟨blk_far HL.out (by simp) _⟩, ⟨HB.out.setCell (by simp) _⟩, ⟨HM.out.set (by omega)⟩⟩
      case measure => simp [intOf]; omega
    · have hk' : k = l.length := by omega
      have e0 := HM.out.cell 0 (by omega)
      have e1 := HM.out.cell 1 (by omega)
      have e2 := HM.out.cell 2 (by omega)
      have e3 := HM.out.cell 3 (by omega)
      have e4 := HM.out.cell 4 (by omega)
      have f0 := blk_frozen HM.out 0
      have f1 := blk_frozen HM.out 1
      have f2 := blk_frozen HM.out 2
      have f3 := blk_frozen HM.out 3
      have f4 := blk_frozen HM.out 4
      go_wp2_with fail
      have s0 := blk_set HM.out 0 (.bool (madeB k fs 0))
      have s1 := blk_set s0 1 (.bool (madeB k fs 1))
      have s2 := blk_set s1 2 (.bool (madeB k fs 2))
      have s3 := blk_set s2 3 (.bool (madeB k fs 3))
      have s4 := blk_set s3 4 (.bool (madeB k fs 4))
      simp only [List.setIfInBounds_toArray, List.set_cons_zero, List.set_cons_succ] at s4
      subst hk'
      refine bodyPost_ret (results_cell_row rfl _ _ (w.heap.size + 1) 85 _ (0, 0) _ rfl s4 Try.underlying85 rfl (by kernel_rfl)) rfl ⟨rfl, ?_⟩
      exact (((((HB.out.setCell (by simp) _).setCell (by simp) _).setCell (by simp) _).setCell (by simp) _).setCell (by simp) _)
end Go.Proofs.Ytegjollhajgcdaa.P.OwnSt
namespace Go.Proofs.Ytegjollhajgcdaa.P.OwnSt
open Go.RowKit Go.Maps Go.Proofs.YtegjollhajgcdaaW.PrintWords Go.Proofs.YtegjollhajgcdaaW.PrintLast Go.Proofs.YtegjollhajgcdaaW.PrintMore
set_option linter.unusedVariables false
set_option linter.unusedSimpArgs false
theorem laidOut : laidOutB Try.prog = true := by kernel_rfl
theorem law111 : Keyed Try.prog 111 := Keyed.of_law (deep_law_laid laidOut (m := 20) (by decide) (of_decide_eq_true (by kernel_rfl)) (by kernel_rfl) (by kernel_rfl))
theorem law85 : Keyed Try.prog 85 := Keyed.of_law (deep_law_laid laidOut (m := 20) (by decide) (of_decide_eq_true (by kernel_rfl)) (by kernel_rfl) (by kernel_rfl))
def stV (p : Int) (g : Nat → Int) : Value := .agg #[.int .i64 p, .int .i64 (g 0), .int .i64 (g 1), .int .i64 (g 2), .int .i64 (g 3), .int .i64 (g 4)]
theorem keyOf_made (m : Nat → Bool) : ∃ l, keyOf Try.prog 85 (madeV m) = some l := by
  have h1 : Try.prog.keyType 85 = true := by kernel_rfl
  have h2 : (madeV m).formed Try.prog 85 = true := by kernel_rfl
  have h3 : (Try.prog.keyLits (Try.prog.types.size + 1) 85 (madeV m).cells.toList).isSome = true := by kernel_rfl
  obtain ⟨ls, hls⟩ := Option.isSome_iff_exists.1 h3
  have h4 : Try.prog.underlying 85 = some (.array 5 4) := Try.underlying85
  refine ⟨.string (keyBytes ls), ?_⟩
  unfold keyOf
  rw [h4]
  simp only [h1, h2, hls, Bool.and_self, if_true, Option.map_some]
theorem keyLits_state0 (P : Program) (d : Nat) (f1 f2 : Field) (hu : P.underlying 111 = some (.struct #[f1, f2])) (h1 : f1.name = "place" ∧ f1.type = 3 ∧ f1.offset = 0) (h2 : f2.name = "left" ∧ f2.type = 109 ∧ f2.offset = 1)
    (h9 : P.underlying 109 = some (.array 5 3)) (h3 : P.underlying 3 = some (.int .i64)) (c3 : P.cellsOf 3 = 1) (c111 : P.cellsOf 111 = 6) (c109 : P.cellsOf 109 = 5) (p a b c e f : Int)
    (hp : (Lit.int .i64 p).wf = true) (g0 : (Lit.int .i64 a).wf = true) (g1 : (Lit.int .i64 b).wf = true) (g2 : (Lit.int .i64 c).wf = true) (g3 : (Lit.int .i64 e).wf = true) (g4 : (Lit.int .i64 f).wf = true) :
    P.keyLits (d + 1 + 1 + 1) 111 [.int .i64 p, .int .i64 a, .int .i64 b, .int .i64 c, .int .i64 e, .int .i64 f] = some [.int .i64 p, .int .i64 a, .int .i64 b, .int .i64 c, .int .i64 e, .int .i64 f] := by
  have k3 : ∀ (d : Nat) (n : Int), (Lit.int .i64 n).wf = true → P.keyLits (d + 1) 3 [.int .i64 n] = some [.int .i64 n] := fun d n hn => by
    unfold Program.keyLits
    rw [h3]
    simp only [hn, and_self, if_true]
  have k9 : P.keyLits (d + 1 + 1) 109 [.int .i64 a, .int .i64 b, .int .i64 c, .int .i64 e, .int .i64 f] = some [.int .i64 a, .int .i64 b, .int .i64 c, .int .i64 e, .int .i64 f] := by
    unfold Program.keyLits
    rw [h9]
    simp only [c109, c3, List.length_cons, List.length_nil, if_true, show List.range 5 = [0, 1, 2, 3, 4] from rfl, List.mapM_cons, List.mapM_nil, Nat.zero_mul, Nat.one_mul, Nat.mul_one, List.drop_zero, List.drop_succ_cons, List.take_succ_cons, List.take_zero, k3 _ _ g0, k3 _ _ g1, k3 _ _ g2, k3 _ _ g3, k3 _ _ g4]
    rfl
  unfold Program.keyLits
  rw [hu]
  obtain ⟨n1, t1, o1⟩ := h1
  obtain ⟨n2, t2, o2⟩ := h2
  simp only [c111, List.length_cons, List.length_nil, List.mapM_cons, List.mapM_nil, t1, t2, o1, o2, c3, c109, List.drop_zero, List.drop_succ_cons, List.take_succ_cons, List.take_zero, k3 _ _ hp, k9]
  rw [if_pos (by refine ⟨trivial, ?_⟩; simp [n1, n2])]
  rfl
theorem keyOf_state (p : Int) (g : Nat → Int) (hp : (Lit.int .i64 p).wf = true) (hg : ∀ i, i < 5 → (Lit.int .i64 (g i)).wf = true) : ∃ l, keyOf Try.prog 111 (stV p g) = some l := by
  have hs : Try.prog.types.size + 1 = Try.prog.types.size - 2 + 1 + 1 + 1 := by kernel_rfl
  have h3 := keyLits_state0 Try.prog (Try.prog.types.size - 2) _ _ Try.underlying111 ⟨rfl, rfl, rfl⟩ ⟨rfl, rfl, rfl⟩ Try.underlying109 Try.underlying3 (by kernel_rfl) (by kernel_rfl) (by kernel_rfl) p _ _ _ _ _ hp (hg 0 (by omega)) (hg 1 (by omega)) (hg 2 (by omega)) (hg 3 (by omega)) (hg 4 (by omega))
  rw [← hs] at h3
  have h1 : Try.prog.keyType 111 = true := by kernel_rfl
  have h2 : (stV p g).formed Try.prog 111 = true := by kernel_rfl
  refine ⟨.string (keyBytes [.int .i64 p, .int .i64 (g 0), .int .i64 (g 1), .int .i64 (g 2), .int .i64 (g 3), .int .i64 (g 4)]), ?_⟩
  · unfold keyOf
    rw [Try.underlying111]
    simp only [h1, h2, Bool.and_self, if_true]
    rw [show (stV p g).cells.toList = [.int .i64 p, .int .i64 (g 0), .int .i64 (g 1), .int .i64 (g 2), .int .i64 (g 3), .int .i64 (g 4)] from rfl, h3]
    rfl
section
variable {P : Program}
def MemoAt (P : Program) (K : TypeId) (Φ : Value → Value → Prop) (W : World) (mb : Nat) : Prop :=
  ∃ es clock, W.heap[mb]? = some (.map es clock) ∧ ∀ e ∈ es.toList, (∃ l, keyOf P K e.key = some l) ∧ Φ e.key e.val
def MemoHas (W : World) (mb : Nat) (key : Value) : Prop := ∃ es clock, W.heap[mb]? = some (.map es clock) ∧ ∃ e ∈ es.toList, e.key = key
theorem MemoAt.new (K : TypeId) (Φ : Value → Value → Prop) (W : World) : MemoAt P K Φ (W.alloc (.map #[] 0)) W.heap.size := ⟨#[], 0, blk_new W _, by simp⟩
theorem MemoAt.keep {K : TypeId} {Φ : Value → Value → Prop} {W W' : World} {mb : Nat} (h : MemoAt P K Φ W mb) (hb : W'.heap[mb]? = W.heap[mb]?) : MemoAt P K Φ W' mb := by
  obtain ⟨es, c, h1, h2⟩ := h
  exact ⟨es, c, hb.trans h1, h2⟩
theorem MemoAt.look {K T E : TypeId} {Φ : Value → Value → Prop} {W : World} {mb : Nat} (h : MemoAt P K Φ W mb) (law : Keyed P K) (hT : P.underlying T = some (.map K E)) {z : Value} (hz : (zeroValue E).run P W = .ok z W) {key : Value} {l : Lit} (hk : keyOf P K key = some l) :
    ∃ v b, (∀ c : Bool, (Instr.lookup T (.map (some mb)) key c).run P W = .ok (if c = true then .tuple #[v, .bool b] else v) W) ∧ ((b = true ∧ Φ key v ∧ MemoHas W mb key) ∨ (b = false ∧ v = z ∧ ¬ MemoHas W mb key)) := by
  obtain ⟨es, ck, hb, hes⟩ := h
  have hchk := fun em => law.check W em hk
  have hg : (getObj mb).run P W = .ok (.map es ck) W := by simp [getObj, Sem.run, hb]
  rcases law.find W hk es.toList (fun e he => (hes e he).1) with ⟨hf, hno⟩ | ⟨j, e, hf, hj, hek⟩
  · refine ⟨z, false, fun c => ?_, .inr ⟨rfl, rfl, ?_⟩⟩
    · simp [Instr.lookup, run_underlying hT, Sem.run_bind, hg, hchk, hf, hz, Result.andThen]
    · rintro ⟨es', c', hb', e, he, hke⟩
      rw [hb] at hb'
      cases hb'
      exact hno e he hke
  · have hmem : e ∈ es.toList := List.mem_of_getElem? hj
    refine ⟨e.val, true, fun c => ?_, .inl ⟨rfl, hek ▸ (hes e hmem).2, ⟨es, ck, hb, e, hmem, hek⟩⟩⟩
    simp [Instr.lookup, run_underlying hT, Sem.run_bind, hg, hchk, hf, Result.andThen]
theorem MemoAt.update {K T E : TypeId} {Φ : Value → Value → Prop} {W : World} {mb : Nat} (h : MemoAt P K Φ W mb) (law : Keyed P K) (hT : P.underlying T = some (.map K E)) {key val : Value} {l : Lit} (hk : keyOf P K key = some l) (hv : Φ key val) :
    ∃ o, (Instr.mapUpdate T (.map (some mb)) key val).run P W = .ok () (W.putObj mb o) ∧ MemoAt P K Φ (W.putObj mb o) mb ∧ MemoHas (W.putObj mb o) mb key ∧ (∀ k', MemoHas W mb k' → MemoHas (W.putObj mb o) mb k') := by
  obtain ⟨es, ck, hb, hes⟩ := h
  have hchk := law.check W false hk
  have hg : (getObj mb).run P W = .ok (.map es ck) W := by simp [getObj, Sem.run, hb]
  have hlt : mb < W.heap.size := (Array.getElem?_eq_some_iff.1 hb).1
  have hset : ∀ o, (setObj mb o).run P W = .ok () (W.putObj mb o) := fun o => by simp [setObj, Sem.run, hb, World.putObj]
  rcases law.find W hk es.toList (fun e he => (hes e he).1) with ⟨hf, hno⟩ | ⟨j, e, hf, hj, hek⟩
  · refine ⟨.map (es.push { key, val, born := ck }) (ck + 1), ?_, ⟨_, _, World.putObj_heap_same hlt, ?_⟩, ⟨_, _, World.putObj_heap_same hlt, { key, val, born := ck }, by simp, rfl⟩, ?_⟩
    · simp [Instr.mapUpdate, run_underlying hT, Sem.run_bind, hg, hchk, hf, hset, Result.andThen]
    · intro e he
      simp only [Array.toList_push, List.mem_append, List.mem_singleton] at he
      rcases he with he | rfl
      · exact hes e he
      · exact ⟨⟨l, hk⟩, hv⟩
    · rintro k' ⟨es', c', hb', e, he, hke⟩
      rw [hb] at hb'
      cases hb'
      exact ⟨_, _, World.putObj_heap_same hlt, e, by simp only [Array.toList_push, List.mem_append]; exact .inl he, hke⟩
  · have hst : (Instr.keyThatStays e.key key).run P W = .ok key W := by rw [hek]; exact law.stays W hk
    have hj' : es[j]? = some e := by simpa using hj
    have hjl : j < es.size := (Array.getElem?_eq_some_iff.1 hj').1
    refine ⟨.map (es.modify j fun e => { e with key, val }) ck, ?_, ⟨_, _, World.putObj_heap_same hlt, ?_⟩, ⟨_, _, World.putObj_heap_same hlt, { e with key, val }, ?_, rfl⟩, ?_⟩
    · simp [Instr.mapUpdate, run_underlying hT, Sem.run_bind, hg, hchk, hf, hj', hst, hset, Result.andThen]
    · intro x hx
      obtain ⟨i, hi⟩ := List.getElem?_of_mem hx
      rw [Array.getElem?_toList, Array.getElem?_modify] at hi
      split at hi
      · rw [Option.map_eq_some_iff] at hi
        obtain ⟨y, _, rfl⟩ := hi
        exact ⟨⟨l, hk⟩, hv⟩
      · exact hes x (List.mem_of_getElem? (by rw [Array.getElem?_toList]; exact hi))
    · refine List.mem_of_getElem? (i := j) ?_
      rw [Array.getElem?_toList, Array.getElem?_modify, if_pos rfl, hj']
      rfl
    · rintro k' ⟨es', c', hb', x, hx, hke⟩
      rw [hb] at hb'
      cases hb'
      obtain ⟨i, hi⟩ := List.getElem?_of_mem hx
      rw [Array.getElem?_toList] at hi
      by_cases hij : j = i
      · subst hij
        rw [hj'] at hi
        cases hi
        refine ⟨_, _, World.putObj_heap_same hlt, { e with key, val }, List.mem_of_getElem? (i := j) ?_, ?_⟩
        · rw [Array.getElem?_toList, Array.getElem?_modify, if_pos rfl, hj']
          rfl
        · show key = k'
          rw [← hke, hek]
      · refine ⟨_, _, World.putObj_heap_same hlt, x, List.mem_of_getElem? (i := i) ?_, hke⟩
        rw [Array.getElem?_toList, Array.getElem?_modify, if_neg hij]
        exact hi
end
end Go.Proofs.Ytegjollhajgcdaa.P.OwnSt
namespace Go.Proofs.Ytegjollhajgcdaa.P.OwnSt
open Go.RowKit Go.Proofs.YtegjollhajgcdaaW.PrintWords Go.Proofs.YtegjollhajgcdaaW.PrintLast Go.Proofs.YtegjollhajgcdaaW.PrintMore
set_option linter.unusedVariables false
set_option linter.unusedSimpArgs false
section
variable (l : List S24) (fs : Nat → Int) (place letter : Int)
def hit (p c : Int) (i : Nat) : Bool := fs i == -1 && bt (rd_T24 l (i : Int)).f0 p != c
def leftTo (g : Nat → Int) (p c : Int) (k : Nat) (i : Nat) : Int := if i < k ∧ hit l fs p c i = true then g i - 1 else g i
def errsTo (p c : Int) (k : Nat) : Int := (((List.range k).filter (hit l fs p c)).length : Int)
def fitsTo (g : Nat → Int) (p c : Int) (k : Nat) : Bool := (List.range k).all fun i => !hit l fs p c i || decide (0 ≤ g i - 1)
def skipC (p c : Int) (others : Bool) : Bool := (p == place && c != letter) || (p != place && (!atB l fs p c && others))
def stepC (nx : (Nat → Int) → Int) (p : Int) (g : Nat → Int) (st : Int × Bool) (c : Int) : Int × Bool :=
  if skipC l fs place letter p c st.2 = true then st
  else if fitsTo l fs g p c l.length = true then (min st.1 (errsTo l fs p c l.length + nx (leftTo l fs g p c l.length)), st.2 || !atB l fs p c)
  else (st.1, st.2 || !atB l fs p c)
def cs (k : Nat) : List Int := (List.range k).map fun (i : Nat) => 65 + (i : Int)
def nextS : Nat → Int → (Nat → Int) → Int
  | 0, _, _ => 0
  | rem + 1, p, g => ((cs 26).foldl (stepC l fs place letter (nextS rem (p + 1)) p g) (1048576, false)).1
end
theorem cs_succ (k : Nat) : cs (k + 1) = cs k ++ [65 + (k : Int)] := by simp [cs, List.range_succ]
theorem errsTo_succ (l : List S24) (fs : Nat → Int) (p c : Int) (k : Nat) : errsTo l fs p c (k + 1) = errsTo l fs p c k + if hit l fs p c k = true then 1 else 0 := by
  unfold errsTo
  rw [List.range_succ, List.filter_append]
  by_cases h : hit l fs p c k = true <;> simp [h]
theorem errsTo_bound (l : List S24) (fs : Nat → Int) (p c : Int) (k : Nat) : 0 ≤ errsTo l fs p c k ∧ errsTo l fs p c k ≤ k := by
  unfold errsTo
  have := List.length_filter_le (hit l fs p c) (List.range k)
  rw [List.length_range] at this
  omega
theorem fitsTo_succ (l : List S24) (fs : Nat → Int) (g : Nat → Int) (p c : Int) (k : Nat) : fitsTo l fs g p c (k + 1) = (fitsTo l fs g p c k && (!hit l fs p c k || decide (0 ≤ g k - 1))) := by
  unfold fitsTo
  rw [List.range_succ, List.all_append]
  simp
theorem leftTo_succ_hit (l : List S24) (fs : Nat → Int) (g : Nat → Int) (p c : Int) (k : Nat) (h : hit l fs p c k = true) : leftTo l fs g p c (k + 1) = fun i => if i = k then leftTo l fs g p c k k - 1 else leftTo l fs g p c k i := by
  funext i
  unfold leftTo
  by_cases e : i = k
  · subst e; simp [h]
  · by_cases h1 : i < k
    · simp [e, h1, show i < k + 1 by omega]
    · simp [e, h1, show ¬ i < k + 1 by omega]
theorem leftTo_succ_not (l : List S24) (fs : Nat → Int) (g : Nat → Int) (p c : Int) (k : Nat) (h : hit l fs p c k = false) : leftTo l fs g p c (k + 1) = leftTo l fs g p c k := by
  funext i
  unfold leftTo
  by_cases e : i = k
  · subst e; simp [h]
  · by_cases h1 : i < k
    · simp [h1, show i < k + 1 by omega]
    · simp [h1, show ¬ i < k + 1 by omega]
theorem leftTo_self (l : List S24) (fs : Nat → Int) (g : Nat → Int) (p c : Int) (k : Nat) : leftTo l fs g p c k k = g k := by simp [leftTo]
theorem foldC_bound (l : List S24) (fs : Nat → Int) (place letter : Int) (nx : (Nat → Int) → Int) (hnx : ∀ g, 0 ≤ nx g) (p : Int) (g : Nat → Int) (cl : List Int) : ∀ (st : Int × Bool), 0 ≤ st.1 → st.1 ≤ 1048576 →
    0 ≤ (cl.foldl (stepC l fs place letter nx p g) st).1 ∧ (cl.foldl (stepC l fs place letter nx p g) st).1 ≤ 1048576 := by
  induction cl with
  | nil => intro st h1 h2; exact ⟨h1, h2⟩
  | cons c cl ih =>
    intro st h1 h2
    rw [List.foldl_cons]
    have h3 := hnx (leftTo l fs g p c l.length)
    have h4 := (errsTo_bound l fs p c l.length).1
    have h5 : 0 ≤ min st.1 (errsTo l fs p c l.length + nx (leftTo l fs g p c l.length)) ∧ min st.1 (errsTo l fs p c l.length + nx (leftTo l fs g p c l.length)) ≤ 1048576 := by omega
    apply ih
    · unfold stepC
      split
      · exact h1
      · split
        · exact h5.1
        · exact h1
    · unfold stepC
      split
      · exact h2
      · split
        · exact h5.2
        · exact h2
theorem nextS_bound (l : List S24) (fs : Nat → Int) (place letter : Int) (rem : Nat) : ∀ (p : Int) (g : Nat → Int), 0 ≤ nextS l fs place letter rem p g ∧ nextS l fs place letter rem p g ≤ 1048576 := by
  induction rem with
  | zero => intro p g; simp [nextS]
  | succ rem ih => intro p g; exact foldC_bound l fs place letter _ (fun g => (ih _ g).1) p g _ _ (by decide) (by decide)
theorem nextS_congr (l : List S24) (fs : Nat → Int) (place letter : Int) (rem : Nat) : ∀ (p : Int) (g g' : Nat → Int), (∀ i, i < l.length → g i = g' i) → nextS l fs place letter rem p g = nextS l fs place letter rem p g' := by
  induction rem with
  | zero => intro p g g' _; rfl
  | succ rem ih =>
    intro p g g' h
    have hs : stepC l fs place letter (nextS l fs place letter rem (p + 1)) p g = stepC l fs place letter (nextS l fs place letter rem (p + 1)) p g' := by
      funext st c
      unfold stepC
      have h1 : fitsTo l fs g p c l.length = fitsTo l fs g' p c l.length := by
        unfold fitsTo
        rw [Bool.eq_iff_iff, List.all_eq_true, List.all_eq_true]
        constructor <;> intro hh i hi <;> have := hh i hi <;> rw [h i (List.mem_range.1 hi)] at * <;> exact this
      have h2 := ih (p + 1) (leftTo l fs g p c l.length) (leftTo l fs g' p c l.length) (fun i hi => by unfold leftTo; rw [h i hi])
      rw [h1, h2]
    rw [nextS, nextS, hs]
end Go.Proofs.Ytegjollhajgcdaa.P.OwnSt
namespace Go.Proofs.Ytegjollhajgcdaa.P.OwnSt
open Go.RowKit Go.Proofs.YtegjollhajgcdaaW.PrintWords Go.Proofs.YtegjollhajgcdaaW.PrintLast Go.Proofs.YtegjollhajgcdaaW.PrintMore
set_option linter.unusedVariables false
set_option linter.unusedSimpArgs false
def StAt (W : World) (b : Nat) (p : Int) (g : Nat → Int) : Prop := W.heap[b]? = some (.cells #[.int .i64 p, .int .i64 (g 0), .int .i64 (g 1), .int .i64 (g 2), .int .i64 (g 3), .int .i64 (g 4)] 111 (0, 0))
theorem StAt.place {W : World} {b : Nat} {p : Int} {g : Nat → Int} (h : StAt W b p g) : W.cell? ⟨b, 0, none⟩ = some (.int .i64 p) := (blk_cell h 0).trans rfl
theorem StAt.left {W : World} {b : Nat} {p : Int} {g : Nat → Int} (h : StAt W b p g) (k : Nat) (hk : k < 5) : W.cell? ⟨b, 1 + k, none⟩ = some (.int .i64 (g k)) := by
  rw [blk_cell h]
  rcases k with _ | _ | _ | _ | _ | k
  all_goals first | rfl | omega
theorem StAt.set {W : World} {b : Nat} {p : Int} {g : Nat → Int} (h : StAt W b p g) (k : Nat) (hk : k < 5) (x : Int) : StAt (W.setCell ⟨b, 1 + k, none⟩ (.int .i64 x)) b p (fun i => if i = k then x else g i) := by
  have h1 := blk_set h (1 + k) (.int .i64 x)
  unfold StAt
  rw [h1]
  rcases k with _ | _ | _ | _ | _ | k
  all_goals first | (simp; done) | omega
def Right (l : List S24) (fs : Nat → Int) (place letter : Int) (L : Nat) (key val : Value) : Prop :=
  ∃ (rem : Nat) (p : Int) (g : Nat → Int), key = stV p g ∧ p + rem = L ∧ val = .int .i64 (nextS l fs place letter rem p g)
def capV (bx bm bp bl bn : Nat) : Array Value := #[.pointer (some ⟨bx, 0, none⟩), .pointer (some ⟨bm, 0, none⟩), .pointer (some ⟨bp, 0, none⟩), .pointer (some ⟨bl, 0, none⟩), .pointer (some ⟨bn, 0, none⟩)]
structure LW (l : List S24) (fs : Nat → Int) (place letter : Int) (L : Nat) (A : Option Addr) (c bx bm bp bl bn mb : Nat) (W : World) : Prop where
  hl : Kd.C k24 W A l.length l
  hx : LostAt W bx A l.length c fs
  hm : W.heap[bm]? = some (.cells #[.map (some mb)] 107 (0, 0))
  hp : W.heap[bp]? = some (.cells #[.int .i64 place] 3 (0, 0))
  hle : W.heap[bl]? = some (.cells #[.int .u8 letter] 5 (0, 0))
  hn : W.heap[bn]? = some (.cells #[.func (.func 66) #[] (capV bx bm bp bl bn)] 108 (0, 0))
  hmap : MemoAt Try.prog 111 (Right l fs place letter L) W mb
theorem StAt.cells {W : World} {b : Nat} {p : Int} {g : Nat → Int} (h : StAt W b p g) : W.cell? ⟨b, 0, none⟩ = some (.int .i64 p) ∧ W.cell? ⟨b, 1, none⟩ = some (.int .i64 (g 0)) ∧ W.cell? ⟨b, 2, none⟩ = some (.int .i64 (g 1)) ∧ W.cell? ⟨b, 3, none⟩ = some (.int .i64 (g 2)) ∧ W.cell? ⟨b, 4, none⟩ = some (.int .i64 (g 3)) ∧ W.cell? ⟨b, 5, none⟩ = some (.int .i64 (g 4)) :=
  ⟨h.place, h.left 0 (by omega), h.left 1 (by omega), h.left 2 (by omega), h.left 3 (by omega), h.left 4 (by omega)⟩
theorem LostAt.cells {W : World} {b : Nat} {A : Option Addr} {n c : Nat} {fs : Nat → Int} (h : LostAt W b A n c fs) : W.cell? ⟨b, 0, none⟩ = some (.slice A n c) ∧ W.cell? ⟨b, 1, none⟩ = some (.int .i64 (fs 0)) ∧ W.cell? ⟨b, 2, none⟩ = some (.int .i64 (fs 1)) ∧ W.cell? ⟨b, 3, none⟩ = some (.int .i64 (fs 2)) ∧ W.cell? ⟨b, 4, none⟩ = some (.int .i64 (fs 3)) ∧ W.cell? ⟨b, 5, none⟩ = some (.int .i64 (fs 4)) :=
  ⟨h.list, h.src 0 (by omega), h.src 1 (by omega), h.src 2 (by omega), h.src 3 (by omega), h.src 4 (by omega)⟩
theorem not_map_of_cell {W : World} {ad : Addr} {v : Value} {mb : Nat} {es : Array MapEntry} {ck : Nat} (h : W.cell? ad = some v) (hm : W.heap[mb]? = some (.map es ck)) : ad.block ≠ mb := by
  intro e
  subst e
  simp [World.cell?, hm] at h
theorem not_map_of_cells {W : World} {b : Nat} {cs : Array Value} {t : TypeId} {k : Nat × Nat} {mb : Nat} {es : Array MapEntry} {ck : Nat} (h : W.heap[b]? = some (.cells cs t k)) (hm : W.heap[mb]? = some (.map es ck)) : b ≠ mb := by
  intro e
  subst e
  rw [h] at hm
  simp at hm
theorem LW.grown {l : List S24} {fs : Nat → Int} {place letter : Int} {L : Nat} {A : Option Addr} {c bx bm bp bl bn mb : Nat} {W W' : World} (h : LW l fs place letter L A c bx bm bp bl bn mb W) (hg : W.grownBy W' (some mb)) (hm : MemoAt Try.prog 111 (Right l fs place letter L) W' mb) : LW l fs place letter L A c bx bm bp bl bn mb W' := by
  obtain ⟨es, ck, h1, h2⟩ := h.hmap
  have hk : ∀ {b : Nat} {cs : Array Value} {t : TypeId} {k : Nat × Nat}, W.heap[b]? = some (.cells cs t k) → W'.heap[b]? = some (.cells cs t k) := fun {b} {cs} {t} {k} hb =>
    (hg.block b (blk_lt hb) (fun e => not_map_of_cells hb h1 (by injection e))).trans hb
  exact ⟨Kd.C_foot_ne (fun hx => hx) h.hl (fun ad hA hn => by
    subst hA
    intro e
    obtain ⟨ad', e0, hx0, _⟩ := at_T24 h.hl 0 (by omega) (by omega)
    injection e0 with e0
    subst e0
    simp only [Int.toNat_zero, Nat.zero_mul, Addr.add_zero'] at hx0
    exact not_map_of_cell hx0 h1 e) W' ⟨hg.size, fun i hi hne _ => hg.block i hi (fun e => hne (by injection e))⟩, hk h.hx, hk h.hm, hk h.hp, hk h.hle, hk h.hn, hm⟩
structure SI (l : List S24) (fs : Nat → Int) (place letter : Int) (L : Nat) (A : Option Addr) (c bx bm bp bl bn mb : Nat) (W : World) (p : Int) (g : Nat → Int) (wx : World) : Prop where
  lw0 : LW l fs place letter L A c bx bm bp bl bn mb W
  st : StAt wx W.heap.size p g
  lw : LW l fs place letter L A c bx bm bp bl bn mb wx
  gr : W.grownBy wx (some mb)
section
variable {l : List S24} {fs : Nat → Int} {place letter : Int} {L : Nat} {A : Option Addr} {c bx bm bp bl bn mb : Nat} {W wx w' : World} {p : Int} {g : Nat → Int}
theorem LW.mbLt (h : LW l fs place letter L A c bx bm bp bl bn mb W) : mb < W.heap.size := by
  obtain ⟨es, ck, h1, _⟩ := h.hmap
  exact (Array.getElem?_eq_some_iff.1 h1).1
theorem LW.below (h0 : LW l fs place letter L A c bx bm bp bl bn mb W) (h : LW l fs place letter L A c bx bm bp bl bn mb wx) (hb : Below W.heap.size wx w') : LW l fs place letter L A c bx bm bp bl bn mb w' := by
  have hk : ∀ {b : Nat} {o o' : Obj}, W.heap[b]? = some o → wx.heap[b]? = some o' → w'.heap[b]? = some o' := fun {b} {o} {o'} h0 hb0 => (hb.block b ((Array.getElem?_eq_some_iff.1 h0).1)).trans hb0
  refine ⟨?_, hk h0.hx h.hx, hk h0.hm h.hm, hk h0.hp h.hp, hk h0.hle h.hle, hk h0.hn h.hn, h.hmap.keep (hb.block _ h0.mbLt)⟩
  refine Kd.C_foot_neS (S := fun b => W.heap.size ≤ b) (fun hx => hx) h.hl (fun ad hA hn => ?_) w' ⟨hb.size, fun i hi hne => hb.block i (by omega)⟩
  subst hA
  obtain ⟨ad', e0, hx0, _⟩ := at_T24 h0.hl 0 (by omega) (by omega)
  injection e0 with e0
  subst e0
  simp only [Int.toNat_zero, Nat.zero_mul, Addr.add_zero'] at hx0
  have := World.block_lt_of_cell? W _ hx0
  omega
theorem SI.below (h : SI l fs place letter L A c bx bm bp bl bn mb W p g wx) (hb : Below (W.heap.size + 1) wx w') : SI l fs place letter L A c bx bm bp bl bn mb W p g w' :=
  ⟨h.lw0, (hb.block _ (by omega)).trans h.st, h.lw0.below h.lw (hb.mono (by omega)), ⟨hb.os.trans h.gr.os, hb.tape.trans h.gr.tape, hb.output.trans h.gr.output, Nat.le_trans h.gr.size hb.size, fun k hk hne => (hb.block k (by omega)).trans (h.gr.block k hk hne)⟩⟩
theorem SI.start (h : LW l fs place letter L A c bx bm bp bl bn mb W) : SI l fs place letter L A c bx bm bp bl bn mb W p g (W.alloc (.cells #[.int .i64 p, .int .i64 (g 0), .int .i64 (g 1), .int .i64 (g 2), .int .i64 (g 3), .int .i64 (g 4)] 111)) :=
  ⟨h, blk_new W _, h.below h ((Below.refl _ _).alloc (Nat.le_refl _) _), World.grownBy_alloc W _ _⟩
theorem SI.gap (h : SI l fs place letter L A c bx bm bp bl bn mb W p g wx) : W.heap.size < wx.heap.size := blk_lt h.st
theorem SI.alloc (h : SI l fs place letter L A c bx bm bp bl bn mb W p g wx) (o : Obj) : SI l fs place letter L A c bx bm bp bl bn mb W p g (wx.alloc o) := h.below ((Below.refl _ _).alloc h.gap o)
theorem SI.drewN (h : SI l fs place letter L A c bx bm bp bl bn mb W p g wx) (n : Nat) : SI l fs place letter L A c bx bm bp bl bn mb W p g (wx.drewN n) := h.below (pw_below_drewN (Below.refl _ _) n)
theorem SI.setCell (h : SI l fs place letter L A c bx bm bp bl bn mb W p g wx) {a : Addr} (ha : W.heap.size < a.block) (v : Value) : SI l fs place letter L A c bx bm bp bl bn mb W p g (wx.setCell a v) := h.below ((Below.refl _ _).setCell ha v)
theorem SI.grown (h : SI l fs place letter L A c bx bm bp bl bn mb W p g wx) (hg : wx.grownBy w' (some mb)) (hm : LW l fs place letter L A c bx bm bp bl bn mb w') : SI l fs place letter L A c bx bm bp bl bn mb W p g w' :=
  ⟨h.lw0, (hg.block _ h.gap (fun e => by injection e with e; have := h.lw0.mbLt; omega)).trans h.st, hm, h.gr.trans hg⟩
end
end Go.Proofs.Ytegjollhajgcdaa.P.OwnSt
namespace Go.Proofs.Ytegjollhajgcdaa.P.OwnSt
open Go.RowKit Go.Proofs.YtegjollhajgcdaaW.PrintWords Go.Proofs.YtegjollhajgcdaaW.PrintLast Go.Proofs.YtegjollhajgcdaaW.PrintMore
set_option linter.unusedVariables false
set_option linter.unusedSimpArgs false
theorem wp_gen {P : Program} {c : Code} {K : Exit → Act → World → Prop} {a : Act} {w : World} (I : World → Prop) (h : I w) (k : ∀ wx, I wx → Code.wp P c K a wx) : Code.wp P c K a w := k w h
theorem grown_putObj (W : World) (k : Nat) (o : Obj) : W.grownBy (W.putObj k o) (some k) := ⟨rfl, rfl, rfl, by simp [World.putObj], fun i _ hi => World.putObj_heap_other (fun e => hi (by rw [e]))⟩
def stC (l : List S24) (fs : Nat → Int) (place letter : Int) (rem : Nat) (p : Int) (g : Nat → Int) (j : Nat) : Int × Bool := (cs j).foldl (stepC l fs place letter (nextS l fs place letter rem (p + 1)) p g) (1048576, false)
set_option maxHeartbeats 1000000 in
set_option maxRecDepth 100000 in
theorem next_calls (l : List S24) (fs : Nat → Int) (place letter : Int) (L : Nat) (A : Option Addr) (c bx bm bp bl bn mb : Nat) (hc : l.length ≤ c) (h1 : 1 ≤ l.length) (h5 : l.length ≤ 5) (hL : ∀ i : Nat, i < l.length → (rd_T24 l (i : Int)).f0.size = L) (hL8 : L ≤ 8) (rem : Nat) :
    ∀ (p : Int) (g : Nat → Int) (W : World), p + rem = L → 0 ≤ p → (∀ i, i < 5 → 0 ≤ g i ∧ g i ≤ 9) → LW l fs place letter L A c bx bm bp bl bn mb W →
    Calls Try.prog 66 #[.agg #[.int .i64 p, .int .i64 (g 0), .int .i64 (g 1), .int .i64 (g 2), .int .i64 (g 3), .int .i64 (g 4)], .pointer (some ⟨bx, 0, none⟩), .pointer (some ⟨bm, 0, none⟩), .pointer (some ⟨bp, 0, none⟩), .pointer (some ⟨bl, 0, none⟩), .pointer (some ⟨bn, 0, none⟩)] W fun e W' =>
      e = .returned (.int .i64 (nextS l fs place letter rem p g)) ∧ W.grownBy W' (some mb) ∧ LW l fs place letter L A c bx bm bp bl bn mb W' := by
  induction rem with
  | zero =>
    intro p g W hp hp0 hg hW
    have HS := Aside0.mk (SI.start (p := p) (g := g) hW)
    obtain ⟨ad, e0, hx0, hx1, hx2⟩ := at_T24 hW.hl 0 (by omega) (by omega)
    subst e0
    simp only [Int.toNat_zero, Nat.zero_mul, Addr.add_zero'] at hx0 hx1 hx2
    have hadl := World.block_lt_of_cell? W _ hx0
    have hl0 : 0 < l.length := by omega
    have hbx := hW.hx.list
    have hbxl := blk_lt hW.hx
    have hLa : (rd_T24 l 0).f0.size = L := by simpa using hL 0 (by omega)
    have hne : (p == ((rd_T24 l 0).f0.size : Int)) = true := by rw [hLa]; simp; omega
    have H5 := Aside0.mk hL
    clear hL hLa hW hg
    go_enter Try.func66, Try.ntmps66
    go_upto_region 2 with first | go_quiet (fail) | fail
    refine wp_gen (fun wx => Aside0 (SI l fs place letter L (some ad) c bx bm bp bl bn mb W p g wx)) ⟨HS.out.drewN _⟩ ?_
    intro wx HI
    go_wp2_with fail
    go_ret
    exact ⟨rfl, HI.out.gr, HI.out.lw⟩
  | succ rem ih =>
    intro p g W hp hp0 hg hW
    have HS := Aside0.mk (SI.start (p := p) (g := g) hW)
    obtain ⟨ad, e0, hx0, hx1, hx2⟩ := at_T24 hW.hl 0 (by omega) (by omega)
    subst e0
    simp only [Int.toNat_zero, Nat.zero_mul, Addr.add_zero'] at hx0 hx1 hx2
    have hadl := World.block_lt_of_cell? W _ hx0
    have hl0 : 0 < l.length := by omega
    have hbx := hW.hx.list
    have hbxl := blk_lt hW.hx
    have hLa : (rd_T24 l 0).f0.size = L := by simpa using hL 0 (by omega)
    have hne : (p == ((rd_T24 l 0).f0.size : Int)) = false := by rw [hLa]; simp; omega
    have H5 := Aside0.mk hL
    have HG := Aside0.mk hg
    have IH := Aside0.mk ih
    clear hL hLa hW hg ih
    go_enter Try.func66, Try.ntmps66
    go_upto_region 3 with first | go_quiet (fail) | fail
    refine wp_gen (fun wx => Aside0 (SI l fs place letter L (some ad) c bx bm bp bl bn mb W p g wx)) ⟨HS.out.drewN _⟩ ?_
    intro wx HI
    clear HS hx0 hx1 hx2 hadl hbx hbxl hne
    obtain ⟨e0, e1, e2, e3, e4, e5⟩ := HI.out.st.cells
    have em := (blk_cell HI.out.lw.hm 0).trans (show (#[Value.map (some mb)] : Array Value)[0]? = some (Value.map (some mb)) from rfl)
    obtain ⟨lit, hlit⟩ := keyOf_state p g (by simp [Lit.wf, show IntKind.min .i64 = -9223372036854775808 from rfl, show IntKind.max .i64 = 9223372036854775807 from rfl]; omega) (fun i hi => by have := HG.out i hi; simp [Lit.wf, show IntKind.min .i64 = -9223372036854775808 from rfl, show IntKind.max .i64 = 9223372036854775807 from rfl]; omega)
    have hz : (zeroValue 3).run Try.prog wx = .ok (.int .i64 0) wx := by kernel_rfl
    obtain ⟨v, b, hlook, hv⟩ := HI.out.lw.hmap.look law111 (T := 107) (by kernel_rfl) hz hlit
    have hlk := hlook true
    simp only [if_true, stV] at hlk
    clear hlook
    rcases hv with ⟨rfl, hR, -⟩ | ⟨rfl, rfl, -⟩
    · clear hz
      go_wp2_with fail
      go_ret
      refine ⟨?_, HI.out.gr, HI.out.lw⟩
      obtain ⟨rem', p', g', hk, hr, rfl⟩ := hR
      simp only [stV, Value.agg.injEq, Array.mk.injEq, List.cons.injEq, Value.int.injEq, and_true, true_and] at hk
      obtain ⟨rfl, k0, k1, k2, k3, k4⟩ := hk
      obtain rfl : rem' = rem + 1 := by omega
      refine congrArg (fun x => Ending.returned (Value.int .i64 x)) (nextS_congr l fs place letter (rem + 1) p _ _ (fun i hi => ?_))
      rcases (by omega : i = 0 ∨ i = 1 ∨ i = 2 ∨ i = 3 ∨ i = 4) with rfl | rfl | rfl | rfl | rfl
      · exact k0.symm
      · exact k1.symm
      · exact k2.symm
      · exact k3.symm
      · exact k4.symm
    · clear hz
      have HLIT := Aside0.mk hlit
      clear hlit
      go_wp2_with fail
      clear hlk e0 e1 e2 e3 e4 e5 em
      go_loopg [10, 11, 12] 26 (fun k s10 s11 s12 wr => ∃ j : Nat, j + k = 26 ∧ s12 = .int .u8 (65 + (j : Int)) ∧ s10 = .int .i64 (stC l fs place letter rem p g j).1 ∧ s11 = .bool (stC l fs place letter rem p g j).2 ∧ Aside0 (SI l fs place letter L (some ad) c bx bm bp bl bn mb W p g wr))
      case atStart => exact ⟨0, rfl, rfl, rfl, rfl, HI⟩
      case round =>
        obtain ⟨j, hj, rfl, rfl, rfl, HJ⟩ := hrel
        by_cases hlt : j < 26
        · obtain ⟨cc, hcc⟩ : ∃ cc : Int, cc = 65 + (j : Int) := ⟨_, rfl⟩
          obtain ⟨st, hst⟩ : ∃ st, stC l fs place letter rem p g j = st := ⟨_, rfl⟩
          rw [hst]
          rw [← hcc]
          have hcc65 : 65 ≤ cc := by omega
          have hcc90 : cc ≤ 90 := by omega
          have HCC := Aside0.mk hcc
          have HST := Aside0.mk hst
          have HLT := Aside0.mk (show j + gk = 26 ∧ j < 26 from ⟨hj, hlt⟩)
          clear hlt hcc hst hj
          go_upto_region 11 with fail
          go_cut [11, 64] (fun s11 s64 wx => s11 = .bool st.2 ∧ s64 = .bool (skipC l fs place letter p cc st.2) ∧ Aside0 (SI l fs place letter L (some ad) c bx bm bp bl bn mb W p g wx))
          case first =>
            have HC := Aside0.mk (at_calls (some ad) c l fs p cc wr HJ.out.lw.hl hc h5 hp0 (fun i hi => by rw [H5.out i hi]; omega))
            obtain ⟨e0, -⟩ := HJ.out.st.cells
            have ep := (blk_cell HJ.out.lw.hp 0).trans (show (#[Value.int .i64 place] : Array Value)[0]? = some _ from rfl)
            have el := (blk_cell HJ.out.lw.hle 0).trans (show (#[Value.int .u8 letter] : Array Value)[0]? = some _ from rfl)
            obtain ⟨x0, x1, x2, x3, x4, x5⟩ := HJ.out.lw.hx.cells
            rcases hb1 : (p == place) with _ | _
            · have hb1n : (p != place) = true := by simp [bne, hb1]
              rcases hb2 : atB l fs p cc with _ | _ <;> rcases hb3 : st.2 with _ | _
              all_goals (go_wp2_with first | (go_at_call 67; refine HC.out.mono ?_; rintro e w2 ⟨rfl, hB2⟩) | fail)
              all_goals (refine Met.intro ?_; go_step; (repeat apply Exists.intro); refine ⟨?_, rfl⟩)
              all_goals refine ⟨?_, ?_, ?_⟩
              all_goals first | exact HJ | exact ⟨HJ.out.below (hB2.mono HJ.out.gap)⟩ | (simp [skipC, hb1, hb1n, hb2, hb3]; done) | (simp [hb3]; done)
            · have hb1n : (p != place) = false := by simp [bne, hb1]
              rcases hb4 : (cc == letter) with _ | _
              · have hb4n : (cc != letter) = true := by simp [bne, hb4]
                rcases hb3 : st.2 with _ | _
                all_goals (go_wp2_with first | (go_at_call 67; refine HC.out.mono ?_; rintro e w2 ⟨rfl, hB2⟩) | fail)
                all_goals (refine Met.intro ?_; go_step; (repeat apply Exists.intro); refine ⟨?_, rfl⟩)
                all_goals refine ⟨?_, ?_, ?_⟩
                all_goals first | exact HJ | exact ⟨HJ.out.below (hB2.mono HJ.out.gap)⟩ | (simp [skipC, hb1, hb1n, hb4, hb4n, hb3]; done) | (simp [hb3]; done)
              · have hb4n : (cc != letter) = false := by simp [bne, hb4]
                rcases hb3 : st.2 with _ | _
                all_goals (go_wp2_with first | (go_at_call 67; refine HC.out.mono ?_; rintro e w2 ⟨rfl, hB2⟩) | fail)
                all_goals (refine Met.intro ?_; go_step; (repeat apply Exists.intro); refine ⟨?_, rfl⟩)
                all_goals refine ⟨?_, ?_, ?_⟩
                all_goals first | exact HJ | exact ⟨HJ.out.below (hB2.mono HJ.out.gap)⟩ | (simp [skipC, hb1, hb1n, hb4, hb4n, hb3]; done) | (simp [hb3]; done)
          case rest =>
            obtain ⟨rfl, rfl, HJ1⟩ := hcut
            rcases hsk : skipC l fs place letter p cc st.2 with _ | _
            · clear HJ
              have HSK := Aside0.mk hsk
              clear hsk
              go_upto_region 12 with fail
              go_cut [11] (fun s11 wx => s11 = .bool (st.2 || !atB l fs p cc) ∧ Aside0 (SI l fs place letter L (some ad) c bx bm bp bl bn mb W p g wx))
              case first =>
                have HC := Aside0.mk (at_calls (some ad) c l fs p cc wc HJ1.out.lw.hl hc h5 hp0 (fun i hi => by rw [H5.out i hi]; omega))
                obtain ⟨e0, -⟩ := HJ1.out.st.cells
                obtain ⟨x0, x1, x2, x3, x4, x5⟩ := HJ1.out.lw.hx.cells
                rcases hb2 : atB l fs p cc with _ | _ <;> rcases hb3 : st.2 with _ | _
                all_goals (go_wp2_with first | (go_at_call 67; refine HC.out.mono ?_; rintro e w2 ⟨rfl, hB2⟩) | fail)
                all_goals (refine Met.intro ?_; go_step; (repeat apply Exists.intro); refine ⟨?_, rfl⟩)
                all_goals refine ⟨?_, ?_⟩
                all_goals first | exact HJ1 | exact ⟨HJ1.out.below (hB2.mono HJ1.out.gap)⟩ | (simp [hb2, hb3]; done)
              case rest =>
                obtain ⟨rfl, HJ2⟩ := hcut
                clear HJ1
                obtain ⟨e0, e1, e2, e3, e4, e5⟩ := HJ2.out.st.cells
                have hp7 : p ≤ 7 := by omega
                have hn0 := HJ2.out.gap
                have hll := HJ2.out.lw.hx.list
                have hlt0 := blk_lt HJ2.out.lw.hx
                go_upto_block 2 with fail
                obtain ⟨bt3, hbt3⟩ : ∃ b, b = wc.heap.size := ⟨_, rfl⟩
                rw [← hbt3]
                refine wp_gen (fun wx => Aside0 (SI l fs place letter L (some ad) c bx bm bp bl bn mb W p g wx) ∧ Aside0 (StAt wx bt3 (p + 1) g)) ?_ ?_
                · subst hbt3
                  exact ⟨⟨HJ2.out.alloc _⟩, ⟨blk_new wc _⟩⟩
                rintro wy ⟨HJ3, HT3⟩
                have HB3 := Aside0.mk (show W.heap.size < bt3 by omega)
                clear hbt3 HJ2 e0 e1 e2 e3 e4 e5 hll hlt0 hn0
                clear wc
                go_wp2_with fail
                go_loopg [14, 15, 83] l.length (fun k s14 s15 s83 wr => ∃ i : Nat, i + k = l.length ∧ s83 = .int .i64 (i : Int) ∧ s14 = .int .i64 (errsTo l fs p cc i) ∧ s15 = .bool (fitsTo l fs g p cc i) ∧ Aside0 (SI l fs place letter L (some ad) c bx bm bp bl bn mb W p g wr) ∧ Aside0 (StAt wr bt3 (p + 1) (leftTo l fs g p cc i)))
                case atStart => exact ⟨0, by omega, rfl, rfl, rfl, HJ3, ⟨by rw [show leftTo l fs g p cc 0 = g from funext fun i => by simp [leftTo]]; exact HT3.out⟩⟩
                case round =>
                  obtain ⟨i, hik, rfl, rfl, rfl, HJ4, HT4⟩ := hrel
                  clear HJ3 HT3
                  have HIK := Aside0.mk hik
                  clear hik
                  have he5 := errsTo_bound l fs p cc i
                  by_cases hil : i < l.length
                  · obtain ⟨ad', ea, y0, y1, y2⟩ := at_T24 HJ4.out.lw.hl (i : Int) (by omega) (by omega)
                    injection ea with ea
                    subst ea
                    simp only [Int.toNat_natCast] at y0 y1 y2
                    have hi5 : (i : Int) < 5 := by omega
                    have hil' : (i : Int) < (l.length : Int) := by omega
                    have hs := HJ4.out.lw.hx.src i (by omega)
                    have hsl := blk_lt HJ4.out.lw.hx
                    obtain ⟨e0, -⟩ := HJ4.out.st.cells
                    have hn0 := HJ4.out.gap
                    have hpk : p < ((rd_T24 l (i : Int)).f0.size : Int) := by rw [H5.out i hil]; omega
                    have hbt := bt_at (rd_T24 l (i : Int)).f0 p
                    rcases hst1 : (fs i == -1) with _ | _
                    · have HN := Aside0.mk (show hit l fs p cc i = false by simp [hit, hst1])
                      clear hbt hpk
                      go_wp2_with fail
                      go_roundg (gk - 1)
                      case measure => have := HIK.out; omega
                      case rel =>
                        refine ⟨i + 1, by have := HIK.out; omega, by go_num, by rw [errsTo_succ, HN.out]; simp, by rw [fitsTo_succ, HN.out]; simp, ?_, ?_⟩
                        · exact ⟨HJ4.out.alloc _⟩
                        · rw [leftTo_succ_not l fs g p cc i HN.out]
                          exact ⟨blk_alloc HT4.out _⟩
                    · rcases hne1 : (bt (rd_T24 l (i : Int)).f0 p != cc) with _ | _
                      · have HN := Aside0.mk (show hit l fs p cc i = false by simp [hit, hst1, hne1])
                        go_wp2_with fail
                        go_roundg (gk - 1)
                        case measure => have := HIK.out; omega
                        case rel =>
                          refine ⟨i + 1, by have := HIK.out; omega, by go_num, by rw [errsTo_succ, HN.out]; simp, by rw [fitsTo_succ, HN.out]; simp, ?_, ?_⟩
                          · exact ⟨HJ4.out.alloc _⟩
                          · rw [leftTo_succ_not l fs g p cc i HN.out]
                            exact ⟨blk_alloc HT4.out _⟩
                      · have HN := Aside0.mk (show hit l fs p cc i = true by simp [hit, hst1, hne1])
                        go_upto_region 19 with fail
                        clear y0 y1 y2 hbt hpk e0 hs
                        have ht := HT4.out.left i (by omega)
                        have htf := blk_frozen HT4.out (1 + i)
                        have htl := blk_lt HT4.out
                        rw [leftTo_self] at ht
                        have hgi := HG.out i (by omega)
                        rcases hft : fitsTo l fs g p cc i with _ | _
                        · go_wp2_with fail
                          go_roundg (gk - 1)
                          case measure => have := HIK.out; omega
                          case rel =>
                            refine ⟨i + 1, by have := HIK.out; omega, by go_num, by rw [errsTo_succ, HN.out]; simp, by rw [fitsTo_succ, HN.out, hft]; simp, ?_, ?_⟩
                            · exact ⟨(HJ4.out.setCell (a := ⟨bt3, 1 + i, none⟩) HB3.out _).alloc _⟩
                            · rw [leftTo_succ_hit l fs g p cc i HN.out]
                              rw [leftTo_self]
                              exact ⟨blk_alloc (HT4.out.set i (by omega) (g i - 1)) _⟩
                        · go_wp2_with fail
                          go_roundg (gk - 1)
                          case measure => have := HIK.out; omega
                          case rel =>
                            refine ⟨i + 1, by have := HIK.out; omega, by go_num, by rw [errsTo_succ, HN.out]; simp, by rw [fitsTo_succ, HN.out, hft]; simp, ?_, ?_⟩
                            · exact ⟨(HJ4.out.setCell (a := ⟨bt3, 1 + i, none⟩) HB3.out _).alloc _⟩
                            · rw [leftTo_succ_hit l fs g p cc i HN.out]
                              rw [leftTo_self]
                              exact ⟨blk_alloc (HT4.out.set i (by omega) (g i - 1)) _⟩
                  · obtain rfl : i = l.length := by have := HIK.out; omega
                    have HSK2 := HSK.out
                    rcases hft : fitsTo l fs g p cc l.length with _ | _
                    · have HST2 := Aside0.mk (show stC l fs place letter rem p g (j + 1) = (st.1, st.2 || !atB l fs p cc) by
                        rw [stC, cs_succ, List.foldl_append, ← stC, HST.out, ← HCC.out]
                        simp [stepC, HSK2, hft])
                      clear HSK2
                      go_wp2_with fail
                      go_roundg (26 - (j + 1))
                      case measure => have := HLT.out; omega
                      case rel => exact ⟨j + 1, by have := HLT.out; omega, by rw [HCC.out]; go_num, by rw [HST2.out], by rw [HST2.out], HJ4⟩
                    · have HST2 := Aside0.mk (show stC l fs place letter rem p g (j + 1) = (min st.1 (errsTo l fs p cc l.length + nextS l fs place letter rem (p + 1) (leftTo l fs g p cc l.length)), st.2 || !atB l fs p cc) by
                        rw [stC, cs_succ, List.foldl_append, ← stC, HST.out, ← HCC.out]
                        simp [stepC, HSK2, hft])
                      clear HSK2
                      have HC := Aside0.mk (IH.out (p + 1) (leftTo l fs g p cc l.length) wr (by omega) (by omega) (fun k hk => by
                        have h1 := HG.out k hk
                        unfold leftTo
                        split
                        · rename_i h2
                          have h3 := hft
                          rw [fitsTo, List.all_eq_true] at h3
                          have := h3 k (List.mem_range.2 h2.1)
                          rw [h2.2] at this
                          simp at this
                          omega
                        · exact h1) HJ4.out.lw)
                      obtain ⟨t0, t1, t2, t3, t4, t5⟩ := HT4.out.cells
                      have en := (blk_cell HJ4.out.lw.hn 0).trans (show (#[Value.func (.func 66) #[] (capV bx bm bp bl bn)] : Array Value)[0]? = some _ from rfl)
                      simp only [capV] at en
                      have hnb := nextS_bound l fs place letter rem (p + 1) (leftTo l fs g p cc l.length)
                      obtain ⟨nv, hnv⟩ : ∃ nv, nextS l fs place letter rem (p + 1) (leftTo l fs g p cc l.length) = nv := ⟨_, rfl⟩
                      rw [hnv] at HST2 HC hnb
                      clear hnv
                      go_wp2_with first | (go_at_call 66; refine HC.out.mono ?_; rintro e w2 ⟨rfl, hg2, hW2⟩) | fail
                      · go_roundg (26 - (j + 1))
                        case measure => have := HLT.out; omega
                        case rel => exact ⟨j + 1, by have := HLT.out; omega, by rw [HCC.out]; go_num, by rw [HST2.out]; exact congrArg (Value.int .i64) (by dsimp only; omega), by rw [HST2.out], ⟨HJ4.out.grown hg2 hW2⟩⟩
                      · go_roundg (26 - (j + 1))
                        case measure => have := HLT.out; omega
                        case rel => exact ⟨j + 1, by have := HLT.out; omega, by rw [HCC.out]; go_num, by rw [HST2.out]; exact congrArg (Value.int .i64) (by dsimp only; omega), by rw [HST2.out], ⟨HJ4.out.grown hg2 hW2⟩⟩
            · have HST2 := Aside0.mk (show stC l fs place letter rem p g (j + 1) = st by
                rw [stC, cs_succ, List.foldl_append, ← stC, HST.out, ← HCC.out]
                simp [stepC, hsk])
              go_wp2_with fail
              go_roundg (gk - 1)
              case measure => have := HLT.out; omega
              case rel => exact ⟨j + 1, by have := HLT.out; omega, by rw [HCC.out]; go_num, by rw [HST2.out], by rw [HST2.out], HJ1⟩
        · obtain rfl : j = 26 := by omega
          have hN : nextS l fs place letter (rem + 1) p g = (stC l fs place letter rem p g 26).1 := rfl
          have hRt : Right l fs place letter L (stV p g) (.int .i64 (stC l fs place letter rem p g 26).1) := ⟨rem + 1, p, g, rfl, by omega, rfl⟩
          obtain ⟨o, hupd, hm1, -, -⟩ := HJ.out.lw.hmap.update law111 (T := 107) (E := 3) (by kernel_rfl) HLIT.out hRt
          have HM1 := Aside0.mk hm1
          clear hm1 hRt
          simp only [stV] at hupd
          obtain ⟨nv, hnv⟩ : ∃ nv, (stC l fs place letter rem p g 26).1 = nv := ⟨_, rfl⟩
          rw [hnv] at hupd ⊢
          have HNV := Aside0.mk (hN.trans hnv)
          clear hnv hN
          obtain ⟨e0, e1, e2, e3, e4, e5⟩ := HJ.out.st.cells
          have em := (blk_cell HJ.out.lw.hm 0).trans (show (#[Value.map (some mb)] : Array Value)[0]? = some (Value.map (some mb)) from rfl)
          go_wp2_with fail
          go_ret
          have hJ9 := HJ.out.grown (grown_putObj wr mb o) (HJ.out.lw.grown (grown_putObj wr mb o) HM1.out)
          exact ⟨by rw [HNV.out]; rfl, hJ9.gr, hJ9.lw⟩
end Go.Proofs.Ytegjollhajgcdaa.P.OwnSt
namespace Go.Proofs.Ytegjollhajgcdaa.P.OwnSt
open Go.RowKit Go.Proofs.YtegjollhajgcdaaW.PrintWords Go.Proofs.YtegjollhajgcdaaW.PrintLast Go.Proofs.YtegjollhajgcdaaW.PrintMore
set_option linter.unusedVariables false
set_option linter.unusedSimpArgs false
def RestAt (W : World) (b : Nat) (g : Nat → Int) : Prop := W.heap[b]? = some (.cells #[.int .i64 (g 0), .int .i64 (g 1), .int .i64 (g 2), .int .i64 (g 3), .int .i64 (g 4)] 109 (0, 0))
theorem RestAt.cells {W : World} {b : Nat} {g : Nat → Int} (h : RestAt W b g) : W.cell? ⟨b, 0, none⟩ = some (.int .i64 (g 0)) ∧ W.cell? ⟨b, 1, none⟩ = some (.int .i64 (g 1)) ∧ W.cell? ⟨b, 2, none⟩ = some (.int .i64 (g 2)) ∧ W.cell? ⟨b, 3, none⟩ = some (.int .i64 (g 3)) ∧ W.cell? ⟨b, 4, none⟩ = some (.int .i64 (g 4)) :=
  ⟨(blk_cell h 0).trans rfl, (blk_cell h 1).trans rfl, (blk_cell h 2).trans rfl, (blk_cell h 3).trans rfl, (blk_cell h 4).trans rfl⟩
theorem RestAt.get {W : World} {b : Nat} {g : Nat → Int} (h : RestAt W b g) (k : Nat) (hk : k < 5) : W.cell? ⟨b, k, none⟩ = some (.int .i64 (g k)) := by
  rw [blk_cell h]
  rcases k with _ | _ | _ | _ | _ | k
  all_goals first | rfl | omega
theorem RestAt.set {W : World} {b : Nat} {g : Nat → Int} (h : RestAt W b g) (k : Nat) (hk : k < 5) (x : Int) : RestAt (W.setCell ⟨b, k, none⟩ (.int .i64 x)) b (fun i => if i = k then x else g i) := by
  have h1 := blk_set h k (.int .i64 x)
  unfold RestAt
  rw [h1]
  rcases k with _ | _ | _ | _ | _ | k
  all_goals first | (simp; done) | omega
def errV (l : List S24) (n : Nat) (i : Nat) : Int := if i < n then (rd_T24 l (i : Int)).f1 else 0
def leastV (l : List S24) (fs : Nat → Int) (place letter : Int) : Int := nextS l fs place letter (rd_T24 l 0).f0.size 0 (errV l l.length)
theorem leastV_bound (l : List S24) (fs : Nat → Int) (place letter : Int) : 0 ≤ leastV l fs place letter ∧ leastV l fs place letter ≤ 1048576 := nextS_bound _ _ _ _ _ _ _
theorem errV_succ (l : List S24) (n : Nat) : errV l (n + 1) = fun i => if i = n then (rd_T24 l (n : Int)).f1 else errV l n i := by
  funext i
  unfold errV
  by_cases e : i = n
  · subst e; simp
  · by_cases h : i < n
    · simp [e, h, show i < n + 1 by omega]
    · simp [e, h, show ¬ i < n + 1 by omega]
@[go_sem] theorem run_store_func {P : Program} {w : World} (a : Addr) (m : Mode) (f : Fn) (i c : Array Value) : (store a (.func f i c) m).run P w = stored P w a (.func f i c) m := run_store P w a _ m rfl
set_option maxHeartbeats 1000000 in
set_option maxRecDepth 100000 in
theorem least_calls (A : Option Addr) (c : Nat) (l : List S24) (fs : Nat → Int) (place letter : Int) (w : World) (hr : Kd.C k24 w A l.length l) (hc : l.length ≤ c) (h1 : 1 ≤ l.length) (h5 : l.length ≤ 5)
    (hL : ∀ i : Nat, i < l.length → (rd_T24 l (i : Int)).f0.size = (rd_T24 l 0).f0.size) (hL8 : (rd_T24 l 0).f0.size ≤ 8) (he : ∀ i : Nat, i < l.length → 0 ≤ (rd_T24 l (i : Int)).f1 ∧ (rd_T24 l (i : Int)).f1 ≤ 9) :
    Calls Try.prog 51 #[.agg #[.slice A l.length c, .int .i64 (fs 0), .int .i64 (fs 1), .int .i64 (fs 2), .int .i64 (fs 3), .int .i64 (fs 4)], .int .i64 place, .int .u8 letter] w fun e w' =>
      e = .returned (.int .i64 (leastV l fs place letter)) ∧ Below w.heap.size w w' := by
  have HR := Aside0.mk hr
  have HL := Aside0.mk hL
  have HE := Aside0.mk he
  clear hr hL he
  go_enter Try.func51, Try.ntmps51
  go_upto_region 1 with fail
  refine wp_gen (fun wx => Aside0 (LostAt wx w.heap.size A l.length c fs ∧ wx.heap[w.heap.size + 1]? = some (.cells #[.int .i64 place] 3 (0, 0)) ∧ wx.heap[w.heap.size + 2]? = some (.cells #[.int .u8 letter] 5 (0, 0)) ∧ Below w.heap.size w wx) ∧ wx.heap.size = w.heap.size + 3) ?_ ?_
  · exact ⟨⟨blk_alloc (blk_alloc (blk_new w _) _) _, blk_alloc (by simpa using blk_new (w.alloc _) _) _, by simpa using blk_new ((w.alloc _).alloc _) _, (((Below.refl _ _).alloc (Nat.le_refl _) _).alloc (by simp) _).alloc (by simp; omega) _⟩, by simp⟩
  rintro w1 ⟨H1, hs1⟩
  have hmk := run_makeMap (P := Try.prog) 107 w1
  rw [hs1] at hmk
  go_upto_region 2 with fail
  refine wp_gen (fun wx => Aside0 (LostAt wx w.heap.size A l.length c fs ∧ wx.heap[w.heap.size + 1]? = some (.cells #[.int .i64 place] 3 (0, 0)) ∧ wx.heap[w.heap.size + 2]? = some (.cells #[.int .u8 letter] 5 (0, 0)) ∧ wx.heap[w.heap.size + 3]? = some (.map #[] 0) ∧ wx.heap[w.heap.size + 4]? = some (.cells #[.map (some (w.heap.size + 3))] 107 (0, 0)) ∧ Below w.heap.size w wx) ∧ wx.heap.size = w.heap.size + 5) ?_ ?_
  · obtain ⟨a1, a2, a3, a4⟩ := H1.out
    have b1 := blk_new w1 (.map #[] 0)
    have b2 := blk_new (w1.alloc (.map #[] 0)) (.cells #[.map (some (w.heap.size + 3))] 107)
    rw [hs1] at b1
    rw [World.size_alloc, hs1] at b2
    exact ⟨⟨blk_alloc (blk_alloc a1 _) _, blk_alloc (blk_alloc a2 _) _, blk_alloc (blk_alloc a3 _) _, blk_alloc b1 _, b2, (a4.alloc (by omega) _).alloc (by simp; omega) _⟩, by simp [hs1]⟩
  clear hmk hs1 H1 w1
  rintro w1 ⟨H1, hs1⟩
  go_upto_region 3 with fail
  refine wp_gen (fun wx => Aside0 (LostAt wx w.heap.size A l.length c fs ∧ wx.heap[w.heap.size + 1]? = some (.cells #[.int .i64 place] 3 (0, 0)) ∧ wx.heap[w.heap.size + 2]? = some (.cells #[.int .u8 letter] 5 (0, 0)) ∧ wx.heap[w.heap.size + 3]? = some (.map #[] 0) ∧ wx.heap[w.heap.size + 4]? = some (.cells #[.map (some (w.heap.size + 3))] 107 (0, 0)) ∧ wx.heap[w.heap.size + 5]? = some (.cells #[.nilFunc] 108 (0, 0)) ∧ Below w.heap.size w wx) ∧ wx.heap.size = w.heap.size + 6) ?_ ?_
  · obtain ⟨a1, a2, a3, a4, a5, a6⟩ := H1.out
    have b1 := blk_new w1 (.cells #[.nilFunc] 108)
    rw [hs1] at b1
    exact ⟨⟨blk_alloc a1 _, blk_alloc a2 _, blk_alloc a3 _, blk_alloc a4 _, blk_alloc a5 _, b1, a6.alloc (by omega) _⟩, by simp [hs1]⟩
  clear hs1 H1 w1
  rintro w1 ⟨H1, hs1⟩
  have hcf := (blk_cell H1.out.2.2.2.2.2.1 0).trans (show (#[Value.nilFunc] : Array Value)[0]? = some _ from rfl)
  have hff := blk_frozen H1.out.2.2.2.2.2.1 0
  have hll := blk_lt H1.out.2.2.2.2.2.1
  have HS1 := Aside0.mk hs1
  clear hs1
  go_upto_region 4 with fail
  refine wp_gen (fun wx => LW l fs place letter (rd_T24 l 0).f0.size A c w.heap.size (w.heap.size + 4) (w.heap.size + 1) (w.heap.size + 2) (w.heap.size + 5) (w.heap.size + 3) wx ∧ Aside0 (Below w.heap.size w wx) ∧ wx.heap.size = w.heap.size + 6) ?_ ?_
  · obtain ⟨a1, a2, a3, a4, a5, a6, a7⟩ := H1.out
    have hb : ∀ k, k ≠ w.heap.size + 5 → (w1.setCell ⟨w.heap.size + 5, 0, none⟩ (.func (.func 66) #[] (capV w.heap.size (w.heap.size + 4) (w.heap.size + 1) (w.heap.size + 2) (w.heap.size + 5)))).heap[k]? = w1.heap[k]? := fun k hk => Below.heap_setCell w1 ⟨w.heap.size + 5, 0, none⟩ _ k hk
    have hB := a7.setCell (p := ⟨w.heap.size + 5, 0, none⟩) (by simp) (.func (.func 66) #[] (capV w.heap.size (w.heap.size + 4) (w.heap.size + 1) (w.heap.size + 2) (w.heap.size + 5)))
    refine ⟨⟨Kd.C_below HR.out hB, (hb _ (by omega)).trans a1, (hb _ (by omega)).trans a5, (hb _ (by omega)).trans a2, (hb _ (by omega)).trans a3, ?_, ⟨#[], 0, (hb _ (by omega)).trans a4, by simp⟩⟩, ⟨hB⟩, by simp [HS1.out]⟩
    have := blk_set a6 0 (.func (.func 66) #[] (capV w.heap.size (w.heap.size + 4) (w.heap.size + 1) (w.heap.size + 2) (w.heap.size + 5)))
    exact this.trans (by simp)
  clear hcf hff hll HS1 H1 w1
  rintro w1 ⟨HW0, HB, hs1⟩
  have HW := Aside0.mk HW0
  clear HW0
  go_upto_region 5 with fail
  have HS := Aside0.mk hs1
  refine wp_gen (fun wx => Aside0 (RestAt wx (w.heap.size + 6) (fun _ => 0)) ∧ Aside0 (Below (w.heap.size + 6) w1 wx)) ?_ ?_
  · have h2 := blk_new w1 (.cells #[.int .i64 0, .int .i64 0, .int .i64 0, .int .i64 0, .int .i64 0] 109)
    rw [hs1] at h2
    exact ⟨⟨h2⟩, ⟨(Below.refl _ _).alloc (by omega) _⟩⟩
  clear hs1
  have hgo : ∀ wx, Below (w.heap.size + 6) w1 wx → LW l fs place letter (rd_T24 l 0).f0.size A c w.heap.size (w.heap.size + 4) (w.heap.size + 1) (w.heap.size + 2) (w.heap.size + 5) (w.heap.size + 3) wx ∧ Below w.heap.size w wx := fun wx hb =>
    ⟨HW.out.below HW.out (by rw [HS.out]; exact hb), HB.out.trans (hb.mono (by omega))⟩
  have HGO := Aside0.mk hgo
  clear hgo HW HB HS
  rintro wx ⟨HT, HB⟩
  have hl0 := (HGO.out _ HB.out).1.hx.list
  have hl1 := blk_lt (HGO.out _ HB.out).1.hx
  go_wp2_with fail
  clear hl0 hl1
  go_loopg [17] l.length (fun k s17 wr => ∃ i : Nat, i + k = l.length ∧ s17 = .int .i64 (i : Int) ∧ Aside0 (RestAt wr (w.heap.size + 6) (errV l i)) ∧ Aside0 (Below (w.heap.size + 6) w1 wr))
  case atStart => exact ⟨0, by omega, rfl, ⟨by rw [show errV l 0 = fun _ => 0 from funext fun i => by simp [errV]]; exact HT.out⟩, HB⟩
  case round =>
    obtain ⟨i, hik, rfl, HT1, HB1⟩ := hrel
    have HIK := Aside0.mk hik
    clear hik HT HB
    have HW1 := Aside0.mk (HGO.out _ HB1.out).1
    by_cases hil : i < l.length
    · obtain ⟨ad, rfl, y0, y1, y2⟩ := at_T24 HW1.out.hl (i : Int) (by omega) (by omega)
      simp only [Int.toNat_natCast] at y0 y1 y2
      have hil' : (i : Int) < (l.length : Int) := by omega
      have hi5 : (i : Int) < 5 := by omega
      have ht := HT1.out.get i (by omega)
      have htf := blk_frozen HT1.out i
      have htl := blk_lt HT1.out
      go_wp2_with fail
      go_roundg (gk - 1)
      case measure => have := HIK.out; omega
      case rel =>
        refine ⟨i + 1, by have := HIK.out; omega, by go_num, ?_, ?_⟩
        · rw [errV_succ]
          exact ⟨blk_alloc (HT1.out.set i (by omega) _) _⟩
        · exact ⟨(HB1.out.setCell (p := ⟨w.heap.size + 6, i, none⟩) (by simp) _).alloc (by simp; omega) _⟩
    · obtain rfl : i = l.length := by have := HIK.out; omega
      have HC := Aside0.mk (next_calls l fs place letter (rd_T24 l 0).f0.size A c _ _ _ _ _ _ hc h1 h5 HL.out hL8 (rd_T24 l 0).f0.size 0 (errV l l.length) wr (by omega) (by omega) (fun i hi => by
        unfold errV
        split
        · exact HE.out i (by assumption)
        · omega) HW1.out)
      obtain ⟨t0, t1, t2, t3, t4⟩ := HT1.out.cells
      have en := (blk_cell HW1.out.hn 0).trans (show (#[Value.func (.func 66) #[] (capV w.heap.size (w.heap.size + 4) (w.heap.size + 1) (w.heap.size + 2) (w.heap.size + 5))] : Array Value)[0]? = some _ from rfl)
      simp only [capV] at en
      have hnb := leastV_bound l fs place letter
      have hnv : nextS l fs place letter (rd_T24 l 0).f0.size 0 (errV l l.length) = leastV l fs place letter := rfl
      rw [hnv] at HC
      clear hnv
      obtain ⟨nv, hnv⟩ : ∃ nv, leastV l fs place letter = nv := ⟨_, rfl⟩
      rw [hnv] at HC hnb
      have HNV := Aside0.mk hnv
      clear hnv
      have HX := Aside0.mk ((HGO.out _ HB1.out).2)
      clear HW1
      go_wp2_with first | (go_at_call 66; refine HC.out.mono ?_; rintro e w2 ⟨rfl, hg2, hW2⟩) | fail
      · go_ret
        exact ⟨by rw [HNV.out]; exact congrArg (fun x => Ending.returned (Value.int .i64 x)) (by omega), HX.out.grown hg2 HX.out.size (fun k hk => by injection hk; omega)⟩
      · go_ret
        exact ⟨by rw [HNV.out]; exact congrArg (fun x => Ending.returned (Value.int .i64 x)) (by omega), HX.out.grown hg2 HX.out.size (fun k hk => by injection hk; omega)⟩
end Go.Proofs.Ytegjollhajgcdaa.P.OwnSt
namespace Go.Proofs.Ytegjollhajgcdaa.P.OwnSt
open Go.RowKit Go.Shelf Go.Proofs.YtegjollhajgcdaaW.PrintWords Go.Proofs.YtegjollhajgcdaaW.PrintLast Go.Proofs.YtegjollhajgcdaaW.PrintMore
set_option linter.unusedVariables false
set_option linter.unusedSimpArgs false
def SeqT {α : Type} (F : Fence) (n : Nat) (P : Program) (g : Nat) (lb : Array Value) (encs : α → Array Value) (Kp It : World → World → Prop) (S : List α → Prop) (N : Nat) (w : World) : Prop :=
  ∀ (l : Nat) (J : List α → World → Prop) (W : World), Below w.heap.size w W → (∀ s A B, J s A → It A B → J s B) →
    (∀ pre x W1, J pre W1 → pre.length < N → YieldAt F (n - 1) P l (encs x) W1 fun e W' => e = .returned (.bool true) ∧ J (pre ++ [x]) W' ∧ Kp W1 W') →
    J [] W →
    CallsIn F n P g (#[.func (.yield l) #[] #[]] ++ lb) W fun e W' => (∃ v, e = .returned v) ∧ ∃ xs, S xs ∧ J xs W'
def tPost {α : Type} (B : Nat) (Kp : World → World → Prop) (I : List α → World → Prop) (xs : List α) (W : World) : Exit → Act → World → Prop
  | .normal, _, W' => KeepsFrom B W W' ∧ Kp W W' ∧ I xs W'
  | _, _, _ => False
theorem wpIn_rangeFunc_T {F : Fence} {n : Nat} {P : Program} {α : Type} {g : Operand} {ps : Array Tmp} {assign body : Code} {Q : Exit → Act → World → Prop} {a : Act} {w : World}
    (hro : F.round = none) (h1 : 1 ≤ n) {gf : Nat} {lb : Array Value} (hg : a.eval g = .func (.func gf) #[] lb) (hFg : F.fn gf) (eg : ∀ args w, (callFunc gf args).run P w = .ok (.enter gf args) w)
    {encs : α → Array Value} {Kp It : World → World → Prop} {S : List α → Prop} {N : Nat} {w0 : World} (hseq : SeqT F (n - 1) P gf lb encs Kp It S N w0)
    (hKt : ∀ {A B C : World}, Kp A B → Kp B C → Kp A C) (hKb : ∀ (W : World) (l : Nat) (o o' : Obj), w.heap.size ≤ l → W.heap[l]? = some o → o.isCells = false → o.isWalk = false → Kp W (W.putObj l o'))
    (hIt : ∀ (A B : World) (k : Nat) (o : Obj), It A B → A.heap[k]? = some o → o.isCells = false → B.heap[k]? = some o)
    (hb0 : Below w0.heap.size w0 w) (hps : ∀ x, (encs x).size = ps.size)
    (I : List α → World → Prop) (hI : OwnFrom w.heap.size I) (hII : ∀ s A B, I s A → It A B → I s B) (h0 : I [] w) (Ax : α → Act → World → Prop) (hAx : ∀ x a', OwnFrom w.heap.size (fun (_ : Unit) W => Ax x a' W))
    (hassign : ∀ (l : Nat) (pre : List α) (x : α) (W : World) (K : Act → World → Prop), I pre W → (∀ a' W', KeepsFrom w.heap.size W W' → Kp W W' → I pre W' → Ax x a' W' → K a' W') →
      assign.wpIn (F.inRound l) (n - 1 - 1) P (Exit.then K (fun _ _ _ => False)) { tmps := (ps.zip (encs x)).foldl (fun t (p, v) => t.setIfInBounds p v) a.tmps, defers := [] } W)
    (hbody : ∀ (l : Nat) (pre : List α) (x : α) (a' : Act) (W : World), I pre W → Ax x a' W → pre.length < N → body.wpIn (F.inRound l) (n - 1 - 1) P (tPost w.heap.size Kp I (pre ++ [x]) W) a' W)
    (hdone : ∀ (D : Nat) (xs : List α) (W : World), w.heap.size ≤ D → S xs → I xs W → W.heap[D]? = some (.deferred (some [])) → Q .normal { a with defers := { target := .collected D, args := #[] } :: a.defers } W) :
    (Code.rangeFunc g ps assign body).wpIn F n P Q a w := by
  refine wpIn_rangeFunc ?_
  intro fn hfn
  rw [hro]
  obtain ⟨rec, hrec⟩ : ∃ rec : LoopState → Option Code → Loop, rec = fun st pe => { state := st, pending := pe, fn, tmps := a.tmps, params := ps, assign, body, defers := w.heap.size } := ⟨_, rfl⟩
  obtain ⟨W1, hW1⟩ : ∃ W1, (w.alloc (.deferred (some []))).alloc (.loop (rec .ready none)) = W1 := ⟨_, rfl⟩
  have hL1 : W1.heap[w.heap.size + 1]? = some (.loop (rec .ready none)) := by
    rw [← hW1]; have := World.alloc_heap_new (w.alloc (.deferred (some []))) (.loop (rec .ready none)); rwa [World.size_alloc] at this
  have hK1 : W1.heap[w.heap.size]? = some (.deferred (some [])) := by
    rw [← hW1]; exact (Below.heap_alloc _ _ _ (by simp)).trans (World.alloc_heap_new w _)
  have hI1 : I [] W1 := by rw [← hW1]; exact hI.alloc _ (hI.alloc _ h0)
  have hb1 : Below w0.heap.size w0 W1 := by
    rw [← hW1]; exact hb0.trans ((((Below.refl _ w).alloc (Nat.le_refl _) _).alloc (by simp) _).mono hb0.size)
  refine ⟨w.heap.size + 1, [{ target := .collected w.heap.size, args := #[] }], W1, { target := .fn (.func gf) lb, args := #[.func (.yield (w.heap.size + 1)) #[] #[]] }, W1, gf,
    #[.func (.yield (w.heap.size + 1)) #[] #[]] ++ lb, W1, ?_, ?_, ?_, ?_, fun _ => h1, ?_⟩
  · rw [← hW1, hrec]; exact run_enterLoop_outer _ _ _ _ _
  · simp only [resolve, hg]
    simp [go_sem]
  · intro f' hf'; simp [Target.leads] at hf'; subst hf'; exact hFg
  · simp [invoke, go_sem, eg]
  · refine (hseq (w.heap.size + 1)
      (fun pre W => I pre W ∧ W.heap[w.heap.size + 1]? = some (.loop (rec .ready none)) ∧ W.heap[w.heap.size]? = some (.deferred (some [])))
      W1 hb1
      (fun s A B hs hit => ⟨hII s A B hs.1 hit, hIt A B _ _ hit hs.2.1 rfl, hIt A B _ _ hit hs.2.2 rfl⟩)
      ?_ ⟨hI1, hL1, hK1⟩).mono ?_
    · rintro pre x W ⟨hi, hl, hk⟩ hlen
      have hlt : w.heap.size + 1 < W.heap.size := (Array.getElem?_eq_some_iff.1 hl).1
      have hy := run_yield (P := P) (args := encs x) hl (by rw [hrec]; exact hps x)
      rw [hrec] at hy
      refine ⟨fn, _, assign, body, hy, roundIn_of_wpIn hfn (hassign _ pre x W _ hi ?_)⟩
      clear hy
      intro a' Wa hkfa hkpa hia hax
      replace hl := hkfa.same _ _ (by omega) hl rfl
      replace hk := hkfa.same _ _ (Nat.le_refl _) hk rfl
      replace hlt : w.heap.size + 1 < Wa.heap.size := (Array.getElem?_eq_some_iff.1 hl).1
      replace hi := hia
      clear hia
      revert hkpa hkfa
      generalize W = Wb
      intro hkfa hkpa
      obtain ⟨W, rfl⟩ : ∃ W, W = Wa := ⟨_, rfl⟩
      refine ⟨_, run_beginRound hl (by rw [hrec]), ?_⟩
      have hl2 : (W.putObj (w.heap.size + 1) (.loop { rec .ready none with state := .busy })).heap[w.heap.size + 1]? = some (.loop { rec .ready none with state := .busy }) := World.putObj_heap_same hlt
      have hk2 : (W.putObj (w.heap.size + 1) (.loop { rec .ready none with state := .busy })).heap[w.heap.size]? = some (.deferred (some [])) := (World.putObj_heap_other (by omega)).trans hk
      have hw2 : Kp W (W.putObj (w.heap.size + 1) (.loop { rec .ready none with state := .busy })) := hKb _ _ _ _ (by omega) hl rfl rfl
      refine wpIn_mono (hbody _ pre x a' _ (hI.putObj _ hi (by omega) hl rfl) ((hAx x a').putObj (s := ()) _ hax (by omega) hl rfl) hlen) ?_
      rintro e a3 W3 hp
      cases e with
      | normal =>
        obtain ⟨hk3, hkp3, hi3⟩ := hp
        have hl3 := hk3.same _ _ (by omega) hl2 rfl
        have hr := run_endRound (P := P) none hl3
        rw [hrec] at hr hl3
        exact ⟨_, _, hr, rfl, ⟨hI.putObj _ hi3 (by omega) hl3 rfl, by rw [hrec]; exact World.putObj_heap_same (Array.getElem?_eq_some_iff.1 hl3).1, (World.putObj_heap_other (by omega)).trans (hk3.same _ _ (Nat.le_refl _) hk2 rfl)⟩, hKt hkpa (hKt (hKt hw2 hkp3) (hKb _ _ _ _ (by omega) hl3 rfl rfl))⟩
      | ret => exact hp.elim
      | exit id => exact hp.elim
      | goto t => exact hp.elim
      | panic ch => exact hp.elim
      | outgrown => exact hp.elim
    · rintro e W2 ⟨⟨v, rfl⟩, xs, hS, hi, hl, hk⟩
      exact ⟨none, _, by have := run_endLoop (P := P) hl (by rw [hrec]; simp); rw [hrec] at this; exact this, hdone _ xs _ (Nat.le_refl _) hS (hI.putObj _ hi (by omega) hl rfl) ((World.putObj_heap_other (by omega)).trans hk)⟩
end Go.Proofs.Ytegjollhajgcdaa.P.OwnSt
namespace Go.Proofs.Ytegjollhajgcdaa.P.OwnSt
open Go.RowKit Go.Proofs.YtegjollhajgcdaaW.PrintWords Go.Proofs.YtegjollhajgcdaaW.PrintLast Go.Proofs.YtegjollhajgcdaaW.PrintMore
set_option linter.unusedVariables false
set_option linter.unusedSimpArgs false
def apN (a b : ByteArray) (n : Nat) : Int := (((List.range n).filter fun (p : Nat) => bt a (p : Int) != bt b (p : Int)).length : Int)
theorem apN_succ (a b : ByteArray) (n : Nat) : apN a b (n + 1) = apN a b n + if bt a (n : Int) = bt b (n : Int) then 0 else 1 := by
  unfold apN
  rw [List.range_succ, List.filter_append]
  by_cases h : bt a (n : Int) = bt b (n : Int) <;> simp [h]
theorem apN_bound (a b : ByteArray) (n : Nat) : 0 ≤ apN a b n ∧ apN a b n ≤ n := by
  unfold apN
  have := List.length_filter_le (fun p : Nat => bt a (p : Int) != bt b (p : Int)) (List.range n)
  rw [List.length_range] at this
  omega
theorem apart_l0 (a b : ByteArray) (hab : a.size ≤ b.size) (h8 : a.size ≤ 1000) (m : Nat) : ∀ i, i + m = a.size → stemma_apart.l0 (m + 1) a b (apN a b i) (a.size : Int) (i : Int) = some (apN a b a.size) := by
  induction m with
  | zero =>
    intro i hi
    unfold stemma_apart.l0
    rw [if_neg (by omega)]
    have : i = a.size := by omega
    rw [this]
  | succ m ih =>
    intro i hi
    unfold stemma_apart.l0
    have hb := apN_bound a b i
    rw [if_pos (by omega), if_pos (by omega), if_pos (by omega), if_pos (by omega)]
    have h1 := ih (i + 1) (by omega)
    have e1 : wrap64 ((i : Int) + 1) = ((i + 1 : Nat) : Int) := by unfold wrap64; omega
    split
    · rename_i he
      rw [apN_succ, if_pos he, Int.add_zero] at h1
      rw [e1]
      exact h1
    · rename_i he
      rw [apN_succ, if_neg he] at h1
      rw [e1, show wrap64 (apN a b i + 1) = apN a b i + 1 by unfold wrap64; omega]
      exact h1
theorem apart_f (a b : ByteArray) (hab : a.size ≤ b.size) (h8 : a.size ≤ 1000) : stemma_apart.f (a.size + 1) a b = some (apN a b a.size) := by
  have := apart_l0 a b hab h8 a.size 0 (by omega)
  unfold stemma_apart.f
  simpa [apN] using this
def upd (s : Nat → Int) (i : Nat) (x : Int) : Nat → Int := fun k => if k = i then x else s k
theorem upd_upd (s : Nat → Int) (i : Nat) (x y : Int) : upd (upd s i x) i y = upd s i y := by
  funext k
  unfold upd
  by_cases h : k = i <;> simp [h]
def canF (l : List S24) (i : Nat) (f : Int) : Bool := if f == -1 then (rd_T24 l (i : Int)).f2 else decide (apN (rd_T24 l f).f0 (rd_T24 l (i : Int)).f0 (rd_T24 l f).f0.size ≤ (rd_T24 l (i : Int)).f1)
def treesG (l : List S24) : Nat → Nat → (Nat → Int) → List (Nat → Int)
  | 0, _, s => [s]
  | rem + 1, i, s => (List.range (i + 1)).flatMap fun (f : Nat) => if canF l i ((f : Int) - 1) = true then treesG l rem (i + 1) (upd s i ((f : Int) - 1)) else []
def treesK (l : List S24) (rem i : Nat) (s : Nat → Int) (k : Nat) : List (Nat → Int) := (List.range k).flatMap fun (f : Nat) => if canF l i ((f : Int) - 1) = true then treesG l rem (i + 1) (upd s i ((f : Int) - 1)) else []
theorem treesK_succ (l : List S24) (rem i : Nat) (s : Nat → Int) (k : Nat) : treesK l rem i s (k + 1) = treesK l rem i s k ++ if canF l i ((k : Int) - 1) = true then treesG l rem (i + 1) (upd s i ((k : Int) - 1)) else [] := by
  unfold treesK
  rw [List.range_succ, List.flatMap_append]
  simp
theorem treesG_len (l : List S24) (rem : Nat) : ∀ (i : Nat) (s : Nat → Int), i + rem ≤ 5 → (treesG l rem i s).length ≤ 6 ^ rem := by
  induction rem with
  | zero => intro i s _; simp [treesG]
  | succ rem ih =>
    intro i s hi
    have h1 : ∀ k, (treesK l rem i s k).length ≤ k * 6 ^ rem := by
      intro k
      induction k with
      | zero => simp [treesK]
      | succ k ihk =>
        rw [treesK_succ, List.length_append, Nat.succ_mul]
        have := ih (i + 1) (upd s i ((k : Int) - 1)) (by omega)
        split
        · omega
        · simp; omega
    have h2 := h1 (i + 1)
    have h3 : (i + 1) * 6 ^ rem ≤ 6 ^ rem * 6 := by rw [Nat.mul_comm]; exact Nat.mul_le_mul_left _ (by omega)
    rw [Nat.pow_succ]
    exact Nat.le_trans h2 h3
def KpT (n0 : Nat) (W W' : World) : Prop := W.heap.size ≤ W'.heap.size ∧ ∀ (k : Nat) (o : Obj), W.heap[k]? = some o → (k < n0 ∨ ∃ c t fr, o = .cells c t fr ∧ (t = 22 ∨ t = 82 ∨ t = 123 ∨ t = 124)) → W'.heap[k]? = some o
def It82 (n0 : Nat) (W W' : World) : Prop := W'.os = W.os ∧ W'.tape = W.tape ∧ W'.output = W.output ∧ W.heap.size ≤ W'.heap.size ∧ ∀ (k : Nat) (o : Obj), W.heap[k]? = some o → (k < n0 ∨ ∀ c fr, o ≠ .cells c 82 fr) → W'.heap[k]? = some o
section
variable {n0 : Nat} {W W' W'' : World}
theorem KpT.refl (n0 : Nat) (W : World) : KpT n0 W W := ⟨Nat.le_refl _, fun _ _ h _ => h⟩
theorem KpT.trans (h : KpT n0 W W') (k : KpT n0 W' W'') : KpT n0 W W'' := ⟨Nat.le_trans h.1 k.1, fun i o h1 h2 => k.2 i o (h.2 i o h1 h2) h2⟩
theorem KpT.of_below (h : KpT n0 W W') (hb : Below W.heap.size W' W'') : KpT n0 W W'' := ⟨Nat.le_trans h.1 hb.size, fun i o h1 h2 => (hb.block i (Array.getElem?_eq_some_iff.1 h1).1).trans (h.2 i o h1 h2)⟩
theorem KpT.alloc (h : KpT n0 W W') (o : Obj) : KpT n0 W (W'.alloc o) := h.of_below ((Below.refl _ _).alloc h.1 o)
theorem KpT.setCell (h : KpT n0 W W') {a : Addr} (ha : W.heap.size ≤ a.block) (v : Value) : KpT n0 W (W'.setCell a v) := h.of_below ((Below.refl _ _).setCell ha v)
theorem KpT.blk (h : KpT n0 W W') {b : Nat} {c : Array Value} {t : TypeId} {fr : Nat × Nat} (hb : W.heap[b]? = some (.cells c t fr)) (ht : t = 22 ∨ t = 82 ∨ t = 123 ∨ t = 124) : W'.heap[b]? = some (.cells c t fr) := h.2 b _ hb (.inr ⟨c, t, fr, rfl, ht⟩)
theorem KpT.low (h : KpT n0 W W') {b : Nat} (hb : b < n0) (hl : b < W.heap.size) : W'.heap[b]? = W.heap[b]? := by
  obtain ⟨o, ho⟩ : ∃ o, W.heap[b]? = some o := ⟨_, Array.getElem?_eq_getElem hl⟩
  rw [ho]
  exact h.2 b o ho (.inl hb)
theorem It82.below (hb : Below W.heap.size W W') : It82 n0 W W' := ⟨hb.os, hb.tape, hb.output, hb.size, fun k o h _ => (hb.block k (Array.getElem?_eq_some_iff.1 h).1).trans h⟩
theorem It82.set {b : Nat} {c : Array Value} {fr : Nat × Nat} (hb : W.heap[b]? = some (.cells c 82 fr)) (hn : n0 ≤ b) (off : Nat) (v : Value) : It82 n0 W (W.setCell ⟨b, off, none⟩ v) :=
  ⟨rfl, rfl, rfl, by show W.heap.size ≤ (W.heap.modify _ _).size; rw [Array.size_modify]; exact Nat.le_refl _, fun k o h h2 => by
    by_cases e : k = b
    · subst e
      rw [hb] at h
      injection h with h
      rcases h2 with h2 | h2
      · omega
      · exact absurd h.symm (h2 c fr)
    · exact (Below.heap_setCell W ⟨b, off, none⟩ v k e).trans h⟩
end
def capT (bl byy bn : Nat) : Array Value := #[.pointer (some ⟨bl, 0, none⟩), .pointer (some ⟨byy, 0, none⟩), .pointer (some ⟨bn, 0, none⟩)]
structure NW (l : List S24) (A : Option Addr) (c lr n0 bl byy bn : Nat) (W : World) : Prop where
  hl : Kd.C k24 W A l.length l
  hlo : ∀ ad, A = some ad → 0 < l.length → ad.block < n0
  hb : W.heap[bl]? = some (.cells #[.slice A l.length c] 22 (0, 0))
  hy : W.heap[byy]? = some (.cells #[.func (.yield lr) #[] #[]] 123 (0, 0))
  hn : W.heap[bn]? = some (.cells #[.func (.func 75) #[] (capT bl byy bn)] 124 (0, 0))
  low : n0 ≤ W.heap.size
theorem NW.keep {l : List S24} {A : Option Addr} {c lr n0 bl byy bn : Nat} {W W' : World} (h : NW l A c lr n0 bl byy bn W) (hk : KpT n0 W W') : NW l A c lr n0 bl byy bn W' :=
  ⟨Kd.C_foot_neS (S := fun b => n0 ≤ b) (fun hx => hx) h.hl (fun ad hA hn => by have := h.hlo ad hA hn; omega) W' ⟨hk.1, fun i hi hne => hk.low (by omega) hi⟩, h.hlo, hk.blk h.hb (.inl rfl), hk.blk h.hy (.inr (.inr (.inl rfl))), hk.blk h.hn (.inr (.inr (.inr rfl))), Nat.le_trans h.low hk.1⟩
def SrcAt (W : World) (b : Nat) (s : Nat → Int) : Prop := W.heap[b]? = some (.cells #[.int .i64 (s 0), .int .i64 (s 1), .int .i64 (s 2), .int .i64 (s 3), .int .i64 (s 4)] 82 (0, 0))
def srcV (s : Nat → Int) : Value := .agg #[.int .i64 (s 0), .int .i64 (s 1), .int .i64 (s 2), .int .i64 (s 3), .int .i64 (s 4)]
theorem SrcAt.cells {W : World} {b : Nat} {g : Nat → Int} (h : SrcAt W b g) : W.cell? ⟨b, 0, none⟩ = some (.int .i64 (g 0)) ∧ W.cell? ⟨b, 1, none⟩ = some (.int .i64 (g 1)) ∧ W.cell? ⟨b, 2, none⟩ = some (.int .i64 (g 2)) ∧ W.cell? ⟨b, 3, none⟩ = some (.int .i64 (g 3)) ∧ W.cell? ⟨b, 4, none⟩ = some (.int .i64 (g 4)) :=
  ⟨(blk_cell h 0).trans rfl, (blk_cell h 1).trans rfl, (blk_cell h 2).trans rfl, (blk_cell h 3).trans rfl, (blk_cell h 4).trans rfl⟩
theorem SrcAt.get {W : World} {b : Nat} {g : Nat → Int} (h : SrcAt W b g) (k : Nat) (hk : k < 5) : W.cell? ⟨b, k, none⟩ = some (.int .i64 (g k)) := by
  rw [blk_cell h]
  rcases k with _ | _ | _ | _ | _ | k
  all_goals first | rfl | omega
theorem SrcAt.set {W : World} {b : Nat} {g : Nat → Int} (h : SrcAt W b g) (k : Nat) (hk : k < 5) (x : Int) : SrcAt (W.setCell ⟨b, k, none⟩ (.int .i64 x)) b (upd g k x) := by
  have h1 := blk_set h k (.int .i64 x)
  unfold SrcAt
  rw [h1]
  rcases k with _ | _ | _ | _ | _ | k
  all_goals first | (simp [upd]; done) | omega
end Go.Proofs.Ytegjollhajgcdaa.P.OwnSt
namespace Go.Proofs.Ytegjollhajgcdaa.P.OwnSt
open Go.RowKit Go.Shelf Go.Proofs.YtegjollhajgcdaaW.PrintWords Go.Proofs.YtegjollhajgcdaaW.PrintLast Go.Proofs.YtegjollhajgcdaaW.PrintMore
set_option linter.unusedVariables false
set_option linter.unusedSimpArgs false
theorem treesK_mono (l : List S24) (rem i : Nat) (s : Nat → Int) (k m : Nat) : (treesK l rem i s k).length ≤ (treesK l rem i s (k + m)).length := by
  induction m with
  | zero => exact Nat.le_refl _
  | succ m ih => rw [← Nat.add_assoc, treesK_succ, List.length_append]; omega
set_option maxHeartbeats 1000000 in
set_option maxRecDepth 100000 in
theorem next75_calls (l : List S24) (A : Option Addr) (c lr n0 bl byy bn N : Nat) (hc : l.length ≤ c) (h5 : l.length ≤ 5) (L : Nat) (hL : ∀ i : Nat, i < l.length → (rd_T24 l (i : Int)).f0.size = L) (hL8 : L ≤ 8)
    (J : List (Nat → Int) → World → Prop) (hJ : ∀ s A B, J s A → It82 n0 A B → J s B)
    (hY : ∀ m pre x W1, J pre W1 → pre.length < N → YieldAt Fence.wide m Try.prog lr #[srcV x] W1 fun e W' => e = .returned (.bool true) ∧ J (pre ++ [x]) W' ∧ KpT n0 W1 W') (rem : Nat) :
    ∀ (i : Nat) (s : Nat → Int) (pre : List (Nat → Int)) (W : World), i + rem = l.length → NW l A c lr n0 bl byy bn W → J pre W → pre.length + (treesG l rem i s).length ≤ N →
    Calls Try.prog 75 #[.int .i64 (i : Int), srcV s, .pointer (some ⟨bl, 0, none⟩), .pointer (some ⟨byy, 0, none⟩), .pointer (some ⟨bn, 0, none⟩)] W fun e W' =>
      e = .returned (.bool true) ∧ J (pre ++ treesG l rem i s) W' ∧ KpT n0 W W' := by
  induction rem with
  | zero =>
    intro i s pre W hi hW hj hN
    have HW := Aside0.mk hW
    have HJ := Aside0.mk hj
    have HYY := Aside0.mk hY
    have HJJ := Aside0.mk hJ
    have hs : SrcAt (W.alloc (.cells #[.int .i64 (s 0), .int .i64 (s 1), .int .i64 (s 2), .int .i64 (s 3), .int .i64 (s 4)] 82)) W.heap.size s := blk_new W _
    have HS := Aside0.mk hs
    have hlb := (blk_cell hW.hb 0).trans (show (#[Value.slice A l.length c] : Array Value)[0]? = some _ from rfl)
    have hlb1 := blk_lt hW.hb
    have hi0 : ((i : Int) == (l.length : Int)) = true := by simp; omega
    clear hs hW hj hY hJ
    go_enter Try.func75, Try.ntmps75
    go_upto_region 2 with fail
    refine wp_gen (fun wx => Aside0 (KpT n0 W wx ∧ J pre wx) ∧ Aside0 (SrcAt wx W.heap.size s)) ?_ ?_
    · exact ⟨⟨(KpT.refl n0 W).alloc _, HJJ.out _ _ _ HJ.out (It82.below ((Below.refl _ _).alloc (Nat.le_refl _) _))⟩, HS⟩
    clear HS HJ hlb hlb1
    rintro wx ⟨HK, HS⟩
    obtain ⟨e0, e1, e2, e3, e4⟩ := HS.out.cells
    have hyy := (blk_cell (HW.out.keep HK.out.1).hy 0).trans (show (#[Value.func (.yield lr) #[] #[]] : Array Value)[0]? = some _ from rfl)
    obtain ⟨fn, tmps, assign, body, hy, hR⟩ := HYY.out 0 pre s wx HK.out.2 (by simp [treesG] at hN; omega)
    refine (wpIn_wide (n := 1)).1 ?_
    simp only [srcV] at hy
    gi_wp2
    refine hR.mono ?_
    rintro e W' ⟨rfl, hj', hk'⟩
    clear hy hR e0 e1 e2 e3 e4 hyy
    have HJ' := Aside0.mk hj'
    have HK' := Aside0.mk hk'
    clear hj' hk'
    dsimp only
    gi_wp2
    go_wp2_with fail
    go_ret
    exact ⟨rfl, HJ'.out, HK.out.1.trans HK'.out⟩
  | succ rem ih =>
    intro i s pre W hi hW hj hN
    have HW := Aside0.mk hW
    have HJ := Aside0.mk hj
    have HJJ := Aside0.mk hJ
    have IH := Aside0.mk ih
    have HL := Aside0.mk hL
    have HN := Aside0.mk hN
    have hs : SrcAt (W.alloc (.cells #[.int .i64 (s 0), .int .i64 (s 1), .int .i64 (s 2), .int .i64 (s 3), .int .i64 (s 4)] 82)) W.heap.size s := blk_new W _
    have HS := Aside0.mk hs
    have hlb := (blk_cell hW.hb 0).trans (show (#[Value.slice A l.length c] : Array Value)[0]? = some _ from rfl)
    have hlb1 := blk_lt hW.hb
    have hi0 : ((i : Int) == (l.length : Int)) = false := by simp; omega
    have hil : i < l.length := by omega
    clear hs hW hj hY hJ ih hL hN
    go_enter Try.func75, Try.ntmps75
    go_upto_region 3 with fail
    refine wp_gen (fun wx => Aside0 (KpT n0 W wx ∧ J pre wx) ∧ Aside0 (SrcAt wx W.heap.size s)) ?_ ?_
    · exact ⟨⟨(KpT.refl n0 W).alloc _, HJJ.out _ _ _ HJ.out (It82.below ((Below.refl _ _).alloc (Nat.le_refl _) _))⟩, HS⟩
    clear HS HJ hlb hlb1
    rintro wx ⟨HK, HS⟩
    go_wp2_with fail
    go_loopg [8] (i + 2) (fun k s8 wr => ∃ j : Nat, j + k = i + 2 ∧ j ≤ i + 1 ∧ s8 = .int .i64 ((j : Int) - 1) ∧ Aside0 (KpT n0 W wr ∧ J (pre ++ treesK l rem i s j) wr) ∧ Aside0 (∃ v, SrcAt wr W.heap.size (upd s i v)))
    case atStart => exact ⟨0, by omega, by omega, rfl, ⟨HK.out.1, by simpa [treesK] using HK.out.2⟩, ⟨s i, by rw [show upd s i (s i) = s from funext fun k => by unfold upd; split <;> simp_all]; exact HS.out⟩⟩
    case round =>
      obtain ⟨j, hjk, hj1, rfl, HK1, HS1⟩ := hrel
      clear HK HS
      have HJK := Aside0.mk hjk
      clear hjk
      obtain ⟨f, hf⟩ : ∃ f : Int, f = (j : Int) - 1 := ⟨_, rfl⟩
      rw [← hf]
      have hf1 : -1 ≤ f := by omega
      have hf2 : f ≤ i := by omega
      have HF := Aside0.mk hf
      clear hf
      by_cases hlt : f < (i : Int)
      · go_upto_region 6 with fail
        have HNW := Aside0.mk (HW.out.keep HK1.out.1)
        obtain ⟨ad, eA, y0, y1, y2⟩ := at_T24 HNW.out.hl (i : Int) (by omega) (by omega)
        subst eA
        have hlb := (blk_cell HNW.out.hb 0).trans (show (#[Value.slice (some ad) l.length c] : Array Value)[0]? = some _ from rfl)
        have hlb1 := blk_lt HNW.out.hb
        have hadl := World.block_lt_of_cell? wr _ y0
        simp only [Int.toNat_natCast] at y0 y1 y2
        have hil' : (i : Int) < (l.length : Int) := by omega
        have hi5 : (i : Int) < 5 := by omega
        go_cut [53] (fun s53 wx => s53 = .bool (!canF l i f) ∧ Aside0 (Below wr.heap.size wr wx))
        case first =>
          by_cases hf0 : f = -1
          · subst hf0
            rcases hsaw : (rd_T24 l (i : Int)).f2 with _ | _
            · rw [hsaw] at y2
              go_quiet (fail)
              go_wp2_with fail
              refine Met.intro ?_
              go_step
              (repeat apply Exists.intro)
              refine ⟨?_, rfl⟩
              exact ⟨by simp [canF, hsaw], ⟨pw_below_drewN (Below.refl _ _) _⟩⟩
            · rw [hsaw] at y2
              go_quiet (fail)
              go_wp2_with fail
              refine Met.intro ?_
              go_step
              (repeat apply Exists.intro)
              refine ⟨?_, rfl⟩
              exact ⟨by simp [canF, hsaw], ⟨pw_below_drewN (Below.refl _ _) _⟩⟩
          · obtain ⟨f', rfl⟩ : ∃ f' : Nat, f = f' := ⟨f.toNat, by omega⟩
            have hf'l : f' < l.length := by omega
            have hff : (((f' : Nat) : Int) == -1) = false := by simp
            have hff1 : (((f' : Nat) : Int) != -1) = true := by simp [bne, hff]
            have hf5 : (f' : Int) < (l.length : Int) := by omega
            have hf0' : (0 : Int) ≤ f' := by omega
            obtain ⟨ad', eA, z0, z1, z2⟩ := at_T24 HNW.out.hl (f' : Int) (by omega) (by omega)
            injection eA with eA
            subst eA
            simp only [Int.toNat_natCast] at z0 z1 z2
            have hap := apart_f (rd_T24 l (f' : Int)).f0 (rd_T24 l (i : Int)).f0 (by rw [HL.out f' hf'l, HL.out i hil]; omega) (by rw [HL.out f' hf'l]; omega)
            have HAP := Aside0.mk hap
            clear hap
            have hcan : canF l i (f' : Int) = decide (apN (rd_T24 l (f' : Int)).f0 (rd_T24 l (i : Int)).f0 (rd_T24 l (f' : Int)).f0.size ≤ (rd_T24 l (i : Int)).f1) := by unfold canF; rw [if_neg (by simp [hff])]
            have HCAN := Aside0.mk hcan
            clear hcan hf0 hf'l hlt
            obtain ⟨ap, hape⟩ : ∃ ap, apN (rd_T24 l (f' : Int)).f0 (rd_T24 l (i : Int)).f0 (rd_T24 l (f' : Int)).f0.size = ap := ⟨_, rfl⟩
            rw [hape] at HAP HCAN
            clear hape
            go_quiet (first | (go_at_call 58; (with_reducible refine (stemma_apart.calls _ _ _ _ _ HAP.out).mono ?_); rintro e w' ⟨rfl, ⟨nd, rfl⟩⟩; exact ⟨rfl, _, World.drewN_drewN _ _ _⟩))
            go_wp2_with fail
            refine Met.intro ?_
            go_step
            (repeat apply Exists.intro)
            refine ⟨?_, rfl⟩
            exact ⟨by rw [HCAN.out]; exact congrArg Value.bool (by rw [Bool.eq_iff_iff]; simp), ⟨pw_below_drewN (Below.refl _ _) _⟩⟩
        case rest =>
          obtain ⟨rfl, HB⟩ := hcut
          clear y0 y1 y2 hlb hlb1 hadl
          have HK2 := Aside0.mk (show KpT n0 W wc ∧ J (pre ++ treesK l rem i s j) wc from ⟨HK1.out.1.of_below (HB.out.mono HK1.out.1.1), HJJ.out _ _ _ HK1.out.2 (It82.below HB.out)⟩)
          have HS2 := Aside0.mk (show ∃ v, SrcAt wc W.heap.size (upd s i v) from HS1.out.imp fun v h => blk_below h HB.out)
          clear HK1 HS1 HNW HB
          clear wr
          rcases hcan : canF l i f with _ | _
          · have HC := Aside0.mk hcan
            clear hcan
            go_wp2_with fail
            go_roundg (gk - 1)
            case measure => have := HJK.out; omega
            case rel =>
              refine ⟨j + 1, by have := HJK.out; omega, by have := HF.out; omega, by rw [HF.out]; go_num, ?_, HS2⟩
              rw [treesK_succ, ← HF.out, HC.out]
              simpa using HK2
          · have HC := Aside0.mk hcan
            clear hcan
            obtain ⟨v, hv⟩ := HS2.out
            have HV := Aside0.mk hv
            have hv0 := hv.get i (by omega)
            have hvf := blk_frozen hv i
            have hvl := blk_lt hv
            clear hv
            go_upto_region 8 with fail
            refine wp_gen (fun wx => Aside0 (KpT n0 W wx ∧ J (pre ++ treesK l rem i s j) wx) ∧ Aside0 (SrcAt wx W.heap.size (upd s i f))) ?_ ?_
            · have hS := HV.out.set i (by omega) f
              rw [upd_upd] at hS
              exact ⟨⟨HK2.out.1.setCell (by simp) _, HJJ.out _ _ _ HK2.out.2 (It82.set HV.out HW.out.low _ _)⟩, ⟨hS⟩⟩
            clear hv0 hvf hvl HV HK2 HS2
            rintro wy ⟨HK3, HS3⟩
            obtain ⟨e0, e1, e2, e3, e4⟩ := HS3.out.cells
            have hnn := (blk_cell (HW.out.keep HK3.out.1).hn 0).trans (show (#[Value.func (.func 75) #[] (capT bl byy bn)] : Array Value)[0]? = some _ from rfl)
            simp only [capT] at hnn
            have hc1 := IH.out (i + 1) (upd s i f) (pre ++ treesK l rem i s j) wy (by omega) (HW.out.keep HK3.out.1) HK3.out.2 (by
              have h1 := HN.out
              have h2 : (treesK l rem i s (j + 1)).length ≤ (treesG l (rem + 1) i s).length := by
                obtain ⟨m, hm⟩ : ∃ m, i + 1 = j + 1 + m := ⟨i - j, by have := HF.out; omega⟩
                show _ ≤ (treesK l rem i s (i + 1)).length
                rw [hm]
                exact treesK_mono l rem i s (j + 1) m
              rw [treesK_succ, ← HF.out, HC.out, if_pos rfl, List.length_append] at h2
              rw [List.length_append]
              omega)
            rw [show ((i + 1 : Nat) : Int) = (i : Int) + 1 by omega] at hc1
            simp only [srcV] at hc1
            have HC1 := Aside0.mk hc1
            clear hc1
            go_wp2_with first | (go_at_call 75; refine HC1.out.mono ?_; rintro e w2 ⟨rfl, hj2, hk2⟩) | fail
            go_roundg (gk - 1)
            case measure => have := HJK.out; omega
            case rel =>
              refine ⟨j + 1, by have := HJK.out; omega, by have := HF.out; omega, by rw [HF.out]; go_num, ⟨HK3.out.1.trans hk2, ?_⟩, ⟨f, hk2.blk HS3.out (.inr (.inl rfl))⟩⟩
              rw [treesK_succ, ← HF.out, HC.out, if_pos rfl, ← List.append_assoc]
              exact hj2
      · obtain rfl : j = i + 1 := by have := HF.out; omega
        go_wp2_with fail
        go_ret
        exact ⟨rfl, HK1.out.2, HK1.out.1⟩
end Go.Proofs.Ytegjollhajgcdaa.P.OwnSt
namespace Go.Proofs.Ytegjollhajgcdaa.P.OwnSt
open Go.RowKit Go.Shelf Go.Proofs.YtegjollhajgcdaaW.PrintWords Go.Proofs.YtegjollhajgcdaaW.PrintLast Go.Proofs.YtegjollhajgcdaaW.PrintMore
set_option linter.unusedVariables false
set_option linter.unusedSimpArgs false
theorem yieldAny {m : Nat} (m' : Nat) {P : Program} {l : Nat} {args : Array Value} {W : World} {R : Ending → World → Prop} (h : YieldAt Fence.wide m P l args W R) : YieldAt Fence.wide m' P l args W R := by
  obtain ⟨fn, tmps, assign, body, hy, hR⟩ := h
  exact ⟨fn, tmps, assign, body, hy, hR.1, fun c cs _ => hR.2 c cs (room_wide _)⟩
set_option maxHeartbeats 1000000 in
set_option maxRecDepth 100000 in
theorem seq74_calls (l : List S24) (A : Option Addr) (c lr n0 bl N : Nat) (hc : l.length ≤ c) (h5 : l.length ≤ 5) (L : Nat) (hL : ∀ i : Nat, i < l.length → (rd_T24 l (i : Int)).f0.size = L) (hL8 : L ≤ 8)
    (J : List (Nat → Int) → World → Prop) (hJ : ∀ s A B, J s A → It82 n0 A B → J s B)
    (hY : ∀ m pre x W1, J pre W1 → pre.length < N → YieldAt Fence.wide m Try.prog lr #[srcV x] W1 fun e W' => e = .returned (.bool true) ∧ J (pre ++ [x]) W' ∧ KpT n0 W1 W')
    (W : World) (hl : Kd.C k24 W A l.length l) (hlo : ∀ ad, A = some ad → 0 < l.length → ad.block < n0) (hb : W.heap[bl]? = some (.cells #[.slice A l.length c] 22 (0, 0))) (hn : n0 ≤ W.heap.size) (h0 : J [] W) (hN : (treesG l l.length 0 (fun _ => 0)).length ≤ N) :
    Calls Try.prog 74 #[.func (.yield lr) #[] #[], .pointer (some ⟨bl, 0, none⟩)] W fun e W' =>
      (∃ v, e = .returned v) ∧ J (treesG l l.length 0 (fun _ => 0)) W' := by
  have HL := Aside0.mk hl
  have HLO := Aside0.mk hlo
  have HB := Aside0.mk hb
  have HJJ := Aside0.mk hJ
  have HY := Aside0.mk hY
  have HLL := Aside0.mk hL
  have H0 := Aside0.mk h0
  have HN := Aside0.mk hN
  clear hl hlo hb hJ hY hL h0 hN
  go_enter Try.func74, Try.ntmps74
  go_upto_region 2 with fail
  refine wp_gen (fun wx => Aside0 (wx.heap[W.heap.size]? = some (.cells #[.func (.yield lr) #[] #[]] 123 (0, 0)) ∧ wx.heap[W.heap.size + 1]? = some (.cells #[.nilFunc] 124 (0, 0)) ∧ Below W.heap.size W wx) ∧ Aside0 (wx.heap.size = W.heap.size + 2)) ?_ ?_
  · have b2 := blk_new (W.alloc (.cells #[.func (.yield lr) #[] #[]] 123)) (.cells #[.nilFunc] 124)
    rw [World.size_alloc] at b2
    exact ⟨⟨blk_alloc (blk_new W _) _, b2, ((Below.refl _ _).alloc (Nat.le_refl _) _).alloc (by simp) _⟩, ⟨by simp⟩⟩
  rintro w1 ⟨H1, HS1⟩
  have hcf := (blk_cell H1.out.2.1 0).trans (show (#[Value.nilFunc] : Array Value)[0]? = some _ from rfl)
  have hff := blk_frozen H1.out.2.1 0
  have hll := blk_lt H1.out.2.1
  go_upto_region 3 with fail
  refine wp_gen (fun wx => Aside0 (NW l A c lr n0 bl W.heap.size (W.heap.size + 1) wx ∧ J [] wx)) ?_ ?_
  · obtain ⟨a1, a2, a3⟩ := H1.out
    have hB := a3.setCell (p := ⟨W.heap.size + 1, 0, none⟩) (by simp) (.func (.func 75) #[] (capT bl W.heap.size (W.heap.size + 1)))
    have h2 := blk_set a2 0 (.func (.func 75) #[] (capT bl W.heap.size (W.heap.size + 1)))
    refine ⟨⟨Kd.C_below HL.out hB, HLO.out, blk_below HB.out hB, (Below.heap_setCell w1 ⟨W.heap.size + 1, 0, none⟩ _ _ (by simp)).trans a1, h2.trans (by simp), Nat.le_trans hn hB.size⟩, HJJ.out _ _ _ H0.out (It82.below hB)⟩
  clear hcf hff hll HS1 H1 w1
  rintro w1 ⟨HW, hj⟩
  have HJ := Aside0.mk hj
  have hnn := (blk_cell HW.hn 0).trans (show (#[Value.func (.func 75) #[] (capT bl W.heap.size (W.heap.size + 1))] : Array Value)[0]? = some _ from rfl)
  simp only [capT] at hnn
  have hc1 := next75_calls l A c lr n0 bl W.heap.size (W.heap.size + 1) N hc h5 L HLL.out hL8 J HJJ.out HY.out l.length 0 (fun _ => 0) [] w1 (by omega) HW HJ.out (by simpa using HN.out)
  simp only [srcV] at hc1
  have HC1 := Aside0.mk hc1
  clear hc1 hj HW
  go_wp2_with first | (go_at_call 75; refine HC1.out.mono ?_; rintro e w2 ⟨rfl, hj2, hk2⟩) | fail
  go_end0
  exact ⟨⟨_, rfl⟩, by simpa using hj2⟩
set_option maxHeartbeats 1000000 in
theorem trad_calls (A : Option Addr) (n c : Nat) (w : World) : Calls Try.prog 65 #[.slice A n c] w fun e w' =>
    e = .returned (.func (.func 74) #[] #[.pointer (some ⟨w.heap.size, 0, none⟩)]) ∧ w' = w.alloc (.cells #[.slice A n c] 22) := by
  go_enter Try.func65, Try.ntmps65
  go_wp2_with fail
  go_ret
  exact ⟨rfl, rfl⟩
theorem trad_seq (l : List S24) (A : Option Addr) (c n0 bl n : Nat) (hc : l.length ≤ c) (h5 : l.length ≤ 5) (L : Nat) (hL : ∀ i : Nat, i < l.length → (rd_T24 l (i : Int)).f0.size = L) (hL8 : L ≤ 8)
    (w : World) (hl : Kd.C k24 w A l.length l) (hlo : ∀ ad, A = some ad → 0 < l.length → ad.block < n0) (hb : w.heap[bl]? = some (.cells #[.slice A l.length c] 22 (0, 0))) (hn : n0 ≤ w.heap.size) :
    SeqT Fence.wide n Try.prog 74 #[.pointer (some ⟨bl, 0, none⟩)] (fun x => #[srcV x]) (KpT n0) (It82 n0) (fun xs => xs = treesG l l.length 0 (fun _ => 0)) (treesG l l.length 0 (fun _ => 0)).length w := by
  intro lr J W hW hJ hY h0
  refine callsIn_wide.2 ?_
  refine (seq74_calls l A c lr n0 bl _ hc h5 L hL hL8 J hJ (fun m pre x W1 hj hlen => yieldAny m (hY pre x W1 hj hlen)) W (Kd.C_below hl hW) hlo (blk_below hb hW) (Nat.le_trans hn hW.size) h0 (Nat.le_refl _)).mono ?_
  rintro e W' ⟨hv, hj⟩
  exact ⟨hv, _, rfl, hj⟩
end Go.Proofs.Ytegjollhajgcdaa.P.OwnSt
namespace Go.Proofs.Ytegjollhajgcdaa.P.OwnSt
open Go.RowKit Go.Proofs.YtegjollhajgcdaaW.PrintWords Go.Proofs.YtegjollhajgcdaaW.PrintLast Go.Proofs.YtegjollhajgcdaaW.PrintMore
set_option linter.unusedVariables false
set_option linter.unusedSimpArgs false
theorem filter_congr_range {n : Nat} {p q : Nat → Bool} (h : ∀ i, i < n → p i = q i) : (List.range n).filter p = (List.range n).filter q := List.filter_congr fun i hi => h i (List.mem_range.1 hi)
theorem nextS_made (l : List S24) (fs fs' : Nat → Int) (place letter : Int) (h : ∀ i, i < l.length → (fs i == -1) = (fs' i == -1)) (rem : Nat) : ∀ (p : Int) (g : Nat → Int), nextS l fs place letter rem p g = nextS l fs' place letter rem p g := by
  have hh : ∀ p c i, i < l.length → hit l fs p c i = hit l fs' p c i := fun p c i hi => by unfold hit; rw [h i hi]
  have ha : ∀ p c, atB l fs p c = atB l fs' p c := fun p c => by
    unfold atB
    rw [Bool.eq_iff_iff, List.any_eq_true, List.any_eq_true]
    constructor
    · rintro ⟨i, hi, h1⟩
      exact ⟨i, hi, by unfold atOne at *; rw [← h i (List.mem_range.1 hi)]; exact h1⟩
    · rintro ⟨i, hi, h1⟩
      exact ⟨i, hi, by unfold atOne at *; rw [h i (List.mem_range.1 hi)]; exact h1⟩
  have he : ∀ p c, errsTo l fs p c l.length = errsTo l fs' p c l.length := fun p c => by unfold errsTo; rw [filter_congr_range (hh p c)]
  have hf : ∀ g p c, fitsTo l fs g p c l.length = fitsTo l fs' g p c l.length := fun g p c => by
    unfold fitsTo
    rw [Bool.eq_iff_iff, List.all_eq_true, List.all_eq_true]
    constructor <;> intro h2 i hi <;> have h3 := h2 i hi
    · rw [← hh p c i (List.mem_range.1 hi)]; exact h3
    · rw [hh p c i (List.mem_range.1 hi)]; exact h3
  have hl : ∀ g p c, leftTo l fs g p c l.length = leftTo l fs' g p c l.length := fun g p c => by
    funext i
    unfold leftTo
    by_cases hi : i < l.length
    · rw [hh p c i hi]
    · simp [hi]
  induction rem with
  | zero => intro p g; rfl
  | succ rem ih =>
    intro p g
    have hs : stepC l fs place letter (nextS l fs place letter rem (p + 1)) p g = stepC l fs' place letter (nextS l fs' place letter rem (p + 1)) p g := by
      funext st c
      unfold stepC skipC
      rw [ha, he, hf, hl, ih]
    rw [nextS, nextS, hs]
theorem leastV_made (l : List S24) (fs fs' : Nat → Int) (place letter : Int) (h : madeB l.length fs = madeB l.length fs') : leastV l fs place letter = leastV l fs' place letter :=
  nextS_made l fs fs' place letter (fun i hi => by have := congrFun h i; simpa [madeB, hi] using this) _ _ _
def liesB (l : List S24) (s : Nat → Int) : Bool := decide (leastV l s (-1) 0 < 1048576)
def knownV (l : List S24) : List (Nat → Int) := (treesG l l.length 0 (fun _ => 0)).filter (liesB l)
def lostC (A : Option Addr) (n c : Nat) (s : Nat → Int) : List Value := [.slice A n c, .int .i64 (s 0), .int .i64 (s 1), .int .i64 (s 2), .int .i64 (s 3), .int .i64 (s 4)]
def lostRow (A : Option Addr) (n c : Nat) (ss : List (Nat → Int)) : List Value := ss.flatMap (lostC A n c)
theorem lostRow_snoc (A : Option Addr) (n c : Nat) (ss : List (Nat → Int)) (s : Nat → Int) : lostRow A n c (ss ++ [s]) = lostRow A n c ss ++ lostC A n c s := by simp [lostRow]
def MayR (l : List S24) (key val : Value) : Prop := ∃ s : Nat → Int, key = madeV (madeB l.length s) ∧ val = .bool (liesB l s)
theorem madeB_of_key (l : List S24) (h5 : l.length ≤ 5) (s s' : Nat → Int) (h : madeV (madeB l.length s) = madeV (madeB l.length s')) : madeB l.length s = madeB l.length s' := by
  simp only [madeV, Value.agg.injEq, Array.mk.injEq, List.cons.injEq, Value.bool.injEq, and_true] at h
  obtain ⟨h0, h1, h2, h3, h4⟩ := h
  funext i
  by_cases hi : i < l.length
  · rcases (by omega : i = 0 ∨ i = 1 ∨ i = 2 ∨ i = 3 ∨ i = 4) with rfl | rfl | rfl | rfl | rfl <;> assumption
  · simp [madeB, hi]
theorem MayR.at_key {l : List S24} (h5 : l.length ≤ 5) {s : Nat → Int} {val : Value} (h : MayR l (madeV (madeB l.length s)) val) : val = .bool (liesB l s) := by
  obtain ⟨s', h1, rfl⟩ := h
  unfold liesB
  rw [leastV_made l s s' (-1) 0 (madeB_of_key l h5 s s' h1)]
theorem KpT.book {n0 : Nat} {w : World} (hn : n0 ≤ w.heap.size) (W : World) (k : Nat) (o o' : Obj) (hk : w.heap.size ≤ k) (h : W.heap[k]? = some o) (hc : o.isCells = false) (_ : o.isWalk = false) : KpT n0 W (W.putObj k o') :=
  ⟨by simp [World.putObj], fun i u hu h2 => by
    by_cases e : i = k
    · subst e
      rw [h] at hu
      injection hu with hu
      subst hu
      rcases h2 with h2 | ⟨c, t, fr, rfl, _⟩
      · omega
      · simp [Obj.isCells] at hc
    · exact (World.putObj_heap_other e).trans hu⟩
theorem It82.others {n0 : Nat} (A B : World) (k : Nat) (o : Obj) (h : It82 n0 A B) (hk : A.heap[k]? = some o) (hc : o.isCells = false) : B.heap[k]? = some o :=
  h.2.2.2.2 k o hk (.inr fun c fr e => by subst e; simp [Obj.isCells] at hc)
theorem It82.blk {n0 : Nat} {A B : World} (h : It82 n0 A B) {b : Nat} {cs : Array Value} {t : TypeId} {fr : Nat × Nat} (hb : A.heap[b]? = some (.cells cs t fr)) (ht : t ≠ 82) : B.heap[b]? = some (.cells cs t fr) :=
  h.2.2.2.2 b _ hb (.inr fun c fr' e => by injection e with e1 e2 e3; exact ht e2)
theorem It82.low {n0 : Nat} {A B w : World} (h : It82 n0 A B) (hn : w.heap.size ≤ n0) (hb : Below w.heap.size w A) : Below w.heap.size w B :=
  ⟨h.1.trans hb.os, h.2.1.trans hb.tape, h.2.2.1.trans hb.output, Nat.le_trans hb.size h.2.2.2.1, fun k hk => by
    have h1 := hb.block k hk
    obtain ⟨o, ho⟩ : ∃ o, w.heap[k]? = some o := ⟨_, Array.getElem?_eq_getElem hk⟩
    rw [ho] at h1 ⊢
    exact h.2.2.2.2 k o h1 (.inl (by omega))⟩
theorem It82.own {n0 : Nat} {A B : World} (h : It82 n0 A B) {base e size n : Nat} {v : Value} {xs : List Value} (ho : A.ownsRow base e size v n xs) (he : e ≠ 82) : B.ownsRow base e size v n xs := by
  refine own_move ho fun k hk => ?_
  obtain ⟨cells, hc⟩ := own_typed ho k hk
  rw [hc]
  exact h.blk hc he
theorem It82.memo {n0 : Nat} {A B : World} (h : It82 n0 A B) {K : TypeId} {Φ : Value → Value → Prop} {mb : Nat} (hm : MemoAt Try.prog K Φ A mb) : MemoAt Try.prog K Φ B mb := by
  obtain ⟨es, ck, h1, h2⟩ := hm
  exact ⟨es, ck, It82.others A B mb _ h h1 rfl, h2⟩
structure KI (l : List S24) (A : Option Addr) (c : Nat) (w : World) (bo bm mb : Nat) (pre : List (Nat → Int)) (W : World) : Prop where
  h22 : W.heap[w.heap.size]? = some (.cells #[.slice A l.length c] 22 (0, 0))
  out : ∃ v, W.heap[bo]? = some (.cells #[v] 75 (0, 0)) ∧ W.ownsRow w.heap.size 84 6 v (pre.filter (liesB l)).length (lostRow A l.length c (pre.filter (liesB l)))
  may : W.heap[bm]? = some (.cells #[.map (some mb)] 80 (0, 0))
  memo : MemoAt Try.prog 85 (MayR l) W mb
  below : Below w.heap.size w W
theorem KI.it {l : List S24} {A : Option Addr} {c : Nat} {w : World} {bo bm mb : Nat} {pre : List (Nat → Int)} {W W' : World} (h : KI l A c w bo bm mb pre W) (hi : It82 w.heap.size W W') : KI l A c w bo bm mb pre W' := by
  obtain ⟨h1, ⟨v, h2, h3⟩, h4, h5, h6⟩ := h
  exact ⟨hi.blk h1 (by decide), ⟨v, hi.blk h2 (by decide), hi.own h3 (by decide)⟩, hi.blk h4 (by decide), hi.memo h5, hi.low (Nat.le_refl _) h6⟩
theorem KI.ownFrom {l : List S24} {A : Option Addr} {c : Nat} {w : World} {bo bm mb B : Nat} (hB : mb < B) (hw : w.heap.size ≤ B) : OwnFrom B (KI l A c w bo bm mb) := by
  intro pre W W' row h hg hr
  obtain ⟨h1, ⟨v, h2, h3⟩, h4, h5, h6⟩ := h
  have hk : ∀ {b : Nat} {cs : Array Value} {t : TypeId} {fr : Nat × Nat}, W.heap[b]? = some (.cells cs t fr) → W'.heap[b]? = some (.cells cs t fr) := fun {b} {cs} {t} {fr} hb =>
    (hg.block b (blk_lt hb) (fun e => by
      obtain ⟨_, o, ho, hc⟩ := hr b e.symm
      rw [hb] at ho
      injection ho with ho
      subst ho
      simp [Obj.isCells] at hc)).trans hb
  refine ⟨hk h1, ⟨v, hk h2, own_move h3 fun k hkk => ?_⟩, hk h4, ?_, h6.grown hg h6.size (fun k e => by have := (hr k e).1; omega)⟩
  · obtain ⟨cells, hc⟩ := own_typed h3 k hkk
    rw [hc]
    exact hk hc
  · obtain ⟨es, ck, m1, m2⟩ := h5
    exact ⟨es, ck, (hg.block mb (Array.getElem?_eq_some_iff.1 m1).1 (fun e => by have := (hr mb e.symm).1; omega)).trans m1, m2⟩
end Go.Proofs.Ytegjollhajgcdaa.P.OwnSt
