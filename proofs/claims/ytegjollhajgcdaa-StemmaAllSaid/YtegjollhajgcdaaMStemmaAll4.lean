/- Lemmas for the statement StemmaAll of the given program, for every input that its row lets in. Conditions: none beyond those that each lemma tells. -/
import Derived.Lib.Hide
import Derived.Deep.AppendLies
import Derived.WalkKit
import Derived.Deep.RegionHeld3
import Derived.Deep.RegionWith
import Derived.Deep.RegionLaw
import Derived.StillTailTactics
import Derived.Deep.DeepCutAuto
import Derived.WalkSpells
import Derived.Test.YtegjollhajgcdaaMStemmaAll3
set_option linter.unusedVariables false
set_option linter.unusedSimpArgs false
namespace Go.Proofs.Ytegjollhajgcdaa.P
open Go.RowKit Go.Proofs.YtegjollhajgcdaaW.PrintWords Go.Proofs.YtegjollhajgcdaaW.PrintLast Go.Proofs.YtegjollhajgcdaaW.PrintMore
attribute [local go_sem] max2_int min2_int max_two min_two max_three min_three max_four min_four   -- for this text's walks alone
set_option linter.unusedVariables false
set_option linter.unusedSimpArgs false
def cippuslaw07_errors.l0 : Nat → List (S24) → Int → Int → ByteArray → List Int → Option (Int)
  | 0, _, _, _, _, _ => none
  | k + 1, x0, x5, x6, x378000, x378001 => if x6 < (x0.length : Int) then (if 0 ≤ x6 then (if x6 < (x378001.length : Int) then (if (rd x378001 x6) ≥ 0 then (if 0 ≤ (rd x378001 x6) then (if (rd x378001 x6) < (x0.length : Int) then ((cippusref07_Apart.f k ((rd_T24 x0 (rd x378001 x6)).f0) ((rd_T24 x0 x6).f0)).bind fun t382 => (cippuslaw07_errors.l0 k x0 (wrap64 (x5 + t382)) (wrap64 (x6 + 1)) x378000 x378001)) else (none)) else (none)) else ((cippusref07_Apart.f k x378000 ((rd_T24 x0 x6).f0)).bind fun t384 => (cippuslaw07_errors.l0 k x0 (wrap64 (x5 + t384)) (wrap64 (x6 + 1)) x378000 x378001))) else (none)) else (none)) else (some x5)
def cippuslaw07_errors.f (k : Nat) (l0 : List (S24)) (a1_0 : ByteArray) (l1_1 : List Int) : Option (Int) := cippuslaw07_errors.l0 k l0 0 0 a1_0 l1_1
set_option maxHeartbeats 8000000 in
set_option maxRecDepth 100000 in
theorem cippuslaw07_errors.calls (k : Nat) (A0 : Option Addr) (c0 : Nat) (l0 : List (S24)) (a1_0 : ByteArray) (A1_1 : Option Addr) (c1_1 : Nat) (l1_1 : List Int) (r : Int) (w : World) (hr0 : Kd.C k24 w A0 l0.length l0) (hc0 : l0.length ≤ c0) (hr1_1 : Kd.C (Kd.int .i64) w A1_1 l1_1.length l1_1) (hc1_1 : l1_1.length ≤ c1_1) (h : cippuslaw07_errors.f k l0 a1_0 l1_1 = some r) :
    Calls Try.prog 31 #[.slice A0 l0.length c0, .agg #[.string a1_0, .slice A1_1 l1_1.length c1_1]] w fun e w' => e = .returned (.int .i64 r) ∧ Below w.heap.size w w' := by
  have hu27 := Try.underlying27
  have HR0 := Aside0.mk hr0
  have HC0 := Aside0.mk hc0
  clear hr0 hc0
  have HR1_1 := Aside0.mk hr1_1
  have HC1_1 := Aside0.mk hc1_1
  clear hr1_1 hc1_1
  have HB := Aside0.mk (Below.refl w.heap.size w)
  have H : (cippuslaw07_errors.l0 k l0 0 0 a1_0 l1_1) = some r := h
  clear h
  have H' := Aside0.mk H
  clear H
  go_enter Try.func31, Try.ntmps31
  go_wp2_with (first | ((with_reducible refine gate_dst (N := 3) rfl ?_); refine box_event ?hg (N := 3) ?hd (cs := #[.string a1_0, .slice A1_1 l1_1.length c1_1]) (t := 27) ?hr ?_; (case hd => rfl); (case hg => rfl); (case hr => first | (go_simp; done) | (go_simp; rfl)); intro gb377 hg w3 hbox hb; have n0_ := Aside0.mk (below_step (by repeat (first | (with_reducible first | exact HB.out | apply below_alloc | apply pw_below_drewN | apply below_drew1) | exact HB.out)) hb); have n1_ := Aside0.mk (hbox); have n2_ := Aside0.mk ((by rw [hg]; exact (below_size (by repeat (first | (with_reducible first | exact HB.out | apply below_alloc | apply pw_below_drewN | apply below_drew1) | exact HB.out))) : w.heap.size ≤ gb377)); have n3_ := Aside0.mk ((by rw [hg]; exact (below_size (by repeat (first | (with_reducible first | exact HB.out | apply below_alloc | apply pw_below_drewN | apply below_drew1) | exact HB.out))) : w.heap.size ≤ gb377)); clear HB; have HB := n0_; have BK377 := n1_; have GW377 := n2_; have GE377 := n3_; clear n0_ n1_ n2_ n3_; clear hb hbox hg))
  go_loopg [5, 6] k (fun kq v5 v6 w' => ∃ (x5_1 : Int) (x6_1 : Int), v5 = .int .i64 x5_1 ∧ v6 = .int .i64 x6_1 ∧ Aside0 (cippuslaw07_errors.l0 kq l0 x5_1 x6_1 a1_0 l1_1 = some r) ∧ Aside0 (kq ≤ k) ∧ Aside0 (w'.heap[gb377]? = some (.cells #[.string a1_0, (.slice A1_1 l1_1.length c1_1)] 27 (0, 0))) ∧ Aside0 (Below w.heap.size w w'))
  case atStart => exact ⟨(0), (0), (by first | rfl | (simp; done) | (simp [*]; done)), (by first | rfl | (simp; done) | (simp [*]; done)), H', ⟨Nat.le_refl _⟩, ⟨by (with_reducible repeat (first | refine blk_drewN ?_ _ | refine blk_drew ?_ | refine blk_alloc ?_ _)); exact BK377.out⟩, ⟨by repeat (first | (with_reducible first | exact HB.out | apply below_alloc | apply pw_below_drewN | apply below_drew1 | refine below_set ?_ GE377.out) | exact HB.out)⟩⟩
  case round =>
    clear H'
    try clear c1
    try clear p2
    try clear c3
    obtain ⟨x5_1, x6_1, rfl, rfl, HA, HK1, BK377, HB⟩ := hrel
    cases gk with
    | zero => exact absurd HA.out (by simp [cippuslaw07_errors.l0])
    | succ k1 =>
      have H := HA.out
      clear HA
      simp only [cippuslaw07_errors.l0] at H
      by_cases c4 : x6_1 < (l0.length : Int)
      · rw [if_pos c4] at H
        have c4b0 : decide (x6_1 < (l0.length : Int)) = true := decide_eq_true c4
        clear c4
        by_cases c5 : 0 ≤ x6_1
        · rw [if_pos c5] at H
          have c5b0 : decide (0 ≤ x6_1) = true := decide_eq_true c5
          clear c5
          by_cases c6 : x6_1 < (l1_1.length : Int)
          · rw [if_pos c6] at H
            have c6b0 : decide (x6_1 < (l1_1.length : Int)) = true := decide_eq_true c6
            clear c6
            by_cases c7 : (rd l1_1 x6_1) ≥ 0
            · rw [if_pos c7] at H
              have c7b0 : decide (0 ≤ (rd l1_1 x6_1)) = true := decide_eq_true c7
              clear c7
              by_cases c8 : 0 ≤ (rd l1_1 x6_1)
              · rw [if_pos c8] at H
                have c8b0 : decide (0 ≤ (rd l1_1 x6_1)) = true := decide_eq_true c8
                clear c8
                by_cases c9 : (rd l1_1 x6_1) < (l0.length : Int)
                · rw [if_pos c9] at H
                  have c9b0 : decide ((rd l1_1 x6_1) < (l0.length : Int)) = true := decide_eq_true c9
                  clear c9
                  replace H := Option.bind_eq_some_iff.mp H
                  obtain ⟨t382, A100, H⟩ := H
                  replace H : (cippuslaw07_errors.l0 k1 l0 (wrap64 (x5_1 + t382)) (wrap64 (x6_1 + 1)) a1_0 l1_1) = some r := H
                  have A10 := Aside0.mk A100
                  clear A100
                  have H' := Aside0.mk H
                  clear H
                  have hcz11_0 : wr.cell? ⟨gb377, 0, none⟩ = some (.string a1_0) := (blk_cell BK377.out 0).trans rfl
                  have hcz11_1 : wr.cell? ⟨gb377, 1, none⟩ = some (.slice A1_1 l1_1.length c1_1) := (blk_cell BK377.out 1).trans rfl
                  have hfz11_0 := blk_frozen BK377.out 0
                  have hfz11_1 := blk_frozen BK377.out 1
                  have p378 : 0 ≤ (x6_1 : Int) := of_decide_eq_true (by first | (with_reducible assumption) | assumption)
                  have q378 : x6_1 < (l1_1.length : Int) := of_decide_eq_true (by first | (with_reducible assumption) | assumption)
                  obtain ⟨ad378, e378, hx378_0⟩ := Kd.at_int HR1_1.out x6_1 p378 q378
                  cases e378
                  try replace hx378_0 := (HB.out.cell (World.block_lt_of_cell? w _ hx378_0)).trans hx378_0
                  replace p378 := eq_true p378
                  replace q378 := eq_true q378
                  have p379 : 0 ≤ (x6_1 : Int) := of_decide_eq_true (by first | (with_reducible assumption) | assumption)
                  have q379 : x6_1 < (l1_1.length : Int) := of_decide_eq_true (by first | (with_reducible assumption) | assumption)
                  obtain ⟨ad379, e379, hx379_0⟩ := Kd.at_int HR1_1.out x6_1 p379 q379
                  obtain rfl : ad378 = ad379 := (by injection e379)
                  try replace hx379_0 := (HB.out.cell (World.block_lt_of_cell? w _ hx379_0)).trans hx379_0
                  replace p379 := eq_true p379
                  replace q379 := eq_true q379
                  have p380 : 0 ≤ ((rd l1_1 x6_1) : Int) := of_decide_eq_true (by first | (with_reducible assumption) | assumption)
                  have q380 : (rd l1_1 x6_1) < (l0.length : Int) := of_decide_eq_true (by first | (with_reducible assumption) | assumption)
                  obtain ⟨ad380, e380, hx380_0, hx380_1, hx380_2⟩ := at_T24 HR0.out (rd l1_1 x6_1) p380 q380
                  cases e380
                  try replace hx380_0 := (HB.out.cell (World.block_lt_of_cell? w _ hx380_0)).trans hx380_0
                  try replace hx380_1 := (HB.out.cell (World.block_lt_of_cell? w _ hx380_1)).trans hx380_1
                  try replace hx380_2 := (HB.out.cell (World.block_lt_of_cell? w _ hx380_2)).trans hx380_2
                  replace p380 := eq_true p380
                  replace q380 := eq_true q380
                  have p381 : 0 ≤ (x6_1 : Int) := of_decide_eq_true (by first | (with_reducible assumption) | assumption)
                  have q381 : x6_1 < (l0.length : Int) := of_decide_eq_true (by first | (with_reducible assumption) | assumption)
                  obtain ⟨ad381, e381, hx381_0, hx381_1, hx381_2⟩ := at_T24 HR0.out x6_1 p381 q381
                  obtain rfl : ad380 = ad381 := (by injection e381)
                  try replace hx381_0 := (HB.out.cell (World.block_lt_of_cell? w _ hx381_0)).trans hx381_0
                  try replace hx381_1 := (HB.out.cell (World.block_lt_of_cell? w _ hx381_1)).trans hx381_1
                  try replace hx381_2 := (HB.out.cell (World.block_lt_of_cell? w _ hx381_2)).trans hx381_2
                  replace p381 := eq_true p381
                  replace q381 := eq_true q381
                  go_wp2_with (first | ((with_reducible refine gate_callee (f := 43) rfl ?_); refine goesL_ (some 38) rfl rfl Try.func43 (by kernel_rfl) rfl #[.string ((rd_T24 l0 (rd l1_1 x6_1)).f0), .string ((rd_T24 l0 x6_1).f0)] rfl (by (try simp only [List.map_toArray, List.map_cons, List.map_nil]); first | done | rfl | (simp only [List.length_drop, List.length_take]; rfl)) ?_; (with_reducible refine (cippusref07_Apart.calls k1 ((rd_T24 l0 (rd l1_1 x6_1)).f0) ((rd_T24 l0 x6_1).f0) t382 _ A10.out).mono ?_); rintro e w' ⟨rfl, ⟨nd, rfl⟩⟩; refine ⟨_, rfl, ?_⟩))
                  go_roundg k1
                  case measure => have := HK1.out; omega
                  case rel => exact ⟨(wrap64 (x5_1 + t382)), (wrap64 (x6_1 + 1)), (by first | rfl | (simp; done) | (simp [*]; done)), (by first | rfl | (simp; done) | (simp [*]; done)), H', ⟨by have := HK1.out; omega⟩, ⟨by (with_reducible repeat (first | refine blk_drewN ?_ _ | refine blk_drew ?_ | refine blk_alloc ?_ _)); exact BK377.out⟩, ⟨by repeat (first | (with_reducible first | exact HB.out | apply below_alloc | apply pw_below_drewN | apply below_drew1 | refine below_set ?_ GE377.out) | exact HB.out)⟩⟩
                · rw [if_neg c9] at H
                  exact absurd H (by simp)
              · rw [if_neg c8] at H
                exact absurd H (by simp)
            · rw [if_neg c7] at H
              have c7b0 : decide (0 ≤ (rd l1_1 x6_1)) = false := decide_eq_false c7
              clear c7
              replace H := Option.bind_eq_some_iff.mp H
              obtain ⟨t384, A120, H⟩ := H
              replace H : (cippuslaw07_errors.l0 k1 l0 (wrap64 (x5_1 + t384)) (wrap64 (x6_1 + 1)) a1_0 l1_1) = some r := H
              have A12 := Aside0.mk A120
              clear A120
              have H' := Aside0.mk H
              clear H
              have hcz13_0 : wr.cell? ⟨gb377, 0, none⟩ = some (.string a1_0) := (blk_cell BK377.out 0).trans rfl
              have hcz13_1 : wr.cell? ⟨gb377, 1, none⟩ = some (.slice A1_1 l1_1.length c1_1) := (blk_cell BK377.out 1).trans rfl
              have hfz13_0 := blk_frozen BK377.out 0
              have hfz13_1 := blk_frozen BK377.out 1
              have p378 : 0 ≤ (x6_1 : Int) := of_decide_eq_true (by first | (with_reducible assumption) | assumption)
              have q378 : x6_1 < (l1_1.length : Int) := of_decide_eq_true (by first | (with_reducible assumption) | assumption)
              obtain ⟨ad378, e378, hx378_0⟩ := Kd.at_int HR1_1.out x6_1 p378 q378
              cases e378
              try replace hx378_0 := (HB.out.cell (World.block_lt_of_cell? w _ hx378_0)).trans hx378_0
              replace p378 := eq_true p378
              replace q378 := eq_true q378
              have p383 : 0 ≤ (x6_1 : Int) := of_decide_eq_true (by first | (with_reducible assumption) | assumption)
              have q383 : x6_1 < (l0.length : Int) := of_decide_eq_true (by first | (with_reducible assumption) | assumption)
              obtain ⟨ad383, e383, hx383_0, hx383_1, hx383_2⟩ := at_T24 HR0.out x6_1 p383 q383
              cases e383
              try replace hx383_0 := (HB.out.cell (World.block_lt_of_cell? w _ hx383_0)).trans hx383_0
              try replace hx383_1 := (HB.out.cell (World.block_lt_of_cell? w _ hx383_1)).trans hx383_1
              try replace hx383_2 := (HB.out.cell (World.block_lt_of_cell? w _ hx383_2)).trans hx383_2
              replace p383 := eq_true p383
              replace q383 := eq_true q383
              go_wp2_with (first | ((with_reducible refine gate_callee (f := 43) rfl ?_); refine goesL_ (some 38) rfl rfl Try.func43 (by kernel_rfl) rfl #[.string a1_0, .string ((rd_T24 l0 x6_1).f0)] rfl (by (try simp only [List.map_toArray, List.map_cons, List.map_nil]); first | done | rfl | (simp only [List.length_drop, List.length_take]; rfl)) ?_; (with_reducible refine (cippusref07_Apart.calls k1 a1_0 ((rd_T24 l0 x6_1).f0) t384 _ A12.out).mono ?_); rintro e w' ⟨rfl, ⟨nd, rfl⟩⟩; refine ⟨_, rfl, ?_⟩))
              go_roundg k1
              case measure => have := HK1.out; omega
              case rel => exact ⟨(wrap64 (x5_1 + t384)), (wrap64 (x6_1 + 1)), (by first | rfl | (simp; done) | (simp [*]; done)), (by first | rfl | (simp; done) | (simp [*]; done)), H', ⟨by have := HK1.out; omega⟩, ⟨by (with_reducible repeat (first | refine blk_drewN ?_ _ | refine blk_drew ?_ | refine blk_alloc ?_ _)); exact BK377.out⟩, ⟨by repeat (first | (with_reducible first | exact HB.out | apply below_alloc | apply pw_below_drewN | apply below_drew1 | refine below_set ?_ GE377.out) | exact HB.out)⟩⟩
          · rw [if_neg c6] at H
            exact absurd H (by simp)
        · rw [if_neg c5] at H
          exact absurd H (by simp)
      · rw [if_neg c4] at H
        have c4b0 : decide (x6_1 < (l0.length : Int)) = false := decide_eq_false c4
        clear c4
        obtain rfl := Option.some.inj H
        go_wp2
        go_ret
        exact ⟨by first | rfl | (simp [errW_none, errW_some] <;> rfl) | (simp [*, errW_none, errW_some] <;> rfl), by repeat (first | (with_reducible first | exact HB.out | apply below_alloc | apply pw_below_drewN | apply below_drew1 | refine below_set ?_ GE377.out) | exact HB.out)⟩
end Go.Proofs.Ytegjollhajgcdaa.P
namespace Go.Proofs.Ytegjollhajgcdaa.P
open Go.RowKit Go.Proofs.YtegjollhajgcdaaW.PrintWords Go.Proofs.YtegjollhajgcdaaW.PrintLast Go.Proofs.YtegjollhajgcdaaW.PrintMore
attribute [local go_sem] max2_int min2_int max_two min_two max_three min_three max_four min_four   -- for this text's walks alone
set_option linter.unusedVariables false
set_option linter.unusedSimpArgs false
def cippuslaw07_has.l0 : Nat → ByteArray → Int → Int → Option (Bool)
  | 0, _, _, _ => none
  | k + 1, x0, x1, x5 => if x5 < (x0.size : Int) then (if 0 ≤ x5 then (if (bt x0 x5) = x1 then (some true) else (cippuslaw07_has.l0 k x0 x1 (wrap64 (x5 + 1)))) else (none)) else (some false)
def cippuslaw07_has.f (k : Nat) (a0 : ByteArray) (a1 : Int) : Option (Bool) := cippuslaw07_has.l0 k a0 a1 0
set_option maxHeartbeats 8000000 in
set_option maxRecDepth 100000 in
theorem cippuslaw07_has.calls (k : Nat) (a0 : ByteArray) (a1 : Int) (r : Bool) (w : World) (h : cippuslaw07_has.f k a0 a1 = some r) :
    Calls Try.prog 33 #[.string a0, .int .u8 a1] w fun e w' => e = .returned (.bool r) ∧ Drawn0 w w' := by
  have H : (cippuslaw07_has.l0 k a0 a1 0) = some r := h
  clear h
  have H' := Aside0.mk H
  clear H
  go_enter Try.func33, Try.ntmps33
  go_wp2
  go_loopg [5] k (fun kq v5 w' => ∃ (x5_1 : Int), v5 = .int .i64 x5_1 ∧ Aside0 (cippuslaw07_has.l0 kq a0 a1 x5_1 = some r) ∧ Aside0 (kq ≤ k) ∧ Drawn0 w w')
  case atStart => exact ⟨(0), (by first | rfl | (simp; done) | (simp [*]; done)), H', ⟨Nat.le_refl _⟩, by repeat (first | exact Drawn0.refl _ | apply Drawn0.step)⟩
  case round =>
    clear H'
    try clear p2
    obtain ⟨x5_1, rfl, HA, HK1, ⟨m1, rfl⟩⟩ := hrel
    cases gk with
    | zero => exact absurd HA.out (by simp [cippuslaw07_has.l0])
    | succ k1 =>
      have H := HA.out
      clear HA
      simp only [cippuslaw07_has.l0] at H
      by_cases c3 : x5_1 < (a0.size : Int)
      · rw [if_pos c3] at H
        have c3b0 : decide (x5_1 < (a0.size : Int)) = true := decide_eq_true c3
        clear c3
        by_cases c4 : 0 ≤ x5_1
        · rw [if_pos c4] at H
          have c4b0 : decide (0 ≤ x5_1) = true := decide_eq_true c4
          clear c4
          by_cases c6 : (bt a0 x5_1) = a1
          · rw [if_pos c6] at H
            have c6b0 : ((bt a0 x5_1) == a1) = true := beq_iff_eq.mpr c6
            have c6b1 : ((bt a0 x5_1) != a1) = false := bne_eq_false_iff_eq.mpr c6
            clear c6
            obtain rfl := Option.some.inj H
            have p5 : 0 ≤ (x5_1 : Int) := of_decide_eq_true (by first | (with_reducible assumption) | assumption)
            have q5 : x5_1 < (a0.size : Int) := of_decide_eq_true (by first | (with_reducible assumption) | assumption)
            have hx5 := bt_at a0 x5_1
            replace p5 := eq_true p5
            replace q5 := eq_true q5
            go_wp2
            go_ret
            exact ⟨by first | rfl | (simp; done) | (simp [*]; done), by repeat (first | exact Drawn0.refl _ | apply Drawn0.step)⟩
          · rw [if_neg c6] at H
            have c6b0 : ((bt a0 x5_1) == a1) = false := beq_eq_false_iff_ne.mpr c6
            have c6b1 : ((bt a0 x5_1) != a1) = true := bne_iff_ne.mpr c6
            have H' := Aside0.mk H
            clear H
            have p5 : 0 ≤ (x5_1 : Int) := of_decide_eq_true (by first | (with_reducible assumption) | assumption)
            have q5 : x5_1 < (a0.size : Int) := of_decide_eq_true (by first | (with_reducible assumption) | assumption)
            have hx5 := bt_at a0 x5_1
            replace p5 := eq_true p5
            replace q5 := eq_true q5
            go_wp2
            go_roundg k1
            case measure => have := HK1.out; omega
            case rel => exact ⟨(wrap64 (x5_1 + 1)), (by first | rfl | (simp; done) | (simp [*]; done)), H', ⟨by have := HK1.out; omega⟩, by repeat (first | exact Drawn0.refl _ | apply Drawn0.step)⟩
        · rw [if_neg c4] at H
          exact absurd H (by simp)
      · rw [if_neg c3] at H
        have c3b0 : decide (x5_1 < (a0.size : Int)) = false := decide_eq_false c3
        clear c3
        obtain rfl := Option.some.inj H
        go_wp2
        go_ret
        exact ⟨by first | rfl | (simp; done) | (simp [*]; done), by repeat (first | exact Drawn0.refl _ | apply Drawn0.step)⟩
end Go.Proofs.Ytegjollhajgcdaa.P
namespace Go.Proofs.Ytegjollhajgcdaa.P
open Go.RowKit Go.Proofs.YtegjollhajgcdaaW.PrintWords Go.Proofs.YtegjollhajgcdaaW.PrintLast Go.Proofs.YtegjollhajgcdaaW.PrintMore
attribute [local go_sem] max2_int min2_int max_two min_two max_three min_three max_four min_four   -- for this text's walks alone
set_option linter.unusedVariables false
set_option linter.unusedSimpArgs false
def cippuskit_Urn_From.f (s0_0 : Int) (s0_1 : Int) (a1 : Int) (a2 : Int) : Option (Int × Int × Int) := (cippuskit_Urn_Up.f s0_0 s0_1 (wrap64 ((wrap64 (a2 - a1)) + 1))).bind fun bt107 => (some (wrap64 (a1 + bt107.1), bt107.2.1, bt107.2.2))
set_option maxHeartbeats 8000000 in
set_option maxRecDepth 100000 in
theorem cippuskit_Urn_From.calls (g : Nat) (s0_0 : Int) (s0_1 : Int) (a1 : Int) (a2 : Int) (r1 : Int) (r2 : Int) (r3 : Int) (w0 w : World) (hI : IsS72 w0 w g s0_0 s0_1) (hB : Below w0.heap.size w0 w) (h : cippuskit_Urn_From.f s0_0 s0_1 a1 a2 = some (r1, r2, r3)) :
    Calls Try.prog 44 #[.pointer (some ⟨g, 0, none⟩), .int .i64 a1, .int .i64 a2] w fun e w' => e = .returned (.int .i64 r1) ∧ IsS72 w0 w' g r2 r3 ∧ Below w0.heap.size w0 w' ∧ KeepBut w w' g none := by
  have HI0 := Aside0.mk hI
  have HK := Aside0.mk (KeepBut.refl w g none)
  have HL := Aside0.mk hB.size
  clear hI
  have HW0 := Aside0.mk hB.size
  have HB := Aside0.mk hB
  clear hB
  have H : ((cippuskit_Urn_Up.f s0_0 s0_1 (wrap64 ((wrap64 (a2 - a1)) + 1))).bind fun bt107 => (some (wrap64 (a1 + bt107.1), bt107.2.1, bt107.2.2))) = some (r1, r2, r3) := h
  clear h
  replace H := Option.bind_eq_some_iff.mp H
  obtain ⟨⟨t107, t108, t109⟩, A40, H⟩ := H
  replace H : (some (wrap64 (a1 + t107), t108, t109)) = some (r1, r2, r3) := H
  have A4 := Aside0.mk A40
  clear A40
  simp only [Option.some.injEq, Prod.mk.injEq] at H
  obtain ⟨rfl, rfl, rfl⟩ := H
  go_enter Try.func44, Try.ntmps44
  go_wp2_with (first | ((with_reducible refine gate_callee (f := 28) rfl ?_); refine goesL_ (some 13) rfl rfl Try.func28 (by kernel_rfl) rfl #[.pointer (some ⟨g, 0, none⟩), .int .i64 (wrap64 ((wrap64 (a2 - a1)) + 1))] rfl (by (try simp only [List.map_toArray, List.map_cons, List.map_nil]); first | done | rfl | (simp only [List.length_drop, List.length_take]; rfl)) ?_; (with_reducible refine (cippuskit_Urn_Up.calls g s0_0 s0_1 (wrap64 ((wrap64 (a2 - a1)) + 1)) t107 t108 t109 w0 _ ?side1 ?side2 A4.out).mono ?_); (case side1 => repeat (first | (with_reducible first | exact HI0.out | apply IsS72.alloc | apply IsS72.drewN | apply IsS72.drew | apply IsS72.set_0 | apply IsS72.set_1) | exact HI0.out)); (case side2 => repeat (first | (with_reducible first | exact HB.out | apply below_alloc | apply pw_below_drewN | apply below_drew1 | refine below_set ?_ (IsS72.ge HI0.out)) | exact HB.out)); rintro e w5 ⟨rfl, hi, hb, hk⟩; refine ⟨_, rfl, ?_⟩; have n0_ := Aside0.mk (KeepBut.trans (by repeat (first | (with_reducible first | exact HK.out | apply KeepBut.set_ | apply keep_drewN | apply keep_drew | apply keep_alloc) | exact HK.out)) hk (.inl rfl)); have n1_ := Aside0.mk (hb); have n2_ := Aside0.mk (hi); clear HK; clear HB; clear HI0; have HK := n0_; have HB := n1_; have HI0 := n2_; clear n0_ n1_ n2_; (try clear hb); (try clear hb2); (try clear hk); (try clear hi)))
  go_ret
  exact ⟨by first | rfl | (simp [errW_none, errW_some] <;> rfl) | (simp [*, errW_none, errW_some] <;> rfl), by repeat (first | (with_reducible first | exact HI0.out | apply IsS72.alloc | apply IsS72.drewN | apply IsS72.drew | apply IsS72.set_0 | apply IsS72.set_1) | exact HI0.out), by repeat (first | (with_reducible first | exact HB.out | apply below_alloc | apply pw_below_drewN | apply below_drew1 | refine below_set ?_ (IsS72.ge HI0.out)) | exact HB.out), by repeat (first | (with_reducible first | exact HK.out | apply KeepBut.set_ | apply keep_drewN | apply keep_drew | apply keep_alloc) | exact HK.out)⟩
end Go.Proofs.Ytegjollhajgcdaa.P
namespace Go.Proofs.Ytegjollhajgcdaa.P.OwnUrn
open Go.RowKit Go.Proofs.YtegjollhajgcdaaW.PrintWords Go.Proofs.YtegjollhajgcdaaW.PrintLast Go.Proofs.YtegjollhajgcdaaW.PrintMore
def urnGo : List Int → Int → Int → Option (Int × Int)
  | [], a, b => some (a, b)
  | x :: xs, a, b => (cippuskit_Urn_turn.f a (IntKind.u64.wrap (b + IntKind.u64.wrap x))).bind fun t => (cippuskit_Urn_turn.f t.2.1 t.2.2).bind fun t2 => urnGo xs t2.2.1 t2.2.2
def newUrn (l : List Int) : Option (Int × Int) := if l.length < 4611686018427387904 then urnGo l 11400714819323198485 14029467366897019727 else none
def erredGo : Nat → List Int → Int → Int → Option (List Int × Int × Int)
  | 0, b, s0, s1 => some (b, s0, s1)
  | n + 1, b, s0, s1 => (cippuskit_Urn_Up.f s0 s1 (b.length : Int)).bind fun t => (cippuskit_Urn_Up.f t.2.1 t.2.2 3).bind fun u =>
    if 0 ≤ t.1 ∧ t.1 < (b.length : Int) then erredGo n (b.set t.1.toNat ((wrap64 (65 + u.1)) % 256)) u.2.1 u.2.2 else none
def erred (s0 s1 : Int) (a1 : ByteArray) (a2 : Int) : Option (ByteArray × Int × Int) :=
  if a1.size ≤ 9223372036854775807 ∧ a2 ≤ 9223372036854775807 then (erredGo a2.toNat (bytesOf a1) s0 s1).map fun r => (strOfNums r.1, r.2.1, r.2.2) else none
def stoneGo : Nat → Int → Int → ByteArray → Option (ByteArray × Int × Int)
  | 0, a, b, s => some (s, a, b)
  | n + 1, a, b, s => (cippuskit_Urn_Up.f a b 3).bind fun t => if s.size + 1 ≤ 9223372036854775807 then stoneGo n t.2.1 t.2.2 (s ++ strOfNums [(wrap64 (65 + t.1)) % 256]) else none
def copyGo : Nat → Int → ByteArray → List S24 → List Int → Int → Int → Option (List S24 × List Int × Int × Int)
  | 0, _, _, l, src, a, b => some (l, src, a, b)
  | n + 1, er, st, l, src, a, b => (cippuskit_Urn_From.f a b (-1) (wrap64 ((l.length : Int) - 1))).bind fun t => (cippuskit_Urn_Up.f t.2.1 t.2.2 (wrap64 (er + 1))).bind fun u =>
    (if t.1 < 0 then some (true, u.2.1, u.2.2) else cippuskit_Urn_Odds.f u.2.1 u.2.2 1 2).bind fun o =>
    (if 0 ≤ t.1 then (if t.1 < (l.length : Int) then some (rd_T24 l t.1).f0 else none) else some st).bind fun fr =>
    (erred o.2.1 o.2.2 fr u.1).bind fun e =>
    if l.length + 1 < 4398046511104 ∧ src.length + 1 < 17592186044416 then copyGo n er st (l ++ [⟨e.1, u.1, o.1⟩]) (src ++ [t.1]) e.2.1 e.2.2 else none
def copiesOf (s0 s1 copies places errors : Int) : Option (List S24 × ByteArray × List Int × Int × Int) :=
  (cippuskit_Urn_From.f s0 s1 1 places).bind fun t => (stoneGo t.1.toNat t.2.1 t.2.2 ⟨#[]⟩).bind fun s => (cippuskit_Urn_From.f s.2.1 s.2.2 1 copies).bind fun t =>
    (copyGo t.1.toNat errors s.1 [] [] t.2.1 t.2.2).map fun r => (r.1, s.1, r.2.1, r.2.2.1, r.2.2.2)
end Go.Proofs.Ytegjollhajgcdaa.P.OwnUrn
namespace Go.Proofs.Ytegjollhajgcdaa.P.OwnUrn
open Go.RowKit Go.Proofs.YtegjollhajgcdaaW.PrintWords Go.Proofs.YtegjollhajgcdaaW.PrintLast Go.Proofs.YtegjollhajgcdaaW.PrintMore
set_option linter.unusedVariables false
theorem below_of_keep {w0 w W W' : World} {g : Nat} (h0 : Below w0.heap.size w0 w) (h1 : Below w0.heap.size w0 W') (hw : Below w.heap.size w W) (hk : KeepBut W W' g none) (hg : w.heap.size ≤ g) : Below w.heap.size w W' :=
  ⟨h1.os.trans h0.os.symm, h1.tape.trans h0.tape.symm, h1.output.trans h0.output.symm, Nat.le_trans hw.size hk.1, fun k hk' => (hk.2 k (Nat.lt_of_lt_of_le hk' hw.size) (by omega) (by simp)).trans (hw.block k hk')⟩
def RelNew (w0 w : World) (l0 : List Int) (r1 r2 : Int) (k : Nat) (wr : World) : Prop :=
  ∃ a b : Int, IsS72 w0 wr w.heap.size a b ∧ Below w0.heap.size w0 wr ∧ Below w.heap.size w wr ∧ urnGo (l0.drop k) a b = some (r1, r2)
set_option maxHeartbeats 4000000 in
set_option maxRecDepth 100000 in
theorem newUrn_calls (A0 : Option Addr) (c0 : Nat) (l0 : List Int) (r1 : Int) (r2 : Int) (w0 w : World) (hB : Below w0.heap.size w0 w) (hr0 : Kd.C (Kd.int .i64) w0 A0 l0.length l0) (hc0 : l0.length ≤ c0) (h : newUrn l0 = some (r1, r2)) :
    Calls Try.prog 14 #[.slice A0 l0.length c0] w fun e w' => ∃ g_ : Nat, e = .returned (.pointer (some ⟨g_, 0, none⟩)) ∧ IsS72 w0 w' g_ r1 r2 ∧ Below w0.heap.size w0 w' ∧ Below w.heap.size w w' := by
  have hlen : l0.length < 4611686018427387904 := by
    unfold newUrn at h
    split at h
    · assumption
    · cases h
  rw [newUrn, if_pos hlen] at h
  have H := Lib.hid h; clear h
  have HB := Aside0.mk hB; clear hB
  have HR := Aside0.mk hr0; clear hr0
  go_enter Try.func14, Try.ntmps14
  go_wp2
  go_loopw [4] (fun v wr => ∃ k : Nat, v = .int .i64 k ∧ k ≤ l0.length ∧ RelNew w0 w l0 r1 r2 k wr) (fun v _ => l0.length - (intOf v).toNat)
  case atStart =>
    refine ⟨0, rfl, Nat.zero_le _, _, _, IsS72.new w0 w _ _ HB.out, ?_, ?_, H.out⟩
    · exact HB.out.alloc HB.out.size _
    · exact (Below.refl _ _).alloc (Nat.le_refl _) _
  case round =>
    obtain ⟨k, rfl, hk, a, b, hI, hb0, hb1, hg⟩ := hrel
    by_cases hlt : k < l0.length
    · obtain ⟨ad, e, hx⟩ := Kd.at_int HR.out (k : Int) (by omega) (by omega)
      subst e
      simp only [Int.toNat_natCast] at hx
      replace hx := (hb0.cell (World.block_lt_of_cell? w0 _ hx)).trans hx
      obtain ⟨HG, hg0⟩ := id hI
      have hc0 := cellS72_0 HG
      have hc1 := cellS72_1 HG
      have hf0 := blk_frozen HG 0
      have hf1 := blk_frozen HG 1
      have hlt' : (k : Int) < (l0.length : Int) := by omega
      have hd : l0.drop k = rd l0 k :: l0.drop (k + 1) := by rw [List.drop_eq_getElem_cons hlt]; simp [rd, List.getD_eq_getElem?_getD, hlt]
      rw [hd, urnGo, Option.bind_eq_some_iff] at hg
      obtain ⟨⟨t1, t2, t3⟩, ht, hg⟩ := hg
      rw [Option.bind_eq_some_iff] at hg
      obtain ⟨⟨u1, u2, u3⟩, hu, hg⟩ := hg
      dsimp only at hu hg
      have HT := Aside0.mk ht; clear ht
      have HU := Aside0.mk hu; clear hu
      have HG2 := Aside0.mk hg; clear hg hd
      go_wp2_with fail
      go_region
      go_wp2_with fail
      refine (cippuskit_Urn_turn.calls _ _ _ _ _ _ w0 _ ((hI.set_1 _).drew) (below_drew (below_set hb0 hg0)) HT.out).mono ?_
      rintro e w1 ⟨rfl, hI1, hB1, hK1⟩
      go_wp2_with fail
      refine (cippuskit_Urn_turn.calls _ _ _ _ _ _ w0 _ hI1 hB1 HU.out).mono ?_
      rintro e w2 ⟨rfl, hI2, hB2, hK2⟩
      go_wp2_with fail
      go_roundw
      case rel =>
        refine ⟨k + 1, by go_num, by omega, _, _, hI2, hB2, ?_, HG2.out⟩
        exact below_of_keep HB.out hB2 (below_of_keep HB.out hB1 (below_drew (below_set hb1 (Nat.le_refl _))) hK1 (Nat.le_refl _)) hK2 (Nat.le_refl _)
      case measure => simp [intOf]; omega
    · go_wp2
      go_ret
      refine ⟨_, rfl, ?_, hb0, hb1⟩
      rw [List.drop_of_length_le (by omega)] at hg
      simp only [urnGo, Option.some.injEq, Prod.mk.injEq] at hg
      obtain ⟨rfl, rfl⟩ := hg
      exact hI
def Buf (W : World) (gb : Nat) (xs : List Int) : Prop := (∀ i, i < xs.length → W.cell? ⟨gb, i, none⟩ = some (.int .u8 (rd xs i)) ∧ W.frozen? ⟨gb, i, none⟩ = false) ∧ gb < W.heap.size
theorem Buf.keep {W W' : World} {gb : Nat} {xs : List Int} (h : Buf W gb xs) (hb : W'.heap[gb]? = W.heap[gb]?) (hs : W.heap.size ≤ W'.heap.size) : Buf W' gb xs :=
  ⟨fun i hi => ⟨(World.cell?_of_block (a := ⟨gb, i, none⟩) hb).trans (h.1 i hi).1, (World.frozen?_of_block (a := ⟨gb, i, none⟩) hb).trans (h.1 i hi).2⟩, Nat.lt_of_lt_of_le h.2 hs⟩
theorem Buf.set {W : World} {gb : Nat} {xs : List Int} (h : Buf W gb xs) (i : Nat) (hi : i < xs.length) (x : Int) : Buf (W.setCell ⟨gb, i, none⟩ (.int .u8 x)) gb (xs.set i x) := by
  refine ⟨fun j hj => ?_, by simpa using h.2⟩
  rw [List.length_set] at hj
  refine ⟨?_, by rw [World.frozen?_setCell]; exact (h.1 j hj).2⟩
  by_cases e : j = i
  · subst e
    rw [World.cell?_setCell_same' _ _ _ (by rw [(h.1 j hj).1]; rfl)]
    simp [rd, List.getD_eq_getElem?_getD, hj]
  · rw [World.cell?_setCell_other W _ (a := ⟨gb, i, none⟩) (b := ⟨gb, j, none⟩) (fun e_ => e (by injection e_ with _ h2; exact h2.symm)), (h.1 j hj).1]
    simp [rd, List.getD_eq_getElem?_getD, List.getElem?_set, Ne.symm e]
theorem Buf.reads {W : World} {gb : Nat} {xs : List Int} (h : Buf W gb xs) (hm : xs.length ≤ 9223372036854775807) : ReadsInt W .u8 (some ⟨gb, 0, none⟩) xs.length xs :=
  ⟨rfl, hm, fun _ => ⟨_, rfl, fun j hj => by
    have := (h.1 j hj).1
    rw [add_plain]
    rw [this]
    simp [rd, List.getD_eq_getElem?_getD]⟩⟩
theorem Buf.new (W : World) (s : ByteArray) : Buf (Lib.bytesWorld W 5 s) W.heap.size (bytesOf s) := by
  refine ⟨fun i hi => ?_, by rw [Lib.bytesWorld_size]; omega⟩
  rw [bytesOf_length] at hi
  refine ⟨?_, ?_⟩
  · rw [Lib.bytesWorld_cell _ _ _ _ hi]
    simp [rd, bytesOf, List.getD_eq_getElem?_getD, hi]
  · unfold World.frozen?
    rw [Lib.bytesWorld_at_new]
    have hz : s.size ≤ (Lib.bytesCells W 5 s).size := by
      unfold Lib.bytesCells; rw [Array.size_append, Array.size_map]; exact Nat.le_add_right _ _
    simp
    omega
def RelErr (w0 w : World) (g : Nat) (n m : Nat) (L : List Int) (r2 r3 : Int) (k : Nat) (wr : World) : Prop :=
  ∃ (xs : List Int) (a b : Int), IsS72 w0 wr g a b ∧ Below w0.heap.size w0 wr ∧ KeepBut w wr g none ∧ Buf wr w.heap.size xs ∧ xs.length = m ∧ erredGo (n - k) xs a b = some (L, r2, r3)
set_option maxHeartbeats 4000000 in
set_option maxRecDepth 100000 in
theorem erred_calls (g : Nat) (s0_0 : Int) (s0_1 : Int) (a1 : ByteArray) (a2 : Int) (r1 : ByteArray) (r2 : Int) (r3 : Int) (w0 w : World) (hI : IsS72 w0 w g s0_0 s0_1) (hB : Below w0.heap.size w0 w) (h : erred s0_0 s0_1 a1 a2 = some (r1, r2, r3)) :
    Calls Try.prog 45 #[.pointer (some ⟨g, 0, none⟩), .string a1, .int .i64 a2] w fun e w' => e = .returned (.string r1) ∧ IsS72 w0 w' g r2 r3 ∧ Below w0.heap.size w0 w' ∧ KeepBut w w' g none := by
  unfold erred at h
  split at h
  case isFalse => cases h
  case isTrue hsz =>
  obtain ⟨hs1, hs2⟩ := hsz
  rw [Option.map_eq_some_iff] at h
  obtain ⟨⟨L, p, q⟩, he, hr⟩ := h
  simp only [Prod.mk.injEq] at hr
  obtain ⟨rfl, rfl, rfl⟩ := hr
  have HE := Lib.hid he; clear he
  have HI := Aside0.mk hI
  have HB := Aside0.mk hB
  have hgw : g < w.heap.size := hI.lt
  clear hI hB
  have kc := fun W => print_bytes (P := Try.prog) 9 61 5 Try.underlying9 Try.underlying61 Try.underlying5 a1 W
  go_enter Try.func45, Try.ntmps45
  go_wp2
  clear kc
  go_loopw [8] (fun v wr => ∃ k : Nat, v = .int .i64 k ∧ (k : Int) ≤ max a2 0 ∧ RelErr w0 w g a2.toNat a1.size L p q k wr) (fun v _ => a2.toNat - (intOf v).toNat)
  case atStart =>
    refine ⟨0, rfl, by omega, bytesOf a1, s0_0, s0_1, ?_, ?_, ?_, Buf.new w a1, bytesOf_length _, HE.out⟩
    · exact ⟨(Lib.bytesWorld_at_old w 5 a1 g hgw).trans HI.out.1, HI.out.2⟩
    · exact bytes_below HB.out HB.out.size _ _
    · exact ⟨by rw [Lib.bytesWorld_size]; omega, fun i hi _ _ => Lib.bytesWorld_at_old w 5 a1 i hi⟩
  case round =>
    obtain ⟨k, rfl, hk, xs, a, b, hI, hb0, hK, hbuf, hxl, hg⟩ := hrel
    have HI2 := Aside0.mk hI
    have HB2 := Aside0.mk hb0
    have HK := Aside0.mk hK
    have HBuf := Aside0.mk hbuf
    have HG := Aside0.mk hg
    clear hI hb0 hK hbuf hg
    by_cases hlt : (k : Int) < a2
    · obtain ⟨n, hn⟩ : ∃ n, a2.toNat - k = n + 1 := ⟨a2.toNat - k - 1, by omega⟩
      have hg := HG.out
      rw [hn, erredGo, Option.bind_eq_some_iff] at hg
      obtain ⟨⟨t1, t2, t3⟩, ht, hg⟩ := hg
      rw [Option.bind_eq_some_iff] at hg
      obtain ⟨⟨u1, u2, u3⟩, hu, hg⟩ := hg
      dsimp only at hu hg
      split at hg
      case isFalse => cases hg
      case isTrue hix =>
      obtain ⟨hi0, hi1⟩ := hix
      obtain ⟨j, rfl⟩ := Int.eq_ofNat_of_zero_le hi0
      simp only [Int.toNat_natCast] at hg
      rw [hxl] at ht
      have HT := Aside0.mk ht; clear ht
      have HU := Aside0.mk hu; clear hu
      have hn' : n = a2.toNat - (k + 1) := by omega
      subst hn'
      have HG2 := Aside0.mk hg; clear hg hn
      go_wp2_with fail
      refine (cippuskit_Urn_Up.calls _ _ _ _ _ _ _ w0 _ HI2.out HB2.out HT.out).mono ?_
      rintro e w1 ⟨rfl, hI1, hB1, hK1⟩
      go_wp2_with fail
      refine (cippuskit_Urn_Up.calls _ _ _ _ _ _ _ w0 _ hI1 hB1 HU.out).mono ?_
      rintro e w2 ⟨rfl, hI2, hB2, hK2⟩
      have hbuf2 : Buf w2 w.heap.size xs := (HBuf.out.keep (hK1.2 _ HBuf.out.2 (by omega) (by simp)) hK1.1).keep (hK2.2 _ (Nat.lt_of_lt_of_le HBuf.out.2 hK1.1) (by omega) (by simp)) hK2.1
      have hj : j < xs.length := by omega
      obtain ⟨hcj, hfj⟩ := hbuf2.1 j hj
      have hj2 : (j : Int) < (a1.size : Int) := by omega
      have HBuf2 := Aside0.mk hbuf2
      have HIa := Aside0.mk hI2
      have HBa := Aside0.mk hB2
      have HKa := Aside0.mk hK2
      have HKb := Aside0.mk hK1
      clear hbuf2 hI2 hB2 hK2 hK1 hI1 hB1
      go_wp2_with fail
      go_roundw
      case rel =>
        refine ⟨k + 1, by go_num, by omega, xs.set j _, u2, u3, ?_, ?_, ?_, HBuf2.out.set j hj _, by rw [List.length_set]; exact hxl, HG2.out⟩
        · exact HIa.out.far (by simp; omega) _
        · exact HBa.out.setCell (Nat.le_trans HB.out.size (by simp)) _
        · exact keep_far (((HK.out).trans HKb.out (.inl rfl)).trans HKa.out (.inl rfl)) (by simp) _
      case measure => simp [intOf]; omega
    · have hk0 : a2.toNat - k = 0 := by omega
      have hg := HG.out
      rw [hk0, erredGo] at hg
      simp only [Option.some.injEq, Prod.mk.injEq] at hg
      obtain ⟨rfl, rfl, rfl⟩ := hg
      have kc := string_of_reads (src := 61) (dst := 9) (c := grownCap w a1.size 0 5) Try.underlying61 Try.underlying5 Try.underlying9 (HBuf.out.reads (by omega))
      rw [hxl] at kc
      go_wp2
      go_ret
      exact ⟨rfl, HI2.out, HB2.out, HK.out⟩
end Go.Proofs.Ytegjollhajgcdaa.P.OwnUrn
namespace Go.Proofs.Ytegjollhajgcdaa.OLies
open Go.RowKit Go.Proofs.YtegjollhajgcdaaW.PrintWords Go.Proofs.YtegjollhajgcdaaW.PrintLast Go.Proofs.YtegjollhajgcdaaW.PrintMore
section
variable {P : Program} {ops : Array Oper} {o : Oper} {a : Act} {Q : Exit → Act → World → Prop} {Kc : Act → World → Prop} {α : Type}
theorem R_append_lies (d : Kd α) {w0 W : World} (base : Nat) (s x : Operand) (t e : TypeId) (z : Value) (bytes : Nat)
    (ho : o.op = .call { callee := .builtin .append, args := #[s, x], argTypes := #[t, t] })
    (ht : P.underlying t = some (.slice e)) (hinfo : (P.info? e).map (fun i => (i.zero, i.size, i.bytes)) = some (some z, d.sz, bytes)) (hz : z.cells.size = d.sz) (hs0 : 0 < d.sz) (hb0 : 0 < bytes)
    (v : Value) (xs : List α) (p : α) (cs : List Value) (ok okp : Nat → Prop) (B : Nat) (fr : Nat × Nat) (hs : a.eval s = v) (hx : a.eval x = .slice (some ⟨B, 0, none⟩) 1 1) (hblk : W.heap[B]? = some (.cells cs.toArray e fr))
    (hp : d.M W base okp p cs) (hokp : ∀ k, okp k → ok k ∧ some k ≠ v.ownBlock) (hfresh : ∀ k, W.heap.size ≤ k → ok k)
    (HO : d.R e W base ok v xs) (HB : Below base w0 W) (hbase : base ≤ W.heap.size) (hl : (xs.length + 1) * bytes ≤ 140737488355328)
    (h : ∀ v1 w1, d.R e w1 base ok v1 (xs ++ [p]) → Below base w0 w1 → W.grownBy w1 v.ownBlock → (v1.ownBlock = v.ownBlock ∨ ∃ b, v1.ownBlock = some b ∧ W.heap.size ≤ b) → Kc (a.put o.dst v1) w1) :
    Oper.wp P o a W Kc Q := by
  obtain ⟨h0, inner, hown, hr⟩ := HO
  obtain ⟨i0, hi, hzz⟩ := Option.map_eq_some_iff.1 hinfo
  simp only [Prod.mk.injEq] at hzz
  obtain ⟨hz0, hz1, hz2⟩ := hzz
  have hlen : xs.length + 1 ≤ 140737488355328 := Nat.le_trans (Nat.le_mul_of_pos_right _ hb0) hl
  have hcl := d.K_len (d.K_of_M hp)
  refine wp_append_lies W s x t ho base e i0 z d.sz bytes ht hi hz0 hz1 hz2 hz hs0 v xs.length inner hs hown ⟨B, 0, none⟩ 1 1 cs hx (by rw [hcl]; simp)
    (by simpa using World.news_of_block (cs := cs.toArray) hblk) (d.K_one (d.K_of_M hp)) (by decide) (by simp only [maxLen]; omega) hl hbase _ rfl ?_
  intro g cap w1 hown1 hg1 hat1 hlt
  have hat : (Value.slice (some ⟨g, 0, none⟩) (xs.length + 1) cap).ownBlock = v.ownBlock ∨ ∃ b, (Value.slice (some ⟨g, 0, none⟩) (xs.length + 1) cap).ownBlock = some b ∧ W.heap.size ≤ b := by
    rcases hat1 with hat1 | hat1
    · exact .inl (by rw [hat1]; rfl)
    · exact .inr ⟨g, rfl, by omega⟩
  exact h _ _ (Kd.R_appended h0 hr hp hokp hfresh hown1 hg1 hat) (HB.grown hg1 hbase (own_base hown)) hg1 hat
theorem R_append_lies_step (d : Kd α) {w0 W : World} {E : Prop} (base : Nat) (hgd : o.guard = none) (s x : Operand) (t e : TypeId) (z : Value) (bytes : Nat)
    (ho : o.op = .call { callee := .builtin .append, args := #[s, x], argTypes := #[t, t] })
    (ht : P.underlying t = some (.slice e)) (hinfo : (P.info? e).map (fun i => (i.zero, i.size, i.bytes)) = some (some z, d.sz, bytes)) (hz : z.cells.size = d.sz) (hs0 : 0 < d.sz) (hb0 : 0 < bytes)
    (v : Value) (xs : List α) (p : α) (cs : List Value) (ok okp : Nat → Prop) (B : Nat) (fr : Nat × Nat) (hs : a.eval s = v) (hx : a.eval x = .slice (some ⟨B, 0, none⟩) 1 1) (hblk : W.heap[B]? = some (.cells cs.toArray e fr))
    (hp : d.M W base okp p cs) (hokp : ∀ k, okp k → ok k ∧ some k ≠ v.ownBlock) (hfresh : ∀ k, W.heap.size ≤ k → ok k)
    (HO : d.R e W base ok v xs) (HB : Below base w0 W) (hbase : base ≤ W.heap.size) (hl : (xs.length + 1) * bytes ≤ 140737488355328)
    (h : ∀ v1 w1, d.R e w1 base ok v1 (xs ++ [p]) → Below base w0 w1 → W.grownBy w1 v.ownBlock → (v1.ownBlock = v.ownBlock ∨ ∃ b, v1.ownBlock = some b ∧ W.heap.size ≤ b) → Kc (a.put o.dst v1) w1) :
    if Region.wanted o (yielded ops a.tmps) = true then Oper.wp P o a W Kc Q else E := by
  have hw : Region.wanted o (yielded ops a.tmps) = true := by simp [Region.wanted, hgd]
  rw [if_pos hw]
  exact R_append_lies d base s x t e z bytes ho ht hinfo hz hs0 hb0 v xs p cs ok okp B fr hs hx hblk hp hokp hfresh HO HB hbase hl h
end
end Go.Proofs.Ytegjollhajgcdaa.OLies
namespace Go.Proofs.Ytegjollhajgcdaa.P.OwnUrn
open Go.RowKit Go.Proofs.YtegjollhajgcdaaW.PrintWords Go.Proofs.YtegjollhajgcdaaW.PrintLast Go.Proofs.YtegjollhajgcdaaW.PrintMore
set_option linter.unusedVariables false
def Mades (W : World) (b : Nat) (s : ByteArray) (v : Value) : Prop :=
  W.heap[b]? = some (.cells #[.string ⟨#[]⟩, .slice none 0 0] 27 (0, 0)) ∧ W.heap[b + 1]? = some (.cells #[.string s, v] 27 (0, 0))
theorem keep_mades {w W W' : World} {g : Nat} {s : ByteArray} {v : Value} (hs : w.heap.size ≤ W.heap.size) (h : Mades W w.heap.size s v) (hg : g < w.heap.size) (hk : KeepBut W W' g none) : Mades W' w.heap.size s v :=
  ⟨hk.blk h.1 (by omega) (by simp), hk.blk h.2 (by omega) (by simp)⟩
theorem mades_cell {W : World} {b : Nat} {s : ByteArray} {v : Value} (h : Mades W b s v) : W.cell? ⟨b + 1, 0, none⟩ = some (.string s) := (blk_cell h.2 0).trans rfl
theorem mades_cell1 {W : World} {b : Nat} {s : ByteArray} {v : Value} (h : Mades W b s v) : W.cell? ⟨b + 1, 1, none⟩ = some v := (blk_cell h.2 1).trans rfl
theorem mades_frozen {W : World} {b : Nat} {s : ByteArray} {v : Value} (h : Mades W b s v) : W.frozen? ⟨b + 1, 0, none⟩ = false := blk_frozen h.2 0
theorem mades_frozen1 {W : World} {b : Nat} {s : ByteArray} {v : Value} (h : Mades W b s v) : W.frozen? ⟨b + 1, 1, none⟩ = false := blk_frozen h.2 1
theorem set_mades {W : World} {b : Nat} {s : ByteArray} {v : Value} (h : Mades W b s v) (s' : ByteArray) (o : Obj) : Mades ((W.setCell ⟨b + 1, 0, none⟩ (.string s')).alloc o) b s' v :=
  ⟨blk_alloc (blk_far h.1 (by simp) _) o, blk_alloc (by simpa using blk_set h.2 0 (.string s')) o⟩
theorem from_le {a b c d n p q : Int} (h : cippuskit_Urn_From.f a b c d = some (n, p, q)) : n ≤ 9223372036854775807 := by
  unfold cippuskit_Urn_From.f at h
  rw [Option.bind_eq_some_iff] at h
  obtain ⟨z, _, h⟩ := h
  simp only [Option.some.injEq, Prod.mk.injEq] at h
  rw [← h.1]
  unfold wrap64
  omega
theorem conv_one (W : World) (x : Int) : (Go.convert 61 9 (.slice (some ⟨W.heap.size, 0, none⟩) 1 1)).run Try.prog (W.alloc (.cells #[.int .u8 x] 5)) = .ok (.string (strOfNums [x])) (W.alloc (.cells #[.int .u8 x] 5)) := by
  refine string_of_reads (e := 5) Try.underlying61 Try.underlying5 Try.underlying9 ⟨rfl, by decide, fun _ => ⟨_, rfl, fun j hj => ?_⟩⟩
  obtain rfl : j = 0 := by omega
  rw [add_plain]
  exact (blk_cell (blk_new W _) 0).trans rfl
def RelStone (w0 w : World) (g : Nat) (st : ByteArray) (r4 r5 : Int) (n : Nat) (wr : World) : Prop :=
  ∃ (s : ByteArray) (a b : Int), IsS72 w0 wr g a b ∧ Below w0.heap.size w0 wr ∧ KeepBut w wr g none ∧ Mades wr w.heap.size s (.slice none 0 0) ∧ stoneGo n a b s = some (st, r4, r5)
structure F16 (w0 w : World) (g bx : Nat) (x : S24) (s : ByteArray) (vL v : Value) (L : List S24) (S : List Int) (a b : Int) (W : World) : Prop where
  hI : IsS72 w0 W g a b
  hB : Below w0.heap.size w0 W
  hK : KeepBut w W g none
  hM : Mades W w.heap.size s v
  hbx : W.heap[bx]? = some (.cells #[.string x.f0, .int .i64 x.f1, .bool x.f2] 24 (0, 0))
  hL : Kd.R k24 24 W w.heap.size (fun _ => True) vL L
  hS : Kd.R (Kd.int .i64) 3 W w.heap.size (fun _ => True) v S
  hge : w.heap.size ≤ bx
  hne : some bx ≠ vL.ownBlock
theorem R_keepg {α : Type} {d : Kd α} {e base g : Nat} {v : Value} {xs : List α} {W W' w0 : World} {a b : Int} (h : d.R e W base (fun _ => True) v xs) (hI : IsS72 w0 W g a b) (ht : ∀ q, q ∈ e :: d.E → q ≠ 72) (hk : ∀ k, k < W.heap.size → k ≠ g → W'.heap[k]? = W.heap[k]?) : d.R e W' base (fun _ => True) v xs :=
  Kd.R_mono (Kd.R_step (Kd.R_types h hI.1 ht) (fun k ok hlt => hk k hlt ok.2)) (fun _ _ => trivial)
theorem f16_mk {w0 w wr w6 w7 : World} {g : Nat} {x : S24} {s : ByteArray} {vL v : Value} {L : List S24} {S : List Int} {a b a' b' : Int} (hgw : g < w.heap.size) (hB0 : Below w0.heap.size w0 w)
    (hI : IsS72 w0 wr g a b) (hK : KeepBut w wr g none) (hM : Mades wr w.heap.size s v) (hL : Kd.R k24 24 wr w.heap.size (fun _ => True) vL L) (hS : Kd.R (Kd.int .i64) 3 wr w.heap.size (fun _ => True) v S)
    (h6 : KeepBut wr w6 g none) (h7 : KeepBut (w6.alloc (.cells #[.string ⟨#[]⟩, .int .i64 x.f1, .bool x.f2] 24)) w7 g none) (hI7 : IsS72 w0 w7 g a' b') (hB7 : Below w0.heap.size w0 w7) :
    F16 w0 w g w6.heap.size x s vL v L S a' b' (w7.setCell ⟨w6.heap.size, 0, none⟩ (.string x.f0)) := by
  have hgl : g < wr.heap.size := hI.lt
  have hs6 := h6.1
  have hs7 := h7.1
  simp only [World.size_alloc] at hs7
  have hs0 := hK.1
  have hkeep : ∀ k, k < wr.heap.size → k ≠ g → (w7.setCell ⟨w6.heap.size, 0, none⟩ (.string x.f0)).heap[k]? = wr.heap[k]? := fun k hk hkg => by
    rw [Below.heap_setCell w7 _ _ k (by show k ≠ w6.heap.size; omega), h7.2 k (by simp only [World.size_alloc]; omega) hkg (by simp), Below.heap_alloc w6 _ k (by omega), h6.2 k hk hkg (by simp)]
  have hbx : w7.heap[w6.heap.size]? = some (.cells #[.string ⟨#[]⟩, .int .i64 x.f1, .bool x.f2] 24 (0, 0)) := h7.blk (blk_new w6 _) (by omega) (by simp)
  refine ⟨hI7.far (by show g ≠ w6.heap.size; omega) _, hB7.setCell (by show _ ≤ w6.heap.size; have := hB0.size; omega) _, ?_, ⟨(hkeep _ (blk_lt hM.1) (by omega)).trans hM.1, (hkeep _ (blk_lt hM.2) (by omega)).trans hM.2⟩, by simpa using blk_set hbx 0 (.string x.f0), R_keepg hL hI (by decide) hkeep, R_keepg hS hI (by decide) hkeep, by omega, fun e_ => by
    obtain ⟨_, h2⟩ := Kd.R_typed hL _ e_.symm
    have := blk_lt h2
    omega⟩
  exact ⟨by simp; omega, fun k hk hkg _ => (hkeep k (by omega) hkg).trans (hK.2 k hk hkg (by simp))⟩
structure F17 (w0 w : World) (g : Nat) (s : ByteArray) (vL v : Value) (L : List S24) (S : List Int) (a b : Int) (W : World) : Prop where
  hI : IsS72 w0 W g a b
  hB : Below w0.heap.size w0 W
  hK : KeepBut w W g none
  hM : Mades W w.heap.size s v
  hL : Kd.R k24 24 W w.heap.size (fun _ => True) vL L
  hS : Kd.R (Kd.int .i64) 3 W w.heap.size (fun _ => True) v S
theorem f17_mk {w0 w W wB : World} {g bx : Nat} {x : S24} {s : ByteArray} {vL v vA vB : Value} {L : List S24} {S : List Int} {a b t : Int} (hgw : g < w.heap.size) (hw : Below w0.heap.size w0 w)
    (hF : F16 w0 w g bx x s vL v L S a b W) (hBB : Below w.heap.size W wB) (hMB : Mades wB w.heap.size s v) (hLB : Kd.R k24 24 wB w.heap.size (fun _ => True) vA (L ++ [x])) (hSB : Kd.R (Kd.int .i64) 3 wB w.heap.size (fun _ => True) vB (S ++ [t])) :
    F17 w0 w g s vA vB (L ++ [x]) (S ++ [t]) a b (wB.setCell ⟨w.heap.size + 1, 1, none⟩ vB) := by
  have hkeep : ∀ k, k ≠ w.heap.size + 1 → (wB.setCell ⟨w.heap.size + 1, 1, none⟩ vB).heap[k]? = wB.heap[k]? := fun k hk => Below.heap_setCell wB _ _ k hk
  have hI : IsS72 w0 wB g a b := ⟨(hBB.block g hgw).trans hF.hI.1, hF.hI.2⟩
  have hB : Below w0.heap.size w0 wB := hF.hB.trans (hBB.mono hw.size)
  refine ⟨hI.far (by show g ≠ w.heap.size + 1; omega) _, hB.setCell (by show _ ≤ w.heap.size + 1; have := hw.size; omega) _, ?_, ⟨(hkeep _ (by omega)).trans hMB.1, ?_⟩, ?_, ?_⟩
  · refine keep_far ?_ (by show w.heap.size ≤ w.heap.size + 1; omega) _
    exact ⟨Nat.le_trans hF.hK.1 hBB.size, fun k hk hkg _ => (hBB.block k hk).trans (hF.hK.2 k hk hkg (by simp))⟩
  · simpa using blk_set hMB.2 1 vB
  · exact Kd.R_mono (Kd.R_step (Kd.R_types hLB hMB.2 (by decide)) (fun k ok _ => hkeep k ok.2)) (fun _ _ => trivial)
  · exact Kd.R_mono (Kd.R_step (Kd.R_types hSB hMB.2 (by decide)) (fun k ok _ => hkeep k ok.2)) (fun _ _ => trivial)
theorem blk_new2 (W : World) (o1 o2 : Obj) : ((W.alloc o1).alloc o2).heap[W.heap.size + 1]? = some o2 := by
  have := blk_new (W.alloc o1) o2
  rwa [World.size_alloc] at this
theorem keepA {W wA : World} {row : Option Nat} (hg : W.grownBy wA row) : ∀ (k : Nat) (o : Obj), W.heap[k]? = some o → some k ≠ row → wA.heap[k]? = some o := fun _ _ h1 h2 => blk_grown h1 hg h2
theorem across_mades {W w1 : World} {b : Nat} {s : ByteArray} {v vR : Value} {α : Type} {d : Kd α} {e base : Nat} {ok : Nat → Prop} {xs : List α} (hM : Mades W b s v) (hR : d.R e W base ok vR xs) (hg : W.grownBy w1 vR.ownBlock) (he : e ≠ 27) : Mades w1 b s v :=
  ⟨blk_grown hM.1 hg (Kd.R_ne hR hM.1 he), blk_grown hM.2 hg (Kd.R_ne hR hM.2 he)⟩
theorem across_R {W w1 : World} {vR v : Value} {α β : Type} {d : Kd α} {d' : Kd β} {e e' base : Nat} {xs : List α} {ys : List β} (h : d.R e W base (fun _ => True) v xs) (hR : d'.R e' W base (fun _ => True) vR ys) (hg : W.grownBy w1 vR.ownBlock) (he : ∀ q, q ∈ e :: d.E → q ≠ e') : d.R e w1 base (fun _ => True) v xs :=
  Kd.R_mono (Kd.R_grown (Kd.R_apart' h (Kd.R_typed hR) he) hg (fun k ok => ok.2)) (fun _ _ => trivial)
def RelCopy (w0 w : World) (g : Nat) (er : Int) (st : ByteArray) (z1 : List S24) (z2 : List Int) (z3 z4 : Int) (n : Nat) (v12 : Value) (wr : World) : Prop :=
  ∃ (L : List S24) (S : List Int) (a b : Int) (v : Value), IsS72 w0 wr g a b ∧ Below w0.heap.size w0 wr ∧ KeepBut w wr g none ∧ Mades wr w.heap.size st v ∧ Kd.R k24 24 wr w.heap.size (fun _ => True) v12 L ∧ Kd.R (Kd.int .i64) 3 wr w.heap.size (fun _ => True) v S ∧ copyGo n er st L S a b = some (z1, z2, z3, z4)
set_option maxHeartbeats 4000000 in
set_option maxRecDepth 100000 in
theorem copiesOf_calls (g : Nat) (s0_0 : Int) (s0_1 : Int) (a1 : Int) (a2 : Int) (a3 : Int) (r1 : List (S24)) (r2 : ByteArray) (r3 : List Int) (r4 : Int) (r5 : Int) (w0 w : World) (hI : IsS72 w0 w g s0_0 s0_1) (hB : Below w0.heap.size w0 w) (h : copiesOf s0_0 s0_1 a1 a2 a3 = some (r1, r2, r3, r4, r5)) :
    Calls Try.prog 13 #[.pointer (some ⟨g, 0, none⟩), .int .i64 a1, .int .i64 a2, .int .i64 a3] w fun e w' => ∃ v0_ v2_ : Value, e = .returned (.tuple #[v0_, .agg #[.string r2, v2_]]) ∧ Kd.R k24 24 w' w.heap.size (fun _ => True) v0_ r1 ∧ Kd.R (Kd.int .i64) 3 w' w.heap.size (fun _ => True) v2_ r3 ∧ IsS72 w0 w' g r4 r5 ∧ Below w0.heap.size w0 w' ∧ KeepBut w w' g none := by
  unfold copiesOf at h
  rw [Option.bind_eq_some_iff] at h
  obtain ⟨⟨n1, p1, q1⟩, h1, h⟩ := h
  rw [Option.bind_eq_some_iff] at h
  obtain ⟨⟨st, p2, q2⟩, h2, h⟩ := h
  rw [Option.bind_eq_some_iff] at h
  obtain ⟨⟨n3, p3, q3⟩, h3, h⟩ := h
  rw [Option.map_eq_some_iff] at h
  obtain ⟨⟨z1, z2, z3, z4⟩, h4, hr⟩ := h
  dsimp only at h2 h3 h4 hr
  simp only [Prod.mk.injEq] at hr
  obtain ⟨rfl, rfl, rfl, rfl, rfl⟩ := hr
  have H1 := Aside0.mk h1; have H2 := Aside0.mk h2; have H3 := Aside0.mk h3; have H4 := Aside0.mk h4
  clear h1 h2 h3 h4
  have HI := Aside0.mk hI
  have HB := Aside0.mk hB
  have hgw : g < w.heap.size := hI.lt
  clear hI hB
  go_enter Try.func13, Try.ntmps13
  go_wp2_with fail
  refine (cippuskit_Urn_From.calls _ _ _ _ _ _ _ _ w0 _ ((HI.out.alloc _).alloc _) (below_alloc (below_alloc HB.out _) _) H1.out).mono ?_
  rintro e w1 ⟨rfl, hI1, hB1, hK1⟩
  have hM : Mades w1 w.heap.size ⟨#[]⟩ (.slice none 0 0) := by
    refine ⟨hK1.blk (blk_alloc (blk_new w _) _) (by omega) (by simp), hK1.blk ?_ (by omega) (by simp)⟩
    have := blk_new (w.alloc (.cells #[.string ⟨#[]⟩, .slice none 0 0] 27)) (.cells #[.string ⟨#[]⟩, .slice none 0 0] 27)
    simpa using this
  have hK0 : KeepBut w w1 g none := (keep_alloc (keep_alloc (KeepBut.refl w g none) _) _).trans hK1 (.inl rfl)
  have HI1 := Aside0.mk hI1; have HB1 := Aside0.mk hB1; have HM := Aside0.mk hM; have HK := Aside0.mk hK0
  clear hI1 hB1 hM hK0 hK1
  go_wp2_with fail
  go_loopw [11] (fun v wr => ∃ i : Int, v = .int .i64 i ∧ i ≤ 9223372036854775807 ∧ RelStone w0 w g st p2 q2 i.toNat wr) (fun v _ => (intOf v).toNat)
  case atStart => exact ⟨n1, rfl, from_le H1.out, _, _, _, HI1.out, HB1.out, HK.out, HM.out, H2.out⟩
  case round =>
    obtain ⟨i, rfl, hi, s, a, b, hI, hb0, hK, hM, hs⟩ := hrel
    by_cases hlt : 0 < i
    · obtain ⟨n, hn⟩ : ∃ n, i.toNat = n + 1 := ⟨i.toNat - 1, by omega⟩
      rw [hn, stoneGo, Option.bind_eq_some_iff] at hs
      obtain ⟨⟨t1, t2, t3⟩, ht, hs⟩ := hs
      dsimp only at hs
      split at hs
      case isFalse => cases hs
      case isTrue hz =>
      have HT := Aside0.mk ht; have HS := Aside0.mk hs; have HM2 := Aside0.mk hM; have HI2 := Aside0.mk hI; have HB2 := Aside0.mk hb0; have HK2 := Aside0.mk hK
      have hc := mades_cell hM
      have hf := mades_frozen hM
      clear ht hs hM hI hb0 hK
      go_wp2_with fail
      have kc := conv_one
      have kz : ∀ x : Int, (strOfNums [x]).size = 1 := fun _ => rfl
      have kw : (9223372036854775807 < s.size + 1) = False := eq_false (by omega)
      go_region_with (go_at_call 28; refine (cippuskit_Urn_Up.calls _ _ _ _ _ _ _ w0 _ (by exact HI2.out) (by exact below_drew HB2.out) HT.out).mono ?_; rintro e w2 ⟨rfl, hI3, hB3, hK3⟩; have hM3 := keep_mades HK2.out.1 HM2.out hgw hK3; have hc3 := mades_cell hM3; have hf3 := mades_frozen hM3; have hl3 : w.heap.size + 1 < w2.heap.size := blk_lt hM3.2)
      all_goals
        go_wp2_with fail
        go_roundw
        case rel =>
          refine ⟨i - 1, by go_num, by omega, s ++ strOfNums [(wrap64 (65 + t1)) % 256], t2, t3, ?_, ?_, ?_, ?_, ?_⟩
          rotate_left 4
          · rw [show (i - 1).toNat = n by omega]; exact HS.out
          · exact (hI3.far (by simp; omega) _).alloc _
          · exact below_alloc (hB3.setCell (Nat.le_trans HB.out.size (by simp)) _) _
          · exact keep_alloc (keep_far (HK2.out.trans hK3 (.inl rfl)) (by simp) _) _
          · exact set_mades hM3 _ _
        case measure => simp [intOf]; omega
    · have h0 : i.toNat = 0 := by omega
      rw [h0, stoneGo] at hs
      simp only [Option.some.injEq, Prod.mk.injEq] at hs
      obtain ⟨rfl, rfl, rfl⟩ := hs
      have HI2 := Aside0.mk hI; have HB2 := Aside0.mk hb0; have HK2 := Aside0.mk hK; have HM2 := Aside0.mk hM
      clear hI hb0 hK hM
      go_wp2_with fail
      refine (cippuskit_Urn_From.calls _ _ _ _ _ _ _ _ w0 _ HI2.out HB2.out H3.out).mono ?_
      rintro e w2 ⟨rfl, hI3, hB3, hK3⟩
      have hM3 := keep_mades HK2.out.1 HM2.out hgw hK3
      have HI3 := Aside0.mk hI3; have HB3 := Aside0.mk hB3; have HK3 := Aside0.mk (HK2.out.trans hK3 (.inl rfl)); have HM3 := Aside0.mk hM3
      clear hI3 hB3 hK3 hM3
      go_wp2_with fail
      go_loopw [12, 13] (fun v12 v13 wr => ∃ i : Int, v13 = .int .i64 i ∧ i ≤ 9223372036854775807 ∧ RelCopy w0 w g a3 s z1 z2 z3 z4 i.toNat v12 wr) (fun _ v _ => (intOf v).toNat)
      case atStart => exact ⟨n3, rfl, from_le H3.out, [], [], _, _, _, HI3.out, HB3.out, HK3.out, HM3.out, Kd.R_nil _ _ _ _ _, Kd.R_nil _ _ _ _ _, H4.out⟩
      case round =>
        obtain ⟨i, rfl, hi, L, S, a, b, v, hI, hb0, hK, hM, hL, hS, hc⟩ := hrel
        have HI4 := Aside0.mk hI; have HB4 := Aside0.mk hb0; have HK4 := Aside0.mk hK; have HM4 := Aside0.mk hM; have HL4 := Aside0.mk hL; have HS4 := Aside0.mk hS
        clear hI hb0 hK hM hL hS
        by_cases hlt : 0 < i
        · obtain ⟨n, hn⟩ : ∃ n, i.toNat = n + 1 := ⟨i.toNat - 1, by omega⟩
          rw [hn, copyGo, Option.bind_eq_some_iff] at hc
          obtain ⟨⟨t1, t2, t3⟩, ht, hc⟩ := hc
          rw [Option.bind_eq_some_iff] at hc
          obtain ⟨⟨u1, u2, u3⟩, hu, hc⟩ := hc
          dsimp only at hu hc
          go_upto_block 3 with fail
          go_cut [12] (fun s12 wx => RelCopy w0 w g a3 s z1 z2 z3 z4 n s12 wx)
          case first =>
            obtain ⟨A, c, rfl, hLc, hLr⟩ := Kd.R_reads HL4.out
            have HT := Aside0.mk ht; have HU := Aside0.mk hu
            clear ht hu
            by_cases hneg : t1 < 0
            · rw [if_pos hneg, if_neg (by omega)] at hc
              simp only [Option.bind_some] at hc
              rw [Option.bind_eq_some_iff] at hc
              obtain ⟨⟨e1, e2, e3⟩, he, hc⟩ := hc
              split at hc
              case isFalse => cases hc
              case isTrue hroom =>
              have HE := Aside0.mk he; have HC := Aside0.mk hc
              clear he hc
              have ht := HT.out
              rw [show wrap64 ((L.length : Int) - 1) = (L.length : Int) - 1 by unfold wrap64; omega] at ht
              have HT := Aside0.mk ht
              clear ht
              have hnegb : decide (t1 < 0) = true := decide_eq_true hneg
              have hnegc : decide (0 ≤ t1) = false := decide_eq_false (by omega)
              go_wp2_with fail
              (with_reducible refine (cippuskit_Urn_From.calls _ _ _ _ _ _ _ _ w0 _ HI4.out HB4.out HT.out).mono ?_)
              rintro e w5 ⟨rfl, hI5, hB5, hK5⟩
              go_wp2_with fail
              (with_reducible refine (cippuskit_Urn_Up.calls _ _ _ _ _ _ _ w0 _ hI5 hB5 HU.out).mono ?_)
              rintro e w6 ⟨rfl, hI6, hB6, hK6⟩
              have hM6 := keep_mades (Nat.le_trans HK4.out.1 hK5.1) (keep_mades HK4.out.1 HM4.out hgw hK5) hgw hK6
              have hc6 := mades_cell hM6
              have hl6 : w.heap.size + 1 < w6.heap.size := blk_lt hM6.2
              go_wp2_with fail
              (with_reducible refine (erred_calls _ _ _ _ _ _ _ _ w0 _ (hI6.alloc _) (below_alloc hB6 _) HE.out).mono ?_)
              rintro e w7 ⟨rfl, hI7, hB7, hK7⟩
              have hM7 : Mades w7 w.heap.size s v := keep_mades (by simp; omega) ⟨blk_alloc hM6.1 _, blk_alloc hM6.2 _⟩ hgw hK7
              have hbx7 : w7.heap[w6.heap.size]? = some (.cells #[.string ⟨#[]⟩, .int .i64 u1, .bool true] 24 (0, 0)) := hK7.blk (blk_new w6 _) (by omega) (by simp)
              have hx0 := (blk_cell hbx7 0).trans rfl
              have hf0 := blk_frozen hbx7 0
              go_upto_region 16 with fail
              have hF0 := f16_mk (x := ⟨e1, u1, true⟩) hgw HB.out HI4.out HK4.out HM4.out HL4.out HS4.out (hK5.trans hK6 (.inl rfl)) hK7 hI7 hB7
              generalize (w7.setCell { block := w6.heap.size, off := 0 } (Value.string e1)) = W8 at hF0 ⊢
              obtain ⟨bx, hbx⟩ : ∃ bx, w6.heap.size = bx := ⟨_, rfl⟩
              rw [hbx] at hF0 ⊢
              have hF := Aside0.mk hF0
              clear hF0 hI5 hB5 hK5 hI6 hB6 hK6 hM6 hc6 hl6 hI7 hB7 hK7 hM7 hx0 hf0
              try clear hbx
              clear hLc hLr HI4 HB4 HK4 HM4 HL4 HS4 HI3 HB3 HK3 HM3 HI2 HB2 HK2 HM2 HI1 HB1 HM HK HT HU HE H1 H2 H3 H4
              have hx0 : W8.cell? ⟨bx, 0, none⟩ = some (.string e1) := (blk_cell hF.out.hbx 0).trans rfl
              have hx1 : W8.cell? ⟨bx, 1, none⟩ = some (.int .i64 u1) := (blk_cell hF.out.hbx 1).trans rfl
              have hx2 : W8.cell? ⟨bx, 2, none⟩ = some (.bool true) := (blk_cell hF.out.hbx 2).trans rfl
              have hy1 : W8.cell? ⟨w.heap.size + 1, 1, none⟩ = some v := mades_cell1 hF.out.hM
              have hbxne : w.heap.size + 1 ≠ bx := fun e_ => by
                have h1 := hF.out.hbx
                rw [← e_, hF.out.hM.2] at h1
                simp at h1
              have hbxl : bx < W8.heap.size := blk_lt hF.out.hbx
              have hml : w.heap.size + 1 < W8.heap.size := blk_lt hF.out.hM.2
              have hml1 : w.heap.size < W8.heap.size := by omega
              have hbxl1 : bx < W8.heap.size + 1 := by omega
              have hbxl2 : bx ≤ W8.heap.size := by omega
              have hLen : L.length + 1 < 4398046511104 := hroom.1
              have hSen : S.length + 1 < 17592186044416 := hroom.2
              have hLne : Aside0 (∀ k, W8.heap.size ≤ k → some k ≠ (Value.slice A L.length c).ownBlock) := ⟨fun k hk e => by
                have := Kd.R_typed hF.out.hL k e.symm
                obtain ⟨_, h2⟩ := this
                have := blk_lt h2
                omega⟩
              go_region_law (first
                | (refine OLies.R_append_lies_step k24 (w0 := W8) w.heap.size rfl (.tmp 72) (.tmp 74) 22 24 (.agg #[.string ⟨#[]⟩, .int .i64 0, .bool false]) 32 rfl Try.underlying22 info24 rfl (by decide) (by omega) (.slice A L.length c) L ⟨e1, u1, true⟩ [.string e1, .int .i64 u1, .bool true] (fun _ => True) (fun _ => False) _ (0, 0) rfl rfl ?_ (k24_mkM _ _ _ _) (fun _ h => h.elim) (fun _ _ => trivial) ?_ ?_ ?_ ?_ ?_
                   · first | exact blk_new _ _ | exact blk_alloc (blk_new _ _) _ | exact blk_new2 _ _ _
                   · repeat (first | exact hF.out.hL | apply Kd.R_alloc | apply Kd.R_drew)
                   · repeat (first | exact Below.refl _ _ | apply below_drew | refine Below.alloc ?_ (by first | (simp; done) | (simp; omega) | omega) _)
                   · first | (simp; done) | (simp; omega) | omega
                   · omega
                   intro vA wA hLA hBA hgA hatA
                   have hkeepA := Aside0.mk (keepA hgA)
                   have hMA : Mades wA w.heap.size s v := across_mades (by first | exact ⟨hF.out.hM.1, hF.out.hM.2⟩ | exact ⟨blk_alloc hF.out.hM.1 _, blk_alloc hF.out.hM.2 _⟩ | exact ⟨blk_alloc (blk_alloc hF.out.hM.1 _) _, blk_alloc (blk_alloc hF.out.hM.2 _) _⟩) (by repeat (first | exact hF.out.hL | apply Kd.R_alloc | apply Kd.R_drew)) hgA (by decide)
                   have hSA : Kd.R (Kd.int .i64) 3 wA w.heap.size (fun _ => True) v S := across_R (by repeat (first | exact hF.out.hS | apply Kd.R_alloc | apply Kd.R_drew)) (by repeat (first | exact hF.out.hL | apply Kd.R_alloc | apply Kd.R_drew)) hgA (by decide)
                   have hbxA := keepA hgA bx _ (by first | exact hF.out.hbx | exact blk_alloc hF.out.hbx _ | exact blk_alloc (blk_alloc hF.out.hbx _) _) hF.out.hne
                   have hxA0 := (blk_cell hbxA 0).trans rfl
                   have hxA1 := (blk_cell hbxA 1).trans rfl
                   have hxA2 := (blk_cell hbxA 2).trans rfl
                   have hyA : wA.cell? ⟨w.heap.size + 1, 1, none⟩ = some v := mades_cell1 hMA
                   have hmA : w.heap.size + 1 < wA.heap.size := blk_lt hMA.2
                   have hmA1 : w.heap.size < wA.heap.size := by omega)
                | (refine OLies.R_append_lies_step (Kd.int .i64) (w0 := W8) w.heap.size rfl (.tmp 77) (.tmp 79) 25 3 (.int .i64 0) 8 rfl Try.underlying25 info3 rfl (by decide) (by omega) v S t1 [.int .i64 t1] (fun _ => True) (fun _ => False) _ (0, 0) rfl rfl ?_ rfl (fun _ h => h.elim) (fun _ _ => trivial) ?_ ?_ ?_ ?_ ?_
                   · first | exact blk_new _ _ | exact hkeepA.out _ _ (blk_new2 _ _ _) (hLne.out _ (by omega)) | exact hkeepA.out _ _ (blk_alloc (blk_new _ _) _) (hLne.out _ (by omega)) | exact hkeepA.out _ _ (blk_new _ _) (hLne.out _ (by omega))
                   · repeat (first | exact hSA | apply Kd.R_alloc | apply Kd.R_drew)
                   · repeat (first | exact hBA | apply below_drew | refine Below.alloc ?_ (by first | (simp; done) | (simp; omega) | omega) _)
                   · first | (simp; done) | (simp; omega) | omega
                   · omega
                   intro vB wB hSB hBB hgB hatB
                   obtain ⟨AB, cB, hvB⟩ := Kd.R_slice hSB
                   rw [List.length_append] at hvB
                   simp only [List.length_cons, List.length_nil] at hvB
                   subst hvB
                   have hMB : Mades wB w.heap.size s v := across_mades (by first | exact ⟨hMA.1, hMA.2⟩ | exact ⟨blk_alloc hMA.1 _, blk_alloc hMA.2 _⟩) (by repeat (first | exact hSA | apply Kd.R_alloc | apply Kd.R_drew)) hgB (by decide)
                   have hLB : Kd.R k24 24 wB w.heap.size (fun _ => True) vA (L ++ [⟨e1, u1, true⟩]) := across_R (by repeat (first | exact hLA | apply Kd.R_alloc | apply Kd.R_drew)) (by repeat (first | exact hSA | apply Kd.R_alloc | apply Kd.R_drew)) hgB (by decide)
                   have hbxB := keepA hgB bx _ (by first | exact hbxA | exact blk_alloc hbxA _) (Kd.R_ne hSA hbxA (by decide))
                   have hxB0 := (blk_cell hbxB 0).trans rfl
                   have hxB1 := (blk_cell hbxB 1).trans rfl
                   have hxB2 := (blk_cell hbxB 2).trans rfl
                   have hyB : wB.cell? ⟨w.heap.size + 1, 1, none⟩ = some v := mades_cell1 hMB
                   have hfB : wB.frozen? ⟨w.heap.size + 1, 1, none⟩ = false := mades_frozen1 hMB
                   have HAll := Aside0.mk (f17_mk hgw HB.out hF.out hBB hMB hLB hSB)))
              all_goals
                go_wp2_with fail
                go_meet
                exact ⟨_, _, _, _, _, HAll.out.hI, HAll.out.hB, HAll.out.hK, HAll.out.hM, HAll.out.hL, HAll.out.hS, HC.out⟩
            · rw [if_neg hneg] at hc
              rw [Option.bind_eq_some_iff] at hc
              obtain ⟨⟨o1, o2, o3⟩, ho, hc⟩ := hc
              dsimp only at hc
              rw [if_pos (by omega)] at hc
              split at hc
              case isFalse => simp at hc
              case isTrue hlen =>
              simp only [Option.bind_some] at hc
              rw [Option.bind_eq_some_iff] at hc
              obtain ⟨⟨e1, e2, e3⟩, he, hc⟩ := hc
              split at hc
              case isFalse => cases hc
              case isTrue hroom =>
              have HE := Aside0.mk he; have HC := Aside0.mk hc; have HO := Aside0.mk ho
              clear he hc ho
              have ht := HT.out
              rw [show wrap64 ((L.length : Int) - 1) = (L.length : Int) - 1 by unfold wrap64; omega] at ht
              have HT := Aside0.mk ht
              clear ht
              have hnegb : decide (t1 < 0) = false := decide_eq_false hneg
              have hnegc : decide (0 ≤ t1) = true := decide_eq_true (by omega)
              have hneg0 : 0 ≤ t1 := by omega
              obtain ⟨ad, rfl, hxa, hxb, hxc⟩ := at_T24 hLr t1 hneg0 hlen
              go_wp2_with fail
              (with_reducible refine (cippuskit_Urn_From.calls _ _ _ _ _ _ _ _ w0 _ HI4.out HB4.out HT.out).mono ?_)
              rintro e w5 ⟨rfl, hI5, hB5, hK5⟩
              go_wp2_with fail
              (with_reducible refine (cippuskit_Urn_Up.calls _ _ _ _ _ _ _ w0 _ hI5 hB5 HU.out).mono ?_)
              rintro e w6 ⟨rfl, hI6, hB6, hK6⟩
              go_wp2_with fail
              (with_reducible refine (cippuskit_Urn_Odds.calls _ _ _ _ _ _ _ _ w0 _ hI6 hB6 HO.out).mono ?_)
              rintro e wo ⟨rfl, hIo, hBo, hKo⟩
              have hMo := keep_mades (Nat.le_trans (Nat.le_trans HK4.out.1 hK5.1) hK6.1) (keep_mades (Nat.le_trans HK4.out.1 hK5.1) (keep_mades HK4.out.1 HM4.out hgw hK5) hgw hK6) hgw hKo
              have hco := mades_cell hMo
              have hlo : w.heap.size + 1 < wo.heap.size := blk_lt hMo.2
              have hgne : (ad.add (t1.toNat * 3)).block ≠ g := fun e_ => by
                have h1 : (ad.add (t1.toNat * 3)).block = ad.block := by unfold Addr.add; split <;> rfl
                obtain ⟨cl, h2⟩ := Kd.R_typed HL4.out ad.block rfl
                rw [← h1, e_, HI4.out.1] at h2
                simp at h2
              have hxo : wo.cell? (ad.add (t1.toNat * 3)) = some (.string (rd_T24 L t1).f0) := keep_cell ((hK5.trans hK6 (.inl rfl)).trans hKo (.inl rfl)) hxa hgne
              have hxl : (ad.add (t1.toNat * 3)).block < wo.heap.size := World.block_lt_of_cell? wo _ hxo
              go_wp2_with fail
              (with_reducible refine (erred_calls _ _ _ _ _ _ _ _ w0 _ (hIo.alloc _) (below_alloc hBo _) HE.out).mono ?_)
              rintro e w7 ⟨rfl, hI7, hB7, hK7⟩
              have hM7 : Mades w7 w.heap.size s v := keep_mades (by simp; omega) ⟨blk_alloc hMo.1 _, blk_alloc hMo.2 _⟩ hgw hK7
              have hbx7 : w7.heap[wo.heap.size]? = some (.cells #[.string ⟨#[]⟩, .int .i64 u1, .bool o1] 24 (0, 0)) := hK7.blk (blk_new wo _) (by omega) (by simp)
              have hx0 := (blk_cell hbx7 0).trans rfl
              have hf0 := blk_frozen hbx7 0
              go_upto_region 16 with fail
              have hF0 := f16_mk (x := ⟨e1, u1, o1⟩) hgw HB.out HI4.out HK4.out HM4.out HL4.out HS4.out ((hK5.trans hK6 (.inl rfl)).trans hKo (.inl rfl)) hK7 hI7 hB7
              generalize (w7.setCell { block := wo.heap.size, off := 0 } (Value.string e1)) = W8 at hF0 ⊢
              obtain ⟨bx, hbx⟩ : ∃ bx, wo.heap.size = bx := ⟨_, rfl⟩
              rw [hbx] at hF0 ⊢
              have hF := Aside0.mk hF0
              clear hF0 hI5 hB5 hK5 hI6 hB6 hK6 hIo hBo hKo hMo hco hlo hI7 hB7 hK7 hM7 hx0 hf0
              try clear hbx
              clear hLc hLr HI4 HB4 HK4 HM4 HL4 HS4 HI3 HB3 HK3 HM3 HI2 HB2 HK2 HM2 HI1 HB1 HM HK HT HU HE H1 H2 H3 H4
              have hx0 : W8.cell? ⟨bx, 0, none⟩ = some (.string e1) := (blk_cell hF.out.hbx 0).trans rfl
              have hx1 : W8.cell? ⟨bx, 1, none⟩ = some (.int .i64 u1) := (blk_cell hF.out.hbx 1).trans rfl
              have hx2 : W8.cell? ⟨bx, 2, none⟩ = some (.bool o1) := (blk_cell hF.out.hbx 2).trans rfl
              have hy1 : W8.cell? ⟨w.heap.size + 1, 1, none⟩ = some v := mades_cell1 hF.out.hM
              have hbxne : w.heap.size + 1 ≠ bx := fun e_ => by
                have h1 := hF.out.hbx
                rw [← e_, hF.out.hM.2] at h1
                simp at h1
              have hbxl : bx < W8.heap.size := blk_lt hF.out.hbx
              have hml : w.heap.size + 1 < W8.heap.size := blk_lt hF.out.hM.2
              have hml1 : w.heap.size < W8.heap.size := by omega
              have hbxl1 : bx < W8.heap.size + 1 := by omega
              have hbxl2 : bx ≤ W8.heap.size := by omega
              have hLen : L.length + 1 < 4398046511104 := hroom.1
              have hSen : S.length + 1 < 17592186044416 := hroom.2
              have hLne : Aside0 (∀ k, W8.heap.size ≤ k → some k ≠ (Value.slice (some ad) L.length c).ownBlock) := ⟨fun k hk e => by
                have := Kd.R_typed hF.out.hL k e.symm
                obtain ⟨_, h2⟩ := this
                have := blk_lt h2
                omega⟩
              go_region_law (first
                | (refine OLies.R_append_lies_step k24 (w0 := W8) w.heap.size rfl (.tmp 72) (.tmp 74) 22 24 (.agg #[.string ⟨#[]⟩, .int .i64 0, .bool false]) 32 rfl Try.underlying22 info24 rfl (by decide) (by omega) (.slice (some ad) L.length c) L ⟨e1, u1, o1⟩ [.string e1, .int .i64 u1, .bool o1] (fun _ => True) (fun _ => False) _ (0, 0) rfl rfl ?_ (k24_mkM _ _ _ _) (fun _ h => h.elim) (fun _ _ => trivial) ?_ ?_ ?_ ?_ ?_
                   · first | exact blk_new _ _ | exact blk_alloc (blk_new _ _) _ | exact blk_new2 _ _ _
                   · repeat (first | exact hF.out.hL | apply Kd.R_alloc | apply Kd.R_drew)
                   · repeat (first | exact Below.refl _ _ | apply below_drew | refine Below.alloc ?_ (by first | (simp; done) | (simp; omega) | omega) _)
                   · first | (simp; done) | (simp; omega) | omega
                   · omega
                   intro vA wA hLA hBA hgA hatA
                   have hkeepA := Aside0.mk (keepA hgA)
                   have hMA : Mades wA w.heap.size s v := across_mades (by first | exact ⟨hF.out.hM.1, hF.out.hM.2⟩ | exact ⟨blk_alloc hF.out.hM.1 _, blk_alloc hF.out.hM.2 _⟩ | exact ⟨blk_alloc (blk_alloc hF.out.hM.1 _) _, blk_alloc (blk_alloc hF.out.hM.2 _) _⟩) (by repeat (first | exact hF.out.hL | apply Kd.R_alloc | apply Kd.R_drew)) hgA (by decide)
                   have hSA : Kd.R (Kd.int .i64) 3 wA w.heap.size (fun _ => True) v S := across_R (by repeat (first | exact hF.out.hS | apply Kd.R_alloc | apply Kd.R_drew)) (by repeat (first | exact hF.out.hL | apply Kd.R_alloc | apply Kd.R_drew)) hgA (by decide)
                   have hbxA := keepA hgA bx _ (by first | exact hF.out.hbx | exact blk_alloc hF.out.hbx _ | exact blk_alloc (blk_alloc hF.out.hbx _) _) hF.out.hne
                   have hxA0 := (blk_cell hbxA 0).trans rfl
                   have hxA1 := (blk_cell hbxA 1).trans rfl
                   have hxA2 := (blk_cell hbxA 2).trans rfl
                   have hyA : wA.cell? ⟨w.heap.size + 1, 1, none⟩ = some v := mades_cell1 hMA
                   have hmA : w.heap.size + 1 < wA.heap.size := blk_lt hMA.2
                   have hmA1 : w.heap.size < wA.heap.size := by omega)
                | (refine OLies.R_append_lies_step (Kd.int .i64) (w0 := W8) w.heap.size rfl (.tmp 77) (.tmp 79) 25 3 (.int .i64 0) 8 rfl Try.underlying25 info3 rfl (by decide) (by omega) v S t1 [.int .i64 t1] (fun _ => True) (fun _ => False) _ (0, 0) rfl rfl ?_ rfl (fun _ h => h.elim) (fun _ _ => trivial) ?_ ?_ ?_ ?_ ?_
                   · first | exact blk_new _ _ | exact hkeepA.out _ _ (blk_new2 _ _ _) (hLne.out _ (by omega)) | exact hkeepA.out _ _ (blk_alloc (blk_new _ _) _) (hLne.out _ (by omega)) | exact hkeepA.out _ _ (blk_new _ _) (hLne.out _ (by omega))
                   · repeat (first | exact hSA | apply Kd.R_alloc | apply Kd.R_drew)
                   · repeat (first | exact hBA | apply below_drew | refine Below.alloc ?_ (by first | (simp; done) | (simp; omega) | omega) _)
                   · first | (simp; done) | (simp; omega) | omega
                   · omega
                   intro vB wB hSB hBB hgB hatB
                   obtain ⟨AB, cB, hvB⟩ := Kd.R_slice hSB
                   rw [List.length_append] at hvB
                   simp only [List.length_cons, List.length_nil] at hvB
                   subst hvB
                   have hMB : Mades wB w.heap.size s v := across_mades (by first | exact ⟨hMA.1, hMA.2⟩ | exact ⟨blk_alloc hMA.1 _, blk_alloc hMA.2 _⟩) (by repeat (first | exact hSA | apply Kd.R_alloc | apply Kd.R_drew)) hgB (by decide)
                   have hLB : Kd.R k24 24 wB w.heap.size (fun _ => True) vA (L ++ [⟨e1, u1, o1⟩]) := across_R (by repeat (first | exact hLA | apply Kd.R_alloc | apply Kd.R_drew)) (by repeat (first | exact hSA | apply Kd.R_alloc | apply Kd.R_drew)) hgB (by decide)
                   have hbxB := keepA hgB bx _ (by first | exact hbxA | exact blk_alloc hbxA _) (Kd.R_ne hSA hbxA (by decide))
                   have hxB0 := (blk_cell hbxB 0).trans rfl
                   have hxB1 := (blk_cell hbxB 1).trans rfl
                   have hxB2 := (blk_cell hbxB 2).trans rfl
                   have hyB : wB.cell? ⟨w.heap.size + 1, 1, none⟩ = some v := mades_cell1 hMB
                   have hfB : wB.frozen? ⟨w.heap.size + 1, 1, none⟩ = false := mades_frozen1 hMB
                   have HAll := Aside0.mk (f17_mk hgw HB.out hF.out hBB hMB hLB hSB)))
              all_goals
                go_wp2_with fail
                go_meet
                exact ⟨_, _, _, _, _, HAll.out.hI, HAll.out.hB, HAll.out.hK, HAll.out.hM, HAll.out.hL, HAll.out.hS, HC.out⟩
          case rest =>
            have hcut' := Aside0.mk hcut
            clear hcut
            go_wp2_with fail
            go_roundw
            case rel => exact ⟨i - 1, by go_num, by omega, by rw [show (i - 1).toNat = n by omega]; exact hcut'.out⟩
            case measure => simp [intOf]; omega
        · have h0 : i.toNat = 0 := by omega
          rw [h0, copyGo] at hc
          simp only [Option.some.injEq, Prod.mk.injEq] at hc
          obtain ⟨rfl, rfl, rfl, rfl⟩ := hc
          obtain ⟨A, c, rfl⟩ := Kd.R_slice HL4.out
          obtain ⟨A2, c2, rfl⟩ := Kd.R_slice HS4.out
          have hm0 := mades_cell HM4.out
          have hm1 := mades_cell1 HM4.out
          have hz0 : wr.cell? ⟨w.heap.size, 0, none⟩ = some (.string ⟨#[]⟩) := (blk_cell HM4.out.1 0).trans rfl
          have hz1 : wr.cell? ⟨w.heap.size, 1, none⟩ = some (.slice none 0 0) := (blk_cell HM4.out.1 1).trans rfl
          have hf0 := blk_frozen HM4.out.1 0
          have hf1 := blk_frozen HM4.out.1 1
          go_wp2_with fail
          go_region
          go_wp2_with fail
          have hW : ((wr.setCell ⟨w.heap.size, 0, none⟩ (.string s)).setCell ⟨w.heap.size, 1, none⟩ (.slice A2 S.length c2)).heap[w.heap.size]? = some (.cells #[.string s, .slice A2 S.length c2] 27 (0, 0)) := by
            have h1 := blk_set HM4.out.1 0 (.string s)
            simpa using blk_set h1 1 (.slice A2 S.length c2)
          have hk : ∀ k, k ≠ w.heap.size → ((wr.setCell ⟨w.heap.size, 0, none⟩ (.string s)).setCell ⟨w.heap.size, 1, none⟩ (.slice A2 S.length c2)).heap[k]? = wr.heap[k]? := fun k hk => by rw [Below.heap_setCell _ _ _ k hk, Below.heap_setCell _ _ _ k hk]
          refine bodyPost_ret (results_tc rfl _ _ w.heap.size 27 #[.string s, .slice A2 S.length c2] (0, 0) _ rfl hW Try.underlying27 rfl (by kernel_rfl)) rfl ?_
          refine ⟨_, _, rfl, ?_, ?_, ?_, ?_, ?_⟩
          · exact Kd.R_drew (Kd.R_mono (Kd.R_step (Kd.R_types HL4.out HM4.out.1 (by decide)) (fun k ok _ => hk k ok.2)) (fun _ _ => trivial))
          · exact Kd.R_drew (Kd.R_mono (Kd.R_step (Kd.R_types HS4.out HM4.out.1 (by decide)) (fun k ok _ => hk k ok.2)) (fun _ _ => trivial))
          · exact ((HI4.out.far (by show g ≠ w.heap.size; omega) _).far (by show g ≠ w.heap.size; omega) _).drew
          · exact below_drew ((HB4.out.setCell HB.out.size _).setCell HB.out.size _)
          · exact keep_drew (keep_far (keep_far HK4.out (Nat.le_refl _) _) (Nat.le_refl _) _)
end Go.Proofs.Ytegjollhajgcdaa.P.OwnUrn
namespace Go.Proofs.Ytegjollhajgcdaa.P
open Go.RowKit Go.Proofs.YtegjollhajgcdaaW.PrintWords Go.Proofs.YtegjollhajgcdaaW.PrintLast Go.Proofs.YtegjollhajgcdaaW.PrintMore
attribute [local go_sem] max2_int min2_int max_two min_two max_three min_three max_four min_four   -- for this text's walks alone
set_option linter.unusedVariables false
set_option linter.unusedSimpArgs false
def cippuskit_CopiesOf.f (s0_0 : Int) (s0_1 : Int) (a1 : Int) (a2 : Int) (a3 : Int) : Option ((List (S24)) × ByteArray × List Int × Int × Int) := OwnUrn.copiesOf s0_0 s0_1 a1 a2 a3
theorem cippuskit_CopiesOf.calls (g : Nat) (s0_0 : Int) (s0_1 : Int) (a1 : Int) (a2 : Int) (a3 : Int) (r1 : List (S24)) (r2 : ByteArray) (r3 : List Int) (r4 : Int) (r5 : Int) (w0 w : World) (hI : IsS72 w0 w g s0_0 s0_1) (hB : Below w0.heap.size w0 w) (h : cippuskit_CopiesOf.f s0_0 s0_1 a1 a2 a3 = some (r1, r2, r3, r4, r5)) :
    Calls Try.prog 13 #[.pointer (some ⟨g, 0, none⟩), .int .i64 a1, .int .i64 a2, .int .i64 a3] w fun e w' => ∃ v0_ v2_ : Value, e = .returned (.tuple #[v0_, .agg #[.string r2, v2_]]) ∧ Kd.R k24 24 w' w.heap.size (fun _ => True) v0_ r1 ∧ Kd.R (Kd.int .i64) 3 w' w.heap.size (fun _ => True) v2_ r3 ∧ IsS72 w0 w' g r4 r5 ∧ Below w0.heap.size w0 w' ∧ KeepBut w w' g none := by
  exact OwnUrn.copiesOf_calls g s0_0 s0_1 a1 a2 a3 r1 r2 r3 r4 r5 w0 w hI hB h
end Go.Proofs.Ytegjollhajgcdaa.P
namespace Go.Proofs.Ytegjollhajgcdaa.P
open Go.RowKit Go.Proofs.YtegjollhajgcdaaW.PrintWords Go.Proofs.YtegjollhajgcdaaW.PrintLast Go.Proofs.YtegjollhajgcdaaW.PrintMore
attribute [local go_sem] max2_int min2_int max_two min_two max_three min_three max_four min_four   -- for this text's walks alone
set_option linter.unusedVariables false
set_option linter.unusedSimpArgs false
def cippuskit_NewUrn.f (l0 : List Int) : Option (Int × Int) := OwnUrn.newUrn l0
theorem cippuskit_NewUrn.calls (A0 : Option Addr) (c0 : Nat) (l0 : List Int) (r1 : Int) (r2 : Int) (w0 w : World) (hB : Below w0.heap.size w0 w) (hr0 : Kd.C (Kd.int .i64) w0 A0 l0.length l0) (hc0 : l0.length ≤ c0) (h : cippuskit_NewUrn.f l0 = some (r1, r2)) :
    Calls Try.prog 14 #[.slice A0 l0.length c0] w fun e w' => ∃ g_ : Nat, e = .returned (.pointer (some ⟨g_, 0, none⟩)) ∧ IsS72 w0 w' g_ r1 r2 ∧ Below w0.heap.size w0 w' ∧ Below w.heap.size w w' := by
  exact OwnUrn.newUrn_calls A0 c0 l0 r1 r2 w0 w hB hr0 hc0 h
end Go.Proofs.Ytegjollhajgcdaa.P
namespace Go.Proofs.Ytegjollhajgcdaa.P
open Go.RowKit Go.Proofs.YtegjollhajgcdaaW.PrintWords Go.Proofs.YtegjollhajgcdaaW.PrintLast Go.Proofs.YtegjollhajgcdaaW.PrintMore
attribute [local go_sem] max2_int min2_int max_two min_two max_three min_three max_four min_four   -- for this text's walks alone
set_option linter.unusedVariables false
set_option linter.unusedSimpArgs false
def cippuskit_Ints.f (l0 : List Int) : Option (List Int) := (some (([] : List Int) : List Int)).bind fun y363 => (if y363.length + l0.length < 17592186044416 then (some (y363 ++ l0)) else (none))
set_option maxHeartbeats 8000000 in
set_option maxRecDepth 100000 in
theorem cippuskit_Ints.calls (A0 : Option Addr) (c0 : Nat) (l0 : List Int) (r : List Int) (w : World) (hr0 : Kd.C (Kd.int .i64) w A0 l0.length l0) (hc0 : l0.length ≤ c0) (h : cippuskit_Ints.f l0 = some r) :
    Calls Try.prog 59 #[.slice A0 l0.length c0] w fun e w' => ∃ v0_ : Value, e = .returned (v0_) ∧ Kd.R (Kd.int .i64) 3 w' w.heap.size (fun _ => True) v0_ r ∧ Below w.heap.size w w' := by
  have HR0 := Aside0.mk hr0
  have HC0 := Aside0.mk hc0
  clear hr0 hc0
  have HB := Aside0.mk (Below.refl w.heap.size w)
  have H : ((some (([] : List Int) : List Int)).bind fun y363 => (if y363.length + l0.length < 17592186044416 then (some (y363 ++ l0)) else (none))) = some r := h
  clear h
  obtain ⟨y363, hy363⟩ : ∃ y_ : List Int, y_ = (([] : List Int)) := ⟨_, rfl⟩
  replace H : (if y363.length + l0.length < 17592186044416 then (some (y363 ++ l0)) else (none)) = some r := by first | (rw [hy363]; with_reducible exact H) | (have H2_ := (Option.bind_some _ _).symm.trans H; rw [hy363]; with_reducible exact H2_) | (have H2_ := (Option.bind_some _ _).symm.trans H; with_reducible exact H2_) | with_reducible exact H | (rw [hy363]; exact H) | exact H
  have Ny363 := Aside0.mk hy363
  clear hy363
  by_cases c2 : y363.length + l0.length < 17592186044416
  · rw [if_pos c2] at H
    have LMc2 := Aside0.mk c2
    clear c2
    obtain ⟨y366, hy366⟩ : ∃ y_ : List Int, y_ = (y363 ++ l0) := ⟨_, rfl⟩
    replace H : (some y366) = some r := by first | (rw [hy366]; with_reducible exact H) | (have H2_ := (Option.bind_some _ _).symm.trans H; rw [hy366]; with_reducible exact H2_) | (have H2_ := (Option.bind_some _ _).symm.trans H; with_reducible exact H2_) | with_reducible exact H | (rw [hy366]; exact H) | exact H
    have Ny366 := Aside0.mk hy366
    clear hy366
    obtain rfl := Option.some.inj H
    go_enter Try.func59, Try.ntmps59
    go_wp2_with (first | ((with_reducible refine gate_dst (N := 3) rfl ?_); refine Kd.R_lit (Kd.int .i64) _ 3 ?hg (N := 3) ?hd (xs := ([] : List Int)) (inner := []) (ok := fun _ => True) (okp := fun _ => True) ?hr ?hp (fun _ hk => hk) trivial (Below.refl _ _) (Nat.le_refl _) (by simp) ?_; (case hd => rfl); (case hg => rfl); (case hr => first | (go_simp; done) | (go_simp; rfl)); (case hp => exact (Reps.none _ _)); intro v364 w3 ho4 hb hg_ hnew_; clear hg_ hnew_; (first | rw [← Ny363.out] at ho4 | (simp only [Int.reduceToNat] at ho4; rw [← Ny363.out] at ho4)); have n0_ := Aside0.mk (Kd.R_lower ho4 (below_size (by repeat (first | (with_reducible first | exact HB.out | apply below_alloc | apply pw_below_drewN | apply below_drew1) | exact HB.out)))); have n1_ := Aside0.mk (below_step (by repeat (first | (with_reducible first | exact HB.out | apply below_alloc | apply pw_below_drewN | apply below_drew1) | exact HB.out)) hb); clear HB; have HO365 := n0_; have HB := n1_; clear n0_ n1_; clear hb ho4) | ((with_reducible refine gate_builtin (b := .append) (xs := #[.tmp 3, .tmp 4]) rfl ?_); at_builtin; refine Kd.R_append_rows (Kd.int .i64) (w0 := w) w.heap.size rfl (.tmp 3) (.tmp 4) 25 3 (.int .i64 0) 8 rfl Try.underlying25 info3 rfl (by decide) (by omega) v364 y363 l0 _ _ _ (fun _ => True) (fun _ => False) rfl rfl ?aO ?aR (fun _ _ h => h) (fun _ h => h.elim) ?aF ?aB ?aS ?aL ?_; (case aR => repeat (first | exact (Kd.C_below HR0.out HB.out) | (with_reducible refine Kd.C_alloc ?_ _) | (with_reducible refine Kd.C_drewN ?_ _) | (with_reducible refine Kd.C_drew ?_))); (case aB => exact (by repeat (first | (with_reducible first | exact HB.out | apply below_alloc | apply pw_below_drewN | apply below_drew1) | exact HB.out))); (case aF => exact (fun _ _ => trivial)); (case aO => exact (by (with_reducible repeat (first | apply Kd.R_alloc | apply Kd.R_drewN | apply Kd.R_drew)); exact HO365.out)); (case aS => exact (below_size (by repeat (first | (with_reducible first | exact HB.out | apply below_alloc | apply pw_below_drewN | apply below_drew1) | exact HB.out)))); (case aL => have := LMc2.out; omega); intro v367 w5 ho hb hg hat; rw [← Ny366.out] at ho; have n0_ := Aside0.mk (hb); have n1_ := Aside0.mk (ho); clear HB; clear HO365; have HB := n0_; have HO368 := n1_; clear n0_ n1_; clear ho hb hg hat))
    go_ret
    exact ⟨_, by first | rfl | (simp [errW_none, errW_some] <;> rfl) | (simp [*, errW_none, errW_some] <;> rfl), by (with_reducible repeat (first | apply Kd.R_alloc | apply Kd.R_drewN | apply Kd.R_drew)); exact HO368.out, by repeat (first | (with_reducible first | exact HB.out | apply below_alloc | apply pw_below_drewN | apply below_drew1) | exact HB.out)⟩
  · rw [if_neg c2] at H
    exact absurd H (by simp)
end Go.Proofs.Ytegjollhajgcdaa.P
namespace Go.Proofs.Ytegjollhajgcdaa.P
open Go.RowKit Go.Proofs.YtegjollhajgcdaaW.PrintWords Go.Proofs.YtegjollhajgcdaaW.PrintLast Go.Proofs.YtegjollhajgcdaaW.PrintMore
set_option linter.unusedVariables false
set_option linter.unusedSimpArgs false
structure S27 where
  f0 : ByteArray
  f1 : (List Int)
def z27 : S27 := ⟨(⟨#[]⟩ : ByteArray), ([] : List Int)⟩
def k27 : Kd S27 := Kd.iso (Kd.pair Kd.string (Kd.slice 3 (Kd.int .i64))) (fun x : S27 => (x.f0, x.f1))
theorem k27_open {w : World} {x : S27} {cs : List Value} (h : k27.K w x cs) : ∃ A1 c1, cs = [.string x.f0, .slice A1 x.f1.length c1] ∧ x.f1.length ≤ c1 ∧ (Kd.int .i64).C w A1 x.f1.length x.f1 := by
  obtain ⟨_, _, rfl, rfl, ⟨A1, c1, rfl, l1, g1⟩⟩ := h
  exact ⟨A1, c1, rfl, l1, g1⟩
theorem k27_mkM (w : World) (base : Nat) (ok : Nat → Prop) (x : S27) {v1 : Value} (g1 : (Kd.int .i64).R 3 w base ok v1 x.f1) : k27.M w base ok x [.string x.f0, v1] := ⟨[.string x.f0], [v1], rfl, rfl, ⟨v1, rfl, g1⟩⟩
def rd_T27 (xs : List S27) (i : Int) : S27 := xs.getD i.toNat z27
theorem at_T27 {w : World} {A : Option Addr} {n : Nat} {xs : List S27} (h : Kd.C k27 w A n xs) (i : Int) (h0 : 0 ≤ i) (h1 : i < n) : ∃ ad A1 c1, A = some ad ∧ w.cell? (ad.add (i.toNat * 2)) = some (.string (rd_T27 xs i).f0) ∧ w.cell? ⟨(ad.add (i.toNat * 2)).block, (ad.add (i.toNat * 2)).off + 1, none⟩ = some (.slice A1 (rd_T27 xs i).f1.length c1) ∧ (rd_T27 xs i).f1.length ≤ c1 ∧ (Kd.int .i64).C w A1 (rd_T27 xs i).f1.length (rd_T27 xs i).f1 := by
  obtain ⟨ad, c, e, _, hK, hc0⟩ := Kd.C_get h z27 i h0 h1
  have hc : ∀ j u, c[j]? = some u → w.cell? (ad.add (i.toNat * 2 + j)) = some u := hc0
  obtain ⟨A1, c1, rfl, l1, g1⟩ := k27_open hK
  exact ⟨ad, A1, c1, e, hc 0 _ rfl, by rw [← add_field _ _ 1 (by omega)]; exact hc 1 _ rfl, l1, g1⟩
theorem info27 : (Try.prog.info? 27).map (fun i => (i.zero, i.size, i.bytes)) = some (some (.agg #[(.string ⟨#[]⟩), (.slice none 0 0)]), 2, 40) := by kernel_rfl
end Go.Proofs.Ytegjollhajgcdaa.P
namespace Go.Proofs.Ytegjollhajgcdaa.P
open Go.RowKit Go.Proofs.YtegjollhajgcdaaW.PrintWords Go.Proofs.YtegjollhajgcdaaW.PrintLast Go.Proofs.YtegjollhajgcdaaW.PrintMore
attribute [local go_sem] max2_int min2_int max_two min_two max_three min_three max_four min_four   -- for this text's walks alone
set_option linter.unusedVariables false
set_option linter.unusedSimpArgs false
end Go.Proofs.Ytegjollhajgcdaa.P
namespace Go.Proofs.Ytegjollhajgcdaa.P
open Go.RowKit Go.Proofs.YtegjollhajgcdaaW.PrintWords Go.Proofs.YtegjollhajgcdaaW.PrintLast Go.Proofs.YtegjollhajgcdaaW.PrintMore
attribute [local go_sem] max2_int min2_int max_two min_two max_three min_three max_four min_four   -- for this text's walks alone
set_option linter.unusedVariables false
set_option linter.unusedSimpArgs false
end Go.Proofs.Ytegjollhajgcdaa.P
namespace Go.Proofs.Ytegjollhajgcdaa.P
open Go.RowKit Go.Proofs.YtegjollhajgcdaaW.PrintWords Go.Proofs.YtegjollhajgcdaaW.PrintLast Go.Proofs.YtegjollhajgcdaaW.PrintMore
attribute [local go_sem] max2_int min2_int max_two min_two max_three min_three max_four min_four   -- for this text's walks alone
set_option linter.unusedVariables false
set_option linter.unusedSimpArgs false
end Go.Proofs.Ytegjollhajgcdaa.P
namespace Go.Proofs.Ytegjollhajgcdaa.P
open Go.RowKit Go.Proofs.YtegjollhajgcdaaW.PrintWords Go.Proofs.YtegjollhajgcdaaW.PrintLast Go.Proofs.YtegjollhajgcdaaW.PrintMore
attribute [local go_sem] max2_int min2_int max_two min_two max_three min_three max_four min_four   -- for this text's walks alone
set_option linter.unusedVariables false
set_option linter.unusedSimpArgs false
end Go.Proofs.Ytegjollhajgcdaa.P
