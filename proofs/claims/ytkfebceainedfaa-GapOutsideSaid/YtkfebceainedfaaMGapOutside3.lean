/- Lemmas for the statement GapOutside of the given program, for every input that its row lets in. Conditions: none beyond those that each lemma tells. -/
import Derived.Deep.RegionHeld3
import Derived.Deep.RegionLaw
import Derived.Deep.AppendLies
import Derived.Deep.LoopGhost
import Derived.Shelf.Abstract
import Derived.WalkKit
import Derived.Laws.CopyOwn
import Derived.Lib.SliceRun
import Derived.RangeFuncNested
import Derived.RangeFuncBound
import Derived.RangeFuncCalls
import Derived.RangeFuncLeaves
import Derived.Shelf.RegionOpen
import Derived.OwnWalkIn
import Derived.TacticsInMore
import Derived.LoopNIn
import Derived.LoopIn
import Derived.Maps.OwnIn
import Derived.Test.YtkfebceainedfaaMGapOutside2
set_option linter.unusedVariables false
set_option linter.unusedSimpArgs false
namespace Go.Proofs.Ytkfebceainedfaa.P
open Go.RowKit Go.Proofs.YtkfebceainedfaaW.PrintWords Go.Proofs.YtkfebceainedfaaW.PrintLast Go.Proofs.YtkfebceainedfaaW.PrintMore
attribute [local go_sem] max2_int min2_int max_two min_two max_three min_three max_four min_four   -- for this text's walks alone
set_option linter.unusedVariables false
set_option linter.unusedSimpArgs false
end Go.Proofs.Ytkfebceainedfaa.P
namespace Go.Proofs.Ytkfebceainedfaa.P
open Go.RowKit Go.Proofs.YtkfebceainedfaaW.PrintWords Go.Proofs.YtkfebceainedfaaW.PrintLast Go.Proofs.YtkfebceainedfaaW.PrintMore
attribute [local go_sem] max2_int min2_int max_two min_two max_three min_three max_four min_four   -- for this text's walks alone
set_option linter.unusedVariables false
set_option linter.unusedSimpArgs false
def cippuskit_Urn_Up.f (s0_0 : Int) (s0_1 : Int) (a1 : Int) : Option (Int × Int × Int) := if a1 < 2 then (some (0, s0_0, s0_1)) else ((cippuskit_Urn_turn.f s0_0 s0_1).bind fun bt133 => (if (IntKind.u64.wrap (a1)) = 0 then (none) else (some (wrap64 (Int.tmod (bt133.1 / 2048) (IntKind.u64.wrap (a1))), bt133.2.1, bt133.2.2))))
set_option maxHeartbeats 8000000 in
set_option maxRecDepth 100000 in
theorem cippuskit_Urn_Up.calls (g : Nat) (s0_0 : Int) (s0_1 : Int) (a1 : Int) (r1 : Int) (r2 : Int) (r3 : Int) (w0 w : World) (hI : IsS83 w0 w g s0_0 s0_1) (hB : Below w0.heap.size w0 w) (h : cippuskit_Urn_Up.f s0_0 s0_1 a1 = some (r1, r2, r3)) :
  Calls Try.prog 30 #[.pointer (some ⟨g, 0, none⟩), .int .i64 a1] w fun e w' => e = .returned (.int .i64 r1) ∧ IsS83 w0 w' g r2 r3 ∧ Below w0.heap.size w0 w' ∧ KeepBut w w' g none := by
 have HI0 := Aside0.mk hI
 have HK := Aside0.mk (KeepBut.refl w g none)
 have HL := Aside0.mk hB.size
 clear hI
 have HW0 := Aside0.mk hB.size
 have HB := Aside0.mk hB
 clear hB
 have H : (if a1 < 2 then (some (0, s0_0, s0_1)) else ((cippuskit_Urn_turn.f s0_0 s0_1).bind fun bt133 => (if (IntKind.u64.wrap (a1)) = 0 then (none) else (some (wrap64 (Int.tmod (bt133.1 / 2048) (IntKind.u64.wrap (a1))), bt133.2.1, bt133.2.2))))) = some (r1, r2, r3) := h
 clear h
 by_cases c3 : a1 < 2
 ·rw [if_pos c3] at H
  have c3b0 : decide (a1 < 2) = true := decide_eq_true c3
  clear c3
  simp only [Option.some.injEq, Prod.mk.injEq] at H
  obtain ⟨rfl, rfl, rfl⟩ := H
  go_enter Try.func30, Try.ntmps30
  go_wp2
  go_ret
  exact ⟨uE, uI HI0, uB HB, uK HK⟩
 ·rw [if_neg c3] at H
  have c3b0 : decide (a1 < 2) = false := decide_eq_false c3
  clear c3
  replace H := Option.bind_eq_some_iff.mp H
  obtain ⟨⟨t133, t134, t135⟩, A40, H⟩ := H
  replace H : (if (IntKind.u64.wrap (a1)) = 0 then (none) else (some (wrap64 (Int.tmod (t133 / 2048) (IntKind.u64.wrap (a1))), t134, t135))) = some (r1, r2, r3) := H
  have A4 := Aside0.mk A40
  clear A40
  by_cases c5 : (IntKind.u64.wrap (a1)) = 0
  ·rw [if_pos c5] at H
   exact absurd H (by simp)
  ·rw [if_neg c5] at H
   have c5b0 : ((IntKind.u64.wrap (a1)) == 0) = false := beq_eq_false_iff_ne.mpr c5
   have c5b1 : ((IntKind.u64.wrap (a1)) != 0) = true := bne_iff_ne.mpr c5
   simp only [Option.some.injEq, Prod.mk.injEq] at H
   obtain ⟨rfl, rfl, rfl⟩ := H
   go_enter Try.func30, Try.ntmps30
   go_wp2_with (first | ((with_reducible refine gate_callee (f := 41) rfl ?_); refine goesL_ (some 8) rfl rfl Try.func41 (by kernel_rfl) rfl #[.pointer (some ⟨g, 0, none⟩)] rfl uA ?_; (with_reducible refine (cippuskit_Urn_turn.calls g s0_0 s0_1 t133 t134 t135 w0 _ ?side1 ?side2 A4.out).mono ?_); (case side1 => exact uI HI0); (case side2 => exact uB HB); rintro e w6 ⟨rfl, hi, hb, hk⟩; refine ⟨_, rfl, ?_⟩; replace HK := Aside0.mk (KeepBut.trans (uK HK) hk (.inl rfl)); replace HB := Aside0.mk (hb); replace HI0 := Aside0.mk (hi); (try clear hb); (try clear hb2); (try clear hk); (try clear hi)))
   go_ret
   exact ⟨uE, uI HI0, uB HB, uK HK⟩
end Go.Proofs.Ytkfebceainedfaa.P
namespace Go.Proofs.Ytkfebceainedfaa.P
open Go.RowKit Go.Proofs.YtkfebceainedfaaW.PrintWords Go.Proofs.YtkfebceainedfaaW.PrintLast Go.Proofs.YtkfebceainedfaaW.PrintMore
attribute [local go_sem] max2_int min2_int max_two min_two max_three min_three max_four min_four   -- for this text's walks alone
set_option linter.unusedVariables false
set_option linter.unusedSimpArgs false
def cippuskit_Urn_Odds.f (s0_0 : Int) (s0_1 : Int) (a1 : Int) (a2 : Int) : Option (Bool × Int × Int) := (cippuskit_Urn_Up.f s0_0 s0_1 a2).bind fun bt139 => (some (decide (bt139.1 < a1), bt139.2.1, bt139.2.2))
set_option maxHeartbeats 8000000 in
set_option maxRecDepth 100000 in
theorem cippuskit_Urn_Odds.calls (g : Nat) (s0_0 : Int) (s0_1 : Int) (a1 : Int) (a2 : Int) (r1 : Bool) (r2 : Int) (r3 : Int) (w0 w : World) (hI : IsS83 w0 w g s0_0 s0_1) (hB : Below w0.heap.size w0 w) (h : cippuskit_Urn_Odds.f s0_0 s0_1 a1 a2 = some (r1, r2, r3)) :
  Calls Try.prog 31 #[.pointer (some ⟨g, 0, none⟩), .int .i64 a1, .int .i64 a2] w fun e w' => e = .returned (.bool r1) ∧ IsS83 w0 w' g r2 r3 ∧ Below w0.heap.size w0 w' ∧ KeepBut w w' g none := by
 have HI0 := Aside0.mk hI
 have HK := Aside0.mk (KeepBut.refl w g none)
 have HL := Aside0.mk hB.size
 clear hI
 have HW0 := Aside0.mk hB.size
 have HB := Aside0.mk hB
 clear hB
 have H : ((cippuskit_Urn_Up.f s0_0 s0_1 a2).bind fun bt139 => (some (decide (bt139.1 < a1), bt139.2.1, bt139.2.2))) = some (r1, r2, r3) := h
 clear h
 replace H := Option.bind_eq_some_iff.mp H
 obtain ⟨⟨t139, t140, t141⟩, A40, H⟩ := H
 replace H : (some (decide (t139 < a1), t140, t141)) = some (r1, r2, r3) := H
 have A4 := Aside0.mk A40
 clear A40
 simp only [Option.some.injEq, Prod.mk.injEq] at H
 obtain ⟨rfl, rfl, rfl⟩ := H
 go_enter Try.func31, Try.ntmps31
 go_wp2_with (first | ((with_reducible refine gate_callee (f := 30) rfl ?_); refine goesL_ (some 9) rfl rfl Try.func30 (by kernel_rfl) rfl #[.pointer (some ⟨g, 0, none⟩), .int .i64 a2] rfl uA ?_; (with_reducible refine (cippuskit_Urn_Up.calls g s0_0 s0_1 a2 t139 t140 t141 w0 _ ?side1 ?side2 A4.out).mono ?_); (case side1 => exact uI HI0); (case side2 => exact uB HB); rintro e w5 ⟨rfl, hi, hb, hk⟩; refine ⟨_, rfl, ?_⟩; replace HK := Aside0.mk (KeepBut.trans (uK HK) hk (.inl rfl)); replace HB := Aside0.mk (hb); replace HI0 := Aside0.mk (hi); (try clear hb); (try clear hb2); (try clear hk); (try clear hi)))
 go_ret
 exact ⟨uE, uI HI0, uB HB, uK HK⟩
end Go.Proofs.Ytkfebceainedfaa.P
namespace Go.Proofs.Ytkfebceainedfaa.P
open Go.RowKit Go.Proofs.YtkfebceainedfaaW.PrintWords Go.Proofs.YtkfebceainedfaaW.PrintLast Go.Proofs.YtkfebceainedfaaW.PrintMore
attribute [local go_sem] max2_int min2_int max_two min_two max_three min_three max_four min_four   -- for this text's walks alone
set_option linter.unusedVariables false
set_option linter.unusedSimpArgs false
theorem eqA53 (d : Nat) (w : World) (x0 y0 : ByteArray) (x1 y1 : Int) :
  (Op.equalIn (d + 2) 53 (.agg #[.string x0, .int .i64 x1]) (.agg #[.string y0, .int .i64 y1])).run Try.prog w = .ok (x0.toList == y0.toList && (x1 == y1)) w := by
 refine eqA_of Try.underlying53 (by kernel_rfl) ?_
 refine eqf_cons (by rfl) (by go_simp; rfl) (by go_simp; rfl) (by go_simp) ?_
 exact eqf_last (by rfl) (by go_simp; rfl) (by go_simp; rfl) (by go_simp)
end Go.Proofs.Ytkfebceainedfaa.P
namespace Go.Proofs.Ytkfebceainedfaa.P
open Go.RowKit Go.Proofs.YtkfebceainedfaaW.PrintWords Go.Proofs.YtkfebceainedfaaW.PrintLast Go.Proofs.YtkfebceainedfaaW.PrintMore
attribute [local go_sem] max2_int min2_int max_two min_two max_three min_three max_four min_four   -- for this text's walks alone
set_option linter.unusedVariables false
set_option linter.unusedSimpArgs false
def cippuskit_Urn_From.f (s0_0 : Int) (s0_1 : Int) (a1 : Int) (a2 : Int) : Option (Int × Int × Int) := (cippuskit_Urn_Up.f s0_0 s0_1 (wrap64 ((wrap64 (a2 - a1)) + 1))).bind fun bt136 => (some (wrap64 (a1 + bt136.1), bt136.2.1, bt136.2.2))
set_option maxHeartbeats 8000000 in
set_option maxRecDepth 100000 in
theorem cippuskit_Urn_From.calls (g : Nat) (s0_0 : Int) (s0_1 : Int) (a1 : Int) (a2 : Int) (r1 : Int) (r2 : Int) (r3 : Int) (w0 w : World) (hI : IsS83 w0 w g s0_0 s0_1) (hB : Below w0.heap.size w0 w) (h : cippuskit_Urn_From.f s0_0 s0_1 a1 a2 = some (r1, r2, r3)) :
  Calls Try.prog 18 #[.pointer (some ⟨g, 0, none⟩), .int .i64 a1, .int .i64 a2] w fun e w' => e = .returned (.int .i64 r1) ∧ IsS83 w0 w' g r2 r3 ∧ Below w0.heap.size w0 w' ∧ KeepBut w w' g none := by
 have HI0 := Aside0.mk hI
 have HK := Aside0.mk (KeepBut.refl w g none)
 have HL := Aside0.mk hB.size
 clear hI
 have HW0 := Aside0.mk hB.size
 have HB := Aside0.mk hB
 clear hB
 have H : ((cippuskit_Urn_Up.f s0_0 s0_1 (wrap64 ((wrap64 (a2 - a1)) + 1))).bind fun bt136 => (some (wrap64 (a1 + bt136.1), bt136.2.1, bt136.2.2))) = some (r1, r2, r3) := h
 clear h
 replace H := Option.bind_eq_some_iff.mp H
 obtain ⟨⟨t136, t137, t138⟩, A40, H⟩ := H
 replace H : (some (wrap64 (a1 + t136), t137, t138)) = some (r1, r2, r3) := H
 have A4 := Aside0.mk A40
 clear A40
 simp only [Option.some.injEq, Prod.mk.injEq] at H
 obtain ⟨rfl, rfl, rfl⟩ := H
 go_enter Try.func18, Try.ntmps18
 go_wp2_with (first | ((with_reducible refine gate_callee (f := 30) rfl ?_); refine goesL_ (some 13) rfl rfl Try.func30 (by kernel_rfl) rfl #[.pointer (some ⟨g, 0, none⟩), .int .i64 (wrap64 ((wrap64 (a2 - a1)) + 1))] rfl uA ?_; (with_reducible refine (cippuskit_Urn_Up.calls g s0_0 s0_1 (wrap64 ((wrap64 (a2 - a1)) + 1)) t136 t137 t138 w0 _ ?side1 ?side2 A4.out).mono ?_); (case side1 => exact uI HI0); (case side2 => exact uB HB); rintro e w5 ⟨rfl, hi, hb, hk⟩; refine ⟨_, rfl, ?_⟩; replace HK := Aside0.mk (KeepBut.trans (uK HK) hk (.inl rfl)); replace HB := Aside0.mk (hb); replace HI0 := Aside0.mk (hi); (try clear hb); (try clear hb2); (try clear hk); (try clear hi)))
 go_ret
 exact ⟨uE, uI HI0, uB HB, uK HK⟩
end Go.Proofs.Ytkfebceainedfaa.P
namespace Go.Proofs.Ytkfebceainedfaa.P
open Go.RowKit Go.Proofs.YtkfebceainedfaaW.PrintWords Go.Proofs.YtkfebceainedfaaW.PrintLast Go.Proofs.YtkfebceainedfaaW.PrintMore
attribute [local go_sem] max2_int min2_int max_two min_two max_three min_three max_four min_four   -- for this text's walks alone
set_option linter.unusedVariables false
set_option linter.unusedSimpArgs false
def cippuskit_Urn_Any.f (s0_0 : Int) (s0_1 : Int) (l1 : List Int) : Option (Int × Int × Int) := if (l1.length : Int) = 0 then (some (0, s0_0, s0_1)) else ((cippuskit_Urn_Up.f s0_0 s0_1 (l1.length : Int)).bind fun bt142 => (if 0 ≤ bt142.1 then (if bt142.1 < (l1.length : Int) then (some (rd l1 bt142.1, bt142.2.1, bt142.2.2)) else (none)) else (none)))
set_option maxHeartbeats 8000000 in
set_option maxRecDepth 100000 in
theorem cippuskit_Urn_Any.calls (g : Nat) (s0_0 : Int) (s0_1 : Int) (A1 : Option Addr) (c1 : Nat) (l1 : List Int) (r1 : Int) (r2 : Int) (r3 : Int) (w0 w : World) (hI : IsS83 w0 w g s0_0 s0_1) (hB : Below w0.heap.size w0 w) (hr1 : Kd.C (Kd.int .i64) w A1 l1.length l1) (hc1 : l1.length ≤ c1) (hf1 : ∀ ad, A1 = some ad → 0 < l1.length → ad.block ≠ g) (h : cippuskit_Urn_Any.f s0_0 s0_1 l1 = some (r1, r2, r3)) :
  Calls Try.prog 32 #[.pointer (some ⟨g, 0, none⟩), .slice A1 l1.length c1] w fun e w' => e = .returned (.int .i64 r1) ∧ IsS83 w0 w' g r2 r3 ∧ Below w0.heap.size w0 w' ∧ KeepBut w w' g none := by
 have HR1 := Aside0.mk hr1
 have HC1 := Aside0.mk hc1
 clear hr1 hc1
 have HI0 := Aside0.mk hI
 have HK := Aside0.mk (KeepBut.refl w g none)
 have HL := Aside0.mk hB.size
 clear hI
 have HW0 := Aside0.mk hB.size
 have HB := Aside0.mk hB
 clear hB
 have H : (if (l1.length : Int) = 0 then (some (0, s0_0, s0_1)) else ((cippuskit_Urn_Up.f s0_0 s0_1 (l1.length : Int)).bind fun bt142 => (if 0 ≤ bt142.1 then (if bt142.1 < (l1.length : Int) then (some (rd l1 bt142.1, bt142.2.1, bt142.2.2)) else (none)) else (none)))) = some (r1, r2, r3) := h
 clear h
 by_cases c3 : (l1.length : Int) = 0
 ·rw [if_pos c3] at H
  have c3b0 : ((l1.length : Int) == 0) = true := beq_iff_eq.mpr c3
  have c3b1 : ((l1.length : Int) != 0) = false := bne_eq_false_iff_eq.mpr c3
  clear c3
  simp only [Option.some.injEq, Prod.mk.injEq] at H
  obtain ⟨rfl, rfl, rfl⟩ := H
  go_enter Try.func32, Try.ntmps32
  go_wp2
  go_ret
  exact ⟨uE, uI HI0, uB HB, uK HK⟩
 ·rw [if_neg c3] at H
  have c3b0 : ((l1.length : Int) == 0) = false := beq_eq_false_iff_ne.mpr c3
  have c3b1 : ((l1.length : Int) != 0) = true := bne_iff_ne.mpr c3
  have c3b2 : ¬ (l1 = []) := fun h_ => c3 (by rw [h_]; rfl)
  replace H := Option.bind_eq_some_iff.mp H
  obtain ⟨⟨t142, t143, t144⟩, A40, H⟩ := H
  replace H : (if 0 ≤ t142 then (if t142 < (l1.length : Int) then (some (rd l1 t142, t143, t144)) else (none)) else (none)) = some (r1, r2, r3) := H
  have A4 := Aside0.mk A40
  clear A40
  by_cases c5 : 0 ≤ t142
  ·rw [if_pos c5] at H
   have c5b0 : decide (0 ≤ t142) = true := decide_eq_true c5
   clear c5
   by_cases c6 : t142 < (l1.length : Int)
   ·rw [if_pos c6] at H
    have c6b0 : decide (t142 < (l1.length : Int)) = true := decide_eq_true c6
    clear c6
    simp only [Option.some.injEq, Prod.mk.injEq] at H
    obtain ⟨rfl, rfl, rfl⟩ := H
    go_enter Try.func32, Try.ntmps32
    go_wp2_with (first | ((with_reducible refine gate_callee (f := 30) rfl ?_); refine goesL_ (some 12) rfl rfl Try.func30 (by kernel_rfl) rfl #[.pointer (some ⟨g, 0, none⟩), .int .i64 (l1.length : Int)] rfl uA ?_; (with_reducible refine (cippuskit_Urn_Up.calls g s0_0 s0_1 (l1.length : Int) t142 t143 t144 w0 _ ?side1 ?side2 A4.out).mono ?_); (case side1 => exact uI HI0); (case side2 => exact uB HB); rintro e w7 ⟨rfl, hi, hb, hk⟩; refine ⟨_, rfl, ?_⟩; replace HK := Aside0.mk (KeepBut.trans (uK HK) hk (.inl rfl)); replace HB := Aside0.mk (hb); replace HI0 := Aside0.mk (hi); (try clear hb); (try clear hb2); (try clear hk); (try clear hi); have p145 : 0 ≤ (t142 : Int) := of_decide_eq_true ua; have q145 : t142 < (l1.length : Int) := of_decide_eq_true ua; obtain ⟨ad145, e145, hx145_0⟩ := Kd.at_int HR1.out t142 p145 q145; cases e145; replace hx145_0 := keep_cell HK.out hx145_0 (by first | (rw [add_block]; exact hf1 _ rfl (by omega)) | exact hf1 _ rfl (by omega) | exact hf1 ad145 rfl (by omega)); replace p145 := eq_true p145; replace q145 := eq_true q145))
    go_ret
    exact ⟨uE, uI HI0, uB HB, uK HK⟩
   ·rw [if_neg c6] at H
    exact absurd H (by simp)
  ·rw [if_neg c5] at H
   exact absurd H (by simp)
end Go.Proofs.Ytkfebceainedfaa.P
namespace Go.Proofs.Ytkfebceainedfaa.P
open Go.RowKit Go.Proofs.YtkfebceainedfaaW.PrintWords Go.Proofs.YtkfebceainedfaaW.PrintLast Go.Proofs.YtkfebceainedfaaW.PrintMore
attribute [local go_sem] max2_int min2_int max_two min_two max_three min_three max_four min_four   -- for this text's walks alone
set_option linter.unusedVariables false
set_option linter.unusedSimpArgs false
def cippuskit_Urn_Span.f (s0_0 : Int) (s0_1 : Int) (a1 : Int) (a2 : Int) : Option (Int × Int × Int × Int) := (cippuskit_Urn_From.f s0_0 s0_1 a1 a2).bind fun bt147 => ((cippuskit_Urn_Up.f bt147.2.1 bt147.2.2 3).bind fun bt150 => ((cippuskit_Urn_Up.f bt150.2.1 bt150.2.2 6).bind fun bt153 => ((cippuskit_Urn_From.f bt153.2.1 bt153.2.2 bt147.1 a2).bind fun bt156 => ((cippuskit_Urn_Any.f bt156.2.1 bt156.2.2 (([bt147.1, mn a2 (wrap64 (bt147.1 + bt150.1)), mn a2 (wrap64 (bt147.1 + bt153.1)), bt156.1] : List Int))).bind fun bt162 => (some (bt147.1, bt162.1, bt162.2.1, bt162.2.2))))))
set_option maxHeartbeats 8000000 in
set_option maxRecDepth 100000 in
theorem cippuskit_Urn_Span.calls (g : Nat) (s0_0 : Int) (s0_1 : Int) (a1 : Int) (a2 : Int) (r1 : Int) (r2 : Int) (r3 : Int) (r4 : Int) (w0 w : World) (hI : IsS83 w0 w g s0_0 s0_1) (hB : Below w0.heap.size w0 w) (h : cippuskit_Urn_Span.f s0_0 s0_1 a1 a2 = some (r1, r2, r3, r4)) :
  Calls Try.prog 72 #[.pointer (some ⟨g, 0, none⟩), .int .i64 a1, .int .i64 a2] w fun e w' => e = .returned (.agg #[.int .i64 r1, .int .i64 r2]) ∧ IsS83 w0 w' g r3 r4 ∧ Below w0.heap.size w0 w' ∧ KeepBut w w' g none := by
 have hu47 := Try.underlying47
 have HI0 := Aside0.mk hI
 have HK := Aside0.mk (KeepBut.refl w g none)
 have HL := Aside0.mk hB.size
 clear hI
 have HW0 := Aside0.mk hB.size
 have HB := Aside0.mk hB
 clear hB
 have H : ((cippuskit_Urn_From.f s0_0 s0_1 a1 a2).bind fun bt147 => ((cippuskit_Urn_Up.f bt147.2.1 bt147.2.2 3).bind fun bt150 => ((cippuskit_Urn_Up.f bt150.2.1 bt150.2.2 6).bind fun bt153 => ((cippuskit_Urn_From.f bt153.2.1 bt153.2.2 bt147.1 a2).bind fun bt156 => ((cippuskit_Urn_Any.f bt156.2.1 bt156.2.2 (([bt147.1, mn a2 (wrap64 (bt147.1 + bt150.1)), mn a2 (wrap64 (bt147.1 + bt153.1)), bt156.1] : List Int))).bind fun bt162 => (some (bt147.1, bt162.1, bt162.2.1, bt162.2.2))))))) = some (r1, r2, r3, r4) := h
 clear h
 replace H := Option.bind_eq_some_iff.mp H
 obtain ⟨⟨t147, t148, t149⟩, A40, H⟩ := H
 replace H : ((cippuskit_Urn_Up.f t148 t149 3).bind fun bt150 => ((cippuskit_Urn_Up.f bt150.2.1 bt150.2.2 6).bind fun bt153 => ((cippuskit_Urn_From.f bt153.2.1 bt153.2.2 t147 a2).bind fun bt156 => ((cippuskit_Urn_Any.f bt156.2.1 bt156.2.2 (([t147, mn a2 (wrap64 (t147 + bt150.1)), mn a2 (wrap64 (t147 + bt153.1)), bt156.1] : List Int))).bind fun bt162 => (some (t147, bt162.1, bt162.2.1, bt162.2.2)))))) = some (r1, r2, r3, r4) := H
 have A4 := Aside0.mk A40
 clear A40
 replace H := Option.bind_eq_some_iff.mp H
 obtain ⟨⟨t150, t151, t152⟩, A50, H⟩ := H
 replace H : ((cippuskit_Urn_Up.f t151 t152 6).bind fun bt153 => ((cippuskit_Urn_From.f bt153.2.1 bt153.2.2 t147 a2).bind fun bt156 => ((cippuskit_Urn_Any.f bt156.2.1 bt156.2.2 (([t147, mn a2 (wrap64 (t147 + t150)), mn a2 (wrap64 (t147 + bt153.1)), bt156.1] : List Int))).bind fun bt162 => (some (t147, bt162.1, bt162.2.1, bt162.2.2))))) = some (r1, r2, r3, r4) := H
 have A5 := Aside0.mk A50
 clear A50
 obtain ⟨ji6, hji6⟩ : ∃ j_ : Int, (mn a2 (wrap64 (t147 + t150))) = j_ := ⟨_, rfl⟩
 replace H : ((cippuskit_Urn_Up.f t151 t152 6).bind fun bt153 => ((cippuskit_Urn_From.f bt153.2.1 bt153.2.2 t147 a2).bind fun bt156 => ((cippuskit_Urn_Any.f bt156.2.1 bt156.2.2 (([t147, ji6, mn a2 (wrap64 (t147 + bt153.1)), bt156.1] : List Int))).bind fun bt162 => (some (t147, bt162.1, bt162.2.1, bt162.2.2))))) = some (r1, r2, r3, r4) := by first | (rw [hji6] at H; exact H) | (simp only [hji6] at H ⊢; exact H)
 (try rw [hji6] at A4)
 (try rw [hji6] at A5)
 have hji6_ : (if (wrap64 (t147 + t150)) < a2 then (wrap64 (t147 + t150)) else a2) = ji6 := hji6
 replace H := Option.bind_eq_some_iff.mp H
 obtain ⟨⟨t153, t154, t155⟩, A70, H⟩ := H
 replace H : ((cippuskit_Urn_From.f t154 t155 t147 a2).bind fun bt156 => ((cippuskit_Urn_Any.f bt156.2.1 bt156.2.2 (([t147, ji6, mn a2 (wrap64 (t147 + t153)), bt156.1] : List Int))).bind fun bt162 => (some (t147, bt162.1, bt162.2.1, bt162.2.2)))) = some (r1, r2, r3, r4) := H
 have A7 := Aside0.mk A70
 clear A70
 obtain ⟨ji8, hji8⟩ : ∃ j_ : Int, (mn a2 (wrap64 (t147 + t153))) = j_ := ⟨_, rfl⟩
 replace H : ((cippuskit_Urn_From.f t154 t155 t147 a2).bind fun bt156 => ((cippuskit_Urn_Any.f bt156.2.1 bt156.2.2 (([t147, ji6, ji8, bt156.1] : List Int))).bind fun bt162 => (some (t147, bt162.1, bt162.2.1, bt162.2.2)))) = some (r1, r2, r3, r4) := by first | (rw [hji8] at H; exact H) | (simp only [hji8] at H ⊢; exact H)
 (try rw [hji8] at A4)
 (try rw [hji8] at A5)
 (try rw [hji8] at A7)
 have hji8_ : (if (wrap64 (t147 + t153)) < a2 then (wrap64 (t147 + t153)) else a2) = ji8 := hji8
 replace H := Option.bind_eq_some_iff.mp H
 obtain ⟨⟨t156, t157, t158⟩, A90, H⟩ := H
 replace H : ((cippuskit_Urn_Any.f t157 t158 (([t147, ji6, ji8, t156] : List Int))).bind fun bt162 => (some (t147, bt162.1, bt162.2.1, bt162.2.2))) = some (r1, r2, r3, r4) := H
 have A9 := Aside0.mk A90
 clear A90
 obtain ⟨y159, hy159⟩ : ∃ y_ : List Int, y_ = (([t147, ji6, ji8, t156] : List Int)) := ⟨_, rfl⟩
 replace H : ((cippuskit_Urn_Any.f t157 t158 y159).bind fun bt162 => (some (t147, bt162.1, bt162.2.1, bt162.2.2))) = some (r1, r2, r3, r4) := by first | (rw [hy159]; with_reducible exact H) | (have H2_ := (Option.bind_some _ _).symm.trans H; rw [hy159]; with_reducible exact H2_) | (have H2_ := (Option.bind_some _ _).symm.trans H; with_reducible exact H2_) | with_reducible exact H | (rw [hy159]; exact H) | exact H
 have Ny159 := Aside0.mk hy159
 clear hy159
 replace H := Option.bind_eq_some_iff.mp H
 obtain ⟨⟨t162, t163, t164⟩, A100, H⟩ := H
 replace H : (some (t147, t162, t163, t164)) = some (r1, r2, r3, r4) := H
 have A10 := Aside0.mk A100
 clear A100
 simp only [Option.some.injEq, Prod.mk.injEq] at H
 obtain ⟨rfl, rfl, rfl, rfl⟩ := H
 go_enter Try.func72, Try.ntmps72
 go_wp2_with (first | ((with_reducible refine gate_dst (N := 6) rfl ?_); refine box_event ?hg (N := 6) ?hd (cs := #[.int .i64 0, .int .i64 0]) (t := 47) ?hr ?_; (case hd => rfl); (case hg => rfl); (case hr => first | (go_simp; done) | (go_simp; rfl)); intro gb146 hg w11 hbox hb; replace HB := Aside0.mk (below_step (uB HB) hb); have BK146 := Aside0.mk (hbox); have GW146 := Aside0.mk ((by rw [hg]; exact (keep_size (w := w) (g := g) (row := none) (uK HK)) : w.heap.size ≤ gb146)); have GE146 := Aside0.mk ((Nat.le_trans HW0.out (by rw [hg]; exact (keep_size (w := w) (g := g) (row := none) (uK HK)) : w.heap.size ≤ gb146) : w0.heap.size ≤ gb146)); have NB0_146 := Aside0.mk ((by rw [hg]; exact Nat.ne_of_lt (IsS83.lt (show IsS83 w0 _ g s0_0 s0_1 from uI HI0)) : g ≠ gb146)); have NB146_0 := Aside0.mk ((by rw [hg]; exact Nat.ne_of_gt (IsS83.lt (show IsS83 w0 _ g s0_0 s0_1 from uI HI0)) : gb146 ≠ g)); replace HI0 := Aside0.mk (IsS83.below (uI HI0) hb); replace HK := Aside0.mk (KeepBut.trans (uK HK) (KeepBut.of_below hb g none) (.inl rfl)); clear hb hbox hg) | ((with_reducible refine gate_callee (f := 18) rfl ?_); refine goesL_ (some 11) rfl rfl Try.func18 (by kernel_rfl) rfl #[.pointer (some ⟨g, 0, none⟩), .int .i64 a1, .int .i64 a2] rfl uA ?_; (with_reducible refine (cippuskit_Urn_From.calls g s0_0 s0_1 a1 a2 t147 t148 t149 w0 _ ?side1 ?side2 A4.out).mono ?_); (case side1 => exact uI HI0); (case side2 => exact uB HB); rintro e w12 ⟨rfl, hi, hb, hk⟩; refine ⟨_, rfl, ?_⟩; replace BK146 := Aside0.mk (KeepBut.blk hk (uk BK146) NB146_0.out (by simp)); replace HK := Aside0.mk (KeepBut.trans (uK HK) hk (.inl rfl)); replace HB := Aside0.mk (hb); replace HI0 := Aside0.mk (hi); (try clear hb); (try clear hb2); (try clear hk); (try clear hi)) | ((with_reducible refine gate_callee (f := 30) rfl ?_); refine goesL_ (some 18) rfl rfl Try.func30 (by kernel_rfl) rfl #[.pointer (some ⟨g, 0, none⟩), .int .i64 3] rfl uA ?_; (with_reducible refine (cippuskit_Urn_Up.calls g t148 t149 3 t150 t151 t152 w0 _ ?side1 ?side2 A5.out).mono ?_); (case side1 => exact uI HI0); (case side2 => exact uB HB); rintro e w13 ⟨rfl, hi, hb, hk⟩; refine ⟨_, rfl, ?_⟩; replace BK146 := Aside0.mk (KeepBut.blk hk (uk BK146) NB146_0.out (by simp)); replace HK := Aside0.mk (KeepBut.trans (uK HK) hk (.inl rfl)); replace HB := Aside0.mk (hb); replace HI0 := Aside0.mk (hi); (try clear hb); (try clear hb2); (try clear hk); (try clear hi)) | ((with_reducible refine gate_callee (f := 30) rfl ?_); refine goesL_ (some 24) rfl rfl Try.func30 (by kernel_rfl) rfl #[.pointer (some ⟨g, 0, none⟩), .int .i64 6] rfl uA ?_; (with_reducible refine (cippuskit_Urn_Up.calls g t151 t152 6 t153 t154 t155 w0 _ ?side1 ?side2 A7.out).mono ?_); (case side1 => exact uI HI0); (case side2 => exact uB HB); rintro e w14 ⟨rfl, hi, hb, hk⟩; refine ⟨_, rfl, ?_⟩; replace BK146 := Aside0.mk (KeepBut.blk hk (uk BK146) NB146_0.out (by simp)); replace HK := Aside0.mk (KeepBut.trans (uK HK) hk (.inl rfl)); replace HB := Aside0.mk (hb); replace HI0 := Aside0.mk (hi); (try clear hb); (try clear hb2); (try clear hk); (try clear hi)) | ((with_reducible refine gate_callee (f := 18) rfl ?_); refine goesL_ (some 30) rfl rfl Try.func18 (by kernel_rfl) rfl #[.pointer (some ⟨g, 0, none⟩), .int .i64 t147, .int .i64 a2] rfl uA ?_; (with_reducible refine (cippuskit_Urn_From.calls g t154 t155 t147 a2 t156 t157 t158 w0 _ ?side1 ?side2 A9.out).mono ?_); (case side1 => exact uI HI0); (case side2 => exact uB HB); rintro e w15 ⟨rfl, hi, hb, hk⟩; refine ⟨_, rfl, ?_⟩; replace BK146 := Aside0.mk (KeepBut.blk hk (uk BK146) NB146_0.out (by simp)); replace HK := Aside0.mk (KeepBut.trans (uK HK) hk (.inl rfl)); replace HB := Aside0.mk (hb); replace HI0 := Aside0.mk (hi); (try clear hb); (try clear hb2); (try clear hk); (try clear hi)) | ((with_reducible refine gate_dst (N := 31) rfl ?_); refine Kd.R_lit (Kd.int .i64) _ 3 ?hg (N := 31) ?hd (xs := ([t147, ji6, ji8, t156] : List Int)) (inner := [.int .i64 t147, .int .i64 ji6, .int .i64 ji8, .int .i64 t156]) (ok := fun _ => True) (okp := fun _ => True) ?hr ?hp (fun _ hk => hk) trivial (Below.refl _ _) (Nat.le_refl _) (by simp) ?_; (case hd => rfl); (case hg => rfl); (case hr => first | (go_simp; done) | (go_simp; rfl)); (case hp => exact (Reps.one (show Kd.M (Kd.int .i64) _ _ _ t147 [.int .i64 t147] from rfl) (Reps.one (show Kd.M (Kd.int .i64) _ _ _ ji6 [.int .i64 ji6] from rfl) (Reps.one (show Kd.M (Kd.int .i64) _ _ _ ji8 [.int .i64 ji8] from rfl) (Reps.one (show Kd.M (Kd.int .i64) _ _ _ t156 [.int .i64 t156] from rfl) (Reps.none _ _)))))); intro v160 w16 ho17 hb hg_ hnew_; clear hg_ hnew_; (first | rw [← Ny159.out] at ho17 | (simp only [Int.reduceToNat] at ho17; rw [← Ny159.out] at ho17)); have HO161 := Aside0.mk (Kd.R_lower ho17 (keep_size (w := w) (g := g) (row := none) (uK HK))); replace BK146 := Aside0.mk (blk_below (uk BK146) hb); replace HB := Aside0.mk (below_step (uB HB) hb); replace HI0 := Aside0.mk (IsS83.below (uI HI0) hb); replace HK := Aside0.mk (KeepBut.trans (uK HK) (KeepBut.of_below hb g none) (.inl rfl)); clear hb ho17; obtain ⟨Ao18, co18, eo18⟩ := Kd.R_slice HO161.out; subst eo18) | ((with_reducible refine gate_callee (f := 32) rfl ?_); refine goesL_ (some 32) rfl rfl Try.func32 (by kernel_rfl) rfl #[.pointer (some ⟨g, 0, none⟩), .slice Ao18 y159.length co18] rfl uA ?_; (with_reducible refine (cippuskit_Urn_Any.calls g t157 t158 _ _ y159 t162 t163 t164 w0 _ ?side1 ?side2 ?side3 ?side4 ?side5 A10.out).mono ?_); (case side1 => exact uI HI0); (case side2 => exact uB HB); (case side3 => exact uD (Kd.R_reads' HO161.out).2.2); (case side4 => exact (Kd.R_reads' HO161.out).2.1); (case side5 => exact far_slice (IsS83.own_ne HI0.out HO161.out (by decide))); rintro e w19 ⟨rfl, hi, hb, hk⟩; refine ⟨_, rfl, ?_⟩; replace BK146 := Aside0.mk (KeepBut.blk hk (uk BK146) NB146_0.out (by simp)); replace HO161 := Aside0.mk (Kd.R_mono (Kd.R_keep (IsS83.apart (show IsS83 w0 _ g t157 t158 from uI HI0) (uR HO161) (by decide)) hk (fun _ h => h.2)) (fun _ h => h.1)); replace HK := Aside0.mk (KeepBut.trans (uK HK) hk (.inl rfl)); replace HB := Aside0.mk (hb); replace HI0 := Aside0.mk (hi); (try clear hb); (try clear hb2); (try clear hk); (try clear hi); have hnb20 := NB146_0.out; have hnc20 := NB0_146.out; have hcz21_0 := uc (w := w19) BK146 0; have hcz21_1 := uc (w := w19) BK146 1; have hfz21_0 := blk_frozen BK146.out 0; have hfz21_1 := blk_frozen BK146.out 1))
 refine bodyPost_ret (results_cell_row rfl _ _ gb146 47 #[.int .i64 t147, .int .i64 t162] (0, 0) _ rfl (by (with_reducible repeat (first | refine blk_drewN ?_ _ | refine blk_drew ?_ | refine blk_alloc ?_ _)); refine blk_put (cs := #[.int .i64 t147, .int .i64 0]) ?_ 1 _ rfl; (with_reducible repeat (first | refine blk_drewN ?_ _ | refine blk_drew ?_ | refine blk_alloc ?_ _)); refine blk_put (cs := #[.int .i64 0, .int .i64 0]) ?_ 0 _ rfl; (with_reducible repeat (first | refine blk_drewN ?_ _ | refine blk_drew ?_ | refine blk_alloc ?_ _)); exact BK146.out) Try.underlying47 rfl (by kernel_rfl)) rfl ?_
 exact ⟨by first | rfl | (simp [errW_none, errW_some] <;> rfl) | (simp only [← hji6, ← hji8]; first | rfl | (simp [errW_none, errW_some] <;> rfl)) | (simp [*, errW_none, errW_some] <;> rfl), uI HI0, uB HB, uK HK⟩
end Go.Proofs.Ytkfebceainedfaa.P
namespace Go.Proofs.Ytkfebceainedfaa.P.OwnUrn
open Go.RowKit Go.Proofs.YtkfebceainedfaaW.PrintWords Go.Proofs.YtkfebceainedfaaW.PrintLast Go.Proofs.YtkfebceainedfaaW.PrintMore
open Go.Proofs.Ytkfebceainedfaa.P.OwnGap
set_option linter.unusedVariables false
set_option linter.unusedSimpArgs false
theorem wrap_u64_range (n : Int) : 0 ≤ IntKind.u64.wrap n ∧ IntKind.u64.wrap n < 18446744073709551616 := by
 have h : IntKind.u64.wrap n = n % 18446744073709551616 := by simp [IntKind.wrap, IntKind.bits, IntKind.signed]
 rw [h]
 omega
theorem wrap_u64_small {n : Int} (h0 : 0 ≤ n) (h1 : n < 18446744073709551616) : IntKind.u64.wrap n = n := by
 have h : IntKind.u64.wrap n = n % 18446744073709551616 := by simp [IntKind.wrap, IntKind.bits, IntKind.signed]
 rw [h]
 omega
theorem turn_ok (a b : Int) : ∃ v a' b', cippuskit_Urn_turn.f a b = some (v, a', b') ∧ 0 ≤ v ∧ v < 18446744073709551616 := by
 unfold cippuskit_Urn_turn.f
 split
 ·exact ⟨_, _, _, rfl, wrap_u64_range _⟩
 ·exact ⟨_, _, _, rfl, wrap_u64_range _⟩
theorem up_ok (a b n : Int) (hn : n ≤ 1000) : ∃ v a' b', cippuskit_Urn_Up.f a b n = some (v, a', b') ∧ 0 ≤ v ∧ (v < n ∨ v = 0) := by
 unfold cippuskit_Urn_Up.f
 by_cases h : n < 2
 ·rw [if_pos h]
  exact ⟨0, a, b, rfl, Int.le_refl _, .inr rfl⟩
 ·rw [if_neg h]
  obtain ⟨v, a', b', e, h0, h1⟩ := turn_ok a b
  rw [e, Option.bind_some, wrap_u64_small (by omega) (by omega), if_neg (by omega)]
  have h2 : 0 ≤ v / 2048 := by omega
  have h3 : Int.tmod (v / 2048) n = (v / 2048) % n := Int.tmod_eq_emod_of_nonneg h2
  have h4 := Int.emod_nonneg (v / 2048) (show n ≠ 0 by omega)
  have h5 := Int.emod_lt_of_pos (v / 2048) (show 0 < n by omega)
  refine ⟨_, _, _, rfl, ?_⟩
  show 0 ≤ wrap64 (Int.tmod (v / 2048) n) ∧ (wrap64 (Int.tmod (v / 2048) n) < n ∨ _)
  rw [h3, wrap64_small h4 (by omega)]
  exact ⟨h4, .inl h5⟩
theorem from_ok (a b lo hi : Int) (h0 : -1000 ≤ lo) (h1 : lo ≤ 1000) (h2 : -1000 ≤ hi) (h3 : hi ≤ 900 + lo) : ∃ v a' b', cippuskit_Urn_From.f a b lo hi = some (v, a', b') ∧ lo ≤ v ∧ (v ≤ hi ∨ v = lo) := by
 unfold cippuskit_Urn_From.f
 have e1 : wrap64 (hi - lo) = hi - lo := by simp [wrap64]; omega
 have e2 : wrap64 (hi - lo + 1) = hi - lo + 1 := by simp [wrap64]; omega
 rw [e1, e2]
 obtain ⟨v, a', b', e, h4, h5⟩ := up_ok a b (hi - lo + 1) (by omega)
 rw [e, Option.bind_some]
 refine ⟨_, _, _, rfl, ?_⟩
 have e3 : wrap64 (lo + v) = lo + v := by simp [wrap64]; omega
 show lo ≤ wrap64 (lo + v) ∧ (wrap64 (lo + v) ≤ hi ∨ wrap64 (lo + v) = lo)
 rw [e3]
 omega
theorem odds_ok (a b n m : Int) (hm : m ≤ 1000) : ∃ v a' b', cippuskit_Urn_Odds.f a b n m = some (v, a', b') := by
 unfold cippuskit_Urn_Odds.f
 obtain ⟨v, a', b', e, _⟩ := up_ok a b m hm
 rw [e, Option.bind_some]
 exact ⟨_, _, _, rfl⟩
theorem any_ok (a b : Int) (l : List Int) (h0 : l ≠ []) (hl : l.length ≤ 1000) : ∃ v a' b', cippuskit_Urn_Any.f a b l = some (v, a', b') ∧ v ∈ l := by
 have h1 : 0 < l.length := List.length_pos_iff.2 h0
 unfold cippuskit_Urn_Any.f
 rw [if_neg (by omega)]
 obtain ⟨v, a', b', e, h4, h5⟩ := up_ok a b (l.length : Int) (by omega)
 rw [e, Option.bind_some]
 have h6 : v < (l.length : Int) := by omega
 rw [if_pos h4, if_pos h6]
 refine ⟨_, _, _, rfl, ?_⟩
 show rd l v ∈ l
 unfold rd
 rw [List.getD_eq_getElem?_getD, List.getElem?_eq_getElem (by omega)]
 exact List.getElem_mem _
abbrev St := Int × Int
def rowGo : Nat → List Bool → St → Option (List Bool × St)
 | 0, l, s => some (l, s)
 | n + 1, l, s => (cippuskit_Urn_Odds.f s.1 s.2 1 2).bind fun a => rowGo n (l ++ [a.1]) a.2
def formsGo (f : Nat) : Nat → List Bool → List Bool → List (List Bool) → St → Option (List Bool × List Bool × List (List Bool) × St)
 | 0, F, L, N, s => some (F, L, N, s)
 | n + 1, F, L, N, s => (cippuskit_Urn_Odds.f s.1 s.2 2 3).bind fun a => (cippuskit_Urn_Odds.f a.2.1 a.2.2 2 3).bind fun b => (rowGo f [] b.2).bind fun c => formsGo f n (F ++ [a.1]) (L ++ [b.1]) (N ++ [c.1]) c.2
def textGo : Nat → ByteArray → St → Option (ByteArray × St)
 | 0, t, s => some (t, s)
 | n + 1, t, s => (cippuskit_Urn_Any.f s.1 s.2 [65, 66, 66, 73]).bind fun a => textGo n (t ++ strOfNums [IntKind.u8.wrap a.1]) a.2
def wordsGo (forms letters : Int) : Nat → List S53 → St → Option (List S53 × St)
 | 0, l, s => some (l, s)
 | n + 1, l, s => (cippuskit_Urn_Up.f s.1 s.2 forms).bind fun f => (cippuskit_Urn_From.f f.2.1 f.2.2 1 letters).bind fun k => (textGo k.1.toNat ⟨#[]⟩ k.2).bind fun t =>
   wordsGo forms letters n (if l.any (fun x => sameW x ⟨t.1, f.1⟩) = true then l else l ++ [⟨t.1, f.1⟩]) t.2
def widGo : Nat → List S47 → St → Option (List S47 × St)
 | 0, l, s => some (l, s)
 | n + 1, l, s => (cippuskit_Urn_Any.f s.1 s.2 [2, 6]).bind fun a => (cippuskit_Urn_Span.f a.2.1 a.2.2 1 a.1).bind fun b => widGo n (l ++ [⟨b.1, b.2.1⟩]) b.2.2
def lexiconOf (s0 s1 a1 a2 : Int) : Option (List S53 × List Bool × List Bool × List (List Bool) × List S47 × Int × Int) :=
 if (0 ≤ a1 ∧ a1 ≤ 800) ∧ (0 ≤ a2 ∧ a2 ≤ 800) then
  (cippuskit_Urn_From.f s0 s1 1 3).bind fun f => (formsGo f.1.toNat f.1.toNat [] [] [] f.2).bind fun x => (cippuskit_Urn_From.f x.2.2.2.1 x.2.2.2.2 1 a1).bind fun i =>
   (wordsGo f.1 a2 i.1.toNat [] i.2).bind fun w => (widGo 26 [] w.2).bind fun d => some (w.1, x.1.set 0 true, x.2.1.set (f.1.toNat - 1) true, x.2.2.1, d.1, d.2.1, d.2.2)
 else none
end Go.Proofs.Ytkfebceainedfaa.P.OwnUrn
namespace Go.Proofs.Ytkfebceainedfaa.P.OwnUrn
open Go.RowKit Go.Proofs.YtkfebceainedfaaW.PrintWords Go.Proofs.YtkfebceainedfaaW.PrintLast Go.Proofs.YtkfebceainedfaaW.PrintMore
open Go.Proofs.Ytkfebceainedfaa.P.OwnGap
set_option linter.unusedVariables false
set_option linter.unusedSimpArgs false
abbrev kB : Kd Bool := Kd.bool
def T1 : Nat → Prop := fun _ => True
section
variable {α β : Type} {d : Kd α} {d' : Kd β} {e e' base base' : Nat} {W W' w1 : World} {u v v1 : Value} {xs : List α} {ys : List β} {ok : Nat → Prop}
theorem R_st (h : d.R e W base (fun _ => True) v xs) (hm : ∀ k, base ≤ k → k < W.heap.size → W'.heap[k]? = W.heap[k]?) : d.R e W' base (fun _ => True) v xs :=
 Kd.R_mono (Kd.R_step (Kd.R_bound h) (fun k hk hlt => hm k hk.2.1 hlt)) (fun _ _ => trivial)
theorem R_oth (hE : d.E = []) (h : d.R e W base (fun _ => True) u xs) {row : Option Nat} (hg : W.grownBy w1 row) (hne : ∀ k, u.ownBlock = some k → some k ≠ row) : d.R e w1 base (fun _ => True) u xs :=
 Kd.R_mono (Kd.R_grown (Kd.R_tight hE h) hg (fun k hk => hne k hk.symm)) (fun _ _ => trivial)
theorem ne_ty (h : d.R e W base (fun _ => True) u xs) (h' : d'.R e' W base' (fun _ => True) v ys) (ht : e' ≠ e) : ∀ k, u.ownBlock = some k → some k ≠ v.ownBlock := fun k hk => by
 obtain ⟨cells, hc⟩ := Kd.R_typed h k hk
 exact Kd.R_ne h' hc ht
theorem ne_tyN (h : d.R e W base (fun _ => True) u xs) (h' : Kd.N d' e' W base' ok v ys) (ht : e' ≠ e) : ∀ k, u.ownBlock = some k → some k ≠ v.ownBlock := fun k hk => by
 obtain ⟨cells, hc⟩ := Kd.R_typed h k hk
 exact Kd.N_ne h' hc ht
theorem ne_grow (hd : ∀ k, v.ownBlock = some k → u.ownBlock ≠ some k) (hu : ∀ k, u.ownBlock = some k → k < W.heap.size) (hat : v1.ownBlock = v.ownBlock ∨ ∃ b, v1.ownBlock = some b ∧ W.heap.size ≤ b) : ∀ k, v1.ownBlock = some k → u.ownBlock ≠ some k := by
 intro k hk hu2
 rcases hat with h | ⟨b, hb, hle⟩
 ·exact hd k (h ▸ hk) hu2
 ·have := hu k hu2
  rw [hb] at hk
  injection hk with hk
  omega
theorem ne_swap (hd : ∀ k, v.ownBlock = some k → u.ownBlock ≠ some k) : ∀ k, u.ownBlock = some k → v.ownBlock ≠ some k := fun k h1 h2 => hd k h2 h1
end
structure LR (w0 w W : World) (g : Nat) (B : Nat → Prop) (s : St) (v0 v1 v2 v3 v4 v9 : Value) (l0 : List S53) (l1 l2 : List Bool) (l3 : List (List Bool)) (l4 : List S47) (l9 : List Bool) : Prop where
 gn : g < w.heap.size
 kb : KeepBut w W g none
 u : IsS83 w0 W g s.1 s.2
 bw : Below w0.heap.size w0 W
 r0 : k53.R 53 W w.heap.size (fun _ => True) v0 l0
 r1 : kB.R 4 W w.heap.size (fun _ => True) v1 l1
 r2 : kB.R 4 W w.heap.size (fun _ => True) v2 l2
 r3 : Kd.N (Kd.slice 4 Kd.bool) 24 W w.heap.size (fun k => (((((w.heap.size ≤ k ∧ B k) ∧ some k ≠ v0.ownBlock) ∧ some k ≠ v4.ownBlock) ∧ some k ≠ v1.ownBlock) ∧ some k ≠ v2.ownBlock) ∧ some k ≠ v9.ownBlock) v3 l3
 r4 : k47.R 47 W w.heap.size (fun _ => True) v4 l4
 r9 : kB.R 4 W w.heap.size (fun _ => True) v9 l9
 d12 : ∀ k, v1.ownBlock = some k → v2.ownBlock ≠ some k
 d19 : ∀ k, v1.ownBlock = some k → v9.ownBlock ≠ some k
 d29 : ∀ k, v2.ownBlock = some k → v9.ownBlock ≠ some k
section
variable {w0 w W W' w1 : World} {g : Nat} {B B' : Nat → Prop} {s s' : St} {v0 v1 v2 v3 v4 v9 v' : Value} {l0 l0' : List S53} {l1 l1' l2 l2' : List Bool} {l3 : List (List Bool)} {l4 l4' : List S47} {l9 l9' : List Bool}
theorem keep_trans {a b c : World} {g : Nat} (h : KeepBut a b g none) (k : KeepBut b c g none) : KeepBut a c g none :=
 ⟨Nat.le_trans h.1 k.1, fun i h1 h2 h3 => (k.2 i (Nat.lt_of_lt_of_le h1 h.1) h2 h3).trans (h.2 i h1 h2 h3)⟩
theorem LR.sz (h : LR w0 w W g B s v0 v1 v2 v3 v4 v9 l0 l1 l2 l3 l4 l9) : w.heap.size ≤ W.heap.size := h.kb.1
theorem LR.w0g (h : LR w0 w W g B s v0 v1 v2 v3 v4 v9 l0 l1 l2 l3 l4 l9) : w0.heap.size ≤ w.heap.size := Nat.le_trans h.u.2 (Nat.le_of_lt h.gn)
theorem LR.step (h : LR w0 w W g B s v0 v1 v2 v3 v4 v9 l0 l1 l2 l3 l4 l9) (hk : KeepBut W W' g none) (hu : IsS83 w0 W' g s'.1 s'.2) (hb : Below w0.heap.size w0 W') : LR w0 w W' g B s' v0 v1 v2 v3 v4 v9 l0 l1 l2 l3 l4 l9 := by
 have hm : ∀ k, w.heap.size ≤ k → k < W.heap.size → W'.heap[k]? = W.heap[k]? := fun k h1 h2 => hk.2 k h2 (by have := h.gn; omega) (by simp)
 exact { h with kb := keep_trans h.kb hk, u := hu, bw := hb, r0 := R_st h.r0 hm, r1 := R_st h.r1 hm, r2 := R_st h.r2 hm, r3 := Kd.N_step h.r3 (fun k hk hlt => hm k hk.1.1.1.1.1.1 hlt), r4 := R_st h.r4 hm, r9 := R_st h.r9 hm }
theorem LR.next (h : LR w0 w W g B s v0 v1 v2 v3 v4 v9 l0 l1 l2 l3 l4 l9) (hb : Below W.heap.size W W') : LR w0 w W' g B s v0 v1 v2 v3 v4 v9 l0 l1 l2 l3 l4 l9 :=
 h.step (KeepBut.of_below hb g none) (h.u.below hb) (h.bw.trans (hb.mono (Nat.le_trans h.w0g h.sz)))
theorem LR.sub (h : LR w0 w W g B s v0 v1 v2 v3 v4 v9 l0 l1 l2 l3 l4 l9) (hB : ∀ k, k < W.heap.size → B k → B' k) : LR w0 w W g B' s v0 v1 v2 v3 v4 v9 l0 l1 l2 l3 l4 l9 :=
 { h with r3 := Kd.N_mono (Kd.N_bound h.r3) (fun k hk => ⟨⟨⟨⟨⟨⟨hk.1.1.1.1.1.1.1, hB k hk.2 hk.1.1.1.1.1.1.2⟩, hk.1.1.1.1.1.2⟩, hk.1.1.1.1.2⟩, hk.1.1.1.2⟩, hk.1.1.2⟩, hk.1.2⟩) }
theorem setBlk_keep {b o : Nat} (v : Value) (hn : w.heap.size ≤ b) : KeepBut w W g none → KeepBut w (W.setCell ⟨b, o, none⟩ v) g none := fun hk =>
 ⟨by show _ ≤ (W.heap.modify _ _).size; rw [Array.size_modify]; exact hk.1, fun i h1 h2 h3 => (Below.heap_setCell W ⟨b, o, none⟩ v i (by show i ≠ b; omega)).trans (hk.2 i h1 h2 h3)⟩
theorem R_fb {α : Type} {d : Kd α} {e : Nat} {x : Value} {xs : List α} {n b o : Nat} (hE : d.E = []) (h : d.R e W n (fun _ => True) x xs) (hne : x.ownBlock ≠ some b) (v : Value) : d.R e (W.setCell ⟨b, o, none⟩ v) n (fun _ => True) x xs :=
 Kd.R_mono (Kd.R_far (p := ⟨b, o, none⟩) (Kd.R_tight hE h) (fun k hk => by rintro rfl; exact hne hk.symm) v) (fun _ _ => trivial)
theorem LR.far (h : LR w0 w W g B s v0 v1 v2 v3 v4 v9 l0 l1 l2 l3 l4 l9) {b o : Nat} (hn : w.heap.size ≤ b) (hB : ∀ k, B k → k ≠ b) (n0 : v0.ownBlock ≠ some b) (n1 : v1.ownBlock ≠ some b) (n2 : v2.ownBlock ≠ some b) (n4 : v4.ownBlock ≠ some b) (n9 : v9.ownBlock ≠ some b) (v : Value) : LR w0 w (W.setCell ⟨b, o, none⟩ v) g B s v0 v1 v2 v3 v4 v9 l0 l1 l2 l3 l4 l9 := by
 have hgb : g ≠ b := by have := h.gn; omega
 exact { h with kb := setBlk_keep v hn h.kb, u := ⟨blk_far h.u.1 hgb v, h.u.2⟩, bw := h.bw.setCell (by show w0.heap.size ≤ b; have := h.w0g; omega) v, r0 := R_fb rfl h.r0 n0 v, r1 := R_fb rfl h.r1 n1 v, r2 := R_fb rfl h.r2 n2 v, r3 := Kd.N_far (p := ⟨b, o, none⟩) h.r3 (fun k hk => hB k hk.1.1.1.1.1.2) v, r4 := R_fb rfl h.r4 n4 v, r9 := R_fb rfl h.r9 n9 v }
theorem LR.grow_kb (h : LR w0 w W g B s v0 v1 v2 v3 v4 v9 l0 l1 l2 l3 l4 l9) {row : Option Nat} (hg : W.grownBy w1 row) (hr : ∀ k, row = some k → w.heap.size ≤ k) : KeepBut w w1 g none ∧ IsS83 w0 w1 g s.1 s.2 ∧ Below w0.heap.size w0 w1 :=
 ⟨⟨Nat.le_trans h.kb.1 hg.size, fun i h1 h2 h3 => (hg.block i (Nat.lt_of_lt_of_le h1 h.kb.1) (fun e => by have := hr i e.symm; omega)).trans (h.kb.2 i h1 h2 h3)⟩, h.u.grown hg (fun e => by have := hr g e.symm; have := h.gn; omega), h.bw.grown hg (Nat.le_trans h.w0g h.sz) (fun k hk => Nat.le_trans h.w0g (hr k hk))⟩
def Hat (W : World) (v v' : Value) : Prop := v'.ownBlock = v.ownBlock ∨ ∃ b, v'.ownBlock = some b ∧ W.heap.size ≤ b
theorem LR.app0 (h : LR w0 w W g B s v0 v1 v2 v3 v4 v9 l0 l1 l2 l3 l4 l9) (hR : k53.R 53 w1 w.heap.size (fun _ => True) v' l0') (hg : W.grownBy w1 v0.ownBlock) (hat : Hat W v0 v') : LR w0 w w1 g B s v' v1 v2 v3 v4 v9 l0' l1 l2 l3 l4 l9 := by
 obtain ⟨hk, hu, hb⟩ := h.grow_kb hg (Kd.R_base h.r0)
 refine ⟨h.gn, hk, hu, hb, hR, R_oth rfl h.r1 hg (ne_ty h.r1 h.r0 (by decide)), R_oth rfl h.r2 hg (ne_ty h.r2 h.r0 (by decide)), ?_, R_oth rfl h.r4 hg (ne_ty h.r4 h.r0 (by decide)), R_oth rfl h.r9 hg (ne_ty h.r9 h.r0 (by decide)), h.d12, h.d19, h.d29⟩
 exact Kd.N_mono (Kd.N_after (u := v0) (Kd.N_mono h.r3 (fun k ⟨⟨⟨⟨⟨⟨a, b⟩, c⟩, d⟩, e⟩, f⟩, i⟩ => (⟨⟨⟨⟨⟨⟨a, b⟩, d⟩, e⟩, f⟩, i⟩, c⟩ : ((((( w.heap.size ≤ k ∧ B k) ∧ some k ≠ v4.ownBlock) ∧ some k ≠ v1.ownBlock) ∧ some k ≠ v2.ownBlock) ∧ some k ≠ v9.ownBlock) ∧ some k ≠ v0.ownBlock))) hg hat) (fun k ⟨⟨⟨⟨⟨⟨a, b⟩, d⟩, e⟩, f⟩, i⟩, c⟩ => ⟨⟨⟨⟨⟨⟨a, b⟩, c⟩, d⟩, e⟩, f⟩, i⟩)
theorem LR.app4 (h : LR w0 w W g B s v0 v1 v2 v3 v4 v9 l0 l1 l2 l3 l4 l9) (hR : k47.R 47 w1 w.heap.size (fun _ => True) v' l4') (hg : W.grownBy w1 v4.ownBlock) (hat : Hat W v4 v') : LR w0 w w1 g B s v0 v1 v2 v3 v' v9 l0 l1 l2 l3 l4' l9 := by
 obtain ⟨hk, hu, hb⟩ := h.grow_kb hg (Kd.R_base h.r4)
 refine ⟨h.gn, hk, hu, hb, R_oth rfl h.r0 hg (ne_ty h.r0 h.r4 (by decide)), R_oth rfl h.r1 hg (ne_ty h.r1 h.r4 (by decide)), R_oth rfl h.r2 hg (ne_ty h.r2 h.r4 (by decide)), ?_, hR, R_oth rfl h.r9 hg (ne_ty h.r9 h.r4 (by decide)), h.d12, h.d19, h.d29⟩
 exact Kd.N_mono (Kd.N_after (u := v4) (Kd.N_mono h.r3 (fun k ⟨⟨⟨⟨⟨⟨a, b⟩, c⟩, d⟩, e⟩, f⟩, i⟩ => (⟨⟨⟨⟨⟨⟨a, b⟩, c⟩, e⟩, f⟩, i⟩, d⟩ : ((((( w.heap.size ≤ k ∧ B k) ∧ some k ≠ v0.ownBlock) ∧ some k ≠ v1.ownBlock) ∧ some k ≠ v2.ownBlock) ∧ some k ≠ v9.ownBlock) ∧ some k ≠ v4.ownBlock))) hg hat) (fun k ⟨⟨⟨⟨⟨⟨a, b⟩, c⟩, e⟩, f⟩, i⟩, d⟩ => ⟨⟨⟨⟨⟨⟨a, b⟩, c⟩, d⟩, e⟩, f⟩, i⟩)
theorem LR.app1 (h : LR w0 w W g B s v0 v1 v2 v3 v4 v9 l0 l1 l2 l3 l4 l9) (hR : kB.R 4 w1 w.heap.size (fun _ => True) v' l1') (hg : W.grownBy w1 v1.ownBlock) (hat : Hat W v1 v') : LR w0 w w1 g B s v0 v' v2 v3 v4 v9 l0 l1' l2 l3 l4 l9 := by
 obtain ⟨hk, hu, hb⟩ := h.grow_kb hg (Kd.R_base h.r1)
 refine ⟨h.gn, hk, hu, hb, R_oth rfl h.r0 hg (ne_ty h.r0 h.r1 (by decide)), hR, R_oth rfl h.r2 hg (fun k hk e => h.d12 k e.symm hk), ?_, R_oth rfl h.r4 hg (ne_ty h.r4 h.r1 (by decide)), R_oth rfl h.r9 hg (fun k hk e => h.d19 k e.symm hk), ne_grow h.d12 (Kd.R_lt h.r2) hat, ne_grow h.d19 (Kd.R_lt h.r9) hat, h.d29⟩
 exact Kd.N_mono (Kd.N_after (u := v1) (Kd.N_mono h.r3 (fun k ⟨⟨⟨⟨⟨⟨a, b⟩, c⟩, d⟩, e⟩, f⟩, i⟩ => (⟨⟨⟨⟨⟨⟨a, b⟩, c⟩, d⟩, f⟩, i⟩, e⟩ : ((((( w.heap.size ≤ k ∧ B k) ∧ some k ≠ v0.ownBlock) ∧ some k ≠ v4.ownBlock) ∧ some k ≠ v2.ownBlock) ∧ some k ≠ v9.ownBlock) ∧ some k ≠ v1.ownBlock))) hg hat) (fun k ⟨⟨⟨⟨⟨⟨a, b⟩, c⟩, d⟩, f⟩, i⟩, e⟩ => ⟨⟨⟨⟨⟨⟨a, b⟩, c⟩, d⟩, e⟩, f⟩, i⟩)
theorem LR.app2 (h : LR w0 w W g B s v0 v1 v2 v3 v4 v9 l0 l1 l2 l3 l4 l9) (hR : kB.R 4 w1 w.heap.size (fun _ => True) v' l2') (hg : W.grownBy w1 v2.ownBlock) (hat : Hat W v2 v') : LR w0 w w1 g B s v0 v1 v' v3 v4 v9 l0 l1 l2' l3 l4 l9 := by
 obtain ⟨hk, hu, hb⟩ := h.grow_kb hg (Kd.R_base h.r2)
 refine ⟨h.gn, hk, hu, hb, R_oth rfl h.r0 hg (ne_ty h.r0 h.r2 (by decide)), R_oth rfl h.r1 hg (fun k hk e => h.d12 k hk e.symm), hR, ?_, R_oth rfl h.r4 hg (ne_ty h.r4 h.r2 (by decide)), R_oth rfl h.r9 hg (fun k hk e => h.d29 k e.symm hk), ne_swap (ne_grow (ne_swap h.d12) (Kd.R_lt h.r1) hat), h.d19, ne_grow h.d29 (Kd.R_lt h.r9) hat⟩
 exact Kd.N_mono (Kd.N_after (u := v2) (Kd.N_mono h.r3 (fun k ⟨⟨⟨⟨⟨⟨a, b⟩, c⟩, d⟩, e⟩, f⟩, i⟩ => (⟨⟨⟨⟨⟨⟨a, b⟩, c⟩, d⟩, e⟩, i⟩, f⟩ : ((((( w.heap.size ≤ k ∧ B k) ∧ some k ≠ v0.ownBlock) ∧ some k ≠ v4.ownBlock) ∧ some k ≠ v1.ownBlock) ∧ some k ≠ v9.ownBlock) ∧ some k ≠ v2.ownBlock))) hg hat) (fun k ⟨⟨⟨⟨⟨⟨a, b⟩, c⟩, d⟩, e⟩, i⟩, f⟩ => ⟨⟨⟨⟨⟨⟨a, b⟩, c⟩, d⟩, e⟩, f⟩, i⟩)
theorem LR.app9 (h : LR w0 w W g B s v0 v1 v2 v3 v4 v9 l0 l1 l2 l3 l4 l9) (hR : kB.R 4 w1 w.heap.size (fun _ => True) v' l9') (hg : W.grownBy w1 v9.ownBlock) (hat : Hat W v9 v') : LR w0 w w1 g B s v0 v1 v2 v3 v4 v' l0 l1 l2 l3 l4 l9' := by
 obtain ⟨hk, hu, hb⟩ := h.grow_kb hg (Kd.R_base h.r9)
 refine ⟨h.gn, hk, hu, hb, R_oth rfl h.r0 hg (ne_ty h.r0 h.r9 (by decide)), R_oth rfl h.r1 hg (fun k hk e => h.d19 k hk e.symm), R_oth rfl h.r2 hg (fun k hk e => h.d29 k hk e.symm), ?_, R_oth rfl h.r4 hg (ne_ty h.r4 h.r9 (by decide)), hR, h.d12, ne_swap (ne_grow (ne_swap h.d19) (Kd.R_lt h.r1) hat), ne_swap (ne_grow (ne_swap h.d29) (Kd.R_lt h.r2) hat)⟩
 exact Kd.N_after (u := v9) h.r3 hg hat
theorem LR.appN (h : LR w0 w W g B s v0 v1 v2 v3 v4 v9 l0 l1 l2 l3 l4 l9) (hN : Kd.N (Kd.slice 4 Kd.bool) 24 w1 w.heap.size (fun k => ((((w.heap.size ≤ k ∧ B k) ∧ some k ≠ v0.ownBlock) ∧ some k ≠ v4.ownBlock) ∧ some k ≠ v1.ownBlock) ∧ some k ≠ v2.ownBlock) v' (l3 ++ [l9])) (hg : W.grownBy w1 v3.ownBlock) : LR w0 w w1 g B s v0 v1 v2 v' v4 (.slice none 0 0) l0 l1 l2 (l3 ++ [l9]) l4 [] := by
 obtain ⟨hk, hu, hb⟩ := h.grow_kb hg (Kd.N_base h.r3)
 have hn : ∀ k, (Value.slice none 0 0).ownBlock ≠ some k := fun k => by simp [Value.ownBlock]
 exact ⟨h.gn, hk, hu, hb, R_oth rfl h.r0 hg (ne_tyN h.r0 h.r3 (by decide)), R_oth rfl h.r1 hg (ne_tyN h.r1 h.r3 (by decide)), R_oth rfl h.r2 hg (ne_tyN h.r2 h.r3 (by decide)), Kd.N_mono hN (fun k hk => ⟨hk, fun e => hn k e.symm⟩), R_oth rfl h.r4 hg (ne_tyN h.r4 h.r3 (by decide)), Kd.R_nil _ _ _ _ _, h.d12, fun k _ => hn k, fun k _ => hn k⟩
theorem LR.rowOk (h : LR w0 w W g B s v0 v1 v2 v3 v4 v9 l0 l1 l2 l3 l4 l9) : ∀ k, some k = v9.ownBlock ∧ B k → (((((w.heap.size ≤ k ∧ B k) ∧ some k ≠ v0.ownBlock) ∧ some k ≠ v4.ownBlock) ∧ some k ≠ v1.ownBlock) ∧ some k ≠ v2.ownBlock) ∧ some k ≠ v3.ownBlock := fun k hk =>
 ⟨⟨⟨⟨⟨⟨Kd.R_base h.r9 k hk.1.symm, hk.2⟩, ne_ty h.r9 h.r0 (by decide) k hk.1.symm⟩, ne_ty h.r9 h.r4 (by decide) k hk.1.symm⟩, fun e => h.d19 k e.symm hk.1.symm⟩, fun e => h.d29 k e.symm hk.1.symm⟩, ne_tyN h.r9 h.r3 (by decide) k hk.1.symm⟩
theorem LR.freshOk (h : LR w0 w W g B s v0 v1 v2 v3 v4 v9 l0 l1 l2 l3 l4 l9) (hB : ∀ k, W.heap.size ≤ k → B k) : ∀ k, W.heap.size ≤ k → ((((w.heap.size ≤ k ∧ B k) ∧ some k ≠ v0.ownBlock) ∧ some k ≠ v4.ownBlock) ∧ some k ≠ v1.ownBlock) ∧ some k ≠ v2.ownBlock := fun k hk =>
 ⟨⟨⟨⟨⟨Nat.le_trans h.sz hk, hB k hk⟩, fun e => by have := Kd.R_lt h.r0 k e.symm; omega⟩, fun e => by have := Kd.R_lt h.r4 k e.symm; omega⟩, fun e => by have := Kd.R_lt h.r1 k e.symm; omega⟩, fun e => by have := Kd.R_lt h.r2 k e.symm; omega⟩
theorem LR.put1 {a c n : Nat} (h : LR w0 w W g B s v0 (.slice (some ⟨a, 0, none⟩) n c) v2 v3 v4 v9 l0 l1 l2 l3 l4 l9) (i : Nat) (b : Bool) : LR w0 w (W.setCell ⟨a, i, none⟩ (.bool b)) g B s v0 (.slice (some ⟨a, 0, none⟩) n c) v2 v3 v4 v9 l0 (l1.set i b) l2 l3 l4 l9 := by
 have hR := Kd.R_putn h.r1 (i : Int) b
 rw [Int.toNat_natCast] at hR
 have ha : (Value.slice (some ⟨a, 0, none⟩) n c).ownBlock = some a := by simp [Value.ownBlock]
 have hn := Kd.R_base h.r1 a ha
 have hgb : g ≠ a := by have := h.gn; omega
 refine { h with kb := setBlk_keep _ hn h.kb, u := ⟨blk_far h.u.1 hgb _, h.u.2⟩, bw := h.bw.setCell (by show w0.heap.size ≤ a; have := h.w0g; omega) _, r0 := R_fb rfl h.r0 (fun e => ne_ty h.r0 h.r1 (by decide) a e ha.symm) _, r1 := hR, r2 := R_fb rfl h.r2 (h.d12 a ha) _, r3 := ?_, r4 := R_fb rfl h.r4 (fun e => ne_ty h.r4 h.r1 (by decide) a e ha.symm) _, r9 := R_fb rfl h.r9 (h.d19 a ha) _ }
 exact Kd.N_far (p := ⟨a, i, none⟩) h.r3 (fun k hk => by rintro rfl; exact hk.1.1.2 ha.symm) _
theorem LR.put2 {a c n : Nat} (h : LR w0 w W g B s v0 v1 (.slice (some ⟨a, 0, none⟩) n c) v3 v4 v9 l0 l1 l2 l3 l4 l9) (i : Nat) (b : Bool) : LR w0 w (W.setCell ⟨a, i, none⟩ (.bool b)) g B s v0 v1 (.slice (some ⟨a, 0, none⟩) n c) v3 v4 v9 l0 l1 (l2.set i b) l3 l4 l9 := by
 have hR := Kd.R_putn h.r2 (i : Int) b
 rw [Int.toNat_natCast] at hR
 have ha : (Value.slice (some ⟨a, 0, none⟩) n c).ownBlock = some a := by simp [Value.ownBlock]
 have hn := Kd.R_base h.r2 a ha
 have hgb : g ≠ a := by have := h.gn; omega
 refine { h with kb := setBlk_keep _ hn h.kb, u := ⟨blk_far h.u.1 hgb _, h.u.2⟩, bw := h.bw.setCell (by show w0.heap.size ≤ a; have := h.w0g; omega) _, r0 := R_fb rfl h.r0 (fun e => ne_ty h.r0 h.r2 (by decide) a e ha.symm) _, r2 := hR, r1 := R_fb rfl h.r1 (fun e => h.d12 a e ha) _, r3 := ?_, r4 := R_fb rfl h.r4 (fun e => ne_ty h.r4 h.r2 (by decide) a e ha.symm) _, r9 := R_fb rfl h.r9 (h.d29 a ha) _ }
 exact Kd.N_far (p := ⟨a, i, none⟩) h.r3 (fun k hk => by rintro rfl; exact hk.1.2 ha.symm) _
end
def LxB (W : World) (bx : Nat) (u0 u1 u2 u3 u4 : Value) : Prop := W.heap[bx]? = some (.cells #[u0, u1, u2, u3, u4] 28 (0, 0))
theorem LxB.cells {W : World} {bx : Nat} {u0 u1 u2 u3 u4 : Value} (h : LxB W bx u0 u1 u2 u3 u4) : W.cell? ⟨bx, 0, none⟩ = some u0 ∧ W.cell? ⟨bx, 1, none⟩ = some u1 ∧ W.cell? ⟨bx, 2, none⟩ = some u2 ∧ W.cell? ⟨bx, 3, none⟩ = some u3 ∧ W.cell? ⟨bx, 4, none⟩ = some u4 :=
 ⟨(blk_cell h 0).trans rfl, (blk_cell h 1).trans rfl, (blk_cell h 2).trans rfl, (blk_cell h 3).trans rfl, (blk_cell h 4).trans rfl⟩
structure LX (w0 w W : World) (g : Nat) (B : Nat → Prop) (bx : Nat) (s : St) (v0 v1 v2 v3 v4 v9 : Value) (l0 : List S53) (l1 l2 : List Bool) (l3 : List (List Bool)) (l4 : List S47) (l9 : List Bool) : Prop where
 r : LR w0 w W g B s v0 v1 v2 v3 v4 v9 l0 l1 l2 l3 l4 l9
 b : LxB W bx v0 v1 v2 v3 v4
 n : w.heap.size < bx
end Go.Proofs.Ytkfebceainedfaa.P.OwnUrn
namespace Go.Proofs.Ytkfebceainedfaa.P.OwnUrn
open Go.RowKit Go.Proofs.YtkfebceainedfaaW.PrintWords Go.Proofs.YtkfebceainedfaaW.PrintLast Go.Proofs.YtkfebceainedfaaW.PrintMore
open Go.Proofs.Ytkfebceainedfaa.P.OwnGap
set_option linter.unusedVariables false
set_option linter.unusedSimpArgs false
attribute [local go_sem] Oper.semAt_some
attribute [local go_sem high] eqA53
abbrev nilV : Value := .slice none 0 0
theorem infoL4 : (Try.prog.info? 4).map (fun i => (i.zero, i.size, i.bytes)) = some (some (.bool false), 1, 1) := by kernel_rfl
theorem infoL24 : (Try.prog.info? 24).map (fun i => (i.zero, i.size, i.bytes)) = some (some (.slice none 0 0), 1, 24) := by kernel_rfl
theorem infoL47 : (Try.prog.info? 47).map (fun i => (i.zero, i.size, i.bytes)) = some (some (.agg #[(.int .i64 0), (.int .i64 0)]), 2, 16) := by kernel_rfl
theorem infoL53 : (Try.prog.info? 53).map (fun i => (i.zero, i.size, i.bytes)) = some (some (.agg #[(.string ⟨#[]⟩), (.int .i64 0)]), 2, 24) := by kernel_rfl
theorem LX.start {w0 w : World} {g : Nat} {s : St} (hg : g < w.heap.size) (hI : IsS83 w0 w g s.1 s.2) (hB : Below w0.heap.size w0 w) : LX w0 w ((w.alloc (.cells #[nilV, nilV, nilV, nilV, nilV] 28)).alloc (.cells #[nilV, nilV, nilV, nilV, nilV] 28)) g (fun k => k ≠ w.heap.size + 1 ∧ k ≠ w.heap.size) (w.heap.size + 1) s nilV nilV nilV nilV nilV nilV [] [] [] [] [] [] := by
  have hn : ∀ k, nilV.ownBlock ≠ some k := fun k => by simp [Value.ownBlock]
  have hb : Below w.heap.size w ((w.alloc (.cells #[nilV, nilV, nilV, nilV, nilV] 28)).alloc (.cells #[nilV, nilV, nilV, nilV, nilV] 28)) := ((Below.refl _ _).alloc (Nat.le_refl _) _).alloc (by simp) _
  have h0 : w0.heap.size ≤ w.heap.size := hB.size
  refine ⟨⟨hg, KeepBut.of_below hb g none, hI.below hb, hB.trans (hb.mono h0), Kd.R_nil _ _ _ _ _, Kd.R_nil _ _ _ _ _, Kd.R_nil _ _ _ _ _, Kd.N_nil _ _ _ _ _, Kd.R_nil _ _ _ _ _, Kd.R_nil _ _ _ _ _, fun k _ => hn k, fun k _ => hn k, fun k _ => hn k⟩, ?_, Nat.lt_succ_self _⟩
  have h2 := blk_new (w.alloc (.cells #[nilV, nilV, nilV, nilV, nilV] 28)) (.cells #[nilV, nilV, nilV, nilV, nilV] 28)
  rw [World.size_alloc] at h2
  exact h2
section
variable {w0 w W W' w1 : World} {g bx : Nat} {B : Nat → Prop} {s s' : St} {v0 v1 v2 v3 v4 v9 v' : Value} {l0 l0' : List S53} {l1 l1' l2 l2' : List Bool} {l3 : List (List Bool)} {l4 l4' : List S47} {l9 l9' : List Bool}
theorem LX.next (h : LX w0 w W g B bx s v0 v1 v2 v3 v4 v9 l0 l1 l2 l3 l4 l9) (hb : Below W.heap.size W W') : LX w0 w W' g B bx s v0 v1 v2 v3 v4 v9 l0 l1 l2 l3 l4 l9 := ⟨h.r.next hb, blk_below h.b hb, h.n⟩
theorem LX.urn (h : LX w0 w W g B bx s v0 v1 v2 v3 v4 v9 l0 l1 l2 l3 l4 l9) (hu : IsS83 w0 W' g s'.1 s'.2) (hb : Below w0.heap.size w0 W') (hk : KeepBut W W' g none) : LX w0 w W' g B bx s' v0 v1 v2 v3 v4 v9 l0 l1 l2 l3 l4 l9 :=
  ⟨h.r.step hk hu hb, (hk.2 bx (blk_lt h.b) (by have := h.n; have := h.r.gn; omega) (by simp)).trans h.b, h.n⟩
theorem LR.farX {u0 u1 u2 u3 u4 : Value} (h : LR w0 w W g B s v0 v1 v2 v3 v4 v9 l0 l1 l2 l3 l4 l9) (hb : LxB W bx u0 u1 u2 u3 u4) (hn : w.heap.size < bx) (hB : ∀ k, B k → k ≠ bx) (o : Nat) (v : Value) : LR w0 w (W.setCell ⟨bx, o, none⟩ v) g B s v0 v1 v2 v3 v4 v9 l0 l1 l2 l3 l4 l9 :=
  h.far (Nat.le_of_lt hn) hB (fun e => Kd.R_ne h.r0 hb (by decide) e.symm) (fun e => Kd.R_ne h.r1 hb (by decide) e.symm) (fun e => Kd.R_ne h.r2 hb (by decide) e.symm) (fun e => Kd.R_ne h.r4 hb (by decide) e.symm) (fun e => Kd.R_ne h.r9 hb (by decide) e.symm) v
theorem LxB.set0 {u0 u1 u2 u3 u4 : Value} (hb : LxB W bx u0 u1 u2 u3 u4) (v : Value) : LxB (W.setCell ⟨bx, 0, none⟩ v) bx v u1 u2 u3 u4 := (blk_set hb 0 v).trans (by simp)
theorem LxB.set1 {u0 u1 u2 u3 u4 : Value} (hb : LxB W bx u0 u1 u2 u3 u4) (v : Value) : LxB (W.setCell ⟨bx, 1, none⟩ v) bx u0 v u2 u3 u4 := (blk_set hb 1 v).trans (by simp)
theorem LxB.set2 {u0 u1 u2 u3 u4 : Value} (hb : LxB W bx u0 u1 u2 u3 u4) (v : Value) : LxB (W.setCell ⟨bx, 2, none⟩ v) bx u0 u1 v u3 u4 := (blk_set hb 2 v).trans (by simp)
theorem LxB.set3 {u0 u1 u2 u3 u4 : Value} (hb : LxB W bx u0 u1 u2 u3 u4) (v : Value) : LxB (W.setCell ⟨bx, 3, none⟩ v) bx u0 u1 u2 v u4 := (blk_set hb 3 v).trans (by simp)
theorem LxB.set4 {u0 u1 u2 u3 u4 : Value} (hb : LxB W bx u0 u1 u2 u3 u4) (v : Value) : LxB (W.setCell ⟨bx, 4, none⟩ v) bx u0 u1 u2 u3 v := (blk_set hb 4 v).trans (by simp)
end
section
variable {w0 w W : World} {g b : Nat} {B : Nat → Prop} {s : St} {v0 v1 v2 v3 v4 v9 u0 u1 u2 u3 u4 : Value} {l0 : List S53} {l1 l2 : List Bool} {l3 : List (List Bool)} {l4 : List S47} {l9 : List Bool}
theorem LR.farN (h : LR w0 w W g B s v0 v1 v2 v3 v4 v9 l0 l1 l2 l3 l4 l9) (hb : LxB W b u0 u1 u2 u3 u4) (hn : w.heap.size ≤ b) (hB : ∀ k, B k → k ≠ b) (o : Nat) (v : Value) : LR w0 w (W.setCell ⟨b, o, none⟩ v) g B s v0 v1 v2 v3 v4 v9 l0 l1 l2 l3 l4 l9 :=
  h.far hn hB (fun e => Kd.R_ne h.r0 hb (by decide) e.symm) (fun e => Kd.R_ne h.r1 hb (by decide) e.symm) (fun e => Kd.R_ne h.r2 hb (by decide) e.symm) (fun e => Kd.R_ne h.r4 hb (by decide) e.symm) (fun e => Kd.R_ne h.r9 hb (by decide) e.symm) v
theorem LR.far5 (h : LR w0 w W g B s v0 v1 v2 v3 v4 v9 l0 l1 l2 l3 l4 l9) (hb : LxB W b u0 u1 u2 u3 u4) (hn : w.heap.size ≤ b) (hB : ∀ k, B k → k ≠ b) (x0 x1 x2 x3 x4 : Value) :
    LR w0 w (((((W.setCell ⟨b, 0, none⟩ x0).setCell ⟨b, 1, none⟩ x1).setCell ⟨b, 2, none⟩ x2).setCell ⟨b, 3, none⟩ x3).setCell ⟨b, 4, none⟩ x4) g B s v0 v1 v2 v3 v4 v9 l0 l1 l2 l3 l4 l9 ∧ LxB (((((W.setCell ⟨b, 0, none⟩ x0).setCell ⟨b, 1, none⟩ x1).setCell ⟨b, 2, none⟩ x2).setCell ⟨b, 3, none⟩ x3).setCell ⟨b, 4, none⟩ x4) b x0 x1 x2 x3 x4 :=
  ⟨((((h.farN hb hn hB 0 x0).farN (hb.set0 x0) hn hB 1 x1).farN ((hb.set0 x0).set1 x1) hn hB 2 x2).farN (((hb.set0 x0).set1 x1).set2 x2) hn hB 3 x3).farN ((((hb.set0 x0).set1 x1).set2 x2).set3 x3) hn hB 4 x4, ((((hb.set0 x0).set1 x1).set2 x2).set3 x3).set4 x4⟩
theorem LR.told (h : LR w0 w W g B s v0 v1 v2 v3 v4 v9 l0 l1 l2 l3 l4 l9) : Kd.R k53 53 W w.heap.size (fun k_ => (w.heap.size ≤ k_)) v0 l0 ∧ Kd.R Kd.bool 4 W w.heap.size (fun k_ => (w.heap.size ≤ k_) ∧ some k_ ≠ v2.ownBlock) v1 l1 ∧ Kd.R Kd.bool 4 W w.heap.size (fun k_ => (w.heap.size ≤ k_) ∧ some k_ ≠ v1.ownBlock) v2 l2 ∧ Kd.N (Kd.slice 4 Kd.bool) 24 W w.heap.size (fun k_ => (w.heap.size ≤ k_) ∧ some k_ ≠ v0.ownBlock ∧ some k_ ≠ v1.ownBlock ∧ some k_ ≠ v2.ownBlock ∧ some k_ ≠ v4.ownBlock) v3 l3 ∧ Kd.R k47 47 W w.heap.size (fun k_ => (w.heap.size ≤ k_)) v4 l4 :=
  ⟨Kd.R_reok rfl h.r0 (Kd.R_base h.r0), Kd.R_reok rfl h.r1 (fun k hk => ⟨Kd.R_base h.r1 k hk, fun e => h.d12 k hk e.symm⟩), Kd.R_reok rfl h.r2 (fun k hk => ⟨Kd.R_base h.r2 k hk, fun e => h.d12 k e.symm hk⟩),
    Kd.N_mono h.r3 (fun k ⟨⟨⟨⟨⟨⟨a, b⟩, c⟩, d⟩, e⟩, f⟩, i⟩ => ⟨a, c, e, f, d⟩), Kd.R_reok rfl h.r4 (Kd.R_base h.r4)⟩
end
theorem C_lit (w : World) (xs : List Int) (t : TypeId) (hm : xs.length ≤ 1000) : Kd.C (Kd.int .i64) (w.alloc (.cells (xs.map (Value.int .i64)).toArray t)) (some ⟨w.heap.size, 0, none⟩) xs.length xs := by
  refine ⟨rfl, by omega, fun _ => ⟨_, rfl, fun j q hj => ⟨[.int .i64 q], rfl, rfl, fun i u hu => ?_⟩⟩⟩
  have hi : i = 0 := by
    have := (List.getElem?_eq_some_iff.1 hu).1
    simpa using this
  subst hi
  simp only [List.getElem?_cons_zero, Option.some.injEq] at hu
  subst hu
  have e : ((⟨w.heap.size, 0, none⟩ : Addr).add (j * (Kd.int .i64).sz + 0)) = ⟨w.heap.size, j, none⟩ := by
    rw [show j * (Kd.int .i64).sz + 0 = j by show j * 1 + 0 = j; omega]
    cases j <;> simp [Addr.add]
  rw [e, blk_cell (blk_new w _) j]
  simp [hj]
theorem conv_byte (w : World) (c : Int) : (convert 67 9 (.slice (some ⟨w.heap.size, 0, none⟩) 1 1)).run Try.prog (w.alloc (.cells #[.int .u8 c] 5)) = .ok (.string (strOfNums [c])) (w.alloc (.cells #[.int .u8 c] 5)) :=
  run_convert_bytes_arg (P := Try.prog) (w := w.alloc (.cells #[.int .u8 c] 5)) 67 5 Try.underlying67 Try.underlying5 w.heap.size 0 1 1 [c] rfl (fun i hi => by
    obtain rfl : i = 0 := by omega
    exact (blk_cell (blk_new w (.cells #[.int .u8 c] 5)) 0).trans rfl) 9 Try.underlying9
theorem R_sl {α : Type} {d : Kd α} {e base : Nat} {W : World} {ok : Nat → Prop} {v : Value} {xs : List α} (h : d.R e W base ok v xs) : ∃ A n c, v = .slice A n c := by
  obtain ⟨A, c, e⟩ := Kd.R_slice h
  exact ⟨A, _, c, e⟩
set_option maxHeartbeats 8000000 in
set_option maxRecDepth 100000 in
theorem lexiconOf_calls (g : Nat) (s0 s1 a1 a2 : Int) (r1 : List S53) (r2 r3 : List Bool) (r4 : List (List Bool)) (r5 : List S47) (r6 r7 : Int) (w0 w : World) (hI : IsS83 w0 w g s0 s1) (hB : Below w0.heap.size w0 w) (h : lexiconOf s0 s1 a1 a2 = some (r1, r2, r3, r4, r5, r6, r7)) :
    Calls Try.prog 38 #[.pointer (some ⟨g, 0, none⟩), .int .i64 a1, .int .i64 a2] w fun e w' => ∃ v0_ v1_ v2_ v3_ v4_ : Value, e = .returned (.agg #[v0_, v1_, v2_, v3_, v4_]) ∧ Kd.R k53 53 w' w.heap.size (fun k_ => (w.heap.size ≤ k_)) v0_ r1 ∧ Kd.R Kd.bool 4 w' w.heap.size (fun k_ => (w.heap.size ≤ k_) ∧ some k_ ≠ (v2_ : Value).ownBlock) v1_ r2 ∧ Kd.R Kd.bool 4 w' w.heap.size (fun k_ => (w.heap.size ≤ k_) ∧ some k_ ≠ (v1_ : Value).ownBlock) v2_ r3 ∧ Kd.N (Kd.slice 4 Kd.bool) 24 w' w.heap.size (fun k_ => (w.heap.size ≤ k_) ∧ some k_ ≠ (v0_ : Value).ownBlock ∧ some k_ ≠ (v1_ : Value).ownBlock ∧ some k_ ≠ (v2_ : Value).ownBlock ∧ some k_ ≠ (v4_ : Value).ownBlock) v3_ r4 ∧ Kd.R k47 47 w' w.heap.size (fun k_ => (w.heap.size ≤ k_)) v4_ r5 ∧ IsS83 w0 w' g r6 r7 ∧ Below w0.heap.size w0 w' ∧ KeepBut w w' g none := by
  unfold lexiconOf at h
  by_cases ha : (0 ≤ a1 ∧ a1 ≤ 800) ∧ (0 ≤ a2 ∧ a2 ≤ 800)
  case neg => rw [if_neg ha] at h; cases h
  rw [if_pos ha] at h
  obtain ⟨⟨F, sF⟩, hF, h⟩ := Option.bind_eq_some_iff.1 h
  obtain ⟨tgt, hT, h⟩ := Option.bind_eq_some_iff.1 h
  obtain ⟨⟨N, sN⟩, hN, h⟩ := Option.bind_eq_some_iff.1 h
  obtain ⟨⟨wl, sW⟩, hW, h⟩ := Option.bind_eq_some_iff.1 h
  obtain ⟨⟨dl, sD⟩, hD, h⟩ := Option.bind_eq_some_iff.1 h
  have hgl : g < w.heap.size := blk_lt hI.1
  obtain ⟨vF, aF, bF, eF, hF1, hF3⟩ := from_ok s0 s1 1 3 (by decide) (by decide) (by decide) (by decide)
  rw [eF] at hF
  simp only [Option.some.injEq, Prod.mk.injEq] at hF
  obtain ⟨rfl, rfl⟩ := hF
  simp only at hT hN hW hD h
  obtain ⟨f, rfl⟩ : ∃ f : Nat, vF = (f : Int) := ⟨vF.toNat, by omega⟩
  have hf3 : 1 ≤ f ∧ f ≤ 3 := by omega
  rw [Int.toNat_natCast] at hT
  have HFC := Aside0.mk (fun (W : World) (hI : IsS83 w0 W g s0 s1) (hB : Below w0.heap.size w0 W) => cippuskit_Urn_From.calls g s0 s1 1 3 (f : Int) aF bF w0 W hI hB eF)
  have HT := Aside0.mk hT
  have HN := Aside0.mk hN
  have HW := Aside0.mk hW
  have HD := Aside0.mk hD
  have HEND := Aside0.mk h
  have HX0 := Aside0.mk (LX.start (s := (s0, s1)) hgl hI hB)
  clear h hT hN hW hD eF hF1 hF3 hI hB
  obtain ⟨n0, hn0⟩ : ∃ n, n = w.heap.size := ⟨_, rfl⟩
  have HN0 := Aside0.mk hn0
  go_enter Try.func38, Try.ntmps38
  go_upto_region 2 with fail
  refine wp_gen (fun wx => Aside0 (LX w0 w wx g (fun k => k ≠ n0 + 1 ∧ k ≠ n0) (n0 + 1) (s0, s1) nilV nilV nilV nilV nilV nilV [] [] [] [] [] [] ∧ wx.heap[n0]? = some (.cells #[nilV, nilV, nilV, nilV, nilV] 28 (0, 0)))) ⟨by rw [hn0]; exact HX0.out, by rw [hn0]; exact blk_alloc (blk_new w _) _⟩ ?_
  rw [← hn0]
  clear hn0 HX0
  rintro w1 HX
  go_upto_block 0 with first
    | (go_at_call 18; refine (HFC.out _ HX.out.1.r.u HX.out.1.r.bw).mono ?_; rintro e w2 ⟨rfl, hu2, hb2, hk2⟩; have HX2 := Aside0.mk (show LX w0 w w2 g (fun k => k ≠ n0 + 1 ∧ k ≠ n0) (n0 + 1) (aF, bF) nilV nilV nilV nilV nilV nilV [] [] [] [] [] [] ∧ w2.heap[n0]? = some (.cells #[nilV, nilV, nilV, nilV, nilV] 28 (0, 0)) from ⟨HX.out.1.urn hu2 hb2 hk2, (hk2.2 n0 (blk_lt HX.out.2) (by rw [HN0.out]; omega) (by simp)).trans HX.out.2⟩); clear hu2 hb2 hk2)
    | fail
  have HBX := Aside0.mk (show n0 < n0 + 1 from Nat.lt_succ_self _)
  obtain ⟨bx, hbx⟩ : ∃ b, b = n0 + 1 := ⟨_, rfl⟩
  rw [← hbx] at HX2 ⊢
  have HBE := Aside0.mk hbx
  have hfz : (f : Int) ≤ 3 := by omega
  have HNE := Aside0.mk (show n0 ≠ bx by rw [hbx]; omega)
  clear hbx HX HBX w1
  go_cut [9, 10, 11] (fun _ _ _ wx => ∃ v1 v2 v3, Aside0 (LX w0 w wx g (fun k => k ≠ bx ∧ k ≠ n0) bx tgt.2.2.2 nilV v1 v2 v3 nilV nilV [] tgt.1 tgt.2.1 tgt.2.2.1 [] [] ∧ tgt.1.length = f ∧ tgt.2.1.length = f ∧ wx.heap[n0]? = some (.cells #[nilV, nilV, nilV, nilV, nilV] 28 (0, 0))))
  case first =>
    go_wp2_with fail
    go_loopg [9, 10, 11] f (fun gh s9 _ _ wr => ∃ (i : Nat) (s : St) (v1 v2 v3 : Value) (l1 l2 : List Bool) (l3 : List (List Bool)), i + gh = f ∧ s9 = .int .i64 (i : Int) ∧ Aside0 (LX w0 w wr g (fun k => k ≠ bx ∧ k ≠ n0) bx s nilV v1 v2 v3 nilV nilV [] l1 l2 l3 [] [] ∧ wr.heap[n0]? = some (.cells #[nilV, nilV, nilV, nilV, nilV] 28 (0, 0))) ∧ Aside0 (formsGo f (f - i) l1 l2 l3 s = some tgt) ∧ Aside0 (l1.length = i ∧ l2.length = i ∧ l3.length = i))
    case atStart => exact ⟨0, _, _, _, _, [], [], [], by omega, rfl, HX2, HT, ⟨rfl, rfl, rfl⟩⟩
    case round =>
      clear HX2
      obtain ⟨i, s, v1, v2, v3, l1, l2, l3, hi, rfl, HX, HG, HL⟩ := hrel
      have HIN := Aside0.mk hi
      clear hi
      by_cases hlt : i < f
      · have hiz : (i : Int) < (f : Int) := by omega
        have hid : decide (i < f) = true := decide_eq_true hlt
        have HLT := Aside0.mk hlt
        have hg := HG.out
        rw [show f - i = (f - (i + 1)) + 1 by omega, formsGo] at hg
        obtain ⟨⟨ra, sa⟩, hra, hg⟩ := Option.bind_eq_some_iff.1 hg
        obtain ⟨⟨rb, sb⟩, hrb, hg⟩ := Option.bind_eq_some_iff.1 hg
        obtain ⟨⟨rw9, sc⟩, hrc, hg⟩ := Option.bind_eq_some_iff.1 hg
        have HRA := Aside0.mk hra
        have HRB := Aside0.mk hrb
        have HRC := Aside0.mk hrc
        have HG2 := Aside0.mk hg
        clear hg hra hrb hrc HG
        have hf0 : (l1.length + 1) * 1 ≤ 140737488355328 ∧ (l2.length + 1) * 1 ≤ 140737488355328 := by have := HL.out; omega
        have HF0 := Aside0.mk hf0
        clear hf0
        go_upto_region 6 with fail
        go_cut [30] (fun _ wx => ∃ v1' v2', Aside0 (LX w0 w wx g (fun k => k ≠ bx ∧ k ≠ n0) bx sb nilV v1' v2' v3 nilV nilV [] (l1 ++ [ra]) (l2 ++ [rb]) l3 [] [] ∧ wx.heap[n0]? = some (.cells #[nilV, nilV, nilV, nilV, nilV] 28 (0, 0))))
        case first =>
          obtain ⟨x0, x1, x2, x3, x4⟩ := HX.out.1.b.cells
          have xl := blk_lt HX.out.1.b
          have HXd := Aside0.mk (HX.out.1.next ((Below.refl _ _).drew))
          have HNd := Aside0.mk (show wr.drew.heap[n0]? = _ from HX.out.2)
          go_region_law (first
            | (rw [if_pos (by rfl)]; go_simp; (fail_if_success (have h_ := HX5.out)); go_at_call 31; refine (cippuskit_Urn_Odds.calls g _ _ 2 3 ra sa.1 sa.2 w0 _ HXd.out.r.u HXd.out.r.bw HRA.out).mono ?_; rintro e w5 ⟨rfl, hu5, hb5, hk5⟩; have HX5 := Aside0.mk (HXd.out.urn (s' := sa) hu5 hb5 hk5); have HN5 := Aside0.mk ((hk5.2 n0 (blk_lt HNd.out) (by have := HXd.out.r.gn; rw [HN0.out]; omega) (by simp)).trans HNd.out); obtain ⟨y0, y1, y2, y3, y4⟩ := HX5.out.b.cells; have yl := blk_lt HX5.out.b; clear hu5 hb5 hk5)
            | (rw [if_pos (by rfl)]; go_simp; go_at_call 31; refine (cippuskit_Urn_Odds.calls g _ _ 2 3 rb sb.1 sb.2 w0 _ HX6.out.u HX6.out.bw HRB.out).mono ?_; rintro e w7 ⟨rfl, hu7, hb7, hk7⟩; have HX7 := Aside0.mk (HX6.out.step (s' := sb) hk7 hu7 hb7); have HBX7 := Aside0.mk (show LxB w7 bx nilV v1 v2 v3 nilV from (hk7.2 bx (blk_lt HBX6.out) (by have := HX.out.1.n; have := HX.out.1.r.gn; omega) (by simp)).trans HBX6.out); have HN7 := Aside0.mk ((hk7.2 n0 (blk_lt HN6.out) (by have := HXd.out.r.gn; rw [HN0.out]; omega) (by simp)).trans HN6.out); obtain ⟨q0, q1, q2, q3, q4⟩ := HBX7.out.cells; have ql := blk_lt HBX7.out; clear hu7 hb7 hk7)
            | (refine Kd.R_append_step Kd.bool (w0 := w5) w.heap.size rfl (.tmp 26) (.tmp 29) 24 4 (.bool false) 1 rfl Try.underlying24 infoL4 rfl (by decide) (by omega) v1 l1 ra [.bool ra] (fun _ => True) (fun _ => False) rfl rfl ?_ (fun _ h => h.elim) (fun _ _ => trivial) ?_ ?_ ?_ ?_ ?_
               · exact rfl
               · exact HX5.out.r.r1
               · exact Below.refl _ _
               · exact HX5.out.r.sz
               · exact HF0.out.1
               intro v6 w6 hr6 hb6 hg6 hat6
               obtain ⟨A6, n6, c6, rfl⟩ := R_sl hr6
               have HX6 := Aside0.mk (HX5.out.r.app1 hr6 hg6 hat6)
               have HBX6 := Aside0.mk (show LxB w6 bx nilV v1 v2 v3 nilV from (hg6.block bx (blk_lt HX5.out.b) (Kd.R_ne HX5.out.r.r1 HX5.out.b (by decide))).trans HX5.out.b)
               have HN6 := Aside0.mk ((hg6.block n0 (blk_lt HN5.out) (Kd.R_ne HX5.out.r.r1 HN5.out (by decide))).trans HN5.out)
               obtain ⟨z0, z1, z2, z3, z4⟩ := HBX6.out.cells
               have zl := blk_lt HBX6.out
               clear hr6 hb6 hg6 hat6)
            | (refine Kd.R_append_step Kd.bool (w0 := w7) w.heap.size rfl (.tmp 32) (.tmp 35) 24 4 (.bool false) 1 rfl Try.underlying24 infoL4 rfl (by decide) (by omega) v2 l2 rb [.bool rb] (fun _ => True) (fun _ => False) rfl rfl ?_ (fun _ h => h.elim) (fun _ _ => trivial) ?_ ?_ ?_ ?_ ?_
               · exact rfl
               · exact HX7.out.r2
               · exact Below.refl _ _
               · exact HX7.out.sz
               · exact HF0.out.2
               intro v8 w8 hr8 hb8 hg8 hat8
               obtain ⟨A8, n8, c8, rfl⟩ := R_sl hr8
               have HX8 := Aside0.mk (HX7.out.app2 hr8 hg8 hat8)
               have HBX8 := Aside0.mk (show LxB w8 bx nilV v1 v2 v3 nilV from (hg8.block bx (blk_lt HBX7.out) (Kd.R_ne HX7.out.r2 HBX7.out (by decide))).trans HBX7.out)
               have HN8 := Aside0.mk ((hg8.block n0 (blk_lt HN7.out) (Kd.R_ne HX7.out.r2 HN7.out (by decide))).trans HN7.out)
               obtain ⟨p0, p1, p2, p3, p4⟩ := HBX8.out.cells
               have pl := blk_lt HBX8.out
               have pf1 := blk_frozen HBX8.out 1
               have pf2 := blk_frozen HBX8.out 2
               clear hr8 hb8 hg8 hat8))
          all_goals
            go_wp2_with fail
            refine Met.intro ?_
            go_step
            (repeat apply Exists.intro)
            refine ⟨?_, rfl⟩
            exact ⟨_, _, ⟨⟨((HX8.out.farX HBX8.out HX.out.1.n (fun k h => h.1) 1 _).farX (HBX8.out.set1 _) HX.out.1.n (fun k h => h.1) 2 _), (HBX8.out.set1 _).set2 _, HX.out.1.n⟩, blk_far (blk_far HN8.out HNE.out _) HNE.out _⟩⟩
        case rest =>
          obtain ⟨v1', v2', HX1⟩ := hcut
          clear HX HF0
          rename World => wd
          go_upto_block 2 with fail
          go_cut [10, 11] (fun s10 _ wx => ∃ v9, s10 = v9 ∧ Aside0 (LX w0 w wx g (fun k => k ≠ bx ∧ k ≠ n0) bx sc nilV v1' v2' v3 nilV v9 [] (l1 ++ [ra]) (l2 ++ [rb]) l3 [] rw9 ∧ wx.heap[n0]? = some (.cells #[nilV, nilV, nilV, nilV, nilV] 28 (0, 0))))
          case first =>
            go_wp2_with fail
            go_loopg [10, 11] f (fun gh s10 s11 wr => ∃ (k : Nat) (s : St) (l9 : List Bool), k + gh = f ∧ s11 = .int .i64 (k : Int) ∧ Aside0 (LX w0 w wr g (fun k => k ≠ bx ∧ k ≠ n0) bx s nilV v1' v2' v3 nilV s10 [] (l1 ++ [ra]) (l2 ++ [rb]) l3 [] l9 ∧ wr.heap[n0]? = some (.cells #[nilV, nilV, nilV, nilV, nilV] 28 (0, 0))) ∧ Aside0 (rowGo (f - k) l9 s = some (rw9, sc)) ∧ Aside0 (l9.length = k))
            case atStart => exact ⟨0, sb, [], by omega, rfl, HX1, HRC, ⟨rfl⟩⟩
            case round =>
              clear HX1
              obtain ⟨k, s, l9, hk, rfl, HX, HG, HL9⟩ := hrel
              have HKN := Aside0.mk hk
              clear hk
              by_cases hkl : k < f
              · have hkz : (k : Int) < (f : Int) := by omega
                have hkd : decide (k < f) = true := decide_eq_true hkl
                have HKL := Aside0.mk hkl
                have hg := HG.out
                rw [show f - k = (f - (k + 1)) + 1 by omega, rowGo] at hg
                obtain ⟨⟨rc, sd⟩, hrc, hg⟩ := Option.bind_eq_some_iff.1 hg
                have HRD := Aside0.mk hrc
                have HG2 := Aside0.mk hg
                clear hg hrc HG
                go_wp2_with first
                  | (go_at_call 31; refine (cippuskit_Urn_Odds.calls g _ _ 1 2 rc sd.1 sd.2 w0 _ HX.out.1.r.u HX.out.1.r.bw HRD.out).mono ?_; rintro e w5 ⟨rfl, hu5, hb5, hk5⟩; have HX5 := Aside0.mk (HX.out.1.urn (s' := sd) hu5 hb5 hk5); have HN5 := Aside0.mk ((hk5.2 n0 (blk_lt HX.out.2) (by have := HX.out.1.r.gn; rw [HN0.out]; omega) (by simp)).trans HX.out.2); clear hu5 hb5 hk5)
                  | (at_builtin; refine Kd.R_append Kd.bool (w0 := w5) w.heap.size rfl (.tmp 44) (.tmp 47) 24 4 (.bool false) 1 rfl Try.underlying24 infoL4 rfl (by decide) (by omega) u10 l9 rc [.bool rc] (fun _ => True) (fun _ => False) rfl rfl ?aP (fun _ hk => hk.elim) ?aF ?aO ?aB ?aS ?aL ?_; (case aP => exact rfl); (case aF => exact (fun _ _ => trivial)); (case aO => exact HX5.out.r.r9); (case aB => exact Below.refl _ _); (case aS => exact HX5.out.r.sz); (case aL => have := HL9.out; omega); intro v6 w6 ho hb hg hat; have HX6 := Aside0.mk (show LX w0 w w6 g (fun k => k ≠ bx ∧ k ≠ n0) bx sd nilV v1' v2' v3 nilV v6 [] (l1 ++ [ra]) (l2 ++ [rb]) l3 [] (l9 ++ [rc]) from ⟨HX5.out.r.app9 ho hg hat, (hg.block bx (blk_lt HX5.out.b) (Kd.R_ne HX5.out.r.r9 HX5.out.b (by decide))).trans HX5.out.b, HX5.out.n⟩); have HN6 := Aside0.mk ((hg.block n0 (blk_lt HN5.out) (Kd.R_ne HX5.out.r.r9 HN5.out (by decide))).trans HN5.out); clear ho hb hg hat)
                  | fail
                go_roundg (gk - 1)
                case measure => have := HKN.out; have := HKL.out; omega
                case rel => exact ⟨k + 1, sd, l9 ++ [rc], by have := HKN.out; have := HKL.out; omega, by go_num, ⟨HX6.out, HN6.out⟩, HG2, ⟨by rw [List.length_append, HL9.out]; rfl⟩⟩
              · have hkz : ¬ (k : Int) < (f : Int) := by omega
                have hkd : decide (k < f) = false := decide_eq_false hkl
                have HE := Aside0.mk (show l9 = rw9 ∧ s = sc by
                  have h := HG.out
                  rw [show f - k = 0 by omega, rowGo] at h
                  simp only [Option.some.injEq, Prod.mk.injEq] at h
                  exact h)
                go_wp2_with fail
                refine Met.intro ?_
                go_step
                (repeat apply Exists.intro)
                refine ⟨?_, rfl⟩
                refine ⟨_, rfl, ⟨?_⟩⟩
                have h := HX.out
                rw [HE.out.1, HE.out.2] at h
                exact h
          case rest =>
            obtain ⟨v9, rfl, HX⟩ := hcut
            clear HX1
            obtain ⟨A9, c9, rfl, hl9, -⟩ := Kd.R_reads HX.out.1.r.r9
            have HFK := Aside0.mk (show Kd.FK (Kd.slice 4 Kd.bool) wc (fun k => some k = (Value.slice A9 rw9.length c9).ownBlock ∧ (k ≠ bx ∧ k ≠ n0)) rw9 [.slice A9 rw9.length c9] from
              Kd.FK_slice_mk hl9 (Kd.R_F (Kd.R_mono (Kd.R_tight rfl HX.out.1.r.r9) (fun k hk => ⟨hk, fun e => Kd.R_ne HX.out.1.r.r9 HX.out.1.b (by decide) (by rw [← e]; exact hk), fun e => Kd.R_ne HX.out.1.r.r9 HX.out.2 (by decide) (by rw [← e]; exact hk)⟩))))
            obtain ⟨x0, x1, x2, x3, x4⟩ := HX.out.1.b.cells
            have xl := blk_lt HX.out.1.b
            have HL3 := Aside0.mk (show (l3.length + 1) * 24 ≤ 140737488355328 by have := HL.out.2.2; omega)
            go_wp2_with first
              | (at_builtin; refine Kd.N_append (Kd.slice 4 Kd.bool) (w0 := wc) w.heap.size rfl (.tmp 50) (.tmp 52) 25 24 (.slice none 0 0) 24 rfl Try.underlying25 infoL24 rfl (by decide) (by omega) v3 l3 rw9 [.slice A9 rw9.length c9] (fun k => ((((w.heap.size ≤ k ∧ (k ≠ bx ∧ k ≠ n0)) ∧ some k ≠ nilV.ownBlock) ∧ some k ≠ nilV.ownBlock) ∧ some k ≠ v1'.ownBlock) ∧ some k ≠ v2'.ownBlock) (fun k => some k = (Value.slice A9 rw9.length c9).ownBlock ∧ (k ≠ bx ∧ k ≠ n0)) rfl rfl ?nP ?nO ?nF ?nN ?nB ?nS ?nL ?_; (case nP => exact HFK.out); (case nO => exact HX.out.1.r.rowOk); (case nF => exact HX.out.1.r.freshOk (fun k hk => ⟨by have := blk_lt HX.out.1.b; omega, by have := blk_lt HX.out.2; omega⟩)); (case nN => exact Kd.N_mono HX.out.1.r.r3 (fun k hk => hk.1)); (case nB => exact Below.refl _ _); (case nS => exact HX.out.1.r.sz); (case nL => exact HL3.out); intro v6 w6 hN hb hg hat; obtain ⟨A6, n6, c6, rfl⟩ : ∃ A n c, v6 = .slice A n c := (by obtain ⟨A, c, e⟩ := Kd.N_slice hN; exact ⟨A, _, c, e⟩); have HN6 := Aside0.mk ((hg.block n0 (blk_lt HX.out.2) (Kd.N_ne HX.out.1.r.r3 HX.out.2 (by decide))).trans HX.out.2); have HBX6 := Aside0.mk (show LxB w6 bx nilV v1' v2' v3 nilV from (hg.block bx (blk_lt HX.out.1.b) (Kd.N_ne HX.out.1.r.r3 HX.out.1.b (by decide))).trans HX.out.1.b); have HX6 := Aside0.mk (HX.out.1.r.appN hN hg); obtain ⟨y0, y1, y2, y3, y4⟩ := HBX6.out.cells; have yl := blk_lt HBX6.out; have yf := blk_frozen HBX6.out 3; clear hN hb hg hat)
              | fail
            have HX7 := Aside0.mk (show LX w0 w (w6.setCell ⟨bx, 3, none⟩ (.slice A6 n6 c6)) g (fun k => k ≠ bx ∧ k ≠ n0) bx sc nilV v1' v2' (.slice A6 n6 c6) nilV nilV [] (l1 ++ [ra]) (l2 ++ [rb]) (l3 ++ [rw9]) [] [] from ⟨HX6.out.farX HBX6.out HX.out.1.n (fun k h => h.1) 3 _, HBX6.out.set3 _, HX.out.1.n⟩)
            have HN7 := Aside0.mk (blk_far (p := ⟨bx, 3, none⟩) HN6.out HNE.out (.slice A6 n6 c6))
            go_roundg (f - (i + 1))
            case measure => have := HIN.out; have := HLT.out; omega
            case rel => exact ⟨i + 1, sc, v1', v2', .slice A6 n6 c6, l1 ++ [ra], l2 ++ [rb], l3 ++ [rw9], by have := HIN.out; have := HLT.out; omega, by go_num, ⟨HX7.out, HN7.out⟩, HG2, ⟨by rw [List.length_append, HL.out.1]; rfl, by rw [List.length_append, HL.out.2.1]; rfl, by rw [List.length_append, HL.out.2.2]; rfl⟩⟩
      · have hiz : ¬ (i : Int) < (f : Int) := by omega
        have hid : decide (i < f) = false := decide_eq_false hlt
        have HE := Aside0.mk (show tgt = (l1, l2, l3, s) by
          have h := HG.out
          rw [show f - i = 0 by omega, formsGo] at h
          simp only [Option.some.injEq] at h
          exact h.symm)
        go_wp2_with fail
        refine Met.intro ?_
        go_step
        (repeat apply Exists.intro)
        refine ⟨?_, rfl⟩
        refine ⟨v1, v2, v3, ⟨?_⟩⟩
        rw [HE.out]
        have := HIN.out
        exact ⟨HX.out.1, by rw [HL.out.1]; omega, by rw [HL.out.2.1]; omega, HX.out.2⟩
  case rest =>
    obtain ⟨v1, v2, v3, HX⟩ := hcut
    clear HX2
    obtain ⟨F1, L1, N1, sT⟩ := tgt
    have HX := Aside0.mk (show LX w0 w wc g (fun k => k ≠ bx ∧ k ≠ n0) bx sT nilV v1 v2 v3 nilV nilV [] F1 L1 N1 [] [] ∧ F1.length = f ∧ L1.length = f ∧ wc.heap[n0]? = some (.cells #[nilV, nilV, nilV, nilV, nilV] 28 (0, 0)) from HX.out)
    obtain ⟨ga, ca, rfl, -⟩ := Kd.R_form HX.out.1.r.r1 (by rw [HX.out.2.1]; omega)
    obtain ⟨gb, cb, rfl, -⟩ := Kd.R_form HX.out.1.r.r2 (by rw [HX.out.2.2.1]; omega)
    obtain ⟨k0, kf0⟩ := Kd.R_cell false HX.out.1.r.r1 0 (by decide) (by rw [HX.out.2.1]; omega)
    obtain ⟨k1, kf1⟩ := Kd.R_cell false HX.out.1.r.r2 ((f : Int) - 1) (by omega) (by rw [HX.out.2.2.1]; omega)
    rw [show ((f : Int) - 1).toNat = f - 1 by omega] at k1 kf1
    have hga : (Value.slice (some ⟨ga, 0, none⟩) F1.length ca).ownBlock = some ga := by simp [Value.ownBlock]
    have hgb : (Value.slice (some ⟨gb, 0, none⟩) L1.length cb).ownBlock = some gb := by simp [Value.ownBlock]
    have hab : ga ≠ gb := fun e => HX.out.1.r.d12 ga hga (by rw [e]; exact hgb)
    have hba : gb ≠ ga := fun e => hab e.symm
    have hxa : bx ≠ ga := fun e => Kd.R_ne HX.out.1.r.r1 HX.out.1.b (by decide) (by rw [e]; exact hga.symm)
    have hxb : bx ≠ gb := fun e => Kd.R_ne HX.out.1.r.r2 HX.out.1.b (by decide) (by rw [e]; exact hgb.symm)
    have hna : n0 ≠ ga := fun e => Kd.R_ne HX.out.1.r.r1 HX.out.2.2.2 (by decide) (by rw [e]; exact hga.symm)
    have hnb : n0 ≠ gb := fun e => Kd.R_ne HX.out.1.r.r2 HX.out.2.2.2 (by decide) (by rw [e]; exact hgb.symm)
    have gal := Kd.R_lt HX.out.1.r.r1 ga hga
    have gbl := Kd.R_lt HX.out.1.r.r2 gb hgb
    have hlF : F1.length = f := HX.out.2.1
    have hlL : L1.length = f := HX.out.2.2.1
    obtain ⟨fl, hfl⟩ : ∃ n, n = F1.length := ⟨_, rfl⟩
    obtain ⟨ll, hll⟩ : ∃ n, n = L1.length := ⟨_, rfl⟩
    have HXa := Aside0.mk (show LX w0 w wc g (fun k => k ≠ bx ∧ k ≠ n0) bx sT nilV (.slice (some ⟨ga, 0, none⟩) fl ca) (.slice (some ⟨gb, 0, none⟩) ll cb) v3 nilV nilV [] F1 L1 N1 [] [] by rw [hfl, hll]; exact HX.out.1)
    have HNa := Aside0.mk HX.out.2.2.2
    rw [← hfl] at hlF
    rw [← hll] at hlL
    have HLF := Aside0.mk hlF
    have HLL := Aside0.mk hlL
    have HFLE := Aside0.mk hfl
    have HLLE := Aside0.mk hll
    obtain ⟨x0, x1, x2, x3, x4⟩ := HXa.out.b.cells
    have xl := blk_lt HXa.out.b
    have hf0z : (0 : Int) < (fl : Int) := by omega
    have hf0d : decide (0 < fl) = true := decide_eq_true (by omega)
    have hl0z : (f : Int) - 1 < (ll : Int) := by omega
    have hl0y : (0 : Int) ≤ (f : Int) - 1 := by omega
    have hl0x : (1 : Int) ≤ (f : Int) := by omega
    have hf1 : 1 ≤ f := by omega
    have hl0d : decide (f - 1 < ll) = true := decide_eq_true (by omega)
    have k0' : wc.cell? ⟨ga, 0, none⟩ = some (.bool (rdOf false F1 0)) := k0
    have kf0' : wc.frozen? ⟨ga, 0, none⟩ = false := kf0
    clear k0 kf0 hga hgb hfl hll hlF hlL HX
    go_upto_region 13 with fail
    go_region
    refine wp_gen' (fun wx => Aside0 (LX w0 w wx g (fun k => k ≠ bx ∧ k ≠ n0) bx sT nilV (.slice (some ⟨ga, 0, none⟩) fl ca) (.slice (some ⟨gb, 0, none⟩) ll cb) v3 nilV nilV [] (F1.set 0 true) (L1.set (f - 1) true) N1 [] [] ∧ wx.heap[n0]? = some (.cells #[nilV, nilV, nilV, nilV, nilV] 28 (0, 0)))) ⟨?_⟩ ?_
    · refine ⟨LX.next ⟨(HXa.out.r.put1 0 true).put2 (f - 1) true, blk_far (blk_far HXa.out.b hxa _) hxb _, HXa.out.n⟩ ((Below.refl _ _).drew), blk_far (blk_far HNa.out hna _) hnb _⟩
    clear k1 kf1 k0' kf0' hab hba hxa hxb hna hnb gal gbl x0 x1 x2 x3 x4 xl hf0z hf0d hl0z hl0y hl0x hf1 hl0d HXa HNa
    rintro wd HX
    obtain ⟨n, s14a, s14b, e14, hn1, hn2⟩ := from_ok sT.1 sT.2 1 a1 (by decide) (by decide) (by omega) (by omega)
    have hN2 : cippuskit_Urn_From.f sT.1 sT.2 1 a1 = some (N, sN) := HN.out
    rw [e14] at hN2
    simp only [Option.some.injEq, Prod.mk.injEq] at hN2
    obtain ⟨rfl, rfl⟩ := hN2
    obtain ⟨nn, rfl⟩ : ∃ k : Nat, n = (k : Int) := ⟨n.toNat, by omega⟩
    have hnn : nn ≤ 800 := by omega
    have HW2 := Aside0.mk (show wordsGo (f : Int) a2 nn [] (s14a, s14b) = some (wl, sW) by have h := HW.out; simp only [Int.toNat_natCast] at h; exact h)
    have HE14 := Aside0.mk e14
    obtain ⟨V1, hV1⟩ : ∃ v, v = Value.slice (some ⟨ga, 0, none⟩) fl ca := ⟨_, rfl⟩
    obtain ⟨V2, hV2⟩ : ∃ v, v = Value.slice (some ⟨gb, 0, none⟩) ll cb := ⟨_, rfl⟩
    rw [← hV1, ← hV2] at HX
    clear e14 hn1 hn2 hV1 hV2
    go_upto_block 4 with first
      | (go_at_call 18; refine (cippuskit_Urn_From.calls g _ _ 1 a1 (nn : Int) s14a s14b w0 _ HX.out.1.r.u HX.out.1.r.bw HE14.out).mono ?_; rintro e w5 ⟨rfl, hu5, hb5, hk5⟩; have HX5 := Aside0.mk (HX.out.1.urn (s' := (s14a, s14b)) hu5 hb5 hk5); have HN5 := Aside0.mk ((hk5.2 n0 (blk_lt HX.out.2) (by have := HX.out.1.r.gn; rw [HN0.out]; omega) (by simp)).trans HX.out.2); clear hu5 hb5 hk5)
      | fail
    obtain ⟨m, hm⟩ : ∃ m, m = w5.heap.size := ⟨_, rfl⟩
    have HXm := Aside0.mk (show LX w0 w w5 g (fun k => k ≠ bx ∧ k < m ∧ k ≠ n0) bx (s14a, s14b) nilV V1 V2 v3 nilV nilV [] (F1.set 0 true) (L1.set (f - 1) true) N1 [] [] ∧ w5.heap[n0]? = some (.cells #[nilV, nilV, nilV, nilV, nilV] 28 (0, 0)) ∧ m ≤ w5.heap.size from ⟨⟨HX5.out.r.sub (fun k h1 h2 => ⟨h2.1, by rw [hm]; exact h1, h2.2⟩), HX5.out.b, HX5.out.n⟩, HN5.out, by rw [hm]; exact Nat.le_refl _⟩)
    have HMX := Aside0.mk (show bx < m by rw [hm]; exact blk_lt HX5.out.b)
    obtain ⟨Fs, hFs⟩ : ∃ l, l = F1.set 0 true := ⟨_, rfl⟩
    obtain ⟨Ls, hLs⟩ : ∃ l, l = L1.set (f - 1) true := ⟨_, rfl⟩
    rw [← hFs, ← hLs] at HXm
    have HFS := Aside0.mk hFs
    have HLS := Aside0.mk hLs
    clear hm hFs hLs HX HX5 HN5
    go_cut [12, 13, 14, 15, 16] (fun _ _ _ _ _ wx => ∃ v0, Aside0 (LX w0 w wx g (fun k => k ≠ bx ∧ k < m ∧ k ≠ n0) bx sW v0 V1 V2 v3 nilV nilV wl Fs Ls N1 [] [] ∧ wx.heap[n0]? = some (.cells #[nilV, nilV, nilV, nilV, nilV] 28 (0, 0))))
    case first =>
      go_wp2_with fail
      go_loopg [12, 13, 14, 15, 16] nn (fun gh s12 _ _ _ _ wr => ∃ (s : St) (v0 : Value) (l0 : List S53), s12 = .int .i64 (gh : Int) ∧ gh ≤ 800 ∧ Aside0 (LX w0 w wr g (fun k => k ≠ bx ∧ k < m ∧ k ≠ n0) bx s v0 V1 V2 v3 nilV nilV l0 Fs Ls N1 [] [] ∧ wr.heap[n0]? = some (.cells #[nilV, nilV, nilV, nilV, nilV] 28 (0, 0)) ∧ m ≤ wr.heap.size) ∧ Aside0 (wordsGo (f : Int) a2 gh l0 s = some (wl, sW)) ∧ Aside0 (l0.length + gh ≤ 800))
      case atStart => exact ⟨_, _, [], rfl, hnn, HXm, HW2, ⟨by simpa using hnn⟩⟩
      case round =>
        clear HXm
        obtain ⟨s, v0, l0, rfl, hgk, HX, HG, HL0⟩ := hrel
        by_cases hlt : 0 < gk
        · have hiz : (0 : Int) < (gk : Int) := by omega
          have hid : decide ((0 : Int) < (gk : Int)) = true := decide_eq_true hiz
          have hid2 : decide (0 < gk) = true := decide_eq_true hlt
          have HLT := Aside0.mk hlt
          obtain ⟨ngk, hng⟩ : ∃ k, gk = k + 1 := ⟨gk - 1, by omega⟩
          have hg := HG.out
          rw [hng, wordsGo] at hg
          obtain ⟨⟨φ, sa⟩, hra, hg1⟩ := Option.bind_eq_some_iff.1 hg
          obtain ⟨⟨K, sb⟩, hrb, hg2⟩ := Option.bind_eq_some_iff.1 hg1
          obtain ⟨⟨tT, sc⟩, hrc, hg3⟩ := Option.bind_eq_some_iff.1 hg2
          obtain ⟨K', k1, k2, ek, hk1, hk2⟩ := from_ok sa.1 sa.2 1 a2 (by decide) (by decide) (by omega) (by omega)
          have hrb2 : cippuskit_Urn_From.f sa.1 sa.2 1 a2 = some (K, sb) := hrb
          rw [ek] at hrb2
          simp only [Option.some.injEq, Prod.mk.injEq] at hrb2
          obtain ⟨rfl, rfl⟩ := hrb2
          obtain ⟨kk, rfl⟩ : ∃ k : Nat, K' = (k : Int) := ⟨K'.toNat, by omega⟩
          have hkk : kk ≤ 800 := by omega
          have HUP := Aside0.mk (show cippuskit_Urn_Up.f s.1 s.2 (f : Int) = some (φ, sa.1, sa.2) from hra)
          have HFK := Aside0.mk ek
          have HTX := Aside0.mk (show textGo kk ⟨#[]⟩ (k1, k2) = some (tT, sc) by simpa using hrc)
          have HG2 := Aside0.mk hg3
          have HNG := Aside0.mk hng
          clear hg hg1 hg2 hg3 hra hrb hrc ek hk1 hk2 hng HG
          go_upto_region 18 with first
            | (go_at_call 30; refine (cippuskit_Urn_Up.calls g _ _ (f : Int) φ sa.1 sa.2 w0 _ HX.out.1.r.u HX.out.1.r.bw HUP.out).mono ?_; rintro e w5 ⟨rfl, hu5, hb5, hk5⟩; have HX5 := Aside0.mk (HX.out.1.urn (s' := sa) hu5 hb5 hk5); have HN5 := Aside0.mk ((hk5.2 n0 (blk_lt HX.out.2.1) (by have := HX.out.1.r.gn; rw [HN0.out]; omega) (by simp)).trans HX.out.2.1); have HM5 := Aside0.mk (Nat.le_trans HX.out.2.2 hk5.1); clear hu5 hb5 hk5)
            | fail
          obtain ⟨b13, hb13⟩ : ∃ b, b = w5.heap.size := ⟨_, rfl⟩
          have HB13 := Aside0.mk (show m ≤ b13 by rw [hb13]; exact HM5.out)
          refine wp_gen (fun wx => Aside0 (LX w0 w wx g (fun k => k ≠ bx ∧ k < m ∧ k ≠ n0) bx sa v0 V1 V2 v3 nilV nilV l0 Fs Ls N1 [] [] ∧ wx.heap[n0]? = some (.cells #[nilV, nilV, nilV, nilV, nilV] 28 (0, 0))) ∧ Aside0 (wx.heap[b13]? = some (.cells #[.string ⟨#[]⟩, .int .i64 φ] 53 (0, 0))) ∧ Aside0 (v0.ownBlock ≠ some b13 ∧ V1.ownBlock ≠ some b13 ∧ V2.ownBlock ≠ some b13)) ⟨⟨HX5.out.next ((Below.refl _ _).alloc (Nat.le_refl _) _), blk_alloc HN5.out _⟩, ⟨by rw [hb13]; exact blk_new w5 _⟩, ⟨fun e => by have := Kd.R_lt HX5.out.r.r0 _ e; omega, fun e => by have := Kd.R_lt HX5.out.r.r1 _ e; omega, fun e => by have := Kd.R_lt HX5.out.r.r2 _ e; omega⟩⟩ ?_
          rw [← hb13]
          clear hb13 HX HX5 HN5 HM5
          rintro wx ⟨HX, H13, HNB⟩
          go_upto_block 6 with first
            | (go_at_call 18; refine (cippuskit_Urn_From.calls g _ _ 1 a2 (kk : Int) k1 k2 w0 _ HX.out.1.r.u HX.out.1.r.bw HFK.out).mono ?_; rintro e w5 ⟨rfl, hu5, hb5, hk5⟩; have HX5 := Aside0.mk (HX.out.1.urn (s' := (k1, k2)) hu5 hb5 hk5); have HN5 := Aside0.mk ((hk5.2 n0 (blk_lt HX.out.2) (by have := HX.out.1.r.gn; rw [HN0.out]; omega) (by simp)).trans HX.out.2); have H135 := Aside0.mk ((hk5.2 b13 (blk_lt H13.out) (by have := HX.out.1.r.gn; have := HX.out.1.n; have := HMX.out; have := HB13.out; omega) (by simp)).trans H13.out); clear hu5 hb5 hk5)
            | fail
          clear HX H13 HFK HUP
          go_cut [14] (fun _ wx => Aside0 (LX w0 w wx g (fun k => k ≠ bx ∧ k < m ∧ k ≠ n0) bx sc v0 V1 V2 v3 nilV nilV l0 Fs Ls N1 [] [] ∧ wx.heap[n0]? = some (.cells #[nilV, nilV, nilV, nilV, nilV] 28 (0, 0))) ∧ Aside0 (wx.heap[b13]? = some (.cells #[.string tT, .int .i64 φ] 53 (0, 0))))
          case first =>
            go_wp2_with fail
            go_loopg [14] kk (fun gh s14 wr => ∃ (s : St) (T : ByteArray), s14 = .int .i64 (gh : Int) ∧ gh ≤ 800 ∧ T.size + gh ≤ 800 ∧ Aside0 (LX w0 w wr g (fun k => k ≠ bx ∧ k < m ∧ k ≠ n0) bx s v0 V1 V2 v3 nilV nilV l0 Fs Ls N1 [] [] ∧ wr.heap[n0]? = some (.cells #[nilV, nilV, nilV, nilV, nilV] 28 (0, 0))) ∧ Aside0 (wr.heap[b13]? = some (.cells #[.string T, .int .i64 φ] 53 (0, 0))) ∧ Aside0 (textGo gh T s = some (tT, sc)))
            case atStart => exact ⟨_, ⟨#[]⟩, rfl, hkk, by have h0 : (⟨#[]⟩ : ByteArray).size = 0 := rfl; omega, ⟨HX5.out, HN5.out⟩, H135, HTX⟩
            case round =>
              clear HX5 HN5 H135 HTX
              obtain ⟨s, T, rfl, hgk2, hTz, HX, H13, HG⟩ := hrel
              by_cases hl2 : 0 < gk
              · have hiz : (0 : Int) < (gk : Int) := by omega
                have hid : decide ((0 : Int) < (gk : Int)) = true := decide_eq_true hiz
                have hid2 : decide (0 < gk) = true := decide_eq_true hl2
                have HL2 := Aside0.mk hl2
                obtain ⟨ng2, hng2⟩ : ∃ k, gk = k + 1 := ⟨gk - 1, by omega⟩
                have hg := HG.out
                rw [hng2, textGo] at hg
                obtain ⟨⟨ch, sd⟩, hrc, hg⟩ := Option.bind_eq_some_iff.1 hg
                have HAN := Aside0.mk (show cippuskit_Urn_Any.f s.1 s.2 [65, 66, 66, 73] = some (ch, sd.1, sd.2) from hrc)
                have HG2b := Aside0.mk hg
                have HNG2 := Aside0.mk hng2
                have hst : (strOfNums [IntKind.u8.wrap ch]).size = 1 := by simp [strOfNums, ByteArray.size]
                have hsz2 : (9223372036854775807 < T.size + 1) = False := eq_false (by omega)
                have hsz : (9223372036854775807 < T.size + (strOfNums [IntKind.u8.wrap ch]).size) = False := eq_false (by rw [hst]; omega)
                clear hg hrc hng2 HG
                go_upto_block 7 with fail
                go_cut [89] (fun _ wx => Aside0 (LX w0 w wx g (fun k => k ≠ bx ∧ k < m ∧ k ≠ n0) bx sd v0 V1 V2 v3 nilV nilV l0 Fs Ls N1 [] [] ∧ wx.heap[n0]? = some (.cells #[nilV, nilV, nilV, nilV, nilV] 28 (0, 0))) ∧ Aside0 (wx.heap[b13]? = some (.cells #[.string (T ++ strOfNums [IntKind.u8.wrap ch]), .int .i64 φ] 53 (0, 0))))
                case first =>
                  obtain ⟨y0, y1⟩ : wr.cell? ⟨b13, 0, none⟩ = some (.string T) ∧ wr.cell? ⟨b13, 1, none⟩ = some (.int .i64 φ) := ⟨(blk_cell H13.out 0).trans rfl, (blk_cell H13.out 1).trans rfl⟩
                  have yl := blk_lt H13.out
                  have HXd := Aside0.mk (HX.out.1.next ((Below.refl _ _).drew))
                  have HXe := Aside0.mk (HXd.out.next ((Below.refl _ _).alloc (Nat.le_refl _) (.cells #[.int .i64 65, .int .i64 66, .int .i64 66, .int .i64 73] 3)))
                  have HLT := Aside0.mk (show Kd.C (Kd.int .i64) (wr.drew.alloc (.cells #[.int .i64 65, .int .i64 66, .int .i64 66, .int .i64 73] 3)) (some ⟨wr.drew.heap.size, 0, none⟩) 4 [65, 66, 66, 73] from C_lit wr.drew [65, 66, 66, 73] 3 (by decide))
                  have HGN := Aside0.mk (show wr.drew.heap.size ≠ g by have := blk_lt HXd.out.r.u.1; omega)
                  go_upto_region 21 with fail
                  go_region_law (first
                    | (rw [if_pos (by rfl)]; go_simp; go_at_call 32; refine (cippuskit_Urn_Any.calls g _ _ (some ⟨wr.drew.heap.size, 0, none⟩) 4 [65, 66, 66, 73] ch sd.1 sd.2 w0 _ HXe.out.r.u HXe.out.r.bw HLT.out (by decide) (fun ad e _ => by injection e with e; subst e; exact HGN.out) HAN.out).mono ?_; rintro e w5 ⟨rfl, hu5, hb5, hk5⟩; have HX5 := Aside0.mk (HXe.out.urn (s' := sd) hu5 hb5 hk5); have HN5 := Aside0.mk ((hk5.2 n0 (Nat.lt_of_lt_of_le (blk_lt HX.out.2) (by simp)) (by have := HX.out.1.r.gn; rw [HN0.out]; omega) (by simp)).trans (blk_alloc (show wr.drew.heap[n0]? = _ from HX.out.2) (.cells #[.int .i64 65, .int .i64 66, .int .i64 66, .int .i64 73] 3))); have H135 := Aside0.mk ((hk5.2 b13 (Nat.lt_of_lt_of_le (blk_lt H13.out) (by simp)) (by have := HX.out.1.r.gn; have := HX.out.1.n; have := HMX.out; have := HB13.out; omega) (by simp)).trans (blk_alloc (show wr.drew.heap[b13]? = _ from H13.out) (.cells #[.int .i64 65, .int .i64 66, .int .i64 66, .int .i64 73] 3))); have z0 := (blk_cell H135.out 0).trans (show (#[Value.string T, .int .i64 φ] : Array Value)[0]? = some (.string T) from rfl); have zl := blk_lt H135.out; have zf := blk_frozen H135.out 0; have hcv := conv_byte w5 (IntKind.u8.wrap ch); clear hu5 hb5 hk5))
                  all_goals
                    go_wp2_with fail
                    refine Met.intro ?_
                    go_step
                    (repeat apply Exists.intro)
                    refine ⟨?_, rfl⟩
                    refine ⟨⟨(LX.next (W := w5.setCell ⟨b13, 0, none⟩ _) ⟨HX5.out.r.far (o := 0) (by have := HX5.out.n; have := HMX.out; have := HB13.out; omega) (fun k hk => by have := hk.2.1; have := HB13.out; omega) HNB.out.1 HNB.out.2.1 HNB.out.2.2 (by simp [Value.ownBlock]) (by simp [Value.ownBlock]) _, blk_far HX5.out.b (show bx ≠ b13 by have := HMX.out; have := HB13.out; omega) _, HX5.out.n⟩ ((Below.refl _ _).alloc (Nat.le_refl _) _)), blk_alloc (blk_far HN5.out (show n0 ≠ b13 by have := HMX.out; have := HB13.out; have := HX5.out.n; rw [HN0.out]; omega) _) _⟩, ⟨blk_alloc ((blk_set H135.out 0 _).trans (by simp)) _⟩⟩
                case rest =>
                  obtain ⟨HX1, H131⟩ := hcut
                  go_wp2_with fail
                  go_roundg (gk - 1)
                  case measure => have := HL2.out; omega
                  case rel => exact ⟨sd, T ++ strOfNums [IntKind.u8.wrap ch], by have := HNG2.out; congr 1; omega, by omega, by rw [ByteArray.size_append, hst]; have := HL2.out; omega, HX1, H131, ⟨by have h := HG2b.out; rw [show gk - 1 = ng2 by have := HNG2.out; omega]; exact h⟩⟩
              · have hiz : ¬ (0 : Int) < (gk : Int) := by omega
                have hid : decide ((0 : Int) < (gk : Int)) = false := decide_eq_false hiz
                have hid2 : decide (0 < gk) = false := decide_eq_false hl2
                have HE := Aside0.mk (show T = tT ∧ s = sc by
                  have h := HG.out
                  rw [show gk = 0 by omega, textGo] at h
                  simp only [Option.some.injEq, Prod.mk.injEq] at h
                  exact h)
                go_wp2_with fail
                refine Met.intro ?_
                go_step
                (repeat apply Exists.intro)
                refine ⟨?_, rfl⟩
                have h1 := HX.out
                have h2 := H13.out
                rw [HE.out.2] at h1
                rw [HE.out.1] at h2
                exact ⟨⟨h1⟩, ⟨h2⟩⟩
          case rest =>
            obtain ⟨HX, H13⟩ := hcut
            clear HX5 HN5 H135 HTX
            obtain ⟨A0, c0, rfl, hc0, -⟩ := Kd.R_reads HX.out.1.r.r0
            go_upto_block 8 with fail
            go_cut [15, 16] (fun s15 _ wx => s15 = .bool (l0.any (fun x => sameW x ⟨tT, φ⟩)) ∧ Aside0 (LX w0 w wx g (fun k => k ≠ bx ∧ k < m ∧ k ≠ n0) bx sc (.slice A0 l0.length c0) V1 V2 v3 nilV nilV l0 Fs Ls N1 [] [] ∧ wx.heap[n0]? = some (.cells #[nilV, nilV, nilV, nilV, nilV] 28 (0, 0))) ∧ Aside0 (wx.heap[b13]? = some (.cells #[.string tT, .int .i64 φ] 53 (0, 0))))
            case first =>
              go_wp2_with fail
              go_loopg [15, 16] l0.length (fun gh s15 s16 wr => ∃ k : Nat, k + gh = l0.length ∧ s15 = .bool ((l0.take k).any (fun x => sameW x ⟨tT, φ⟩)) ∧ s16 = .int .i64 (k : Int) ∧ Aside0 (LX w0 w wr g (fun k => k ≠ bx ∧ k < m ∧ k ≠ n0) bx sc (.slice A0 l0.length c0) V1 V2 v3 nilV nilV l0 Fs Ls N1 [] [] ∧ wr.heap[n0]? = some (.cells #[nilV, nilV, nilV, nilV, nilV] 28 (0, 0))) ∧ Aside0 (wr.heap[b13]? = some (.cells #[.string tT, .int .i64 φ] 53 (0, 0))))
              case atStart => exact ⟨0, by omega, rfl, rfl, HX, H13⟩
              case round =>
                clear HX H13
                obtain ⟨k, hk, rfl, rfl, HX, H13⟩ := hrel
                have HKN := Aside0.mk hk
                clear hk
                obtain ⟨x0, -⟩ := HX.out.1.b.cells
                have xl := blk_lt HX.out.1.b
                by_cases hkl : k < l0.length
                · have hkz : (k : Int) < (l0.length : Int) := by omega
                  have hkd : decide (k < l0.length) = true := decide_eq_true hkl
                  have hkq : k ≤ 800 := by have := HL0.out; omega
                  have HKL := Aside0.mk hkl
                  obtain ⟨ad, eA, z0, z1⟩ := at_T53 (Kd.R_reads' HX.out.1.r.r0).2.2 (k : Int) (by omega) hkz
                  subst eA
                  simp only [Int.toNat_natCast] at z0 z1
                  have zl := World.block_lt_of_cell? wr _ z0
                  obtain ⟨y0, y1⟩ : wr.cell? ⟨b13, 0, none⟩ = some (.string tT) ∧ wr.cell? ⟨b13, 1, none⟩ = some (.int .i64 φ) := ⟨(blk_cell H13.out 0).trans rfl, (blk_cell H13.out 1).trans rfl⟩
                  have yl := blk_lt H13.out
                  have HST := Aside0.mk (show (l0.take (k + 1)).any (fun x => sameW x ⟨tT, φ⟩) = ((l0.take k).any (fun x => sameW x ⟨tT, φ⟩) || sameW (rd_T53 l0 (k : Int)) ⟨tT, φ⟩) by
                    have e : rd_T53 l0 (k : Int) = l0[k] := by simp [rd_T53, List.getD_eq_getElem?_getD, hkl]
                    rw [List.take_add_one, List.any_append, List.getElem?_eq_getElem hkl, e]
                    simp)
                  obtain ⟨b, hb⟩ : ∃ b, b = (l0.take k).any (fun x => sameW x ⟨tT, φ⟩) := ⟨_, rfl⟩
                  obtain ⟨wd, hwd⟩ : ∃ wd, wd = rd_T53 l0 (k : Int) := ⟨_, rfl⟩
                  rw [← hwd] at z0 z1 HST
                  obtain ⟨q, hq⟩ : ∃ q, q = sameW wd ⟨tT, φ⟩ := ⟨_, rfl⟩
                  have c7b0 : (wd.f0.toList == tT.toList && (wd.f1 == φ)) = q := hq.symm
                  rw [← hb, ← hq] at HST
                  rw [← hb]
                  clear hb hwd hq
                  go_upto_region 26 with fail
                  cases b with
                  | true =>
                    go_upto_region 25 with first
                      | go_quiet (fail)
                      | fail
                    go_wp2_with fail
                    go_roundg (gk - 1)
                    case measure => have := HKN.out; have := HKL.out; omega
                    case rel => exact ⟨k + 1, by have := HKN.out; have := HKL.out; omega, by rw [HST.out]; rfl, by go_num, ⟨HX.out.1.next (by repeat (first | exact Below.refl _ _ | apply pw_below_drewN | apply below_drew1)), HX.out.2⟩, H13⟩
                  | false =>
                    go_upto_region 25 with first
                      | go_quiet (fail)
                      | fail
                    go_wp2_with fail
                    go_roundg (gk - 1)
                    case measure => have := HKN.out; have := HKL.out; omega
                    case rel => exact ⟨k + 1, by have := HKN.out; have := HKL.out; omega, by rw [HST.out]; rfl, by go_num, ⟨HX.out.1.next (by repeat (first | exact Below.refl _ _ | apply pw_below_drewN | apply below_drew1)), HX.out.2⟩, H13⟩
                · have hkz : ¬ (k : Int) < (l0.length : Int) := by omega
                  have hkd : decide (k < l0.length) = false := decide_eq_false hkl
                  have HE := Aside0.mk (show l0.take k = l0 from List.take_of_length_le (by omega))
                  rw [HE.out]
                  go_wp2_with fail
                  refine Met.intro ?_
                  go_step
                  (repeat apply Exists.intro)
                  refine ⟨?_, rfl⟩
                  exact ⟨rfl, HX, H13⟩
            case rest =>
              obtain ⟨rfl, HX1, H131⟩ := hcut
              clear HX H13
              obtain ⟨b, hb⟩ : ∃ b, b = l0.any (fun x => sameW x ⟨tT, φ⟩) := ⟨_, rfl⟩
              rw [← hb]
              have HG3 := Aside0.mk (show wordsGo (f : Int) a2 ngk (if b = true then l0 else l0 ++ [⟨tT, φ⟩]) sc = some (wl, sW) from by rw [hb]; exact HG2.out)
              clear hb HG2
              have HMW := Aside0.mk (show m ≤ wc.heap.size from Nat.le_trans HB13.out (Nat.le_of_lt (blk_lt H131.out)))
              cases b with
              | true =>
                go_wp2_with fail
                go_roundg (gk - 1)
                case measure => have := HLT.out; omega
                case rel => exact ⟨sc, _, l0, by have := HNG.out; congr 1; omega, by omega, ⟨HX1.out.1, HX1.out.2, HMW.out⟩, ⟨by have h := HG3.out; rw [show gk - 1 = ngk by have := HNG.out; omega]; exact h⟩, ⟨by have := HL0.out; omega⟩⟩
              | false =>
                obtain ⟨x0, -⟩ := HX1.out.1.b.cells
                have xl := blk_lt HX1.out.1.b
                obtain ⟨y0, y1⟩ : wc.cell? ⟨b13, 0, none⟩ = some (.string tT) ∧ wc.cell? ⟨b13, 1, none⟩ = some (.int .i64 φ) := ⟨(blk_cell H131.out 0).trans rfl, (blk_cell H131.out 1).trans rfl⟩
                have yl := blk_lt H131.out
                have HL3 := Aside0.mk (show (l0.length + 1) * 24 ≤ 140737488355328 by have := HL0.out; omega)
                go_wp2_with first
                  | (at_builtin; refine Kd.R_append k53 (w0 := wc) w.heap.size rfl (.tmp 111) (.tmp 113) 23 53 (.agg #[.string ⟨#[]⟩, .int .i64 0]) 24 rfl Try.underlying23 infoL53 rfl (by decide) (by omega) (.slice A0 l0.length c0) l0 ⟨tT, φ⟩ [.string tT, .int .i64 φ] (fun _ => True) (fun _ => False) rfl rfl ?aP (fun _ hk => hk.elim) ?aF ?aO ?aB ?aS ?aL ?_; (case aP => exact k53_mkM _ _ _ _); (case aF => exact (fun _ _ => trivial)); (case aO => exact HX1.out.1.r.r0); (case aB => exact Below.refl _ _); (case aS => exact HX1.out.1.r.sz); (case aL => exact HL3.out); intro v6 w6 ho hb hg hat; obtain ⟨A6, n6, c6, rfl⟩ := R_sl ho; have HX6 := Aside0.mk (HX1.out.1.r.app0 ho hg hat); have HBX6 := Aside0.mk (show LxB w6 bx (.slice A0 l0.length c0) V1 V2 v3 nilV from (hg.block bx (blk_lt HX1.out.1.b) (Kd.R_ne HX1.out.1.r.r0 HX1.out.1.b (by decide))).trans HX1.out.1.b); have HN6 := Aside0.mk ((hg.block n0 (blk_lt HX1.out.2) (Kd.R_ne HX1.out.1.r.r0 HX1.out.2 (by decide))).trans HX1.out.2); have HM6 := Aside0.mk (show m ≤ w6.heap.size from Nat.le_trans HMW.out hg.size); obtain ⟨q0, -⟩ := HBX6.out.cells; have ql := blk_lt HBX6.out; have qf := blk_frozen HBX6.out 0; clear ho hb hg hat)
                  | fail
                have HX7 := Aside0.mk (show LX w0 w (w6.setCell ⟨bx, 0, none⟩ (.slice A6 n6 c6)) g (fun k => k ≠ bx ∧ k < m ∧ k ≠ n0) bx sc (.slice A6 n6 c6) V1 V2 v3 nilV nilV (l0 ++ [⟨tT, φ⟩]) Fs Ls N1 [] [] from ⟨HX6.out.farX HBX6.out HX1.out.1.n (fun k h => h.1) 0 _, HBX6.out.set0 _, HX1.out.1.n⟩)
                have HN7 := Aside0.mk (blk_far (p := ⟨bx, 0, none⟩) HN6.out HNE.out (.slice A6 n6 c6))
                go_roundg (gk - 1)
                case measure => have := HLT.out; omega
                case rel => exact ⟨sc, _, l0 ++ [⟨tT, φ⟩], by have := HNG.out; congr 1; omega, by omega, ⟨HX7.out, HN7.out, by show _ ≤ (w6.heap.modify _ _).size; rw [Array.size_modify]; exact HM6.out⟩, ⟨by have h := HG3.out; rw [show gk - 1 = ngk by have := HNG.out; omega]; exact h⟩, ⟨by have := HL0.out; have := HLT.out; rw [List.length_append, List.length_singleton]; omega⟩⟩
        · --
          have hiz : ¬ (0 : Int) < (gk : Int) := by omega
          have hid : decide ((0 : Int) < (gk : Int)) = false := decide_eq_false hiz
          have hid2 : decide (0 < gk) = false := decide_eq_false hlt
          have HE := Aside0.mk (show l0 = wl ∧ s = sW by
            have h := HG.out
            rw [show gk = 0 by omega, wordsGo] at h
            simp only [Option.some.injEq, Prod.mk.injEq] at h
            exact h)
          go_wp2_with fail
          refine Met.intro ?_
          go_step
          (repeat apply Exists.intro)
          refine ⟨?_, rfl⟩
          refine ⟨v0, ⟨?_⟩⟩
          have h1 := HX.out
          rw [HE.out.1, HE.out.2] at h1
          exact ⟨h1.1, h1.2.1⟩
    case rest =>
      obtain ⟨v0, HX⟩ := hcut
      go_upto_block 10 with fail
      go_cut [17] (fun _ wx => ∃ v4, Aside0 (LX w0 w wx g (fun k => k ≠ bx ∧ k < m ∧ k ≠ n0) bx sD v0 V1 V2 v3 v4 nilV wl Fs Ls N1 dl [] ∧ wx.heap[n0]? = some (.cells #[nilV, nilV, nilV, nilV, nilV] 28 (0, 0))))
      case first =>
        go_wp2_with fail
        go_loopg [17] 26 (fun gh s17 wr => ∃ (i : Nat) (s : St) (v4 : Value) (l4 : List S47), i + gh = 26 ∧ s17 = .int .i64 (i : Int) ∧ Aside0 (LX w0 w wr g (fun k => k ≠ bx ∧ k < m ∧ k ≠ n0) bx s v0 V1 V2 v3 v4 nilV wl Fs Ls N1 l4 [] ∧ wr.heap[n0]? = some (.cells #[nilV, nilV, nilV, nilV, nilV] 28 (0, 0))) ∧ Aside0 (widGo gh l4 s = some (dl, sD)) ∧ Aside0 (l4.length = i))
        case atStart => exact ⟨0, sW, nilV, [], by omega, rfl, HX, HD, ⟨rfl⟩⟩
        case round =>
          clear HX
          obtain ⟨i, s, v4, l4, hi, rfl, HX, HG, HL4⟩ := hrel
          have HIN := Aside0.mk hi
          by_cases hlt : i < 26
          · have hiz : (i : Int) < 26 := by omega
            have hid : decide ((i : Int) < 26) = true := decide_eq_true hiz
            have hid2 : decide (i < 26) = true := decide_eq_true hlt
            have HLT := Aside0.mk hlt
            obtain ⟨ng, hng⟩ : ∃ k, gk = k + 1 := ⟨gk - 1, by omega⟩
            have hg := HG.out
            rw [hng, widGo] at hg
            obtain ⟨⟨ch, sd⟩, hra, hg1⟩ := Option.bind_eq_some_iff.1 hg
            obtain ⟨⟨q1, q2, se⟩, hrb, hg2⟩ := Option.bind_eq_some_iff.1 hg1
            have HAN := Aside0.mk (show cippuskit_Urn_Any.f s.1 s.2 [2, 6] = some (ch, sd.1, sd.2) from hra)
            have HSP := Aside0.mk (show cippuskit_Urn_Span.f sd.1 sd.2 1 ch = some (q1, q2, se.1, se.2) from hrb)
            have HG2 := Aside0.mk (show widGo ng (l4 ++ [⟨q1, q2⟩]) se = some (dl, sD) from hg2)
            have HNG := Aside0.mk hng
            have HF4 := Aside0.mk (show (l4.length + 1) * 16 ≤ 140737488355328 by have := HL4.out; omega)
            clear hg hg1 hg2 hra hrb hng HG hi
            go_upto_block 11 with fail
            go_cut [128] (fun _ wx => ∃ v4', Aside0 (LX w0 w wx g (fun k => k ≠ bx ∧ k < m ∧ k ≠ n0) bx se v0 V1 V2 v3 v4' nilV wl Fs Ls N1 (l4 ++ [⟨q1, q2⟩]) [] ∧ wx.heap[n0]? = some (.cells #[nilV, nilV, nilV, nilV, nilV] 28 (0, 0))))
            case first =>
              obtain ⟨x0, x1, x2, x3, x4⟩ := HX.out.1.b.cells
              clear x0 x1 x2 x3
              have xl := blk_lt HX.out.1.b
              have HXe := Aside0.mk ((HX.out.1.next ((Below.refl _ _).drew)).next ((Below.refl _ _).alloc (Nat.le_refl _) (.cells #[.int .i64 2, .int .i64 6] 3)))
              have HLL6 := Aside0.mk (show Kd.C (Kd.int .i64) (wr.drew.alloc (.cells #[.int .i64 2, .int .i64 6] 3)) (some ⟨wr.drew.heap.size, 0, none⟩) 2 [2, 6] from C_lit wr.drew [2, 6] 3 (by decide))
              have HGN := Aside0.mk (show wr.drew.heap.size ≠ g by have := blk_lt (HX.out.1.next ((Below.refl _ _).drew)).r.u.1; omega)
              go_upto_region 32 with fail
              go_region_law (first
                | (rw [if_pos (by rfl)]; go_simp; go_at_call 32; refine (cippuskit_Urn_Any.calls g _ _ (some ⟨wr.drew.heap.size, 0, none⟩) 2 [2, 6] ch sd.1 sd.2 w0 _ HXe.out.r.u HXe.out.r.bw HLL6.out (by decide) (fun ad e _ => by injection e with e; subst e; exact HGN.out) HAN.out).mono ?_; rintro e w5 ⟨rfl, hu5, hb5, hk5⟩; have HX5 := Aside0.mk (HXe.out.urn (s' := sd) hu5 hb5 hk5); have HN5 := Aside0.mk ((hk5.2 n0 (Nat.lt_of_lt_of_le (blk_lt HX.out.2) (by simp)) (by have := HX.out.1.r.gn; rw [HN0.out]; omega) (by simp)).trans (blk_alloc (show wr.drew.heap[n0]? = _ from HX.out.2) (.cells #[.int .i64 2, .int .i64 6] 3))); obtain ⟨-, -, -, -, y4⟩ := HX5.out.b.cells; have yl := blk_lt HX5.out.b; clear hu5 hb5 hk5)
                | (rw [if_pos (by rfl)]; go_simp; go_at_call 72; refine (cippuskit_Urn_Span.calls g _ _ 1 ch q1 q2 se.1 se.2 w0 _ HX5.out.r.u HX5.out.r.bw HSP.out).mono ?_; rintro e w7 ⟨rfl, hu7, hb7, hk7⟩; have HX7 := Aside0.mk (HX5.out.urn (s' := se) hu7 hb7 hk7); have HN7 := Aside0.mk ((hk7.2 n0 (blk_lt HN5.out) (by have := HX.out.1.r.gn; rw [HN0.out]; omega) (by simp)).trans HN5.out); obtain ⟨-, -, -, -, z4⟩ := HX7.out.b.cells; have zl := blk_lt HX7.out.b; clear hu7 hb7 hk7)
                | (refine Kd.R_append_step k47 (w0 := w7) w.heap.size rfl (.tmp 121) (.tmp 127) 26 47 (.agg #[.int .i64 0, .int .i64 0]) 16 rfl Try.underlying26 infoL47 rfl (by decide) (by omega) v4 l4 ⟨q1, q2⟩ [.int .i64 q1, .int .i64 q2] (fun _ => True) (fun _ => False) rfl rfl ?_ (fun _ h => h.elim) (fun _ _ => trivial) ?_ ?_ ?_ ?_ ?_
                   · exact k47_mkM _ _ _ _
                   · exact HX7.out.r.r4
                   · exact Below.refl _ _
                   · exact HX7.out.r.sz
                   · exact HF4.out
                   intro v8 w8 hr8 hb8 hg8 hat8
                   obtain ⟨A8, n8, c8, rfl⟩ := R_sl hr8
                   have HX8 := Aside0.mk (HX7.out.r.app4 hr8 hg8 hat8)
                   have HBX8 := Aside0.mk (show LxB w8 bx v0 V1 V2 v3 v4 from (hg8.block bx (blk_lt HX7.out.b) (Kd.R_ne HX7.out.r.r4 HX7.out.b (by decide))).trans HX7.out.b)
                   have HN8 := Aside0.mk ((hg8.block n0 (blk_lt HN7.out) (Kd.R_ne HX7.out.r.r4 HN7.out (by decide))).trans HN7.out)
                   obtain ⟨-, -, -, -, p4⟩ := HBX8.out.cells
                   have pl := blk_lt HBX8.out
                   have pf4 := blk_frozen HBX8.out 4
                   clear hr8 hb8 hg8 hat8))
              all_goals
                go_wp2_with fail
                refine Met.intro ?_
                go_step
                (repeat apply Exists.intro)
                refine ⟨?_, rfl⟩
                exact ⟨_, ⟨⟨HX8.out.farX HBX8.out HX.out.1.n (fun k h => h.1) 4 _, HBX8.out.set4 _, HX.out.1.n⟩, blk_far HN8.out HNE.out _⟩⟩
            case rest =>
              obtain ⟨v4', HX1⟩ := hcut
              clear HX
              go_wp2_with fail
              go_roundg (gk - 1)
              case measure => have := HNG.out; omega
              case rel => exact ⟨i + 1, se, v4', l4 ++ [⟨q1, q2⟩], by have := HIN.out; have := HNG.out; omega, by go_num, HX1, ⟨by have h := HG2.out; rw [show gk - 1 = ng by have := HNG.out; omega]; exact h⟩, ⟨by rw [List.length_append, HL4.out]; rfl⟩⟩
          · have hiz : ¬ (i : Int) < 26 := by omega
            have hid : decide ((i : Int) < 26) = false := decide_eq_false hiz
            have hid2 : decide (i < 26) = false := decide_eq_false hlt
            have HE := Aside0.mk (show l4 = dl ∧ s = sD by
              have h := HG.out
              rw [show gk = 0 by omega, widGo] at h
              simp only [Option.some.injEq, Prod.mk.injEq] at h
              exact h)
            clear hi
            go_wp2_with fail
            refine Met.intro ?_
            go_step
            (repeat apply Exists.intro)
            refine ⟨?_, rfl⟩
            refine ⟨v4, ⟨?_⟩⟩
            have h1 := HX.out
            rw [HE.out.1, HE.out.2] at h1
            exact h1
      case rest =>
        obtain ⟨v4, HX1⟩ := hcut
        clear HX
        obtain ⟨A0, m0, e0, rfl⟩ := R_sl HX1.out.1.r.r0
        obtain ⟨A1, m1, e1, rfl⟩ := R_sl HX1.out.1.r.r1
        obtain ⟨A2, m2, e2, rfl⟩ := R_sl HX1.out.1.r.r2
        obtain ⟨A4, m4, e4, rfl⟩ := R_sl HX1.out.1.r.r4
        obtain ⟨A3, e3, rfl⟩ := Kd.N_slice HX1.out.1.r.r3
        have hm3 := HX1.out.1.r.r3
        clear hm3
        obtain ⟨x0, x1, x2, x3, x4⟩ := HX1.out.1.b.cells
        have xl := blk_lt HX1.out.1.b
        have nl := blk_lt HX1.out.2
        obtain ⟨n0c, n1c, n2c, n3c, n4c⟩ := LxB.cells (show LxB wc n0 nilV nilV nilV nilV nilV from HX1.out.2)
        have nf0 := blk_frozen HX1.out.2 0
        have nf1 := blk_frozen HX1.out.2 1
        have nf2 := blk_frozen HX1.out.2 2
        have nf3 := blk_frozen HX1.out.2 3
        have nf4 := blk_frozen HX1.out.2 4
        have HFIN := Aside0.mk (HX1.out.1.r.far5 (b := n0) (show LxB wc n0 nilV nilV nilV nilV nilV from HX1.out.2) (by rw [HN0.out]; exact Nat.le_refl _) (fun k h => h.2.2) (.slice A0 m0 e0) (.slice A1 m1 e1) (.slice A2 m2 e2) (.slice A3 N1.length e3) (.slice A4 m4 e4))
        have hend := HEND.out
        simp only [Option.some.injEq, Prod.mk.injEq, Int.toNat_natCast] at hend
        rw [← HFS.out, ← HLS.out] at hend
        obtain ⟨h1, h2, h3, h4, h5, h6, h7⟩ := hend
        subst h1 h2 h3 h4 h5 h6 h7
        go_wp2_with fail
        refine bodyPost_ret (results_cell_row rfl _ _ n0 28 _ (0, 0) _ rfl HFIN.out.2 Try.underlying28 rfl (by kernel_rfl)) rfl ⟨_, _, _, _, _, rfl, ?_⟩
        obtain ⟨t0, t1, t2, t3, t4⟩ := HFIN.out.1.told
        exact ⟨t0, t1, t2, t3, t4, HFIN.out.1.u, HFIN.out.1.bw, HFIN.out.1.kb⟩
end Go.Proofs.Ytkfebceainedfaa.P.OwnUrn
namespace Go.Proofs.Ytkfebceainedfaa.P
open Go.RowKit Go.Proofs.YtkfebceainedfaaW.PrintWords Go.Proofs.YtkfebceainedfaaW.PrintLast Go.Proofs.YtkfebceainedfaaW.PrintMore
attribute [local go_sem] max2_int min2_int max_two min_two max_three min_three max_four min_four   -- for this text's walks alone
set_option linter.unusedVariables false
set_option linter.unusedSimpArgs false
def cippuskit_LexiconOf.f (s0_0 : Int) (s0_1 : Int) (a1 : Int) (a2 : Int) : Option ((List (S53)) × (List Bool) × (List Bool) × (List (List Bool)) × (List (S47)) × Int × Int) := OwnUrn.lexiconOf s0_0 s0_1 a1 a2
theorem cippuskit_LexiconOf.calls (g : Nat) (s0_0 : Int) (s0_1 : Int) (a1 : Int) (a2 : Int) (r1 : List (S53)) (r2 : List Bool) (r3 : List Bool) (r4 : List (List Bool)) (r5 : List (S47)) (r6 : Int) (r7 : Int) (w0 w : World) (hI : IsS83 w0 w g s0_0 s0_1) (hB : Below w0.heap.size w0 w) (h : cippuskit_LexiconOf.f s0_0 s0_1 a1 a2 = some (r1, r2, r3, r4, r5, r6, r7)) :
  Calls Try.prog 38 #[.pointer (some ⟨g, 0, none⟩), .int .i64 a1, .int .i64 a2] w fun e w' => ∃ v0_ v1_ v2_ v3_ v4_ : Value, e = .returned (.agg #[v0_, v1_, v2_, v3_, v4_]) ∧ Kd.R k53 53 w' w.heap.size (fun k_ => (w.heap.size ≤ k_)) v0_ r1 ∧ Kd.R Kd.bool 4 w' w.heap.size (fun k_ => (w.heap.size ≤ k_) ∧ some k_ ≠ (v2_ : Value).ownBlock) v1_ r2 ∧ Kd.R Kd.bool 4 w' w.heap.size (fun k_ => (w.heap.size ≤ k_) ∧ some k_ ≠ (v1_ : Value).ownBlock) v2_ r3 ∧ Kd.N (Kd.slice 4 Kd.bool) 24 w' w.heap.size (fun k_ => (w.heap.size ≤ k_) ∧ some k_ ≠ (v0_ : Value).ownBlock ∧ some k_ ≠ (v1_ : Value).ownBlock ∧ some k_ ≠ (v2_ : Value).ownBlock ∧ some k_ ≠ (v4_ : Value).ownBlock) v3_ r4 ∧ Kd.R k47 47 w' w.heap.size (fun k_ => (w.heap.size ≤ k_)) v4_ r5 ∧ IsS83 w0 w' g r6 r7 ∧ Below w0.heap.size w0 w' ∧ KeepBut w w' g none := by
 exact OwnUrn.lexiconOf_calls g s0_0 s0_1 a1 a2 r1 r2 r3 r4 r5 r6 r7 w0 w hI hB h
end Go.Proofs.Ytkfebceainedfaa.P
namespace Go.Proofs.Ytkfebceainedfaa.P.OwnGap
open Go.RowKit Go.Shelf Go.Proofs.YtkfebceainedfaaW.PrintWords Go.Proofs.YtkfebceainedfaaW.PrintLast Go.Proofs.YtkfebceainedfaaW.PrintMore
open Go.Proofs.Ytkfebceainedfaa.OwnGap
set_option linter.unusedVariables false
set_option linter.unusedSimpArgs false
attribute [local go_sem] Oper.semAt_some
structure LxIn (X : Lx) (A0 A1 A2 A3 A4 Ar : Option Addr) (c0 c1 c2 c3 c4 cr : Nat) (w : World) : Prop where
 h0 : Kd.C k53 w A0 X.l0.length X.l0
 h1 : Kd.C Kd.bool w A1 X.l1.length X.l1
 h2 : Kd.C Kd.bool w A2 X.l2.length X.l2
 h3 : Kd.C (Kd.slice 4 Kd.bool) w A3 X.l3.length X.l3
 h4 : Kd.C k47 w A4 X.l4.length X.l4
 hr : Kd.C k49 w Ar X.r.length X.r
 g0 : X.l0.length ≤ c0
 g1 : X.l1.length ≤ c1
 g2 : X.l2.length ≤ c2
 g3 : X.l3.length ≤ c3
 g4 : X.l4.length ≤ c4
 gr : X.r.length ≤ cr
section
variable {X : Lx} {A0 A1 A2 A3 A4 Ar : Option Addr} {c0 c1 c2 c3 c4 cr : Nat} {w w' : World}
theorem LxIn.below (h : LxIn X A0 A1 A2 A3 A4 Ar c0 c1 c2 c3 c4 cr w) (hb : Below w.heap.size w w') : LxIn X A0 A1 A2 A3 A4 Ar c0 c1 c2 c3 c4 cr w' :=
 { h with h0 := Kd.C_below h.h0 hb, h1 := Kd.C_below h.h1 hb, h2 := Kd.C_below h.h2 hb, h3 := Kd.C_below h.h3 hb, h4 := Kd.C_below h.h4 hb, hr := Kd.C_below h.hr hb }
theorem in_calls (a lo hi : Int) (w : World) : Calls Try.prog 49 #[.int .i64 a, .int .i64 lo, .int .i64 hi] w fun e w' => e = .returned (.bool (inB a lo hi)) ∧ Below w.heap.size w w' :=
 (gap_in.calls a lo hi _ w (in_p a lo hi)).mono fun _ _ h => ⟨h.1, h.2.below⟩
def BxAt (X : Lx) (A0 A1 A2 A3 A4 : Option Addr) (c0 c1 c2 c3 c4 : Nat) (b : Nat) (w : World) : Prop := w.heap[b]? = some (.cells #[.slice A0 X.l0.length c0, .slice A1 X.l1.length c1, .slice A2 X.l2.length c2, .slice A3 X.l3.length c3, .slice A4 X.l4.length c4] 28 (0, 0))
theorem BxAt.below {b : Nat} (h : BxAt X A0 A1 A2 A3 A4 c0 c1 c2 c3 c4 b w) (hb : Below w.heap.size w w') : BxAt X A0 A1 A2 A3 A4 c0 c1 c2 c3 c4 b w' := blk_below h hb
theorem BxAt.cells {b : Nat} (h : BxAt X A0 A1 A2 A3 A4 c0 c1 c2 c3 c4 b w) : w.cell? ⟨b, 0, none⟩ = some (.slice A0 X.l0.length c0) ∧ w.cell? ⟨b, 1, none⟩ = some (.slice A1 X.l1.length c1) ∧ w.cell? ⟨b, 2, none⟩ = some (.slice A2 X.l2.length c2) ∧ w.cell? ⟨b, 3, none⟩ = some (.slice A3 X.l3.length c3) ∧ w.cell? ⟨b, 4, none⟩ = some (.slice A4 X.l4.length c4) :=
 ⟨(blk_cell h 0).trans rfl, (blk_cell h 1).trans rfl, (blk_cell h 2).trans rfl, (blk_cell h 3).trans rfl, (blk_cell h 4).trans rfl⟩
theorem bxAt_new (A0 A1 A2 A3 A4 : Option Addr) (c0 c1 c2 c3 c4 : Nat) (w : World) : BxAt X A0 A1 A2 A3 A4 c0 c1 c2 c3 c4 w.heap.size (w.alloc (.cells #[.slice A0 X.l0.length c0, .slice A1 X.l1.length c1, .slice A2 X.l2.length c2, .slice A3 X.l3.length c3, .slice A4 X.l4.length c4] 28)) := blk_new w _
end
end Go.Proofs.Ytkfebceainedfaa.P.OwnGap
namespace Go.Proofs.Ytkfebceainedfaa.P.OwnGap
open Go.RowKit Go.Shelf Go.Proofs.YtkfebceainedfaaW.PrintWords Go.Proofs.YtkfebceainedfaaW.PrintLast Go.Proofs.YtkfebceainedfaaW.PrintMore
open Go.Proofs.Ytkfebceainedfaa.OwnGap
set_option linter.unusedVariables false
set_option linter.unusedSimpArgs false
attribute [local go_sem] Oper.semAt_some
def BxS (n : Nat) (cs : Array Value) (t : Nat) (w W : World) : Prop := Below n w W ∧ W.heap[n]? = some (.cells cs t (0, 0))
section
variable {n t : Nat} {cs : Array Value} {w W W' : World}
theorem BxS.next (h : BxS n cs t w W) (hb : Below W.heap.size W W') : BxS n cs t w W' := ⟨h.1.trans (hb.mono (Nat.le_of_lt (blk_lt h.2))), blk_below h.2 hb⟩
theorem BxS.start (cs : Array Value) (t : Nat) (w : World) : BxS w.heap.size cs t w (w.alloc (.cells cs t)) := ⟨(Below.refl _ _).alloc (Nat.le_refl _) _, blk_new w _⟩
theorem BxS.drewN (h : BxS n cs t w W) (k : Nat) : BxS n cs t w (W.drewN k) := h.next (pw_below_drewN (Below.refl _ _) _)
theorem BxS.cell (h : BxS n cs t w W) (i : Nat) : W.cell? ⟨n, i, none⟩ = cs[i]? := blk_cell h.2 i
end
theorem cap_calls (a : Int) (h : capB a = true) (w : World) : Calls Try.prog 105 #[.int .u8 a] w fun e w' => e = .returned (.bool true) ∧ Drawn0 w w' :=
 gap_capital.calls a _ w (by rw [cap_p, h])
set_option maxHeartbeats 1000000 in
set_option maxRecDepth 100000 in
theorem span_ok (a b lo hi : Int) (w : World) (h1 : lo ≤ a ∧ a ≤ hi) (h2 : lo ≤ b ∧ b ≤ hi) (h3 : a ≤ b) :
  Calls Try.prog 93 #[.agg #[.int .i64 a, .int .i64 b], .int .i64 lo, .int .i64 hi] w fun e w' => e = .returned (.int .i64 0) ∧ Below w.heap.size w w' := by
 have HI1 := Aside0.mk (inB_true.2 h1)
 have HI2 := Aside0.mk (inB_true.2 h2)
 have hd : decide (b < a) = false := decide_eq_false (by omega)
 clear h1 h2 h3
 obtain ⟨n0, hn0⟩ : ∃ n, n = w.heap.size := ⟨_, rfl⟩
 have HN0 := Aside0.mk hn0
 go_enter Try.func93, Try.ntmps93
 go_upto_region 1 with fail
 refine wp_gen (fun wx => Aside0 (BxS n0 #[.int .i64 a, .int .i64 b] 47 w wx)) ⟨by rw [hn0]; exact BxS.start _ _ w⟩ ?_
 rw [← hn0]
 clear hn0
 rintro w1 HS
 have y0 := (HS.out.cell 0).trans (show _ = some (.int .i64 a) from rfl)
 have y1 := (HS.out.cell 1).trans (show _ = some (.int .i64 b) from rfl)
 have yl := blk_lt HS.out.2
 go_wp2_with first
  | ((fail_if_success (have h_ := HS2.out)); go_at_call 49; refine (in_calls a lo hi w1).mono ?_; rintro e w2 ⟨rfl, hb⟩; rw [HI1.out]; have HS2 := Aside0.mk (HS.out.next hb); clear y0 y1 yl hb; have y0 := (HS2.out.cell 0).trans (show _ = some (.int .i64 a) from rfl); have y1 := (HS2.out.cell 1).trans (show _ = some (.int .i64 b) from rfl); have yl := blk_lt HS2.out.2)
  | (go_at_call 49; refine (in_calls b lo hi w2).mono ?_; rintro e w3 ⟨rfl, hb⟩; rw [HI2.out]; have HS3 := Aside0.mk (HS2.out.next hb); clear y0 y1 yl hb; have y0 := (HS3.out.cell 0).trans (show _ = some (.int .i64 a) from rfl); have y1 := (HS3.out.cell 1).trans (show _ = some (.int .i64 b) from rfl); have yl := blk_lt HS3.out.2)
  | fail
 go_ret
 exact ⟨rfl, HN0.out ▸ HS3.out.1⟩
set_option maxHeartbeats 2000000 in
set_option maxRecDepth 100000 in
theorem index_none (A : Option Addr) (c : Nat) (l : List S53) (x : S53) (w : World) (hr : Kd.C k53 w A l.length l) (hl : l.length ≤ 1000) (hn : l.any (sameW x) = false) :
  Calls Try.prog 110 #[.slice A l.length c, .agg #[.string x.f0, .int .i64 x.f1]] w fun e w' => e = .returned (.int .i64 (-1)) ∧ Below w.heap.size w w' := by
 have hu53 := Try.underlying53
 have HR := Aside0.mk hr
 have HN := Aside0.mk hn
 have HL := Aside0.mk hl
 clear hr hn hl
 obtain ⟨n0, hn0⟩ : ∃ n, n = w.heap.size := ⟨_, rfl⟩
 have HN0 := Aside0.mk hn0
 go_enter Try.func110, Try.ntmps110
 go_upto_region 1 with fail
 refine wp_gen (fun wx => Aside0 (BxS n0 #[.string x.f0, .int .i64 x.f1] 53 w wx)) ⟨by rw [hn0]; exact BxS.start _ _ w⟩ ?_
 rw [← hn0]
 clear hn0
 rintro w1 HS
 go_wp2_with fail
 go_loopg [8] l.length (fun gh v8 wr => ∃ i : Nat, i + gh = l.length ∧ v8 = .int .i64 (i : Int) ∧ Aside0 (BxS n0 #[.string x.f0, .int .i64 x.f1] 53 w wr))
 case atStart => exact ⟨0, by omega, rfl, HS⟩
 case round =>
  clear HS
  obtain ⟨i, hi, rfl, HS⟩ := hrel
  have HI := Aside0.mk hi
  by_cases hlt : i < l.length
  ·have hz : (i : Int) < (l.length : Int) := by omega
   have hd : decide (i < l.length) = true := decide_eq_true hlt
   have hd2 : decide ((i : Int) < (l.length : Int)) = true := decide_eq_true hz
   have h0 : (0 : Int) ≤ (i : Int) := by omega
   have HLT := Aside0.mk hlt
   obtain ⟨ad, rfl, e0, e1⟩ := at_T53 (Kd.C_below HR.out (HN0.out ▸ HS.out.1)) (i : Int) h0 hz
   rw [Int.toNat_natCast] at e0 e1
   have el := World.block_lt_of_cell? wr _ e0
   have hne : ¬ x.f0.toList = (rd_T53 l (i : Int)).f0.toList ∨ (x.f0.toList = (rd_T53 l (i : Int)).f0.toList ∧ ¬ x.f1 = (rd_T53 l (i : Int)).f1) := by
    have h := List.any_eq_false.1 HN.out (rd_T53 l (i : Int)) (by
     rw [show rd_T53 l (i : Int) = l[i] by simp [rd_T53, List.getD_eq_getElem?_getD, hlt]]
     exact List.getElem_mem _)
    simp only [sameW, Bool.and_eq_true, beq_iff_eq] at h
    by_cases ht : x.f0.toList = (rd_T53 l (i : Int)).f0.toList
    ·exact .inr ⟨ht, fun e => h ⟨ht, e⟩⟩
    ·exact .inl ht
   have y0 := (HS.out.cell 0).trans (show _ = some (.string x.f0) from rfl)
   have y1 := (HS.out.cell 1).trans (show _ = some (.int .i64 x.f1) from rfl)
   have yl := blk_lt HS.out.2
   have hw : wrap64 ((i : Int) + 1) = ((i + 1 : Nat) : Int) := by have := HL.out; simp [wrap64]; omega
   clear hi hlt
   rcases hne with hne | ⟨ht, hne⟩
   all_goals
    go_wp2_with fail
    go_quiet (fail)
    go_wp2_with fail
    go_roundg (gk - 1)
    case measure => have := HI.out; have := HLT.out; omega
    case rel => exact ⟨i + 1, by have := HI.out; have := HLT.out; omega, by go_num, ⟨HS.out.drewN _⟩⟩
  ·have hz : ¬ (i : Int) < (l.length : Int) := by omega
   have hd : decide (i < l.length) = false := decide_eq_false hlt
   have hd2 : decide ((i : Int) < (l.length : Int)) = false := decide_eq_false hz
   clear hi hlt
   go_wp2_with fail
   go_ret
   exact ⟨rfl, HN0.out ▸ HS.out.1⟩
set_option maxHeartbeats 1000000 in
set_option maxRecDepth 100000 in
theorem contains_none (A : Option Addr) (c : Nat) (l : List S53) (x : S53) (w : World) (hr : Kd.C k53 w A l.length l) (hl : l.length ≤ 1000) (hn : l.any (sameW x) = false) :
  Calls Try.prog 106 #[.slice A l.length c, .agg #[.string x.f0, .int .i64 x.f1]] w fun e w' => e = .returned (.bool false) ∧ Below w.heap.size w w' := by
 have HR := Aside0.mk hr
 obtain ⟨n0, hn0⟩ : ∃ n, n = w.heap.size := ⟨_, rfl⟩
 have HN0 := Aside0.mk hn0
 have HC := Aside0.mk (fun (W : World) (h : Below n0 w W) => index_none A c l x W (Kd.C_below hr (hn0 ▸ h)) hl hn)
 clear hr hl hn
 go_enter Try.func106, Try.ntmps106
 go_upto_region 1 with fail
 refine wp_gen (fun wx => Aside0 (BxS n0 #[.string x.f0, .int .i64 x.f1] 53 w wx)) ⟨by rw [hn0]; exact BxS.start _ _ w⟩ ?_
 rw [← hn0]
 clear hn0
 rintro w1 HS
 have y0 := (HS.out.cell 0).trans (show _ = some (.string x.f0) from rfl)
 have y1 := (HS.out.cell 1).trans (show _ = some (.int .i64 x.f1) from rfl)
 have yl := blk_lt HS.out.2
 go_wp2_with first
  | (go_at_call 110; refine (HC.out _ HS.out.1).mono ?_; rintro e w2 ⟨rfl, hb⟩; have HS2 := Aside0.mk (HS.out.next hb); clear hb)
  | fail
 go_ret
 exact ⟨rfl, HN0.out ▸ HS2.out.1⟩
set_option maxHeartbeats 2000000 in
set_option maxRecDepth 100000 in
theorem asc_ok (s : ByteArray) (h : ascB s = true) (w : World) : Calls Try.prog 94 #[.string s] w fun e w' => e = .returned (.bool true) ∧ Below w.heap.size w w' := by
 have HA := Aside0.mk (range_all.1 h)
 have HZ := Aside0.mk (ascB_let h).2
 clear h
 go_enter Try.func94, Try.ntmps94
 go_wp2_with fail
 go_loopg [6] s.size (fun gh v6 wr => ∃ i : Nat, i + gh = s.size ∧ v6 = .int .i64 (i : Int) ∧ Aside0 (Below w.heap.size w wr))
 case atStart => exact ⟨0, by omega, rfl, ⟨Below.refl _ _⟩⟩
 case round =>
  obtain ⟨i, hi, rfl, HS⟩ := hrel
  have HI := Aside0.mk hi
  by_cases hlt : i < s.size
  ·have hz : (i : Int) < (s.size : Int) := by omega
   have hd : decide (i < s.size) = true := decide_eq_true hlt
   have h0 : (0 : Int) ≤ (i : Int) := by omega
   have HLT := Aside0.mk hlt
   have hw : wrap64 ((i : Int) + 1) = ((i + 1 : Nat) : Int) := by have := HZ.out; simp [wrap64]; omega
   have hA := HA.out i hlt
   unfold ascAt at hA
   rw [Bool.and_eq_true] at hA
   have HC := Aside0.mk hA.1
   have hb := bt_at s (i : Int) (by simpa using hlt)
   simp only [Int.toNat_natCast] at hb
   by_cases he : i = 0
   ·have hz0 : decide ((0 : Int) < (i : Int)) = false := decide_eq_false (by omega)
    have hz1 : decide (0 < i) = false := decide_eq_false (by omega)
    have hz2 : ¬ (i : Int) > 0 := by omega
    clear hA hi he
    go_wp2_with fail
    go_quiet (exact Calls.quiet_of ((cap_calls _ HC.out _).mono (fun _ _ h => ⟨h.1, h.2.out⟩)))
    go_wp2_with fail
    go_roundg (gk - 1)
    case measure => have := HI.out; have := HLT.out; omega
    case rel => exact ⟨i + 1, by have := HI.out; have := HLT.out; omega, by go_num, ⟨pw_below_drewN HS.out _⟩⟩
   ·have hz0 : decide ((0 : Int) < (i : Int)) = true := decide_eq_true (by omega)
    have hz1 : decide (0 < i) = true := decide_eq_true (by omega)
    have hz2 : (i : Int) > 0 := by omega
    have hlt2 : bt s ((i : Int) - 1) < bt s (i : Int) := by
     rcases Bool.or_eq_true_iff.1 hA.2 with h | h
     ·exact absurd (of_decide_eq_true h) he
     ·exact of_decide_eq_true h
    obtain ⟨j, hj⟩ : ∃ j : Nat, i = j + 1 := ⟨i - 1, by omega⟩
    have hw1 : wrap64 ((i : Int) - 1) = (j : Int) := by have := HZ.out; simp [wrap64]; omega
    have hw2 : IntKind.i64.wrap ((i : Int) - 1) = (j : Int) := by rw [i64_w]; exact hw1
    rw [show (i : Int) - 1 = (j : Int) by omega] at hlt2
    have hj0 : (0 : Int) ≤ (j : Int) := by omega
    have hj1 : (j : Int) < (s.size : Int) := by omega
    have hj2 : j < s.size := by omega
    have hb2 := bt_at s (j : Int) (by simpa using hj2)
    simp only [Int.toNat_natCast] at hb2
    have hle : decide (bt s (i : Int) ≤ bt s (j : Int)) = false := decide_eq_false (by omega)
    clear hj hlt2
    clear hA hi he
    go_wp2_with fail
    go_quiet (exact Calls.quiet_of ((cap_calls _ HC.out _).mono (fun _ _ h => ⟨h.1, h.2.out⟩)))
    go_wp2_with fail
    go_roundg (gk - 1)
    case measure => have := HI.out; have := HLT.out; omega
    case rel => exact ⟨i + 1, by have := HI.out; have := HLT.out; omega, by go_num, ⟨pw_below_drewN HS.out _⟩⟩
  ·have hz : ¬ (i : Int) < (s.size : Int) := by omega
   have hd : decide (i < s.size) = false := decide_eq_false hlt
   clear hi hlt
   go_wp2_with fail
   go_ret
   exact ⟨rfl, HS.out⟩
def Bx2 (n : Nat) (cs : Array Value) (t : Nat) (cs2 : Array Value) (t2 : Nat) (w W : World) : Prop := BxS n cs t w W ∧ W.heap[n + 1]? = some (.cells cs2 t2 (0, 0))
section
variable {n t t2 : Nat} {cs cs2 : Array Value} {w W W' : World}
theorem Bx2.next (h : Bx2 n cs t cs2 t2 w W) (hb : Below W.heap.size W W') : Bx2 n cs t cs2 t2 w W' := ⟨h.1.next hb, blk_below h.2 hb⟩
theorem Bx2.drewN (h : Bx2 n cs t cs2 t2 w W) (k : Nat) : Bx2 n cs t cs2 t2 w (W.drewN k) := h.next (pw_below_drewN (Below.refl _ _) _)
theorem Bx2.start (cs : Array Value) (t : Nat) (cs2 : Array Value) (t2 : Nat) (w : World) : Bx2 w.heap.size cs t cs2 t2 w ((w.alloc (.cells cs t)).alloc (.cells cs2 t2)) := by
 refine ⟨(BxS.start cs t w).next ((Below.refl _ _).alloc (Nat.le_refl _) _), ?_⟩
 have h2 := blk_new (w.alloc (.cells cs t)) (.cells cs2 t2)
 rw [World.size_alloc] at h2
 exact h2
theorem Bx2.cell (h : Bx2 n cs t cs2 t2 w W) (i : Nat) : W.cell? ⟨n + 1, i, none⟩ = cs2[i]? := blk_cell h.2 i
end
set_option maxHeartbeats 2000000 in
set_option maxRecDepth 100000 in
theorem word_ok {X : Lx} {A0 A1 A2 A3 A4 Ar : Option Addr} {c0 c1 c2 c3 c4 cr : Nat} {w : World} (hin : LxIn X A0 A1 A2 A3 A4 Ar c0 c1 c2 c3 c4 cr w) (hc : OkC X) {i : Nat} (hi : i < X.l0.length) :
  Calls Try.prog 92 #[.agg #[.slice A0 X.l0.length c0, .slice A1 X.l1.length c1, .slice A2 X.l2.length c2, .slice A3 X.l3.length c3, .slice A4 X.l4.length c4], .slice A0 i c0, .agg #[.string (rd_T53 X.l0 (i : Int)).f0, .int .i64 (rd_T53 X.l0 (i : Int)).f1]] w fun e w' => e = .returned (.int .i64 0) ∧ Below w.heap.size w w' := by
 obtain ⟨h1, h2, h3, h4⟩ := wordV_zero (hc.wd i hi)
 have hl : (X.l0.take i).length = i := by rw [List.length_take]; omega
 have hn12 := hc.n12
 obtain ⟨x, hx⟩ : ∃ x, x = rd_T53 X.l0 (i : Int) := ⟨_, rfl⟩
 rw [← hx] at h1 h2 h3 h4 ⊢
 obtain ⟨n0, hn0⟩ : ∃ n, n = w.heap.size := ⟨_, rfl⟩
 have HN0 := Aside0.mk hn0
 have HC := Aside0.mk (fun (W : World) (h : Below n0 w W) => show Calls Try.prog 106 #[.slice A0 i c0, .agg #[.string x.f0, .int .i64 x.f1]] W fun e w' => e = .returned (.bool false) ∧ Below W.heap.size W w' from by
  have := contains_none A0 c0 (X.l0.take i) x W (Kd.C_below (Kd.C_take hin.h0 (by omega)) (hn0 ▸ h)) (by omega) h4
  rw [hl] at this
  exact this)
 have HI1 := Aside0.mk (inB_true.2 h1)
 have hf1 := hc.f1
 have hf5 := hc.f5
 have hw1 : wrap64 ((X.l1.length : Int) - 1) = (X.l1.length : Int) - 1 := wrap64_small (by omega) (by omega)
 have hw2 : IntKind.i64.wrap ((X.l1.length : Int) - 1) = (X.l1.length : Int) - 1 := by rw [i64_w]; exact hw1
 have HI3 := Aside0.mk (inB_true.2 h3)
 have HT := Aside0.mk h2
 have HZ := Aside0.mk h1.2
 clear hin hc hi h1 h2 h3 h4 hl hn12 hx hf1 hf5
 go_enter Try.func92, Try.ntmps92
 go_upto_region 1 with fail
 refine wp_gen (fun wx => Aside0 (Bx2 n0 #[.slice A0 X.l0.length c0, .slice A1 X.l1.length c1, .slice A2 X.l2.length c2, .slice A3 X.l3.length c3, .slice A4 X.l4.length c4] 28 #[.string x.f0, .int .i64 x.f1] 53 w wx)) ⟨by rw [hn0]; exact Bx2.start _ _ _ _ w⟩ ?_
 rw [← hn0]
 clear hn0
 rintro w1 HS
 have y0 := (HS.out.cell 0).trans (show _ = some (.string x.f0) from rfl)
 have yl := blk_lt HS.out.2
 go_wp2_with first
  | (go_at_call 49; refine (in_calls x.f0.size 1 8 w1).mono ?_; rintro e w2 ⟨rfl, hb⟩; rw [HI1.out]; have HS2 := Aside0.mk (HS.out.next hb); clear y0 yl hb; have y0 := (HS2.out.cell 0).trans (show _ = some (.string x.f0) from rfl); have yl := blk_lt HS2.out.2)
  | fail
 go_loopg [16] x.f0.size (fun gh v16 wr => ∃ i : Nat, i + gh = x.f0.size ∧ v16 = .int .i64 (i : Int) ∧ Aside0 (Bx2 n0 #[.slice A0 X.l0.length c0, .slice A1 X.l1.length c1, .slice A2 X.l2.length c2, .slice A3 X.l3.length c3, .slice A4 X.l4.length c4] 28 #[.string x.f0, .int .i64 x.f1] 53 w wr))
 case atStart => exact ⟨0, by omega, rfl, HS2⟩
 case round =>
  clear HS HS2 y0 yl
  obtain ⟨j, hj, rfl, HS⟩ := hrel
  have HJ := Aside0.mk hj
  have y0 := (HS.out.cell 0).trans (show _ = some (.string x.f0) from rfl)
  have y1 := (HS.out.cell 1).trans (show _ = some (.int .i64 x.f1) from rfl)
  have yl := blk_lt HS.out.2
  by_cases hlt : j < x.f0.size
  ·have hz : (j : Int) < (x.f0.size : Int) := by omega
   have hd : decide (j < x.f0.size) = true := decide_eq_true hlt
   have h0 : (0 : Int) ≤ (j : Int) := by omega
   have hw : wrap64 ((j : Int) + 1) = ((j + 1 : Nat) : Int) := by have := HZ.out; simp [wrap64]; omega
   have HLT := Aside0.mk hlt
   have hb := bt_at x.f0 (j : Int) (by simpa using hlt)
   simp only [Int.toNat_natCast] at hb
   have HCB := Aside0.mk (show capB (bt x.f0 (j : Int)) = true from inB_true.2 (HT.out j hlt))
   clear hj
   go_wp2_with first
    | (go_at_call 105; refine (cap_calls _ HCB.out wr).mono ?_; rintro e w2 ⟨rfl, hb5⟩; have HS2 := Aside0.mk (HS.out.next hb5.below); clear hb5)
    | fail
   go_roundg (gk - 1)
   case measure => have := HJ.out; have := HLT.out; omega
   case rel => exact ⟨j + 1, by have := HJ.out; have := HLT.out; omega, by go_num, HS2⟩
  ·have hz : ¬ (j : Int) < (x.f0.size : Int) := by omega
   have hd : decide (j < x.f0.size) = false := decide_eq_false hlt
   have x1 := (HS.out.1.cell 1).trans (show _ = some (.slice A1 X.l1.length c1) from rfl)
   have xl := blk_lt HS.out.1.2
   clear hj hlt
   go_wp2_with first
    | (go_at_call 49; refine (in_calls x.f1 0 ((X.l1.length : Int) - 1) wr).mono ?_; rintro e w2 ⟨rfl, hb⟩; rw [HI3.out]; have HS2 := Aside0.mk (HS.out.next hb); clear y0 y1 yl hb x1 xl; have y0 := (HS2.out.cell 0).trans (show _ = some (.string x.f0) from rfl); have y1 := (HS2.out.cell 1).trans (show _ = some (.int .i64 x.f1) from rfl); have yl := blk_lt HS2.out.2)
    | (go_at_call 106; refine (HC.out _ HS2.out.1.1).mono ?_; rintro e w3 ⟨rfl, hb⟩; have HS3 := Aside0.mk (HS2.out.next hb); clear hb)
    | fail
   go_ret
   exact ⟨rfl, HN0.out ▸ HS3.out.1.1⟩
end Go.Proofs.Ytkfebceainedfaa.P.OwnGap
namespace Go.Proofs.Ytkfebceainedfaa.P.OwnGap
open Go.RowKit Go.Shelf Go.Proofs.YtkfebceainedfaaW.PrintWords Go.Proofs.YtkfebceainedfaaW.PrintLast Go.Proofs.YtkfebceainedfaaW.PrintMore
open Go.Proofs.Ytkfebceainedfaa.OwnGap
set_option linter.unusedVariables false
set_option linter.unusedSimpArgs false
attribute [local go_sem] Oper.semAt_some
def gapsN (r : List S49) (i : Nat) : Nat := ((List.range' 0 i).filter fun (j : Nat) => (rd_T49 r (j : Int)).f1).length
theorem gapsN_succ (r : List S49) (i : Nat) : gapsN r (i + 1) = gapsN r i + (if (rd_T49 r (i : Int)).f1 = true then 1 else 0) := by
 unfold gapsN
 rw [List.range'_concat, List.filter_append, List.length_append]
 congr 1
 rw [Nat.zero_add, Nat.one_mul]
 by_cases h : (rd_T49 r (i : Int)).f1 = true <;> simp [h]
theorem gapsN_le (r : List S49) (i : Nat) : ∀ k, gapsN r i ≤ gapsN r (i + k)
 | 0 => Nat.le_refl _
 | k + 1 => by
  have := gapsN_le r i k
  rw [← Nat.add_assoc, gapsN_succ]
  omega
theorem wrap3 (g : Nat) (h : g ≤ 3) : wrap64 ((g : Int) + 1) = (g : Int) + 1 := by simp [wrap64]; omega
set_option maxHeartbeats 2000000 in
set_option maxRecDepth 100000 in
theorem row_ok {A : Option Addr} {c : Nat} {r : List S49} {w : World} (hr : Kd.C k49 w A r.length r) (ho : OkR r) : Calls Try.prog 76 #[.slice A r.length c] w fun e w' => e = .returned (.int .i64 0) ∧ Below w.heap.size w w' := by
 have hu47 := Try.underlying47
 have HR := Aside0.mk hr
 have HO := Aside0.mk ho
 have h1 := ho.n1
 have h2 := ho.n24
 have HZ := Aside0.mk h2
 have z1 : ((r.length : Int) == 0) = false := beq_eq_false_iff_ne.mpr (by omega)
 have z2 : decide (24 < r.length) = false := decide_eq_false (by omega)
 have z3 : decide (24 < (r.length : Int)) = false := decide_eq_false (by omega)
 clear hr ho h1 h2
 go_enter Try.func76, Try.ntmps76
 go_wp2_with fail
 go_loopg [3, 17] r.length (fun gh v3 v17 wr => ∃ i : Nat, i + gh = r.length ∧ v17 = .int .i64 (i : Int) ∧ v3 = .int .i64 (gapsN r i : Int) ∧ Aside0 (Below w.heap.size w wr))
 case atStart => exact ⟨0, by omega, rfl, rfl, ⟨Below.refl _ _⟩⟩
 case round =>
  clear z1 z2 z3
  obtain ⟨i, hi, rfl, rfl, HS⟩ := hrel
  have HI := Aside0.mk hi
  by_cases hlt : i < r.length
  ·have hz : (i : Int) < (r.length : Int) := by omega
   have hd : decide (i < r.length) = true := decide_eq_true hlt
   have h0 : (0 : Int) ≤ (i : Int) := by omega
   have HLT := Aside0.mk hlt
   have HW := Aside0.mk (show wrap64 ((i : Int) + 1) = ((i + 1 : Nat) : Int) by have := HZ.out; simp [wrap64]; omega)
   obtain ⟨ad, rfl, e0, e1, e2, e3⟩ := at_T49 (Kd.C_below HR.out HS.out) (i : Int) h0 hz
   rw [Int.toNat_natCast] at e0 e1 e2 e3
   have el := World.block_lt_of_cell? wr _ e0
   obtain ⟨v1, v2, v3, v4⟩ := cellV_zero (HO.out.cell i hlt)
   have hV := HO.out.cell i hlt
   have hg1 := gapsN_succ r i
   have hg2 := gapsN_le r (i + 1) (r.length - (i + 1))
   rw [show i + 1 + (r.length - (i + 1)) = r.length by omega] at hg2
   have hg3 : gapsN r r.length ≤ 3 := HO.out.gaps
   obtain ⟨x, hx⟩ : ∃ x, x = rd_T49 r (i : Int) := ⟨_, rfl⟩
   rw [← hx] at e0 e1 e2 e3 v3 v4 hg1 hV
   clear hi hlt v1 v2 hx
   go_upto_region 9 with fail
   obtain ⟨b5, hb5⟩ : ∃ b, b = wr.heap.size := ⟨_, rfl⟩
   have HB5 := Aside0.mk (show w.heap.size ≤ b5 by rw [hb5]; exact HS.out.size)
   refine wp_gen (fun wx => Aside0 (BxS b5 #[.string x.f0, .bool x.f1, .int .i64 x.f2.f0, .int .i64 x.f2.f1] 49 wr wx)) ⟨by rw [hb5]; exact BxS.start _ _ wr⟩ ?_
   rw [← hb5]
   clear hb5 e0 e1 e2 e3 el
   rintro w2 HX
   have y0 := (HX.out.cell 0).trans (show _ = some (.string x.f0) from rfl)
   have y1 := (HX.out.cell 1).trans (show _ = some (.bool x.f1) from rfl)
   have y2 := (HX.out.cell 2).trans (show _ = some (.int .i64 x.f2.f0) from rfl)
   have y3 := (HX.out.cell 3).trans (show _ = some (.int .i64 x.f2.f1) from rfl)
   have yl := blk_lt HX.out.2
   cases hg : x.f1 with
   | false =>
    obtain ⟨w0, w1⟩ := v4 hg
    rw [hg] at y1 hg1
    rw [if_neg (by decide), Nat.add_zero] at hg1
    have HG1 := Aside0.mk hg1
    have HA := Aside0.mk (show ascB x.f0 = true by
     unfold cellV at hV
     rw [if_neg (by rw [hg]; decide)] at hV
     cases ha : ascB x.f0 with
     | false => rw [ifT ha] at hV; cases hV
     | true => rfl)
    rw [w0] at y2
    rw [w1] at y3
    have HW0 := Aside0.mk w0
    have HW1 := Aside0.mk w1
    clear v3 v4 hV hg2 hg3 hg w0 w1 hg1
    go_wp2_with first
     | (go_at_call 94; refine (asc_ok x.f0 HA.out w2).mono ?_; rintro e w3 ⟨rfl, hb⟩; have HX2 := Aside0.mk (HX.out.next hb); clear y0 y1 y2 y3 yl hb; have y2 := (HX2.out.cell 2).trans (show _ = some (.int .i64 0) by rw [← HW0.out]; rfl); have y3 := (HX2.out.cell 3).trans (show _ = some (.int .i64 0) by rw [← HW1.out]; rfl); have yl := blk_lt HX2.out.2)
     | fail
    go_roundg (gk - 1)
    case measure => have := HI.out; have := HLT.out; omega
    case rel => exact ⟨i + 1, by have := HI.out; have := HLT.out; omega, by have := HW.out; go_num, by rw [HG1.out, Nat.add_zero], ⟨HS.out.trans (HX2.out.1.mono HB5.out)⟩⟩
   | true =>
    obtain ⟨s0, s1, s2, s3⟩ := v3 hg
    rw [hg] at y1 hg1
    rw [if_pos rfl] at hg1
    have HG1 := Aside0.mk (show ((gapsN r (i + 1) : Nat) : Int) = (gapsN r i : Int) + 1 by omega)
    have hg4 : decide (3 < (gapsN r i : Int) + 1) = false := decide_eq_false (by clear hg; omega)
    have hgw := wrap3 (gapsN r i) (by omega)
    have HGW := Aside0.mk hgw
    have hes : x.f0 = ⟨#[]⟩ := by
     apply ByteArray.ext
     exact Array.eq_empty_of_size_eq_zero s0
    have HSP := Aside0.mk (show ∀ W, Calls Try.prog 93 #[.agg #[.int .i64 x.f2.f0, .int .i64 x.f2.f1], .int .i64 0, .int .i64 1000] W fun e w' => e = .returned (.int .i64 0) ∧ Below W.heap.size W w' from fun W => span_ok _ _ 0 1000 W ⟨s1, by omega⟩ ⟨by omega, s3⟩ s2)
    rw [hes] at y0
    clear v3 v4 hV hg2 hg3 hg s0 s1 s2 s3 hg1 hes
    go_wp2_with first
     | (go_at_call 93; refine (HSP.out w2).mono ?_; rintro e w3 ⟨rfl, hb⟩; have HX2 := Aside0.mk (HX.out.next hb); clear y0 y1 y2 y3 yl hb)
     | fail
    go_roundg (gk - 1)
    case measure => have := HI.out; have := HLT.out; omega
    case rel => exact ⟨i + 1, by have := HI.out; have := HLT.out; omega, by have := HW.out; go_num, by rw [HG1.out, HGW.out], ⟨HS.out.trans (HX2.out.1.mono HB5.out)⟩⟩
  ·have hz : ¬ (i : Int) < (r.length : Int) := by omega
   have hd : decide (i < r.length) = false := decide_eq_false hlt
   clear hi hlt
   go_wp2_with fail
   go_ret
   exact ⟨rfl, HS.out⟩
end Go.Proofs.Ytkfebceainedfaa.P.OwnGap
namespace Go.Proofs.Ytkfebceainedfaa.P.OwnGap
open Go.RowKit Go.Shelf Go.Proofs.YtkfebceainedfaaW.PrintWords Go.Proofs.YtkfebceainedfaaW.PrintLast Go.Proofs.YtkfebceainedfaaW.PrintMore
open Go.Proofs.Ytkfebceainedfaa.OwnGap
set_option linter.unusedVariables false
set_option linter.unusedSimpArgs false
attribute [local go_sem] Oper.semAt_some
set_option maxHeartbeats 4000000 in
set_option maxRecDepth 100000 in
theorem check_ok {X : Lx} {A0 A1 A2 A3 A4 Ar : Option Addr} {c0 c1 c2 c3 c4 cr : Nat} {w : World} (hin : LxIn X A0 A1 A2 A3 A4 Ar c0 c1 c2 c3 c4 cr w) (hc : OkC X) :
  Calls Try.prog 75 #[.agg #[.slice A0 X.l0.length c0, .slice A1 X.l1.length c1, .slice A2 X.l2.length c2, .slice A3 X.l3.length c3, .slice A4 X.l4.length c4]] w fun e w' => e = .returned (.int .i64 0) ∧ Below w.heap.size w w' := by
 have HIN := Aside0.mk hin
 have HC := Aside0.mk hc
 clear hin hc
 obtain ⟨n1, hn1⟩ : ∃ n, n = w.heap.size := ⟨_, rfl⟩
 have HN1 := Aside0.mk hn1
 go_enter Try.func75, Try.ntmps75
 go_upto_region 1 with fail
 refine wp_gen (fun wx => Aside0 (Below n1 w wx ∧ BxAt X A0 A1 A2 A3 A4 c0 c1 c2 c3 c4 n1 wx)) ⟨⟨by rw [hn1]; exact (Below.refl _ _).alloc (Nat.le_refl _) _, by rw [hn1]; exact bxAt_new A0 A1 A2 A3 A4 c0 c1 c2 c3 c4 w⟩⟩ ?_
 rw [← hn1]
 clear hn1
 rintro w1 HS
 obtain ⟨x0, x1, x2, x3, x4⟩ := HS.out.2.cells
 have xl := blk_lt HS.out.2
 have q1 := HC.out.f1
 have q2 := HC.out.f5
 have q3 := HC.out.l2
 have q4 := HC.out.l3
 have z1 : ((X.l1.length : Int) == 0) = false := beq_eq_false_iff_ne.mpr (by omega)
 have z2 : decide ((X.l1.length : Int) > 5) = false := decide_eq_false (by omega)
 have z3 : decide (5 < X.l1.length) = false := decide_eq_false (by omega)
 have z4 : decide (5 < (X.l1.length : Int)) = false := decide_eq_false (by omega)
 have z5 : ((X.l2.length : Int) != (X.l1.length : Int)) = false := by simp [q3]
 have z6 : ((X.l3.length : Int) != (X.l1.length : Int)) = false := by simp [q4]
 have z7 : ((X.l1.length : Int) != (X.l1.length : Int)) = false := by simp
 clear q1 q2 q3 q4
 go_upto_region 9 with fail
 go_wp2_with fail
 go_loopg [35] X.l3.length (fun gh s35 wr => ∃ i : Nat, i + gh = X.l3.length ∧ s35 = .int .i64 (i : Int) ∧ Aside0 (Below n1 w wr ∧ BxAt X A0 A1 A2 A3 A4 c0 c1 c2 c3 c4 n1 wr))
 case atStart => exact ⟨0, by omega, rfl, HS⟩
 case round =>
  clear HS x0 x1 x2 x3 x4 xl
  obtain ⟨i, hi, rfl, HS⟩ := hrel
  have HI := Aside0.mk hi
  by_cases hlt : i < X.l3.length
  ·have hz : (i : Int) < (X.l3.length : Int) := by omega
   have hd : decide (i < X.l3.length) = true := decide_eq_true hlt
   have h0 : (0 : Int) ≤ (i : Int) := by omega
   have hi5 : i < 10 := by have := HC.out.f5; have := HC.out.l3; omega
   obtain ⟨nd, An, cn, hA3, r0, -, -⟩ := at_L1 (Kd.C_below HIN.out.h3 (by rw [← HN1.out]; exact HS.out.1)) (i : Int) h0 hz
   rw [Int.toNat_natCast] at r0
   subst hA3
   have rl := World.block_lt_of_cell? wr _ r0
   have hr3 := HC.out.l3r i (by have := HC.out.l3; omega)
   rw [hr3] at r0
   have z7 : ((X.l1.length : Int) != (X.l1.length : Int)) = false := by simp
   have HLT := Aside0.mk hlt
   clear hi hlt hr3
   go_wp2_with fail
   go_roundg (gk - 1)
   case measure => have := HI.out; have := HLT.out; omega
   case rel => exact ⟨i + 1, by have := HI.out; have := HLT.out; omega, by go_num, HS⟩
  ·have hz : ¬ (i : Int) < (X.l3.length : Int) := by omega
   have hd : decide (i < X.l3.length) = false := decide_eq_false hlt
   clear hi hlt
   obtain ⟨x0, x1, x2, x3, x4⟩ := HS.out.2.cells
   have xl := blk_lt HS.out.2
   have q1 := HC.out.n1
   have q2 := HC.out.n12
   have z1 : ((X.l0.length : Int) == 0) = false := beq_eq_false_iff_ne.mpr (by omega)
   have z2 : decide (12 < X.l0.length) = false := decide_eq_false (by omega)
   have z3 : decide (12 < (X.l0.length : Int)) = false := decide_eq_false (by omega)
   go_wp2_with fail
   go_loopg [57] X.l0.length (fun gh s57 wr => ∃ i : Nat, i + gh = X.l0.length ∧ s57 = .int .i64 (i : Int) ∧ Aside0 (Below n1 w wr ∧ BxAt X A0 A1 A2 A3 A4 c0 c1 c2 c3 c4 n1 wr))
   case atStart => exact ⟨0, by omega, rfl, HS⟩
   case round =>
    clear HS x0 x1 x2 x3 x4 xl q1 q2 z1 z2 z3
    obtain ⟨i, hi, rfl, HS⟩ := hrel
    have HI2 := Aside0.mk hi
    by_cases hlt : i < X.l0.length
    ·have hz : (i : Int) < (X.l0.length : Int) := by omega
     have hd : decide (i < X.l0.length) = true := decide_eq_true hlt
     have h0 : (0 : Int) ≤ (i : Int) := by omega
     have hi5 : i < 20 := by have := HC.out.n12; omega
     have HLT := Aside0.mk hlt
     have HIW := Aside0.mk (HIN.out.below (show Below w.heap.size w wr by rw [← HN1.out]; exact HS.out.1))
     obtain ⟨ad, hA, e0, e1⟩ := at_T53 HIW.out.h0 (i : Int) h0 hz
     rw [Int.toNat_natCast] at e0 e1
     subst hA
     have el := World.block_lt_of_cell? wr _ e0
     obtain ⟨x0, x1, x2, x3, x4⟩ := HS.out.2.cells
     have xl := blk_lt HS.out.2
     have hs1 : (i : Int) ≤ (X.l0.length : Int) := by omega
     have hs2 : (i : Int) ≤ (c0 : Int) := by have := HIN.out.g0; omega
     have hs3 : i ≤ c0 := by omega
     clear hi hlt
     go_upto_region 22 with fail
     obtain ⟨b7, hb7⟩ : ∃ b, b = wr.heap.size := ⟨_, rfl⟩
     have HAL := Aside0.mk ((Below.refl wr.heap.size wr).alloc (Nat.le_refl _) (.cells #[.string (rd_T53 X.l0 (i : Int)).f0, .int .i64 (rd_T53 X.l0 (i : Int)).f1] 53))
     refine wp_gen (fun wx => Aside0 ((Below n1 w wx ∧ BxAt X (some ad) A1 A2 A3 A4 c0 c1 c2 c3 c4 n1 wx) ∧ wx.heap[b7]? = some (.cells #[.string (rd_T53 X.l0 (i : Int)).f0, .int .i64 (rd_T53 X.l0 (i : Int)).f1] 53 (0, 0)) ∧ LxIn X (some ad) A1 A2 A3 A4 Ar c0 c1 c2 c3 c4 cr wx)) ⟨⟨⟨HS.out.1.trans (HAL.out.mono (by have := blk_lt HS.out.2; omega)), HS.out.2.below HAL.out⟩, by rw [hb7]; exact blk_new wr _, HIW.out.below HAL.out⟩⟩ ?_
     rw [← hb7]
     clear hb7 HAL HS HIW e0 e1 el x0 x1 x2 x3 x4 xl
     rintro w2 HS
     obtain ⟨x0, x1, x2, x3, x4⟩ := HS.out.1.2.cells
     have xl := blk_lt HS.out.1.2
     have y0 := (blk_cell HS.out.2.1 0).trans (show _ = some (.string (rd_T53 X.l0 (i : Int)).f0) from rfl)
     have y1 := (blk_cell HS.out.2.1 1).trans (show _ = some (.int .i64 (rd_T53 X.l0 (i : Int)).f1) from rfl)
     have yl := blk_lt HS.out.2.1
     have HCC := Aside0.mk (fun (W' : World) (hb : Below w2.heap.size w2 W') => show W'.cell? ⟨n1, 0, none⟩ = some (.slice (some ad) X.l0.length c0) ∧ W'.cell? ⟨n1, 1, none⟩ = some (.slice A1 X.l1.length c1) ∧ W'.cell? ⟨n1, 2, none⟩ = some (.slice A2 X.l2.length c2) ∧ W'.cell? ⟨n1, 3, none⟩ = some (.slice A3 X.l3.length c3) ∧ W'.cell? ⟨n1, 4, none⟩ = some (.slice A4 X.l4.length c4) ∧ W'.cell? ⟨b7, 0, none⟩ = some (.string (rd_T53 X.l0 (i : Int)).f0) ∧ W'.cell? ⟨b7, 1, none⟩ = some (.int .i64 (rd_T53 X.l0 (i : Int)).f1) from
      ⟨(hb.cell (p := ⟨n1, 0, none⟩) xl).trans x0, (hb.cell (p := ⟨n1, 1, none⟩) xl).trans x1, (hb.cell (p := ⟨n1, 2, none⟩) xl).trans x2, (hb.cell (p := ⟨n1, 3, none⟩) xl).trans x3, (hb.cell (p := ⟨n1, 4, none⟩) xl).trans x4, (hb.cell (p := ⟨b7, 0, none⟩) yl).trans y0, (hb.cell (p := ⟨b7, 1, none⟩) yl).trans y1⟩)
     obtain ⟨i0, hi0, -, -, -⟩ := info_parts info53
     have hcut := cut_to (P := Try.prog) 23 53 .i64 Try.underlying23 hi0 (some ad) X.l0.length c0 (i : Int) h0 hs1 HIN.out.g0
     rw [Int.toNat_natCast] at hcut
     have HWO := Aside0.mk (word_ok (HS.out.2.2.below (Below.drew (Below.refl _ _))) HC.out HLT.out)
     clear hz hd h0 hs1 hs2 hs3 hi0
     go_region_held3 (fun w' => w'.cell? ⟨n1, 0, none⟩ = some (.slice (some ad) X.l0.length c0) ∧ w'.cell? ⟨n1, 1, none⟩ = some (.slice A1 X.l1.length c1) ∧ w'.cell? ⟨n1, 2, none⟩ = some (.slice A2 X.l2.length c2) ∧ w'.cell? ⟨n1, 3, none⟩ = some (.slice A3 X.l3.length c3) ∧ w'.cell? ⟨n1, 4, none⟩ = some (.slice A4 X.l4.length c4) ∧ w'.cell? ⟨b7, 0, none⟩ = some (.string (rd_T53 X.l0 (i : Int)).f0) ∧ w'.cell? ⟨b7, 1, none⟩ = some (.int .i64 (rd_T53 X.l0 (i : Int)).f1))
      (first | exact HCC.out _ HB3.out | exact HCC.out _ (Below.drew (Below.refl _ _)))
      (first | (go_at_call 92; refine HWO.out.mono ?_; rintro e w3 ⟨rfl, hb3⟩; have HB3 := Aside0.mk (show Below w2.heap.size w2 w3 from (Below.drew (Below.refl _ _)).trans hb3); clear hb3))
     go_wp2_with fail
     go_roundg (gk - 1)
     case measure => have := HI2.out; have := HLT.out; omega
     case rel => exact ⟨i + 1, by have := HI2.out; have := HLT.out; omega, by go_num, ⟨HS.out.1.1.trans (HB3.out.mono (Nat.le_of_lt xl)), HS.out.1.2.below HB3.out⟩⟩
    ·have hz : ¬ (i : Int) < (X.l0.length : Int) := by omega
     have hd : decide (i < X.l0.length) = false := decide_eq_false hlt
     clear hi hlt
     obtain ⟨x0, x1, x2, x3, x4⟩ := HS.out.2.cells
     have xl := blk_lt HS.out.2
     have q4 := HC.out.l4
     rw [q4] at x4
     have z1 : ((26 : Int) != 26) = false := by decide
     go_wp2_with fail
     go_loopg [80] 26 (fun gh s80 wr => ∃ i : Nat, i + gh = 26 ∧ s80 = .int .i64 (i : Int) ∧ Aside0 (Below n1 w wr ∧ BxAt X A0 A1 A2 A3 A4 c0 c1 c2 c3 c4 n1 wr))
     case atStart => exact ⟨0, by omega, rfl, HS⟩
     case round =>
      clear HS x0 x1 x2 x3 x4 xl z1
      obtain ⟨i, hi, rfl, HS⟩ := hrel
      have HI2 := Aside0.mk hi
      by_cases hlt : i < 26
      ·have hz : (i : Int) < 26 := by omega
       have hz2 : (i : Int) < (X.l4.length : Int) := by omega
       have hd : decide (i < 26) = true := decide_eq_true hlt
       have hd2 : decide ((i : Int) < 26) = true := decide_eq_true hz
       have h0 : (0 : Int) ≤ (i : Int) := by omega
       have HLT := Aside0.mk hlt
       obtain ⟨ad, rfl, e0, e1⟩ := at_T47 (HIN.out.below (show Below w.heap.size w wr by rw [← HN1.out]; exact HS.out.1)).h4 (i : Int) h0 hz2
       rw [Int.toNat_natCast] at e0 e1
       have el := World.block_lt_of_cell? wr _ e0
       obtain ⟨s1, s2, s3⟩ := spanV_zero (HC.out.sp i hlt)
       have HSP := Aside0.mk (fun (W : World) => span_ok _ _ 1 100 W s1 s2 s3)
       clear hi hlt s1 s2 s3 q4 hz2
       go_wp2_with first
        | (go_at_call 93; refine (HSP.out _).mono ?_; rintro e w2 ⟨rfl, hb⟩; have HB2 := Aside0.mk hb; clear hb)
        | fail
       have HB3 := Aside0.mk (((Below.refl wr.heap.size wr).alloc (Nat.le_refl _) _).trans (HB2.out.mono (by simp)))
       go_roundg (gk - 1)
       case measure => have := HI2.out; have := HLT.out; omega
       case rel => exact ⟨i + 1, by have := HI2.out; have := HLT.out; omega, by go_num, ⟨HS.out.1.trans (HB3.out.mono (Nat.le_of_lt (blk_lt HS.out.2))), HS.out.2.below HB3.out⟩⟩
      ·have hz : ¬ (i : Int) < 26 := by omega
       have hd : decide (i < 26) = false := decide_eq_false hlt
       have hd2 : decide ((i : Int) < 26) = false := decide_eq_false hz
       clear hi hlt q4
       go_wp2_with fail
       go_ret
       exact ⟨rfl, HN1.out ▸ HS.out.1⟩
set_option maxRecDepth 100000 in
theorem both_calls {X : Lx} {A0 A1 A2 A3 A4 Ar : Option Addr} {c0 c1 c2 c3 c4 cr : Nat} {w : World} (h : LxIn X A0 A1 A2 A3 A4 Ar c0 c1 c2 c3 c4 cr w) (hb : bothV X.l0 X.l1 X.l2 X.l3 X.l4 X.r = 0) : Calls Try.prog 48 #[.agg #[.slice A0 X.l0.length c0, .slice A1 X.l1.length c1, .slice A2 X.l2.length c2, .slice A3 X.l3.length c3, .slice A4 X.l4.length c4], .slice Ar X.r.length cr] w fun e w' => e = .returned (.int .i64 (bothV X.l0 X.l1 X.l2 X.l3 X.l4 X.r)) ∧ Below w.heap.size w w' := by
 rw [hb]
 have HC := Aside0.mk (checkV_zero (X := X) (bothV_zero hb).1)
 have HR := Aside0.mk (rowV_zero (bothV_zero hb).2)
 have HIN := Aside0.mk h
 clear h hb
 obtain ⟨n1, hn1⟩ : ∃ n, n = w.heap.size := ⟨_, rfl⟩
 have HN1 := Aside0.mk hn1
 go_enter Try.func48, Try.ntmps48
 go_upto_region 1 with fail
 refine wp_gen (fun wx => Aside0 (Below n1 w wx ∧ BxAt X A0 A1 A2 A3 A4 c0 c1 c2 c3 c4 n1 wx)) ⟨⟨by rw [hn1]; exact (Below.refl _ _).alloc (Nat.le_refl _) _, by rw [hn1]; exact bxAt_new A0 A1 A2 A3 A4 c0 c1 c2 c3 c4 w⟩⟩ ?_
 rw [← hn1]
 clear hn1
 rintro w1 HS
 obtain ⟨x0, x1, x2, x3, x4⟩ := HS.out.2.cells
 have xl := blk_lt HS.out.2
 go_wp2_with first
  | (go_at_call 75; refine (check_ok (HIN.out.below (show Below w.heap.size w w1 by rw [← HN1.out]; exact HS.out.1)) HC.out).mono ?_; rintro e w2 ⟨rfl, hb⟩; have HB2 := Aside0.mk (HS.out.1.trans (hb.mono (Nat.le_of_lt xl))); clear hb)
  | (go_at_call 76; refine (row_ok (HIN.out.below (show Below w.heap.size w w2 by rw [← HN1.out]; exact HB2.out)).hr HR.out).mono ?_; rintro e w3 ⟨rfl, hb⟩; have HB3 := Aside0.mk (HB2.out.trans (hb.mono (by have := HB2.out.size; have := HN1.out; omega))); clear hb)
  | fail
 go_ret
 exact ⟨rfl, HN1.out ▸ HB3.out⟩
end Go.Proofs.Ytkfebceainedfaa.P.OwnGap
namespace Go.Proofs.Ytkfebceainedfaa.OLies
open Go.RowKit Go.Proofs.YtkfebceainedfaaW.PrintWords Go.Proofs.YtkfebceainedfaaW.PrintLast Go.Proofs.YtkfebceainedfaaW.PrintMore
section
variable {P : Program} {ops : Array Oper} {o : Oper} {a : Act} {Q : Exit → Act → World → Prop} {Kc : Act → World → Prop} {α : Type}
end
end Go.Proofs.Ytkfebceainedfaa.OLies
namespace Go.Proofs.Ytkfebceainedfaa.P.OwnGap
open Go.RowKit Go.Shelf Go.Proofs.YtkfebceainedfaaW.PrintWords Go.Proofs.YtkfebceainedfaaW.PrintLast Go.Proofs.YtkfebceainedfaaW.PrintMore
open Go.Proofs.Ytkfebceainedfaa.OwnGap
set_option linter.unusedVariables false
set_option linter.unusedSimpArgs false
attribute [local go_sem] Oper.semAt_some
theorem run_copy_wide {P : Program} (w : World) (dT sT ty elem : TypeId) (g o dLen dCap : Nat) (a : Addr) (sLen sCap : Nat) (cur : Array Value) (t : TypeId) (cs : List Value) (sz : Nat)
    (hu : P.underlying dT = some (.slice elem)) (hs : (P.info? elem).map (·.size) = some sz)
    (hg : w.heap[g]? = some (.cells cur t (0, 0))) (hn : cs.length = Nat.min sLen dLen * sz)
    (hsrc : ∀ j v, cs[j]? = some v → w.cell? (a.add j) = some v) (hfit : o + cs.length ≤ cur.size) (h1 : ∀ v ∈ cs, v.oneCell' = true) :
    (Builtin.copy_ #[dT, sT] ty #[.slice (some ⟨g, o, none⟩) dLen dCap, .slice (some a) sLen sCap]).run P w =
      .ok (goInt (Nat.min sLen dLen)) (w.setRow g (cur.toList.take o ++ cs ++ cur.toList.drop (o + cs.length)).toArray) := by
  have hl := run_loadCells_list (P := P) w a cs hsrc
  have hst := run_storeCells_at P g o t cs 0 cur w hg (by simpa using hfit) h1
  cases hq : P.info? elem with
  | none => simp [hq] at hs
  | some i =>
    have hi : i.size = sz := by simpa [hq] using hs
    simp [Builtin.copy_, run_underlying hu, Builtin.lenOf, Builtin.firstCells, sizeOf, typeInfo, hq, hi, ← hn, hl, hst]
theorem step_copy_wide {P : Program} {ops : Array Oper} {o : Oper} {a : Act} {w : World} {K : Act → World → Prop} {Q : Exit → Act → World → Prop} {E : Prop} (hgd : o.guard = none) (d s : Operand) (dT sT : TypeId)
    (ho : o.op = .call { callee := .builtin .copy, args := #[d, s], argTypes := #[dT, sT] }) (elem : TypeId) (sz : Nat) (hu : P.underlying dT = some (.slice elem)) (hsz : (P.info? elem).map (·.size) = some sz)
    (g off dLen dCap : Nat) (ad : Addr) (sLen sCap : Nat) (hd : a.eval d = .slice (some ⟨g, off, none⟩) dLen dCap) (hs : a.eval s = .slice (some ad) sLen sCap)
    (cur : List Value) (t : TypeId) (hg : w.heap[g]? = some (.cells cur.toArray t (0, 0))) (cs : List Value) (hn : cs.length = Nat.min sLen dLen * sz)
    (hsrc : ∀ j v, cs[j]? = some v → w.cell? (ad.add j) = some v)
    (hfit : off + cs.length ≤ cur.length) (h1 : ∀ v ∈ cs, v.oneCell' = true) (B : Nat) (w0 : World) (hb : RowKit.Below B w0 w) (hBg : B ≤ g)
    (h : ∀ w', RowKit.Hid (w'.heap[g]? = some (.cells (splice cur off cs).toArray t (0, 0))) → RowKit.Below B w0 w' → (∀ k, k ≠ g → w'.heap[k]? = w.heap[k]?) → w'.heap.size = w.heap.size → K (a.put o.dst (goInt (Nat.min sLen dLen))) w') :
    if Region.wanted o (yielded ops a.tmps) = true then Oper.wp P o a w K Q else E := by
  have hw : Region.wanted o (yielded ops a.tmps) = true := by simp [Region.wanted, hgd]
  rw [if_pos hw]
  have hrun := run_copy_wide (P := P) w dT sT o.type elem g off dLen dCap ad sLen sCap cur.toArray t cs sz hu hsz hg hn hsrc (by simpa using hfit) h1
  unfold Oper.wp
  simp [execOp, ho, resolve, invoke, builtin, hd, hs, hrun, Result.andThen]
  exact h _ (show _ = _ by simpa [splice] using setRow_heap w g _ _ t _ hg) (below_setRow hb hBg _) (fun k hk => setRow_other w g k _ hk) (by simp [World.setRow])
def widC (l : List S47) : List Value := (List.range 52).map fun j => if j % 2 = 0 then .int .i64 (rd_T47 l (j / 2 : Nat)).f0 else .int .i64 (rd_T47 l (j / 2 : Nat)).f1
theorem widC_len (l : List S47) : (widC l).length = 52 := by simp [widC]
theorem widC_get (l : List S47) (k : Nat) (hk : k < 26) : (widC l)[k * 2]? = some (.int .i64 (rd_T47 l (k : Int)).f0) ∧ (widC l)[k * 2 + 1]? = some (.int .i64 (rd_T47 l (k : Int)).f1) := by
  unfold widC
  rw [List.getElem?_map, List.getElem?_map, List.getElem?_range (by omega), List.getElem?_range (by omega)]
  simp only [Option.map_some]
  rw [if_pos (by omega), if_neg (by omega), show k * 2 / 2 = k by omega, show (k * 2 + 1) / 2 = k by omega]
  exact ⟨rfl, rfl⟩
theorem widC_src {w : World} {ad : Addr} {l : List S47} (h : Kd.C k47 w (some ad) 26 l) : ∀ j v, (widC l)[j]? = some v → w.cell? (ad.add j) = some v := by
  intro j v hv
  have hj : j < 52 := by have := (List.getElem?_eq_some_iff.1 hv).1; rwa [widC_len] at this
  have hj2 : j / 2 < 26 := by omega
  obtain ⟨q, hq⟩ : ∃ q, q = j / 2 := ⟨_, rfl⟩
  rw [← hq] at hj2
  obtain ⟨ad', e, y0, y1⟩ := at_T47 h (q : Int) (by omega) (by omega)
  injection e with e
  subst e
  rw [Int.toNat_natCast] at y0 y1
  obtain ⟨g0, g1⟩ := widC_get l q hj2
  rcases Nat.mod_two_eq_zero_or_one j with hm | hm
  · rw [show q * 2 = j by omega] at g0 y0
    rw [hv] at g0
    injection g0 with g0
    rw [g0, ← y0]
  · have e2 := add_field ad (q * 2) 1 (by omega)
    rw [show q * 2 + 1 = j by omega] at g1 e2
    rw [hv] at g1
    injection g1 with g1
    rw [g1, ← y1, e2]
def srC (v0 v1 v2 v3 v4 vr vf : Value) (ws : List Value) (mb : Nat) : List Value := [v0, v1, v2, v3, v4, vr, vf] ++ ws ++ [.map (some mb)]
theorem srC_set (v0 v1 v2 v3 v4 vr vf u : Value) (ws : List Value) (mb : Nat) : (srC v0 v1 v2 v3 v4 vr vf ws mb).toArray.setIfInBounds 6 u = (srC v0 v1 v2 v3 v4 vr u ws mb).toArray := by
  unfold srC
  simp
theorem srC_get (v0 v1 v2 v3 v4 vr vf : Value) (l : List S47) (mb k : Nat) (hk : k < 26) : (srC v0 v1 v2 v3 v4 vr vf (widC l) mb).toArray[7 + k * 2]? = some (.int .i64 (rd_T47 l (k : Int)).f0) ∧ (srC v0 v1 v2 v3 v4 vr vf (widC l) mb).toArray[7 + k * 2 + 1]? = some (.int .i64 (rd_T47 l (k : Int)).f1) := by
  obtain ⟨g0, g1⟩ := widC_get l k hk
  unfold srC
  have e : ∀ i v, (widC l)[i]? = some v → ([v0, v1, v2, v3, v4, vr, vf] ++ widC l ++ [Value.map (some mb)]).toArray[7 + i]? = some v := fun i v h => by
    have hi : i < (widC l).length := (List.getElem?_eq_some_iff.1 h).1
    rw [List.getElem?_toArray, List.append_assoc, List.getElem?_append_right (by simp), List.getElem?_append_left (by simpa using hi)]
    simpa using h
  exact ⟨e _ _ g0, e _ _ g1⟩
theorem srC_map (v0 v1 v2 v3 v4 vr vf : Value) (l : List S47) (mb : Nat) : (srC v0 v1 v2 v3 v4 vr vf (widC l) mb).toArray[59]? = some (Value.map (some mb)) := by
  unfold srC
  rw [List.getElem?_toArray, List.getElem?_append_right (by simp [widC_len])]
  simp [widC_len]
structure SrI (X : Lx) (w : World) (bx mb : Nat) (v0 v1 v2 v3 v4 vr : Value) (j : Nat) (W : World) : Prop where
  below : Below bx w W
  size : mb + 2 ≤ W.heap.size
  row : ∃ v, W.heap[mb + 1]? = some (.cells (srC v0 v1 v2 v3 v4 vr v (widC X.l4) mb).toArray 130 (0, 0)) ∧ (Kd.int .u32).R 104 W bx (fun _ => True) v ((X.r.take j).map fun c => ofV c.f0)
  memo : MemoAt Try.prog 139 (AliveR X) W mb
theorem SrI.next {X : Lx} {w : World} {bx mb : Nat} {v0 v1 v2 v3 v4 vr : Value} {j : Nat} {W W' : World} (h : SrI X w bx mb v0 v1 v2 v3 v4 vr j W) (hb : Below W.heap.size W W') (hbx : bx ≤ mb) : SrI X w bx mb v0 v1 v2 v3 v4 vr j W' := by
  obtain ⟨v, h1, h2⟩ := h.row
  have hz := h.size
  exact ⟨h.below.trans (hb.mono (by omega)), Nat.le_trans hz hb.size, ⟨v, blk_below h1 hb, Kd.R_below h2 hb⟩, h.memo.keep (hb.block mb (by omega))⟩
theorem row_u32 {W : World} {b : Nat} {x : Int} (h : W.cell? ⟨b, 0, none⟩ = some (.int .u32 x)) : ReadsRow (fun (y : Int) cs => cs = [.int .u32 y]) 1 W (some ⟨b, 0, none⟩) 1 [x] := by
  refine ⟨rfl, by decide, fun _ => ⟨_, rfl, fun j p hj => ⟨[.int .u32 p], rfl, rfl, fun i u hu => ?_⟩⟩⟩
  have hj0 : j = 0 := by
    have := (List.getElem?_eq_some_iff.1 hj).1
    simpa using this
  subst hj0
  have hi : i = 0 := by
    have := (List.getElem?_eq_some_iff.1 hu).1
    simpa using this
  subst hi
  simp only [List.getElem?_cons_zero, Option.some.injEq] at hj hu
  subst hj
  subst hu
  exact h
theorem srow_far {W w6 : World} {n0 : Nat} {v : Value} {xs : List Int} {b t : Nat} {c : Array Value} {o : Obj} (hR : (Kd.int .u32).R 104 W n0 (fun _ => True) v xs) (hb : (W.alloc o).heap[b]? = some (.cells c t (0, 0))) (hg : (W.alloc o).grownBy w6 v.ownBlock) (ht : t ≠ 104 := by decide) : w6.heap[b]? = some (.cells c t (0, 0)) := by
  obtain ⟨_, inner, hown, _⟩ := hR
  have hlt : b < (W.alloc o).heap.size := (Array.getElem?_eq_some_iff.1 hb).1
  refine (hg.block b hlt (fun e => ?_)).trans hb
  obtain ⟨cells, hc⟩ := own_typed hown b e.symm
  rw [Below.heap_alloc W o b (Array.getElem?_eq_some_iff.1 hc).1, hc] at hb
  injection hb with hb
  injection hb with _ hb
  exact ht hb.symm
theorem R_cells1 {e base : Nat} {W W' : World} {v : Value} {xs : List Int} (h : (Kd.int .u32).R e W base (fun _ => True) v xs) (hs : ∀ (k : Nat) (c : Array Value) (fr : Nat × Nat), W.heap[k]? = some (Obj.cells c e fr) → W'.heap[k]? = W.heap[k]?) : (Kd.int .u32).R e W' base (fun _ => True) v xs := by
  obtain ⟨h0, inner, hown, hr⟩ := h
  refine ⟨h0, inner, own_move hown (fun k hk => ?_), hr.imp_ (fun _ _ h => h)⟩
  obtain ⟨cells, hc⟩ := own_typed hown k hk
  exact hs k _ _ hc
theorem srI_step {X : Lx} {w : World} {bx mb : Nat} {v0 v1 v2 v3 v4 vr v : Value} {j n : Nat} {w5 w6 : World} {o : Obj} {pre : List Int} {A6 : Option Addr} {c6 : Nat} (h5 : SrI X w bx mb v0 v1 v2 v3 v4 vr j w5) (hR5 : (Kd.int .u32).R 104 w5 bx (fun _ => True) v pre) (hV5 : w5.heap[mb + 1]? = some (.cells (srC v0 v1 v2 v3 v4 vr v (widC X.l4) mb).toArray 130 (0, 0)))
    (hB : Below bx w w6) (hg : (w5.alloc o).grownBy w6 v.ownBlock) (hR6 : (Kd.int .u32).R 104 w6 bx (fun _ => True) (.slice A6 n c6) ((X.r.take (j + 1)).map fun c => ofV c.f0)) (hbm : bx ≤ mb) (hn : n = j + 1) : SrI X w bx mb v0 v1 v2 v3 v4 vr (j + 1) (w6.setCell ⟨mb + 1, 6, none⟩ (.slice A6 (j + 1) c6)) := by
  subst hn
  have hV6 := srow_far hR5 (blk_alloc hV5 o) hg
  refine ⟨hB.setCell (by show bx ≤ mb + 1; omega) _, ?_, ⟨.slice A6 (j + 1) c6, ?_, ?_⟩, h5.memo.keep ?_⟩
  · have h1 := hg.size
    have h2 := h5.size
    simp [World.setCell] at h1 ⊢
    omega
  · rw [← srC_set v0 v1 v2 v3 v4 vr v]
    exact blk_set hV6 6 _
  · refine R_cells1 hR6 (fun k c fr hk => (Below.heap_setCell w6 ⟨mb + 1, 6, none⟩ _ k (fun e => ?_)).trans rfl)
    rw [e, hV6] at hk
    injection hk with hk
    injection hk with _ hk
    exact absurd hk (by decide)
  · have hm : mb < w5.heap.size := by have := h5.size; omega
    rw [Below.heap_setCell w6 ⟨mb + 1, 6, none⟩ _ mb (by show mb ≠ mb + 1; omega), hg.block mb (by simp; omega) (fun e => ?_), Below.heap_alloc w5 o mb hm]
    obtain ⟨_, inner, hown, _⟩ := hR5
    obtain ⟨cells, hc⟩ := own_typed hown mb e.symm
    obtain ⟨es, ck, hm2, _⟩ := h5.memo
    rw [hc] at hm2
    cases hm2
theorem c4f {W : World} {b t : Nat} {v0 v1 v2 v3 : Value} (h : W.heap[b]? = some (.cells #[v0, v1, v2, v3] t (0, 0))) : W.cell? ⟨b, 0, none⟩ = some v0 ∧ W.cell? ⟨b, 1, none⟩ = some v1 ∧ W.cell? ⟨b, 2, none⟩ = some v2 ∧ W.cell? ⟨b, 3, none⟩ = some v3 :=
  ⟨(blk_cell h 0).trans rfl, (blk_cell h 1).trans rfl, (blk_cell h 2).trans rfl, (blk_cell h 3).trans rfl⟩
set_option maxHeartbeats 2000000 in
set_option maxRecDepth 100000 in
theorem searchOf_calls (X : Lx) (A0 A1 A2 A3 A4 Ar : Option Addr) (c0 c1 c2 c3 c4 cr : Nat) (w : World)
    (h0 : Kd.C k53 w A0 X.l0.length X.l0) (h1 : Kd.C Kd.bool w A1 X.l1.length X.l1) (h2 : Kd.C Kd.bool w A2 X.l2.length X.l2) (h3 : Kd.C (Kd.slice 4 Kd.bool) w A3 X.l3.length X.l3) (h4 : Kd.C k47 w A4 26 X.l4) (hr : Kd.C k49 w Ar X.r.length X.r)
    (g0 : X.l0.length ≤ c0) (g1 : X.l1.length ≤ c1) (g2 : X.l2.length ≤ c2) (g3 : X.l3.length ≤ c3) (g4 : 26 ≤ c4) (gr : X.r.length ≤ cr) (hn : X.r.length ≤ 1000) (hl : ∀ i : Nat, i < X.r.length → LetS (rd_T49 X.r (i : Int)).f0 ∧ (rd_T49 X.r (i : Int)).f0.size < 4611686018427387903) :
    Calls Try.prog 50 #[.agg #[.slice A0 X.l0.length c0, .slice A1 X.l1.length c1, .slice A2 X.l2.length c2, .slice A3 X.l3.length c3, .slice A4 26 c4], .slice Ar X.r.length cr] w fun e w' =>
      ∃ S, e = .returned (.pointer (some ⟨S.b, 0, none⟩)) ∧ AW X S (X.r.map fun c => ofV c.f0) w' ∧ Below w.heap.size w w' ∧ w.heap.size ≤ S.mb ∧ w.heap.size ≤ S.b := by
  have H0 := Aside0.mk h0
  have H1 := Aside0.mk h1
  have H2 := Aside0.mk h2
  have H3 := Aside0.mk h3
  have H4 := Aside0.mk h4
  have HR := Aside0.mk hr
  have G0 := Aside0.mk g0
  have G1 := Aside0.mk g1
  have G2 := Aside0.mk g2
  have G3 := Aside0.mk g3
  have G4 := Aside0.mk g4
  have GR := Aside0.mk gr
  have HN := Aside0.mk hn
  have HL := Aside0.mk hl
  clear h0 h1 h2 h3 h4 hr g0 g1 g2 g3 g4 gr hn hl
  go_enter Try.func50, Try.ntmps50
  go_upto_region 1 with fail
  obtain ⟨bx, hbx⟩ : ∃ b, b = w.heap.size := ⟨_, rfl⟩
  refine wp_gen (fun wx => Aside0 (wx.heap[bx]? = some (.cells #[.slice A0 X.l0.length c0, .slice A1 X.l1.length c1, .slice A2 X.l2.length c2, .slice A3 X.l3.length c3, .slice A4 26 c4] 28 (0, 0))) ∧ Aside0 (Below w.heap.size w wx ∧ wx.heap.size = bx + 1)) ⟨⟨by rw [hbx]; exact blk_new w _⟩, ⟨(Below.refl _ _).alloc (Nat.le_refl _) _, by simp [hbx]⟩⟩ ?_
  rw [← hbx]
  rintro w1 ⟨HX, HB1⟩
  have HBX := Aside0.mk hbx
  clear hbx
  have x0 := (blk_cell HX.out 0).trans rfl
  have x1 := (blk_cell HX.out 1).trans rfl
  have x2 := (blk_cell HX.out 2).trans rfl
  have x3 := (blk_cell HX.out 3).trans rfl
  have x4 := (blk_cell HX.out 4).trans rfl
  have hxl := blk_lt HX.out
  have hmk := run_makeMap (P := Try.prog) 126 w1
  go_upto_region 2 with fail
  have HB2 := Aside0.mk (show Below bx w (w1.alloc (.map #[] 0)) from HB1.out.1.alloc (by have := HB1.out.2; omega) _)
  have HM2 := Aside0.mk (MemoAt.new (P := Try.prog) 139 (AliveR X) w1)
  have HZ2 := Aside0.mk (show w1.heap.size = bx + 1 from HB1.out.2)
  have HX2 := Aside0.mk (blk_alloc HX.out (.map #[] 0))
  obtain ⟨mb, hmb⟩ : ∃ b, b = w1.heap.size := ⟨_, rfl⟩
  rw [← hmb]
  rw [← hmb] at HM2 HZ2
  have HZ3 := Aside0.mk (show (w1.alloc (.map #[] 0)).heap.size = mb + 1 by simp [hmb])
  revert HB2 HM2 HX2 HZ3
  clear HX HB1 x0 x1 x2 x3 x4 hxl hmk hmb
  generalize (w1.alloc (.map #[] 0)) = w2
  rintro HB2 HX2 HM2 HZ3
  have HE := Aside0.mk (show Below w2.heap.size w2 w2 from Below.refl _ _)
  refine wp_gen (fun wx => Aside0 (wx.heap[mb + 1]? = some (.cells (srC (.slice A0 X.l0.length c0) (.slice A1 X.l1.length c1) (.slice A2 X.l2.length c2) (.slice A3 X.l3.length c3) (.slice A4 26 c4) (.slice Ar X.r.length cr) (.slice none 0 0) (List.replicate 52 (.int .i64 0)) mb).toArray 130 (0, 0))) ∧ Aside0 (Below bx w wx ∧ Below w2.heap.size w2 wx ∧ wx.heap.size = mb + 2)) ⟨⟨?_⟩, ⟨?_⟩⟩ ?_
  · rw [← HZ3.out]; exact blk_new w2 _
  · exact ⟨HB2.out.alloc (by have := HZ3.out; have := HZ2.out; omega) _, HE.out.alloc (Nat.le_refl _) _, by simp [HZ3.out]⟩
  rintro w3 ⟨HS3, HB3⟩
  obtain ⟨ad, rfl, y0, -⟩ := at_T47 H4.out 0 (by decide) (by decide)
  have hx3 := blk_below HX2.out HB3.out.2.1
  have x4 := (blk_cell hx3 4).trans rfl
  have hxl := blk_lt hx3
  have hsl := blk_lt HS3.out
  have HSRC := Aside0.mk (show ∀ j v, (widC X.l4)[j]? = some v → w3.drew.cell? (ad.add j) = some v from fun j v hv => by
    have h1 := widC_src H4.out j v hv
    exact (World.cell?_drew w3 _).trans ((HB3.out.1.cell (by rw [HBX.out]; exact World.block_lt_of_cell? w _ h1)).trans h1))
  have HW1 := Aside0.mk (show ∀ v ∈ widC X.l4, v.oneCell' = true by
    intro v hv
    unfold widC at hv
    obtain ⟨j, -, rfl⟩ := List.mem_map.1 hv
    split <;> rfl)
  clear hx3 y0
  go_region_law (refine step_copy_wide rfl (.tmp 16) (.tmp 18) 26 26 rfl 47 2 Try.underlying26 (by kernel_rfl) (mb + 1) 7 26 26 ad 26 c4 rfl rfl (srC (.slice A0 X.l0.length c0) (.slice A1 X.l1.length c1) (.slice A2 X.l2.length c2) (.slice A3 X.l3.length c3) (.slice (some ad) 26 c4) (.slice Ar X.r.length cr) (.slice none 0 0) (List.replicate 52 (.int .i64 0)) mb) 130 HS3.out (widC X.l4) (by rw [widC_len]; rfl) HSRC.out (by rw [widC_len]; exact (by decide : 7 + 52 ≤ 60)) HW1.out bx w HB3.out.1.drew (by have := HZ2.out; omega) ?_; intro w4 hs4 hb4 hk4 hz4)
  have HI := Aside0.mk (show SrI X w bx mb (.slice A0 X.l0.length c0) (.slice A1 X.l1.length c1) (.slice A2 X.l2.length c2) (.slice A3 X.l3.length c3) (.slice (some ad) 26 c4) (.slice Ar X.r.length cr) 0 w4 from
    ⟨hb4, by rw [hz4]; exact Nat.le_of_eq HB3.out.2.2.symm, ⟨_, hs4.trans (by rw [show splice (srC (.slice A0 X.l0.length c0) (.slice A1 X.l1.length c1) (.slice A2 X.l2.length c2) (.slice A3 X.l3.length c3) (.slice (some ad) 26 c4) (.slice Ar X.r.length cr) (.slice none 0 0) (List.replicate 52 (.int .i64 0)) mb) 7 (widC X.l4) = srC (.slice A0 X.l0.length c0) (.slice A1 X.l1.length c1) (.slice A2 X.l2.length c2) (.slice A3 X.l3.length c3) (.slice (some ad) 26 c4) (.slice Ar X.r.length cr) (.slice none 0 0) (widC X.l4) mb by unfold splice; rw [widC_len]; rfl]), Kd.R_nil _ _ _ _ _⟩, HM2.out.keep (by rw [hk4 mb (by omega)]; exact HB3.out.2.1.block mb (by have := HZ3.out; omega))⟩)
  clear hs4 hb4 hk4 hz4 HS3 HB3 HSRC HW1 x4 hxl hsl HX2 HM2 HE HB2 HZ3
  have HBM := Aside0.mk (show bx ≤ mb by have := HZ2.out; omega)
  go_wp2_with fail
  go_loopg [22] X.r.length (fun n s22 wr => ∃ j : Nat, j + n = X.r.length ∧ s22 = .int .i64 (j : Int) ∧ Aside0 (SrI X w bx mb (.slice A0 X.l0.length c0) (.slice A1 X.l1.length c1) (.slice A2 X.l2.length c2) (.slice A3 X.l3.length c3) (.slice (some ad) 26 c4) (.slice Ar X.r.length cr) j wr))
  case atStart => exact ⟨0, by simp, rfl, HI⟩
  case round =>
    obtain ⟨j, hj, rfl, HJ⟩ := hrel
    have HJN := Aside0.mk hj
    clear hj HI
    have hn0 : (X.r.length : Int) ≤ 1000 := by have := HN.out; omega
    by_cases hlt : j < X.r.length
    · have hjz : (j : Int) < (X.r.length : Int) := by omega
      have hjd : decide (j < X.r.length) = true := decide_eq_true hlt
      obtain ⟨ar, rfl, y0, y1, y2, y3⟩ := at_T49 (Kd.C_below HR.out (by rw [← HBX.out]; exact HJ.out.below)) (j : Int) (by omega) (by omega)
      simp only [Int.toNat_natCast] at y0 y1 y2 y3
      obtain ⟨c, hc⟩ : ∃ c, c = rd_T49 X.r (j : Int) := ⟨_, rfl⟩
      rw [← hc] at y0 y1 y2 y3
      have HTK := Aside0.mk (show (X.r.take (j + 1)).map (fun c => ofV c.f0) = (X.r.take j).map (fun c => ofV c.f0) ++ [ofV c.f0] by
        rw [List.take_add_one, List.getElem?_eq_getElem hlt, List.map_append, hc]
        simp [rd_T49, List.getD_eq_getElem?_getD, List.getElem?_eq_getElem hlt])
      obtain ⟨kk, hkk⟩ := (of_ev c.f0 (by rw [hc]; exact (HL.out j hlt).1) (by rw [hc]; exact (HL.out j hlt).2) c.f1 c.f2.f0 c.f2.f1).rounds
      have HKK := Aside0.mk hkk
      have hl4 := World.block_lt_of_cell? wr _ y0
      clear hc hkk
      go_upto_region 6 with fail
      obtain ⟨bc, hbc⟩ : ∃ b, b = wr.heap.size := ⟨_, rfl⟩
      have hvz := HJ.out.size
      refine wp_gen (fun wx => Aside0 (SrI X w bx mb (.slice A0 X.l0.length c0) (.slice A1 X.l1.length c1) (.slice A2 X.l2.length c2) (.slice A3 X.l3.length c3) (.slice (some ad) 26 c4) (.slice (some ar) X.r.length cr) j wx) ∧ Aside0 (wx.heap[bc]? = some (.cells #[.string c.f0, .bool c.f1, .int .i64 c.f2.f0, .int .i64 c.f2.f1] 49 (0, 0)))) ⟨⟨HJ.out.next ((Below.refl _ _).alloc (Nat.le_refl _) _) HBM.out⟩, ⟨by rw [hbc]; exact blk_new wr _⟩⟩ ?_
      rw [← hbc]
      clear hbc y0 y1 y2 y3 hl4 HJ hvz
      rintro wx ⟨HJ, HC⟩
      clear wr
      have y0 := (blk_cell HC.out 0).trans (show (#[.string c.f0, .bool c.f1, .int .i64 c.f2.f0, .int .i64 c.f2.f1] : Array Value)[0]? = some (Value.string c.f0) from rfl)
      have y1 := (blk_cell HC.out 1).trans (show (#[.string c.f0, .bool c.f1, .int .i64 c.f2.f0, .int .i64 c.f2.f1] : Array Value)[1]? = some (Value.bool c.f1) from rfl)
      have y2 := (blk_cell HC.out 2).trans (show (#[.string c.f0, .bool c.f1, .int .i64 c.f2.f0, .int .i64 c.f2.f1] : Array Value)[2]? = some (Value.int .i64 c.f2.f0) from rfl)
      have y3 := (blk_cell HC.out 3).trans (show (#[.string c.f0, .bool c.f1, .int .i64 c.f2.f0, .int .i64 c.f2.f1] : Array Value)[3]? = some (Value.int .i64 c.f2.f1) from rfl)
      have yl := blk_lt HC.out
      obtain ⟨v, hv, hR⟩ := HJ.out.row
      have z6 := (blk_cell hv 6).trans (show _ = some v from rfl)
      have zf := blk_frozen hv 6
      have zl := blk_lt hv
      have HV := Aside0.mk hv
      have HRW := Aside0.mk hR
      have HLP := Aside0.mk (show ((X.r.take j).map fun c => ofV c.f0).length = j by simp; omega)
      clear hv hR
      obtain ⟨pre, hpre⟩ : ∃ pre, pre = (X.r.take j).map fun c => ofV c.f0 := ⟨_, rfl⟩
      rw [← hpre] at HTK HRW HLP
      clear hpre
      have hpl := HLP.out
      have HLT := Aside0.mk hlt
      have yh : wx.drew.cell? ⟨mb + 1, 6, none⟩ = some v := z6
      go_region_law
        (first
          | (rw [if_pos (by rfl)]; go_simp; go_at_call 77; refine (gap_of.calls kk c.f0 c.f1 c.f2.f0 c.f2.f1 _ _ HKK.out).mono ?_; rintro e w5 ⟨rfl, hb5⟩; have HV5 := Aside0.mk (blk_below (show wx.drew.heap[mb + 1]? = _ from HV.out) hb5); have HC5 := Aside0.mk (blk_below (show wx.drew.heap[bc]? = _ from HC.out) hb5); have HR5 := Aside0.mk (Kd.R_below (Kd.R_drew HRW.out) hb5); have HJ5 := Aside0.mk (HJ.out.next ((Below.drew (Below.refl _ _)).trans hb5) HBM.out)
             have yq5 : w5.cell? ⟨mb + 1, 6, none⟩ = some v := (blk_cell HV5.out 6).trans rfl
             have yqa : ∀ (o : Obj), (w5.alloc o).cell? ⟨mb + 1, 6, none⟩ = some v := fun o => (blk_cell (blk_alloc HV5.out o) 6).trans rfl
             have HS5 := Aside0.mk (c4f HC5.out)
             have HSA := Aside0.mk (fun (o : Obj) => c4f (blk_alloc HC5.out o)); clear hb5)
          | (refine Kd.R_append_rows_step (Kd.int .u32) (w0 := w) (Rr := fun y cs => cs = [.int .u32 y]) bx rfl _ _ 127 104 (.int .u32 0) 4 rfl Try.underlying127 (by kernel_rfl) rfl (by decide) (by omega) v pre [ofV c.f0] (some ⟨w5.heap.size, 0, none⟩) 1 1 (fun _ => True) (fun _ => False) rfl rfl (Kd.R_alloc HR5.out _) (row_u32 (blk_cell (blk_new w5 _) 0)) ?_ (fun _ h => h.elim) (fun _ _ => trivial) (HJ5.out.below.alloc (by have := HJ5.out.size; have := HBM.out; omega) _) (by have := HJ5.out.size; have := HBM.out; simp; omega) ?_ ?_
             · exact fun x cs h => h
             · (rw [HLP.out]; have := HN.out; have := HLT.out; omega)
             intro v6 w6 hv6 hB6 hG6 hat6
             obtain ⟨A6, c6, e6⟩ := Kd.R_slice hv6
             subst e6
             have HR6 := Aside0.mk hv6
             have HB6 := Aside0.mk hB6
             have HG6 := Aside0.mk hG6
             have HV6 := Aside0.mk (show w6.heap[mb + 1]? = _ from srow_far HR5.out (blk_alloc HV5.out _) hG6)
             have HC6 := Aside0.mk (show w6.heap[bc]? = _ from srow_far HR5.out (blk_alloc HC5.out _) hG6)
             have HS6 := Aside0.mk (c4f HC6.out)
             have HNE := Aside0.mk (show bc ≠ mb + 1 from fun e => by have h1 := HC.out; rw [e, HV.out] at h1; injection h1 with h1; injection h1 with _ h1; exact absurd h1 (by decide))
             have HS7 := Aside0.mk (fun (u : Value) => c4f (blk_far HC6.out (p := ⟨mb + 1, 6, none⟩) HNE.out u))
             have yq6 : w6.cell? ⟨mb + 1, 6, none⟩ = some v := (blk_cell HV6.out 6).trans rfl
             have yf6 := blk_frozen HV6.out 6
             clear hv6 hB6 hG6 hat6))
      all_goals
        have HJ7 := Aside0.mk (show SrI X w bx mb (.slice A0 X.l0.length c0) (.slice A1 X.l1.length c1) (.slice A2 X.l2.length c2) (.slice A3 X.l3.length c3) (.slice (some ad) 26 c4) (.slice (some ar) X.r.length cr) (j + 1) (w6.setCell ⟨mb + 1, 6, none⟩ (.slice A6 (j + 1) c6)) from
          srI_step HJ5.out HR5.out HV5.out HB6.out HG6.out (by rw [HTK.out]; exact HR6.out) HBM.out (by rw [List.length_append, HLP.out]; rfl))
        go_wp2_with fail
        go_roundg (gk - 1)
        case measure => have := HJN.out; have := HLT.out; omega
        case rel => exact ⟨j + 1, by have := HJN.out; have := HLT.out; omega, by go_num, HJ7⟩
    · have hjz : ¬ (j : Int) < (X.r.length : Int) := by omega
      have hjd : decide (j < X.r.length) = false := decide_eq_false hlt
      obtain ⟨v, hv, hR⟩ := HJ.out.row
      have HV := Aside0.mk hv
      have HRW := Aside0.mk (show (Kd.int .u32).R 104 wr bx (fun _ => True) v (X.r.map fun c => ofV c.f0) by
        rw [List.take_of_length_le (by omega)] at hR
        exact hR)
      clear hv hR
      obtain ⟨Af, cf, rfl, hcf, hrf⟩ := Kd.R_reads HRW.out
      have HRF := Aside0.mk hrf
      clear hrf
      have HBB := Aside0.mk (show Below w.heap.size w wr by rw [← HBX.out]; exact HJ.out.below)
      go_wp2_with fail
      go_ret
      refine ⟨⟨mb + 1, _, mb, A0, c0, A1, c1, A2, c2, A3, c3, Ar, cr, Af, cf⟩, rfl, ⟨⟨HV.out, rfl, rfl, rfl, rfl, rfl, ?_, fun k hk => srC_get _ _ _ _ _ _ _ _ _ k hk, srC_map _ _ _ _ _ _ _ _ _, Kd.C_below H0.out HBB.out, Kd.C_below H1.out HBB.out, Kd.C_below H2.out HBB.out, Kd.C_below H3.out HBB.out, Kd.C_below HR.out HBB.out, ?_, G0.out, GR.out⟩, HJ.out.memo⟩, HBB.out, by show w.heap.size ≤ mb; have := HZ2.out; have := HBX.out; omega, by show w.heap.size ≤ mb + 1; have := HZ2.out; have := HBX.out; omega⟩
      · show some (Value.slice Af (X.r.map fun c => ofV c.f0).length cf) = _
        rw [List.length_map]
      · have h := HRF.out
        rw [List.length_map] at h
        exact h
end Go.Proofs.Ytkfebceainedfaa.P.OwnGap
namespace Go.Proofs.Ytkfebceainedfaa.P.OwnGap
open Go.RowKit Go.Shelf Go.Proofs.YtkfebceainedfaaW.PrintWords Go.Proofs.YtkfebceainedfaaW.PrintLast Go.Proofs.YtkfebceainedfaaW.PrintMore
open Go.Proofs.Ytkfebceainedfaa.OwnGap
set_option linter.unusedVariables false
set_option linter.unusedSimpArgs false
structure KM (n mb : Nat) (W W' : World) : Prop where
 os : W'.os = W.os
 tape : W'.tape = W.tape
 output : W'.output = W.output
 size : W.heap.size ≤ W'.heap.size
 block : ∀ k, k < n → k ≠ mb → W'.heap[k]? = W.heap[k]?
theorem KM.refl (n mb : Nat) (W : World) : KM n mb W W := ⟨rfl, rfl, rfl, Nat.le_refl _, fun _ _ _ => rfl⟩
theorem KM.trans {n mb : Nat} {W W' W'' : World} (h : KM n mb W W') (k : KM n mb W' W'') : KM n mb W W'' := ⟨k.os.trans h.os, k.tape.trans h.tape, k.output.trans h.output, Nat.le_trans h.size k.size, fun i h1 h2 => (k.block i h1 h2).trans (h.block i h1 h2)⟩
theorem KM.below {n mb : Nat} {W W' : World} (h : Below n W W') : KM n mb W W' := ⟨h.os, h.tape, h.output, h.size, fun k h1 _ => h.block k h1⟩
theorem KM.grown {n mb : Nat} {W W' : World} (h : W.grownBy W' (some mb)) (hn : n ≤ W.heap.size) : KM n mb W W' := ⟨h.os, h.tape, h.output, h.size, fun k h1 h2 => h.block k (Nat.lt_of_lt_of_le h1 hn) (fun e => h2 (by injection e))⟩
theorem KM.mono {n n' mb : Nat} {W W' : World} (h : KM n mb W W') (hn : n' ≤ n) : KM n' mb W W' := ⟨h.os, h.tape, h.output, h.size, fun k h1 h2 => h.block k (Nat.lt_of_lt_of_le h1 hn) h2⟩
theorem KM.grownBy {mb : Nat} {W W' : World} (h : KM W.heap.size mb W W') : W.grownBy W' (some mb) := ⟨h.os, h.tape, h.output, h.size, fun k h1 h2 => h.block k h1 (fun e => h2 (by rw [e]))⟩
theorem R_memo {W W' : World} {n1 mb : Nat} {v : Value} {l : List Pth} (h : kP.R 154 W n1 (fun _ => True) v l) (hg : W.grownBy W' (some mb)) (hm : mb < n1) : kP.R 154 W' n1 (fun _ => True) v l :=
 Kd.R_mono (Kd.R_grown (Kd.R_bound h) hg (fun k hk e => by have := hk.2.1; injection e; omega)) (fun _ _ => trivial)
theorem R_tail {W : World} {n1 g n cap : Nat} {l : List Pth} (h : kP.R 154 W n1 (fun _ => True) (.slice (some ⟨g, 0, none⟩) n cap) l) (o : Nat) (seg : List Value) (ho : n * 8 ≤ o) (hs : o + seg.length ≤ cap * 8) :
  kP.R 154 (W.setCells g o seg) n1 (fun _ => True) (.slice (some ⟨g, 0, none⟩) n cap) l ∧ Below n1 W (W.setCells g o seg) := by
 obtain ⟨hn, hnc, _⟩ := Kd.R_reads' h
 obtain ⟨hok, inner, how, hr⟩ := h
 obtain ⟨ho1, ho2⟩ := how
 rcases ho2 with ⟨hv, _⟩ | ⟨g', cap', cur, hv, hb, hh, hnc', hcm, hcs, ht⟩
 ·cases hv
 injection hv with ha _ hc
 injection ha with ha
 injection ha with hg
 subst hg; subst hc
 have hcs' : cur.size = cap * 8 := hcs
 obtain ⟨cur', h3, h4, h5⟩ := setCells_row seg o W cur hh (by omega)
 obtain ⟨s1, s2, s3, s4⟩ := setCells_same g seg o W
 refine ⟨⟨hok, inner, ⟨ho1, .inr ⟨g, cap, cur', by rw [hn], hb, h3, by rw [← hn]; exact hnc, hcm, by rw [h4]; exact hcs, ?_⟩⟩, hr.1, fun m p hm => ?_⟩, ⟨s1, s2, s3, by rw [s4]; exact Nat.le_refl _, fun k hk => setCells_far seg _ k (by omega)⟩⟩
 ·rw [h5, ← ht]
  have hz : kP.sz = 8 := rfl
  have hlen : (cur.toList.take o).length = o := by rw [List.length_take, Array.length_toList, hcs']; omega
  rw [hz, List.append_assoc, List.take_append_of_le_length (by rw [hlen, ← hn]; exact ho), List.take_take, Nat.min_eq_left (by rw [← hn]; exact ho)]
 ·exact kP.M_step (hr.2 m p hm) (fun k hk _ => setCells_far seg _ k (fun e => hk.2 (by rw [e]; rfl)))
def z8 : Value := .agg #[.int .i64 0, .int .i64 0, .int .i64 0, .int .i64 0, .int .i64 0, .int .i64 0, .int .i64 0, .int .i64 0]
def zs8 (n : Nat) : List Value := (Builtin.zeroCells z8.cells n).toList
theorem zs8_length (n : Nat) : (zs8 n).length = n * 8 := by
 unfold zs8 Builtin.zeroCells
 rw [Array.length_toList, Array.size_map, Array.size_range]
 rfl
theorem zs8_one (n : Nat) : ∀ v ∈ zs8 n, v.oneCell' = true := by
 intro v hv
 unfold zs8 Builtin.zeroCells at hv
 rw [Array.mem_toList_iff, Array.mem_map] at hv
 obtain ⟨i, _, rfl⟩ := hv
 have h : i % z8.cells.size < 8 := Nat.mod_lt _ (by decide)
 have : ∀ j, j < 8 → (z8.cells[j]!).oneCell' = true := by decide
 exact this _ h
theorem run_clear_z (W : World) (t e ty : TypeId) (z : Value) (zs : List Value) (n : Nat) (hzs : (Builtin.zeroCells z.cells n).toList = zs) (h1 : ∀ v ∈ zs, v.oneCell' = true) (ht : Try.prog.underlying t = some (.slice e)) (hv : ∀ w, (zeroValue e).run Try.prog w = .ok z w) (b o c : Nat) (hn : 0 < n)
  (hc : ∀ j, j < zs.length → (W.cell? ⟨b, o + j, none⟩).isSome = true) (hf : ∀ j, j < zs.length → W.frozen? ⟨b, o + j, none⟩ = false) :
  (Builtin.clear_ #[t] ty #[.slice (some ⟨b, o, none⟩) n c]).run Try.prog W = .ok (.tuple #[]) (W.setCells b o zs) := by
 have hst := run_storeCells_cells (P := Try.prog) b o zs 0 W (by simpa using hc) (by simpa using hf) h1
 simp only [Nat.add_zero] at hst
 obtain ⟨m, rfl⟩ : ∃ m, n = m + 1 := ⟨n - 1, by omega⟩
 simp [Builtin.clear_, run_underlying ht, Sem.run_bind, Result.andThen, hv, hzs, hst]
theorem run_clear8 (W : World) (t e ty : TypeId) (ht : Try.prog.underlying t = some (.slice e)) (hv : ∀ w, (zeroValue e).run Try.prog w = .ok z8 w) (b o n c : Nat) (hn : 0 < n)
  (hc : ∀ j, j < n * 8 → (W.cell? ⟨b, o + j, none⟩).isSome = true) (hf : ∀ j, j < n * 8 → W.frozen? ⟨b, o + j, none⟩ = false) :
  (Builtin.clear_ #[t] ty #[.slice (some ⟨b, o, none⟩) n c]).run Try.prog W = .ok (.tuple #[]) (W.setCells b o (zs8 n)) :=
 run_clear_z W t e ty z8 (zs8 n) n rfl (zs8_one n) ht hv b o c hn (by rw [zs8_length]; exact hc) (by rw [zs8_length]; exact hf)
theorem R_put8 {W : World} {n1 g n cap : Nat} {l : List Pth} (h : kP.R 154 W n1 (fun _ => True) (.slice (some ⟨g, 0, none⟩) n cap) l) (i : Nat) (hi : i < n) (p : Pth) :
  kP.R 154 (W.setCells g (i * 8) (pL p)) n1 (fun _ => True) (.slice (some ⟨g, 0, none⟩) n cap) (l.set i p) ∧ Below n1 W (W.setCells g (i * 8) (pL p)) := by
 obtain ⟨c, hcl, _, hcc, _⟩ := Kd.R_elem h zP (i : Int) (by omega) (by omega)
 have hcl8 : c.length = 8 := hcl
 have h2 := Kd.R_seg (j := 0) (seg := pL p) (x' := p) (okp := fun k => True ∧ k ≠ g) h (i : Int) (by omega) (by omega) hcl hcc (Nat.le_refl 8) (by
  rw [List.take_zero, List.nil_append, List.drop_of_length_le (by rw [hcl8]; exact Nat.le_refl _), List.append_nil]
  exact kP_mkM W n1 _ p) (fun k hk => ⟨trivial, hk.2⟩)
 rw [show (i : Int).toNat * kP.sz + 0 = i * 8 by rw [Int.toNat_natCast]; rfl, Int.toNat_natCast] at h2
 have hb := Kd.R_base h g rfl
 obtain ⟨s1, s2, s3, s4⟩ := setCells_same g (pL p) (i * 8) W
 exact ⟨h2.1, ⟨s1, s2, s3, by rw [s4]; exact Nat.le_refl _, fun k hk => setCells_far (pL p) _ k (by omega)⟩⟩
theorem R_get8 {W : World} {n1 g n cap : Nat} {l : List Pth} (h : kP.R 154 W n1 (fun _ => True) (.slice (some ⟨g, 0, none⟩) n cap) l) (i : Nat) (hi : i < n) :
  (W.cell? ⟨g, i * 8, none⟩ = some (.int .i64 ((l.getD i zP).i : Int)) ∧ W.cell? ⟨g, i * 8 + 1, none⟩ = some (.int .i64 ((l.getD i zP).m : Int)) ∧ W.cell? ⟨g, i * 8 + 2, none⟩ = some (.int .i64 (l.getD i zP).l) ∧ W.cell? ⟨g, i * 8 + 3, none⟩ = some (.int .i64 (l.getD i zP).h) ∧ W.cell? ⟨g, i * 8 + 4, none⟩ = some (.int .i64 (fG (l.getD i zP).fs 0)) ∧ W.cell? ⟨g, i * 8 + 5, none⟩ = some (.int .i64 (fG (l.getD i zP).fs 1)) ∧ W.cell? ⟨g, i * 8 + 6, none⟩ = some (.int .i64 (fG (l.getD i zP).fs 2)) ∧ W.cell? ⟨g, i * 8 + 7, none⟩ = some (.int .i64 ((l.getD i zP).fs.length : Int))) ∧ ∀ j, W.frozen? ⟨g, i * 8 + j, none⟩ = false := by
 obtain ⟨c, hcl, hM, hcc, hf⟩ := Kd.R_elem h zP (i : Int) (by omega) (by omega)
 obtain rfl := kP_openM hM
 rw [Int.toNat_natCast] at hcc hf
 have hz : kP.sz = 8 := rfl
 rw [hz] at hcc hf
 exact ⟨⟨hcc 0 _ rfl, hcc 1 _ rfl, hcc 2 _ rfl, hcc 3 _ rfl, hcc 4 _ rfl, hcc 5 _ rfl, hcc 6 _ rfl, hcc 7 _ rfl⟩, hf⟩
def PredK (g : Nat) (lb : Array Value) (V : Pth → Bool) (I : World → Prop) (mb : Nat) (l : List Pth) : Prop :=
 ∀ q ∈ l, ∀ W, I W → Calls Try.prog g (#[.agg (pC q)] ++ lb) W fun e W' => e = .returned (.bool (V q)) ∧ I W' ∧ W.grownBy W' (some mb)
end Go.Proofs.Ytkfebceainedfaa.P.OwnGap
namespace Go.Proofs.Ytkfebceainedfaa.P.OwnGap
open Go.RowKit Go.Shelf Go.Proofs.YtkfebceainedfaaW.PrintWords Go.Proofs.YtkfebceainedfaaW.PrintLast Go.Proofs.YtkfebceainedfaaW.PrintMore
open Go.Proofs.Ytkfebceainedfaa.OwnGap
set_option linter.unusedVariables false
set_option linter.unusedSimpArgs false
theorem kI_new (W : World) : kI.R 3 (W.alloc (.cells #[] 3)) W.heap.size (fun _ => True) (.slice (some ⟨W.heap.size, 0, none⟩) 0 0) [] :=
 ⟨fun _ _ => trivial, [], World.ownsRow_made W #[] 0 (Nat.le_refl _) (Nat.zero_le _) (by rfl), ⟨rfl, fun j p h => by simp at h⟩⟩
set_option maxHeartbeats 2000000 in
set_option maxRecDepth 100000 in
theorem clone_calls (A : Option Addr) (c : Nat) (xs : List Int) (w : World) (h : Kd.C kI w A xs.length xs) (hn : xs.length ≤ 1000000) :
  Calls Try.prog 98 #[.slice A xs.length c] w fun e w' => ∃ v, e = .returned v ∧ kI.R 3 w' w.heap.size (fun _ => True) v xs ∧ Below w.heap.size w w' := by
 have H := Aside0.mk h
 clear h
 have q22 : ∀ (w : World) (a : Option Addr) (n c n' c' : Nat), (binOp .eql 22 (.slice a n c) (.slice none n' c')).run Try.prog w = .ok (.bool a.isNone) w := fun w a n c n' c' => Lib.run_eql_slice_nil w _ _ a n c n' c' Try.underlying22
 cases A with
 | none =>
  have HX := Aside0.mk (show xs = [] by
   rcases Nat.eq_zero_or_pos xs.length with h0 | h0
   ·exact List.eq_nil_of_length_eq_zero h0
   ·obtain ⟨ad, e, _⟩ := H.out.2.2 h0
    cases e)
  go_enter Try.func98, Try.ntmps98
  go_wp2
  go_ret
  exact ⟨_, rfl, by rw [HX.out]; exact Kd.R_nil _ _ _ _ _, Below.refl _ _⟩
 | some ad =>
  have HN := Aside0.mk (kI_new w)
  go_enter Try.func98, Try.ntmps98
  go_wp2_with (at_builtin; refine Kd.R_append_rows kI (w0 := w) (Rr := fun x cs => kI.K w x cs) w.heap.size rfl _ _ 22 3 (.int .i64 0) 8 rfl Try.underlying22 (by kernel_rfl) rfl (by decide) (by omega) (.slice (some ⟨w.heap.size, 0, none⟩) 0 0) [] xs (some ad) xs.length c (fun _ => True) (fun _ => False) rfl rfl HN.out (H.out.imp_ ((Below.refl _ _).alloc (Nat.le_refl _) _) (fun _ _ h => h)) ?ckm (fun _ h => h.elim) (fun _ _ => trivial) ((Below.refl _ _).alloc (Nat.le_refl _) _) (by simp) ?clen ?_; (case ckm => exact fun x cs h => h); (case clen => (simp only [List.length_nil]; omega)); intro v1 w1 hR hB hG hat; have HR := Aside0.mk hR; have HB := Aside0.mk hB; clear hR hB hG hat)
  go_ret
  exact ⟨_, rfl, HR.out, HB.out⟩
structure C10 (X : Lx) (S : SV) (fits : List Int) (bs bv bw : Nat) (A : Option Addr) (n c : Nat) (x : S53) (W : World) : Prop where
 aw : AW X S fits W
 hs : W.heap[bs]? = some (.cells #[.pointer (some ⟨S.b, 0, none⟩)] 92 (0, 0))
 hv : W.heap[bv]? = some (.cells #[.slice A n c] 22 (0, 0))
 hw : W.heap[bw]? = some (.cells #[.string x.f0, .int .i64 x.f1] 53 (0, 0))
theorem C10.below {X : Lx} {S : SV} {fits : List Int} {bs bv bw : Nat} {A : Option Addr} {n c : Nat} {x : S53} {W W' : World} {n1 : Nat} (h : C10 X S fits bs bv bw A n c x W) (hb : Below W.heap.size W W') : C10 X S fits bs bv bw A n c x W' :=
 ⟨h.aw.below hb, blk_below h.hs hb, blk_below h.hv hb, blk_below h.hw hb⟩
theorem C10.grown {X : Lx} {S : SV} {fits : List Int} {bs bv bw : Nat} {A : Option Addr} {n c : Nat} {x : S53} {W W' : World} (h : C10 X S fits bs bv bw A n c x W) (hg : W.grownBy W' (some S.mb)) (ha : AW X S fits W') : C10 X S fits bs bv bw A n c x W' :=
 ⟨ha, h.aw.keep hg h.hs, h.aw.keep hg h.hv, h.aw.keep hg h.hw⟩
end Go.Proofs.Ytkfebceainedfaa.P.OwnGap
namespace Go.Proofs.Ytkfebceainedfaa.P.OwnGap
open Go.RowKit Go.Shelf Go.Proofs.YtkfebceainedfaaW.PrintWords Go.Proofs.YtkfebceainedfaaW.PrintLast Go.Proofs.YtkfebceainedfaaW.PrintMore
open Go.Proofs.Ytkfebceainedfaa.OwnGap
set_option linter.unusedVariables false
set_option linter.unusedSimpArgs false
theorem filter_take_succ (V : Pth → Bool) (l : List Pth) (j : Nat) (hj : j < l.length) : (l.take (j + 1)).filter V = (l.take j).filter V ++ (if V (l.getD j zP) = true then [l.getD j zP] else []) := by
 rw [List.take_add_one, List.filter_append, List.getElem?_eq_getElem hj, List.getD_eq_getElem?_getD, List.getElem?_eq_getElem hj]
 simp only [Option.toList, Option.getD_some, List.filter_cons, List.filter_nil]
structure Kept (V : Pth → Bool) (l lr : List Pth) (i j : Nat) : Prop where
 lt : i < j
 le : j ≤ l.length
 len : lr.length = l.length
 low : lr.take i = (l.take j).filter (fun p => !V p)
 high : ∀ m, j ≤ m → lr.getD m zP = l.getD m zP
theorem Kept.start {V : Pth → Bool} {l : List Pth} {k : Nat} (hk : k < l.length) (h : V (l.getD k zP) = true) (h0 : ∀ j, j < k → V (l.getD j zP) = false) : Kept V l l k (k + 1) := by
 refine ⟨Nat.lt_succ_self _, hk, rfl, ?_, fun _ _ => rfl⟩
 rw [filter_take_succ _ _ _ hk, if_neg (by rw [h]; decide), List.append_nil, List.filter_eq_self.2]
 intro p hp
 obtain ⟨j, hj, rfl⟩ := List.mem_iff_getElem.1 hp
 rw [List.length_take] at hj
 have h1 := h0 j (by omega)
 rw [List.getD_eq_getElem?_getD, List.getElem?_eq_getElem (by omega)] at h1
 rw [List.getElem_take]
 simpa using h1
theorem Kept.skip {V : Pth → Bool} {l lr : List Pth} {i j : Nat} (h : Kept V l lr i j) (hj : j < l.length) (hv : V (l.getD j zP) = true) : Kept V l lr i (j + 1) :=
 ⟨by have := h.lt; omega, hj, h.len, by rw [filter_take_succ _ _ _ hj, if_neg (by rw [hv]; decide), List.append_nil]; exact h.low, fun m hm => h.high m (by omega)⟩
theorem Kept.put {V : Pth → Bool} {l lr : List Pth} {i j : Nat} (h : Kept V l lr i j) (hj : j < l.length) (hv : V (l.getD j zP) = false) : Kept V l (lr.set i (l.getD j zP)) (i + 1) (j + 1) := by
 have hi : i < lr.length := by have := h.lt; have := h.len; omega
 refine ⟨by have := h.lt; omega, hj, by rw [List.length_set]; exact h.len, ?_, fun m hm => ?_⟩
 ·rw [filter_take_succ _ _ _ hj, if_pos (by rw [hv]; rfl), List.take_add_one, List.getElem?_set_self hi, List.take_set_of_le (Nat.le_refl _), h.low]
  rfl
 ·rw [← h.high m (by omega), List.getD_eq_getElem?_getD, List.getElem?_set_ne (by have := h.lt; omega), ← List.getD_eq_getElem?_getD]
set_option maxHeartbeats 4000000 in
set_option maxRecDepth 100000 in
theorem delete_calls (g : Nat) (lb : Array Value) (eg : ∀ args w, (callFunc g args).run Try.prog w = .ok (.enter g args) w) (V : Pth → Bool) (I : World → Prop) (n1 mb : Nat) (hmb : mb < n1) (hIB : ∀ W W', I W → Below n1 W W' → I W') (v : Value) (l : List Pth) (hl : l.length ≤ 1000000000) (w : World) (hn1 : n1 ≤ w.heap.size) (hI : I w) (hrow : kP.R 154 w n1 (fun _ => True) v l) (hp : PredK g lb V I mb l) :
  Calls Try.prog 100 #[v, .func (.func g) #[] lb] w fun e w' => ∃ v', e = .returned v' ∧ kP.R 154 w' n1 (fun _ => True) v' (l.filter fun p => !V p) ∧ I w' ∧ KM n1 mb w w' := by
 obtain ⟨A, c, rfl, hlc, hC⟩ := Kd.R_reads hrow
 have HIB := Aside0.mk hIB
 have HROW := Aside0.mk hrow
 have HP := Aside0.mk hp
 have HIX := Aside0.mk (index_calls g lb eg V (fun W => I W ∧ kP.R 154 W n1 (fun _ => True) (.slice A l.length c) l ∧ KM n1 mb w W ∧ n1 ≤ W.heap.size) A c l hl w ⟨hI, hrow, KM.refl _ _ _, hn1⟩
  (fun W hW => (Kd.R_reads' hW.2.1).2.2) (fun q hq W hW => (hp q hq W hW.1).mono (fun e W' h => ⟨h.1, h.2.1, R_memo hW.2.1 h.2.2 hmb, hW.2.2.1.trans (KM.grown h.2.2 hW.2.2.2), Nat.le_trans hW.2.2.2 h.2.2.size⟩)))
 have hcs := idxV_cases V l
 obtain ⟨x, hx⟩ : ∃ x, x = idxV V l := ⟨_, rfl⟩
 rw [← hx] at HIX hcs
 clear hx hIB hI hrow hp hC
 rcases hcs with ⟨rfl, hall⟩ | ⟨k0, rfl, hk0, hv0, hall⟩
 ·have HF := Aside0.mk (show (l.filter fun p => !V p) = l by rw [List.filter_eq_self]; intro p hp; rw [hall p hp]; rfl)
  clear hall
  go_enter Try.func100, Try.ntmps100
  go_wp2_with (go_at_call 107; refine HIX.out.mono ?_; rintro e w2 ⟨rfl, hw2⟩; have HW2 := Aside0.mk hw2; clear hw2)
  go_ret
  exact ⟨_, rfl, by rw [HF.out]; exact HW2.out.2.1, HW2.out.1, HW2.out.2.2.1⟩
 ·have HK0 := Aside0.mk (Kept.start hk0 hv0 hall)
  have hne : ((k0 : Int) == -1) = false := beq_eq_false_iff_ne.2 (by omega)
  obtain ⟨gb, cap, hAe, hgb, -, -⟩ := Kd.R_form HROW.out (by omega)
  injection hAe with hAe _ hce
  subst hAe
  subst hce
  have hk9 : (k0 : Int) ≤ 1000000000 := by omega
  have HLC := Aside0.mk hlc
  clear hv0 hall hlc HROW
  go_enter Try.func100, Try.ntmps100
  go_wp2_with (go_at_call 107; refine HIX.out.mono ?_; rintro e w2 ⟨rfl, hw2⟩; have HW2 := Aside0.mk hw2; clear hw2)
  go_loopg [5, 6] l.length (fun k s5 s6 wr => ∃ (i j : Nat) (lr : List Pth), l.length - j ≤ k ∧ s5 = .int .i64 (i : Int) ∧ s6 = .int .i64 (j : Int) ∧ Aside0 (Kept V l lr i j) ∧ Aside0 (I wr ∧ kP.R 154 wr n1 (fun _ => True) (.slice (some ⟨gb, 0, none⟩) l.length c) lr ∧ KM n1 mb w wr ∧ n1 ≤ wr.heap.size))
  case atStart => exact ⟨k0, k0 + 1, l, by omega, rfl, by go_num, HK0, HW2⟩
  case round =>
   obtain ⟨i, j, lr, hjk, rfl, rfl, HK, HR⟩ := hrel
   clear HW2 HK0
   have HJK := Aside0.mk hjk
   clear hjk
   have hij := HK.out.lt
   have hjl := HK.out.le
   by_cases hj : j < l.length
   ·have hjz : (j : Int) < (l.length : Int) := by omega
    obtain ⟨⟨e0, e1, e2, e3, e4, e5, e6, e7⟩, -⟩ := R_get8 HR.out.2.1 j hj
    obtain ⟨q, hq⟩ : ∃ q, q = l.getD j zP := ⟨_, rfl⟩
    rw [HK.out.high j (Nat.le_refl _), ← hq] at e0 e1 e2 e3 e4 e5 e6 e7
    have hqm : q ∈ l := by
     rw [hq, List.getD_eq_getElem?_getD, List.getElem?_eq_getElem hj]
     exact List.getElem_mem hj
    have HC := Aside0.mk (fun W h => HP.out q hqm W h)
    have HQ := Aside0.mk hq
    have hgl := World.block_lt_of_cell? wr _ e0
    clear hq hqm
    go_upto_region 8 with fail
    obtain ⟨b7, hb7⟩ : ∃ b, b = wr.heap.size := ⟨_, rfl⟩
    refine wp_gen (fun wx => Aside0 (I wx ∧ kP.R 154 wx n1 (fun _ => True) (.slice (some ⟨gb, 0, none⟩) l.length c) lr ∧ KM n1 mb w wx ∧ n1 ≤ wx.heap.size) ∧ Aside0 (PAt wx b7 q) ∧ n1 ≤ b7) ?_ ?_
    ·obtain ⟨r1, r2, r3, r4⟩ := HR.out
     have hb : Below n1 wr (wr.alloc (.cells (pC q) 154)) := (Below.refl _ _).alloc r4 _
     exact ⟨⟨HIB.out _ _ r1 hb, Kd.R_alloc r2 _, r3.trans (KM.below hb), Nat.le_trans r4 hb.size⟩, ⟨by rw [hb7]; exact blk_new wr _⟩, by rw [hb7]; exact r4⟩
    rw [← hb7]
    clear hb7 HR e0 e1 e2 e3 e4 e5 e6 e7 hgl
    rintro wx ⟨HR, H7, hb7⟩
    clear wr
    obtain ⟨f0, f1, f2, f3, f4, f5, f6, f7⟩ := H7.out.cells
    have hl7 := blk_lt H7.out
    have HCX := Aside0.mk (HC.out wx HR.out.1)
    obtain ⟨vq, hvq⟩ : ∃ vq, vq = V q := ⟨_, rfl⟩
    rw [← hvq] at HCX
    have HV := Aside0.mk hvq
    have HJ := Aside0.mk hj
    clear hvq
    cases vq with
    | true =>
     go_wp2_with (go_at_fn g; refine HCX.out.mono ?_; rintro e w2 ⟨rfl, hI2, hG2⟩; have HR2 := Aside0.mk (show I w2 ∧ kP.R 154 w2 n1 (fun _ => True) (.slice (some ⟨gb, 0, none⟩) l.length c) lr ∧ KM n1 mb w w2 ∧ n1 ≤ w2.heap.size from ⟨hI2, R_memo HR.out.2.1 hG2 hmb, HR.out.2.2.1.trans (KM.grown hG2 HR.out.2.2.2), Nat.le_trans HR.out.2.2.2 hG2.size⟩); clear hI2 hG2)
     go_roundg (gk - 1)
     case measure => have := HJK.out; have := HJ.out; omega
     case rel => exact ⟨i, j + 1, lr, by have := HJK.out; have := HJ.out; omega, rfl, by go_num, ⟨HK.out.skip HJ.out (by rw [← HQ.out]; exact HV.out.symm)⟩, HR2⟩
    | false =>
     go_upto_region 9 with (go_at_fn g; refine HCX.out.mono ?_; rintro e w2 ⟨rfl, hI2, hG2⟩; have HR2 := Aside0.mk (show I w2 ∧ kP.R 154 w2 n1 (fun _ => True) (.slice (some ⟨gb, 0, none⟩) l.length c) lr ∧ KM n1 mb w w2 ∧ n1 ≤ w2.heap.size from ⟨hI2, R_memo HR.out.2.1 hG2 hmb, HR.out.2.2.1.trans (KM.grown hG2 HR.out.2.2.2), Nat.le_trans HR.out.2.2.2 hG2.size⟩); have H72 := Aside0.mk (show w2.heap[b7]? = some (.cells #[_, _, _, _, _, _, _, _] 154 (0, 0)) from (hG2.block b7 hl7 (fun e => by injection e; omega)).trans H7.out); clear hI2 hG2)
     clear f0 f1 f2 f3 f4 f5 f6 f7 hl7
     obtain ⟨⟨f0, f1, f2, f3, f4, f5, f6, f7⟩, -⟩ := cells8 H72.out
     have hl7 := blk_lt H72.out
     have hil : i < l.length := by omega
     have hiz : (i : Int) < (l.length : Int) := by omega
     obtain ⟨⟨e0, e1, e2, e3, e4, e5, e6, e7⟩, hfz⟩ := R_get8 HR2.out.2.1 i hil
     have g0 := hfz 0
     have g1 := hfz 1
     have g2 := hfz 2
     have g3 := hfz 3
     have g4 := hfz 4
     have g5 := hfz 5
     have g6 := hfz 6
     have g7 := hfz 7
     simp only [Nat.add_zero] at g0
     have hgl := World.block_lt_of_cell? w2 _ e0
     have HPUT := Aside0.mk (R_put8 HR2.out.2.1 i hil q)
     clear hfz
     go_wp2_with fail
     go_roundg (gk - 1)
     case measure => have := HJK.out; have := HJ.out; omega
     case rel =>
      refine ⟨i + 1, j + 1, lr.set i q, by have := HJK.out; have := HJ.out; omega, by go_num, by go_num, ⟨?_⟩, ⟨HIB.out _ _ HR2.out.1 HPUT.out.2, HPUT.out.1, HR2.out.2.2.1.trans (KM.below HPUT.out.2), Nat.le_trans HR2.out.2.2.2 HPUT.out.2.size⟩⟩
      rw [HQ.out]
      exact HK.out.put HJ.out (by rw [← HQ.out]; exact HV.out.symm)
   ·have hjz : ¬ (j : Int) < (l.length : Int) := by omega
    have hje : j = l.length := by omega
    have HJE := Aside0.mk hje
    have hil : i < l.length := by omega
    have hcell : ∀ q, q < (l.length - i) * 8 → (wr.cell? ⟨gb, i * 8 + q, none⟩).isSome = true ∧ wr.frozen? ⟨gb, i * 8 + q, none⟩ = false := by
     intro q hq
     obtain ⟨⟨e0, e1, e2, e3, e4, e5, e6, e7⟩, hfz⟩ := R_get8 HR.out.2.1 (i + q / 8) (by omega)
     have hq8 : q % 8 < 8 := Nat.mod_lt _ (by omega)
     have hqe : i * 8 + q = (i + q / 8) * 8 + q % 8 := by omega
     rw [hqe]
     refine ⟨?_, hfz _⟩
     generalize q % 8 = r at hq8
     rcases (by omega : r = 0 ∨ r = 1 ∨ r = 2 ∨ r = 3 ∨ r = 4 ∨ r = 5 ∨ r = 6 ∨ r = 7) with rfl | rfl | rfl | rfl | rfl | rfl | rfl | rfl
     ·rw [Nat.add_zero, e0]; rfl
     ·rw [e1]; rfl
     ·rw [e2]; rfl
     ·rw [e3]; rfl
     ·rw [e4]; rfl
     ·rw [e5]; rfl
     ·rw [e6]; rfl
     ·rw [e7]; rfl
    have hcl : ∀ ty, (Builtin.clear_ #[157] ty #[.slice (some ⟨gb, i * 8, none⟩) (l.length - i) (c - i)]).run Try.prog wr = .ok (.tuple #[]) (wr.setCells gb (i * 8) (zs8 (l.length - i))) :=
     fun ty => run_clear8 wr 157 154 ty Try.underlying157 (fun w => by kernel_rfl) gb (i * 8) (l.length - i) (c - i) (by omega) (fun q hq => (hcell q hq).1) (fun q hq => (hcell q hq).2)
    have hlc := HLC.out
    have HT := Aside0.mk (R_tail (Kd.R_take HR.out.2.1 (show i ≤ lr.length by rw [HK.out.len]; omega)) (i * 8) (zs8 (l.length - i)) (Nat.le_refl _) (by rw [zs8_length]; omega))
    have hci : ¬ c = i := by omega
    have hilz : (i : Int) ≤ (l.length : Int) := by omega
    have hcz : (i : Int) ≤ (c : Int) := by omega
    have HLOW := Aside0.mk (show lr.take i = l.filter fun p => !V p by rw [HK.out.low, List.take_of_length_le (by omega)])
    clear hcell hje
    go_wp2_with fail
    go_ret
    exact ⟨_, rfl, by rw [← HLOW.out]; exact HT.out.1, HIB.out _ _ HR.out.1 HT.out.2, HR.out.2.2.1.trans (KM.below HT.out.2)⟩
end Go.Proofs.Ytkfebceainedfaa.P.OwnGap
namespace Go.Proofs.Ytkfebceainedfaa.P.OwnGap
open Go.RowKit Go.Shelf Go.Proofs.YtkfebceainedfaaW.PrintWords Go.Proofs.YtkfebceainedfaaW.PrintLast Go.Proofs.YtkfebceainedfaaW.PrintMore
open Go.Proofs.Ytkfebceainedfaa.OwnGap
set_option linter.unusedVariables false
set_option linter.unusedSimpArgs false
def stC (p : Pth) (k f : Int) : Array Value := #[.int .i64 (p.i : Int), .int .i64 (p.m : Int), .int .i64 p.l, .int .i64 p.h, .int .i64 k, .int .i64 f]
def StAt (W : World) (b : Nat) (p : Pth) (k f : Int) : Prop := W.heap[b]? = some (.cells (stC p k f) 139 (0, 0))
theorem StAt.cells {W : World} {b : Nat} {p : Pth} {k f : Int} (h : StAt W b p k f) : W.cell? ⟨b, 0, none⟩ = some (.int .i64 (p.i : Int)) ∧ W.cell? ⟨b, 1, none⟩ = some (.int .i64 (p.m : Int)) ∧ W.cell? ⟨b, 2, none⟩ = some (.int .i64 p.l) ∧ W.cell? ⟨b, 3, none⟩ = some (.int .i64 p.h) ∧ W.cell? ⟨b, 4, none⟩ = some (.int .i64 k) ∧ W.cell? ⟨b, 5, none⟩ = some (.int .i64 f) :=
 ⟨(blk_cell h 0).trans rfl, (blk_cell h 1).trans rfl, (blk_cell h 2).trans rfl, (blk_cell h 3).trans rfl, (blk_cell h 4).trans rfl, (blk_cell h 5).trans rfl⟩
def SpAt (W : World) (b : Nat) (S : SV) : Prop := W.heap[b]? = some (.cells #[.pointer (some ⟨S.b, 0, none⟩)] 92 (0, 0))
theorem SpAt.cell {W : World} {b : Nat} {S : SV} (h : SpAt W b S) : W.cell? ⟨b, 0, none⟩ = some (.pointer (some ⟨S.b, 0, none⟩)) := (blk_cell h 0).trans rfl
def WdAt (W : World) (b : Nat) (x : S53) : Prop := W.heap[b]? = some (.cells #[.string x.f0, .int .i64 x.f1] 53 (0, 0))
theorem WdAt.cells {W : World} {b : Nat} {x : S53} (h : WdAt W b x) : W.cell? ⟨b, 0, none⟩ = some (.string x.f0) ∧ W.cell? ⟨b, 1, none⟩ = some (.int .i64 x.f1) := ⟨(blk_cell h 0).trans rfl, (blk_cell h 1).trans rfl⟩
structure C9 (X : Lx) (S : SV) (fits : List Int) (bs bx bw : Nat) (p : Pth) (k f : Int) (x : S53) (W : World) : Prop where
 aw : AW X S fits W
 hs : SpAt W bs S
 hx : StAt W bx p k f
 hw : WdAt W bw x
theorem C9.below {X : Lx} {S : SV} {fits : List Int} {bs bx bw : Nat} {p : Pth} {k f : Int} {x : S53} {W W' : World} (h : C9 X S fits bs bx bw p k f x W) (hb : Below W.heap.size W W') : C9 X S fits bs bx bw p k f x W' :=
 ⟨h.aw.below hb, blk_below h.hs hb, blk_below h.hx hb, blk_below h.hw hb⟩
theorem C9.grown {X : Lx} {S : SV} {fits : List Int} {bs bx bw : Nat} {p : Pth} {k f : Int} {x : S53} {W W' : World} (h : C9 X S fits bs bx bw p k f x W) (hg : W.grownBy W' (some S.mb)) (ha : AW X S fits W') : C9 X S fits bs bx bw p k f x W' :=
 ⟨ha, h.aw.keep hg h.hs, h.aw.keep hg h.hx, h.aw.keep hg h.hw⟩
def Rec (X : Lx) (S : SV) (fits : List Int) (k : Nat) (kz : Int) : Prop := ∀ (q : Pth) (f : Int), 0 ≤ f → f < X.l1.length → OkP X (spotP q) → ∀ W, AW X S fits W →
 Calls Try.prog 102 #[.pointer (some ⟨S.b, 0, none⟩), .agg (stC q kz f)] W fun e W' => e = .returned (.bool (aliveV X q k f)) ∧ AW X S fits W' ∧ W.grownBy W' (some S.mb)
set_option maxHeartbeats 1000000 in
set_option maxRecDepth 100000 in
theorem fun109_calls (X : Lx) (S : SV) (fits : List Int) (bs bx bw : Nat) (p : Pth) (k : Nat) (f : Int) (hk : k ≤ 8) (x : S53) (hx0 : 0 ≤ x.f1) (hx1 : x.f1 < X.l1.length) (hR : Rec X S fits (k + 1) ((k : Int) + 1)) (q : Pth) (hq : OkP X q) (W : World) (hW : C9 X S fits bs bx bw p k f x W) :
  Calls Try.prog 109 #[.agg (pC q), .pointer (some ⟨bs, 0, none⟩), .pointer (some ⟨bx, 0, none⟩), .pointer (some ⟨bw, 0, none⟩)] W fun e W' => e = .returned (.bool (aliveV X q (k + 1) x.f1)) ∧ AW X S fits W' ∧ W.grownBy W' (some S.mb) := by
 have HW := Aside0.mk hW
 have HP := Aside0.mk (PL.start W q)
 have HR := Aside0.mk (fun W h => hR q x.f1 hx0 hx1 hq.spot W h)
 obtain ⟨b, hb⟩ : ∃ b, b = aliveV X q (k + 1) x.f1 := ⟨_, rfl⟩
 rw [← hb] at HR ⊢
 clear hW hR hq hb
 unfold pC
 go_enter Try.func109, Try.ntmps109
 go_upto_region 1 with fail
 refine wp_gen (fun wx => Aside0 (PL W wx q)) HP ?_
 clear HP
 rintro wx HB
 have hf7 := blk_frozen HB.out.pat 7
 have he7 := HB.out.pat.cells.2.2.2.2.2.2.2
 have hpl := blk_lt HB.out.pat
 go_upto_region 2 with fail
 refine wp_gen (fun wy => Aside0 (Below W.heap.size W wy) ∧ Aside0 (wy.heap[W.heap.size]? = some (.cells #[.int .i64 (q.i : Int), .int .i64 (q.m : Int), .int .i64 q.l, .int .i64 q.h, .int .i64 (fG q.fs 0), .int .i64 (fG q.fs 1), .int .i64 (fG q.fs 2), .int .i64 0] 154 (0, 0)))) ⟨⟨HB.out.below.setCell (Nat.le_refl _) _⟩, ⟨blk_set HB.out.pat 7 (.int .i64 0)⟩⟩ ?_
 clear HB hf7 he7 hpl
 rintro wy ⟨HB, HP⟩
 have HC := Aside0.mk (HW.out.below HB.out)
 obtain ⟨⟨e0, e1, e2, e3, e4, e5, e6, e7⟩, -⟩ := cells8 HP.out
 have hs := HC.out.hs.cell
 obtain ⟨x0, x1, x2, x3, x4, x5⟩ := HC.out.hx.cells
 obtain ⟨w0, w1⟩ := HC.out.hw.cells
 have hpl := blk_lt HP.out
 have hl1 := blk_lt HC.out.hs
 have hl2 := blk_lt HC.out.hx
 have hl3 := blk_lt HC.out.hw
 have HC2 := Aside0.mk (HR.out wy HC.out.aw)
 simp only [stC] at HC2
 go_wp2_with (go_at_call 102; refine HC2.out.mono ?_; rintro e w2 ⟨rfl, hA, hG⟩; have HA := Aside0.mk hA; have HG := Aside0.mk hG; clear hA hG)
 go_ret
 exact ⟨rfl, HA.out, grown_trans (grown_below HB.out _) HG.out⟩
end Go.Proofs.Ytkfebceainedfaa.P.OwnGap
namespace Go.Proofs.Ytkfebceainedfaa.P.OwnGap
open Go.RowKit Go.Shelf Go.Proofs.YtkfebceainedfaaW.PrintWords Go.Proofs.YtkfebceainedfaaW.PrintLast Go.Proofs.YtkfebceainedfaaW.PrintMore
open Go.Proofs.Ytkfebceainedfaa.OwnGap
set_option linter.unusedVariables false
set_option linter.unusedSimpArgs false
theorem AW.km {X : Lx} {S : SV} {fits : List Int} {W1 W : World} (h : AW X S fits W1) (hk : KM W1.heap.size S.mb W1 W) (hm : MemoAt Try.prog 139 (AliveR X) W S.mb) : AW X S fits W :=
 ⟨h.sr.same (h.same hk.grownBy) (hk.block S.b (blk_lt h.sr.blk) (h.ne h.sr.blk)), hm⟩
set_option maxHeartbeats 1000000 in
set_option maxRecDepth 100000 in
theorem fun101_calls (X : Lx) (S : SV) (fits : List Int) (bs bv bw : Nat) (A : Option Addr) (k c : Nat) (hk : k ≤ 8) (x : S53) (hx0 : 0 ≤ x.f1) (hx1 : x.f1 < X.l1.length) (hR : Rec X S fits (k + 1) ((k : Int) + 1)) (q : Pth) (hq : OkP X q) (W : World) (hW : C10 X S fits bs bv bw A k c x W) :
  Calls Try.prog 101 #[.agg (pC q), .pointer (some ⟨bs, 0, none⟩), .pointer (some ⟨bv, 0, none⟩), .pointer (some ⟨bw, 0, none⟩)] W fun e W' => e = .returned (.bool (!aliveV X q (k + 1) x.f1)) ∧ AW X S fits W' ∧ W.grownBy W' (some S.mb) := by
 have HW := Aside0.mk hW
 have HP := Aside0.mk (PL.start W q)
 have HR := Aside0.mk (fun W h => hR q x.f1 hx0 hx1 hq.spot W h)
 obtain ⟨b, hb⟩ : ∃ b, b = aliveV X q (k + 1) x.f1 := ⟨_, rfl⟩
 rw [← hb] at HR ⊢
 clear hW hR hq hb
 unfold pC
 go_enter Try.func101, Try.ntmps101
 go_upto_region 1 with fail
 refine wp_gen (fun wx => Aside0 (PL W wx q)) HP ?_
 clear HP
 rintro wy HB
 have HC := Aside0.mk (HW.out.below (n1 := 0) HB.out.below)
 obtain ⟨e0, e1, e2, e3, e4, e5, e6, e7⟩ := HB.out.pat.cells
 have hs := (blk_cell HC.out.hs 0).trans (show (#[Value.pointer (some ⟨S.b, 0, none⟩)] : Array Value)[0]? = some _ from rfl)
 have hv := (blk_cell HC.out.hv 0).trans (show (#[Value.slice A k c] : Array Value)[0]? = some _ from rfl)
 have w1 := (blk_cell HC.out.hw 1).trans (show (#[Value.string x.f0, Value.int .i64 x.f1] : Array Value)[1]? = some (.int .i64 x.f1) from rfl)
 have hpl := blk_lt HB.out.pat
 have hl1 := blk_lt HC.out.hs
 have hl2 := blk_lt HC.out.hv
 have hl3 := blk_lt HC.out.hw
 have HC2 := Aside0.mk (HR.out wy HC.out.aw)
 simp only [stC] at HC2
 go_wp2_with (go_at_call 102; refine HC2.out.mono ?_; rintro e w2 ⟨rfl, hA, hG⟩; have HA := Aside0.mk hA; have HG := Aside0.mk hG; clear hA hG)
 go_ret
 exact ⟨rfl, HA.out, grown_trans (grown_below HB.out.below _) HG.out⟩
theorem strike_calls (X : Lx) (S : SV) (fits : List Int) (bs bv bw : Nat) (A : Option Addr) (k c : Nat) (hk : k ≤ 8) (x : S53) (hx0 : 0 ≤ x.f1) (hx1 : x.f1 < X.l1.length) (hR : Rec X S fits (k + 1) ((k : Int) + 1)) (W1 : World) (hW : C10 X S fits bs bv bw A k c x W1)
  (v : Value) (l : List Pth) (hl : l.length ≤ 1000000000) (hok : ∀ q ∈ l, OkP X q) (w : World) (hb : Below W1.heap.size W1 w) (hrow : kP.R 154 w W1.heap.size (fun _ => True) v l) :
  Calls Try.prog 100 #[v, .func (.func 101) #[] #[.pointer (some ⟨bs, 0, none⟩), .pointer (some ⟨bv, 0, none⟩), .pointer (some ⟨bw, 0, none⟩)]] w fun e w' =>
   ∃ v', e = .returned v' ∧ kP.R 154 w' W1.heap.size (fun _ => True) v' (l.filter fun q => aliveV X q (k + 1) x.f1) ∧ AW X S fits w' ∧ W1.grownBy w' (some S.mb) := by
 have hI : ∀ W, (KM W1.heap.size S.mb W1 W ∧ MemoAt Try.prog 139 (AliveR X) W S.mb) → C10 X S fits bs bv bw A k c x W := fun W h => hW.grown h.1.grownBy (hW.aw.km h.1 h.2)
 have h := delete_calls 101 #[.pointer (some ⟨bs, 0, none⟩), .pointer (some ⟨bv, 0, none⟩), .pointer (some ⟨bw, 0, none⟩)] (enters_of Try.func101 (by kernel_rfl) rfl) (fun q => !aliveV X q (k + 1) x.f1)
  (fun W => KM W1.heap.size S.mb W1 W ∧ MemoAt Try.prog 139 (AliveR X) W S.mb) W1.heap.size S.mb hW.aw.mlt (fun W W' h hb => ⟨h.1.trans (KM.below hb), h.2.keep (hb.block S.mb hW.aw.mlt)⟩) v l hl w hb.size
  ⟨KM.below hb, hW.aw.memo.keep (hb.block S.mb hW.aw.mlt)⟩ hrow
  (fun q hq W h => (fun101_calls X S fits bs bv bw A k c hk x hx0 hx1 hR q (hok q hq) W (hI W h)).mono (fun e W' h2 => ⟨h2.1, ⟨h.1.trans (KM.grown h2.2.2 h.1.size), h2.2.1.memo⟩, h2.2.2⟩))
 refine h.mono ?_
 rintro e w' ⟨v', rfl, hr, ⟨hk2, hm2⟩, -⟩
 simp only [Bool.not_not] at hr
 exact ⟨v', rfl, hr, hW.aw.km hk2 hm2, hk2.grownBy⟩
end Go.Proofs.Ytkfebceainedfaa.P.OwnGap
namespace Go.Proofs.Ytkfebceainedfaa.P.OwnGap
open Go.RowKit Go.Shelf Go.Proofs.YtkfebceainedfaaW.PrintWords Go.Proofs.YtkfebceainedfaaW.PrintLast Go.Proofs.YtkfebceainedfaaW.PrintMore
open Go.Proofs.Ytkfebceainedfaa.OwnGap
set_option linter.unusedVariables false
set_option linter.unusedSimpArgs false
def SeqS {α : Type} (F : Fence) (n : Nat) (P : Program) (g : Nat) (lb : Array Value) (encs : α → Array Value) (Mx : α → World → Prop) (Kp It : World → World → Prop) (most : Nat) (S : List α → Prop) (w : World) : Prop :=
 ∀ (l : Nat) (J : List α → World → Prop) (W : World), Below w.heap.size w W → (∀ s A B, J s A → It A B → J s B) →
  (∀ pre x W1, J pre W1 → Mx x W1 → pre.length < most → YieldAt F (n - 1) P l (encs x) W1 fun e W' => e = .returned (.bool (decide (pre.length + 1 < most))) ∧ J (pre ++ [x]) W' ∧ Kp W1 W') →
  J [] W →
  CallsIn F n P g (#[.func (.yield l) #[] #[]] ++ lb) W fun e W' => (∃ v, e = .returned v) ∧ ∃ xs, S xs ∧ J xs W'
def sPost {α : Type} (B : Nat) (Kp : World → World → Prop) (I : List α → World → Prop) (most id0 : Nat) (xs : List α) (W : World) : Exit → Act → World → Prop
 | .normal, _, W' => KeepsFrom B W W' ∧ Kp W W' ∧ I xs W' ∧ xs.length < most
 | .exit id, _, W' => id = id0 ∧ KeepsFrom B W W' ∧ Kp W W' ∧ I xs W' ∧ ¬ xs.length < most
 | _, _, _ => False
theorem wpIn_rangeFunc_S {F : Fence} {n : Nat} {P : Program} {α : Type} {g : Operand} {ps : Array Tmp} {assign body : Code} {Q : Exit → Act → World → Prop} {a : Act} {w : World}
  (hro : F.round = none) (h1 : 1 ≤ n) {gf : Nat} {lb : Array Value} (hg : a.eval g = .func (.func gf) #[] lb) (hFg : F.fn gf) (eg : ∀ args w, (callFunc gf args).run P w = .ok (.enter gf args) w)
  {encs : α → Array Value} {Mx : α → World → Prop} {Kp It : World → World → Prop} {S : List α → Prop} {most : Nat} {w0 : World} (hm : 0 < most) (id0 : Nat) (hseq : SeqS F (n - 1) P gf lb encs Mx Kp It most S w0)
  (hKt : ∀ {A B C : World}, Kp A B → Kp B C → Kp A C) (hKb : ∀ (W : World) (l : Nat) (o o' : Obj), w.heap.size ≤ l → W.heap[l]? = some o → o.isCells = false → o.isWalk = false → Kp W (W.putObj l o'))
  (hIt : ∀ (A B : World) (k : Nat) (o : Obj), w.heap.size ≤ k → It A B → A.heap[k]? = some o → o.isCells = false → B.heap[k]? = some o)
  (hb0 : Below w0.heap.size w0 w) (hps : ∀ x, (encs x).size = ps.size)
  (I : List α → World → Prop) (hI : OwnFrom w.heap.size I) (hII : ∀ s A B, I s A → It A B → I s B) (h0 : I [] w) (Ax : α → Act → World → Prop) (hAx : ∀ x a', OwnFrom w.heap.size (fun (_ : Unit) W => Ax x a' W))
  (hassign : ∀ (l : Nat) (pre : List α) (x : α) (W : World) (K : Act → World → Prop), I pre W → Mx x W → (∀ a' W', KeepsFrom w.heap.size W W' → Kp W W' → I pre W' → Ax x a' W' → K a' W') →
   assign.wpIn (F.inRound l) (n - 1 - 1) P (Exit.then K (fun _ _ _ => False)) { tmps := (ps.zip (encs x)).foldl (fun t (p, v) => t.setIfInBounds p v) a.tmps, defers := [] } W)
  (hbody : ∀ (l : Nat) (pre : List α) (x : α) (a' : Act) (W : World), I pre W → Ax x a' W → pre.length < most → body.wpIn (F.inRound l) (n - 1 - 1) P (sPost w.heap.size Kp I most id0 (pre ++ [x]) W) a' W)
  (hdone : ∀ (D : Nat) (xs : List α) (W : World), w.heap.size ≤ D → S xs → I xs W → W.heap[D]? = some (.deferred (some [])) → Q .normal { a with defers := { target := .collected D, args := #[] } :: a.defers } W ∧ (Code.exit id0).wpIn F n P Q { a with defers := { target := .collected D, args := #[] } :: a.defers } W) :
  (Code.rangeFunc g ps assign body).wpIn F n P Q a w := by
 refine wpIn_rangeFunc ?_
 intro fn hfn
 rw [hro]
 obtain ⟨rec, hrec⟩ : ∃ rec : LoopState → Option Code → Loop, rec = fun st pe => { state := st, pending := pe, fn, tmps := a.tmps, params := ps, assign, body, defers := w.heap.size } := ⟨_, rfl⟩
 obtain ⟨W1, hW1⟩ : ∃ W1, (w.alloc (.deferred (some []))).alloc (.loop (rec .ready none)) = W1 := ⟨_, rfl⟩
 have hL1 : W1.heap[w.heap.size + 1]? = some (.loop (rec .ready none)) := by
  rw [← hW1]; have := World.alloc_heap_new (w.alloc (.deferred (some []))) (.loop (rec .ready none)); rwa [World.size_alloc] at this
 have hK1 : W1.heap[w.heap.size]? = some (.deferred (some [])) := by
  rw [← hW1]; exact (Below.heap_alloc _ _ _ (by simp)).trans (World.alloc_heap_new w _)
 have hI1 : I [] W1 := by rw [← hW1]; exact hI.alloc _ (hI.alloc _ h0)
 have hb1 : Below w0.heap.size w0 W1 := by
  rw [← hW1]; exact hb0.trans ((((Below.refl _ w).alloc (Nat.le_refl _) _).alloc (by simp) _).mono hb0.size)
 refine ⟨w.heap.size + 1, [{ target := .collected w.heap.size, args := #[] }], W1, { target := .fn (.func gf) lb, args := #[.func (.yield (w.heap.size + 1)) #[] #[]] }, W1, gf,
  #[.func (.yield (w.heap.size + 1)) #[] #[]] ++ lb, W1, ?_, ?_, ?_, ?_, fun _ => h1, ?_⟩
 ·rw [← hW1, hrec]; exact run_enterLoop_outer _ _ _ _ _
 ·simp only [resolve, hg]
  simp [go_sem]
 ·intro f' hf'; simp [Target.leads] at hf'; subst hf'; exact hFg
 ·simp [invoke, go_sem, eg]
 ·have hR : ∀ xs : List α, ((if xs.length < most then LoopState.ready else LoopState.done) ≠ .busy) := fun xs => by split <;> simp
  obtain ⟨stt, hstt⟩ : ∃ stt : List α → Loop, stt = fun xs => rec (if xs.length < most then .ready else .done) (if xs.length < most then none else some (.exit id0)) := ⟨_, rfl⟩
  refine (hseq (w.heap.size + 1)
   (fun pre W => I pre W ∧ W.heap[w.heap.size + 1]? = some (.loop (stt pre)) ∧ W.heap[w.heap.size]? = some (.deferred (some [])))
   W1 hb1
   (fun s A B hs hit => ⟨hII s A B hs.1 hit, hIt A B _ _ (by omega) hit hs.2.1 rfl, hIt A B _ _ (Nat.le_refl _) hit hs.2.2 rfl⟩)
   ?_ ⟨hI1, by rw [hstt]; simpa [hm] using hL1, hK1⟩).mono ?_
  ·rintro pre x W ⟨hi, hl, hk⟩ hmx hlen
   have hl0 : stt pre = rec .ready none := by rw [hstt]; simp [hlen]
   rw [hl0] at hl
   have hlt : w.heap.size + 1 < W.heap.size := (Array.getElem?_eq_some_iff.1 hl).1
   have hy := run_yield (P := P) (args := encs x) hl (by rw [hrec]; exact hps x)
   rw [hrec] at hy
   refine ⟨fn, _, assign, body, hy, roundIn_of_wpIn hfn (hassign _ pre x W _ hi hmx ?_)⟩
   clear hy
   intro a' Wa hkfa hkpa hia hax
   replace hl := hkfa.same _ _ (by omega) hl rfl
   replace hk := hkfa.same _ _ (Nat.le_refl _) hk rfl
   replace hlt : w.heap.size + 1 < Wa.heap.size := (Array.getElem?_eq_some_iff.1 hl).1
   replace hi := hia
   clear hia hmx
   revert hkpa hkfa
   generalize W = Wb
   intro hkfa hkpa
   obtain ⟨W, rfl⟩ : ∃ W, W = Wa := ⟨_, rfl⟩
   refine ⟨_, run_beginRound hl (by rw [hrec]), ?_⟩
   have hl2 : (W.putObj (w.heap.size + 1) (.loop { rec .ready none with state := .busy })).heap[w.heap.size + 1]? = some (.loop { rec .ready none with state := .busy }) := World.putObj_heap_same hlt
   have hk2 : (W.putObj (w.heap.size + 1) (.loop { rec .ready none with state := .busy })).heap[w.heap.size]? = some (.deferred (some [])) := (World.putObj_heap_other (by omega)).trans hk
   have hw2 : Kp W (W.putObj (w.heap.size + 1) (.loop { rec .ready none with state := .busy })) := hKb _ _ _ _ (by omega) hl rfl rfl
   refine wpIn_mono (hbody _ pre x a' _ (hI.putObj _ hi (by omega) hl rfl) ((hAx x a').putObj (s := ()) _ hax (by omega) hl rfl) hlen) ?_
   have hlx : (pre ++ [x]).length = pre.length + 1 := by simp
   rintro e a3 W3 hp
   cases e with
   | normal =>
    obtain ⟨hk3, hkp3, hi3, hc3⟩ := hp
    have hl3 := hk3.same _ _ (by omega) hl2 rfl
    have hr := run_endRound (P := P) none hl3
    rw [hrec] at hr hl3
    refine ⟨_, _, hr, ?_, ⟨hI.putObj _ hi3 (by omega) hl3 rfl, ?_, (World.putObj_heap_other (by omega)).trans (hk3.same _ _ (Nat.le_refl _) hk2 rfl)⟩, hKt hkpa (hKt (hKt hw2 hkp3) (hKb _ _ _ _ (by omega) hl3 rfl rfl))⟩
    ·rw [← hlx, decide_eq_true hc3]; rfl
    ·rw [hstt, hrec]
     simp only [hc3, if_true]
     exact World.putObj_heap_same (Array.getElem?_eq_some_iff.1 hl3).1
   | exit id =>
    obtain ⟨rfl, hk3, hkp3, hi3, hc3⟩ := hp
    have hl3 := hk3.same _ _ (by omega) hl2 rfl
    have hr := run_endRound (P := P) (some (.exit id)) hl3
    rw [hrec] at hr hl3
    refine ⟨_, _, hr, ?_, ⟨hI.putObj _ hi3 (by omega) hl3 rfl, ?_, (World.putObj_heap_other (by omega)).trans (hk3.same _ _ (Nat.le_refl _) hk2 rfl)⟩, hKt hkpa (hKt (hKt hw2 hkp3) (hKb _ _ _ _ (by omega) hl3 rfl rfl))⟩
    ·rw [← hlx, decide_eq_false hc3]; rfl
    ·rw [hstt, hrec]
     simp only [hc3, if_false]
     exact World.putObj_heap_same (Array.getElem?_eq_some_iff.1 hl3).1
   | ret => exact hp.elim
   | goto t => exact hp.elim
   | panic ch => exact hp.elim
   | outgrown => exact hp.elim
  ·rintro e W2 ⟨⟨v, rfl⟩, xs, hS, hi, hl, hk⟩
   rw [hstt] at hl
   have hd := hdone _ xs _ (Nat.le_refl _) hS (hI.putObj (.loop { rec (if xs.length < most then LoopState.ready else LoopState.done) (if xs.length < most then none else some (.exit id0)) with state := .exhausted }) hi (by omega) hl rfl) ((World.putObj_heap_other (by omega)).trans hk)
   have hel := run_endLoop (P := P) hl (by rw [hrec]; exact hR xs)
   by_cases hc : xs.length < most
   ·refine ⟨none, _, ?_, hd.1⟩
    rw [hel, hrec]
    simp only [hc, if_true]
   ·refine ⟨some (.exit id0), _, ?_, hd.2⟩
    rw [hel, hrec]
    simp only [hc, if_false]
end Go.Proofs.Ytkfebceainedfaa.P.OwnGap
namespace Go.Proofs.Ytkfebceainedfaa.P.OwnGap
open Go.RowKit Go.Proofs.YtkfebceainedfaaW.PrintWords Go.Proofs.YtkfebceainedfaaW.PrintLast Go.Proofs.YtkfebceainedfaaW.PrintMore
open Go.Proofs.Ytkfebceainedfaa.OwnGap
set_option linter.unusedVariables false
set_option linter.unusedSimpArgs false
set_option maxHeartbeats 4000000 in
set_option maxRecDepth 100000 in
theorem letter_end (X : Lx) (S : SV) (fits : List Int) (HOX : Aside0 (OkX X fits)) (a : Int) (ha0 : 65 ≤ a) (ha1 : a ≤ 90) (p : Pth) (w : World) (hd : X.r.length - p.i = 0) (hS : SrW X S fits w) (hO : OkP X p) :
  Calls Try.prog 91 #[.pointer (some ⟨S.b, 0, none⟩), .agg (pC p), .int .u8 a] w fun e w' => ∃ v, e = .returned v ∧ PR w w' v (letterP (rwOf X) p a) ∧ Below w.heap.size w w' := by
 have HS := Aside0.mk hS
 have hc5 := hS.cell 5 hS.e5
 have hbl := blk_lt hS.blk
 have hpi : p.i = X.r.length := by have := hO.i; omega
 have h1 : ((p.i : Int) == (X.r.length : Int)) = true := by rw [hpi]; simp
 have hlp : letterP (rwOf X) p a = [] := by
  unfold letterP
  rw [show (rwOf X).n - p.i = 0 by show X.r.length - p.i = 0; omega]
  rfl
 rw [hlp]
 clear hpi hd hS hO hlp
 unfold pC
 go_enter Try.func91, Try.ntmps91
 go_upto_region 2 with fail
 refine wp_gen (fun wx => Aside0 (PL w wx p)) ⟨PL.start w p⟩ ?_
 clear hc5 hbl
 rintro wx HB
 obtain ⟨e0, -⟩ := HB.out.pat.cells
 have hS2 := HS.out.below HB.out.below
 have hc5 := hS2.cell 5 hS2.e5
 have hbl := blk_lt hS2.blk
 clear hS2
 go_upto_region 3 with first | go_quiet (fail) | fail
 refine wp_gen (fun wx => Aside0 (PL w wx p)) ⟨HB.out.drewN _⟩ ?_
 clear HB e0 hc5 hbl
 rintro wx HB
 go_wp2_with fail
 go_ret
 exact ⟨_, rfl, Kd.R_nil _ _ _ _ _, HB.out.below⟩
set_option maxHeartbeats 4000000 in
set_option maxRecDepth 100000 in
theorem letter_cell (X : Lx) (S : SV) (fits : List Int) (HOX : Aside0 (OkX X fits)) (a : Int) (ha0 : 65 ≤ a) (ha1 : a ≤ 90) (d : Nat) (p : Pth) (w : World) (hd : X.r.length - p.i = d + 1) (hS : SrW X S fits w) (hO : OkP X p) (hgg : (rd_T49 X.r (p.i : Int)).f1 = false) :
  Calls Try.prog 91 #[.pointer (some ⟨S.b, 0, none⟩), .agg (pC p), .int .u8 a] w fun e w' => ∃ v, e = .returned v ∧ PR w w' v (letterP (rwOf X) p a) ∧ Below w.heap.size w w' := by
 have HS := Aside0.mk hS
 have HOP := Aside0.mk hO
 have hlt : p.i < X.r.length := by omega
 have hn : X.r.length ≤ 1000 := HOX.out.n
 have hc5 := hS.cell 5 hS.e5
 have hbl := blk_lt hS.blk
 obtain ⟨ad, eA, -⟩ := at_T49 hS.hr (p.i : Int) (by omega) (by omega)
 have h1 : ((p.i : Int) == (X.r.length : Int)) = false := by simp; omega
 have hil : (p.i : Int) < (X.r.length : Int) := by omega
 have hl0 : p.i < X.r.length := hlt
 have HX := Aside0.mk (fun (W : World) (h : SrW X S fits W) => show W.cell? ⟨S.b, 5, none⟩ = some (.slice (some ad) X.r.length S.cr) ∧ W.cell? (ad.add (p.i * 4)) = some (.string (rd_T49 X.r (p.i : Int)).f0) ∧ W.cell? ⟨(ad.add (p.i * 4)).block, (ad.add (p.i * 4)).off + 1, none⟩ = some (.bool (rd_T49 X.r (p.i : Int)).f1) ∧ W.cell? ⟨(ad.add (p.i * 4)).block, (ad.add (p.i * 4)).off + 2, none⟩ = some (.int .i64 (rd_T49 X.r (p.i : Int)).f2.f0) ∧ W.cell? ⟨(ad.add (p.i * 4)).block, (ad.add (p.i * 4)).off + 3, none⟩ = some (.int .i64 (rd_T49 X.r (p.i : Int)).f2.f1) by
  obtain ⟨ad', eA', y0, y1, y2, y3⟩ := at_T49 h.hr (p.i : Int) (by omega) (by omega)
  rw [eA] at eA'
  injection eA' with eA'
  subst eA'
  simp only [Int.toNat_natCast] at y0 y1 y2 y3
  exact ⟨by rw [h.cell 5 h.e5, eA], y0, y1, y2, y3⟩)
 obtain ⟨c, hc⟩ : ∃ c, c = rd_T49 X.r (p.i : Int) := ⟨_, rfl⟩
 rw [← hc] at HX hgg
 have HC := Aside0.mk hc
 have HD := Aside0.mk hd
 have HLT := Aside0.mk hlt
 have hrem : (rwOf X).n - p.i = d + 1 := hd
 have hlp : letterP (rwOf X) p a = (if (rwOf X).gap p.i = false then (if (rwOf X).fit p.i a = true then [⟨p.i + 1, 0, 0, 0, p.fs⟩] else [])
  else (if okW (rwOf X) p.i p.l p.h = true then letterF (rwOf X) d (p.i + 1) 0 0 0 (p.fs ++ [(p.m : Int)]) a else []) ++ (if p.m + 1 ≤ 10 ∧ p.l + (rwOf X).wl a ≤ (rwOf X).hi p.i then [⟨p.i, p.m + 1, p.l + (rwOf X).wl a, p.h + (rwOf X).wh a, p.fs⟩] else [])) := by
  unfold letterP
  rw [hrem, letterF_succ]
 rw [hlp]
 clear hrem hlp hS hO hd hc hlt eA hc5
 have hg := hgg
 clear hgg
 rw [if_pos (show (rwOf X).gap p.i = false by show (rd_T49 X.r (p.i : Int)).f1 = false; rw [← HC.out]; exact hg)]
 have hfa := HOX.out.f p.i HLT.out a ha0 ha1
 rw [show (rwOf X).fit p.i a = fitB (rd_T49 X.r (p.i : Int)).f0 a from rfl]
 obtain ⟨r, hr⟩ : ∃ r, r = fitB (rd_T49 X.r (p.i : Int)).f0 a := ⟨_, rfl⟩
 rw [← hr] at hfa ⊢
 have HFA := Aside0.mk hfa
 have HG := Aside0.mk hg
 clear hfa hr hg
 unfold pC
 go_enter Try.func91, Try.ntmps91
 go_upto_region 2 with fail
 refine wp_gen (fun wx => Aside0 (PL w wx p)) ⟨PL.start w p⟩ ?_
 clear hbl
 rintro wx HB
 obtain ⟨e0, -⟩ := HB.out.pat.cells
 have hS2 := HS.out.below HB.out.below
 obtain ⟨hc5, y0, y1, y2, y3⟩ := HX.out wx hS2
 rw [HG.out] at y1
 have hbl := blk_lt hS2.blk
 clear hS2
 go_upto_region 4 with first | go_quiet (fail) | fail
 refine wp_gen (fun wx => Aside0 (PL w wx p)) ⟨HB.out.drewN _⟩ ?_
 clear HB e0 hc5 y0 y1 y2 y3 hbl
 rintro wx HB
 obtain ⟨e0, -⟩ := HB.out.pat.cells
 have hS2 := HS.out.below HB.out.below
 obtain ⟨hc5, y0, y1, y2, y3⟩ := HX.out wx hS2
 rw [HG.out] at y1
 have hbl := blk_lt hS2.blk
 clear hS2
 go_upto_region 5 with first | go_quiet (fail) | fail
 refine wp_gen (fun wx => Aside0 (PL w wx p)) ⟨HB.out.drewN _⟩ ?_
 clear HB e0 hc5 y0 y1 y2 y3 hbl
 rintro wx HB
 obtain ⟨e0, -⟩ := HB.out.pat.cells
 have hS2 := HS.out.below HB.out.below
 obtain ⟨af, eF, y0⟩ := Kd.at_int hS2.hf (p.i : Int) (by omega) (by omega)
 have hc6 := hS2.cell 6 hS2.e6
 rw [eF] at hc6
 simp only [Int.toNat_natCast] at y0
 have hbl := blk_lt hS2.blk
 clear hS2 eF
 rcases r with _ | _
 ·go_upto_region 6 with (first | go_quiet (exact Calls.quiet_of ((gap_letters_has.calls _ _ _ _ HFA.out).mono (fun _ _ h => ⟨h.1, h.2.out⟩))) | fail)
  refine wp_gen (fun wx => Aside0 (PL w wx p)) ⟨HB.out.drewN _⟩ ?_
  clear HB e0 hc6 y0 hbl
  rintro wx HB
  go_wp2_with fail
  go_ret
  exact ⟨_, rfl, Kd.R_nil _ _ _ _ _, HB.out.below⟩
 ·go_upto_region 7 with (first | go_quiet (exact Calls.quiet_of ((gap_letters_has.calls _ _ _ _ HFA.out).mono (fun _ _ h => ⟨h.1, h.2.out⟩))) | fail)
  refine wp_gen (fun wx => Aside0 (PL w wx p)) ⟨HB.out.drewN _⟩ ?_
  clear HB e0 hc6 y0 hbl
  rintro wx HB
  obtain ⟨⟨e0, e1, e2, e3, e4, e5, e6, e7⟩, g0, g1, g2, g3, g4, g5, g6, g7⟩ := cells8 (show wx.heap[w.heap.size]? = some (.cells #[_, _, _, _, _, _, _, _] 154 (0, 0)) from HB.out.pat)
  have hpl := blk_lt HB.out.pat
  go_upto_region 8 with fail
  refine wp_gen (fun wx => Aside0 (PL w wx ⟨p.i + 1, 0, 0, 0, p.fs⟩)) ⟨⟨set4_below HB.out.below (Nat.le_refl _) _ _ _ _, set4 HB.out.pat _ _ _ _⟩⟩ ?_
  clear HB e0 e1 e2 e3 e4 e5 e6 e7 g0 g1 g2 g3 g4 g5 g6 g7 hpl
  rintro wx HB
  obtain ⟨⟨e0, e1, e2, e3, e4, e5, e6, e7⟩, g0, g1, g2, g3, g4, g5, g6, g7⟩ := cells8 (show wx.heap[w.heap.size]? = some (.cells #[_, _, _, _, _, _, _, _] 154 (0, 0)) from HB.out.pat)
  have hpl := blk_lt HB.out.pat
  go_wp2_with (first | ((with_reducible refine gate_dst (N := 52) rfl ?_); refine Kd.R_lit kP w.heap.size 154 ?hg (N := 52) ?hd (xs := [⟨p.i + 1, 0, 0, 0, p.fs⟩]) (inner := pL ⟨p.i + 1, 0, 0, 0, p.fs⟩) (ok := fun _ => True) (okp := fun _ => True) ?hr ?hp (fun _ hk => hk) trivial HB.out.below HB.out.below.size (by simp) ?_; (case hd => rfl); (case hg => rfl); (case hr => first | (go_simp; done) | (go_simp; rfl)); (case hp => exact Reps.snoc (Reps.none _ _) (kP_mkM _ _ _ _) rfl); intro v w3 ho hb hg_ hnew_; clear hg_ hnew_; have HO := Aside0.mk ho; have HB := Aside0.mk hb; clear ho hb))
  go_ret
  exact ⟨_, rfl, HO.out, HB.out⟩
set_option maxHeartbeats 4000000 in
set_option maxRecDepth 100000 in
theorem letter_gap_false (X : Lx) (S : SV) (fits : List Int) (HOX : Aside0 (OkX X fits)) (a : Int) (ha0 : 65 ≤ a) (ha1 : a ≤ 90) (d : Nat) (ih : ∀ (p : Pth) (w : World), X.r.length - p.i = d → SrW X S fits w → OkP X p →
  Calls Try.prog 91 #[.pointer (some ⟨S.b, 0, none⟩), .agg (pC p), .int .u8 a] w fun e w' => ∃ v, e = .returned v ∧ PR w w' v (letterP (rwOf X) p a) ∧ Below w.heap.size w w') (p : Pth) (w : World) (hd : X.r.length - p.i = d + 1) (hS : SrW X S fits w) (hO : OkP X p) (hgg : (rd_T49 X.r (p.i : Int)).f1 = true) (hbv : shutB (rwOf X) p = false) :
  Calls Try.prog 91 #[.pointer (some ⟨S.b, 0, none⟩), .agg (pC p), .int .u8 a] w fun e w' => ∃ v, e = .returned v ∧ PR w w' v (letterP (rwOf X) p a) ∧ Below w.heap.size w w' := by
 have HS := Aside0.mk hS
 have HOP := Aside0.mk hO
 have hlt : p.i < X.r.length := by omega
 have hn : X.r.length ≤ 1000 := HOX.out.n
 have hc5 := hS.cell 5 hS.e5
 have hbl := blk_lt hS.blk
 obtain ⟨ad, eA, -⟩ := at_T49 hS.hr (p.i : Int) (by omega) (by omega)
 have h1 : ((p.i : Int) == (X.r.length : Int)) = false := by simp; omega
 have hil : (p.i : Int) < (X.r.length : Int) := by omega
 have hl0 : p.i < X.r.length := hlt
 have HX := Aside0.mk (fun (W : World) (h : SrW X S fits W) => show W.cell? ⟨S.b, 5, none⟩ = some (.slice (some ad) X.r.length S.cr) ∧ W.cell? (ad.add (p.i * 4)) = some (.string (rd_T49 X.r (p.i : Int)).f0) ∧ W.cell? ⟨(ad.add (p.i * 4)).block, (ad.add (p.i * 4)).off + 1, none⟩ = some (.bool (rd_T49 X.r (p.i : Int)).f1) ∧ W.cell? ⟨(ad.add (p.i * 4)).block, (ad.add (p.i * 4)).off + 2, none⟩ = some (.int .i64 (rd_T49 X.r (p.i : Int)).f2.f0) ∧ W.cell? ⟨(ad.add (p.i * 4)).block, (ad.add (p.i * 4)).off + 3, none⟩ = some (.int .i64 (rd_T49 X.r (p.i : Int)).f2.f1) by
  obtain ⟨ad', eA', y0, y1, y2, y3⟩ := at_T49 h.hr (p.i : Int) (by omega) (by omega)
  rw [eA] at eA'
  injection eA' with eA'
  subst eA'
  simp only [Int.toNat_natCast] at y0 y1 y2 y3
  exact ⟨by rw [h.cell 5 h.e5, eA], y0, y1, y2, y3⟩)
 obtain ⟨c, hc⟩ : ∃ c, c = rd_T49 X.r (p.i : Int) := ⟨_, rfl⟩
 rw [← hc] at HX hgg
 have HC := Aside0.mk hc
 have HD := Aside0.mk hd
 have HLT := Aside0.mk hlt
 have hrem : (rwOf X).n - p.i = d + 1 := hd
 have hlp : letterP (rwOf X) p a = (if (rwOf X).gap p.i = false then (if (rwOf X).fit p.i a = true then [⟨p.i + 1, 0, 0, 0, p.fs⟩] else [])
  else (if okW (rwOf X) p.i p.l p.h = true then letterF (rwOf X) d (p.i + 1) 0 0 0 (p.fs ++ [(p.m : Int)]) a else []) ++ (if p.m + 1 ≤ 10 ∧ p.l + (rwOf X).wl a ≤ (rwOf X).hi p.i then [⟨p.i, p.m + 1, p.l + (rwOf X).wl a, p.h + (rwOf X).wh a, p.fs⟩] else [])) := by
  unfold letterP
  rw [hrem, letterF_succ]
 rw [hlp]
 clear hrem hlp hS hO hd hc hlt eA hc5
 have hg := hgg
 clear hgg
 rw [if_neg (show ¬ (rwOf X).gap p.i = false by rw [show (rwOf X).gap p.i = true by show (rd_T49 X.r (p.i : Int)).f1 = true; rw [← HC.out]; exact hg]; decide)]
 have hgp : (rwOf X).gap p.i = true := by show (rd_T49 X.r (p.i : Int)).f1 = true; rw [← HC.out]; exact hg
 have hsB : okW (rwOf X) p.i p.l p.h = shutB (rwOf X) p := by
  unfold shutB
  rw [hgp, show decide (p.i < (rwOf X).n) = true from decide_eq_true HLT.out]
  rfl
 rw [hsB]
 have hfs : p.fs.length + 1 + ((List.range' (p.i + 1) d).filter (rwOf X).gap).length ≤ 3 := by
  have := HOP.out.g
  rw [HD.out, List.range'_succ, List.filter_cons_of_pos hgp, List.length_cons] at this
  omega
 obtain ⟨q, hq⟩ : ∃ q, q = shutP (rwOf X) p := ⟨_, rfl⟩
 obtain ⟨b, hb⟩ : ∃ b, b = shutB (rwOf X) p := ⟨_, rfl⟩
 have HSH := Aside0.mk (fun (W : World) (h : SrW X S fits W) => show Calls Try.prog 90 #[.pointer (some ⟨S.b, 0, none⟩), .agg (pC p)] W fun e w' => e = .returned (.tuple #[.agg (pC q), .bool b]) ∧ Below W.heap.size W w' by
  rw [hq, hb]
  exact shut_calls X S fits p W h (by have := HLT.out; omega) hn (by have := HOP.out.m; omega) (fun _ _ => by omega))
 have HQ := Aside0.mk (show b = true → q = ⟨p.i + 1, 0, 0, 0, p.fs ++ [(p.m : Int)]⟩ by
  intro h
  rw [hq]
  exact if_pos (by rw [← hb]; exact h))
 rw [← hb]
 have HBV := Aside0.mk (show b = false by rw [hb]; exact hbv)
 clear hbv
 have HG := Aside0.mk hg
 have HFS := Aside0.mk hfs
 obtain ⟨l1, hl1⟩ : ∃ l1, l1 = (if b = true then letterF (rwOf X) d (p.i + 1) 0 0 0 (p.fs ++ [(p.m : Int)]) a else []) := ⟨_, rfl⟩
 rw [← hl1]
 have hl1n : l1.length ≤ 1000 := by
  rw [hl1]
  split
  ·exact Nat.le_trans (letterF_length _ _ _ _ _ _ _ _) (by have := HD.out; omega)
  ·exact Nat.zero_le _
 have HL1 := Aside0.mk hl1
 obtain ⟨lf, hlf⟩ : ∃ lf, lf = l1 ++ (if p.m + 1 ≤ 10 ∧ p.l + (rwOf X).wl a ≤ (rwOf X).hi p.i then [(⟨p.i, p.m + 1, p.l + (rwOf X).wl a, p.h + (rwOf X).wh a, p.fs⟩ : Pth)] else []) := ⟨_, rfl⟩
 rw [← hlf]
 have HLF := Aside0.mk hlf
 clear hlf
 clear hfs hq hb hsB hgp hg hl1
 unfold pC
 go_enter Try.func91, Try.ntmps91
 go_upto_region 2 with fail
 refine wp_gen (fun wx => Aside0 (PL w wx p)) ⟨PL.start w p⟩ ?_
 clear hbl
 rintro wx HB
 obtain ⟨e0, -⟩ := HB.out.pat.cells
 have hS2 := HS.out.below HB.out.below
 obtain ⟨hc5, y0, y1, y2, y3⟩ := HX.out wx hS2
 rw [HG.out] at y1
 have hbl := blk_lt hS2.blk
 clear hS2
 go_upto_region 4 with first | go_quiet (fail) | fail
 refine wp_gen (fun wx => Aside0 (PL w wx p)) ⟨HB.out.drewN _⟩ ?_
 clear HB e0 hc5 y0 y1 y2 y3 hbl
 rintro wx HB
 obtain ⟨e0, -⟩ := HB.out.pat.cells
 have hS2 := HS.out.below HB.out.below
 obtain ⟨hc5, y0, y1, y2, y3⟩ := HX.out wx hS2
 rw [HG.out] at y1
 have hbl := blk_lt hS2.blk
 clear hS2
 go_upto_region 9 with first | go_quiet (fail) | fail
 refine wp_gen (fun wx => Aside0 (PL w wx p)) ⟨HB.out.drewN _⟩ ?_
 clear HB e0 hc5 y0 y1 y2 y3 hbl
 rintro wx HB
 obtain ⟨e0, e1, e2, e3, e4, e5, e6, e7⟩ := HB.out.pat.cells
 have hbl := blk_lt HB.out.pat
 go_upto_region 11 with (first | (go_at_call 90; refine (HSH.out _ (HS.out.below HB.out.below)).mono ?_; rintro e w2 ⟨rfl, hB2⟩; unfold pC; have HB2 := Aside0.mk hB2; clear hB2))
 obtain ⟨b9, hb9⟩ : ∃ k, k = w2.heap.size := ⟨_, rfl⟩
 refine wp_gen (fun wx => Aside0 (PL w wx p) ∧ Aside0 (wx.heap[b9]? = some (.cells (pC q) 154 (0, 0)))) ⟨⟨(HB.out.next HB2.out).alloc _⟩, ⟨by rw [hb9]; exact blk_new w2 _⟩⟩ ?_
 rw [← hb9]
 clear hb9 HB HB2 e0 e1 e2 e3 e4 e5 e6 e7 hbl HSH
 rintro wx ⟨HB, H9⟩
 have HIH := Aside0.mk (show b = true → ∀ W, SrW X S fits W → Calls Try.prog 91 #[.pointer (some ⟨S.b, 0, none⟩), .agg (pC q), .int .u8 a] W fun e w' => ∃ v, e = .returned v ∧ PR W w' v l1 ∧ Below W.heap.size W w' by
  intro hbt W hW
  have := HQ.out hbt
  subst this
  have hh := ih ⟨p.i + 1, 0, 0, 0, p.fs ++ [(p.m : Int)]⟩ W (by show X.r.length - (p.i + 1) = d; have := HD.out; omega) hW ⟨by have := HLT.out; show p.i + 1 ≤ X.r.length; omega, by show 0 ≤ 10; omega, by show (0 : Int) ≤ 0; omega, by show (0 : Int) ≤ ((0 : Nat) : Int) * 1000; omega, by show (0 : Int) ≤ 0; omega, by show (0 : Int) ≤ ((0 : Nat) : Int) * 1000; omega, by
   show (p.fs ++ [(p.m : Int)]).length + ((List.range' (p.i + 1) (X.r.length - (p.i + 1))).filter (rwOf X).gap).length ≤ 3
   rw [show X.r.length - (p.i + 1) = d by have := HD.out; omega, List.length_append]
   exact HFS.out⟩
  have h1 : l1 = letterP (rwOf X) ⟨p.i + 1, 0, 0, 0, p.fs ++ [(p.m : Int)]⟩ a := by
   rw [HL1.out, if_pos hbt]
   unfold letterP
   rw [show (rwOf X).n - (p.i + 1) = d by show X.r.length - (p.i + 1) = d; have := HD.out; omega]
  rw [h1]
  exact hh)
 have HL0 := Aside0.mk (show b = false → l1 = [] by
  intro h
  rw [HL1.out, if_neg (by rw [h]; decide)])
 clear HL1 HQ ih
 rcases b with _ | _
 ·go_upto_region 13 with fail
  obtain ⟨v, hv0⟩ : ∃ v, v = Value.slice none 0 0 := ⟨_, rfl⟩
  refine wp_gen (fun wx => Aside0 (PL w wx p) ∧ Aside0 (kP.R 154 wx (w.heap.size + 1) (fun _ => True) v l1)) ⟨HB, ⟨by rw [hv0, HL0.out rfl]; exact Kd.R_nil _ _ _ _ _⟩⟩ ?_
  rw [← hv0]
  clear hv0 HB H9 HIH wx
  rintro wx ⟨HB, HV⟩
  obtain ⟨hw0, hw1⟩ := (HS.out.below HB.out.below).ew (a - 65).toNat (by omega)
  have y0 := (HS.out.below HB.out.below).cell _ hw0
  have y1 := (HS.out.below HB.out.below).cell _ hw1
  rw [show (((a - 65).toNat : Nat) : Int) = a - 65 by omega] at y0 y1
  have hbl := blk_lt (HS.out.below HB.out.below).blk
  clear hw0 hw1
  go_upto_region 14 with fail
  obtain ⟨wl, hwl⟩ : ∃ x, x = (rd_T47 X.l4 (a - 65)).f0 := ⟨_, rfl⟩
  obtain ⟨wh, hwh⟩ : ∃ x, x = (rd_T47 X.l4 (a - 65)).f1 := ⟨_, rfl⟩
  rw [← hwl, ← hwh]
  obtain ⟨k0, k1, k2, k3⟩ := HOX.out.w a ha0 ha1
  rw [← hwl] at k0 k1
  rw [← hwh] at k2 k3
  have hwl' : (rwOf X).wl a = wl := hwl.symm
  have hwh' : (rwOf X).wh a = wh := hwh.symm
  obtain ⟨bw, hbw⟩ : ∃ k, k = wx.heap.size := ⟨_, rfl⟩
  have hbw2 : w.heap.size < bw := by rw [hbw]; exact blk_lt HB.out.pat
  refine wp_gen (fun wy => Aside0 (PL w wy p) ∧ Aside0 (kP.R 154 wy (w.heap.size + 1) (fun _ => True) v l1) ∧ Aside0 (wy.heap[bw]? = some (.cells #[.int .i64 wl, .int .i64 wh] 47 (0, 0)))) ⟨⟨HB.out.alloc _⟩, ⟨Kd.R_alloc HV.out _⟩, ⟨by rw [hbw]; exact blk_new wx _⟩⟩ ?_
  rw [← hbw]
  clear hbw HB HV y0 y1 hbl hwl hwh
  rintro wy ⟨HB, HV, HW⟩
  obtain ⟨⟨e0, e1, e2, e3, e4, e5, e6, e7⟩, g0, g1, g2, g3, g4, g5, g6, g7⟩ := cells8 (show wy.heap[w.heap.size]? = some (.cells #[_, _, _, _, _, _, _, _] 154 (0, 0)) from HB.out.pat)
  have w0 := (blk_cell HW.out 0).trans (show (#[Value.int .i64 wl, Value.int .i64 wh] : Array Value)[0]? = some (Value.int .i64 wl) from rfl)
  have w1 := (blk_cell HW.out 1).trans (show (#[Value.int .i64 wl, Value.int .i64 wh] : Array Value)[1]? = some (Value.int .i64 wh) from rfl)
  have hpl := blk_lt HB.out.pat
  have hwl2 := blk_lt HW.out
  have m0 := HOP.out.m
  have m1 : p.l ≤ 10000 := by have := HOP.out.l1; omega
  have m2 := HOP.out.l0
  have m3 : p.h ≤ 10000 := by have := HOP.out.h1; omega
  have m4 := HOP.out.h0
  clear wx
  go_region
  obtain ⟨pp, hpp⟩ : ∃ x : Pth, x = ⟨p.i, p.m + 1, p.l + wl, p.h + wh, p.fs⟩ := ⟨_, rfl⟩
  refine wp_gen' (fun wz => Aside0 (PL w wz pp) ∧ Aside0 (kP.R 154 wz (w.heap.size + 1) (fun _ => True) v l1)) ⟨⟨by rw [hpp]; exact PL.drew ⟨set3_below HB.out.below (Nat.le_refl _) _ _ _, set3 HB.out.pat _ _ _⟩⟩, ⟨Kd.R_drew (R_low HV.out _ _ _)⟩⟩ ?_
  clear HB HV HW e0 e1 e2 e3 e4 e5 e6 e7 g0 g1 g2 g3 g4 g5 g6 g7 w0 w1 hpl hwl2
  clear wy
  rintro wy ⟨HB, HV⟩
  have HPP := Aside0.mk (show (if p.m + 1 ≤ 10 ∧ p.l + (rwOf X).wl a ≤ (rwOf X).hi p.i then [(⟨p.i, p.m + 1, p.l + (rwOf X).wl a, p.h + (rwOf X).wh a, p.fs⟩ : Pth)] else []) = (if pp.m ≤ 10 ∧ pp.l ≤ c.f2.f1 then [pp] else []) by
   rw [hwl', hwh', show (rwOf X).hi p.i = c.f2.f1 by rw [HC.out]; rfl, hpp])
  obtain ⟨e0, e1, e2, -⟩ := HB.out.pat.cells
  rw [show pp.i = p.i by rw [hpp]] at e0
  clear hwl' hwh' k0 k1 k2 k3 m0 m1 m2 m3 m4 hpp hbw2
  have hS2 := HS.out.below HB.out.below
  obtain ⟨hc5, y0, y1, y2, y3⟩ := HX.out wy hS2
  have hbl := blk_lt hS2.blk
  clear hS2
  by_cases hA : pp.m ≤ 10
  ·have hA1 : decide ((pp.m : Int) ≤ 10) = true := decide_eq_true (by omega)
   by_cases hB : pp.l ≤ c.f2.f1
   ·have hB1 : decide (pp.l ≤ c.f2.f1) = true := decide_eq_true hB
    have HYES := Aside0.mk (⟨hA, hB⟩ : pp.m ≤ 10 ∧ pp.l ≤ c.f2.f1)
    clear hA hB
    go_upto_region 16 with first | go_quiet (fail) | fail
    refine wp_gen (fun wy => Aside0 (PL w wy pp) ∧ Aside0 (kP.R 154 wy (w.heap.size + 1) (fun _ => True) v l1)) ⟨⟨HB.out.drewN _⟩, ⟨Kd.R_drewN HV.out _⟩⟩ ?_
    clear HB HV e0 e1 e2 hc5 y0 y1 y2 y3 hbl
    clear wy
    rintro wy ⟨HB, HV⟩
    obtain ⟨⟨e0, e1, e2, e3, e4, e5, e6, e7⟩, -⟩ := cells8 (show wy.heap[w.heap.size]? = some (.cells #[_, _, _, _, _, _, _, _] 154 (0, 0)) from HB.out.pat)
    have hpl := blk_lt HB.out.pat
    go_wp2_with (first | ((with_reducible refine gate_builtin (b := .append) (xs := #[.tmp 114, .tmp 116]) rfl ?_); at_builtin; refine Kd.R_append kP (w0 := wy) (w.heap.size + 1) rfl (.tmp 114) (.tmp 116) 157 154 (.agg #[(.int .i64 0), (.int .i64 0), (.int .i64 0), (.int .i64 0), (.int .i64 0), (.int .i64 0), (.int .i64 0), (.int .i64 0)]) 64 rfl Try.underlying157 (by kernel_rfl) rfl (by decide) (by omega) v l1 pp (pL pp) (fun _ => True) (fun _ => False) rfl rfl (kP_mkM _ _ _ _) (fun _ hk => hk.elim) (fun _ _ => trivial) HV.out (Below.refl _ _) hpl (by omega) ?_; intro v1 w70 ho hb hg hat; have HO := Aside0.mk ho; have HB2 := Aside0.mk hb; clear hg hat ho hb))
    go_ret
    exact ⟨_, rfl, by rw [HLF.out, HPP.out, if_pos HYES.out]; exact Kd.R_lower HO.out (Nat.le_succ _), HB.out.below.trans (HB2.out.mono (Nat.le_succ _))⟩
   ·have hB1 : decide (pp.l ≤ c.f2.f1) = false := decide_eq_false hB
    have HNO := Aside0.mk (fun h : pp.m ≤ 10 ∧ pp.l ≤ c.f2.f1 => hB h.2)
    clear hA hB
    go_upto_region 17 with first | go_quiet (fail) | fail
    refine wp_gen (fun wy => Aside0 (PL w wy pp) ∧ Aside0 (kP.R 154 wy (w.heap.size + 1) (fun _ => True) v l1)) ⟨⟨HB.out.drewN _⟩, ⟨Kd.R_drewN HV.out _⟩⟩ ?_
    clear HB HV e0 e1 e2 hc5 y0 y1 y2 y3 hbl
    rintro wy ⟨HB, HV⟩
    go_wp2_with fail
    go_ret
    exact ⟨_, rfl, by rw [HLF.out, HPP.out, if_neg HNO.out, List.append_nil]; exact Kd.R_lower HV.out (Nat.le_succ _), HB.out.below⟩
  ·have hA1 : decide ((pp.m : Int) ≤ 10) = false := decide_eq_false (by omega)
   have HNO := Aside0.mk (fun h : pp.m ≤ 10 ∧ pp.l ≤ c.f2.f1 => hA h.1)
   clear hA
   go_upto_region 17 with first | go_quiet (fail) | fail
   refine wp_gen (fun wy => Aside0 (PL w wy pp) ∧ Aside0 (kP.R 154 wy (w.heap.size + 1) (fun _ => True) v l1)) ⟨⟨HB.out.drewN _⟩, ⟨Kd.R_drewN HV.out _⟩⟩ ?_
   clear HB HV e0 e1 e2 hc5 y0 y1 y2 y3 hbl
   rintro wy ⟨HB, HV⟩
   go_wp2_with fail
   go_ret
   exact ⟨_, rfl, by rw [HLF.out, HPP.out, if_neg HNO.out, List.append_nil]; exact Kd.R_lower HV.out (Nat.le_succ _), HB.out.below⟩
 ·exact absurd HBV.out (by decide)
set_option maxHeartbeats 4000000 in
set_option maxRecDepth 100000 in
theorem letter_gap_true (X : Lx) (S : SV) (fits : List Int) (HOX : Aside0 (OkX X fits)) (a : Int) (ha0 : 65 ≤ a) (ha1 : a ≤ 90) (d : Nat) (ih : ∀ (p : Pth) (w : World), X.r.length - p.i = d → SrW X S fits w → OkP X p →
  Calls Try.prog 91 #[.pointer (some ⟨S.b, 0, none⟩), .agg (pC p), .int .u8 a] w fun e w' => ∃ v, e = .returned v ∧ PR w w' v (letterP (rwOf X) p a) ∧ Below w.heap.size w w') (p : Pth) (w : World) (hd : X.r.length - p.i = d + 1) (hS : SrW X S fits w) (hO : OkP X p) (hgg : (rd_T49 X.r (p.i : Int)).f1 = true) (hbv : shutB (rwOf X) p = true) :
  Calls Try.prog 91 #[.pointer (some ⟨S.b, 0, none⟩), .agg (pC p), .int .u8 a] w fun e w' => ∃ v, e = .returned v ∧ PR w w' v (letterP (rwOf X) p a) ∧ Below w.heap.size w w' := by
 have HS := Aside0.mk hS
 have HOP := Aside0.mk hO
 have hlt : p.i < X.r.length := by omega
 have hn : X.r.length ≤ 1000 := HOX.out.n
 have hc5 := hS.cell 5 hS.e5
 have hbl := blk_lt hS.blk
 obtain ⟨ad, eA, -⟩ := at_T49 hS.hr (p.i : Int) (by omega) (by omega)
 have h1 : ((p.i : Int) == (X.r.length : Int)) = false := by simp; omega
 have hil : (p.i : Int) < (X.r.length : Int) := by omega
 have hl0 : p.i < X.r.length := hlt
 have HX := Aside0.mk (fun (W : World) (h : SrW X S fits W) => show W.cell? ⟨S.b, 5, none⟩ = some (.slice (some ad) X.r.length S.cr) ∧ W.cell? (ad.add (p.i * 4)) = some (.string (rd_T49 X.r (p.i : Int)).f0) ∧ W.cell? ⟨(ad.add (p.i * 4)).block, (ad.add (p.i * 4)).off + 1, none⟩ = some (.bool (rd_T49 X.r (p.i : Int)).f1) ∧ W.cell? ⟨(ad.add (p.i * 4)).block, (ad.add (p.i * 4)).off + 2, none⟩ = some (.int .i64 (rd_T49 X.r (p.i : Int)).f2.f0) ∧ W.cell? ⟨(ad.add (p.i * 4)).block, (ad.add (p.i * 4)).off + 3, none⟩ = some (.int .i64 (rd_T49 X.r (p.i : Int)).f2.f1) by
  obtain ⟨ad', eA', y0, y1, y2, y3⟩ := at_T49 h.hr (p.i : Int) (by omega) (by omega)
  rw [eA] at eA'
  injection eA' with eA'
  subst eA'
  simp only [Int.toNat_natCast] at y0 y1 y2 y3
  exact ⟨by rw [h.cell 5 h.e5, eA], y0, y1, y2, y3⟩)
 obtain ⟨c, hc⟩ : ∃ c, c = rd_T49 X.r (p.i : Int) := ⟨_, rfl⟩
 rw [← hc] at HX hgg
 have HC := Aside0.mk hc
 have HD := Aside0.mk hd
 have HLT := Aside0.mk hlt
 have hrem : (rwOf X).n - p.i = d + 1 := hd
 have hlp : letterP (rwOf X) p a = (if (rwOf X).gap p.i = false then (if (rwOf X).fit p.i a = true then [⟨p.i + 1, 0, 0, 0, p.fs⟩] else [])
  else (if okW (rwOf X) p.i p.l p.h = true then letterF (rwOf X) d (p.i + 1) 0 0 0 (p.fs ++ [(p.m : Int)]) a else []) ++ (if p.m + 1 ≤ 10 ∧ p.l + (rwOf X).wl a ≤ (rwOf X).hi p.i then [⟨p.i, p.m + 1, p.l + (rwOf X).wl a, p.h + (rwOf X).wh a, p.fs⟩] else [])) := by
  unfold letterP
  rw [hrem, letterF_succ]
 rw [hlp]
 clear hrem hlp hS hO hd hc hlt eA hc5
 have hg := hgg
 clear hgg
 rw [if_neg (show ¬ (rwOf X).gap p.i = false by rw [show (rwOf X).gap p.i = true by show (rd_T49 X.r (p.i : Int)).f1 = true; rw [← HC.out]; exact hg]; decide)]
 have hgp : (rwOf X).gap p.i = true := by show (rd_T49 X.r (p.i : Int)).f1 = true; rw [← HC.out]; exact hg
 have hsB : okW (rwOf X) p.i p.l p.h = shutB (rwOf X) p := by
  unfold shutB
  rw [hgp, show decide (p.i < (rwOf X).n) = true from decide_eq_true HLT.out]
  rfl
 rw [hsB]
 have hfs : p.fs.length + 1 + ((List.range' (p.i + 1) d).filter (rwOf X).gap).length ≤ 3 := by
  have := HOP.out.g
  rw [HD.out, List.range'_succ, List.filter_cons_of_pos hgp, List.length_cons] at this
  omega
 obtain ⟨q, hq⟩ : ∃ q, q = shutP (rwOf X) p := ⟨_, rfl⟩
 obtain ⟨b, hb⟩ : ∃ b, b = shutB (rwOf X) p := ⟨_, rfl⟩
 have HSH := Aside0.mk (fun (W : World) (h : SrW X S fits W) => show Calls Try.prog 90 #[.pointer (some ⟨S.b, 0, none⟩), .agg (pC p)] W fun e w' => e = .returned (.tuple #[.agg (pC q), .bool b]) ∧ Below W.heap.size W w' by
  rw [hq, hb]
  exact shut_calls X S fits p W h (by have := HLT.out; omega) hn (by have := HOP.out.m; omega) (fun _ _ => by omega))
 have HQ := Aside0.mk (show b = true → q = ⟨p.i + 1, 0, 0, 0, p.fs ++ [(p.m : Int)]⟩ by
  intro h
  rw [hq]
  exact if_pos (by rw [← hb]; exact h))
 rw [← hb]
 have HBV := Aside0.mk (show b = true by rw [hb]; exact hbv)
 clear hbv
 have HG := Aside0.mk hg
 have HFS := Aside0.mk hfs
 obtain ⟨l1, hl1⟩ : ∃ l1, l1 = (if b = true then letterF (rwOf X) d (p.i + 1) 0 0 0 (p.fs ++ [(p.m : Int)]) a else []) := ⟨_, rfl⟩
 rw [← hl1]
 have hl1n : l1.length ≤ 1000 := by
  rw [hl1]
  split
  ·exact Nat.le_trans (letterF_length _ _ _ _ _ _ _ _) (by have := HD.out; omega)
  ·exact Nat.zero_le _
 have HL1 := Aside0.mk hl1
 obtain ⟨lf, hlf⟩ : ∃ lf, lf = l1 ++ (if p.m + 1 ≤ 10 ∧ p.l + (rwOf X).wl a ≤ (rwOf X).hi p.i then [(⟨p.i, p.m + 1, p.l + (rwOf X).wl a, p.h + (rwOf X).wh a, p.fs⟩ : Pth)] else []) := ⟨_, rfl⟩
 rw [← hlf]
 have HLF := Aside0.mk hlf
 clear hlf
 clear hfs hq hb hsB hgp hg hl1
 unfold pC
 go_enter Try.func91, Try.ntmps91
 go_upto_region 2 with fail
 refine wp_gen (fun wx => Aside0 (PL w wx p)) ⟨PL.start w p⟩ ?_
 clear hbl
 rintro wx HB
 obtain ⟨e0, -⟩ := HB.out.pat.cells
 have hS2 := HS.out.below HB.out.below
 obtain ⟨hc5, y0, y1, y2, y3⟩ := HX.out wx hS2
 rw [HG.out] at y1
 have hbl := blk_lt hS2.blk
 clear hS2
 go_upto_region 4 with first | go_quiet (fail) | fail
 refine wp_gen (fun wx => Aside0 (PL w wx p)) ⟨HB.out.drewN _⟩ ?_
 clear HB e0 hc5 y0 y1 y2 y3 hbl
 rintro wx HB
 obtain ⟨e0, -⟩ := HB.out.pat.cells
 have hS2 := HS.out.below HB.out.below
 obtain ⟨hc5, y0, y1, y2, y3⟩ := HX.out wx hS2
 rw [HG.out] at y1
 have hbl := blk_lt hS2.blk
 clear hS2
 go_upto_region 9 with first | go_quiet (fail) | fail
 refine wp_gen (fun wx => Aside0 (PL w wx p)) ⟨HB.out.drewN _⟩ ?_
 clear HB e0 hc5 y0 y1 y2 y3 hbl
 rintro wx HB
 obtain ⟨e0, e1, e2, e3, e4, e5, e6, e7⟩ := HB.out.pat.cells
 have hbl := blk_lt HB.out.pat
 go_upto_region 11 with (first | (go_at_call 90; refine (HSH.out _ (HS.out.below HB.out.below)).mono ?_; rintro e w2 ⟨rfl, hB2⟩; unfold pC; have HB2 := Aside0.mk hB2; clear hB2))
 obtain ⟨b9, hb9⟩ : ∃ k, k = w2.heap.size := ⟨_, rfl⟩
 refine wp_gen (fun wx => Aside0 (PL w wx p) ∧ Aside0 (wx.heap[b9]? = some (.cells (pC q) 154 (0, 0)))) ⟨⟨(HB.out.next HB2.out).alloc _⟩, ⟨by rw [hb9]; exact blk_new w2 _⟩⟩ ?_
 rw [← hb9]
 clear hb9 HB HB2 e0 e1 e2 e3 e4 e5 e6 e7 hbl HSH
 rintro wx ⟨HB, H9⟩
 have HIH := Aside0.mk (show b = true → ∀ W, SrW X S fits W → Calls Try.prog 91 #[.pointer (some ⟨S.b, 0, none⟩), .agg (pC q), .int .u8 a] W fun e w' => ∃ v, e = .returned v ∧ PR W w' v l1 ∧ Below W.heap.size W w' by
  intro hbt W hW
  have := HQ.out hbt
  subst this
  have hh := ih ⟨p.i + 1, 0, 0, 0, p.fs ++ [(p.m : Int)]⟩ W (by show X.r.length - (p.i + 1) = d; have := HD.out; omega) hW ⟨by have := HLT.out; show p.i + 1 ≤ X.r.length; omega, by show 0 ≤ 10; omega, by show (0 : Int) ≤ 0; omega, by show (0 : Int) ≤ ((0 : Nat) : Int) * 1000; omega, by show (0 : Int) ≤ 0; omega, by show (0 : Int) ≤ ((0 : Nat) : Int) * 1000; omega, by
   show (p.fs ++ [(p.m : Int)]).length + ((List.range' (p.i + 1) (X.r.length - (p.i + 1))).filter (rwOf X).gap).length ≤ 3
   rw [show X.r.length - (p.i + 1) = d by have := HD.out; omega, List.length_append]
   exact HFS.out⟩
  have h1 : l1 = letterP (rwOf X) ⟨p.i + 1, 0, 0, 0, p.fs ++ [(p.m : Int)]⟩ a := by
   rw [HL1.out, if_pos hbt]
   unfold letterP
   rw [show (rwOf X).n - (p.i + 1) = d by show X.r.length - (p.i + 1) = d; have := HD.out; omega]
  rw [h1]
  exact hh)
 have HL0 := Aside0.mk (show b = false → l1 = [] by
  intro h
  rw [HL1.out, if_neg (by rw [h]; decide)])
 clear HL1 HQ ih
 rcases b with _ | _
 ·exact absurd HBV.out (by decide)
 ·obtain ⟨⟨e0, e1, e2, e3, e4, e5, e6, e7⟩, -⟩ := cells8 (show wx.heap[b9]? = some (.cells #[_, _, _, _, _, _, _, _] 154 (0, 0)) from H9.out)
  have hbl := blk_lt H9.out
  go_upto_region 13 with (first | (go_at_call 91; refine (HIH.out rfl _ (HS.out.below HB.out.below)).mono ?_; rintro e w3 ⟨v, rfl, hv, hB3⟩; have HV := Aside0.mk hv; have HB3 := Aside0.mk hB3; clear hv hB3))
  refine wp_gen (fun wx => Aside0 (PL w wx p) ∧ Aside0 (kP.R 154 wx (w.heap.size + 1) (fun _ => True) v l1)) ⟨⟨HB.out.next HB3.out⟩, ⟨Kd.R_lower HV.out (by have := blk_lt HB.out.pat; omega)⟩⟩ ?_
  clear HV HB3 HB H9 HIH e0 e1 e2 e3 e4 e5 e6 e7 hbl
  clear w3 wx
  rintro wx ⟨HB, HV⟩
  obtain ⟨hw0, hw1⟩ := (HS.out.below HB.out.below).ew (a - 65).toNat (by omega)
  have y0 := (HS.out.below HB.out.below).cell _ hw0
  have y1 := (HS.out.below HB.out.below).cell _ hw1
  rw [show (((a - 65).toNat : Nat) : Int) = a - 65 by omega] at y0 y1
  have hbl := blk_lt (HS.out.below HB.out.below).blk
  clear hw0 hw1
  go_upto_region 14 with fail
  obtain ⟨wl, hwl⟩ : ∃ x, x = (rd_T47 X.l4 (a - 65)).f0 := ⟨_, rfl⟩
  obtain ⟨wh, hwh⟩ : ∃ x, x = (rd_T47 X.l4 (a - 65)).f1 := ⟨_, rfl⟩
  rw [← hwl, ← hwh]
  obtain ⟨k0, k1, k2, k3⟩ := HOX.out.w a ha0 ha1
  rw [← hwl] at k0 k1
  rw [← hwh] at k2 k3
  have hwl' : (rwOf X).wl a = wl := hwl.symm
  have hwh' : (rwOf X).wh a = wh := hwh.symm
  obtain ⟨bw, hbw⟩ : ∃ k, k = wx.heap.size := ⟨_, rfl⟩
  have hbw2 : w.heap.size < bw := by rw [hbw]; exact blk_lt HB.out.pat
  refine wp_gen (fun wy => Aside0 (PL w wy p) ∧ Aside0 (kP.R 154 wy (w.heap.size + 1) (fun _ => True) v l1) ∧ Aside0 (wy.heap[bw]? = some (.cells #[.int .i64 wl, .int .i64 wh] 47 (0, 0)))) ⟨⟨HB.out.alloc _⟩, ⟨Kd.R_alloc HV.out _⟩, ⟨by rw [hbw]; exact blk_new wx _⟩⟩ ?_
  rw [← hbw]
  clear hbw HB HV y0 y1 hbl hwl hwh
  rintro wy ⟨HB, HV, HW⟩
  obtain ⟨⟨e0, e1, e2, e3, e4, e5, e6, e7⟩, g0, g1, g2, g3, g4, g5, g6, g7⟩ := cells8 (show wy.heap[w.heap.size]? = some (.cells #[_, _, _, _, _, _, _, _] 154 (0, 0)) from HB.out.pat)
  have w0 := (blk_cell HW.out 0).trans (show (#[Value.int .i64 wl, Value.int .i64 wh] : Array Value)[0]? = some (Value.int .i64 wl) from rfl)
  have w1 := (blk_cell HW.out 1).trans (show (#[Value.int .i64 wl, Value.int .i64 wh] : Array Value)[1]? = some (Value.int .i64 wh) from rfl)
  have hpl := blk_lt HB.out.pat
  have hwl2 := blk_lt HW.out
  have m0 := HOP.out.m
  have m1 : p.l ≤ 10000 := by have := HOP.out.l1; omega
  have m2 := HOP.out.l0
  have m3 : p.h ≤ 10000 := by have := HOP.out.h1; omega
  have m4 := HOP.out.h0
  clear wx
  go_region
  obtain ⟨pp, hpp⟩ : ∃ x : Pth, x = ⟨p.i, p.m + 1, p.l + wl, p.h + wh, p.fs⟩ := ⟨_, rfl⟩
  refine wp_gen' (fun wz => Aside0 (PL w wz pp) ∧ Aside0 (kP.R 154 wz (w.heap.size + 1) (fun _ => True) v l1)) ⟨⟨by rw [hpp]; exact PL.drew ⟨set3_below HB.out.below (Nat.le_refl _) _ _ _, set3 HB.out.pat _ _ _⟩⟩, ⟨Kd.R_drew (R_low HV.out _ _ _)⟩⟩ ?_
  clear HB HV HW e0 e1 e2 e3 e4 e5 e6 e7 g0 g1 g2 g3 g4 g5 g6 g7 w0 w1 hpl hwl2
  clear wy
  rintro wy ⟨HB, HV⟩
  have HPP := Aside0.mk (show (if p.m + 1 ≤ 10 ∧ p.l + (rwOf X).wl a ≤ (rwOf X).hi p.i then [(⟨p.i, p.m + 1, p.l + (rwOf X).wl a, p.h + (rwOf X).wh a, p.fs⟩ : Pth)] else []) = (if pp.m ≤ 10 ∧ pp.l ≤ c.f2.f1 then [pp] else []) by
   rw [hwl', hwh', show (rwOf X).hi p.i = c.f2.f1 by rw [HC.out]; rfl, hpp])
  obtain ⟨e0, e1, e2, -⟩ := HB.out.pat.cells
  rw [show pp.i = p.i by rw [hpp]] at e0
  clear hwl' hwh' k0 k1 k2 k3 m0 m1 m2 m3 m4 hpp hbw2
  have hS2 := HS.out.below HB.out.below
  obtain ⟨hc5, y0, y1, y2, y3⟩ := HX.out wy hS2
  have hbl := blk_lt hS2.blk
  clear hS2
  by_cases hA : pp.m ≤ 10
  ·have hA1 : decide ((pp.m : Int) ≤ 10) = true := decide_eq_true (by omega)
   by_cases hB : pp.l ≤ c.f2.f1
   ·have hB1 : decide (pp.l ≤ c.f2.f1) = true := decide_eq_true hB
    have HYES := Aside0.mk (⟨hA, hB⟩ : pp.m ≤ 10 ∧ pp.l ≤ c.f2.f1)
    clear hA hB
    go_upto_region 16 with first | go_quiet (fail) | fail
    refine wp_gen (fun wy => Aside0 (PL w wy pp) ∧ Aside0 (kP.R 154 wy (w.heap.size + 1) (fun _ => True) v l1)) ⟨⟨HB.out.drewN _⟩, ⟨Kd.R_drewN HV.out _⟩⟩ ?_
    clear HB HV e0 e1 e2 hc5 y0 y1 y2 y3 hbl
    clear wy
    rintro wy ⟨HB, HV⟩
    obtain ⟨⟨e0, e1, e2, e3, e4, e5, e6, e7⟩, -⟩ := cells8 (show wy.heap[w.heap.size]? = some (.cells #[_, _, _, _, _, _, _, _] 154 (0, 0)) from HB.out.pat)
    have hpl := blk_lt HB.out.pat
    go_wp2_with (first | ((with_reducible refine gate_builtin (b := .append) (xs := #[.tmp 114, .tmp 116]) rfl ?_); at_builtin; refine Kd.R_append kP (w0 := wy) (w.heap.size + 1) rfl (.tmp 114) (.tmp 116) 157 154 (.agg #[(.int .i64 0), (.int .i64 0), (.int .i64 0), (.int .i64 0), (.int .i64 0), (.int .i64 0), (.int .i64 0), (.int .i64 0)]) 64 rfl Try.underlying157 (by kernel_rfl) rfl (by decide) (by omega) v l1 pp (pL pp) (fun _ => True) (fun _ => False) rfl rfl (kP_mkM _ _ _ _) (fun _ hk => hk.elim) (fun _ _ => trivial) HV.out (Below.refl _ _) hpl (by omega) ?_; intro v1 w70 ho hb hg hat; have HO := Aside0.mk ho; have HB2 := Aside0.mk hb; clear hg hat ho hb))
    go_ret
    exact ⟨_, rfl, by rw [HLF.out, HPP.out, if_pos HYES.out]; exact Kd.R_lower HO.out (Nat.le_succ _), HB.out.below.trans (HB2.out.mono (Nat.le_succ _))⟩
   ·have hB1 : decide (pp.l ≤ c.f2.f1) = false := decide_eq_false hB
    have HNO := Aside0.mk (fun h : pp.m ≤ 10 ∧ pp.l ≤ c.f2.f1 => hB h.2)
    clear hA hB
    go_upto_region 17 with first | go_quiet (fail) | fail
    refine wp_gen (fun wy => Aside0 (PL w wy pp) ∧ Aside0 (kP.R 154 wy (w.heap.size + 1) (fun _ => True) v l1)) ⟨⟨HB.out.drewN _⟩, ⟨Kd.R_drewN HV.out _⟩⟩ ?_
    clear HB HV e0 e1 e2 hc5 y0 y1 y2 y3 hbl
    rintro wy ⟨HB, HV⟩
    go_wp2_with fail
    go_ret
    exact ⟨_, rfl, by rw [HLF.out, HPP.out, if_neg HNO.out, List.append_nil]; exact Kd.R_lower HV.out (Nat.le_succ _), HB.out.below⟩
  ·have hA1 : decide ((pp.m : Int) ≤ 10) = false := decide_eq_false (by omega)
   have HNO := Aside0.mk (fun h : pp.m ≤ 10 ∧ pp.l ≤ c.f2.f1 => hA h.1)
   clear hA
   go_upto_region 17 with first | go_quiet (fail) | fail
   refine wp_gen (fun wy => Aside0 (PL w wy pp) ∧ Aside0 (kP.R 154 wy (w.heap.size + 1) (fun _ => True) v l1)) ⟨⟨HB.out.drewN _⟩, ⟨Kd.R_drewN HV.out _⟩⟩ ?_
   clear HB HV e0 e1 e2 hc5 y0 y1 y2 y3 hbl
   rintro wy ⟨HB, HV⟩
   go_wp2_with fail
   go_ret
   exact ⟨_, rfl, by rw [HLF.out, HPP.out, if_neg HNO.out, List.append_nil]; exact Kd.R_lower HV.out (Nat.le_succ _), HB.out.below⟩
theorem letter_calls (X : Lx) (S : SV) (fits : List Int) (HOX : Aside0 (OkX X fits)) (a : Int) (ha0 : 65 ≤ a) (ha1 : a ≤ 90) : ∀ (d : Nat) (p : Pth) (w : World), X.r.length - p.i = d → SrW X S fits w → OkP X p →
  Calls Try.prog 91 #[.pointer (some ⟨S.b, 0, none⟩), .agg (pC p), .int .u8 a] w fun e w' => ∃ v, e = .returned v ∧ PR w w' v (letterP (rwOf X) p a) ∧ Below w.heap.size w w' := by
 intro d
 induction d with
 | zero => exact letter_end X S fits HOX a ha0 ha1
 | succ d ih =>
  intro p w hd hS hO
  rcases hg : (rd_T49 X.r (p.i : Int)).f1 with _ | _
  ·exact letter_cell X S fits HOX a ha0 ha1 d p w hd hS hO hg
  ·rcases hb : shutB (rwOf X) p with _ | _
   ·exact letter_gap_false X S fits HOX a ha0 ha1 d ih p w hd hS hO hg hb
   ·exact letter_gap_true X S fits HOX a ha0 ha1 d ih p w hd hS hO hg hb
end Go.Proofs.Ytkfebceainedfaa.P.OwnGap
