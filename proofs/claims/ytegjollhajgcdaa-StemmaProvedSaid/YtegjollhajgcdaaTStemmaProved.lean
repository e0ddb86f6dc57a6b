/- The statement StemmaProved holds of the given program. Conditions: none beyond those of its row. -/
import Derived.BigQuiet
import Derived.SizedLaws
import Derived.ChangeSlices
import Derived.Test.YtegjollhajgcdaaRows
import Derived.WalkKit
import Derived.ProofKit
import Derived.OpenShut
import Derived.ShutString
import Derived.ChangeOld
import Derived.Below
import Derived.Test.YtegjollhajgcdaaB4
set_option linter.unusedVariables false
set_option linter.unusedSimpArgs false
namespace Go.Proofs.Ytegjollhajgcdaa.P
open Go.RowKit Go.Proofs.YtegjollhajgcdaaW.PrintWords Go.Proofs.YtegjollhajgcdaaW.PrintLast Go.Proofs.YtegjollhajgcdaaW.PrintMore
attribute [local go_sem] max2_int min2_int max_two min_two max_three min_three max_four min_four   -- for this text's walks alone
set_option linter.unusedVariables false
set_option linter.unusedSimpArgs false
def stemma_Depends.f (k : Nat) (l0 : List (S24)) (a1 : Int) (a2 : Int) : Option (Int × Int) := some (OwnSt.dependsV l0 a1 a2)
theorem stemma_Depends.mono : ∀ a0 a1 a2 k, LeO (stemma_Depends.f k a0 a1 a2) (stemma_Depends.f (k + 1) a0 a1 a2) := by intros; exact LeO.refl _
theorem stemma_Depends.calls (k : Nat) (A0 : Option Addr) (c0 : Nat) (l0 : List (S24)) (a1 : Int) (a2 : Int) (r1 : Int) (r2 : Int) (w : World) (hr0 : Kd.C k24 w A0 l0.length l0) (hc0 : l0.length ≤ c0) (h : stemma_Depends.f k l0 a1 a2 = some (r1, r2)) :
    Calls Try.prog 37 #[.slice A0 l0.length c0, .int .i64 a1, .int .i64 a2] w fun e w' => e = .returned (.tuple #[.int .i64 r1, .int .i64 r2]) ∧ Below w.heap.size w w' := by
  have h2 := OwnSt.depends_calls A0 c0 l0 a1 a2 w hr0 hc0; rw [show OwnSt.dependsV l0 a1 a2 = (r1, r2) from Option.some.inj h] at h2; exact h2
end Go.Proofs.Ytegjollhajgcdaa.P
namespace Go.Proofs.Ytegjollhajgcdaa.P
open Go.RowKit Go.Proofs.YtegjollhajgcdaaW.PrintWords Go.Proofs.YtegjollhajgcdaaW.PrintLast Go.Proofs.YtegjollhajgcdaaW.PrintMore
attribute [local go_sem] max2_int min2_int max_two min_two max_three min_three max_four min_four   -- for this text's walks alone
set_option linter.unusedVariables false
set_option linter.unusedSimpArgs false
mutual
def cippuslaw07_StemmaProved.j0 : Nat → List (S24) → List (List Int) → Bool → Option (Bool)
  | 0, _, _, _ => none
  | k + 1, x3, x5, x36 => if x36 = true then (some false) else (cippuslaw07_StemmaProved.l0 k x3 x5 0)
def cippuslaw07_StemmaProved.l0 : Nat → List (S24) → List (List Int) → Int → Option (Bool)
  | 0, _, _, _ => none
  | k + 1, x3, x5, x7 => if x7 < (x3.length : Int) then (if 0 ≤ x7 then (if x7 < (x5.length : Int) then (if ((rd_L4 x5 x7).length : Int) = (wrap64 (x7 + 1)) then (cippuslaw07_StemmaProved.l1 k x3 x5 x7 0 0 0) else (some false)) else (none)) else (none)) else ((cippuslaw07_found.f k).bind fun t692 => (some t692))
def cippuslaw07_StemmaProved.l1 : Nat → List (S24) → List (List Int) → Int → Int → Int → Int → Option (Bool)
  | 0, _, _, _, _, _, _ => none
  | k + 1, x3, x5, x7, x8, x9, x10 => if x10 ≤ x7 then (if 0 ≤ x7 then (if x7 < (x5.length : Int) then (if 0 ≤ x10 then (if x10 < ((rd_L4 x5 x7).length : Int) then (if (rd (rd_L4 x5 x7) x10) = 2 then (cippuslaw07_StemmaProved.j3 k x3 x5 x7 x8 x9 x10) else (cippuslaw07_StemmaProved.j3 k x3 x5 x7 (wrap64 (x8 + 1)) x9 x10)) else (none)) else (none)) else (none)) else (none)) else (if x8 = 0 then (cippuslaw07_StemmaProved.j4 k x3 x5 x7 true) else (if ((x8 == 1) != (x9 == 1)) = true then (cippuslaw07_StemmaProved.j4 k x3 x5 x7 true) else (if 0 ≤ x7 then (if x7 < (x3.length : Int) then (if ((rd_T24 x3 x7).f2 = true) then (cippuslaw07_StemmaProved.j4 k x3 x5 x7 false) else (if x7 = 0 then (cippuslaw07_StemmaProved.j4 k x3 x5 x7 true) else (if x7 < (x5.length : Int) then (if 0 < ((rd_L4 x5 x7).length : Int) then (cippuslaw07_StemmaProved.j4 k x3 x5 x7 ((rd (rd_L4 x5 x7) 0) != 2)) else (none)) else (none)))) else (none)) else (none))))
def cippuslaw07_StemmaProved.j3 : Nat → List (S24) → List (List Int) → Int → Int → Int → Int → Option (Bool)
  | 0, _, _, _, _, _, _ => none
  | k + 1, x3, x5, x7, x8, x9, x10 => if 0 ≤ x7 then (if x7 < (x5.length : Int) then (if 0 ≤ x10 then (if x10 < ((rd_L4 x5 x7).length : Int) then (if (rd (rd_L4 x5 x7) x10) = 1 then (if x10 > 0 then (if x7 < (x3.length : Int) then (if 0 ≤ (wrap64 (x10 - 1)) then (if (wrap64 (x10 - 1)) < (x3.length : Int) then ((cippusref07_Apart.f k ((rd_T24 x3 x7).f0) ((rd_T24 x3 (wrap64 (x10 - 1))).f0)).bind fun t702 => (if (((rd (rd_L4 x5 x7) x10) != 2) != (decide (t702 ≤ ((rd_T24 x3 x7).f1)))) = true then (some false) else (cippuslaw07_StemmaProved.l1 k x3 x5 x7 x8 (wrap64 (x9 + 1)) (wrap64 (x10 + 1))))) else (none)) else (none)) else (none)) else (cippuslaw07_StemmaProved.l1 k x3 x5 x7 x8 (wrap64 (x9 + 1)) (wrap64 (x10 + 1)))) else (if x10 > 0 then (if x7 < (x3.length : Int) then (if 0 ≤ (wrap64 (x10 - 1)) then (if (wrap64 (x10 - 1)) < (x3.length : Int) then ((cippusref07_Apart.f k ((rd_T24 x3 x7).f0) ((rd_T24 x3 (wrap64 (x10 - 1))).f0)).bind fun t708 => (if (((rd (rd_L4 x5 x7) x10) != 2) != (decide (t708 ≤ ((rd_T24 x3 x7).f1)))) = true then (some false) else (cippuslaw07_StemmaProved.l1 k x3 x5 x7 x8 x9 (wrap64 (x10 + 1))))) else (none)) else (none)) else (none)) else (cippuslaw07_StemmaProved.l1 k x3 x5 x7 x8 x9 (wrap64 (x10 + 1))))) else (none)) else (none)) else (none)) else (none)
def cippuslaw07_StemmaProved.j4 : Nat → List (S24) → List (List Int) → Int → Bool → Option (Bool)
  | 0, _, _, _, _ => none
  | k + 1, x3, x5, x7, x136 => if x136 = true then (some false) else (if 0 ≤ x7 then (if x7 < (x3.length : Int) then (cippuslaw07_StemmaProved.l2 k x3 x5 x7 ((rd_T24 x3 x7).f2) 0) else (none)) else (none))
def cippuslaw07_StemmaProved.l2 : Nat → List (S24) → List (List Int) → Int → Bool → Int → Option (Bool)
  | 0, _, _, _, _, _ => none
  | k + 1, x3, x5, x7, x11, x12 => if x12 < x7 then ((stemma_Depends.f k x3 x7 x12).bind fun bt714 => (if bt714.2 = 0 then (if x11 = true then (cippuslaw07_StemmaProved.l2 k x3 x5 x7 true (wrap64 (x12 + 1))) else (if 0 ≤ x12 then (if x12 < (x3.length : Int) then (if (rd_T24 x3 x12).f2 = true then (cippuslaw07_StemmaProved.l2 k x3 x5 x7 (bt714.1 != 2) (wrap64 (x12 + 1))) else (cippuslaw07_StemmaProved.l2 k x3 x5 x7 false (wrap64 (x12 + 1)))) else (none)) else (none))) else (some false))) else ((stemma_Depends.f k x3 x7 0).bind fun bt717 => (if x11 = true then (if bt717.2 = 0 then (if x7 = 0 then (if bt717.1 = 2 then (cippuslaw07_StemmaProved.l0 k x3 x5 (wrap64 (x7 + 1))) else (some false)) else (cippuslaw07_StemmaProved.l0 k x3 x5 (wrap64 (x7 + 1)))) else (some false)) else (some false)))
end
def cippuslaw07_StemmaProved.f (k : Nat) (l0 : List Int) : Option (Bool) := (cippuskit_NewUrn.f l0).bind fun bt675 => ((cippuskit_CopiesOf.f bt675.1 bt675.2 5 6 1).bind fun bt678 => ((stemma_Sources.f k bt678.1).bind fun bt688 => (if bt688.2 = 0 then (cippuslaw07_StemmaProved.j0 k bt678.1 bt688.1 ((bt688.1.length : Int) != (bt678.1.length : Int))) else (cippuslaw07_StemmaProved.j0 k bt678.1 bt688.1 true))))
theorem cippuslaw07_StemmaProved.mono_l : ∀ k, (∀ y0 y1 y2, LeO (cippuslaw07_StemmaProved.j0 k y0 y1 y2) (cippuslaw07_StemmaProved.j0 (k + 1) y0 y1 y2)) ∧ (∀ y0 y1 y2, LeO (cippuslaw07_StemmaProved.l0 k y0 y1 y2) (cippuslaw07_StemmaProved.l0 (k + 1) y0 y1 y2)) ∧ (∀ y0 y1 y2 y3 y4 y5, LeO (cippuslaw07_StemmaProved.l1 k y0 y1 y2 y3 y4 y5) (cippuslaw07_StemmaProved.l1 (k + 1) y0 y1 y2 y3 y4 y5)) ∧ (∀ y0 y1 y2 y3 y4 y5, LeO (cippuslaw07_StemmaProved.j3 k y0 y1 y2 y3 y4 y5) (cippuslaw07_StemmaProved.j3 (k + 1) y0 y1 y2 y3 y4 y5)) ∧ (∀ y0 y1 y2 y3, LeO (cippuslaw07_StemmaProved.j4 k y0 y1 y2 y3) (cippuslaw07_StemmaProved.j4 (k + 1) y0 y1 y2 y3)) ∧ (∀ y0 y1 y2 y3 y4, LeO (cippuslaw07_StemmaProved.l2 k y0 y1 y2 y3 y4) (cippuslaw07_StemmaProved.l2 (k + 1) y0 y1 y2 y3 y4))
  | 0 => ⟨fun _ _ _ r h => by simp [cippuslaw07_StemmaProved.j0] at h, fun _ _ _ r h => by simp [cippuslaw07_StemmaProved.l0] at h, fun _ _ _ _ _ _ r h => by simp [cippuslaw07_StemmaProved.l1] at h, fun _ _ _ _ _ _ r h => by simp [cippuslaw07_StemmaProved.j3] at h, fun _ _ _ _ r h => by simp [cippuslaw07_StemmaProved.j4] at h, fun _ _ _ _ _ r h => by simp [cippuslaw07_StemmaProved.l2] at h⟩
  | k + 1 => by
    obtain ⟨ih0, ih1, ih2, ih3, ih4, ih5⟩ := cippuslaw07_StemmaProved.mono_l k
    refine ⟨?_, ?_, ?_, ?_, ?_, ?_⟩
    · intro y0 y1 y2
      unfold cippuslaw07_StemmaProved.j0
      repeat' first
      | (with_reducible exact ih0 _ _ _)
      | (with_reducible exact ih1 _ _ _)
      | (with_reducible exact ih2 _ _ _ _ _ _)
      | (with_reducible exact ih3 _ _ _ _ _ _)
      | (with_reducible exact ih4 _ _ _ _)
      | (with_reducible exact ih5 _ _ _ _ _)
      | (with_reducible exact cippuslaw07_found.mono _)
      | (with_reducible exact cippusref07_Apart.mono _ _ _)
      | (with_reducible exact stemma_Depends.mono _ _ _ _)
      | (with_reducible exact stemma_Sources.mono _ _)
      | (with_reducible exact LeO.refl _)
      | (with_reducible exact LeO.none _)
      | (with_reducible refine LeO.ite ?_ ?_)
      | (with_reducible refine LeO.bind ?_ (fun _ => ?_))
      | exact ih0 _ _ _
      | exact ih1 _ _ _
      | exact ih2 _ _ _ _ _ _
      | exact ih3 _ _ _ _ _ _
      | exact ih4 _ _ _ _
      | exact ih5 _ _ _ _ _
      | exact cippuslaw07_found.mono _
      | exact cippusref07_Apart.mono _ _ _
      | exact stemma_Depends.mono _ _ _ _
      | exact stemma_Sources.mono _ _
      | exact LeO.none _
      | refine LeO.ite ?_ ?_
      | refine LeO.bind ?_ (fun _ => ?_)
    · intro y0 y1 y2
      unfold cippuslaw07_StemmaProved.l0
      repeat' first
      | (with_reducible exact ih0 _ _ _)
      | (with_reducible exact ih1 _ _ _)
      | (with_reducible exact ih2 _ _ _ _ _ _)
      | (with_reducible exact ih3 _ _ _ _ _ _)
      | (with_reducible exact ih4 _ _ _ _)
      | (with_reducible exact ih5 _ _ _ _ _)
      | (with_reducible exact cippuslaw07_found.mono _)
      | (with_reducible exact cippusref07_Apart.mono _ _ _)
      | (with_reducible exact stemma_Depends.mono _ _ _ _)
      | (with_reducible exact stemma_Sources.mono _ _)
      | (with_reducible exact LeO.refl _)
      | (with_reducible exact LeO.none _)
      | (with_reducible refine LeO.ite ?_ ?_)
      | (with_reducible refine LeO.bind ?_ (fun _ => ?_))
      | exact ih0 _ _ _
      | exact ih1 _ _ _
      | exact ih2 _ _ _ _ _ _
      | exact ih3 _ _ _ _ _ _
      | exact ih4 _ _ _ _
      | exact ih5 _ _ _ _ _
      | exact cippuslaw07_found.mono _
      | exact cippusref07_Apart.mono _ _ _
      | exact stemma_Depends.mono _ _ _ _
      | exact stemma_Sources.mono _ _
      | exact LeO.none _
      | refine LeO.ite ?_ ?_
      | refine LeO.bind ?_ (fun _ => ?_)
    · intro y0 y1 y2 y3 y4 y5
      unfold cippuslaw07_StemmaProved.l1
      repeat' first
      | (with_reducible exact ih0 _ _ _)
      | (with_reducible exact ih1 _ _ _)
      | (with_reducible exact ih2 _ _ _ _ _ _)
      | (with_reducible exact ih3 _ _ _ _ _ _)
      | (with_reducible exact ih4 _ _ _ _)
      | (with_reducible exact ih5 _ _ _ _ _)
      | (with_reducible exact cippuslaw07_found.mono _)
      | (with_reducible exact cippusref07_Apart.mono _ _ _)
      | (with_reducible exact stemma_Depends.mono _ _ _ _)
      | (with_reducible exact stemma_Sources.mono _ _)
      | (with_reducible exact LeO.refl _)
      | (with_reducible exact LeO.none _)
      | (with_reducible refine LeO.ite ?_ ?_)
      | (with_reducible refine LeO.bind ?_ (fun _ => ?_))
      | exact ih0 _ _ _
      | exact ih1 _ _ _
      | exact ih2 _ _ _ _ _ _
      | exact ih3 _ _ _ _ _ _
      | exact ih4 _ _ _ _
      | exact ih5 _ _ _ _ _
      | exact cippuslaw07_found.mono _
      | exact cippusref07_Apart.mono _ _ _
      | exact stemma_Depends.mono _ _ _ _
      | exact stemma_Sources.mono _ _
      | exact LeO.none _
      | refine LeO.ite ?_ ?_
      | refine LeO.bind ?_ (fun _ => ?_)
    · intro y0 y1 y2 y3 y4 y5
      unfold cippuslaw07_StemmaProved.j3
      repeat' first
      | (with_reducible exact ih0 _ _ _)
      | (with_reducible exact ih1 _ _ _)
      | (with_reducible exact ih2 _ _ _ _ _ _)
      | (with_reducible exact ih3 _ _ _ _ _ _)
      | (with_reducible exact ih4 _ _ _ _)
      | (with_reducible exact ih5 _ _ _ _ _)
      | (with_reducible exact cippuslaw07_found.mono _)
      | (with_reducible exact cippusref07_Apart.mono _ _ _)
      | (with_reducible exact stemma_Depends.mono _ _ _ _)
      | (with_reducible exact stemma_Sources.mono _ _)
      | (with_reducible exact LeO.refl _)
      | (with_reducible exact LeO.none _)
      | (with_reducible refine LeO.ite ?_ ?_)
      | (with_reducible refine LeO.bind ?_ (fun _ => ?_))
      | exact ih0 _ _ _
      | exact ih1 _ _ _
      | exact ih2 _ _ _ _ _ _
      | exact ih3 _ _ _ _ _ _
      | exact ih4 _ _ _ _
      | exact ih5 _ _ _ _ _
      | exact cippuslaw07_found.mono _
      | exact cippusref07_Apart.mono _ _ _
      | exact stemma_Depends.mono _ _ _ _
      | exact stemma_Sources.mono _ _
      | exact LeO.none _
      | refine LeO.ite ?_ ?_
      | refine LeO.bind ?_ (fun _ => ?_)
    · intro y0 y1 y2 y3
      unfold cippuslaw07_StemmaProved.j4
      repeat' first
      | (with_reducible exact ih0 _ _ _)
      | (with_reducible exact ih1 _ _ _)
      | (with_reducible exact ih2 _ _ _ _ _ _)
      | (with_reducible exact ih3 _ _ _ _ _ _)
      | (with_reducible exact ih4 _ _ _ _)
      | (with_reducible exact ih5 _ _ _ _ _)
      | (with_reducible exact cippuslaw07_found.mono _)
      | (with_reducible exact cippusref07_Apart.mono _ _ _)
      | (with_reducible exact stemma_Depends.mono _ _ _ _)
      | (with_reducible exact stemma_Sources.mono _ _)
      | (with_reducible exact LeO.refl _)
      | (with_reducible exact LeO.none _)
      | (with_reducible refine LeO.ite ?_ ?_)
      | (with_reducible refine LeO.bind ?_ (fun _ => ?_))
      | exact ih0 _ _ _
      | exact ih1 _ _ _
      | exact ih2 _ _ _ _ _ _
      | exact ih3 _ _ _ _ _ _
      | exact ih4 _ _ _ _
      | exact ih5 _ _ _ _ _
      | exact cippuslaw07_found.mono _
      | exact cippusref07_Apart.mono _ _ _
      | exact stemma_Depends.mono _ _ _ _
      | exact stemma_Sources.mono _ _
      | exact LeO.none _
      | refine LeO.ite ?_ ?_
      | refine LeO.bind ?_ (fun _ => ?_)
    · intro y0 y1 y2 y3 y4
      unfold cippuslaw07_StemmaProved.l2
      repeat' first
      | (with_reducible exact ih0 _ _ _)
      | (with_reducible exact ih1 _ _ _)
      | (with_reducible exact ih2 _ _ _ _ _ _)
      | (with_reducible exact ih3 _ _ _ _ _ _)
      | (with_reducible exact ih4 _ _ _ _)
      | (with_reducible exact ih5 _ _ _ _ _)
      | (with_reducible exact cippuslaw07_found.mono _)
      | (with_reducible exact cippusref07_Apart.mono _ _ _)
      | (with_reducible exact stemma_Depends.mono _ _ _ _)
      | (with_reducible exact stemma_Sources.mono _ _)
      | (with_reducible exact LeO.refl _)
      | (with_reducible exact LeO.none _)
      | (with_reducible refine LeO.ite ?_ ?_)
      | (with_reducible refine LeO.bind ?_ (fun _ => ?_))
      | exact ih0 _ _ _
      | exact ih1 _ _ _
      | exact ih2 _ _ _ _ _ _
      | exact ih3 _ _ _ _ _ _
      | exact ih4 _ _ _ _
      | exact ih5 _ _ _ _ _
      | exact cippuslaw07_found.mono _
      | exact cippusref07_Apart.mono _ _ _
      | exact stemma_Depends.mono _ _ _ _
      | exact stemma_Sources.mono _ _
      | exact LeO.none _
      | refine LeO.ite ?_ ?_
      | refine LeO.bind ?_ (fun _ => ?_)
theorem cippuslaw07_StemmaProved.mono : ∀ a0 k, LeO (cippuslaw07_StemmaProved.f k a0) (cippuslaw07_StemmaProved.f (k + 1) a0) := by
  intro a0 k
  obtain ⟨ih0, ih1, ih2, ih3, ih4, ih5⟩ := cippuslaw07_StemmaProved.mono_l k
  unfold cippuslaw07_StemmaProved.f
  repeat' first
      | (with_reducible exact ih0 _ _ _)
      | (with_reducible exact ih1 _ _ _)
      | (with_reducible exact ih2 _ _ _ _ _ _)
      | (with_reducible exact ih3 _ _ _ _ _ _)
      | (with_reducible exact ih4 _ _ _ _)
      | (with_reducible exact ih5 _ _ _ _ _)
      | (with_reducible exact cippuslaw07_found.mono _)
      | (with_reducible exact cippusref07_Apart.mono _ _ _)
      | (with_reducible exact stemma_Depends.mono _ _ _ _)
      | (with_reducible exact stemma_Sources.mono _ _)
      | (with_reducible exact LeO.refl _)
      | (with_reducible exact LeO.none _)
      | (with_reducible refine LeO.ite ?_ ?_)
      | (with_reducible refine LeO.bind ?_ (fun _ => ?_))
      | exact ih0 _ _ _
      | exact ih1 _ _ _
      | exact ih2 _ _ _ _ _ _
      | exact ih3 _ _ _ _ _ _
      | exact ih4 _ _ _ _
      | exact ih5 _ _ _ _ _
      | exact cippuslaw07_found.mono _
      | exact cippusref07_Apart.mono _ _ _
      | exact stemma_Depends.mono _ _ _ _
      | exact stemma_Sources.mono _ _
      | exact LeO.none _
      | refine LeO.ite ?_ ?_
      | refine LeO.bind ?_ (fun _ => ?_)
def cippuslaw07_StemmaProved.T18 : Bool × List (List Nat × List Nat) := (true, [([], []), ([0], [0]), ([1], [1]), ([2], [2]), ([2], [2]), ([3, 4, 2], [2, 3, 4]), ([5, 2], [2, 5]), ([2], [2]), ([6, 7, 2], [2, 6, 7]), ([8, 2], [2, 8]), ([9, 2], [2, 9]), ([2], [2]), ([2], [2]), ([11, 12, 2], [2, 11, 12]), ([13, 2], [2, 13]), ([14, 2], [2, 14]), ([2], [2]), ([2], [2]), ([17, 2], [2, 17]), ([16, 18, 2], [2, 16, 18]), ([19, 2], [2, 19]), ([20, 2], [2, 20]), ([15, 21, 2, 2], [2, 15, 21]), ([2], [2]), ([2], [2]), ([23, 24, 2], [2, 23, 24]), ([25, 2], [2, 25]), ([26, 2], [2, 26]), ([22, 27, 2], [2, 22, 27]), ([10, 28, 2], [2, 10, 28]), ([2, 29], [2, 29])])
def cippuslaw07_StemmaProved.B18 : List Nat := [0, 1, 3, 7, 7, 31, 63, 7, 255, 511, 1023, 7, 7, 6151, 14343, 30727, 7, 7, 131079, 458759, 983047, 2031623, 4192263, 7, 7, 25165831, 58720263, 125829127, 268433415, 536870911, 1073741823]
theorem cippuslaw07_StemmaProved.tab18 : rtab .any (opsOf Try.f12 18) = cippuslaw07_StemmaProved.T18 := by kernel_rfl
theorem cippuslaw07_StemmaProved.bits18 : waitsOk cippuslaw07_StemmaProved.T18.2 cippuslaw07_StemmaProved.B18 = true := by kernel_rfl
theorem undrawn_ {B : Nat} {w W : World} (h : Below B w W.drew) : Below B w W := ⟨h.os, h.tape, h.output, h.size, h.block⟩
set_option maxHeartbeats 8000000 in
set_option maxRecDepth 100000 in
theorem cippuslaw07_StemmaProved.calls (k : Nat) (A0 : Option Addr) (c0 : Nat) (l0 : List Int) (r : Bool) (w : World) (hr0 : Kd.C (Kd.int .i64) w A0 l0.length l0) (hc0 : l0.length ≤ c0) (h : cippuslaw07_StemmaProved.f k l0 = some r) :
    Calls Try.prog 12 #[.slice A0 l0.length c0] w fun e w' => e = .returned (.bool r) ∧ Below w.heap.size w w' := by
  have hu27 := Try.underlying27
  have HR0 := Aside0.mk hr0
  have HC0 := Aside0.mk hc0
  clear hr0 hc0
  have HB := Aside0.mk (Below.refl w.heap.size w)
  have H : ((cippuskit_NewUrn.f l0).bind fun bt675 => ((cippuskit_CopiesOf.f bt675.1 bt675.2 5 6 1).bind fun bt678 => ((stemma_Sources.f k bt678.1).bind fun bt688 => (if bt688.2 = 0 then (cippuslaw07_StemmaProved.j0 k bt678.1 bt688.1 ((bt688.1.length : Int) != (bt678.1.length : Int))) else (cippuslaw07_StemmaProved.j0 k bt678.1 bt688.1 true))))) = some r := h
  clear h
  replace H := Option.bind_eq_some_iff.mp H
  obtain ⟨⟨t675, t676⟩, A20, H⟩ := H
  replace H : ((cippuskit_CopiesOf.f t675 t676 5 6 1).bind fun bt678 => ((stemma_Sources.f k bt678.1).bind fun bt688 => (if bt688.2 = 0 then (cippuslaw07_StemmaProved.j0 k bt678.1 bt688.1 ((bt688.1.length : Int) != (bt678.1.length : Int))) else (cippuslaw07_StemmaProved.j0 k bt678.1 bt688.1 true)))) = some r := H
  have A2 := Aside0.mk A20
  clear A20
  replace H := Option.bind_eq_some_iff.mp H
  obtain ⟨⟨t678, t681, t682, t685, t686⟩, A30, H⟩ := H
  replace H : ((stemma_Sources.f k t678).bind fun bt688 => (if bt688.2 = 0 then (cippuslaw07_StemmaProved.j0 k t678 bt688.1 ((bt688.1.length : Int) != (t678.length : Int))) else (cippuslaw07_StemmaProved.j0 k t678 bt688.1 true))) = some r := H
  have A3 := Aside0.mk A30
  clear A30
  replace H := Option.bind_eq_some_iff.mp H
  obtain ⟨⟨t688, t691⟩, A40, H⟩ := H
  replace H : (if t691 = 0 then (cippuslaw07_StemmaProved.j0 k t678 t688 ((t688.length : Int) != (t678.length : Int))) else (cippuslaw07_StemmaProved.j0 k t678 t688 true)) = some r := H
  have A4 := Aside0.mk A40
  clear A40
  have HC5 := Aside0.mk H
  clear H
  go_enter Try.func12, Try.ntmps12
  go_upto_region 3 with (first | ((with_reducible refine gate_callee (f := 14) rfl ?_); refine goesL_ (some 19) rfl rfl Try.func14 (by kernel_rfl) rfl #[.slice A0 l0.length c0] rfl (by (try simp only [List.map_toArray, List.map_cons, List.map_nil]); first | done | rfl | (simp only [List.length_drop, List.length_take]; rfl)) ?_; (with_reducible refine (cippuskit_NewUrn.calls _ _ l0 t675 t676 w _ ?side1 ?side2 ?side3 A2.out).mono ?_); (case side1 => repeat (first | (with_reducible first | exact HB.out | apply below_alloc | apply pw_below_drewN | apply below_drew1) | exact HB.out)); (case side2 => exact HR0.out); (case side3 => exact HC0.out); rintro e w6 ⟨g677, rfl, hi, hb, hb2⟩; refine ⟨_, rfl, ?_⟩; have n0_ := Aside0.mk (hb); have n1_ := Aside0.mk (hi); clear HB; have HB := n0_; have HI677 := n1_; clear n0_ n1_; (try clear hb); (try clear hb2); (try clear hk); (try clear hi)) | ((with_reducible refine gate_callee (f := 13) rfl ?_); refine goesL_ (some 20) rfl rfl Try.func13 (by kernel_rfl) rfl #[.pointer (some ⟨g677, 0, none⟩), .int .i64 5, .int .i64 6, .int .i64 1] rfl (by (try simp only [List.map_toArray, List.map_cons, List.map_nil]); first | done | rfl | (simp only [List.length_drop, List.length_take]; rfl)) ?_; (with_reducible refine (cippuskit_CopiesOf.calls g677 t675 t676 5 6 1 t678 t681 t682 t685 t686 w _ ?side1 ?side2 A3.out).mono ?_); (case side1 => repeat (first | (with_reducible first | exact HI677.out | apply IsS72.alloc | apply IsS72.drewN | apply IsS72.drew | apply IsS72.set_0 | apply IsS72.set_1) | exact HI677.out)); (case side2 => repeat (first | (with_reducible first | exact HB.out | apply below_alloc | apply pw_below_drewN | apply below_drew1 | refine below_set ?_ (IsS72.ge HI677.out)) | exact HB.out)); rintro e w7 ⟨v679, v683, rfl, ho0, ho1, hi, hb, hk⟩; refine ⟨_, rfl, ?_⟩; have n0_ := Aside0.mk (Kd.R_lower ho0 (below_size (by repeat (first | (with_reducible first | exact HB.out | apply below_alloc | apply pw_below_drewN | apply below_drew1 | refine below_set ?_ (IsS72.ge HI677.out)) | exact HB.out)))); have n1_ := Aside0.mk (Kd.R_lower ho1 (below_size (by repeat (first | (with_reducible first | exact HB.out | apply below_alloc | apply pw_below_drewN | apply below_drew1 | refine below_set ?_ (IsS72.ge HI677.out)) | exact HB.out)))); have n2_ := Aside0.mk (hb); have n3_ := Aside0.mk (hi); clear HB; clear HI677; have HO680 := n0_; have HO684 := n1_; have HB := n2_; have HI677 := n3_; clear n0_ n1_ n2_ n3_; (try clear hb); (try clear hb2); (try clear hk); (try clear hi); (try clear ho0); (try clear ho1)) | ((with_reducible refine gate_dst (N := 4) rfl ?_); (try (refine gate_guard (by rfl) ?_; dsimp only)); refine box_event ?hg (N := 4) ?hd (cs := #[.string (⟨#[]⟩ : ByteArray), .slice none 0 0]) (t := 27) ?hr ?_; (case hd => rfl); (case hg => rfl); (case hr => first | (go_simp; done) | (go_simp; rfl)); intro gb687 hg w8 hbox hb; have n0_ := Aside0.mk (Kd.R_below (by (with_reducible repeat (first | apply Kd.R_alloc | apply Kd.R_drewN | apply Kd.R_drew)); exact HO680.out) hb); have n1_ := Aside0.mk (Kd.R_below (by (with_reducible repeat (first | apply Kd.R_alloc | apply Kd.R_drewN | apply Kd.R_drew)); exact HO684.out) hb); have n2_ := Aside0.mk (IsS72.below (by repeat (first | (with_reducible first | exact HI677.out | apply IsS72.alloc | apply IsS72.drewN | apply IsS72.drew | apply IsS72.set_0 | apply IsS72.set_1) | exact HI677.out)) hb); have n3_ := Aside0.mk (below_step (by repeat (first | (with_reducible first | exact HB.out | apply below_alloc | apply pw_below_drewN | apply below_drew1 | refine below_set ?_ (IsS72.ge HI677.out)) | exact HB.out)) hb); have n4_ := Aside0.mk (hbox); have n5_ := Aside0.mk ((by rw [hg]; exact (below_size (by repeat (first | (with_reducible first | exact HB.out | apply below_alloc | apply pw_below_drewN | apply below_drew1 | refine below_set ?_ (IsS72.ge HI677.out)) | exact HB.out))) : w.heap.size ≤ gb687)); have n6_ := Aside0.mk ((by rw [hg]; exact (below_size (by repeat (first | (with_reducible first | exact HB.out | apply below_alloc | apply pw_below_drewN | apply below_drew1 | refine below_set ?_ (IsS72.ge HI677.out)) | exact HB.out))) : w.heap.size ≤ gb687)); have n7_ := Aside0.mk ((by rw [hg]; exact Nat.ne_of_lt (IsS72.lt (show IsS72 w _ g677 t685 t686 from by repeat (first | (with_reducible first | exact HI677.out | apply IsS72.alloc | apply IsS72.drewN | apply IsS72.drew | apply IsS72.set_0 | apply IsS72.set_1) | exact HI677.out))) : g677 ≠ gb687)); have n8_ := Aside0.mk ((by rw [hg]; exact Nat.ne_of_gt (IsS72.lt (show IsS72 w _ g677 t685 t686 from by repeat (first | (with_reducible first | exact HI677.out | apply IsS72.alloc | apply IsS72.drewN | apply IsS72.drew | apply IsS72.set_0 | apply IsS72.set_1) | exact HI677.out))) : gb687 ≠ g677)); clear HO680; clear HO684; clear HI677; clear HB; have HO680 := n0_; have HO684 := n1_; have HI677 := n2_; have HB := n3_; have BK687 := n4_; have GW687 := n5_; have GE687 := n6_; have NB677_687 := n7_; have NB687_677 := n8_; clear n0_ n1_ n2_ n3_ n4_ n5_ n6_ n7_ n8_; clear hb hbox hg; have hnb9 := NB687_677.out; have hnc9 := NB677_687.out; have hcz10_0 : w8.cell? ⟨gb687, 0, none⟩ = some (.string (⟨#[]⟩ : ByteArray)) := (blk_cell BK687.out 0).trans rfl; have hcz10_1 : w8.cell? ⟨gb687, 1, none⟩ = some (.slice none 0 0) := (blk_cell BK687.out 1).trans rfl; have hfz10_0 := blk_frozen BK687.out 0; have hfz10_1 := blk_frozen BK687.out 1; obtain ⟨Ao11, co11, eo11⟩ := Kd.R_slice HO684.out; subst eo11; obtain ⟨Ao12, co12, eo12⟩ := Kd.R_slice HO680.out; subst eo12) | ((with_reducible refine gate_callee (f := 30) rfl ?_); refine goesL_ (some 25) rfl rfl Try.func30 (by kernel_rfl) rfl #[.slice Ao12 t678.length co12] rfl (by (try simp only [List.map_toArray, List.map_cons, List.map_nil]); first | done | rfl | (simp only [List.length_drop, List.length_take]; rfl)) ?_; (with_reducible refine (stemma_Sources.calls k _ _ t678 t688 t691 _ ?side1 ?side2 A4.out).mono ?_); (case side1 => refine (Kd.R_reads' (e := 24) (base := w.heap.size) (ok := fun k_ => True) (n := t678.length) (c := co12) ?_).2.2; exact (by (with_reducible repeat (first | apply Kd.R_alloc | apply Kd.R_drewN | apply Kd.R_drew)); exact (Kd.R_mono (Kd.R_far (p := ⟨gb687, 1, none⟩) (Kd.R_far (p := ⟨gb687, 0, none⟩) (Kd.R_types HO680.out BK687.out (by decide)) (fun _ hk => hk.2) (.string t681)) (fun _ hk => hk.2) (.slice Ao11 t682.length co11)) (fun _ h_ => h_.1)))); (case side2 => exact (Kd.R_reads' HO680.out).2.1); rintro e w13 ⟨v689, rfl, ho0, hb⟩; refine ⟨_, rfl, ?_⟩; have n0_ := Aside0.mk (Kd.R_below (by (with_reducible repeat (first | apply Kd.R_alloc | apply Kd.R_drewN | apply Kd.R_drew)); exact (Kd.R_mono (Kd.R_far (p := ⟨gb687, 1, none⟩) (Kd.R_far (p := ⟨gb687, 0, none⟩) (Kd.R_types HO680.out BK687.out (by decide)) (fun _ hk => hk.2) (.string t681)) (fun _ hk => hk.2) (.slice Ao11 t682.length co11)) (fun _ h_ => h_.1))) hb); have n1_ := Aside0.mk (Kd.R_below (by (with_reducible repeat (first | apply Kd.R_alloc | apply Kd.R_drewN | apply Kd.R_drew)); exact (Kd.R_mono (Kd.R_far (p := ⟨gb687, 1, none⟩) (Kd.R_far (p := ⟨gb687, 0, none⟩) (Kd.R_types HO684.out BK687.out (by decide)) (fun _ hk => hk.2) (.string t681)) (fun _ hk => hk.2) (.slice Ao11 t682.length co11)) (fun _ h_ => h_.1))) hb); have n2_ := Aside0.mk (Kd.N_lower (Kd.N_mono (ok' := fun k_ => some k_ ≠ (.slice Ao12 t678.length co12 : Value).ownBlock ∧ some k_ ≠ (.slice Ao11 t682.length co11 : Value).ownBlock ∧ k_ ≠ gb687 ∧ k_ ≠ g677) ho0 (fun k_ hk_ => ⟨(Kd.fresh' (Kd.R_lt (by (with_reducible repeat (first | apply Kd.R_alloc | apply Kd.R_drewN | apply Kd.R_drew)); exact (Kd.R_mono (Kd.R_far (p := ⟨gb687, 1, none⟩) (Kd.R_far (p := ⟨gb687, 0, none⟩) (Kd.R_types HO680.out BK687.out (by decide)) (fun _ hk => hk.2) (.string t681)) (fun _ hk => hk.2) (.slice Ao11 t682.length co11)) (fun _ h_ => h_.1)))) k_ hk_), (Kd.fresh' (Kd.R_lt (by (with_reducible repeat (first | apply Kd.R_alloc | apply Kd.R_drewN | apply Kd.R_drew)); exact (Kd.R_mono (Kd.R_far (p := ⟨gb687, 1, none⟩) (Kd.R_far (p := ⟨gb687, 0, none⟩) (Kd.R_types HO684.out BK687.out (by decide)) (fun _ hk => hk.2) (.string t681)) (fun _ hk => hk.2) (.slice Ao11 t682.length co11)) (fun _ h_ => h_.1)))) k_ hk_), (Kd.freshB (g := gb687) (o := .cells #[.string t681, .slice Ao11 t682.length co11] 27 (0, 0)) (by (with_reducible repeat (first | refine blk_drewN ?_ _ | refine blk_drew ?_ | refine blk_alloc ?_ _)); refine blk_put (cs := #[.string t681, .slice none 0 0]) ?_ 1 _ rfl; (with_reducible repeat (first | refine blk_drewN ?_ _ | refine blk_drew ?_ | refine blk_alloc ?_ _)); refine blk_put (cs := #[.string (⟨#[]⟩ : ByteArray), .slice none 0 0]) ?_ 0 _ rfl; (with_reducible repeat (first | refine blk_drewN ?_ _ | refine blk_drew ?_ | refine blk_alloc ?_ _)); exact BK687.out) k_ hk_), (IsS72.fresh (by repeat (first | (with_reducible first | exact HI677.out | apply IsS72.alloc | apply IsS72.drewN | apply IsS72.drew | apply IsS72.set_0 | apply IsS72.set_1 | refine IsS72.far ?_ NB677_687.out _) | exact HI677.out)) k_ hk_)⟩)) (below_size (by repeat (first | (with_reducible first | exact HB.out | apply below_alloc | apply pw_below_drewN | apply below_drew1 | refine below_set ?_ (IsS72.ge HI677.out) | refine below_set ?_ GE687.out) | exact HB.out)))); have n3_ := Aside0.mk (IsS72.below (show IsS72 w ((w8.setCell ⟨gb687, 0, none⟩ (.string t681)).setCell ⟨gb687, 1, none⟩ (.slice Ao11 t682.length co11)) g677 t685 t686 from by repeat (first | (with_reducible first | exact HI677.out | apply IsS72.alloc | apply IsS72.drewN | apply IsS72.drew | apply IsS72.set_0 | apply IsS72.set_1 | refine IsS72.far ?_ NB677_687.out _) | exact HI677.out)) hb); have n4_ := Aside0.mk (blk_below (g := gb687) (o := .cells #[.string t681, .slice Ao11 t682.length co11] 27 (0, 0)) (by (with_reducible repeat (first | refine blk_drewN ?_ _ | refine blk_drew ?_ | refine blk_alloc ?_ _)); refine blk_put (cs := #[.string t681, .slice none 0 0]) ?_ 1 _ rfl; (with_reducible repeat (first | refine blk_drewN ?_ _ | refine blk_drew ?_ | refine blk_alloc ?_ _)); refine blk_put (cs := #[.string (⟨#[]⟩ : ByteArray), .slice none 0 0]) ?_ 0 _ rfl; (with_reducible repeat (first | refine blk_drewN ?_ _ | refine blk_drew ?_ | refine blk_alloc ?_ _)); exact BK687.out) hb); have n5_ := Aside0.mk (below_step (by repeat (first | (with_reducible first | exact HB.out | apply below_alloc | apply pw_below_drewN | apply below_drew1 | refine below_set ?_ (IsS72.ge HI677.out) | refine below_set ?_ GE687.out) | exact HB.out)) hb); clear HO680; clear HO684; clear HI677; clear BK687; clear HB; have HO680 := n0_; have HO684 := n1_; have HO690 := n2_; have HI677 := n3_; have BK687 := n4_; have HB := n5_; clear n0_ n1_ n2_ n3_ n4_ n5_; (try clear hb); (try clear hb2); (try clear hk); (try clear hi); (try clear ho0)))
  (try simp only [Act.put, List.setIfInBounds_toArray, List.set_cons_zero, List.set_cons_succ])
  go_cut [36] (fun v36 wc => ∃ (kq : Nat) (x36_4 : Bool), v36 = .bool x36_4 ∧ Aside0 (cippuslaw07_StemmaProved.j0 kq t678 t688 x36_4 = some r) ∧ Aside0 (kq ≤ k) ∧ Aside0 (Kd.R k24 24 wc w.heap.size (fun _ => True) (.slice Ao12 t678.length co12) t678) ∧ Aside0 (Kd.N (Kd.slice 3 (Kd.int .i64)) 25 wc w.heap.size (fun k_ => some k_ ≠ ((.slice Ao12 t678.length co12) : Value).ownBlock ∧ some k_ ≠ ((.slice Ao11 t682.length co11) : Value).ownBlock ∧ k_ ≠ gb687) v689 t688) ∧ Aside0 (Kd.R (Kd.int .i64) 3 wc w.heap.size (fun _ => True) (.slice Ao11 t682.length co11) t682) ∧ Aside0 (wc.heap[gb687]? = some (.cells #[.string t681, (.slice Ao11 t682.length co11)] 27 (0, 0))) ∧ Aside0 (Below w.heap.size w wc))
  case first => as_aux_lemma =>
    have H := HC5.out
    clear HC5
    by_cases c14 : t691 = 0
    · rw [if_pos c14] at H
      have c14b0 : (t691 == 0) = true := beq_iff_eq.mpr c14
      have c14b1 : (t691 != 0) = false := bne_eq_false_iff_eq.mpr c14
      clear c14
      (first | rw [c14b0] | (simp only [i64_w, i32_w]; rw [c14b0]) | skip)
      have H' := Aside0.mk H
      clear H
      obtain ⟨Ao15, co15, eo15⟩ := Kd.N_slice HO690.out
      subst eo15
      go_wp2
      go_meet
      case rel => exact ⟨_, (((t688.length : Int) != (t678.length : Int))), (by first | rfl | (simp; done) | (simp [*]; done)), H', ⟨by first | omega | exact Nat.le_refl _⟩, ⟨by (with_reducible repeat (first | apply Kd.R_alloc | apply Kd.R_drewN | apply Kd.R_drew)); exact HO680.out⟩, ⟨by (with_reducible repeat (first | apply Kd.N_alloc | apply Kd.N_drewN | apply Kd.N_drew)); exact Kd.N_mono HO690.out (fun _ hk => ⟨hk.1, ⟨hk.2.1, hk.2.2.1⟩⟩)⟩, ⟨by (with_reducible repeat (first | apply Kd.R_alloc | apply Kd.R_drewN | apply Kd.R_drew)); exact HO684.out⟩, ⟨by (with_reducible repeat (first | refine blk_drewN ?_ _ | refine blk_drew ?_ | refine blk_alloc ?_ _)); exact BK687.out⟩, ⟨by repeat (first | (with_reducible first | exact HB.out | apply below_alloc | apply pw_below_drewN | apply below_drew1 | refine below_set ?_ (IsS72.ge HI677.out) | refine below_set ?_ GE687.out) | exact HB.out | exact undrawn_ HB.out)⟩⟩
    · rw [if_neg c14] at H
      have c14b0 : (t691 == 0) = false := beq_eq_false_iff_ne.mpr c14
      have c14b1 : (t691 != 0) = true := bne_iff_ne.mpr c14
      (first | rw [c14b0] | (simp only [i64_w, i32_w]; rw [c14b0]) | skip)
      have H' := Aside0.mk H
      clear H
      go_wp2
      go_meet
      case rel => exact ⟨_, (true), (by first | rfl | (simp; done) | (simp [*]; done)), H', ⟨by first | omega | exact Nat.le_refl _⟩, ⟨by (with_reducible repeat (first | apply Kd.R_alloc | apply Kd.R_drewN | apply Kd.R_drew)); exact HO680.out⟩, ⟨by (with_reducible repeat (first | apply Kd.N_alloc | apply Kd.N_drewN | apply Kd.N_drew)); exact Kd.N_mono HO690.out (fun _ hk => ⟨hk.1, ⟨hk.2.1, hk.2.2.1⟩⟩)⟩, ⟨by (with_reducible repeat (first | apply Kd.R_alloc | apply Kd.R_drewN | apply Kd.R_drew)); exact HO684.out⟩, ⟨by (with_reducible repeat (first | refine blk_drewN ?_ _ | refine blk_drew ?_ | refine blk_alloc ?_ _)); exact BK687.out⟩, ⟨by repeat (first | (with_reducible first | exact HB.out | apply below_alloc | apply pw_below_drewN | apply below_drew1 | refine below_set ?_ (IsS72.ge HI677.out) | refine below_set ?_ GE687.out) | exact HB.out | exact undrawn_ HB.out)⟩⟩
  case rest => as_aux_lemma =>
    clear HC5
    try clear c1
    try clear p2
    try clear c3
    try clear c9
    try clear c12
    try clear c13
    try clear c14
    try clear c14b0
    try clear c14b1
    try clear hcz10_0
    try clear hcz10_1
    try clear hfz10_0
    try clear hfz10_1
    obtain ⟨kq, x36_4, rfl, HA, HJ4, HO_3, HO_5, HO_688001, BK687, HB⟩ := hcut
    cases kq with
    | zero => exact absurd HA.out (by simp [cippuslaw07_StemmaProved.j0])
    | succ kj4 =>
      have H := HA.out
      clear HA
      simp only [cippuslaw07_StemmaProved.j0] at H
      by_cases c16 : x36_4 = true
      · subst c16
        have H1 : (some false) = some r := by rw [if_pos rfl] at H; exact H
        clear H
        have H := H1
        clear H1
        obtain rfl := Option.some.inj H
        go_wp2
        go_ret
        exact ⟨by first | rfl | (simp [errW_none, errW_some] <;> rfl) | (simp [*, errW_none, errW_some] <;> rfl), by repeat (first | (with_reducible first | exact HB.out | apply below_alloc | apply pw_below_drewN | apply below_drew1 | refine below_set ?_ GE687.out) | exact HB.out | exact undrawn_ HB.out)⟩
      · replace c16 := Bool.eq_false_iff.mpr c16
        subst c16
        have H1 : (cippuslaw07_StemmaProved.l0 kj4 t678 t688 0) = some r := by rw [if_neg (show ¬ (false = true) by decide)] at H; exact H
        clear H
        have H := H1
        clear H1
        have H' := Aside0.mk H
        clear H
        go_wp2
        go_loopg [7] kj4 (fun kq v7 w' => ∃ (x7_2 : Int), v7 = .int .i64 x7_2 ∧ Aside0 (cippuslaw07_StemmaProved.l0 kq t678 t688 x7_2 = some r) ∧ Aside0 (kq ≤ kj4) ∧ Aside0 (Kd.R k24 24 w' w.heap.size (fun _ => True) (.slice Ao12 t678.length co12) t678) ∧ Aside0 (Kd.N (Kd.slice 3 (Kd.int .i64)) 25 w' w.heap.size (fun k_ => some k_ ≠ ((.slice Ao12 t678.length co12) : Value).ownBlock ∧ some k_ ≠ ((.slice Ao11 t682.length co11) : Value).ownBlock ∧ k_ ≠ gb687) v689 t688) ∧ Aside0 (Kd.R (Kd.int .i64) 3 w' w.heap.size (fun _ => True) (.slice Ao11 t682.length co11) t682) ∧ Aside0 (w'.heap[gb687]? = some (.cells #[.string t681, (.slice Ao11 t682.length co11)] 27 (0, 0))) ∧ Aside0 (Below w.heap.size w w'))
        case atStart => exact ⟨(0), (by first | rfl | (simp; done) | (simp [*]; done)), H', ⟨Nat.le_refl _⟩, ⟨by (with_reducible repeat (first | apply Kd.R_alloc | apply Kd.R_drewN | apply Kd.R_drew)); exact HO_3.out⟩, ⟨by (with_reducible repeat (first | apply Kd.N_alloc | apply Kd.N_drewN | apply Kd.N_drew)); exact HO_5.out⟩, ⟨by (with_reducible repeat (first | apply Kd.R_alloc | apply Kd.R_drewN | apply Kd.R_drew)); exact HO_688001.out⟩, ⟨by (with_reducible repeat (first | refine blk_drewN ?_ _ | refine blk_drew ?_ | refine blk_alloc ?_ _)); exact BK687.out⟩, ⟨by repeat (first | (with_reducible first | exact HB.out | apply below_alloc | apply pw_below_drewN | apply below_drew1 | refine below_set ?_ GE687.out) | exact HB.out | exact undrawn_ HB.out)⟩⟩
        case round => as_aux_lemma =>
          clear H'
          try clear c1
          try clear p2
          try clear c3
          try clear c9
          try clear c12
          try clear c13
          try clear c14
          try clear c14b0
          try clear c14b1
          try clear c16
          try clear hcz10_0
          try clear hcz10_1
          try clear hfz10_0
          try clear hfz10_1
          try clear p2
          obtain ⟨x7_2, rfl, HA, HK2, HO_3, HO_5, HO_688001, BK687, HB⟩ := hrel
          cases gk with
          | zero => exact absurd HA.out (by simp [cippuslaw07_StemmaProved.l0])
          | succ k2 =>
            have H := HA.out
            clear HA
            simp only [cippuslaw07_StemmaProved.l0] at H
            by_cases c17 : x7_2 < (t678.length : Int)
            · rw [if_pos c17] at H
              have c17b0 : decide (x7_2 < (t678.length : Int)) = true := decide_eq_true c17
              clear c17
              by_cases c18 : 0 ≤ x7_2
              · rw [if_pos c18] at H
                have c18b0 : decide (0 ≤ x7_2) = true := decide_eq_true c18
                clear c18
                by_cases c19 : x7_2 < (t688.length : Int)
                · rw [if_pos c19] at H
                  have c19b0 : decide (x7_2 < (t688.length : Int)) = true := decide_eq_true c19
                  clear c19
                  by_cases c20 : ((rd_L4 t688 x7_2).length : Int) = (wrap64 (x7_2 + 1))
                  · rw [if_pos c20] at H
                    have c20b0 : (((rd_L4 t688 x7_2).length : Int) == (wrap64 (x7_2 + 1))) = true := beq_iff_eq.mpr c20
                    have c20b1 : (((rd_L4 t688 x7_2).length : Int) != (wrap64 (x7_2 + 1))) = false := bne_eq_false_iff_eq.mpr c20
                    clear c20
                    have H' := Aside0.mk H
                    clear H
                    obtain ⟨Ao21, co21, eo21⟩ := Kd.N_slice HO_5.out
                    subst eo21
                    have p693 : 0 ≤ (x7_2 : Int) := of_decide_eq_true (by first | (with_reducible assumption) | assumption)
                    have q693 : x7_2 < (t688.length : Int) := of_decide_eq_true (by first | (with_reducible assumption) | assumption)
                    obtain ⟨ad693, A693_0, c693_0, e693, hx693_0, hl693_0, hi693_0⟩ := at_L4 (Kd.N_reads' HO_5.out).2.2 x7_2 p693 q693
                    cases e693
                    obtain ⟨ce693, hce693, hMe693, hcc693⟩ := Kd.N_get HO_5.out [] x7_2 p693 (by first | exact q693 | exact of_decide_eq_true (by first | (with_reducible assumption) | assumption) | (have e_ := (Kd.N_reads' HO_5.out).1; omega))
                    obtain ⟨ua693_0, uc693_0, rfl, ul693_0, ge693_0⟩ := Kd.FK_slice_open hMe693
                    have hv693_0 := hcc693 0 _ rfl
                    rw [Nat.add_zero, show ((Kd.slice 3 (Kd.int .i64))).sz = 1 from rfl, Nat.mul_one] at hv693_0
                    replace hv693_0 := Option.some.inj (hv693_0.symm.trans hx693_0)
                    injection hv693_0 with hva_ hvn_ hvc_
                    rw [hva_] at ge693_0
                    rw [hvc_] at ul693_0
                    have HL693_0 := Aside0.mk (show Kd.V (Kd.int .i64) 3 _ w.heap.size _ _ (rd_L4 t688 x7_2) from Kd.V_mk ul693_0 ge693_0)
                    clear hva_ hvn_ hvc_ ge693_0 ul693_0
                    clear hcc693 hce693
                    have HR693_0 := Aside0.mk hi693_0
                    have HC693_0 := Aside0.mk hl693_0
                    clear hi693_0 hl693_0
                    replace p693 := eq_true p693
                    replace q693 := eq_true q693
                    go_wp2
                    go_loopg [8, 9, 10] k2 (fun kq v8 v9 v10 w' => ∃ (x8_3 : Int) (x9_3 : Int) (x10_3 : Int), v8 = .int .i64 x8_3 ∧ v9 = .int .i64 x9_3 ∧ v10 = .int .i64 x10_3 ∧ Aside0 (cippuslaw07_StemmaProved.l1 kq t678 t688 x7_2 x8_3 x9_3 x10_3 = some r) ∧ Aside0 (kq ≤ k2) ∧ Aside0 (Kd.R k24 24 w' w.heap.size (fun _ => True) (.slice Ao12 t678.length co12) t678) ∧ Aside0 (Kd.N (Kd.slice 3 (Kd.int .i64)) 25 w' w.heap.size (fun k_ => some k_ ≠ ((.slice Ao12 t678.length co12) : Value).ownBlock ∧ some k_ ≠ ((.slice Ao11 t682.length co11) : Value).ownBlock ∧ k_ ≠ gb687) (.slice (some ad693) t688.length co21) t688) ∧ Aside0 (Kd.R (Kd.int .i64) 3 w' w.heap.size (fun _ => True) (.slice Ao11 t682.length co11) t682) ∧ Aside0 (w'.heap[gb687]? = some (.cells #[.string t681, (.slice Ao11 t682.length co11)] 27 (0, 0))) ∧ Aside0 (Kd.C (Kd.int .i64) w' A693_0 (rd_L4 t688 x7_2).length (rd_L4 t688 x7_2)) ∧ Aside0 (Below w.heap.size w w'))
                    case atStart => exact ⟨(0), (0), (0), (by first | rfl | (simp; done) | (simp [*]; done)), (by first | rfl | (simp; done) | (simp [*]; done)), (by first | rfl | (simp; done) | (simp [*]; done)), H', ⟨Nat.le_refl _⟩, ⟨by (with_reducible repeat (first | apply Kd.R_alloc | apply Kd.R_drewN | apply Kd.R_drew)); exact HO_3.out⟩, ⟨by (with_reducible repeat (first | apply Kd.N_alloc | apply Kd.N_drewN | apply Kd.N_drew)); exact HO_5.out⟩, ⟨by (with_reducible repeat (first | apply Kd.R_alloc | apply Kd.R_drewN | apply Kd.R_drew)); exact HO_688001.out⟩, ⟨by (with_reducible repeat (first | refine blk_drewN ?_ _ | refine blk_drew ?_ | refine blk_alloc ?_ _)); exact BK687.out⟩, ⟨by repeat (first | (with_reducible exact HR693_0.out) | (with_reducible refine Kd.C_alloc ?_ _) | (with_reducible refine Kd.C_drewN ?_ _) | (with_reducible refine Kd.C_drew ?_) | exact HR693_0.out)⟩, ⟨by repeat (first | (with_reducible first | exact HB.out | apply below_alloc | apply pw_below_drewN | apply below_drew1 | refine below_set ?_ GE687.out) | exact HB.out | exact undrawn_ HB.out)⟩⟩
                    case round => as_aux_lemma =>
                      clear H'
                      try clear c1
                      try clear c2
                      try clear p2
                      try clear c3
                      try clear c6
                      try clear p6
                      try clear q6
                      try clear hx6
                      try clear c9
                      try clear c12
                      try clear c13
                      try clear c14
                      try clear c14b0
                      try clear c14b1
                      try clear c16
                      try clear c17
                      try clear c17b0
                      try clear c18
                      try clear c18b0
                      try clear c19
                      try clear c19b0
                      try clear c20
                      try clear c20b0
                      try clear c20b1
                      try clear hcz10_0
                      try clear hcz10_1
                      try clear hfz10_0
                      try clear hfz10_1
                      try clear hx693_0
                      try clear p2
                      try clear p693
                      try clear q693
                      obtain ⟨x8_3, x9_3, x10_3, rfl, rfl, rfl, HA, HK3, HO_3, HO_5, HO_688001, BK687, HR693_0, HB⟩ := hrel
                      cases gk with
                      | zero => exact absurd HA.out (by simp [cippuslaw07_StemmaProved.l1])
                      | succ k3 =>
                        have H := HA.out
                        clear HA
                        simp only [cippuslaw07_StemmaProved.l1] at H
                        by_cases c22 : x10_3 ≤ x7_2
                        · rw [if_pos c22] at H
                          have c22b0 : decide (x10_3 ≤ x7_2) = true := decide_eq_true c22
                          clear c22
                          by_cases c23 : 0 ≤ x7_2
                          · rw [if_pos c23] at H
                            have c23b0 : decide (0 ≤ x7_2) = true := decide_eq_true c23
                            clear c23
                            by_cases c24 : x7_2 < (t688.length : Int)
                            · rw [if_pos c24] at H
                              have c24b0 : decide (x7_2 < (t688.length : Int)) = true := decide_eq_true c24
                              clear c24
                              by_cases c25 : 0 ≤ x10_3
                              · rw [if_pos c25] at H
                                have c25b0 : decide (0 ≤ x10_3) = true := decide_eq_true c25
                                clear c25
                                by_cases c26 : x10_3 < ((rd_L4 t688 x7_2).length : Int)
                                · rw [if_pos c26] at H
                                  have c26b0 : decide (x10_3 < ((rd_L4 t688 x7_2).length : Int)) = true := decide_eq_true c26
                                  clear c26
                                  have HC27 := Aside0.mk H
                                  clear H
                                  have p694 : 0 ≤ (x7_2 : Int) := of_decide_eq_true (by first | (with_reducible assumption) | assumption)
                                  have q694 : x7_2 < (t688.length : Int) := of_decide_eq_true (by first | (with_reducible assumption) | assumption)
                                  obtain ⟨ad694, A694_0, c694_0, e694, hx694_0, hl694_0, hi694_0⟩ := at_L4 (Kd.N_reads' HO_5.out).2.2 x7_2 p694 q694
                                  obtain rfl : ad693 = ad694 := (by injection e694)
                                  obtain ⟨ce694, hce694, hMe694, hcc694⟩ := Kd.N_get HO_5.out [] x7_2 p694 (by first | exact q694 | exact of_decide_eq_true (by first | (with_reducible assumption) | assumption) | (have e_ := (Kd.N_reads' HO_5.out).1; omega))
                                  obtain ⟨ua694_0, uc694_0, rfl, ul694_0, ge694_0⟩ := Kd.FK_slice_open hMe694
                                  have hv694_0 := hcc694 0 _ rfl
                                  rw [Nat.add_zero, show ((Kd.slice 3 (Kd.int .i64))).sz = 1 from rfl, Nat.mul_one] at hv694_0
                                  replace hv694_0 := Option.some.inj (hv694_0.symm.trans hx694_0)
                                  injection hv694_0 with hva_ hvn_ hvc_
                                  rw [hva_] at ge694_0
                                  rw [hvc_] at ul694_0
                                  have HL694_0 := Aside0.mk (show Kd.V (Kd.int .i64) 3 _ w.heap.size _ _ (rd_L4 t688 x7_2) from Kd.V_mk ul694_0 ge694_0)
                                  clear hva_ hvn_ hvc_ ge694_0 ul694_0
                                  clear hcc694 hce694
                                  have HR694_0 := Aside0.mk hi694_0
                                  have HC694_0 := Aside0.mk hl694_0
                                  clear hi694_0 hl694_0
                                  replace p694 := eq_true p694
                                  replace q694 := eq_true q694
                                  have p695 : 0 ≤ (x10_3 : Int) := of_decide_eq_true (by first | (with_reducible assumption) | assumption)
                                  have q695 : x10_3 < ((rd_L4 t688 x7_2).length : Int) := of_decide_eq_true (by first | (with_reducible assumption) | assumption)
                                  obtain ⟨ad695, e695, hx695_0⟩ := Kd.at_int (by repeat (first | (with_reducible exact HR694_0.out) | (with_reducible refine Kd.C_alloc ?_ _) | (with_reducible refine Kd.C_drewN ?_ _) | (with_reducible refine Kd.C_drew ?_) | exact HR694_0.out)) x10_3 p695 q695
                                  cases e695
                                  replace p695 := eq_true p695
                                  replace q695 := eq_true q695
                                  go_upto_if 63 with (fail)
                                  go_cut [8] (fun v8 wc => ∃ (kq : Nat) (x8_26 : Int), v8 = .int .i64 x8_26 ∧ Aside0 (cippuslaw07_StemmaProved.j3 kq t678 t688 x7_2 x8_26 x9_3 x10_3 = some r) ∧ Aside0 (kq ≤ k3) ∧ Aside0 (Kd.R k24 24 wc w.heap.size (fun _ => True) (.slice Ao12 t678.length co12) t678) ∧ Aside0 (Kd.N (Kd.slice 3 (Kd.int .i64)) 25 wc w.heap.size (fun k_ => some k_ ≠ ((.slice Ao12 t678.length co12) : Value).ownBlock ∧ some k_ ≠ ((.slice Ao11 t682.length co11) : Value).ownBlock ∧ k_ ≠ gb687) (.slice (some ad693) t688.length co21) t688) ∧ Aside0 (Kd.R (Kd.int .i64) 3 wc w.heap.size (fun _ => True) (.slice Ao11 t682.length co11) t682) ∧ Aside0 (wc.heap[gb687]? = some (.cells #[.string t681, (.slice Ao11 t682.length co11)] 27 (0, 0))) ∧ Aside0 (Kd.C (Kd.int .i64) wc A693_0 (rd_L4 t688 x7_2).length (rd_L4 t688 x7_2)) ∧ Aside0 (Kd.C (Kd.int .i64) wc (some ad695) (rd_L4 t688 x7_2).length (rd_L4 t688 x7_2)) ∧ Aside0 (Below w.heap.size w wc))
                                  case first => as_aux_lemma =>
                                    have H := HC27.out
                                    clear HC27
                                    by_cases c28 : (rd (rd_L4 t688 x7_2) x10_3) = 2
                                    · rw [if_pos c28] at H
                                      have c28b0 : ((rd (rd_L4 t688 x7_2) x10_3) == 2) = true := beq_iff_eq.mpr c28
                                      have c28b1 : ((rd (rd_L4 t688 x7_2) x10_3) != 2) = false := bne_eq_false_iff_eq.mpr c28
                                      clear c28
                                      (first | rw [c28b0] | (simp only [i64_w, i32_w]; rw [c28b0]) | skip)
                                      have H' := Aside0.mk H
                                      clear H
                                      go_wp2
                                      go_meet
                                      case rel => exact ⟨_, (x8_3), (by first | rfl | (simp; done) | (simp [*]; done)), H', ⟨by have := HJ4.out; have := HK2.out; have := HK3.out; first | omega | exact Nat.le_refl _⟩, ⟨by (with_reducible repeat (first | apply Kd.R_alloc | apply Kd.R_drewN | apply Kd.R_drew)); exact HO_3.out⟩, ⟨by (with_reducible repeat (first | apply Kd.N_alloc | apply Kd.N_drewN | apply Kd.N_drew)); exact HO_5.out⟩, ⟨by (with_reducible repeat (first | apply Kd.R_alloc | apply Kd.R_drewN | apply Kd.R_drew)); exact HO_688001.out⟩, ⟨by (with_reducible repeat (first | refine blk_drewN ?_ _ | refine blk_drew ?_ | refine blk_alloc ?_ _)); exact BK687.out⟩, ⟨by repeat (first | (with_reducible exact HR693_0.out) | (with_reducible refine Kd.C_alloc ?_ _) | (with_reducible refine Kd.C_drewN ?_ _) | (with_reducible refine Kd.C_drew ?_) | exact HR693_0.out)⟩, ⟨by repeat (first | (with_reducible exact HR694_0.out) | (with_reducible refine Kd.C_alloc ?_ _) | (with_reducible refine Kd.C_drewN ?_ _) | (with_reducible refine Kd.C_drew ?_) | exact HR694_0.out)⟩, ⟨by repeat (first | (with_reducible first | exact HB.out | apply below_alloc | apply pw_below_drewN | apply below_drew1 | refine below_set ?_ GE687.out) | exact HB.out | exact undrawn_ HB.out)⟩⟩
                                    · rw [if_neg c28] at H
                                      have c28b0 : ((rd (rd_L4 t688 x7_2) x10_3) == 2) = false := beq_eq_false_iff_ne.mpr c28
                                      have c28b1 : ((rd (rd_L4 t688 x7_2) x10_3) != 2) = true := bne_iff_ne.mpr c28
                                      (first | rw [c28b0] | (simp only [i64_w, i32_w]; rw [c28b0]) | skip)
                                      have H' := Aside0.mk H
                                      clear H
                                      go_wp2
                                      go_meet
                                      case rel => exact ⟨_, (wrap64 (x8_3 + 1)), (by first | rfl | (simp; done) | (simp [*]; done)), H', ⟨by have := HJ4.out; have := HK2.out; have := HK3.out; first | omega | exact Nat.le_refl _⟩, ⟨by (with_reducible repeat (first | apply Kd.R_alloc | apply Kd.R_drewN | apply Kd.R_drew)); exact HO_3.out⟩, ⟨by (with_reducible repeat (first | apply Kd.N_alloc | apply Kd.N_drewN | apply Kd.N_drew)); exact HO_5.out⟩, ⟨by (with_reducible repeat (first | apply Kd.R_alloc | apply Kd.R_drewN | apply Kd.R_drew)); exact HO_688001.out⟩, ⟨by (with_reducible repeat (first | refine blk_drewN ?_ _ | refine blk_drew ?_ | refine blk_alloc ?_ _)); exact BK687.out⟩, ⟨by repeat (first | (with_reducible exact HR693_0.out) | (with_reducible refine Kd.C_alloc ?_ _) | (with_reducible refine Kd.C_drewN ?_ _) | (with_reducible refine Kd.C_drew ?_) | exact HR693_0.out)⟩, ⟨by repeat (first | (with_reducible exact HR694_0.out) | (with_reducible refine Kd.C_alloc ?_ _) | (with_reducible refine Kd.C_drewN ?_ _) | (with_reducible refine Kd.C_drew ?_) | exact HR694_0.out)⟩, ⟨by repeat (first | (with_reducible first | exact HB.out | apply below_alloc | apply pw_below_drewN | apply below_drew1 | refine below_set ?_ GE687.out) | exact HB.out | exact undrawn_ HB.out)⟩⟩
                                  case rest => as_aux_lemma =>
                                    clear HC27
                                    try clear c1
                                    try clear c2
                                    try clear p2
                                    try clear c3
                                    try clear c6
                                    try clear p6
                                    try clear q6
                                    try clear hx6
                                    try clear c9
                                    try clear c12
                                    try clear c13
                                    try clear c14
                                    try clear c14b0
                                    try clear c14b1
                                    try clear c16
                                    try clear c17
                                    try clear c17b0
                                    try clear c18
                                    try clear c18b0
                                    try clear c19
                                    try clear c19b0
                                    try clear c20
                                    try clear c20b0
                                    try clear c20b1
                                    try clear c22
                                    try clear c22b0
                                    try clear c23
                                    try clear c23b0
                                    try clear c24
                                    try clear c24b0
                                    try clear c25
                                    try clear c25b0
                                    try clear c26
                                    try clear c26b0
                                    try clear c28
                                    try clear c28b0
                                    try clear c28b1
                                    try clear hcz10_0
                                    try clear hcz10_1
                                    try clear hfz10_0
                                    try clear hfz10_1
                                    try clear hx693_0
                                    try clear hx694_0
                                    try clear hx695_0
                                    try clear p2
                                    try clear p6
                                    try clear p693
                                    try clear p694
                                    try clear p695
                                    try clear q6
                                    try clear q693
                                    try clear q694
                                    try clear q695
                                    obtain ⟨kq, x8_26, rfl, HA, HJ26, HO_3, HO_5, HO_688001, BK687, HR693_0, HR694_0, HB⟩ := hcut
                                    cases kq with
                                    | zero => exact absurd HA.out (by simp [cippuslaw07_StemmaProved.j3])
                                    | succ kj26 =>
                                      have H := HA.out
                                      clear HA
                                      simp only [cippuslaw07_StemmaProved.j3] at H
                                      by_cases c29 : 0 ≤ x7_2
                                      · rw [if_pos c29] at H
                                        have c29b0 : decide (0 ≤ x7_2) = true := decide_eq_true c29
                                        clear c29
                                        by_cases c30 : x7_2 < (t688.length : Int)
                                        · rw [if_pos c30] at H
                                          have c30b0 : decide (x7_2 < (t688.length : Int)) = true := decide_eq_true c30
                                          clear c30
                                          by_cases c31 : 0 ≤ x10_3
                                          · rw [if_pos c31] at H
                                            have c31b0 : decide (0 ≤ x10_3) = true := decide_eq_true c31
                                            clear c31
                                            by_cases c32 : x10_3 < ((rd_L4 t688 x7_2).length : Int)
                                            · rw [if_pos c32] at H
                                              have c32b0 : decide (x10_3 < ((rd_L4 t688 x7_2).length : Int)) = true := decide_eq_true c32
                                              clear c32
                                              by_cases c33 : (rd (rd_L4 t688 x7_2) x10_3) = 1
                                              · rw [if_pos c33] at H
                                                have c33b0 : ((rd (rd_L4 t688 x7_2) x10_3) == 1) = true := beq_iff_eq.mpr c33
                                                have c33b1 : ((rd (rd_L4 t688 x7_2) x10_3) != 1) = false := bne_eq_false_iff_eq.mpr c33
                                                clear c33
                                                by_cases c34 : x10_3 > 0
                                                · rw [if_pos c34] at H
                                                  have c34b0 : decide (0 < x10_3) = true := decide_eq_true c34
                                                  clear c34
                                                  by_cases c35 : x7_2 < (t678.length : Int)
                                                  · rw [if_pos c35] at H
                                                    have c35b0 : decide (x7_2 < (t678.length : Int)) = true := decide_eq_true c35
                                                    clear c35
                                                    obtain ⟨ji36, hji36⟩ : ∃ j_ : Int, (wrap64 (x10_3 - 1)) = j_ := ⟨_, rfl⟩
                                                    replace H : (if 0 ≤ (ji36) then (if (ji36) < (t678.length : Int) then ((cippusref07_Apart.f kj26 ((rd_T24 t678 x7_2).f0) ((rd_T24 t678 (ji36)).f0)).bind fun t702 => (if (((rd (rd_L4 t688 x7_2) x10_3) != 2) != (decide (t702 ≤ ((rd_T24 t678 x7_2).f1)))) = true then (some false) else (cippuslaw07_StemmaProved.l1 kj26 t678 t688 x7_2 x8_26 (wrap64 (x9_3 + 1)) (wrap64 (x10_3 + 1))))) else (none)) else (none)) = some r := by first | (rw [hji36] at H; exact H) | (simp only [hji36] at H ⊢; exact H)
                                                    have hji36w : (IntKind.i64.wrap (x10_3 - 1)) = ji36 := (i64_w _).trans hji36
                                                    by_cases c37 : 0 ≤ (ji36)
                                                    · rw [if_pos c37] at H
                                                      have c37b0 : decide (0 ≤ (ji36)) = true := decide_eq_true c37
                                                      clear c37
                                                      by_cases c38 : (ji36) < (t678.length : Int)
                                                      · rw [if_pos c38] at H
                                                        have c38b0 : decide ((ji36) < (t678.length : Int)) = true := decide_eq_true c38
                                                        clear c38
                                                        replace H := Option.bind_eq_some_iff.mp H
                                                        obtain ⟨t702, A390, H⟩ := H
                                                        replace H : (if (((rd (rd_L4 t688 x7_2) x10_3) != 2) != (decide (t702 ≤ ((rd_T24 t678 x7_2).f1)))) = true then (some false) else (cippuslaw07_StemmaProved.l1 kj26 t678 t688 x7_2 x8_26 (wrap64 (x9_3 + 1)) (wrap64 (x10_3 + 1)))) = some r := H
                                                        have A39 := Aside0.mk A390
                                                        clear A390
                                                        by_cases c40 : (((rd (rd_L4 t688 x7_2) x10_3) != 2) != (decide (t702 ≤ ((rd_T24 t678 x7_2).f1)))) = true
                                                        · rw [if_pos c40] at H
                                                          have c40b0 : (((rd (rd_L4 t688 x7_2) x10_3) != 2) != (decide (t702 ≤ ((rd_T24 t678 x7_2).f1)))) = true := c40
                                                          (try (have c40b1 : decide (((rd (rd_L4 t688 x7_2) x10_3) != 2) = (decide (t702 ≤ ((rd_T24 t678 x7_2).f1)))) = false := by simpa using c40))
                                                          (try (have c40b2 : (((rd (rd_L4 t688 x7_2) x10_3) != 2) == (decide (t702 ≤ ((rd_T24 t678 x7_2).f1)))) = false := by simpa using c40))
                                                          (try (have c40b3 : ¬ (((rd (rd_L4 t688 x7_2) x10_3) != 2) = (decide (t702 ≤ ((rd_T24 t678 x7_2).f1)))) := by simpa using c40))
                                                          clear c40
                                                          obtain rfl := Option.some.inj H
                                                          have p696 : 0 ≤ (x7_2 : Int) := of_decide_eq_true (by first | (with_reducible assumption) | assumption)
                                                          have q696 : x7_2 < (t688.length : Int) := of_decide_eq_true (by first | (with_reducible assumption) | assumption)
                                                          obtain ⟨ad696, A696_0, c696_0, e696, hx696_0, hl696_0, hi696_0⟩ := at_L4 (Kd.N_reads' HO_5.out).2.2 x7_2 p696 q696
                                                          obtain rfl : ad693 = ad696 := (by injection e696)
                                                          obtain ⟨ce696, hce696, hMe696, hcc696⟩ := Kd.N_get HO_5.out [] x7_2 p696 (by first | exact q696 | exact of_decide_eq_true (by first | (with_reducible assumption) | assumption) | (have e_ := (Kd.N_reads' HO_5.out).1; omega))
                                                          obtain ⟨ua696_0, uc696_0, rfl, ul696_0, ge696_0⟩ := Kd.FK_slice_open hMe696
                                                          have hv696_0 := hcc696 0 _ rfl
                                                          rw [Nat.add_zero, show ((Kd.slice 3 (Kd.int .i64))).sz = 1 from rfl, Nat.mul_one] at hv696_0
                                                          replace hv696_0 := Option.some.inj (hv696_0.symm.trans hx696_0)
                                                          injection hv696_0 with hva_ hvn_ hvc_
                                                          rw [hva_] at ge696_0
                                                          rw [hvc_] at ul696_0
                                                          have HL696_0 := Aside0.mk (show Kd.V (Kd.int .i64) 3 _ w.heap.size _ _ (rd_L4 t688 x7_2) from Kd.V_mk ul696_0 ge696_0)
                                                          clear hva_ hvn_ hvc_ ge696_0 ul696_0
                                                          clear hcc696 hce696
                                                          have HR696_0 := Aside0.mk hi696_0
                                                          have HC696_0 := Aside0.mk hl696_0
                                                          clear hi696_0 hl696_0
                                                          replace p696 := eq_true p696
                                                          replace q696 := eq_true q696
                                                          have p697 : 0 ≤ (x10_3 : Int) := of_decide_eq_true (by first | (with_reducible assumption) | assumption)
                                                          have q697 : x10_3 < ((rd_L4 t688 x7_2).length : Int) := of_decide_eq_true (by first | (with_reducible assumption) | assumption)
                                                          obtain ⟨ad697, e697, hx697_0⟩ := Kd.at_int (by repeat (first | (with_reducible exact HR696_0.out) | (with_reducible refine Kd.C_alloc ?_ _) | (with_reducible refine Kd.C_drewN ?_ _) | (with_reducible refine Kd.C_drew ?_) | exact HR696_0.out)) x10_3 p697 q697
                                                          cases e697
                                                          replace p697 := eq_true p697
                                                          replace q697 := eq_true q697
                                                          try go_wp2
                                                          have n0_ := Aside0.mk (Kd.R_drew HO_3.out)
                                                          have n1_ := Aside0.mk (Kd.N_drew HO_5.out)
                                                          have n2_ := Aside0.mk (Kd.R_drew HO_688001.out)
                                                          have n3_ := Aside0.mk (Kd.V_drew HL696_0.out)
                                                          have n4_ := Aside0.mk (blk_drew BK687.out)
                                                          have n5_ := Aside0.mk (Kd.C_drew HR693_0.out)
                                                          have n6_ := Aside0.mk (Kd.C_drew HR694_0.out)
                                                          have n7_ := Aside0.mk (Kd.C_drew HR696_0.out)
                                                          have n8_ := Aside0.mk (below_drew1 HB.out)
                                                          clear HO_3
                                                          clear HO_5
                                                          clear HO_688001
                                                          clear HL696_0
                                                          clear BK687
                                                          clear HR693_0
                                                          clear HR694_0
                                                          clear HR696_0
                                                          clear HB
                                                          have HO_3 := n0_
                                                          have HO_5 := n1_
                                                          have HO_688001 := n2_
                                                          have HL696_0 := n3_
                                                          have BK687 := n4_
                                                          have HR693_0 := n5_
                                                          have HR694_0 := n6_
                                                          have HR696_0 := n7_
                                                          have HB := n8_
                                                          clear n0_ n1_ n2_ n3_ n4_ n5_ n6_ n7_ n8_
                                                          have p698 : 0 ≤ (x7_2 : Int) := of_decide_eq_true (by first | (with_reducible assumption) | assumption)
                                                          have q698 : x7_2 < (t688.length : Int) := of_decide_eq_true (by first | (with_reducible assumption) | assumption)
                                                          obtain ⟨ad698, A698_0, c698_0, e698, hx698_0, hl698_0, hi698_0⟩ := at_L4 (Kd.N_reads' HO_5.out).2.2 x7_2 p698 q698
                                                          obtain rfl : ad693 = ad698 := (by injection e698)
                                                          obtain ⟨ce698, hce698, hMe698, hcc698⟩ := Kd.N_get HO_5.out [] x7_2 p698 (by first | exact q698 | exact of_decide_eq_true (by first | (with_reducible assumption) | assumption) | (have e_ := (Kd.N_reads' HO_5.out).1; omega))
                                                          obtain ⟨ua698_0, uc698_0, rfl, ul698_0, ge698_0⟩ := Kd.FK_slice_open hMe698
                                                          have hv698_0 := hcc698 0 _ rfl
                                                          rw [Nat.add_zero, show ((Kd.slice 3 (Kd.int .i64))).sz = 1 from rfl, Nat.mul_one] at hv698_0
                                                          replace hv698_0 := Option.some.inj (hv698_0.symm.trans hx698_0)
                                                          injection hv698_0 with hva_ hvn_ hvc_
                                                          rw [hva_] at ge698_0
                                                          rw [hvc_] at ul698_0
                                                          have HL698_0 := Aside0.mk (show Kd.V (Kd.int .i64) 3 _ w.heap.size _ _ (rd_L4 t688 x7_2) from Kd.V_mk ul698_0 ge698_0)
                                                          clear hva_ hvn_ hvc_ ge698_0 ul698_0
                                                          clear hcc698 hce698
                                                          have HR698_0 := Aside0.mk hi698_0
                                                          have HC698_0 := Aside0.mk hl698_0
                                                          clear hi698_0 hl698_0
                                                          replace p698 := eq_true p698
                                                          replace q698 := eq_true q698
                                                          have p699 : 0 ≤ (x10_3 : Int) := of_decide_eq_true (by first | (with_reducible assumption) | assumption)
                                                          have q699 : x10_3 < ((rd_L4 t688 x7_2).length : Int) := of_decide_eq_true (by first | (with_reducible assumption) | assumption)
                                                          obtain ⟨ad699, e699, hx699_0⟩ := Kd.at_int (by repeat (first | (with_reducible exact HR698_0.out) | (with_reducible refine Kd.C_alloc ?_ _) | (with_reducible refine Kd.C_drewN ?_ _) | (with_reducible refine Kd.C_drew ?_) | exact HR698_0.out)) x10_3 p699 q699
                                                          cases e699
                                                          replace p699 := eq_true p699
                                                          replace q699 := eq_true q699
                                                          have p700 : 0 ≤ (x7_2 : Int) := of_decide_eq_true (by first | (with_reducible assumption) | assumption)
                                                          have q700 : x7_2 < (t678.length : Int) := of_decide_eq_true (by first | (with_reducible assumption) | assumption)
                                                          obtain ⟨ad700, e700, hx700_0, hx700_1, hx700_2⟩ := at_T24 (Kd.R_reads' HO_3.out).2.2 x7_2 p700 q700
                                                          cases e700
                                                          replace p700 := eq_true p700
                                                          replace q700 := eq_true q700
                                                          have p701 : 0 ≤ ((ji36) : Int) := of_decide_eq_true (by first | (with_reducible assumption) | assumption)
                                                          have q701 : (ji36) < (t678.length : Int) := of_decide_eq_true (by first | (with_reducible assumption) | assumption)
                                                          obtain ⟨ad701, e701, hx701_0, hx701_1, hx701_2⟩ := at_T24 (Kd.R_reads' HO_3.out).2.2 (ji36) p701 q701
                                                          obtain rfl : ad700 = ad701 := (by injection e701)
                                                          replace p701 := eq_true p701
                                                          replace q701 := eq_true q701
                                                          have p703 : 0 ≤ (x7_2 : Int) := of_decide_eq_true (by first | (with_reducible assumption) | assumption)
                                                          have q703 : x7_2 < (t678.length : Int) := of_decide_eq_true (by first | (with_reducible assumption) | assumption)
                                                          obtain ⟨ad703, e703, hx703_0, hx703_1, hx703_2⟩ := at_T24 (Kd.R_reads' HO_3.out).2.2 x7_2 p703 q703
                                                          obtain rfl : ad700 = ad703 := (by injection e703)
                                                          replace p703 := eq_true p703
                                                          replace q703 := eq_true q703
                                                          obtain ⟨z0_, z1_, z2_, z3_, z4_, z5_, z6_, z7_, z8_, z9_, z10_⟩ : wc.cell? (ad693.add (x7_2).toNat) = some (.slice (some ad699) (rd_L4 t688 x7_2).length c698_0) ∧ wc.cell? (ad699.add (x10_3).toNat) = some (.int .i64 (rd (rd_L4 t688 x7_2) x10_3)) ∧ wc.cell? (ad700.add ((x7_2).toNat * 3)) = some (.string ((rd_T24 t678 x7_2).f0)) ∧ wc.cell? ⟨(ad700.add ((x7_2).toNat * 3)).block, (ad700.add ((x7_2).toNat * 3)).off + 1, none⟩ = some (.int .i64 ((rd_T24 t678 x7_2).f1)) ∧ wc.cell? ⟨(ad700.add ((x7_2).toNat * 3)).block, (ad700.add ((x7_2).toNat * 3)).off + 2, none⟩ = some (.bool ((rd_T24 t678 x7_2).f2)) ∧ wc.cell? (ad700.add (((ji36)).toNat * 3)) = some (.string ((rd_T24 t678 (ji36)).f0)) ∧ wc.cell? ⟨(ad700.add (((ji36)).toNat * 3)).block, (ad700.add (((ji36)).toNat * 3)).off + 1, none⟩ = some (.int .i64 ((rd_T24 t678 (ji36)).f1)) ∧ wc.cell? ⟨(ad700.add (((ji36)).toNat * 3)).block, (ad700.add (((ji36)).toNat * 3)).off + 2, none⟩ = some (.bool ((rd_T24 t678 (ji36)).f2)) ∧ wc.cell? (ad700.add ((x7_2).toNat * 3)) = some (.string ((rd_T24 t678 x7_2).f0)) ∧ wc.cell? ⟨(ad700.add ((x7_2).toNat * 3)).block, (ad700.add ((x7_2).toNat * 3)).off + 1, none⟩ = some (.int .i64 ((rd_T24 t678 x7_2).f1)) ∧ wc.cell? ⟨(ad700.add ((x7_2).toNat * 3)).block, (ad700.add ((x7_2).toNat * 3)).off + 2, none⟩ = some (.bool ((rd_T24 t678 x7_2).f2)) := ⟨hx698_0, hx699_0, hx700_0, hx700_1, hx700_2, hx701_0, hx701_1, hx701_2, hx703_0, hx703_1, hx703_2⟩
                                                          go_quiet (first | (go_at_call 43; exact Calls.quiet_of ((cippusref07_Apart.calls kj26 ((rd_T24 t678 x7_2).f0) ((rd_T24 t678 (ji36)).f0) t702 _ A39.out).mono (fun e w' h => ⟨h.1, h.2.out⟩))))
                                                          try go_wp2
                                                          go_ret
                                                          exact ⟨by first | rfl | (simp [errW_none, errW_some] <;> rfl) | (simp only [← hji36]; first | rfl | (simp [errW_none, errW_some] <;> rfl)) | (simp [*, errW_none, errW_some] <;> rfl), by repeat (first | (with_reducible first | exact HB.out | apply below_alloc | apply pw_below_drewN | apply below_drew1 | refine below_set ?_ GE687.out) | exact HB.out | exact undrawn_ HB.out)⟩
                                                        · rw [if_neg c40] at H
                                                          have c40b0 : (((rd (rd_L4 t688 x7_2) x10_3) != 2) != (decide (t702 ≤ ((rd_T24 t678 x7_2).f1)))) = false := by simpa using c40
                                                          (try (have c40b1 : decide (((rd (rd_L4 t688 x7_2) x10_3) != 2) = (decide (t702 ≤ ((rd_T24 t678 x7_2).f1)))) = true := by simpa using c40))
                                                          (try (have c40b2 : (((rd (rd_L4 t688 x7_2) x10_3) != 2) == (decide (t702 ≤ ((rd_T24 t678 x7_2).f1)))) = true := by simpa using c40))
                                                          clear c40
                                                          have H' := Aside0.mk H
                                                          clear H
                                                          have p696 : 0 ≤ (x7_2 : Int) := of_decide_eq_true (by first | (with_reducible assumption) | assumption)
                                                          have q696 : x7_2 < (t688.length : Int) := of_decide_eq_true (by first | (with_reducible assumption) | assumption)
                                                          obtain ⟨ad696, A696_0, c696_0, e696, hx696_0, hl696_0, hi696_0⟩ := at_L4 (Kd.N_reads' HO_5.out).2.2 x7_2 p696 q696
                                                          obtain rfl : ad693 = ad696 := (by injection e696)
                                                          obtain ⟨ce696, hce696, hMe696, hcc696⟩ := Kd.N_get HO_5.out [] x7_2 p696 (by first | exact q696 | exact of_decide_eq_true (by first | (with_reducible assumption) | assumption) | (have e_ := (Kd.N_reads' HO_5.out).1; omega))
                                                          obtain ⟨ua696_0, uc696_0, rfl, ul696_0, ge696_0⟩ := Kd.FK_slice_open hMe696
                                                          have hv696_0 := hcc696 0 _ rfl
                                                          rw [Nat.add_zero, show ((Kd.slice 3 (Kd.int .i64))).sz = 1 from rfl, Nat.mul_one] at hv696_0
                                                          replace hv696_0 := Option.some.inj (hv696_0.symm.trans hx696_0)
                                                          injection hv696_0 with hva_ hvn_ hvc_
                                                          rw [hva_] at ge696_0
                                                          rw [hvc_] at ul696_0
                                                          have HL696_0 := Aside0.mk (show Kd.V (Kd.int .i64) 3 _ w.heap.size _ _ (rd_L4 t688 x7_2) from Kd.V_mk ul696_0 ge696_0)
                                                          clear hva_ hvn_ hvc_ ge696_0 ul696_0
                                                          clear hcc696 hce696
                                                          have HR696_0 := Aside0.mk hi696_0
                                                          have HC696_0 := Aside0.mk hl696_0
                                                          clear hi696_0 hl696_0
                                                          replace p696 := eq_true p696
                                                          replace q696 := eq_true q696
                                                          have p697 : 0 ≤ (x10_3 : Int) := of_decide_eq_true (by first | (with_reducible assumption) | assumption)
                                                          have q697 : x10_3 < ((rd_L4 t688 x7_2).length : Int) := of_decide_eq_true (by first | (with_reducible assumption) | assumption)
                                                          obtain ⟨ad697, e697, hx697_0⟩ := Kd.at_int (by repeat (first | (with_reducible exact HR696_0.out) | (with_reducible refine Kd.C_alloc ?_ _) | (with_reducible refine Kd.C_drewN ?_ _) | (with_reducible refine Kd.C_drew ?_) | exact HR696_0.out)) x10_3 p697 q697
                                                          cases e697
                                                          replace p697 := eq_true p697
                                                          replace q697 := eq_true q697
                                                          try go_wp2
                                                          have n0_ := Aside0.mk (Kd.R_drew HO_3.out)
                                                          have n1_ := Aside0.mk (Kd.N_drew HO_5.out)
                                                          have n2_ := Aside0.mk (Kd.R_drew HO_688001.out)
                                                          have n3_ := Aside0.mk (Kd.V_drew HL696_0.out)
                                                          have n4_ := Aside0.mk (blk_drew BK687.out)
                                                          have n5_ := Aside0.mk (Kd.C_drew HR693_0.out)
                                                          have n6_ := Aside0.mk (Kd.C_drew HR694_0.out)
                                                          have n7_ := Aside0.mk (Kd.C_drew HR696_0.out)
                                                          have n8_ := Aside0.mk (below_drew1 HB.out)
                                                          clear HO_3
                                                          clear HO_5
                                                          clear HO_688001
                                                          clear HL696_0
                                                          clear BK687
                                                          clear HR693_0
                                                          clear HR694_0
                                                          clear HR696_0
                                                          clear HB
                                                          have HO_3 := n0_
                                                          have HO_5 := n1_
                                                          have HO_688001 := n2_
                                                          have HL696_0 := n3_
                                                          have BK687 := n4_
                                                          have HR693_0 := n5_
                                                          have HR694_0 := n6_
                                                          have HR696_0 := n7_
                                                          have HB := n8_
                                                          clear n0_ n1_ n2_ n3_ n4_ n5_ n6_ n7_ n8_
                                                          have p698 : 0 ≤ (x7_2 : Int) := of_decide_eq_true (by first | (with_reducible assumption) | assumption)
                                                          have q698 : x7_2 < (t688.length : Int) := of_decide_eq_true (by first | (with_reducible assumption) | assumption)
                                                          obtain ⟨ad698, A698_0, c698_0, e698, hx698_0, hl698_0, hi698_0⟩ := at_L4 (Kd.N_reads' HO_5.out).2.2 x7_2 p698 q698
                                                          obtain rfl : ad693 = ad698 := (by injection e698)
                                                          obtain ⟨ce698, hce698, hMe698, hcc698⟩ := Kd.N_get HO_5.out [] x7_2 p698 (by first | exact q698 | exact of_decide_eq_true (by first | (with_reducible assumption) | assumption) | (have e_ := (Kd.N_reads' HO_5.out).1; omega))
                                                          obtain ⟨ua698_0, uc698_0, rfl, ul698_0, ge698_0⟩ := Kd.FK_slice_open hMe698
                                                          have hv698_0 := hcc698 0 _ rfl
                                                          rw [Nat.add_zero, show ((Kd.slice 3 (Kd.int .i64))).sz = 1 from rfl, Nat.mul_one] at hv698_0
                                                          replace hv698_0 := Option.some.inj (hv698_0.symm.trans hx698_0)
                                                          injection hv698_0 with hva_ hvn_ hvc_
                                                          rw [hva_] at ge698_0
                                                          rw [hvc_] at ul698_0
                                                          have HL698_0 := Aside0.mk (show Kd.V (Kd.int .i64) 3 _ w.heap.size _ _ (rd_L4 t688 x7_2) from Kd.V_mk ul698_0 ge698_0)
                                                          clear hva_ hvn_ hvc_ ge698_0 ul698_0
                                                          clear hcc698 hce698
                                                          have HR698_0 := Aside0.mk hi698_0
                                                          have HC698_0 := Aside0.mk hl698_0
                                                          clear hi698_0 hl698_0
                                                          replace p698 := eq_true p698
                                                          replace q698 := eq_true q698
                                                          have p699 : 0 ≤ (x10_3 : Int) := of_decide_eq_true (by first | (with_reducible assumption) | assumption)
                                                          have q699 : x10_3 < ((rd_L4 t688 x7_2).length : Int) := of_decide_eq_true (by first | (with_reducible assumption) | assumption)
                                                          obtain ⟨ad699, e699, hx699_0⟩ := Kd.at_int (by repeat (first | (with_reducible exact HR698_0.out) | (with_reducible refine Kd.C_alloc ?_ _) | (with_reducible refine Kd.C_drewN ?_ _) | (with_reducible refine Kd.C_drew ?_) | exact HR698_0.out)) x10_3 p699 q699
                                                          cases e699
                                                          replace p699 := eq_true p699
                                                          replace q699 := eq_true q699
                                                          have p700 : 0 ≤ (x7_2 : Int) := of_decide_eq_true (by first | (with_reducible assumption) | assumption)
                                                          have q700 : x7_2 < (t678.length : Int) := of_decide_eq_true (by first | (with_reducible assumption) | assumption)
                                                          obtain ⟨ad700, e700, hx700_0, hx700_1, hx700_2⟩ := at_T24 (Kd.R_reads' HO_3.out).2.2 x7_2 p700 q700
                                                          cases e700
                                                          replace p700 := eq_true p700
                                                          replace q700 := eq_true q700
                                                          have p701 : 0 ≤ ((ji36) : Int) := of_decide_eq_true (by first | (with_reducible assumption) | assumption)
                                                          have q701 : (ji36) < (t678.length : Int) := of_decide_eq_true (by first | (with_reducible assumption) | assumption)
                                                          obtain ⟨ad701, e701, hx701_0, hx701_1, hx701_2⟩ := at_T24 (Kd.R_reads' HO_3.out).2.2 (ji36) p701 q701
                                                          obtain rfl : ad700 = ad701 := (by injection e701)
                                                          replace p701 := eq_true p701
                                                          replace q701 := eq_true q701
                                                          have p703 : 0 ≤ (x7_2 : Int) := of_decide_eq_true (by first | (with_reducible assumption) | assumption)
                                                          have q703 : x7_2 < (t678.length : Int) := of_decide_eq_true (by first | (with_reducible assumption) | assumption)
                                                          obtain ⟨ad703, e703, hx703_0, hx703_1, hx703_2⟩ := at_T24 (Kd.R_reads' HO_3.out).2.2 x7_2 p703 q703
                                                          obtain rfl : ad700 = ad703 := (by injection e703)
                                                          replace p703 := eq_true p703
                                                          replace q703 := eq_true q703
                                                          obtain ⟨z0_, z1_, z2_, z3_, z4_, z5_, z6_, z7_, z8_, z9_, z10_⟩ : wc.cell? (ad693.add (x7_2).toNat) = some (.slice (some ad699) (rd_L4 t688 x7_2).length c698_0) ∧ wc.cell? (ad699.add (x10_3).toNat) = some (.int .i64 (rd (rd_L4 t688 x7_2) x10_3)) ∧ wc.cell? (ad700.add ((x7_2).toNat * 3)) = some (.string ((rd_T24 t678 x7_2).f0)) ∧ wc.cell? ⟨(ad700.add ((x7_2).toNat * 3)).block, (ad700.add ((x7_2).toNat * 3)).off + 1, none⟩ = some (.int .i64 ((rd_T24 t678 x7_2).f1)) ∧ wc.cell? ⟨(ad700.add ((x7_2).toNat * 3)).block, (ad700.add ((x7_2).toNat * 3)).off + 2, none⟩ = some (.bool ((rd_T24 t678 x7_2).f2)) ∧ wc.cell? (ad700.add (((ji36)).toNat * 3)) = some (.string ((rd_T24 t678 (ji36)).f0)) ∧ wc.cell? ⟨(ad700.add (((ji36)).toNat * 3)).block, (ad700.add (((ji36)).toNat * 3)).off + 1, none⟩ = some (.int .i64 ((rd_T24 t678 (ji36)).f1)) ∧ wc.cell? ⟨(ad700.add (((ji36)).toNat * 3)).block, (ad700.add (((ji36)).toNat * 3)).off + 2, none⟩ = some (.bool ((rd_T24 t678 (ji36)).f2)) ∧ wc.cell? (ad700.add ((x7_2).toNat * 3)) = some (.string ((rd_T24 t678 x7_2).f0)) ∧ wc.cell? ⟨(ad700.add ((x7_2).toNat * 3)).block, (ad700.add ((x7_2).toNat * 3)).off + 1, none⟩ = some (.int .i64 ((rd_T24 t678 x7_2).f1)) ∧ wc.cell? ⟨(ad700.add ((x7_2).toNat * 3)).block, (ad700.add ((x7_2).toNat * 3)).off + 2, none⟩ = some (.bool ((rd_T24 t678 x7_2).f2)) := ⟨hx698_0, hx699_0, hx700_0, hx700_1, hx700_2, hx701_0, hx701_1, hx701_2, hx703_0, hx703_1, hx703_2⟩
                                                          go_quiet (first | (go_at_call 43; exact Calls.quiet_of ((cippusref07_Apart.calls kj26 ((rd_T24 t678 x7_2).f0) ((rd_T24 t678 (ji36)).f0) t702 _ A39.out).mono (fun e w' h => ⟨h.1, h.2.out⟩))))
                                                          try go_wp2
                                                          go_roundg kj26
                                                          case measure => have := HJ4.out; have := HK2.out; have := HK3.out; have := HJ26.out; omega
                                                          case rel => exact ⟨(x8_26), (wrap64 (x9_3 + 1)), (wrap64 (x10_3 + 1)), (by first | rfl | (simp; done) | (simp [*]; done)), (by first | rfl | (simp; done) | (simp [*]; done)), (by first | rfl | (simp; done) | (simp [*]; done)), H', ⟨by have := HJ4.out; have := HK2.out; have := HK3.out; have := HJ26.out; omega⟩, ⟨by (with_reducible repeat (first | apply Kd.R_alloc | apply Kd.R_drewN | apply Kd.R_drew)); exact HO_3.out⟩, ⟨by (with_reducible repeat (first | apply Kd.N_alloc | apply Kd.N_drewN | apply Kd.N_drew)); exact HO_5.out⟩, ⟨by (with_reducible repeat (first | apply Kd.R_alloc | apply Kd.R_drewN | apply Kd.R_drew)); exact HO_688001.out⟩, ⟨by (with_reducible repeat (first | refine blk_drewN ?_ _ | refine blk_drew ?_ | refine blk_alloc ?_ _)); exact BK687.out⟩, ⟨by repeat (first | (with_reducible exact HR693_0.out) | (with_reducible refine Kd.C_alloc ?_ _) | (with_reducible refine Kd.C_drewN ?_ _) | (with_reducible refine Kd.C_drew ?_) | exact HR693_0.out)⟩, ⟨by repeat (first | (with_reducible first | exact HB.out | apply below_alloc | apply pw_below_drewN | apply below_drew1 | refine below_set ?_ GE687.out) | exact HB.out | exact undrawn_ HB.out)⟩⟩
                                                      · rw [if_neg c38] at H
                                                        exact absurd H (by simp)
                                                    · rw [if_neg c37] at H
                                                      exact absurd H (by simp)
                                                  · rw [if_neg c35] at H
                                                    exact absurd H (by simp)
                                                · rw [if_neg c34] at H
                                                  have c34b0 : decide (0 < x10_3) = false := decide_eq_false c34
                                                  clear c34
                                                  have H' := Aside0.mk H
                                                  clear H
                                                  have p696 : 0 ≤ (x7_2 : Int) := of_decide_eq_true (by first | (with_reducible assumption) | assumption)
                                                  have q696 : x7_2 < (t688.length : Int) := of_decide_eq_true (by first | (with_reducible assumption) | assumption)
                                                  obtain ⟨ad696, A696_0, c696_0, e696, hx696_0, hl696_0, hi696_0⟩ := at_L4 (Kd.N_reads' HO_5.out).2.2 x7_2 p696 q696
                                                  obtain rfl : ad693 = ad696 := (by injection e696)
                                                  obtain ⟨ce696, hce696, hMe696, hcc696⟩ := Kd.N_get HO_5.out [] x7_2 p696 (by first | exact q696 | exact of_decide_eq_true (by first | (with_reducible assumption) | assumption) | (have e_ := (Kd.N_reads' HO_5.out).1; omega))
                                                  obtain ⟨ua696_0, uc696_0, rfl, ul696_0, ge696_0⟩ := Kd.FK_slice_open hMe696
                                                  have hv696_0 := hcc696 0 _ rfl
                                                  rw [Nat.add_zero, show ((Kd.slice 3 (Kd.int .i64))).sz = 1 from rfl, Nat.mul_one] at hv696_0
                                                  replace hv696_0 := Option.some.inj (hv696_0.symm.trans hx696_0)
                                                  injection hv696_0 with hva_ hvn_ hvc_
                                                  rw [hva_] at ge696_0
                                                  rw [hvc_] at ul696_0
                                                  have HL696_0 := Aside0.mk (show Kd.V (Kd.int .i64) 3 _ w.heap.size _ _ (rd_L4 t688 x7_2) from Kd.V_mk ul696_0 ge696_0)
                                                  clear hva_ hvn_ hvc_ ge696_0 ul696_0
                                                  clear hcc696 hce696
                                                  have HR696_0 := Aside0.mk hi696_0
                                                  have HC696_0 := Aside0.mk hl696_0
                                                  clear hi696_0 hl696_0
                                                  replace p696 := eq_true p696
                                                  replace q696 := eq_true q696
                                                  have p697 : 0 ≤ (x10_3 : Int) := of_decide_eq_true (by first | (with_reducible assumption) | assumption)
                                                  have q697 : x10_3 < ((rd_L4 t688 x7_2).length : Int) := of_decide_eq_true (by first | (with_reducible assumption) | assumption)
                                                  obtain ⟨ad697, e697, hx697_0⟩ := Kd.at_int (by repeat (first | (with_reducible exact HR696_0.out) | (with_reducible refine Kd.C_alloc ?_ _) | (with_reducible refine Kd.C_drewN ?_ _) | (with_reducible refine Kd.C_drew ?_) | exact HR696_0.out)) x10_3 p697 q697
                                                  cases e697
                                                  replace p697 := eq_true p697
                                                  replace q697 := eq_true q697
                                                  try go_wp2
                                                  have n0_ := Aside0.mk (Kd.R_drew HO_3.out)
                                                  have n1_ := Aside0.mk (Kd.N_drew HO_5.out)
                                                  have n2_ := Aside0.mk (Kd.R_drew HO_688001.out)
                                                  have n3_ := Aside0.mk (Kd.V_drew HL696_0.out)
                                                  have n4_ := Aside0.mk (blk_drew BK687.out)
                                                  have n5_ := Aside0.mk (Kd.C_drew HR693_0.out)
                                                  have n6_ := Aside0.mk (Kd.C_drew HR694_0.out)
                                                  have n7_ := Aside0.mk (Kd.C_drew HR696_0.out)
                                                  have n8_ := Aside0.mk (below_drew1 HB.out)
                                                  clear HO_3
                                                  clear HO_5
                                                  clear HO_688001
                                                  clear HL696_0
                                                  clear BK687
                                                  clear HR693_0
                                                  clear HR694_0
                                                  clear HR696_0
                                                  clear HB
                                                  have HO_3 := n0_
                                                  have HO_5 := n1_
                                                  have HO_688001 := n2_
                                                  have HL696_0 := n3_
                                                  have BK687 := n4_
                                                  have HR693_0 := n5_
                                                  have HR694_0 := n6_
                                                  have HR696_0 := n7_
                                                  have HB := n8_
                                                  clear n0_ n1_ n2_ n3_ n4_ n5_ n6_ n7_ n8_
                                                  go_quiet (fail)
                                                  try go_wp2
                                                  go_roundg kj26
                                                  case measure => have := HJ4.out; have := HK2.out; have := HK3.out; have := HJ26.out; omega
                                                  case rel => exact ⟨(x8_26), (wrap64 (x9_3 + 1)), (wrap64 (x10_3 + 1)), (by first | rfl | (simp; done) | (simp [*]; done)), (by first | rfl | (simp; done) | (simp [*]; done)), (by first | rfl | (simp; done) | (simp [*]; done)), H', ⟨by have := HJ4.out; have := HK2.out; have := HK3.out; have := HJ26.out; omega⟩, ⟨by (with_reducible repeat (first | apply Kd.R_alloc | apply Kd.R_drewN | apply Kd.R_drew)); exact HO_3.out⟩, ⟨by (with_reducible repeat (first | apply Kd.N_alloc | apply Kd.N_drewN | apply Kd.N_drew)); exact HO_5.out⟩, ⟨by (with_reducible repeat (first | apply Kd.R_alloc | apply Kd.R_drewN | apply Kd.R_drew)); exact HO_688001.out⟩, ⟨by (with_reducible repeat (first | refine blk_drewN ?_ _ | refine blk_drew ?_ | refine blk_alloc ?_ _)); exact BK687.out⟩, ⟨by repeat (first | (with_reducible exact HR693_0.out) | (with_reducible refine Kd.C_alloc ?_ _) | (with_reducible refine Kd.C_drewN ?_ _) | (with_reducible refine Kd.C_drew ?_) | exact HR693_0.out)⟩, ⟨by repeat (first | (with_reducible first | exact HB.out | apply below_alloc | apply pw_below_drewN | apply below_drew1 | refine below_set ?_ GE687.out) | exact HB.out | exact undrawn_ HB.out)⟩⟩
                                              · rw [if_neg c33] at H
                                                have c33b0 : ((rd (rd_L4 t688 x7_2) x10_3) == 1) = false := beq_eq_false_iff_ne.mpr c33
                                                have c33b1 : ((rd (rd_L4 t688 x7_2) x10_3) != 1) = true := bne_iff_ne.mpr c33
                                                by_cases c44 : x10_3 > 0
                                                · rw [if_pos c44] at H
                                                  have c44b0 : decide (0 < x10_3) = true := decide_eq_true c44
                                                  clear c44
                                                  by_cases c45 : x7_2 < (t678.length : Int)
                                                  · rw [if_pos c45] at H
                                                    have c45b0 : decide (x7_2 < (t678.length : Int)) = true := decide_eq_true c45
                                                    clear c45
                                                    obtain ⟨ji46, hji46⟩ : ∃ j_ : Int, (wrap64 (x10_3 - 1)) = j_ := ⟨_, rfl⟩
                                                    replace H : (if 0 ≤ (ji46) then (if (ji46) < (t678.length : Int) then ((cippusref07_Apart.f kj26 ((rd_T24 t678 x7_2).f0) ((rd_T24 t678 (ji46)).f0)).bind fun t708 => (if (((rd (rd_L4 t688 x7_2) x10_3) != 2) != (decide (t708 ≤ ((rd_T24 t678 x7_2).f1)))) = true then (some false) else (cippuslaw07_StemmaProved.l1 kj26 t678 t688 x7_2 x8_26 x9_3 (wrap64 (x10_3 + 1))))) else (none)) else (none)) = some r := by first | (rw [hji46] at H; exact H) | (simp only [hji46] at H ⊢; exact H)
                                                    have hji46w : (IntKind.i64.wrap (x10_3 - 1)) = ji46 := (i64_w _).trans hji46
                                                    by_cases c47 : 0 ≤ (ji46)
                                                    · rw [if_pos c47] at H
                                                      have c47b0 : decide (0 ≤ (ji46)) = true := decide_eq_true c47
                                                      clear c47
                                                      by_cases c48 : (ji46) < (t678.length : Int)
                                                      · rw [if_pos c48] at H
                                                        have c48b0 : decide ((ji46) < (t678.length : Int)) = true := decide_eq_true c48
                                                        clear c48
                                                        replace H := Option.bind_eq_some_iff.mp H
                                                        obtain ⟨t708, A490, H⟩ := H
                                                        replace H : (if (((rd (rd_L4 t688 x7_2) x10_3) != 2) != (decide (t708 ≤ ((rd_T24 t678 x7_2).f1)))) = true then (some false) else (cippuslaw07_StemmaProved.l1 kj26 t678 t688 x7_2 x8_26 x9_3 (wrap64 (x10_3 + 1)))) = some r := H
                                                        have A49 := Aside0.mk A490
                                                        clear A490
                                                        by_cases c50 : (((rd (rd_L4 t688 x7_2) x10_3) != 2) != (decide (t708 ≤ ((rd_T24 t678 x7_2).f1)))) = true
                                                        · rw [if_pos c50] at H
                                                          have c50b0 : (((rd (rd_L4 t688 x7_2) x10_3) != 2) != (decide (t708 ≤ ((rd_T24 t678 x7_2).f1)))) = true := c50
                                                          (try (have c50b1 : decide (((rd (rd_L4 t688 x7_2) x10_3) != 2) = (decide (t708 ≤ ((rd_T24 t678 x7_2).f1)))) = false := by simpa using c50))
                                                          (try (have c50b2 : (((rd (rd_L4 t688 x7_2) x10_3) != 2) == (decide (t708 ≤ ((rd_T24 t678 x7_2).f1)))) = false := by simpa using c50))
                                                          (try (have c50b3 : ¬ (((rd (rd_L4 t688 x7_2) x10_3) != 2) = (decide (t708 ≤ ((rd_T24 t678 x7_2).f1)))) := by simpa using c50))
                                                          clear c50
                                                          obtain rfl := Option.some.inj H
                                                          have p696 : 0 ≤ (x7_2 : Int) := of_decide_eq_true (by first | (with_reducible assumption) | assumption)
                                                          have q696 : x7_2 < (t688.length : Int) := of_decide_eq_true (by first | (with_reducible assumption) | assumption)
                                                          obtain ⟨ad696, A696_0, c696_0, e696, hx696_0, hl696_0, hi696_0⟩ := at_L4 (Kd.N_reads' HO_5.out).2.2 x7_2 p696 q696
                                                          obtain rfl : ad693 = ad696 := (by injection e696)
                                                          obtain ⟨ce696, hce696, hMe696, hcc696⟩ := Kd.N_get HO_5.out [] x7_2 p696 (by first | exact q696 | exact of_decide_eq_true (by first | (with_reducible assumption) | assumption) | (have e_ := (Kd.N_reads' HO_5.out).1; omega))
                                                          obtain ⟨ua696_0, uc696_0, rfl, ul696_0, ge696_0⟩ := Kd.FK_slice_open hMe696
                                                          have hv696_0 := hcc696 0 _ rfl
                                                          rw [Nat.add_zero, show ((Kd.slice 3 (Kd.int .i64))).sz = 1 from rfl, Nat.mul_one] at hv696_0
                                                          replace hv696_0 := Option.some.inj (hv696_0.symm.trans hx696_0)
                                                          injection hv696_0 with hva_ hvn_ hvc_
                                                          rw [hva_] at ge696_0
                                                          rw [hvc_] at ul696_0
                                                          have HL696_0 := Aside0.mk (show Kd.V (Kd.int .i64) 3 _ w.heap.size _ _ (rd_L4 t688 x7_2) from Kd.V_mk ul696_0 ge696_0)
                                                          clear hva_ hvn_ hvc_ ge696_0 ul696_0
                                                          clear hcc696 hce696
                                                          have HR696_0 := Aside0.mk hi696_0
                                                          have HC696_0 := Aside0.mk hl696_0
                                                          clear hi696_0 hl696_0
                                                          replace p696 := eq_true p696
                                                          replace q696 := eq_true q696
                                                          have p697 : 0 ≤ (x10_3 : Int) := of_decide_eq_true (by first | (with_reducible assumption) | assumption)
                                                          have q697 : x10_3 < ((rd_L4 t688 x7_2).length : Int) := of_decide_eq_true (by first | (with_reducible assumption) | assumption)
                                                          obtain ⟨ad697, e697, hx697_0⟩ := Kd.at_int (by repeat (first | (with_reducible exact HR696_0.out) | (with_reducible refine Kd.C_alloc ?_ _) | (with_reducible refine Kd.C_drewN ?_ _) | (with_reducible refine Kd.C_drew ?_) | exact HR696_0.out)) x10_3 p697 q697
                                                          cases e697
                                                          replace p697 := eq_true p697
                                                          replace q697 := eq_true q697
                                                          try go_wp2
                                                          have n0_ := Aside0.mk (Kd.R_drew HO_3.out)
                                                          have n1_ := Aside0.mk (Kd.N_drew HO_5.out)
                                                          have n2_ := Aside0.mk (Kd.R_drew HO_688001.out)
                                                          have n3_ := Aside0.mk (Kd.V_drew HL696_0.out)
                                                          have n4_ := Aside0.mk (blk_drew BK687.out)
                                                          have n5_ := Aside0.mk (Kd.C_drew HR693_0.out)
                                                          have n6_ := Aside0.mk (Kd.C_drew HR694_0.out)
                                                          have n7_ := Aside0.mk (Kd.C_drew HR696_0.out)
                                                          have n8_ := Aside0.mk (below_drew1 HB.out)
                                                          clear HO_3
                                                          clear HO_5
                                                          clear HO_688001
                                                          clear HL696_0
                                                          clear BK687
                                                          clear HR693_0
                                                          clear HR694_0
                                                          clear HR696_0
                                                          clear HB
                                                          have HO_3 := n0_
                                                          have HO_5 := n1_
                                                          have HO_688001 := n2_
                                                          have HL696_0 := n3_
                                                          have BK687 := n4_
                                                          have HR693_0 := n5_
                                                          have HR694_0 := n6_
                                                          have HR696_0 := n7_
                                                          have HB := n8_
                                                          clear n0_ n1_ n2_ n3_ n4_ n5_ n6_ n7_ n8_
                                                          have p704 : 0 ≤ (x7_2 : Int) := of_decide_eq_true (by first | (with_reducible assumption) | assumption)
                                                          have q704 : x7_2 < (t688.length : Int) := of_decide_eq_true (by first | (with_reducible assumption) | assumption)
                                                          obtain ⟨ad704, A704_0, c704_0, e704, hx704_0, hl704_0, hi704_0⟩ := at_L4 (Kd.N_reads' HO_5.out).2.2 x7_2 p704 q704
                                                          obtain rfl : ad693 = ad704 := (by injection e704)
                                                          obtain ⟨ce704, hce704, hMe704, hcc704⟩ := Kd.N_get HO_5.out [] x7_2 p704 (by first | exact q704 | exact of_decide_eq_true (by first | (with_reducible assumption) | assumption) | (have e_ := (Kd.N_reads' HO_5.out).1; omega))
                                                          obtain ⟨ua704_0, uc704_0, rfl, ul704_0, ge704_0⟩ := Kd.FK_slice_open hMe704
                                                          have hv704_0 := hcc704 0 _ rfl
                                                          rw [Nat.add_zero, show ((Kd.slice 3 (Kd.int .i64))).sz = 1 from rfl, Nat.mul_one] at hv704_0
                                                          replace hv704_0 := Option.some.inj (hv704_0.symm.trans hx704_0)
                                                          injection hv704_0 with hva_ hvn_ hvc_
                                                          rw [hva_] at ge704_0
                                                          rw [hvc_] at ul704_0
                                                          have HL704_0 := Aside0.mk (show Kd.V (Kd.int .i64) 3 _ w.heap.size _ _ (rd_L4 t688 x7_2) from Kd.V_mk ul704_0 ge704_0)
                                                          clear hva_ hvn_ hvc_ ge704_0 ul704_0
                                                          clear hcc704 hce704
                                                          have HR704_0 := Aside0.mk hi704_0
                                                          have HC704_0 := Aside0.mk hl704_0
                                                          clear hi704_0 hl704_0
                                                          replace p704 := eq_true p704
                                                          replace q704 := eq_true q704
                                                          have p705 : 0 ≤ (x10_3 : Int) := of_decide_eq_true (by first | (with_reducible assumption) | assumption)
                                                          have q705 : x10_3 < ((rd_L4 t688 x7_2).length : Int) := of_decide_eq_true (by first | (with_reducible assumption) | assumption)
                                                          obtain ⟨ad705, e705, hx705_0⟩ := Kd.at_int (by repeat (first | (with_reducible exact HR704_0.out) | (with_reducible refine Kd.C_alloc ?_ _) | (with_reducible refine Kd.C_drewN ?_ _) | (with_reducible refine Kd.C_drew ?_) | exact HR704_0.out)) x10_3 p705 q705
                                                          cases e705
                                                          replace p705 := eq_true p705
                                                          replace q705 := eq_true q705
                                                          have p706 : 0 ≤ (x7_2 : Int) := of_decide_eq_true (by first | (with_reducible assumption) | assumption)
                                                          have q706 : x7_2 < (t678.length : Int) := of_decide_eq_true (by first | (with_reducible assumption) | assumption)
                                                          obtain ⟨ad706, e706, hx706_0, hx706_1, hx706_2⟩ := at_T24 (Kd.R_reads' HO_3.out).2.2 x7_2 p706 q706
                                                          cases e706
                                                          replace p706 := eq_true p706
                                                          replace q706 := eq_true q706
                                                          have p707 : 0 ≤ ((ji46) : Int) := of_decide_eq_true (by first | (with_reducible assumption) | assumption)
                                                          have q707 : (ji46) < (t678.length : Int) := of_decide_eq_true (by first | (with_reducible assumption) | assumption)
                                                          obtain ⟨ad707, e707, hx707_0, hx707_1, hx707_2⟩ := at_T24 (Kd.R_reads' HO_3.out).2.2 (ji46) p707 q707
                                                          obtain rfl : ad706 = ad707 := (by injection e707)
                                                          replace p707 := eq_true p707
                                                          replace q707 := eq_true q707
                                                          have p709 : 0 ≤ (x7_2 : Int) := of_decide_eq_true (by first | (with_reducible assumption) | assumption)
                                                          have q709 : x7_2 < (t678.length : Int) := of_decide_eq_true (by first | (with_reducible assumption) | assumption)
                                                          obtain ⟨ad709, e709, hx709_0, hx709_1, hx709_2⟩ := at_T24 (Kd.R_reads' HO_3.out).2.2 x7_2 p709 q709
                                                          obtain rfl : ad706 = ad709 := (by injection e709)
                                                          replace p709 := eq_true p709
                                                          replace q709 := eq_true q709
                                                          obtain ⟨z0_, z1_, z2_, z3_, z4_, z5_, z6_, z7_, z8_, z9_, z10_⟩ : wc.cell? (ad693.add (x7_2).toNat) = some (.slice (some ad705) (rd_L4 t688 x7_2).length c704_0) ∧ wc.cell? (ad705.add (x10_3).toNat) = some (.int .i64 (rd (rd_L4 t688 x7_2) x10_3)) ∧ wc.cell? (ad706.add ((x7_2).toNat * 3)) = some (.string ((rd_T24 t678 x7_2).f0)) ∧ wc.cell? ⟨(ad706.add ((x7_2).toNat * 3)).block, (ad706.add ((x7_2).toNat * 3)).off + 1, none⟩ = some (.int .i64 ((rd_T24 t678 x7_2).f1)) ∧ wc.cell? ⟨(ad706.add ((x7_2).toNat * 3)).block, (ad706.add ((x7_2).toNat * 3)).off + 2, none⟩ = some (.bool ((rd_T24 t678 x7_2).f2)) ∧ wc.cell? (ad706.add (((ji46)).toNat * 3)) = some (.string ((rd_T24 t678 (ji46)).f0)) ∧ wc.cell? ⟨(ad706.add (((ji46)).toNat * 3)).block, (ad706.add (((ji46)).toNat * 3)).off + 1, none⟩ = some (.int .i64 ((rd_T24 t678 (ji46)).f1)) ∧ wc.cell? ⟨(ad706.add (((ji46)).toNat * 3)).block, (ad706.add (((ji46)).toNat * 3)).off + 2, none⟩ = some (.bool ((rd_T24 t678 (ji46)).f2)) ∧ wc.cell? (ad706.add ((x7_2).toNat * 3)) = some (.string ((rd_T24 t678 x7_2).f0)) ∧ wc.cell? ⟨(ad706.add ((x7_2).toNat * 3)).block, (ad706.add ((x7_2).toNat * 3)).off + 1, none⟩ = some (.int .i64 ((rd_T24 t678 x7_2).f1)) ∧ wc.cell? ⟨(ad706.add ((x7_2).toNat * 3)).block, (ad706.add ((x7_2).toNat * 3)).off + 2, none⟩ = some (.bool ((rd_T24 t678 x7_2).f2)) := ⟨hx704_0, hx705_0, hx706_0, hx706_1, hx706_2, hx707_0, hx707_1, hx707_2, hx709_0, hx709_1, hx709_2⟩
                                                          go_quiet (first | (go_at_call 43; exact Calls.quiet_of ((cippusref07_Apart.calls kj26 ((rd_T24 t678 x7_2).f0) ((rd_T24 t678 (ji46)).f0) t708 _ A49.out).mono (fun e w' h => ⟨h.1, h.2.out⟩))))
                                                          try go_wp2
                                                          go_ret
                                                          exact ⟨by first | rfl | (simp [errW_none, errW_some] <;> rfl) | (simp only [← hji46]; first | rfl | (simp [errW_none, errW_some] <;> rfl)) | (simp [*, errW_none, errW_some] <;> rfl), by repeat (first | (with_reducible first | exact HB.out | apply below_alloc | apply pw_below_drewN | apply below_drew1 | refine below_set ?_ GE687.out) | exact HB.out | exact undrawn_ HB.out)⟩
                                                        · rw [if_neg c50] at H
                                                          have c50b0 : (((rd (rd_L4 t688 x7_2) x10_3) != 2) != (decide (t708 ≤ ((rd_T24 t678 x7_2).f1)))) = false := by simpa using c50
                                                          (try (have c50b1 : decide (((rd (rd_L4 t688 x7_2) x10_3) != 2) = (decide (t708 ≤ ((rd_T24 t678 x7_2).f1)))) = true := by simpa using c50))
                                                          (try (have c50b2 : (((rd (rd_L4 t688 x7_2) x10_3) != 2) == (decide (t708 ≤ ((rd_T24 t678 x7_2).f1)))) = true := by simpa using c50))
                                                          clear c50
                                                          have H' := Aside0.mk H
                                                          clear H
                                                          have p696 : 0 ≤ (x7_2 : Int) := of_decide_eq_true (by first | (with_reducible assumption) | assumption)
                                                          have q696 : x7_2 < (t688.length : Int) := of_decide_eq_true (by first | (with_reducible assumption) | assumption)
                                                          obtain ⟨ad696, A696_0, c696_0, e696, hx696_0, hl696_0, hi696_0⟩ := at_L4 (Kd.N_reads' HO_5.out).2.2 x7_2 p696 q696
                                                          obtain rfl : ad693 = ad696 := (by injection e696)
                                                          obtain ⟨ce696, hce696, hMe696, hcc696⟩ := Kd.N_get HO_5.out [] x7_2 p696 (by first | exact q696 | exact of_decide_eq_true (by first | (with_reducible assumption) | assumption) | (have e_ := (Kd.N_reads' HO_5.out).1; omega))
                                                          obtain ⟨ua696_0, uc696_0, rfl, ul696_0, ge696_0⟩ := Kd.FK_slice_open hMe696
                                                          have hv696_0 := hcc696 0 _ rfl
                                                          rw [Nat.add_zero, show ((Kd.slice 3 (Kd.int .i64))).sz = 1 from rfl, Nat.mul_one] at hv696_0
                                                          replace hv696_0 := Option.some.inj (hv696_0.symm.trans hx696_0)
                                                          injection hv696_0 with hva_ hvn_ hvc_
                                                          rw [hva_] at ge696_0
                                                          rw [hvc_] at ul696_0
                                                          have HL696_0 := Aside0.mk (show Kd.V (Kd.int .i64) 3 _ w.heap.size _ _ (rd_L4 t688 x7_2) from Kd.V_mk ul696_0 ge696_0)
                                                          clear hva_ hvn_ hvc_ ge696_0 ul696_0
                                                          clear hcc696 hce696
                                                          have HR696_0 := Aside0.mk hi696_0
                                                          have HC696_0 := Aside0.mk hl696_0
                                                          clear hi696_0 hl696_0
                                                          replace p696 := eq_true p696
                                                          replace q696 := eq_true q696
                                                          have p697 : 0 ≤ (x10_3 : Int) := of_decide_eq_true (by first | (with_reducible assumption) | assumption)
                                                          have q697 : x10_3 < ((rd_L4 t688 x7_2).length : Int) := of_decide_eq_true (by first | (with_reducible assumption) | assumption)
                                                          obtain ⟨ad697, e697, hx697_0⟩ := Kd.at_int (by repeat (first | (with_reducible exact HR696_0.out) | (with_reducible refine Kd.C_alloc ?_ _) | (with_reducible refine Kd.C_drewN ?_ _) | (with_reducible refine Kd.C_drew ?_) | exact HR696_0.out)) x10_3 p697 q697
                                                          cases e697
                                                          replace p697 := eq_true p697
                                                          replace q697 := eq_true q697
                                                          try go_wp2
                                                          have n0_ := Aside0.mk (Kd.R_drew HO_3.out)
                                                          have n1_ := Aside0.mk (Kd.N_drew HO_5.out)
                                                          have n2_ := Aside0.mk (Kd.R_drew HO_688001.out)
                                                          have n3_ := Aside0.mk (Kd.V_drew HL696_0.out)
                                                          have n4_ := Aside0.mk (blk_drew BK687.out)
                                                          have n5_ := Aside0.mk (Kd.C_drew HR693_0.out)
                                                          have n6_ := Aside0.mk (Kd.C_drew HR694_0.out)
                                                          have n7_ := Aside0.mk (Kd.C_drew HR696_0.out)
                                                          have n8_ := Aside0.mk (below_drew1 HB.out)
                                                          clear HO_3
                                                          clear HO_5
                                                          clear HO_688001
                                                          clear HL696_0
                                                          clear BK687
                                                          clear HR693_0
                                                          clear HR694_0
                                                          clear HR696_0
                                                          clear HB
                                                          have HO_3 := n0_
                                                          have HO_5 := n1_
                                                          have HO_688001 := n2_
                                                          have HL696_0 := n3_
                                                          have BK687 := n4_
                                                          have HR693_0 := n5_
                                                          have HR694_0 := n6_
                                                          have HR696_0 := n7_
                                                          have HB := n8_
                                                          clear n0_ n1_ n2_ n3_ n4_ n5_ n6_ n7_ n8_
                                                          have p704 : 0 ≤ (x7_2 : Int) := of_decide_eq_true (by first | (with_reducible assumption) | assumption)
                                                          have q704 : x7_2 < (t688.length : Int) := of_decide_eq_true (by first | (with_reducible assumption) | assumption)
                                                          obtain ⟨ad704, A704_0, c704_0, e704, hx704_0, hl704_0, hi704_0⟩ := at_L4 (Kd.N_reads' HO_5.out).2.2 x7_2 p704 q704
                                                          obtain rfl : ad693 = ad704 := (by injection e704)
                                                          obtain ⟨ce704, hce704, hMe704, hcc704⟩ := Kd.N_get HO_5.out [] x7_2 p704 (by first | exact q704 | exact of_decide_eq_true (by first | (with_reducible assumption) | assumption) | (have e_ := (Kd.N_reads' HO_5.out).1; omega))
                                                          obtain ⟨ua704_0, uc704_0, rfl, ul704_0, ge704_0⟩ := Kd.FK_slice_open hMe704
                                                          have hv704_0 := hcc704 0 _ rfl
                                                          rw [Nat.add_zero, show ((Kd.slice 3 (Kd.int .i64))).sz = 1 from rfl, Nat.mul_one] at hv704_0
                                                          replace hv704_0 := Option.some.inj (hv704_0.symm.trans hx704_0)
                                                          injection hv704_0 with hva_ hvn_ hvc_
                                                          rw [hva_] at ge704_0
                                                          rw [hvc_] at ul704_0
                                                          have HL704_0 := Aside0.mk (show Kd.V (Kd.int .i64) 3 _ w.heap.size _ _ (rd_L4 t688 x7_2) from Kd.V_mk ul704_0 ge704_0)
                                                          clear hva_ hvn_ hvc_ ge704_0 ul704_0
                                                          clear hcc704 hce704
                                                          have HR704_0 := Aside0.mk hi704_0
                                                          have HC704_0 := Aside0.mk hl704_0
                                                          clear hi704_0 hl704_0
                                                          replace p704 := eq_true p704
                                                          replace q704 := eq_true q704
                                                          have p705 : 0 ≤ (x10_3 : Int) := of_decide_eq_true (by first | (with_reducible assumption) | assumption)
                                                          have q705 : x10_3 < ((rd_L4 t688 x7_2).length : Int) := of_decide_eq_true (by first | (with_reducible assumption) | assumption)
                                                          obtain ⟨ad705, e705, hx705_0⟩ := Kd.at_int (by repeat (first | (with_reducible exact HR704_0.out) | (with_reducible refine Kd.C_alloc ?_ _) | (with_reducible refine Kd.C_drewN ?_ _) | (with_reducible refine Kd.C_drew ?_) | exact HR704_0.out)) x10_3 p705 q705
                                                          cases e705
                                                          replace p705 := eq_true p705
                                                          replace q705 := eq_true q705
                                                          have p706 : 0 ≤ (x7_2 : Int) := of_decide_eq_true (by first | (with_reducible assumption) | assumption)
                                                          have q706 : x7_2 < (t678.length : Int) := of_decide_eq_true (by first | (with_reducible assumption) | assumption)
                                                          obtain ⟨ad706, e706, hx706_0, hx706_1, hx706_2⟩ := at_T24 (Kd.R_reads' HO_3.out).2.2 x7_2 p706 q706
                                                          cases e706
                                                          replace p706 := eq_true p706
                                                          replace q706 := eq_true q706
                                                          have p707 : 0 ≤ ((ji46) : Int) := of_decide_eq_true (by first | (with_reducible assumption) | assumption)
                                                          have q707 : (ji46) < (t678.length : Int) := of_decide_eq_true (by first | (with_reducible assumption) | assumption)
                                                          obtain ⟨ad707, e707, hx707_0, hx707_1, hx707_2⟩ := at_T24 (Kd.R_reads' HO_3.out).2.2 (ji46) p707 q707
                                                          obtain rfl : ad706 = ad707 := (by injection e707)
                                                          replace p707 := eq_true p707
                                                          replace q707 := eq_true q707
                                                          have p709 : 0 ≤ (x7_2 : Int) := of_decide_eq_true (by first | (with_reducible assumption) | assumption)
                                                          have q709 : x7_2 < (t678.length : Int) := of_decide_eq_true (by first | (with_reducible assumption) | assumption)
                                                          obtain ⟨ad709, e709, hx709_0, hx709_1, hx709_2⟩ := at_T24 (Kd.R_reads' HO_3.out).2.2 x7_2 p709 q709
                                                          obtain rfl : ad706 = ad709 := (by injection e709)
                                                          replace p709 := eq_true p709
                                                          replace q709 := eq_true q709
                                                          obtain ⟨z0_, z1_, z2_, z3_, z4_, z5_, z6_, z7_, z8_, z9_, z10_⟩ : wc.cell? (ad693.add (x7_2).toNat) = some (.slice (some ad705) (rd_L4 t688 x7_2).length c704_0) ∧ wc.cell? (ad705.add (x10_3).toNat) = some (.int .i64 (rd (rd_L4 t688 x7_2) x10_3)) ∧ wc.cell? (ad706.add ((x7_2).toNat * 3)) = some (.string ((rd_T24 t678 x7_2).f0)) ∧ wc.cell? ⟨(ad706.add ((x7_2).toNat * 3)).block, (ad706.add ((x7_2).toNat * 3)).off + 1, none⟩ = some (.int .i64 ((rd_T24 t678 x7_2).f1)) ∧ wc.cell? ⟨(ad706.add ((x7_2).toNat * 3)).block, (ad706.add ((x7_2).toNat * 3)).off + 2, none⟩ = some (.bool ((rd_T24 t678 x7_2).f2)) ∧ wc.cell? (ad706.add (((ji46)).toNat * 3)) = some (.string ((rd_T24 t678 (ji46)).f0)) ∧ wc.cell? ⟨(ad706.add (((ji46)).toNat * 3)).block, (ad706.add (((ji46)).toNat * 3)).off + 1, none⟩ = some (.int .i64 ((rd_T24 t678 (ji46)).f1)) ∧ wc.cell? ⟨(ad706.add (((ji46)).toNat * 3)).block, (ad706.add (((ji46)).toNat * 3)).off + 2, none⟩ = some (.bool ((rd_T24 t678 (ji46)).f2)) ∧ wc.cell? (ad706.add ((x7_2).toNat * 3)) = some (.string ((rd_T24 t678 x7_2).f0)) ∧ wc.cell? ⟨(ad706.add ((x7_2).toNat * 3)).block, (ad706.add ((x7_2).toNat * 3)).off + 1, none⟩ = some (.int .i64 ((rd_T24 t678 x7_2).f1)) ∧ wc.cell? ⟨(ad706.add ((x7_2).toNat * 3)).block, (ad706.add ((x7_2).toNat * 3)).off + 2, none⟩ = some (.bool ((rd_T24 t678 x7_2).f2)) := ⟨hx704_0, hx705_0, hx706_0, hx706_1, hx706_2, hx707_0, hx707_1, hx707_2, hx709_0, hx709_1, hx709_2⟩
                                                          go_quiet (first | (go_at_call 43; exact Calls.quiet_of ((cippusref07_Apart.calls kj26 ((rd_T24 t678 x7_2).f0) ((rd_T24 t678 (ji46)).f0) t708 _ A49.out).mono (fun e w' h => ⟨h.1, h.2.out⟩))))
                                                          try go_wp2
                                                          go_roundg kj26
                                                          case measure => have := HJ4.out; have := HK2.out; have := HK3.out; have := HJ26.out; omega
                                                          case rel => exact ⟨(x8_26), (x9_3), (wrap64 (x10_3 + 1)), (by first | rfl | (simp; done) | (simp [*]; done)), (by first | rfl | (simp; done) | (simp [*]; done)), (by first | rfl | (simp; done) | (simp [*]; done)), H', ⟨by have := HJ4.out; have := HK2.out; have := HK3.out; have := HJ26.out; omega⟩, ⟨by (with_reducible repeat (first | apply Kd.R_alloc | apply Kd.R_drewN | apply Kd.R_drew)); exact HO_3.out⟩, ⟨by (with_reducible repeat (first | apply Kd.N_alloc | apply Kd.N_drewN | apply Kd.N_drew)); exact HO_5.out⟩, ⟨by (with_reducible repeat (first | apply Kd.R_alloc | apply Kd.R_drewN | apply Kd.R_drew)); exact HO_688001.out⟩, ⟨by (with_reducible repeat (first | refine blk_drewN ?_ _ | refine blk_drew ?_ | refine blk_alloc ?_ _)); exact BK687.out⟩, ⟨by repeat (first | (with_reducible exact HR693_0.out) | (with_reducible refine Kd.C_alloc ?_ _) | (with_reducible refine Kd.C_drewN ?_ _) | (with_reducible refine Kd.C_drew ?_) | exact HR693_0.out)⟩, ⟨by repeat (first | (with_reducible first | exact HB.out | apply below_alloc | apply pw_below_drewN | apply below_drew1 | refine below_set ?_ GE687.out) | exact HB.out | exact undrawn_ HB.out)⟩⟩
                                                      · rw [if_neg c48] at H
                                                        exact absurd H (by simp)
                                                    · rw [if_neg c47] at H
                                                      exact absurd H (by simp)
                                                  · rw [if_neg c45] at H
                                                    exact absurd H (by simp)
                                                · rw [if_neg c44] at H
                                                  have c44b0 : decide (0 < x10_3) = false := decide_eq_false c44
                                                  clear c44
                                                  have H' := Aside0.mk H
                                                  clear H
                                                  have p696 : 0 ≤ (x7_2 : Int) := of_decide_eq_true (by first | (with_reducible assumption) | assumption)
                                                  have q696 : x7_2 < (t688.length : Int) := of_decide_eq_true (by first | (with_reducible assumption) | assumption)
                                                  obtain ⟨ad696, A696_0, c696_0, e696, hx696_0, hl696_0, hi696_0⟩ := at_L4 (Kd.N_reads' HO_5.out).2.2 x7_2 p696 q696
                                                  obtain rfl : ad693 = ad696 := (by injection e696)
                                                  obtain ⟨ce696, hce696, hMe696, hcc696⟩ := Kd.N_get HO_5.out [] x7_2 p696 (by first | exact q696 | exact of_decide_eq_true (by first | (with_reducible assumption) | assumption) | (have e_ := (Kd.N_reads' HO_5.out).1; omega))
                                                  obtain ⟨ua696_0, uc696_0, rfl, ul696_0, ge696_0⟩ := Kd.FK_slice_open hMe696
                                                  have hv696_0 := hcc696 0 _ rfl
                                                  rw [Nat.add_zero, show ((Kd.slice 3 (Kd.int .i64))).sz = 1 from rfl, Nat.mul_one] at hv696_0
                                                  replace hv696_0 := Option.some.inj (hv696_0.symm.trans hx696_0)
                                                  injection hv696_0 with hva_ hvn_ hvc_
                                                  rw [hva_] at ge696_0
                                                  rw [hvc_] at ul696_0
                                                  have HL696_0 := Aside0.mk (show Kd.V (Kd.int .i64) 3 _ w.heap.size _ _ (rd_L4 t688 x7_2) from Kd.V_mk ul696_0 ge696_0)
                                                  clear hva_ hvn_ hvc_ ge696_0 ul696_0
                                                  clear hcc696 hce696
                                                  have HR696_0 := Aside0.mk hi696_0
                                                  have HC696_0 := Aside0.mk hl696_0
                                                  clear hi696_0 hl696_0
                                                  replace p696 := eq_true p696
                                                  replace q696 := eq_true q696
                                                  have p697 : 0 ≤ (x10_3 : Int) := of_decide_eq_true (by first | (with_reducible assumption) | assumption)
                                                  have q697 : x10_3 < ((rd_L4 t688 x7_2).length : Int) := of_decide_eq_true (by first | (with_reducible assumption) | assumption)
                                                  obtain ⟨ad697, e697, hx697_0⟩ := Kd.at_int (by repeat (first | (with_reducible exact HR696_0.out) | (with_reducible refine Kd.C_alloc ?_ _) | (with_reducible refine Kd.C_drewN ?_ _) | (with_reducible refine Kd.C_drew ?_) | exact HR696_0.out)) x10_3 p697 q697
                                                  cases e697
                                                  replace p697 := eq_true p697
                                                  replace q697 := eq_true q697
                                                  try go_wp2
                                                  have n0_ := Aside0.mk (Kd.R_drew HO_3.out)
                                                  have n1_ := Aside0.mk (Kd.N_drew HO_5.out)
                                                  have n2_ := Aside0.mk (Kd.R_drew HO_688001.out)
                                                  have n3_ := Aside0.mk (Kd.V_drew HL696_0.out)
                                                  have n4_ := Aside0.mk (blk_drew BK687.out)
                                                  have n5_ := Aside0.mk (Kd.C_drew HR693_0.out)
                                                  have n6_ := Aside0.mk (Kd.C_drew HR694_0.out)
                                                  have n7_ := Aside0.mk (Kd.C_drew HR696_0.out)
                                                  have n8_ := Aside0.mk (below_drew1 HB.out)
                                                  clear HO_3
                                                  clear HO_5
                                                  clear HO_688001
                                                  clear HL696_0
                                                  clear BK687
                                                  clear HR693_0
                                                  clear HR694_0
                                                  clear HR696_0
                                                  clear HB
                                                  have HO_3 := n0_
                                                  have HO_5 := n1_
                                                  have HO_688001 := n2_
                                                  have HL696_0 := n3_
                                                  have BK687 := n4_
                                                  have HR693_0 := n5_
                                                  have HR694_0 := n6_
                                                  have HR696_0 := n7_
                                                  have HB := n8_
                                                  clear n0_ n1_ n2_ n3_ n4_ n5_ n6_ n7_ n8_
                                                  go_quiet (fail)
                                                  try go_wp2
                                                  go_roundg kj26
                                                  case measure => have := HJ4.out; have := HK2.out; have := HK3.out; have := HJ26.out; omega
                                                  case rel => exact ⟨(x8_26), (x9_3), (wrap64 (x10_3 + 1)), (by first | rfl | (simp; done) | (simp [*]; done)), (by first | rfl | (simp; done) | (simp [*]; done)), (by first | rfl | (simp; done) | (simp [*]; done)), H', ⟨by have := HJ4.out; have := HK2.out; have := HK3.out; have := HJ26.out; omega⟩, ⟨by (with_reducible repeat (first | apply Kd.R_alloc | apply Kd.R_drewN | apply Kd.R_drew)); exact HO_3.out⟩, ⟨by (with_reducible repeat (first | apply Kd.N_alloc | apply Kd.N_drewN | apply Kd.N_drew)); exact HO_5.out⟩, ⟨by (with_reducible repeat (first | apply Kd.R_alloc | apply Kd.R_drewN | apply Kd.R_drew)); exact HO_688001.out⟩, ⟨by (with_reducible repeat (first | refine blk_drewN ?_ _ | refine blk_drew ?_ | refine blk_alloc ?_ _)); exact BK687.out⟩, ⟨by repeat (first | (with_reducible exact HR693_0.out) | (with_reducible refine Kd.C_alloc ?_ _) | (with_reducible refine Kd.C_drewN ?_ _) | (with_reducible refine Kd.C_drew ?_) | exact HR693_0.out)⟩, ⟨by repeat (first | (with_reducible first | exact HB.out | apply below_alloc | apply pw_below_drewN | apply below_drew1 | refine below_set ?_ GE687.out) | exact HB.out | exact undrawn_ HB.out)⟩⟩
                                            · rw [if_neg c32] at H
                                              exact absurd H (by simp)
                                          · rw [if_neg c31] at H
                                            exact absurd H (by simp)
                                        · rw [if_neg c30] at H
                                          exact absurd H (by simp)
                                      · rw [if_neg c29] at H
                                        exact absurd H (by simp)
                                · rw [if_neg c26] at H
                                  exact absurd H (by simp)
                              · rw [if_neg c25] at H
                                exact absurd H (by simp)
                            · rw [if_neg c24] at H
                              exact absurd H (by simp)
                          · rw [if_neg c23] at H
                            exact absurd H (by simp)
                        · rw [if_neg c22] at H
                          have c22b0 : decide (x10_3 ≤ x7_2) = false := decide_eq_false c22
                          clear c22
                          have HC54 := Aside0.mk H
                          clear H
                          go_upto_region 20 with (fail)
                          go_cut [136] (fun v136 wc => ∃ (kq : Nat) (x136_53 : Bool), v136 = .bool x136_53 ∧ Aside0 (cippuslaw07_StemmaProved.j4 kq t678 t688 x7_2 x136_53 = some r) ∧ Aside0 (kq ≤ k3) ∧ Aside0 (Kd.R k24 24 wc w.heap.size (fun _ => True) (.slice Ao12 t678.length co12) t678) ∧ Aside0 (Kd.N (Kd.slice 3 (Kd.int .i64)) 25 wc w.heap.size (fun k_ => some k_ ≠ ((.slice Ao12 t678.length co12) : Value).ownBlock ∧ some k_ ≠ ((.slice Ao11 t682.length co11) : Value).ownBlock ∧ k_ ≠ gb687) (.slice (some ad693) t688.length co21) t688) ∧ Aside0 (Kd.R (Kd.int .i64) 3 wc w.heap.size (fun _ => True) (.slice Ao11 t682.length co11) t682) ∧ Aside0 (wc.heap[gb687]? = some (.cells #[.string t681, (.slice Ao11 t682.length co11)] 27 (0, 0))) ∧ Aside0 (Kd.C (Kd.int .i64) wc A693_0 (rd_L4 t688 x7_2).length (rd_L4 t688 x7_2)) ∧ Aside0 (Below w.heap.size w wc))
                          case first => as_aux_lemma =>
                            have H := HC54.out
                            clear HC54
                            by_cases c55 : x8_3 = 0
                            · rw [if_pos c55] at H
                              have c55b0 : (x8_3 == 0) = true := beq_iff_eq.mpr c55
                              have c55b1 : (x8_3 != 0) = false := bne_eq_false_iff_eq.mpr c55
                              clear c55
                              (first | rw [c55b0] | (simp only [i64_w, i32_w]; rw [c55b0]) | skip)
                              have H' := Aside0.mk H
                              clear H
                              go_wp2
                              go_meet
                              case rel => exact ⟨_, (true), (by first | rfl | (simp; done) | (simp [*]; done)), H', ⟨by have := HJ4.out; have := HK2.out; have := HK3.out; first | omega | exact Nat.le_refl _⟩, ⟨by (with_reducible repeat (first | apply Kd.R_alloc | apply Kd.R_drewN | apply Kd.R_drew)); exact HO_3.out⟩, ⟨by (with_reducible repeat (first | apply Kd.N_alloc | apply Kd.N_drewN | apply Kd.N_drew)); exact HO_5.out⟩, ⟨by (with_reducible repeat (first | apply Kd.R_alloc | apply Kd.R_drewN | apply Kd.R_drew)); exact HO_688001.out⟩, ⟨by (with_reducible repeat (first | refine blk_drewN ?_ _ | refine blk_drew ?_ | refine blk_alloc ?_ _)); exact BK687.out⟩, ⟨by repeat (first | (with_reducible exact HR693_0.out) | (with_reducible refine Kd.C_alloc ?_ _) | (with_reducible refine Kd.C_drewN ?_ _) | (with_reducible refine Kd.C_drew ?_) | exact HR693_0.out)⟩, ⟨by repeat (first | (with_reducible first | exact HB.out | apply below_alloc | apply pw_below_drewN | apply below_drew1 | refine below_set ?_ GE687.out) | exact HB.out | exact undrawn_ HB.out)⟩⟩
                            · rw [if_neg c55] at H
                              have c55b0 : (x8_3 == 0) = false := beq_eq_false_iff_ne.mpr c55
                              have c55b1 : (x8_3 != 0) = true := bne_iff_ne.mpr c55
                              (first | rw [c55b0] | (simp only [i64_w, i32_w]; rw [c55b0]) | skip)
                              by_cases c56 : ((x8_3 == 1) != (x9_3 == 1)) = true
                              · rw [if_pos c56] at H
                                have c56b0 : ((x8_3 == 1) != (x9_3 == 1)) = true := c56
                                (try (have c56b1 : decide ((x8_3 == 1) = (x9_3 == 1)) = false := by simpa using c56))
                                (try (have c56b2 : ((x8_3 == 1) == (x9_3 == 1)) = false := by simpa using c56))
                                (try (have c56b3 : ¬ ((x8_3 == 1) = (x9_3 == 1)) := by simpa using c56))
                                clear c56
                                have H' := Aside0.mk H
                                clear H
                                go_wp2
                                go_meet
                                case rel => exact ⟨_, (true), (by first | rfl | (simp; done) | (simp [*]; done)), H', ⟨by have := HJ4.out; have := HK2.out; have := HK3.out; first | omega | exact Nat.le_refl _⟩, ⟨by (with_reducible repeat (first | apply Kd.R_alloc | apply Kd.R_drewN | apply Kd.R_drew)); exact HO_3.out⟩, ⟨by (with_reducible repeat (first | apply Kd.N_alloc | apply Kd.N_drewN | apply Kd.N_drew)); exact HO_5.out⟩, ⟨by (with_reducible repeat (first | apply Kd.R_alloc | apply Kd.R_drewN | apply Kd.R_drew)); exact HO_688001.out⟩, ⟨by (with_reducible repeat (first | refine blk_drewN ?_ _ | refine blk_drew ?_ | refine blk_alloc ?_ _)); exact BK687.out⟩, ⟨by repeat (first | (with_reducible exact HR693_0.out) | (with_reducible refine Kd.C_alloc ?_ _) | (with_reducible refine Kd.C_drewN ?_ _) | (with_reducible refine Kd.C_drew ?_) | exact HR693_0.out)⟩, ⟨by repeat (first | (with_reducible first | exact HB.out | apply below_alloc | apply pw_below_drewN | apply below_drew1 | refine below_set ?_ GE687.out) | exact HB.out | exact undrawn_ HB.out)⟩⟩
                              · rw [if_neg c56] at H
                                have c56b0 : ((x8_3 == 1) != (x9_3 == 1)) = false := by simpa using c56
                                (try (have c56b1 : decide ((x8_3 == 1) = (x9_3 == 1)) = true := by simpa using c56))
                                (try (have c56b2 : ((x8_3 == 1) == (x9_3 == 1)) = true := by simpa using c56))
                                clear c56
                                by_cases c57 : 0 ≤ x7_2
                                · rw [if_pos c57] at H
                                  have c57b0 : decide (0 ≤ x7_2) = true := decide_eq_true c57
                                  clear c57
                                  by_cases c58 : x7_2 < (t678.length : Int)
                                  · rw [if_pos c58] at H
                                    have c58b0 : decide (x7_2 < (t678.length : Int)) = true := decide_eq_true c58
                                    clear c58
                                    obtain ⟨bq59, hbq59⟩ : ∃ b_ : Bool, b_ = ((rd_T24 t678 x7_2).f2) := ⟨_, rfl⟩
                                    replace H : (if (bq59 = true) then (cippuslaw07_StemmaProved.j4 k3 t678 t688 x7_2 false) else (if x7_2 = 0 then (cippuslaw07_StemmaProved.j4 k3 t678 t688 x7_2 true) else (if x7_2 < (t688.length : Int) then (if 0 < ((rd_L4 t688 x7_2).length : Int) then (cippuslaw07_StemmaProved.j4 k3 t678 t688 x7_2 ((rd (rd_L4 t688 x7_2) 0) != 2)) else (none)) else (none)))) = some r := by rw [← hbq59] at H; exact H
                                    have Nbq59 := Aside0.mk hbq59
                                    clear hbq59
                                    by_cases c60 : (bq59 = true)
                                    · subst c60
                                      have H1 : (cippuslaw07_StemmaProved.j4 k3 t678 t688 x7_2 false) = some r := by rw [if_pos rfl] at H; exact H
                                      clear H
                                      have H := H1
                                      clear H1
                                      have H' := Aside0.mk H
                                      clear H
                                      have p710 : 0 ≤ (x7_2 : Int) := of_decide_eq_true (by first | (with_reducible assumption) | assumption)
                                      have q710 : x7_2 < (t678.length : Int) := of_decide_eq_true (by first | (with_reducible assumption) | assumption)
                                      obtain ⟨ad710, e710, hx710_0, hx710_1, hx710_2⟩ := at_T24 (Kd.R_reads' HO_3.out).2.2 x7_2 p710 q710
                                      (try rw [← Nbq59.out] at hx710_2)
                                      cases e710
                                      replace p710 := eq_true p710
                                      replace q710 := eq_true q710
                                      go_wp2
                                      go_meet
                                      case rel => exact ⟨_, (false), (by first | rfl | (simp; done) | (simp [*]; done)), H', ⟨by have := HJ4.out; have := HK2.out; have := HK3.out; first | omega | exact Nat.le_refl _⟩, ⟨by (with_reducible repeat (first | apply Kd.R_alloc | apply Kd.R_drewN | apply Kd.R_drew)); exact HO_3.out⟩, ⟨by (with_reducible repeat (first | apply Kd.N_alloc | apply Kd.N_drewN | apply Kd.N_drew)); exact HO_5.out⟩, ⟨by (with_reducible repeat (first | apply Kd.R_alloc | apply Kd.R_drewN | apply Kd.R_drew)); exact HO_688001.out⟩, ⟨by (with_reducible repeat (first | refine blk_drewN ?_ _ | refine blk_drew ?_ | refine blk_alloc ?_ _)); exact BK687.out⟩, ⟨by repeat (first | (with_reducible exact HR693_0.out) | (with_reducible refine Kd.C_alloc ?_ _) | (with_reducible refine Kd.C_drewN ?_ _) | (with_reducible refine Kd.C_drew ?_) | exact HR693_0.out)⟩, ⟨by repeat (first | (with_reducible first | exact HB.out | apply below_alloc | apply pw_below_drewN | apply below_drew1 | refine below_set ?_ GE687.out) | exact HB.out | exact undrawn_ HB.out)⟩⟩
                                    · replace c60 := Bool.eq_false_iff.mpr c60
                                      subst c60
                                      have H1 : (if x7_2 = 0 then (cippuslaw07_StemmaProved.j4 k3 t678 t688 x7_2 true) else (if x7_2 < (t688.length : Int) then (if 0 < ((rd_L4 t688 x7_2).length : Int) then (cippuslaw07_StemmaProved.j4 k3 t678 t688 x7_2 ((rd (rd_L4 t688 x7_2) 0) != 2)) else (none)) else (none))) = some r := by rw [if_neg (show ¬ (false = true) by decide)] at H; exact H
                                      clear H
                                      have H := H1
                                      clear H1
                                      by_cases c61 : x7_2 = 0
                                      · rw [if_pos c61] at H
                                        have c61b0 : (x7_2 == 0) = true := beq_iff_eq.mpr c61
                                        have c61b1 : (x7_2 != 0) = false := bne_eq_false_iff_eq.mpr c61
                                        clear c61
                                        have H' := Aside0.mk H
                                        clear H
                                        have p710 : 0 ≤ (x7_2 : Int) := of_decide_eq_true (by first | (with_reducible assumption) | assumption)
                                        have q710 : x7_2 < (t678.length : Int) := of_decide_eq_true (by first | (with_reducible assumption) | assumption)
                                        obtain ⟨ad710, e710, hx710_0, hx710_1, hx710_2⟩ := at_T24 (Kd.R_reads' HO_3.out).2.2 x7_2 p710 q710
                                        (try rw [← Nbq59.out] at hx710_2)
                                        cases e710
                                        replace p710 := eq_true p710
                                        replace q710 := eq_true q710
                                        go_wp2
                                        go_meet
                                        case rel => exact ⟨_, (true), (by first | rfl | (simp; done) | (simp [*]; done)), H', ⟨by have := HJ4.out; have := HK2.out; have := HK3.out; first | omega | exact Nat.le_refl _⟩, ⟨by (with_reducible repeat (first | apply Kd.R_alloc | apply Kd.R_drewN | apply Kd.R_drew)); exact HO_3.out⟩, ⟨by (with_reducible repeat (first | apply Kd.N_alloc | apply Kd.N_drewN | apply Kd.N_drew)); exact HO_5.out⟩, ⟨by (with_reducible repeat (first | apply Kd.R_alloc | apply Kd.R_drewN | apply Kd.R_drew)); exact HO_688001.out⟩, ⟨by (with_reducible repeat (first | refine blk_drewN ?_ _ | refine blk_drew ?_ | refine blk_alloc ?_ _)); exact BK687.out⟩, ⟨by repeat (first | (with_reducible exact HR693_0.out) | (with_reducible refine Kd.C_alloc ?_ _) | (with_reducible refine Kd.C_drewN ?_ _) | (with_reducible refine Kd.C_drew ?_) | exact HR693_0.out)⟩, ⟨by repeat (first | (with_reducible first | exact HB.out | apply below_alloc | apply pw_below_drewN | apply below_drew1 | refine below_set ?_ GE687.out) | exact HB.out | exact undrawn_ HB.out)⟩⟩
                                      · rw [if_neg c61] at H
                                        have c61b0 : (x7_2 == 0) = false := beq_eq_false_iff_ne.mpr c61
                                        have c61b1 : (x7_2 != 0) = true := bne_iff_ne.mpr c61
                                        by_cases c62 : x7_2 < (t688.length : Int)
                                        · rw [if_pos c62] at H
                                          have c62b0 : decide (x7_2 < (t688.length : Int)) = true := decide_eq_true c62
                                          clear c62
                                          by_cases c63 : 0 < ((rd_L4 t688 x7_2).length : Int)
                                          · rw [if_pos c63] at H
                                            have c63b0 : decide (0 < ((rd_L4 t688 x7_2).length : Int)) = true := decide_eq_true c63
                                            have c63b1 : decide (0 < (rd_L4 t688 x7_2).length) = true := decide_eq_true (by omega)
                                            clear c63
                                            have H' := Aside0.mk H
                                            clear H
                                            have p710 : 0 ≤ (x7_2 : Int) := of_decide_eq_true (by first | (with_reducible assumption) | assumption)
                                            have q710 : x7_2 < (t678.length : Int) := of_decide_eq_true (by first | (with_reducible assumption) | assumption)
                                            obtain ⟨ad710, e710, hx710_0, hx710_1, hx710_2⟩ := at_T24 (Kd.R_reads' HO_3.out).2.2 x7_2 p710 q710
                                            (try rw [← Nbq59.out] at hx710_2)
                                            cases e710
                                            replace p710 := eq_true p710
                                            replace q710 := eq_true q710
                                            have p711 : 0 ≤ (x7_2 : Int) := of_decide_eq_true (by first | (with_reducible assumption) | assumption)
                                            have q711 : x7_2 < (t688.length : Int) := of_decide_eq_true (by first | (with_reducible assumption) | assumption)
                                            obtain ⟨ad711, A711_0, c711_0, e711, hx711_0, hl711_0, hi711_0⟩ := at_L4 (Kd.N_reads' HO_5.out).2.2 x7_2 p711 q711
                                            obtain rfl : ad693 = ad711 := (by injection e711)
                                            obtain ⟨ce711, hce711, hMe711, hcc711⟩ := Kd.N_get HO_5.out [] x7_2 p711 (by first | exact q711 | exact of_decide_eq_true (by first | (with_reducible assumption) | assumption) | (have e_ := (Kd.N_reads' HO_5.out).1; omega))
                                            obtain ⟨ua711_0, uc711_0, rfl, ul711_0, ge711_0⟩ := Kd.FK_slice_open hMe711
                                            have hv711_0 := hcc711 0 _ rfl
                                            rw [Nat.add_zero, show ((Kd.slice 3 (Kd.int .i64))).sz = 1 from rfl, Nat.mul_one] at hv711_0
                                            replace hv711_0 := Option.some.inj (hv711_0.symm.trans hx711_0)
                                            injection hv711_0 with hva_ hvn_ hvc_
                                            rw [hva_] at ge711_0
                                            rw [hvc_] at ul711_0
                                            have HL711_0 := Aside0.mk (show Kd.V (Kd.int .i64) 3 _ w.heap.size _ _ (rd_L4 t688 x7_2) from Kd.V_mk ul711_0 ge711_0)
                                            clear hva_ hvn_ hvc_ ge711_0 ul711_0
                                            clear hcc711 hce711
                                            have HR711_0 := Aside0.mk hi711_0
                                            have HC711_0 := Aside0.mk hl711_0
                                            clear hi711_0 hl711_0
                                            replace p711 := eq_true p711
                                            replace q711 := eq_true q711
                                            have p712 : 0 ≤ (0 : Int) := (by omega)
                                            have q712 : 0 < ((rd_L4 t688 x7_2).length : Int) := of_decide_eq_true (by first | (with_reducible assumption) | assumption)
                                            obtain ⟨ad712, e712, hx712_0⟩ := Kd.at_int (by repeat (first | (with_reducible exact HR711_0.out) | (with_reducible refine Kd.C_alloc ?_ _) | (with_reducible refine Kd.C_drewN ?_ _) | (with_reducible refine Kd.C_drew ?_) | exact HR711_0.out)) 0 p712 q712
                                            cases e712
                                            have qi712 : (0 < (rd_L4 t688 x7_2).length) = True := eq_true (by omega)
                                            (try rw [show ((0 : Int)).toNat = 0 from rfl] at hx712_0)
                                            (try rw [Addr.add_zero'] at hx712_0)
                                            replace p712 := eq_true p712
                                            replace q712 := eq_true q712
                                            go_wp2
                                            go_meet
                                            case rel => exact ⟨_, (((rd (rd_L4 t688 x7_2) 0) != 2)), (by first | rfl | (simp; done) | (simp [*]; done)), H', ⟨by have := HJ4.out; have := HK2.out; have := HK3.out; first | omega | exact Nat.le_refl _⟩, ⟨by (with_reducible repeat (first | apply Kd.R_alloc | apply Kd.R_drewN | apply Kd.R_drew)); exact HO_3.out⟩, ⟨by (with_reducible repeat (first | apply Kd.N_alloc | apply Kd.N_drewN | apply Kd.N_drew)); exact HO_5.out⟩, ⟨by (with_reducible repeat (first | apply Kd.R_alloc | apply Kd.R_drewN | apply Kd.R_drew)); exact HO_688001.out⟩, ⟨by (with_reducible repeat (first | refine blk_drewN ?_ _ | refine blk_drew ?_ | refine blk_alloc ?_ _)); exact BK687.out⟩, ⟨by repeat (first | (with_reducible exact HR693_0.out) | (with_reducible refine Kd.C_alloc ?_ _) | (with_reducible refine Kd.C_drewN ?_ _) | (with_reducible refine Kd.C_drew ?_) | exact HR693_0.out)⟩, ⟨by repeat (first | (with_reducible first | exact HB.out | apply below_alloc | apply pw_below_drewN | apply below_drew1 | refine below_set ?_ GE687.out) | exact HB.out | exact undrawn_ HB.out)⟩⟩
                                          · rw [if_neg c63] at H
                                            exact absurd H (by simp)
                                        · rw [if_neg c62] at H
                                          exact absurd H (by simp)
                                  · rw [if_neg c58] at H
                                    exact absurd H (by simp)
                                · rw [if_neg c57] at H
                                  exact absurd H (by simp)
                          case rest => as_aux_lemma =>
                            clear HC54
                            try clear c2
                            try clear p2
                            try clear c3
                            try clear c4
                            try clear c5
                            try clear q5
                            try clear c6
                            try clear p6
                            try clear q6
                            try clear hx6
                            try clear c7
                            try clear p7
                            try clear q7
                            try clear hx7
                            try clear qi7
                            try clear c22
                            try clear c22b0
                            try clear c23
                            try clear c24
                            try clear c25
                            try clear c26
                            try clear c29
                            try clear c30
                            try clear c31
                            try clear c32
                            try clear c43
                            try clear c44
                            try clear c44b0
                            try clear c45
                            try clear c47
                            try clear c48
                            try clear c55
                            try clear c55b0
                            try clear c55b1
                            try clear c56
                            try clear c56b0
                            try clear c56b1
                            try clear c56b2
                            try clear c57
                            try clear c57b0
                            try clear c58
                            try clear c58b0
                            try clear q59
                            try clear c60
                            try clear c61
                            try clear c61b0
                            try clear c61b1
                            try clear c62
                            try clear c62b0
                            try clear c63
                            try clear c63b0
                            try clear c63b1
                            try clear hx696_0
                            try clear hx697_0
                            try clear hx710_0
                            try clear hx710_1
                            try clear hx710_2
                            try clear hx711_0
                            try clear hx712_0
                            try clear p696
                            try clear p697
                            try clear p710
                            try clear p711
                            try clear p712
                            try clear q696
                            try clear q697
                            try clear q710
                            try clear q711
                            try clear q712
                            obtain ⟨kq, x136_53, rfl, HA, HJ53, HO_3, HO_5, HO_688001, BK687, HR693_0, HB⟩ := hcut
                            cases kq with
                            | zero => exact absurd HA.out (by simp [cippuslaw07_StemmaProved.j4])
                            | succ kj53 =>
                              have H := HA.out
                              clear HA
                              simp only [cippuslaw07_StemmaProved.j4] at H
                              by_cases c64 : x136_53 = true
                              · subst c64
                                have H1 : (some false) = some r := by rw [if_pos rfl] at H; exact H
                                clear H
                                have H := H1
                                clear H1
                                obtain rfl := Option.some.inj H
                                go_wp2
                                go_ret
                                exact ⟨by first | rfl | (simp [errW_none, errW_some] <;> rfl) | (simp [*, errW_none, errW_some] <;> rfl), by repeat (first | (with_reducible first | exact HB.out | apply below_alloc | apply pw_below_drewN | apply below_drew1 | refine below_set ?_ GE687.out) | exact HB.out | exact undrawn_ HB.out)⟩
                              · replace c64 := Bool.eq_false_iff.mpr c64
                                subst c64
                                have H1 : (if 0 ≤ x7_2 then (if x7_2 < (t678.length : Int) then (cippuslaw07_StemmaProved.l2 kj53 t678 t688 x7_2 ((rd_T24 t678 x7_2).f2) 0) else (none)) else (none)) = some r := by rw [if_neg (show ¬ (false = true) by decide)] at H; exact H
                                clear H
                                have H := H1
                                clear H1
                                by_cases c65 : 0 ≤ x7_2
                                · rw [if_pos c65] at H
                                  have c65b0 : decide (0 ≤ x7_2) = true := decide_eq_true c65
                                  clear c65
                                  by_cases c66 : x7_2 < (t678.length : Int)
                                  · rw [if_pos c66] at H
                                    have c66b0 : decide (x7_2 < (t678.length : Int)) = true := decide_eq_true c66
                                    clear c66
                                    have H' := Aside0.mk H
                                    clear H
                                    have p713 : 0 ≤ (x7_2 : Int) := of_decide_eq_true (by first | (with_reducible assumption) | assumption)
                                    have q713 : x7_2 < (t678.length : Int) := of_decide_eq_true (by first | (with_reducible assumption) | assumption)
                                    obtain ⟨ad713, e713, hx713_0, hx713_1, hx713_2⟩ := at_T24 (Kd.R_reads' HO_3.out).2.2 x7_2 p713 q713
                                    cases e713
                                    replace p713 := eq_true p713
                                    replace q713 := eq_true q713
                                    go_wp2
                                    go_loopg [11, 12] kj53 (fun kq v11 v12 w' => ∃ (x11_5 : Bool) (x12_5 : Int), v11 = .bool x11_5 ∧ v12 = .int .i64 x12_5 ∧ Aside0 (cippuslaw07_StemmaProved.l2 kq t678 t688 x7_2 x11_5 x12_5 = some r) ∧ Aside0 (kq ≤ kj53) ∧ Aside0 (Kd.R k24 24 w' w.heap.size (fun _ => True) (.slice (some ad713) t678.length co12) t678) ∧ Aside0 (Kd.N (Kd.slice 3 (Kd.int .i64)) 25 w' w.heap.size (fun k_ => some k_ ≠ ((.slice (some ad713) t678.length co12) : Value).ownBlock ∧ some k_ ≠ ((.slice Ao11 t682.length co11) : Value).ownBlock ∧ k_ ≠ gb687) (.slice (some ad693) t688.length co21) t688) ∧ Aside0 (Kd.R (Kd.int .i64) 3 w' w.heap.size (fun _ => True) (.slice Ao11 t682.length co11) t682) ∧ Aside0 (w'.heap[gb687]? = some (.cells #[.string t681, (.slice Ao11 t682.length co11)] 27 (0, 0))) ∧ Aside0 (Kd.C (Kd.int .i64) w' A693_0 (rd_L4 t688 x7_2).length (rd_L4 t688 x7_2)) ∧ Aside0 (Below w.heap.size w w'))
                                    case atStart => exact ⟨((rd_T24 t678 x7_2).f2), (0), (by first | rfl | (simp; done) | (simp [*]; done)), (by first | rfl | (simp; done) | (simp [*]; done)), H', ⟨Nat.le_refl _⟩, ⟨by (with_reducible repeat (first | apply Kd.R_alloc | apply Kd.R_drewN | apply Kd.R_drew)); exact HO_3.out⟩, ⟨by (with_reducible repeat (first | apply Kd.N_alloc | apply Kd.N_drewN | apply Kd.N_drew)); exact HO_5.out⟩, ⟨by (with_reducible repeat (first | apply Kd.R_alloc | apply Kd.R_drewN | apply Kd.R_drew)); exact HO_688001.out⟩, ⟨by (with_reducible repeat (first | refine blk_drewN ?_ _ | refine blk_drew ?_ | refine blk_alloc ?_ _)); exact BK687.out⟩, ⟨by repeat (first | (with_reducible exact HR693_0.out) | (with_reducible refine Kd.C_alloc ?_ _) | (with_reducible refine Kd.C_drewN ?_ _) | (with_reducible refine Kd.C_drew ?_) | exact HR693_0.out)⟩, ⟨by repeat (first | (with_reducible first | exact HB.out | apply below_alloc | apply pw_below_drewN | apply below_drew1 | refine below_set ?_ GE687.out) | exact HB.out | exact undrawn_ HB.out)⟩⟩
                                    case round => as_aux_lemma =>
                                      clear H'
                                      try clear c2
                                      try clear p2
                                      try clear c3
                                      try clear c4
                                      try clear c5
                                      try clear q5
                                      try clear c6
                                      try clear p6
                                      try clear q6
                                      try clear hx6
                                      try clear c7
                                      try clear p7
                                      try clear q7
                                      try clear hx7
                                      try clear qi7
                                      try clear c22
                                      try clear c22b0
                                      try clear c23
                                      try clear c24
                                      try clear c25
                                      try clear c26
                                      try clear c29
                                      try clear c30
                                      try clear c31
                                      try clear c32
                                      try clear c43
                                      try clear c44
                                      try clear c44b0
                                      try clear c45
                                      try clear c47
                                      try clear c48
                                      try clear c55
                                      try clear c55b0
                                      try clear c55b1
                                      try clear c56
                                      try clear c56b0
                                      try clear c56b1
                                      try clear c56b2
                                      try clear c57
                                      try clear c57b0
                                      try clear c58
                                      try clear c58b0
                                      try clear q59
                                      try clear c60
                                      try clear c61
                                      try clear c61b0
                                      try clear c61b1
                                      try clear c62
                                      try clear c62b0
                                      try clear c63
                                      try clear c63b0
                                      try clear c63b1
                                      try clear c64
                                      try clear p64
                                      try clear c65
                                      try clear c65b0
                                      try clear c66
                                      try clear c66b0
                                      try clear hx696_0
                                      try clear hx697_0
                                      try clear hx710_0
                                      try clear hx710_1
                                      try clear hx710_2
                                      try clear hx711_0
                                      try clear hx712_0
                                      try clear hx713_0
                                      try clear hx713_1
                                      try clear hx713_2
                                      try clear p2
                                      try clear p6
                                      try clear p696
                                      try clear p697
                                      try clear p7
                                      try clear p710
                                      try clear p711
                                      try clear p712
                                      try clear p713
                                      try clear q5
                                      try clear q59
                                      try clear q6
                                      try clear q696
                                      try clear q697
                                      try clear q7
                                      try clear q710
                                      try clear q711
                                      try clear q712
                                      try clear q713
                                      obtain ⟨x11_5, x12_5, rfl, rfl, HA, HK5, HO_3, HO_5, HO_688001, BK687, HR693_0, HB⟩ := hrel
                                      cases gk with
                                      | zero => exact absurd HA.out (by simp [cippuslaw07_StemmaProved.l2])
                                      | succ k5 =>
                                        have H := HA.out
                                        clear HA
                                        simp only [cippuslaw07_StemmaProved.l2] at H
                                        by_cases c67 : x12_5 < x7_2
                                        · rw [if_pos c67] at H
                                          have c67b0 : decide (x12_5 < x7_2) = true := decide_eq_true c67
                                          clear c67
                                          replace H := Option.bind_eq_some_iff.mp H
                                          obtain ⟨⟨t714, t715⟩, A680, H⟩ := H
                                          replace H : (if t715 = 0 then (if x11_5 = true then (cippuslaw07_StemmaProved.l2 k5 t678 t688 x7_2 true (wrap64 (x12_5 + 1))) else (if 0 ≤ x12_5 then (if x12_5 < (t678.length : Int) then (if (rd_T24 t678 x12_5).f2 = true then (cippuslaw07_StemmaProved.l2 k5 t678 t688 x7_2 (t714 != 2) (wrap64 (x12_5 + 1))) else (cippuslaw07_StemmaProved.l2 k5 t678 t688 x7_2 false (wrap64 (x12_5 + 1)))) else (none)) else (none))) else (some false)) = some r := H
                                          have A68 := Aside0.mk A680
                                          clear A680
                                          by_cases c69 : t715 = 0
                                          · rw [if_pos c69] at H
                                            have c69b0 : (t715 == 0) = true := beq_iff_eq.mpr c69
                                            have c69b1 : (t715 != 0) = false := bne_eq_false_iff_eq.mpr c69
                                            clear c69
                                            by_cases c70 : x11_5 = true
                                            · subst c70
                                              have H1 : (cippuslaw07_StemmaProved.l2 k5 t678 t688 x7_2 true (wrap64 (x12_5 + 1))) = some r := by rw [if_pos rfl] at H; exact H
                                              clear H
                                              have H := H1
                                              clear H1
                                              have H' := Aside0.mk H
                                              clear H
                                              go_wp2_with (first | ((with_reducible refine gate_callee (f := 37) rfl ?_); refine goesL_ (some 151) rfl rfl Try.func37 (by kernel_rfl) rfl #[.slice (some ad713) t678.length co12, .int .i64 x7_2, .int .i64 x12_5] rfl (by (try simp only [List.map_toArray, List.map_cons, List.map_nil]); first | done | rfl | (simp only [List.length_drop, List.length_take]; rfl)) ?_; (with_reducible refine (stemma_Depends.calls k5 _ _ t678 x7_2 x12_5 t714 t715 _ ?side1 ?side2 A68.out).mono ?_); (case side1 => repeat (first | exact (Kd.R_reads' HO_3.out).2.2 | (with_reducible refine Kd.C_alloc ?_ _) | (with_reducible refine Kd.C_drewN ?_ _) | (with_reducible refine Kd.C_drew ?_))); (case side2 => exact (Kd.R_reads' HO_3.out).2.1); rintro e w71 ⟨rfl, hb⟩; refine ⟨_, rfl, ?_⟩; have n0_ := Aside0.mk (Kd.R_below (by (with_reducible repeat (first | apply Kd.R_alloc | apply Kd.R_drewN | apply Kd.R_drew)); exact HO_3.out) hb); have n1_ := Aside0.mk (Kd.N_below (by (with_reducible repeat (first | apply Kd.N_alloc | apply Kd.N_drewN | apply Kd.N_drew)); exact HO_5.out) hb); have n2_ := Aside0.mk (Kd.R_below (by (with_reducible repeat (first | apply Kd.R_alloc | apply Kd.R_drewN | apply Kd.R_drew)); exact HO_688001.out) hb); have n3_ := Aside0.mk (blk_below (g := gb687) (o := .cells #[.string t681, .slice Ao11 t682.length co11] 27 (0, 0)) (by (with_reducible repeat (first | refine blk_drewN ?_ _ | refine blk_drew ?_ | refine blk_alloc ?_ _)); exact BK687.out) hb); have n4_ := Aside0.mk (Kd.C_below (by repeat (first | (with_reducible exact HR693_0.out) | (with_reducible refine Kd.C_alloc ?_ _) | (with_reducible refine Kd.C_drewN ?_ _) | (with_reducible refine Kd.C_drew ?_) | exact HR693_0.out)) hb); have n5_ := Aside0.mk (below_step (by repeat (first | (with_reducible first | exact HB.out | apply below_alloc | apply pw_below_drewN | apply below_drew1 | refine below_set ?_ GE687.out) | exact HB.out)) hb); clear HO_3; clear HO_5; clear HO_688001; clear BK687; clear HR693_0; clear HB; have HO_3 := n0_; have HO_5 := n1_; have HO_688001 := n2_; have BK687 := n3_; have HR693_0 := n4_; have HB := n5_; clear n0_ n1_ n2_ n3_ n4_ n5_; (try clear hb); (try clear hb2); (try clear hk); (try clear hi)))
                                              go_roundg k5
                                              case measure => have := HJ4.out; have := HK2.out; have := HK3.out; have := HJ53.out; have := HK5.out; omega
                                              case rel => exact ⟨(true), (wrap64 (x12_5 + 1)), (by first | rfl | (simp; done) | (simp [*]; done)), (by first | rfl | (simp; done) | (simp [*]; done)), H', ⟨by have := HJ4.out; have := HK2.out; have := HK3.out; have := HJ53.out; have := HK5.out; omega⟩, ⟨by (with_reducible repeat (first | apply Kd.R_alloc | apply Kd.R_drewN | apply Kd.R_drew)); exact HO_3.out⟩, ⟨by (with_reducible repeat (first | apply Kd.N_alloc | apply Kd.N_drewN | apply Kd.N_drew)); exact HO_5.out⟩, ⟨by (with_reducible repeat (first | apply Kd.R_alloc | apply Kd.R_drewN | apply Kd.R_drew)); exact HO_688001.out⟩, ⟨by (with_reducible repeat (first | refine blk_drewN ?_ _ | refine blk_drew ?_ | refine blk_alloc ?_ _)); exact BK687.out⟩, ⟨by repeat (first | (with_reducible exact HR693_0.out) | (with_reducible refine Kd.C_alloc ?_ _) | (with_reducible refine Kd.C_drewN ?_ _) | (with_reducible refine Kd.C_drew ?_) | exact HR693_0.out)⟩, ⟨by repeat (first | (with_reducible first | exact HB.out | apply below_alloc | apply pw_below_drewN | apply below_drew1 | refine below_set ?_ GE687.out) | exact HB.out | exact undrawn_ HB.out)⟩⟩
                                            · replace c70 := Bool.eq_false_iff.mpr c70
                                              subst c70
                                              have H1 : (if 0 ≤ x12_5 then (if x12_5 < (t678.length : Int) then (if (rd_T24 t678 x12_5).f2 = true then (cippuslaw07_StemmaProved.l2 k5 t678 t688 x7_2 (t714 != 2) (wrap64 (x12_5 + 1))) else (cippuslaw07_StemmaProved.l2 k5 t678 t688 x7_2 false (wrap64 (x12_5 + 1)))) else (none)) else (none)) = some r := by rw [if_neg (show ¬ (false = true) by decide)] at H; exact H
                                              clear H
                                              have H := H1
                                              clear H1
                                              by_cases c72 : 0 ≤ x12_5
                                              · rw [if_pos c72] at H
                                                have c72b0 : decide (0 ≤ x12_5) = true := decide_eq_true c72
                                                clear c72
                                                by_cases c73 : x12_5 < (t678.length : Int)
                                                · rw [if_pos c73] at H
                                                  have c73b0 : decide (x12_5 < (t678.length : Int)) = true := decide_eq_true c73
                                                  clear c73
                                                  obtain ⟨bq74, hbq74⟩ : ∃ b_ : Bool, b_ = ((rd_T24 t678 x12_5).f2) := ⟨_, rfl⟩
                                                  replace H : (if bq74 = true then (cippuslaw07_StemmaProved.l2 k5 t678 t688 x7_2 (t714 != 2) (wrap64 (x12_5 + 1))) else (cippuslaw07_StemmaProved.l2 k5 t678 t688 x7_2 false (wrap64 (x12_5 + 1)))) = some r := by rw [← hbq74] at H; exact H
                                                  have Nbq74 := Aside0.mk hbq74
                                                  clear hbq74
                                                  by_cases c75 : bq74 = true
                                                  · subst c75
                                                    have H1 : (cippuslaw07_StemmaProved.l2 k5 t678 t688 x7_2 (t714 != 2) (wrap64 (x12_5 + 1))) = some r := by rw [if_pos rfl] at H; exact H
                                                    clear H
                                                    have H := H1
                                                    clear H1
                                                    have H' := Aside0.mk H
                                                    clear H
                                                    go_wp2_with (first | ((with_reducible refine gate_callee (f := 37) rfl ?_); refine goesL_ (some 151) rfl rfl Try.func37 (by kernel_rfl) rfl #[.slice (some ad713) t678.length co12, .int .i64 x7_2, .int .i64 x12_5] rfl (by (try simp only [List.map_toArray, List.map_cons, List.map_nil]); first | done | rfl | (simp only [List.length_drop, List.length_take]; rfl)) ?_; (with_reducible refine (stemma_Depends.calls k5 _ _ t678 x7_2 x12_5 t714 t715 _ ?side1 ?side2 A68.out).mono ?_); (case side1 => repeat (first | exact (Kd.R_reads' HO_3.out).2.2 | (with_reducible refine Kd.C_alloc ?_ _) | (with_reducible refine Kd.C_drewN ?_ _) | (with_reducible refine Kd.C_drew ?_))); (case side2 => exact (Kd.R_reads' HO_3.out).2.1); rintro e w76 ⟨rfl, hb⟩; refine ⟨_, rfl, ?_⟩; have n0_ := Aside0.mk (Kd.R_below (by (with_reducible repeat (first | apply Kd.R_alloc | apply Kd.R_drewN | apply Kd.R_drew)); exact HO_3.out) hb); have n1_ := Aside0.mk (Kd.N_below (by (with_reducible repeat (first | apply Kd.N_alloc | apply Kd.N_drewN | apply Kd.N_drew)); exact HO_5.out) hb); have n2_ := Aside0.mk (Kd.R_below (by (with_reducible repeat (first | apply Kd.R_alloc | apply Kd.R_drewN | apply Kd.R_drew)); exact HO_688001.out) hb); have n3_ := Aside0.mk (blk_below (g := gb687) (o := .cells #[.string t681, .slice Ao11 t682.length co11] 27 (0, 0)) (by (with_reducible repeat (first | refine blk_drewN ?_ _ | refine blk_drew ?_ | refine blk_alloc ?_ _)); exact BK687.out) hb); have n4_ := Aside0.mk (Kd.C_below (by repeat (first | (with_reducible exact HR693_0.out) | (with_reducible refine Kd.C_alloc ?_ _) | (with_reducible refine Kd.C_drewN ?_ _) | (with_reducible refine Kd.C_drew ?_) | exact HR693_0.out)) hb); have n5_ := Aside0.mk (below_step (by repeat (first | (with_reducible first | exact HB.out | apply below_alloc | apply pw_below_drewN | apply below_drew1 | refine below_set ?_ GE687.out) | exact HB.out)) hb); clear HO_3; clear HO_5; clear HO_688001; clear BK687; clear HR693_0; clear HB; have HO_3 := n0_; have HO_5 := n1_; have HO_688001 := n2_; have BK687 := n3_; have HR693_0 := n4_; have HB := n5_; clear n0_ n1_ n2_ n3_ n4_ n5_; (try clear hb); (try clear hb2); (try clear hk); (try clear hi); have p716 : 0 ≤ (x12_5 : Int) := of_decide_eq_true (by first | (with_reducible assumption) | assumption); have q716 : x12_5 < (t678.length : Int) := of_decide_eq_true (by first | (with_reducible assumption) | assumption); obtain ⟨ad716, e716, hx716_0, hx716_1, hx716_2⟩ := at_T24 (Kd.R_reads' HO_3.out).2.2 x12_5 p716 q716; (try rw [← Nbq74.out] at hx716_2); obtain rfl : ad713 = ad716 := (by injection e716); replace p716 := eq_true p716; replace q716 := eq_true q716))
                                                    go_roundg k5
                                                    case measure => have := HJ4.out; have := HK2.out; have := HK3.out; have := HJ53.out; have := HK5.out; omega
                                                    case rel => exact ⟨((t714 != 2)), (wrap64 (x12_5 + 1)), (by first | rfl | (simp; done) | (simp [*]; done)), (by first | rfl | (simp; done) | (simp [*]; done)), H', ⟨by have := HJ4.out; have := HK2.out; have := HK3.out; have := HJ53.out; have := HK5.out; omega⟩, ⟨by (with_reducible repeat (first | apply Kd.R_alloc | apply Kd.R_drewN | apply Kd.R_drew)); exact HO_3.out⟩, ⟨by (with_reducible repeat (first | apply Kd.N_alloc | apply Kd.N_drewN | apply Kd.N_drew)); exact HO_5.out⟩, ⟨by (with_reducible repeat (first | apply Kd.R_alloc | apply Kd.R_drewN | apply Kd.R_drew)); exact HO_688001.out⟩, ⟨by (with_reducible repeat (first | refine blk_drewN ?_ _ | refine blk_drew ?_ | refine blk_alloc ?_ _)); exact BK687.out⟩, ⟨by repeat (first | (with_reducible exact HR693_0.out) | (with_reducible refine Kd.C_alloc ?_ _) | (with_reducible refine Kd.C_drewN ?_ _) | (with_reducible refine Kd.C_drew ?_) | exact HR693_0.out)⟩, ⟨by repeat (first | (with_reducible first | exact HB.out | apply below_alloc | apply pw_below_drewN | apply below_drew1 | refine below_set ?_ GE687.out) | exact HB.out | exact undrawn_ HB.out)⟩⟩
                                                  · replace c75 := Bool.eq_false_iff.mpr c75
                                                    subst c75
                                                    have H1 : (cippuslaw07_StemmaProved.l2 k5 t678 t688 x7_2 false (wrap64 (x12_5 + 1))) = some r := by rw [if_neg (show ¬ (false = true) by decide)] at H; exact H
                                                    clear H
                                                    have H := H1
                                                    clear H1
                                                    have H' := Aside0.mk H
                                                    clear H
                                                    go_wp2_with (first | ((with_reducible refine gate_callee (f := 37) rfl ?_); refine goesL_ (some 151) rfl rfl Try.func37 (by kernel_rfl) rfl #[.slice (some ad713) t678.length co12, .int .i64 x7_2, .int .i64 x12_5] rfl (by (try simp only [List.map_toArray, List.map_cons, List.map_nil]); first | done | rfl | (simp only [List.length_drop, List.length_take]; rfl)) ?_; (with_reducible refine (stemma_Depends.calls k5 _ _ t678 x7_2 x12_5 t714 t715 _ ?side1 ?side2 A68.out).mono ?_); (case side1 => repeat (first | exact (Kd.R_reads' HO_3.out).2.2 | (with_reducible refine Kd.C_alloc ?_ _) | (with_reducible refine Kd.C_drewN ?_ _) | (with_reducible refine Kd.C_drew ?_))); (case side2 => exact (Kd.R_reads' HO_3.out).2.1); rintro e w77 ⟨rfl, hb⟩; refine ⟨_, rfl, ?_⟩; have n0_ := Aside0.mk (Kd.R_below (by (with_reducible repeat (first | apply Kd.R_alloc | apply Kd.R_drewN | apply Kd.R_drew)); exact HO_3.out) hb); have n1_ := Aside0.mk (Kd.N_below (by (with_reducible repeat (first | apply Kd.N_alloc | apply Kd.N_drewN | apply Kd.N_drew)); exact HO_5.out) hb); have n2_ := Aside0.mk (Kd.R_below (by (with_reducible repeat (first | apply Kd.R_alloc | apply Kd.R_drewN | apply Kd.R_drew)); exact HO_688001.out) hb); have n3_ := Aside0.mk (blk_below (g := gb687) (o := .cells #[.string t681, .slice Ao11 t682.length co11] 27 (0, 0)) (by (with_reducible repeat (first | refine blk_drewN ?_ _ | refine blk_drew ?_ | refine blk_alloc ?_ _)); exact BK687.out) hb); have n4_ := Aside0.mk (Kd.C_below (by repeat (first | (with_reducible exact HR693_0.out) | (with_reducible refine Kd.C_alloc ?_ _) | (with_reducible refine Kd.C_drewN ?_ _) | (with_reducible refine Kd.C_drew ?_) | exact HR693_0.out)) hb); have n5_ := Aside0.mk (below_step (by repeat (first | (with_reducible first | exact HB.out | apply below_alloc | apply pw_below_drewN | apply below_drew1 | refine below_set ?_ GE687.out) | exact HB.out)) hb); clear HO_3; clear HO_5; clear HO_688001; clear BK687; clear HR693_0; clear HB; have HO_3 := n0_; have HO_5 := n1_; have HO_688001 := n2_; have BK687 := n3_; have HR693_0 := n4_; have HB := n5_; clear n0_ n1_ n2_ n3_ n4_ n5_; (try clear hb); (try clear hb2); (try clear hk); (try clear hi); have p716 : 0 ≤ (x12_5 : Int) := of_decide_eq_true (by first | (with_reducible assumption) | assumption); have q716 : x12_5 < (t678.length : Int) := of_decide_eq_true (by first | (with_reducible assumption) | assumption); obtain ⟨ad716, e716, hx716_0, hx716_1, hx716_2⟩ := at_T24 (Kd.R_reads' HO_3.out).2.2 x12_5 p716 q716; (try rw [← Nbq74.out] at hx716_2); obtain rfl : ad713 = ad716 := (by injection e716); replace p716 := eq_true p716; replace q716 := eq_true q716))
                                                    go_roundg k5
                                                    case measure => have := HJ4.out; have := HK2.out; have := HK3.out; have := HJ53.out; have := HK5.out; omega
                                                    case rel => exact ⟨(false), (wrap64 (x12_5 + 1)), (by first | rfl | (simp; done) | (simp [*]; done)), (by first | rfl | (simp; done) | (simp [*]; done)), H', ⟨by have := HJ4.out; have := HK2.out; have := HK3.out; have := HJ53.out; have := HK5.out; omega⟩, ⟨by (with_reducible repeat (first | apply Kd.R_alloc | apply Kd.R_drewN | apply Kd.R_drew)); exact HO_3.out⟩, ⟨by (with_reducible repeat (first | apply Kd.N_alloc | apply Kd.N_drewN | apply Kd.N_drew)); exact HO_5.out⟩, ⟨by (with_reducible repeat (first | apply Kd.R_alloc | apply Kd.R_drewN | apply Kd.R_drew)); exact HO_688001.out⟩, ⟨by (with_reducible repeat (first | refine blk_drewN ?_ _ | refine blk_drew ?_ | refine blk_alloc ?_ _)); exact BK687.out⟩, ⟨by repeat (first | (with_reducible exact HR693_0.out) | (with_reducible refine Kd.C_alloc ?_ _) | (with_reducible refine Kd.C_drewN ?_ _) | (with_reducible refine Kd.C_drew ?_) | exact HR693_0.out)⟩, ⟨by repeat (first | (with_reducible first | exact HB.out | apply below_alloc | apply pw_below_drewN | apply below_drew1 | refine below_set ?_ GE687.out) | exact HB.out | exact undrawn_ HB.out)⟩⟩
                                                · rw [if_neg c73] at H
                                                  exact absurd H (by simp)
                                              · rw [if_neg c72] at H
                                                exact absurd H (by simp)
                                          · rw [if_neg c69] at H
                                            have c69b0 : (t715 == 0) = false := beq_eq_false_iff_ne.mpr c69
                                            have c69b1 : (t715 != 0) = true := bne_iff_ne.mpr c69
                                            obtain rfl := Option.some.inj H
                                            go_wp2_with (first | ((with_reducible refine gate_callee (f := 37) rfl ?_); refine goesL_ (some 151) rfl rfl Try.func37 (by kernel_rfl) rfl #[.slice (some ad713) t678.length co12, .int .i64 x7_2, .int .i64 x12_5] rfl (by (try simp only [List.map_toArray, List.map_cons, List.map_nil]); first | done | rfl | (simp only [List.length_drop, List.length_take]; rfl)) ?_; (with_reducible refine (stemma_Depends.calls k5 _ _ t678 x7_2 x12_5 t714 t715 _ ?side1 ?side2 A68.out).mono ?_); (case side1 => repeat (first | exact (Kd.R_reads' HO_3.out).2.2 | (with_reducible refine Kd.C_alloc ?_ _) | (with_reducible refine Kd.C_drewN ?_ _) | (with_reducible refine Kd.C_drew ?_))); (case side2 => exact (Kd.R_reads' HO_3.out).2.1); rintro e w78 ⟨rfl, hb⟩; refine ⟨_, rfl, ?_⟩; have n0_ := Aside0.mk (Kd.R_below (by (with_reducible repeat (first | apply Kd.R_alloc | apply Kd.R_drewN | apply Kd.R_drew)); exact HO_3.out) hb); have n1_ := Aside0.mk (Kd.N_below (by (with_reducible repeat (first | apply Kd.N_alloc | apply Kd.N_drewN | apply Kd.N_drew)); exact HO_5.out) hb); have n2_ := Aside0.mk (Kd.R_below (by (with_reducible repeat (first | apply Kd.R_alloc | apply Kd.R_drewN | apply Kd.R_drew)); exact HO_688001.out) hb); have n3_ := Aside0.mk (blk_below (g := gb687) (o := .cells #[.string t681, .slice Ao11 t682.length co11] 27 (0, 0)) (by (with_reducible repeat (first | refine blk_drewN ?_ _ | refine blk_drew ?_ | refine blk_alloc ?_ _)); exact BK687.out) hb); have n4_ := Aside0.mk (Kd.C_below (by repeat (first | (with_reducible exact HR693_0.out) | (with_reducible refine Kd.C_alloc ?_ _) | (with_reducible refine Kd.C_drewN ?_ _) | (with_reducible refine Kd.C_drew ?_) | exact HR693_0.out)) hb); have n5_ := Aside0.mk (below_step (by repeat (first | (with_reducible first | exact HB.out | apply below_alloc | apply pw_below_drewN | apply below_drew1 | refine below_set ?_ GE687.out) | exact HB.out)) hb); clear HO_3; clear HO_5; clear HO_688001; clear BK687; clear HR693_0; clear HB; have HO_3 := n0_; have HO_5 := n1_; have HO_688001 := n2_; have BK687 := n3_; have HR693_0 := n4_; have HB := n5_; clear n0_ n1_ n2_ n3_ n4_ n5_; (try clear hb); (try clear hb2); (try clear hk); (try clear hi)))
                                            go_ret
                                            exact ⟨by first | rfl | (simp [errW_none, errW_some] <;> rfl) | (simp [*, errW_none, errW_some] <;> rfl), by repeat (first | (with_reducible first | exact HB.out | apply below_alloc | apply pw_below_drewN | apply below_drew1 | refine below_set ?_ GE687.out) | exact HB.out | exact undrawn_ HB.out)⟩
                                        · rw [if_neg c67] at H
                                          have c67b0 : decide (x12_5 < x7_2) = false := decide_eq_false c67
                                          clear c67
                                          replace H := Option.bind_eq_some_iff.mp H
                                          obtain ⟨⟨t717, t718⟩, A790, H⟩ := H
                                          replace H : (if x11_5 = true then (if t718 = 0 then (if x7_2 = 0 then (if t717 = 2 then (cippuslaw07_StemmaProved.l0 k5 t678 t688 (wrap64 (x7_2 + 1))) else (some false)) else (cippuslaw07_StemmaProved.l0 k5 t678 t688 (wrap64 (x7_2 + 1)))) else (some false)) else (some false)) = some r := H
                                          have A79 := Aside0.mk A790
                                          clear A790
                                          by_cases c80 : x11_5 = true
                                          · subst c80
                                            have H1 : (if t718 = 0 then (if x7_2 = 0 then (if t717 = 2 then (cippuslaw07_StemmaProved.l0 k5 t678 t688 (wrap64 (x7_2 + 1))) else (some false)) else (cippuslaw07_StemmaProved.l0 k5 t678 t688 (wrap64 (x7_2 + 1)))) else (some false)) = some r := by rw [if_pos rfl] at H; exact H
                                            clear H
                                            have H := H1
                                            clear H1
                                            by_cases c81 : t718 = 0
                                            · rw [if_pos c81] at H
                                              have c81b0 : (t718 == 0) = true := beq_iff_eq.mpr c81
                                              have c81b1 : (t718 != 0) = false := bne_eq_false_iff_eq.mpr c81
                                              clear c81
                                              by_cases c82 : x7_2 = 0
                                              · rw [if_pos c82] at H
                                                have c82b0 : (x7_2 == 0) = true := beq_iff_eq.mpr c82
                                                have c82b1 : (x7_2 != 0) = false := bne_eq_false_iff_eq.mpr c82
                                                clear c82
                                                by_cases c83 : t717 = 2
                                                · rw [if_pos c83] at H
                                                  have c83b0 : (t717 == 2) = true := beq_iff_eq.mpr c83
                                                  have c83b1 : (t717 != 2) = false := bne_eq_false_iff_eq.mpr c83
                                                  clear c83
                                                  have H' := Aside0.mk H
                                                  clear H
                                                  go_wp2_with (first | ((with_reducible refine gate_callee (f := 37) rfl ?_); refine goesL_ (some 171) rfl rfl Try.func37 (by kernel_rfl) rfl #[.slice (some ad713) t678.length co12, .int .i64 x7_2, .int .i64 0] rfl (by (try simp only [List.map_toArray, List.map_cons, List.map_nil]); first | done | rfl | (simp only [List.length_drop, List.length_take]; rfl)) ?_; (with_reducible refine (stemma_Depends.calls k5 _ _ t678 x7_2 0 t717 t718 _ ?side1 ?side2 A79.out).mono ?_); (case side1 => repeat (first | exact (Kd.R_reads' HO_3.out).2.2 | (with_reducible refine Kd.C_alloc ?_ _) | (with_reducible refine Kd.C_drewN ?_ _) | (with_reducible refine Kd.C_drew ?_))); (case side2 => exact (Kd.R_reads' HO_3.out).2.1); rintro e w84 ⟨rfl, hb⟩; refine ⟨_, rfl, ?_⟩; have n0_ := Aside0.mk (Kd.R_below (by (with_reducible repeat (first | apply Kd.R_alloc | apply Kd.R_drewN | apply Kd.R_drew)); exact HO_3.out) hb); have n1_ := Aside0.mk (Kd.N_below (by (with_reducible repeat (first | apply Kd.N_alloc | apply Kd.N_drewN | apply Kd.N_drew)); exact HO_5.out) hb); have n2_ := Aside0.mk (Kd.R_below (by (with_reducible repeat (first | apply Kd.R_alloc | apply Kd.R_drewN | apply Kd.R_drew)); exact HO_688001.out) hb); have n3_ := Aside0.mk (blk_below (g := gb687) (o := .cells #[.string t681, .slice Ao11 t682.length co11] 27 (0, 0)) (by (with_reducible repeat (first | refine blk_drewN ?_ _ | refine blk_drew ?_ | refine blk_alloc ?_ _)); exact BK687.out) hb); have n4_ := Aside0.mk (Kd.C_below (by repeat (first | (with_reducible exact HR693_0.out) | (with_reducible refine Kd.C_alloc ?_ _) | (with_reducible refine Kd.C_drewN ?_ _) | (with_reducible refine Kd.C_drew ?_) | exact HR693_0.out)) hb); have n5_ := Aside0.mk (below_step (by repeat (first | (with_reducible first | exact HB.out | apply below_alloc | apply pw_below_drewN | apply below_drew1 | refine below_set ?_ GE687.out) | exact HB.out)) hb); clear HO_3; clear HO_5; clear HO_688001; clear BK687; clear HR693_0; clear HB; have HO_3 := n0_; have HO_5 := n1_; have HO_688001 := n2_; have BK687 := n3_; have HR693_0 := n4_; have HB := n5_; clear n0_ n1_ n2_ n3_ n4_ n5_; (try clear hb); (try clear hb2); (try clear hk); (try clear hi)))
                                                  go_roundg k5
                                                  case measure => have := HJ4.out; have := HK2.out; have := HK3.out; have := HJ53.out; have := HK5.out; omega
                                                  case rel => exact ⟨(wrap64 (x7_2 + 1)), (by first | rfl | (simp; done) | (simp [*]; done)), H', ⟨by have := HJ4.out; have := HK2.out; have := HK3.out; have := HJ53.out; have := HK5.out; omega⟩, ⟨by (with_reducible repeat (first | apply Kd.R_alloc | apply Kd.R_drewN | apply Kd.R_drew)); exact HO_3.out⟩, ⟨by (with_reducible repeat (first | apply Kd.N_alloc | apply Kd.N_drewN | apply Kd.N_drew)); exact HO_5.out⟩, ⟨by (with_reducible repeat (first | apply Kd.R_alloc | apply Kd.R_drewN | apply Kd.R_drew)); exact HO_688001.out⟩, ⟨by (with_reducible repeat (first | refine blk_drewN ?_ _ | refine blk_drew ?_ | refine blk_alloc ?_ _)); exact BK687.out⟩, ⟨by repeat (first | (with_reducible first | exact HB.out | apply below_alloc | apply pw_below_drewN | apply below_drew1 | refine below_set ?_ GE687.out) | exact HB.out | exact undrawn_ HB.out)⟩⟩
                                                · rw [if_neg c83] at H
                                                  have c83b0 : (t717 == 2) = false := beq_eq_false_iff_ne.mpr c83
                                                  have c83b1 : (t717 != 2) = true := bne_iff_ne.mpr c83
                                                  obtain rfl := Option.some.inj H
                                                  go_wp2_with (first | ((with_reducible refine gate_callee (f := 37) rfl ?_); refine goesL_ (some 171) rfl rfl Try.func37 (by kernel_rfl) rfl #[.slice (some ad713) t678.length co12, .int .i64 x7_2, .int .i64 0] rfl (by (try simp only [List.map_toArray, List.map_cons, List.map_nil]); first | done | rfl | (simp only [List.length_drop, List.length_take]; rfl)) ?_; (with_reducible refine (stemma_Depends.calls k5 _ _ t678 x7_2 0 t717 t718 _ ?side1 ?side2 A79.out).mono ?_); (case side1 => repeat (first | exact (Kd.R_reads' HO_3.out).2.2 | (with_reducible refine Kd.C_alloc ?_ _) | (with_reducible refine Kd.C_drewN ?_ _) | (with_reducible refine Kd.C_drew ?_))); (case side2 => exact (Kd.R_reads' HO_3.out).2.1); rintro e w85 ⟨rfl, hb⟩; refine ⟨_, rfl, ?_⟩; have n0_ := Aside0.mk (Kd.R_below (by (with_reducible repeat (first | apply Kd.R_alloc | apply Kd.R_drewN | apply Kd.R_drew)); exact HO_3.out) hb); have n1_ := Aside0.mk (Kd.N_below (by (with_reducible repeat (first | apply Kd.N_alloc | apply Kd.N_drewN | apply Kd.N_drew)); exact HO_5.out) hb); have n2_ := Aside0.mk (Kd.R_below (by (with_reducible repeat (first | apply Kd.R_alloc | apply Kd.R_drewN | apply Kd.R_drew)); exact HO_688001.out) hb); have n3_ := Aside0.mk (blk_below (g := gb687) (o := .cells #[.string t681, .slice Ao11 t682.length co11] 27 (0, 0)) (by (with_reducible repeat (first | refine blk_drewN ?_ _ | refine blk_drew ?_ | refine blk_alloc ?_ _)); exact BK687.out) hb); have n4_ := Aside0.mk (Kd.C_below (by repeat (first | (with_reducible exact HR693_0.out) | (with_reducible refine Kd.C_alloc ?_ _) | (with_reducible refine Kd.C_drewN ?_ _) | (with_reducible refine Kd.C_drew ?_) | exact HR693_0.out)) hb); have n5_ := Aside0.mk (below_step (by repeat (first | (with_reducible first | exact HB.out | apply below_alloc | apply pw_below_drewN | apply below_drew1 | refine below_set ?_ GE687.out) | exact HB.out)) hb); clear HO_3; clear HO_5; clear HO_688001; clear BK687; clear HR693_0; clear HB; have HO_3 := n0_; have HO_5 := n1_; have HO_688001 := n2_; have BK687 := n3_; have HR693_0 := n4_; have HB := n5_; clear n0_ n1_ n2_ n3_ n4_ n5_; (try clear hb); (try clear hb2); (try clear hk); (try clear hi)))
                                                  go_ret
                                                  exact ⟨by first | rfl | (simp [errW_none, errW_some] <;> rfl) | (simp [*, errW_none, errW_some] <;> rfl), by repeat (first | (with_reducible first | exact HB.out | apply below_alloc | apply pw_below_drewN | apply below_drew1 | refine below_set ?_ GE687.out) | exact HB.out | exact undrawn_ HB.out)⟩
                                              · rw [if_neg c82] at H
                                                have c82b0 : (x7_2 == 0) = false := beq_eq_false_iff_ne.mpr c82
                                                have c82b1 : (x7_2 != 0) = true := bne_iff_ne.mpr c82
                                                have H' := Aside0.mk H
                                                clear H
                                                go_wp2_with (first | ((with_reducible refine gate_callee (f := 37) rfl ?_); refine goesL_ (some 171) rfl rfl Try.func37 (by kernel_rfl) rfl #[.slice (some ad713) t678.length co12, .int .i64 x7_2, .int .i64 0] rfl (by (try simp only [List.map_toArray, List.map_cons, List.map_nil]); first | done | rfl | (simp only [List.length_drop, List.length_take]; rfl)) ?_; (with_reducible refine (stemma_Depends.calls k5 _ _ t678 x7_2 0 t717 t718 _ ?side1 ?side2 A79.out).mono ?_); (case side1 => repeat (first | exact (Kd.R_reads' HO_3.out).2.2 | (with_reducible refine Kd.C_alloc ?_ _) | (with_reducible refine Kd.C_drewN ?_ _) | (with_reducible refine Kd.C_drew ?_))); (case side2 => exact (Kd.R_reads' HO_3.out).2.1); rintro e w86 ⟨rfl, hb⟩; refine ⟨_, rfl, ?_⟩; have n0_ := Aside0.mk (Kd.R_below (by (with_reducible repeat (first | apply Kd.R_alloc | apply Kd.R_drewN | apply Kd.R_drew)); exact HO_3.out) hb); have n1_ := Aside0.mk (Kd.N_below (by (with_reducible repeat (first | apply Kd.N_alloc | apply Kd.N_drewN | apply Kd.N_drew)); exact HO_5.out) hb); have n2_ := Aside0.mk (Kd.R_below (by (with_reducible repeat (first | apply Kd.R_alloc | apply Kd.R_drewN | apply Kd.R_drew)); exact HO_688001.out) hb); have n3_ := Aside0.mk (blk_below (g := gb687) (o := .cells #[.string t681, .slice Ao11 t682.length co11] 27 (0, 0)) (by (with_reducible repeat (first | refine blk_drewN ?_ _ | refine blk_drew ?_ | refine blk_alloc ?_ _)); exact BK687.out) hb); have n4_ := Aside0.mk (Kd.C_below (by repeat (first | (with_reducible exact HR693_0.out) | (with_reducible refine Kd.C_alloc ?_ _) | (with_reducible refine Kd.C_drewN ?_ _) | (with_reducible refine Kd.C_drew ?_) | exact HR693_0.out)) hb); have n5_ := Aside0.mk (below_step (by repeat (first | (with_reducible first | exact HB.out | apply below_alloc | apply pw_below_drewN | apply below_drew1 | refine below_set ?_ GE687.out) | exact HB.out)) hb); clear HO_3; clear HO_5; clear HO_688001; clear BK687; clear HR693_0; clear HB; have HO_3 := n0_; have HO_5 := n1_; have HO_688001 := n2_; have BK687 := n3_; have HR693_0 := n4_; have HB := n5_; clear n0_ n1_ n2_ n3_ n4_ n5_; (try clear hb); (try clear hb2); (try clear hk); (try clear hi)))
                                                go_roundg k5
                                                case measure => have := HJ4.out; have := HK2.out; have := HK3.out; have := HJ53.out; have := HK5.out; omega
                                                case rel => exact ⟨(wrap64 (x7_2 + 1)), (by first | rfl | (simp; done) | (simp [*]; done)), H', ⟨by have := HJ4.out; have := HK2.out; have := HK3.out; have := HJ53.out; have := HK5.out; omega⟩, ⟨by (with_reducible repeat (first | apply Kd.R_alloc | apply Kd.R_drewN | apply Kd.R_drew)); exact HO_3.out⟩, ⟨by (with_reducible repeat (first | apply Kd.N_alloc | apply Kd.N_drewN | apply Kd.N_drew)); exact HO_5.out⟩, ⟨by (with_reducible repeat (first | apply Kd.R_alloc | apply Kd.R_drewN | apply Kd.R_drew)); exact HO_688001.out⟩, ⟨by (with_reducible repeat (first | refine blk_drewN ?_ _ | refine blk_drew ?_ | refine blk_alloc ?_ _)); exact BK687.out⟩, ⟨by repeat (first | (with_reducible first | exact HB.out | apply below_alloc | apply pw_below_drewN | apply below_drew1 | refine below_set ?_ GE687.out) | exact HB.out | exact undrawn_ HB.out)⟩⟩
                                            · rw [if_neg c81] at H
                                              have c81b0 : (t718 == 0) = false := beq_eq_false_iff_ne.mpr c81
                                              have c81b1 : (t718 != 0) = true := bne_iff_ne.mpr c81
                                              obtain rfl := Option.some.inj H
                                              go_wp2_with (first | ((with_reducible refine gate_callee (f := 37) rfl ?_); refine goesL_ (some 171) rfl rfl Try.func37 (by kernel_rfl) rfl #[.slice (some ad713) t678.length co12, .int .i64 x7_2, .int .i64 0] rfl (by (try simp only [List.map_toArray, List.map_cons, List.map_nil]); first | done | rfl | (simp only [List.length_drop, List.length_take]; rfl)) ?_; (with_reducible refine (stemma_Depends.calls k5 _ _ t678 x7_2 0 t717 t718 _ ?side1 ?side2 A79.out).mono ?_); (case side1 => repeat (first | exact (Kd.R_reads' HO_3.out).2.2 | (with_reducible refine Kd.C_alloc ?_ _) | (with_reducible refine Kd.C_drewN ?_ _) | (with_reducible refine Kd.C_drew ?_))); (case side2 => exact (Kd.R_reads' HO_3.out).2.1); rintro e w87 ⟨rfl, hb⟩; refine ⟨_, rfl, ?_⟩; have n0_ := Aside0.mk (Kd.R_below (by (with_reducible repeat (first | apply Kd.R_alloc | apply Kd.R_drewN | apply Kd.R_drew)); exact HO_3.out) hb); have n1_ := Aside0.mk (Kd.N_below (by (with_reducible repeat (first | apply Kd.N_alloc | apply Kd.N_drewN | apply Kd.N_drew)); exact HO_5.out) hb); have n2_ := Aside0.mk (Kd.R_below (by (with_reducible repeat (first | apply Kd.R_alloc | apply Kd.R_drewN | apply Kd.R_drew)); exact HO_688001.out) hb); have n3_ := Aside0.mk (blk_below (g := gb687) (o := .cells #[.string t681, .slice Ao11 t682.length co11] 27 (0, 0)) (by (with_reducible repeat (first | refine blk_drewN ?_ _ | refine blk_drew ?_ | refine blk_alloc ?_ _)); exact BK687.out) hb); have n4_ := Aside0.mk (Kd.C_below (by repeat (first | (with_reducible exact HR693_0.out) | (with_reducible refine Kd.C_alloc ?_ _) | (with_reducible refine Kd.C_drewN ?_ _) | (with_reducible refine Kd.C_drew ?_) | exact HR693_0.out)) hb); have n5_ := Aside0.mk (below_step (by repeat (first | (with_reducible first | exact HB.out | apply below_alloc | apply pw_below_drewN | apply below_drew1 | refine below_set ?_ GE687.out) | exact HB.out)) hb); clear HO_3; clear HO_5; clear HO_688001; clear BK687; clear HR693_0; clear HB; have HO_3 := n0_; have HO_5 := n1_; have HO_688001 := n2_; have BK687 := n3_; have HR693_0 := n4_; have HB := n5_; clear n0_ n1_ n2_ n3_ n4_ n5_; (try clear hb); (try clear hb2); (try clear hk); (try clear hi)))
                                              go_ret
                                              exact ⟨by first | rfl | (simp [errW_none, errW_some] <;> rfl) | (simp [*, errW_none, errW_some] <;> rfl), by repeat (first | (with_reducible first | exact HB.out | apply below_alloc | apply pw_below_drewN | apply below_drew1 | refine below_set ?_ GE687.out) | exact HB.out | exact undrawn_ HB.out)⟩
                                          · replace c80 := Bool.eq_false_iff.mpr c80
                                            subst c80
                                            have H1 : (some false) = some r := by rw [if_neg (show ¬ (false = true) by decide)] at H; exact H
                                            clear H
                                            have H := H1
                                            clear H1
                                            obtain rfl := Option.some.inj H
                                            go_wp2_with (first | ((with_reducible refine gate_callee (f := 37) rfl ?_); refine goesL_ (some 171) rfl rfl Try.func37 (by kernel_rfl) rfl #[.slice (some ad713) t678.length co12, .int .i64 x7_2, .int .i64 0] rfl (by (try simp only [List.map_toArray, List.map_cons, List.map_nil]); first | done | rfl | (simp only [List.length_drop, List.length_take]; rfl)) ?_; (with_reducible refine (stemma_Depends.calls k5 _ _ t678 x7_2 0 t717 t718 _ ?side1 ?side2 A79.out).mono ?_); (case side1 => repeat (first | exact (Kd.R_reads' HO_3.out).2.2 | (with_reducible refine Kd.C_alloc ?_ _) | (with_reducible refine Kd.C_drewN ?_ _) | (with_reducible refine Kd.C_drew ?_))); (case side2 => exact (Kd.R_reads' HO_3.out).2.1); rintro e w88 ⟨rfl, hb⟩; refine ⟨_, rfl, ?_⟩; have n0_ := Aside0.mk (Kd.R_below (by (with_reducible repeat (first | apply Kd.R_alloc | apply Kd.R_drewN | apply Kd.R_drew)); exact HO_3.out) hb); have n1_ := Aside0.mk (Kd.N_below (by (with_reducible repeat (first | apply Kd.N_alloc | apply Kd.N_drewN | apply Kd.N_drew)); exact HO_5.out) hb); have n2_ := Aside0.mk (Kd.R_below (by (with_reducible repeat (first | apply Kd.R_alloc | apply Kd.R_drewN | apply Kd.R_drew)); exact HO_688001.out) hb); have n3_ := Aside0.mk (blk_below (g := gb687) (o := .cells #[.string t681, .slice Ao11 t682.length co11] 27 (0, 0)) (by (with_reducible repeat (first | refine blk_drewN ?_ _ | refine blk_drew ?_ | refine blk_alloc ?_ _)); exact BK687.out) hb); have n4_ := Aside0.mk (Kd.C_below (by repeat (first | (with_reducible exact HR693_0.out) | (with_reducible refine Kd.C_alloc ?_ _) | (with_reducible refine Kd.C_drewN ?_ _) | (with_reducible refine Kd.C_drew ?_) | exact HR693_0.out)) hb); have n5_ := Aside0.mk (below_step (by repeat (first | (with_reducible first | exact HB.out | apply below_alloc | apply pw_below_drewN | apply below_drew1 | refine below_set ?_ GE687.out) | exact HB.out)) hb); clear HO_3; clear HO_5; clear HO_688001; clear BK687; clear HR693_0; clear HB; have HO_3 := n0_; have HO_5 := n1_; have HO_688001 := n2_; have BK687 := n3_; have HR693_0 := n4_; have HB := n5_; clear n0_ n1_ n2_ n3_ n4_ n5_; (try clear hb); (try clear hb2); (try clear hk); (try clear hi)))
                                            go_ret
                                            exact ⟨by first | rfl | (simp [errW_none, errW_some] <;> rfl) | (simp [*, errW_none, errW_some] <;> rfl), by repeat (first | (with_reducible first | exact HB.out | apply below_alloc | apply pw_below_drewN | apply below_drew1 | refine below_set ?_ GE687.out) | exact HB.out | exact undrawn_ HB.out)⟩
                                  · rw [if_neg c66] at H
                                    exact absurd H (by simp)
                                · rw [if_neg c65] at H
                                  exact absurd H (by simp)
                  · rw [if_neg c20] at H
                    have c20b0 : (((rd_L4 t688 x7_2).length : Int) == (wrap64 (x7_2 + 1))) = false := beq_eq_false_iff_ne.mpr c20
                    have c20b1 : (((rd_L4 t688 x7_2).length : Int) != (wrap64 (x7_2 + 1))) = true := bne_iff_ne.mpr c20
                    obtain rfl := Option.some.inj H
                    obtain ⟨Ao89, co89, eo89⟩ := Kd.N_slice HO_5.out
                    subst eo89
                    have p693 : 0 ≤ (x7_2 : Int) := of_decide_eq_true (by first | (with_reducible assumption) | assumption)
                    have q693 : x7_2 < (t688.length : Int) := of_decide_eq_true (by first | (with_reducible assumption) | assumption)
                    obtain ⟨ad693, A693_0, c693_0, e693, hx693_0, hl693_0, hi693_0⟩ := at_L4 (Kd.N_reads' HO_5.out).2.2 x7_2 p693 q693
                    cases e693
                    obtain ⟨ce693, hce693, hMe693, hcc693⟩ := Kd.N_get HO_5.out [] x7_2 p693 (by first | exact q693 | exact of_decide_eq_true (by first | (with_reducible assumption) | assumption) | (have e_ := (Kd.N_reads' HO_5.out).1; omega))
                    obtain ⟨ua693_0, uc693_0, rfl, ul693_0, ge693_0⟩ := Kd.FK_slice_open hMe693
                    have hv693_0 := hcc693 0 _ rfl
                    rw [Nat.add_zero, show ((Kd.slice 3 (Kd.int .i64))).sz = 1 from rfl, Nat.mul_one] at hv693_0
                    replace hv693_0 := Option.some.inj (hv693_0.symm.trans hx693_0)
                    injection hv693_0 with hva_ hvn_ hvc_
                    rw [hva_] at ge693_0
                    rw [hvc_] at ul693_0
                    have HL693_0 := Aside0.mk (show Kd.V (Kd.int .i64) 3 _ w.heap.size _ _ (rd_L4 t688 x7_2) from Kd.V_mk ul693_0 ge693_0)
                    clear hva_ hvn_ hvc_ ge693_0 ul693_0
                    clear hcc693 hce693
                    have HR693_0 := Aside0.mk hi693_0
                    have HC693_0 := Aside0.mk hl693_0
                    clear hi693_0 hl693_0
                    replace p693 := eq_true p693
                    replace q693 := eq_true q693
                    go_wp2
                    go_ret
                    exact ⟨by first | rfl | (simp [errW_none, errW_some] <;> rfl) | (simp [*, errW_none, errW_some] <;> rfl), by repeat (first | (with_reducible first | exact HB.out | apply below_alloc | apply pw_below_drewN | apply below_drew1 | refine below_set ?_ GE687.out) | exact HB.out | exact undrawn_ HB.out)⟩
                · rw [if_neg c19] at H
                  exact absurd H (by simp)
              · rw [if_neg c18] at H
                exact absurd H (by simp)
            · rw [if_neg c17] at H
              have c17b0 : decide (x7_2 < (t678.length : Int)) = false := decide_eq_false c17
              clear c17
              replace H := Option.bind_eq_some_iff.mp H
              obtain ⟨t692, A900, H⟩ := H
              replace H : (some t692) = some r := H
              have A90 := Aside0.mk A900
              clear A900
              obtain rfl := Option.some.inj H
              go_wp2_with (first | ((with_reducible refine gate_callee (f := 17) rfl ?_); refine goesL_ (some 188) rfl rfl Try.func17 (by kernel_rfl) rfl #[] rfl (by (try simp only [List.map_toArray, List.map_cons, List.map_nil]); first | done | rfl | (simp only [List.length_drop, List.length_take]; rfl)) ?_; (with_reducible refine (cippuslaw07_found.calls k2  t692 _ A90.out).mono ?_); rintro e w91 ⟨rfl, hb⟩; refine ⟨_, rfl, ?_⟩; have n0_ := Aside0.mk (Kd.R_below (by (with_reducible repeat (first | apply Kd.R_alloc | apply Kd.R_drewN | apply Kd.R_drew)); exact HO_3.out) hb); have n1_ := Aside0.mk (Kd.N_below (by (with_reducible repeat (first | apply Kd.N_alloc | apply Kd.N_drewN | apply Kd.N_drew)); exact HO_5.out) hb); have n2_ := Aside0.mk (Kd.R_below (by (with_reducible repeat (first | apply Kd.R_alloc | apply Kd.R_drewN | apply Kd.R_drew)); exact HO_688001.out) hb); have n3_ := Aside0.mk (blk_below (g := gb687) (o := .cells #[.string t681, .slice Ao11 t682.length co11] 27 (0, 0)) (by (with_reducible repeat (first | refine blk_drewN ?_ _ | refine blk_drew ?_ | refine blk_alloc ?_ _)); exact BK687.out) hb); have n4_ := Aside0.mk (below_step (by repeat (first | (with_reducible first | exact HB.out | apply below_alloc | apply pw_below_drewN | apply below_drew1 | refine below_set ?_ GE687.out) | exact HB.out)) hb); clear HO_3; clear HO_5; clear HO_688001; clear BK687; clear HB; have HO_3 := n0_; have HO_5 := n1_; have HO_688001 := n2_; have BK687 := n3_; have HB := n4_; clear n0_ n1_ n2_ n3_ n4_; (try clear hb); (try clear hb2); (try clear hk); (try clear hi)))
              go_ret
              exact ⟨by first | rfl | (simp [errW_none, errW_some] <;> rfl) | (simp [*, errW_none, errW_some] <;> rfl), by repeat (first | (with_reducible first | exact HB.out | apply below_alloc | apply pw_below_drewN | apply below_drew1 | refine below_set ?_ GE687.out) | exact HB.out | exact undrawn_ HB.out)⟩
def cippuslaw07_StemmaProved.Pure : Prop := ∀ (l0 : List Int), l0.length ≤ maxLen → l0.length * 8 ≤ 140737488351232 → (∀ x ∈ l0, (Lit.int .i64 x).wf = true) → ∃ k, cippuslaw07_StemmaProved.f k l0 = some true
theorem cippuslaw07_StemmaProved.walk (P : cippuslaw07_StemmaProved.Pure) (a0 : Option Addr) (len0 cap0 : Nat) (z0 : List Int) (w : World) (w0 : (a0 = none ∧ len0 = 0 ∧ cap0 = 0 ∧ z0 = []) ∨ ∃ x, a0 = some x ∧ len0 ≤ cap0 ∧ cap0 ≤ maxLen ∧ z0.length = cap0 ∧ (∀ i, i < z0.length → w.cell? (x.add i) = some (.int .i64 (z0.getD i 0))) ∧ ∀ n ∈ z0, (Lit.int .i64 n).wf = true) (y0 : len0 * 8 ≤ 140737488351232) :
    Calls Try.prog 12 #[.slice a0 len0 cap0] w fun e w' => e = .returned (.bool true) ∧ Below w.heap.size w w' := by
  obtain ⟨l0, rfl, hr0, hm0, hw0, hc0⟩ := ReadsInt.ofRowC w0
  obtain ⟨k, h⟩ := P l0 hm0 y0 hw0
  refine (cippuslaw07_StemmaProved.calls k _ _ l0 true w (Kd.C_of_reads (d := (0 : Int)) (h1 := fun _ => rfl) hr0) hc0 h).mono ?_
  rintro e w' ⟨rfl, hd⟩
  exact ⟨rfl, hd⟩
end Go.Proofs.Ytegjollhajgcdaa.P
namespace Go.Proofs.Ytegjollhajgcdaa.Pure
open Go.RowKit Go.Proofs.Ytegjollhajgcdaa.P Go.Proofs.Ytegjollhajgcdaa.P.OwnSt Go.Proofs.YtegjollhajgcdaaW.PrintWords Go.Proofs.YtegjollhajgcdaaW.PrintLast
set_option linter.unusedVariables false
set_option linter.unusedSimpArgs false
theorem pv_rows (l : List S24) (hk : knownE l = 0) (i : Nat) (hi : i < l.length) : rd_L4 (sourcesV l).1 (i : Int) = srcRow l i := by
  unfold sourcesV rd_L4
  rw [if_pos hk]
  simp [List.getD_eq_getElem?_getD, hi]
theorem pv_row (l : List S24) (i j : Nat) (hj : j ≤ i) : rd (srcRow l i) (j : Int) = verdictI ((knownV l).countP (srcP i j)) (knownV l).length := by
  unfold srcRow rd
  simp [List.getD_eq_getElem?_getD, show j < i + 1 by omega]
theorem pv_apart (a b : ByteArray) (hab : a.size ≤ b.size) (h8 : a.size ≤ 1000) : Ev (fun k => cippusref07_Apart.f k a b) (apN a b a.size) := by
  have : ∀ rem i, i + rem = a.size → Ev (fun k => cippusref07_Apart.l0 k a b (apN a b i) (i : Int)) (apN a b a.size) := by
    intro rem
    induction rem with
    | zero =>
      intro i hi
      refine Ev.step (fun k => by rw [cippusref07_Apart.l0]) ?_
      rw [show i = a.size by omega]
      exact Ev.if_neg' (by omega) (Ev.now _)
    | succ rem ih =>
      intro i hi
      refine Ev.step (fun k => by rw [cippusref07_Apart.l0]) ?_
      refine Ev.if_pos' (by omega) (Ev.if_pos' (by omega) (Ev.if_pos' (by omega) ?_))
      have h := ih (i + 1) (by omega)
      have hb := apN_bound a b i
      rw [apN_succ] at h
      rw [wrap64_small (by omega) (by omega)]
      by_cases e : bt a (i : Int) = bt b (i : Int)
      · refine Ev.if_pos' e ?_
        rw [if_pos e, Int.add_zero] at h
        simpa using h
      · refine Ev.if_neg' e ?_
        rw [if_neg e] at h
        rw [wrap64_small (by omega) (by omega)]
        simpa using h
  have h := this a.size 0 (by omega)
  unfold cippusref07_Apart.f
  simpa [apN] using h
theorem apN_comm (a b : ByteArray) : ∀ n, apN a b n = apN b a n := by
  intro n
  induction n with
  | zero => simp [apN]
  | succ n ih =>
    rw [apN_succ, apN_succ, ih]
    by_cases e : bt a (n : Int) = bt b (n : Int)
    · rw [if_pos e, if_pos e.symm]
    · rw [if_neg e, if_neg (fun h => e h.symm)]
def cnt (P : Nat → Bool) : Nat → Nat
  | 0 => 0
  | m + 1 => cnt P m + if P m = true then 1 else 0
theorem cnt_zero (P : Nat → Bool) : ∀ m, cnt P m = 0 ↔ ∀ j, j < m → P j = false := by
  intro m
  induction m with
  | zero => exact ⟨fun _ j hj => by omega, fun _ => rfl⟩
  | succ m ih =>
    unfold cnt
    constructor
    · intro h j hj
      by_cases e : j = m
      · subst e
        by_cases hp : P j = true
        · rw [if_pos hp] at h; omega
        · simpa using hp
      · exact ih.1 (by omega) j (by omega)
    · intro h
      rw [ih.2 (fun j hj => h j (by omega)), h m (by omega)]
      rfl
theorem cnt_one (P : Nat → Bool) : ∀ m, cnt P m = 1 ↔ ∃ j, j < m ∧ P j = true ∧ ∀ j', j' < m → P j' = true → j' = j := by
  intro m
  induction m with
  | zero => exact ⟨fun h => by simp [cnt] at h, fun ⟨j, hj, _⟩ => by omega⟩
  | succ m ih =>
    unfold cnt
    by_cases hp : P m = true
    · rw [if_pos hp]
      constructor
      · intro h
        have h0 := (cnt_zero P m).1 (by omega)
        refine ⟨m, by omega, hp, fun j' h1 h2 => ?_⟩
        by_cases e : j' = m
        · exact e
        · rw [h0 j' (by omega)] at h2; cases h2
      · rintro ⟨j, h1, h2, h3⟩
        have := h3 m (by omega) hp
        subst this
        rw [(cnt_zero P m).2 (fun j' hj' => by
          by_cases e : P j' = true
          · have := h3 j' (by omega) e; omega
          · simpa using e)]
    · rw [if_neg hp, Nat.add_zero, ih]
      constructor
      · rintro ⟨j, h1, h2, h3⟩
        refine ⟨j, by omega, h2, fun j' h4 h5 => ?_⟩
        by_cases e : j' = m
        · subst e; exact absurd h5 hp
        · exact h3 j' (by omega) h5
      · rintro ⟨j, h1, h2, h3⟩
        refine ⟨j, ?_, h2, fun j' h4 h5 => h3 j' (by omega) h5⟩
        by_cases e : j = m
        · subst e; exact absurd h2 hp
        · omega
theorem cnt_le (P : Nat → Bool) : ∀ m, cnt P m ≤ m := by
  intro m
  induction m with
  | zero => exact Nat.le_refl _
  | succ m ih => unfold cnt; split <;> omega
section
variable {er : Int} {st : ByteArray} {l : List S24} {src : List Int}
def notNo (l : List S24) (i j : Nat) : Bool := decide (verdictI ((knownV l).countP (srcP i j)) (knownV l).length ≠ 2)
def isYes (l : List S24) (i j : Nat) : Bool := decide (verdictI ((knownV l).countP (srcP i j)) (knownV l).length = 1)
theorem verdict_no {so all : Nat} (h : 0 < all) : verdictI so all = 2 ↔ so = 0 := by
  unfold verdictI
  constructor
  · intro h1
    split at h1
    · cases h1
    · split at h1
      · assumption
      · cases h1
  · intro h1
    rw [if_neg (by omega), if_pos h1]
theorem verdict_yes {so all : Nat} : verdictI so all = 1 ↔ so = all := by
  unfold verdictI
  constructor
  · intro h1
    split at h1
    · assumption
    · split at h1 <;> cases h1
  · intro h1
    rw [if_pos h1]
theorem notNo_iff (hp : 0 < (knownV l).length) (i j : Nat) : notNo l i j = true ↔ ∃ s ∈ knownV l, s i = (j : Int) - 1 := by
  unfold notNo
  rw [decide_eq_true_iff, ne_eq, verdict_no hp, show ∀ m : Nat, (¬ m = 0) = (0 < m) from fun m => by simp [Nat.pos_iff_ne_zero], List.countP_pos_iff]
  unfold srcP
  simp
theorem isYes_iff (i j : Nat) : isYes l i j = true ↔ ∀ s ∈ knownV l, s i = (j : Int) - 1 := by
  unfold isYes
  rw [decide_eq_true_iff, verdict_yes, List.countP_eq_length]
  unfold srcP
  simp
theorem left_sure (h : MadeT er st l src) (i : Nat) (hi : i < l.length) : cnt (notNo l i) (i + 1) ≠ 0 ∧ (cnt (notNo l i) (i + 1) = 1 ↔ cnt (isYes l i) (i + 1) = 1) := by
  have hpos : 0 < (knownV l).length := List.length_pos_of_mem h.known
  have hrange : ∀ s ∈ knownV l, ∃ j : Nat, j < i + 1 ∧ s i = (j : Int) - 1 := fun s hs => by
    have := (knownV_mem hs).1 i hi
    exact ⟨(s i + 1).toNat, by omega, by omega⟩
  refine ⟨fun h0 => ?_, ?_⟩
  · obtain ⟨j, hj, e⟩ := hrange _ h.known
    have h1 := (cnt_zero _ _).1 h0 j hj
    have h2 := (notNo_iff hpos i j).2 ⟨_, h.known, e⟩
    rw [h1] at h2
    cases h2
  · rw [cnt_one, cnt_one]
    constructor
    · rintro ⟨j, h1, h2, h3⟩
      refine ⟨j, h1, (isYes_iff i j).2 fun s hs => ?_, fun j' h4 h5 => ?_⟩
      · obtain ⟨q, hq, e⟩ := hrange s hs
        have := h3 q hq ((notNo_iff hpos i q).2 ⟨s, hs, e⟩)
        rw [e, this]
      · exact h3 j' h4 ((notNo_iff hpos i j').2 ⟨_, h.known, (isYes_iff i j').1 h5 _ h.known⟩)
    · rintro ⟨j, h1, h2, h3⟩
      have h4 := (isYes_iff i j).1 h2
      refine ⟨j, h1, (notNo_iff hpos i j).2 ⟨_, h.known, h4 _ h.known⟩, fun j' h5 h6 => ?_⟩
      obtain ⟨s, hs, e⟩ := (notNo_iff hpos i j').1 h6
      have := h4 s hs
      omega
theorem hsum_upd {s t : Nat → Int} {i i' : Nat} {x : Int} (hne : i' ≠ i) : ∀ rem p, hsum l (upd s i x) t i' rem p = hsum l s t i' rem p := by
  intro rem
  induction rem with
  | zero => intro p; rfl
  | succ rem ih =>
    intro p
    unfold hsum hit
    rw [ih]
    unfold upd
    rw [if_neg hne]
theorem source_iff (h : MadeT er st l src) (i : Nat) (hi : i < l.length) (k : Nat) (hk : k < i) : notNo l i (k + 1) = decide (apN (rd_T24 l (i : Int)).f0 (rd_T24 l (k : Int)).f0 (rd_T24 l (i : Int)).f0.size ≤ (rd_T24 l (i : Int)).f1) := by
  have hpos : 0 < (knownV l).length := List.length_pos_of_mem h.known
  have hsz : (rd_T24 l (k : Int)).f0.size = (rd_T24 l (i : Int)).f0.size := by rw [h.valid.size k (by omega), h.valid.size i hi]
  rw [Bool.eq_iff_iff, notNo_iff hpos, decide_eq_true_iff, apN_comm, ← hsz]
  constructor
  · rintro ⟨s, hs, e⟩
    have h1 := ((knownV_mem hs).1 i hi).2.2
    have e' : s i = (k : Int) := by omega
    rw [e'] at h1
    unfold canF at h1
    rw [if_neg (by simp)] at h1
    exact of_decide_eq_true h1
  · intro h1
    refine ⟨upd (srcF src) i (k : Int), (known_iff h.valid _).2 ⟨⟨fun q hq => ?_, fun q hq => ?_⟩, letF st, h.fit.1, fun q hq h2 => ?_⟩, ?_⟩
    · by_cases e : q = i
      · subst e
        have : upd (srcF src) q (k : Int) q = (k : Int) := by simp [upd]
        rw [this]
        refine ⟨by omega, by omega, ?_⟩
        unfold canF
        rw [if_neg (by simp)]
        exact decide_eq_true h1
      · have : upd (srcF src) i (k : Int) q = srcF src q := by simp [upd, e]
        rw [this]
        exact h.tree.1 q hq
    · have : upd (srcF src) i (k : Int) q = srcF src q := by simp [upd, show q ≠ i by omega]
      rw [this]
      exact h.tree.2 q hq
    · by_cases e : q = i
      · subst e
        exact absurd (hsum_none (by simp [upd]) _ _) h2
      · rw [hsum_upd e] at h2 ⊢
        exact h.fit.2 q hq h2
    · simp [upd]
theorem climb_fuel (s : Nat → Int) (b : Int) (hb : 0 ≤ b) (hs : ∀ k : Nat, s k < k ∨ s k ≤ 0) : ∀ (f f' : Nat) (x : Int), x < f → x < f' → climb s b f x = climb s b f' x := by
  intro f
  induction f with
  | zero => intro f' x h1 _; rw [climb_stop _ _ _ _ (by omega), climb_stop _ _ _ _ (by omega)]
  | succ f ih =>
    intro f' x h1 h2
    by_cases e : b < x
    · cases f' with
      | zero => omega
      | succ f' =>
        rw [climb, climb, if_pos e, if_pos e]
        have h3 := hs x.toNat
        exact ih f' _ (by omega) (by omega)
    · rw [climb_stop _ _ _ _ e, climb_stop _ _ _ _ e]
theorem seen_root (h : MadeT er st l src) : ∀ (n i : Nat), i < n → i < l.length → (rd_T24 l (i : Int)).f2 = true ∨ ∃ k, k < i ∧ (rd_T24 l (k : Int)).f2 = true ∧ dependB (srcF src) i k = true := by
  have hs : ∀ k : Nat, srcF src k < k ∨ srcF src k ≤ 0 := fun k => by
    by_cases e : k < l.length
    · exact .inl (h.tree.1 k e).2.1
    · exact .inr (by rw [h.tree.2 k (by omega)]; exact Int.le_refl _)
  have h5 := h.five
  intro n
  induction n with
  | zero => intro i hi; omega
  | succ n ih =>
    intro i hi hil
    have ht := h.tree.1 i hil
    by_cases e : srcF src i = -1
    · left
      have h1 := ht.2.2
      rw [e] at h1
      unfold canF at h1
      simpa using h1
    · right
      obtain ⟨j, hj⟩ : ∃ j : Nat, srcF src i = (j : Int) := ⟨(srcF src i).toNat, by omega⟩
      rcases ih j (by omega) (by omega) with h1 | ⟨k, h1, h2, h3⟩
      · refine ⟨j, by omega, h1, ?_⟩
        unfold dependB
        rw [hj, climb_stop _ _ _ _ (by omega)]
        simp
      · refine ⟨k, by omega, h2, ?_⟩
        unfold dependB at h3 ⊢
        rw [hj, climb, if_pos (by omega), Int.toNat_natCast]
        have h4 := (h.tree.1 j (by omega))
        rw [climb_fuel (srcF src) (k : Int) (by omega) hs 4 5 _ (by omega) (by omega)]
        exact h3
def depV (l : List S24) (i b : Nat) : Int := verdictI ((knownV l).countP fun s => dependB s i b) (knownV l).length
theorem depends_eq (h : MadeT er st l src) (i b : Nat) (hi : i < l.length) (hb : b < l.length) : dependsV l (i : Int) (b : Int) = (depV l i b, 0) := by
  unfold dependsV
  rw [if_neg (by rw [check_of_valid h.valid]; simp), if_neg (by omega), if_neg (by rw [h.knownE]; simp)]
  rfl
theorem proved_l2 (h : MadeT er st l src) (i : Nat) (hi : i < l.length) (hR : Ev (fun k => cippuslaw07_StemmaProved.l0 k l (sourcesV l).1 ((i + 1 : Nat) : Int)) true) : ∀ rem b x, b + rem = i →
    (x = true ∨ ∃ k, b ≤ k ∧ k < i ∧ (rd_T24 l (k : Int)).f2 = true ∧ depV l i k ≠ 2) → Ev (fun k => cippuslaw07_StemmaProved.l2 k l (sourcesV l).1 (i : Int) x (b : Int)) true := by
  intro rem
  have h5 := h.five
  induction rem with
  | zero =>
    intro b x hb hx
    refine Ev.step (fun k => by rw [cippuslaw07_StemmaProved.l2]) ?_
    refine Ev.if_neg' (by omega) ?_
    unfold stemma_Depends.f
    simp only [Option.bind_some]
    have hd := depends_eq h i 0 hi (by omega)
    rw [show (0 : Int) = ((0 : Nat) : Int) from rfl, hd]
    have hxt : x = true := by
      rcases hx with hx | ⟨k, h1, h2, _⟩
      · exact hx
      · omega
    rw [show wrap64 ((i : Int) + 1) = ((i + 1 : Nat) : Int) by rw [wrap64_small (by omega) (by omega)]; omega]
    refine Ev.if_pos' hxt (Ev.if_pos' (by trivial) ?_)
    by_cases e : i = 0
    · refine Ev.if_pos' (by omega) (Ev.if_pos' ?_ hR)
      show depV l i 0 = 2
      subst e
      unfold depV
      rw [verdict_no (List.length_pos_of_mem h.known), List.countP_eq_zero]
      intro s hs
      have h1 := (knownV_mem hs).1 0 hi
      unfold dependB
      rw [show s 0 = -1 by omega, climb_stop _ _ _ _ (by omega)]
      decide
    · exact Ev.if_neg' (by omega) hR
  | succ rem ih =>
    intro b x hb hx
    refine Ev.step (fun k => by rw [cippuslaw07_StemmaProved.l2]) ?_
    refine Ev.if_pos' (by omega) ?_
    unfold stemma_Depends.f
    simp only [Option.bind_some]
    rw [depends_eq h i b hi (by omega), show wrap64 ((b : Int) + 1) = ((b + 1 : Nat) : Int) by rw [wrap64_small (by omega) (by omega)]; omega]
    refine Ev.if_pos' (by trivial) ?_
    by_cases ex : x = true
    · exact Ev.if_pos' ex (ih (b + 1) true (by omega) (.inl rfl))
    · obtain ⟨k, h1, h2, h3, h4⟩ : ∃ k, b ≤ k ∧ k < i ∧ (rd_T24 l (k : Int)).f2 = true ∧ depV l i k ≠ 2 := by
        rcases hx with hx | hx
        · exact absurd hx ex
        · exact hx
      refine Ev.if_neg' ex (Ev.if_pos' (by omega) (Ev.if_pos' (by omega) ?_))
      by_cases e : (rd_T24 l (b : Int)).f2 = true
      · refine Ev.if_pos' e (ih (b + 1) _ (by omega) ?_)
        by_cases ek : k = b
        · subst ek
          exact .inl (bne_iff_ne.2 h4)
        · exact .inr ⟨k, by omega, h2, h3, h4⟩
      · refine Ev.if_neg' e (ih (b + 1) _ (by omega) (.inr ⟨k, ?_, h2, h3, h4⟩))
        by_cases ek : k = b
        · subst ek; exact absurd h3 e
        · omega
theorem proved_j4 (h : MadeT er st l src) (i : Nat) (hi : i < l.length) (hR : Ev (fun k => cippuslaw07_StemmaProved.l0 k l (sourcesV l).1 ((i + 1 : Nat) : Int)) true) : Ev (fun k => cippuslaw07_StemmaProved.j4 k l (sourcesV l).1 (i : Int) false) true := by
  refine Ev.step (fun k => by rw [cippuslaw07_StemmaProved.j4]) ?_
  refine Ev.if_neg' (by decide) (Ev.if_pos' (by omega) (Ev.if_pos' (by omega) ?_))
  refine proved_l2 h i hi hR i 0 _ (by omega) ?_
  rcases seen_root h (i + 1) i (by omega) hi with h1 | ⟨k, h1, h2, h3⟩
  · exact .inl h1
  · refine .inr ⟨k, by omega, h1, h2, ?_⟩
    unfold depV
    rw [ne_eq, verdict_no (List.length_pos_of_mem h.known), show ∀ m : Nat, (¬ m = 0) = (0 < m) from fun m => by simp [Nat.pos_iff_ne_zero], List.countP_pos_iff]
    exact ⟨_, h.known, h3⟩
theorem proved_l1 (h : MadeT er st l src) (i : Nat) (hi : i < l.length) (hR : Ev (fun k => cippuslaw07_StemmaProved.l0 k l (sourcesV l).1 ((i + 1 : Nat) : Int)) true) : ∀ rem j, j + rem = i + 1 →
    Ev (fun k => cippuslaw07_StemmaProved.l1 k l (sourcesV l).1 (i : Int) (cnt (notNo l i) j : Int) (cnt (isYes l i) j : Int) (j : Int)) true := by
  intro rem
  have h5 := h.five
  have hk := h.knownE
  have hlen : (sourcesV l).1.length = l.length := by unfold sourcesV; rw [if_pos hk]; simp
  have hrow := pv_rows l hk i hi
  have hrl : (srcRow l i).length = i + 1 := by simp [srcRow]
  have hls := left_sure h i hi
  induction rem with
  | zero =>
    intro j hj
    have hji : j = i + 1 := by omega
    subst hji
    refine Ev.step (fun k => by rw [cippuslaw07_StemmaProved.l1]) ?_
    rw [hrow]
    refine Ev.if_neg' (by omega) (Ev.if_neg' (by omega) (Ev.if_neg' ?_ (Ev.if_pos' (by omega) (Ev.if_pos' (by omega) ?_))))
    · rw [Bool.not_eq_true, bne_eq_false_iff_eq, Bool.eq_iff_iff, beq_iff_eq, beq_iff_eq]
      have h2 := hls.2
      omega
    · by_cases e : (rd_T24 l (i : Int)).f2 = true
      · exact Ev.if_pos' e (proved_j4 h i hi hR)
      · refine Ev.if_neg' e ?_
        have hi0 : i ≠ 0 := fun e0 => by
          subst e0
          rcases seen_root h 1 0 (by omega) hi with h1 | ⟨k, h1, _⟩
          · exact e h1
          · omega
        refine Ev.if_neg' (by omega) (Ev.if_pos' (by omega) (Ev.if_pos' (by omega) ?_))
        have hv := pv_row l i 0 (by omega)
        have hno : verdictI ((knownV l).countP (srcP i 0)) (knownV l).length = 2 := by
          rw [verdict_no (List.length_pos_of_mem h.known), List.countP_eq_zero]
          intro s hs hp
          have h1 := ((knownV_mem hs).1 i hi).2.2
          have h2 : s i = -1 := by unfold srcP at hp; simpa using hp
          rw [h2] at h1
          unfold canF at h1
          exact e (by simpa using h1)
        rw [show (0 : Int) = ((0 : Nat) : Int) from rfl, hv, hno]
        exact proved_j4 h i hi hR
  | succ rem ih =>
    intro j hj
    have hn := ih (j + 1) (by omega)
    have hc1 := cnt_le (notNo l i) j
    have hc2 := cnt_le (isYes l i) j
    have ej : wrap64 ((j : Int) + 1) = ((j + 1 : Nat) : Int) := by rw [wrap64_small (by omega) (by omega)]; omega
    have hv := pv_row l i j (by omega)
    have key : ∀ lf : Int, lf = (cnt (notNo l i) (j + 1) : Int) → Ev (fun k => cippuslaw07_StemmaProved.j3 k l (sourcesV l).1 (i : Int) lf (cnt (isYes l i) j : Int) (j : Int)) true := by
      rintro lf rfl
      refine Ev.step (fun k => by rw [cippuslaw07_StemmaProved.j3]) ?_
      rw [hrow, hv]
      refine Ev.if_pos' (by omega) (Ev.if_pos' (by omega) (Ev.if_pos' (by omega) (Ev.if_pos' (by omega) ?_)))
      have hap : 0 < j → ∀ R, Ev R true → Ev (fun k => if (i : Int) < (l.length : Int) then (if 0 ≤ wrap64 ((j : Int) - 1) then (if wrap64 ((j : Int) - 1) < (l.length : Int) then ((cippusref07_Apart.f k ((rd_T24 l (i : Int)).f0) ((rd_T24 l (wrap64 ((j : Int) - 1))).f0)).bind fun t702 => (if ((verdictI ((knownV l).countP (srcP i j)) (knownV l).length != 2) != (decide (t702 ≤ ((rd_T24 l (i : Int)).f1)))) = true then (some false) else R k)) else none) else none) else none) true := by
        intro hj0 R hRR
        have ew : wrap64 ((j : Int) - 1) = ((j - 1 : Nat) : Int) := by rw [wrap64_small (by omega) (by omega)]; omega
        rw [ew]
        have hsz : (rd_T24 l ((j - 1 : Nat) : Int)).f0.size = (rd_T24 l (i : Int)).f0.size := by rw [h.valid.size (j - 1) (by omega), h.valid.size i hi]
        refine Ev.if_pos' (by omega) (Ev.if_pos' (by omega) (Ev.if_pos' (by omega) ?_))
        refine Ev.bind (pv_apart _ _ (by rw [hsz]; exact Nat.le_refl _) (by rw [h.valid.size i hi]; have := h.valid.high; omega)) ?_
        refine Ev.if_neg' ?_ hRR
        have h2 := source_iff h i hi (j - 1) (by omega)
        rw [show j - 1 + 1 = j by omega] at h2
        rw [← h2]
        unfold notNo
        rw [Bool.not_eq_true, bne_eq_false_iff_eq, Bool.eq_iff_iff, bne_iff_ne, decide_eq_true_iff]
      by_cases ey : verdictI ((knownV l).countP (srcP i j)) (knownV l).length = 1
      · refine Ev.if_pos' ey ?_
        have ec : wrap64 ((cnt (isYes l i) j : Int) + 1) = (cnt (isYes l i) (j + 1) : Int) := by
          rw [wrap64_small (by omega) (by omega)]
          have : isYes l i j = true := decide_eq_true ey
          rw [cnt, if_pos this]
          simp
        rw [ec, ej]
        by_cases hj0 : (j : Int) > 0
        · exact Ev.if_pos' hj0 (hap (by omega) _ hn)
        · exact Ev.if_neg' hj0 hn
      · refine Ev.if_neg' ey ?_
        have ec : (cnt (isYes l i) j : Int) = (cnt (isYes l i) (j + 1) : Int) := by
          have : isYes l i j = false := decide_eq_false ey
          rw [cnt, this]
          simp
        rw [ec, ej]
        by_cases hj0 : (j : Int) > 0
        · exact Ev.if_pos' hj0 (hap (by omega) _ hn)
        · exact Ev.if_neg' hj0 hn
    refine Ev.step (fun k => by rw [cippuslaw07_StemmaProved.l1]) ?_
    rw [hrow, hv]
    refine Ev.if_pos' (by omega) (Ev.if_pos' (by omega) (Ev.if_pos' (by omega) (Ev.if_pos' (by omega) (Ev.if_pos' (by omega) ?_))))
    by_cases e2 : verdictI ((knownV l).countP (srcP i j)) (knownV l).length = 2
    · refine Ev.if_pos' e2 (key _ ?_)
      have : notNo l i j = false := by unfold notNo; rw [e2]; rfl
      rw [cnt, this]
      simp
    · refine Ev.if_neg' e2 (key _ ?_)
      have : notNo l i j = true := decide_eq_true e2
      rw [wrap64_small (by omega) (by omega), cnt, if_pos this]
      simp
theorem proved_l0 (h : MadeT er st l src) : ∀ rem i, i + rem = l.length → Ev (fun k => cippuslaw07_StemmaProved.l0 k l (sourcesV l).1 (i : Int)) true := by
  intro rem
  have h5 := h.five
  have hk := h.knownE
  have hlen : (sourcesV l).1.length = l.length := by unfold sourcesV; rw [if_pos hk]; simp
  induction rem with
  | zero =>
    intro i hi
    refine Ev.step (fun k => by rw [cippuslaw07_StemmaProved.l0]) ?_
    exact Ev.if_neg' (by omega) (Ev.bind found_ev (Ev.now _))
  | succ rem ih =>
    intro i hi
    refine Ev.step (fun k => by rw [cippuslaw07_StemmaProved.l0]) ?_
    rw [pv_rows l hk i (by omega)]
    refine Ev.if_pos' (by omega) (Ev.if_pos' (by omega) (Ev.if_pos' (by omega) (Ev.if_pos' (by rw [wrap64_small (by omega) (by omega)]; simp [srcRow]) ?_)))
    simpa [cnt] using proved_l1 h i (by omega) (ih (i + 1) (by omega)) (i + 1) 0 (by omega)
end
theorem StemmaProved : cippuslaw07_StemmaProved.Pure := by
  intro l0 hl _ _
  obtain ⟨a, b, e1⟩ := newUrn_ok l0 (by have : maxLen = 9223372036854775807 := rfl; omega)
  obtain ⟨l, st, src, a2, b2, e2, h, hn, hp⟩ := copiesOf_made a b 5 6 1 (by omega) (by omega) (by omega) (by omega) (by omega) (by omega)
  have hk := h.knownE
  refine Ev.rounds ?_
  unfold cippuslaw07_StemmaProved.f cippuskit_NewUrn.f cippuskit_CopiesOf.f stemma_Sources.f
  rw [e1]
  simp only [Option.bind_some, e2]
  have s1 : (sourcesV l).2 = 0 := by unfold sourcesV; rw [if_pos hk]
  have s4 : (sourcesV l).1.length = l.length := by unfold sourcesV; rw [if_pos hk]; simp
  refine Ev.if_pos' s1 ?_
  rw [s4, show ((l.length : Int) != (l.length : Int)) = false from by simp]
  refine Ev.step (fun k => by rw [cippuslaw07_StemmaProved.j0]) ?_
  refine Ev.if_neg' (by decide) ?_
  simpa using proved_l0 h l.length 0 (by omega)
end Go.Proofs.Ytegjollhajgcdaa.Pure
namespace Go.Proofs.YtegjollhajgcdaaW.PrintWords
open Go.ChangeShapes Go.WideShapes
theorem sized_ints {H : Type} {enc : TypeId × Value → H} {P : Program} {W : World} {base : Nat} {spare : Nat → Bool} {held : Bool} {t e : TypeId} {k : IntKind} {a : Option Addr} {len cap : Nat} {d : DataW H} {ps : List MemPlace} {ts : List TypeId} {ds : List (DataW H)} {j : Nat}
    (hsz : (DataW.weightsEach P ts ds).all (· ≤ reachBytes) = true) (ht : ts[j]? = some t) (hd : ds[j]? = some d) (hu : P.underlying t = some (.slice e)) (he : P.underlying e = some (.int k)) (hc : P.cellsOf e = 1) {B : Nat} (hB : P.bytesOf e = B)
    (h : DataW.Trod enc P W base spare held t (.slice a len cap) d ps) : len * B ≤ 140737488351232 := by
  obtain ⟨fuel, hf⟩ := h
  rcases open_ints hu he hc hf with ⟨hcs, _⟩ | ⟨x, l, c, zs, hcs, _, hl, _, hz, hx, _, _⟩
  · simp [Value.cells] at hcs
    obtain ⟨rfl, rfl, rfl⟩ := hcs
    simp
  · simp [Value.cells] at hcs
    obtain ⟨rfl, rfl, rfl⟩ := hcs
    obtain ⟨hx, _⟩ := Prod.mk.inj hx
    subst hx
    have z := sized_slice hsz ht hd hu
    rw [hB] at z
    have hl2 : len ≤ zs.length := by
      rw [hz]
      split
      · exact hl
      · exact Nat.le_refl _
    have h1 : (lits (H := H) k (zs.take len)).length + (lits (H := H) k (zs.drop len)).length = zs.length := by
      simp [lits]
      omega
    rw [h1] at z
    exact Nat.le_trans (Nat.mul_le_mul_right _ hl2) z
end Go.Proofs.YtegjollhajgcdaaW.PrintWords
namespace Go.Proofs.Ytegjollhajgcdaa.stemmaProved
open Go.ChangeShapes Go.WideShapes Go.ChangeAt Go.RowKit
open Go.ChangeMaps (open_string shut_string)
set_option linter.unusedVariables false
theorem own : ownKnob Try.prog.godebug = none := by kernel_rfl
theorem laidOut : laidOutB Try.prog = true := by kernel_rfl
def IsRow (k : IntKind) (w : World) (a : Option Addr) (len cap : Nat) (zs : List Int) : Prop :=
  (a = none ∧ len = 0 ∧ cap = 0 ∧ zs = []) ∨
  ∃ x, a = some x ∧ len ≤ cap ∧ cap ≤ maxLen ∧ zs.length = cap ∧ (∀ i, i < zs.length → w.cell? (x.add i) = some (.int k (zs.getD i 0))) ∧ ∀ n ∈ zs, (Lit.int k n).wf = true
set_option maxRecDepth 100000 in
theorem lifted (os : Os) (started : os.Started) (H : Type) (enc : TypeId × Value → H) :
    ReturnsInHanded {} Try.checked os 12 .any (Rows.stemmaProvedSpec.pre6 enc Try.prog Try.f12 Rows.stemmaProvedRow.domain false) (Rows.stemmaProvedSpec.post enc Try.prog Try.f12 false true false false) := by
  refine returnsInHanded_of_change_sized (C := Try.checked) own started (by kernel_rfl) Try.func12
    (ChangeSpec.witness6 (enc := enc) (C := Try.checked) false ⟨#[], #[.slice none 0 0], []⟩ 8 (by kernel_rfl) (by kernel_rfl) (by kernel_rfl) (by kernel_rfl)) ?_
  intro W base args ds gs before hval0 hW hcnd hsz0 _
  have hsz : (DataW.weightsEach Try.prog (Try.f12.params.toList ++ Rows.stemmaProvedSpec.plain.varTypes Try.prog) (ds ++ gs)).all (· ≤ reachBytes) = true := hsz0
  have hval : ∀ (j : Nat) t v, Try.f12.params[j]? = some t → args[j]? = some v → Value.okWide Try.prog W .any base t v := hval0
  have hW' := hW
  obtain ⟨p, q, hA0, hV, rfl, hfz, hnd⟩ := hW
  have hA : DataW.TrodAll enc Try.prog W 0 (fun _ => true) true Try.f12.params.toList args.toList ds p := hA0
  rw [Try.params12] at hA hval hsz
  obtain ⟨v0, vs0, d0, ds0, p0, q0, hargs, rfl, rfl, h0, r0⟩ := trodAll_cons hA
  obtain ⟨rfl, rfl, rfl⟩ := trodAll_nil r0
  obtain rfl : args = #[v0] := by cases args; simp_all
  obtain ⟨rfl, rfl⟩ := trodVars_none hV
  obtain ⟨a0, len0, cap0, rfl⟩ := okWide_slice Try.underlying25 (hval 0 25 v0 rfl rfl)
  have k0 := h0
  have lt0 : ∀ x ∈ p0, x.block < W.heap.size := by obtain ⟨m, hm⟩ := k0; exact DataW.trod_lt m _ _ _ hm
  obtain ⟨z0, w0⟩ : ∃ zs, IsRow .i64 W a0 len0 cap0 zs := by
    obtain ⟨fuel, hf⟩ := h0
    rcases open_ints Try.underlying25 Try.underlying3 (by kernel_rfl) hf with ⟨hcs, _⟩ | ⟨x, l, c, zs, hcs, _, hl, hm, hz, _, hcell, hwz⟩
    · simp [Value.cells] at hcs
      obtain ⟨rfl, rfl, rfl⟩ := hcs
      exact ⟨[], .inl ⟨rfl, rfl, rfl, rfl⟩⟩
    · simp [Value.cells] at hcs
      obtain ⟨rfl, rfl, rfl⟩ := hcs
      exact ⟨zs, .inr ⟨_, rfl, hl, hm, by simpa using hz, hcell, hwz⟩⟩
  have y0 : len0 * 8 ≤ 140737488351232 := Go.Proofs.YtegjollhajgcdaaW.PrintWords.sized_ints hsz (j := 0) (t := 25) rfl rfl Try.underlying25 Try.underlying3 (by kernel_rfl) (by kernel_rfl) h0
  clear hA0 hval0 hsz0 hsz
  refine (P.cippuslaw07_StemmaProved.walk Pure.StemmaProved a0 len0 cap0 z0 W w0 y0).mono fun e W' ⟨he, bel⟩ => ?_
  subst he
  exact ⟨_, rfl, _, _, _, [], _, [], hW', trodAll_mk1 (shut_bool Try.underlying4 _), (trodAll_cons_mk (Below.trod laidOut (by kernel_rfl) (of_decide_eq_true (by kernel_rfl)) k0 bel lt0) trodAll_mk0), rfl, bel.frame _, fun h => by cases h⟩
theorem over : Rows.stemmaProvedRow.holds Try.pinned (OpenSpec.ofChange Rows.stemmaProvedSpec) :=
  OpenClaim.holds_of_wide 12 Try.f12 rfl rfl rfl rfl rfl rfl rfl ⟨rfl, rfl, rfl, rfl, rfl⟩ rfl rfl rfl rfl rfl (by kernel_rfl) Try.func12 (by kernel_rfl)
    (of_decide_eq_true (by kernel_rfl)) (by unfold Func.isWrapper; first | (rw [if_pos (by decide +kernel)]; kernel_rfl) | (rw [if_neg (by decide +kernel)]; exact ⟨rfl, rfl⟩))
    (fun os started H enc _ => lifted os started H enc)
theorem proved : Rows.StemmaProvedSaid := over
#print axioms proved
end Go.Proofs.Ytegjollhajgcdaa.stemmaProved
namespace Go.Proofs.Ytegjollhajgcdaa
theorem stemmaProved_holds : Rows.StemmaProvedSaid := stemmaProved.proved
end Go.Proofs.Ytegjollhajgcdaa
