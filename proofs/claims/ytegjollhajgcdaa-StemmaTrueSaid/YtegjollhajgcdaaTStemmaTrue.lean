/- The statement StemmaTrue holds of the given program. Conditions: none beyond those of its row. -/
import Derived.SizedLaws
import Derived.ChangeSlices
import Derived.Test.YtegjollhajgcdaaRows
import Derived.WalkKit
import Derived.ProofKit
import Derived.OpenShut
import Derived.ShutString
import Derived.ChangeOld
import Derived.Below
import Derived.Test.YtegjollhajgcdaaB4
set_option linter.unusedVariables false
set_option linter.unusedSimpArgs false
namespace Go.Proofs.Ytegjollhajgcdaa.P
open Go.RowKit Go.Proofs.YtegjollhajgcdaaW.PrintWords Go.Proofs.YtegjollhajgcdaaW.PrintLast Go.Proofs.YtegjollhajgcdaaW.PrintMore
attribute [local go_sem] max2_int min2_int max_two min_two max_three min_three max_four min_four   -- for this text's walks alone
set_option linter.unusedVariables false
set_option linter.unusedSimpArgs false
def stemma_Depends.f (k : Nat) (l0 : List (S24)) (a1 : Int) (a2 : Int) : Option (Int × Int) := some (OwnSt.dependsV l0 a1 a2)
theorem stemma_Depends.mono : ∀ a0 a1 a2 k, LeO (stemma_Depends.f k a0 a1 a2) (stemma_Depends.f (k + 1) a0 a1 a2) := by intros; exact LeO.refl _
theorem stemma_Depends.calls (k : Nat) (A0 : Option Addr) (c0 : Nat) (l0 : List (S24)) (a1 : Int) (a2 : Int) (r1 : Int) (r2 : Int) (w : World) (hr0 : Kd.C k24 w A0 l0.length l0) (hc0 : l0.length ≤ c0) (h : stemma_Depends.f k l0 a1 a2 = some (r1, r2)) :
    Calls Try.prog 37 #[.slice A0 l0.length c0, .int .i64 a1, .int .i64 a2] w fun e w' => e = .returned (.tuple #[.int .i64 r1, .int .i64 r2]) ∧ Below w.heap.size w w' := by
  have h2 := OwnSt.depends_calls A0 c0 l0 a1 a2 w hr0 hc0; rw [show OwnSt.dependsV l0 a1 a2 = (r1, r2) from Option.some.inj h] at h2; exact h2
end Go.Proofs.Ytegjollhajgcdaa.P
namespace Go.Proofs.Ytegjollhajgcdaa.P
open Go.RowKit Go.Proofs.YtegjollhajgcdaaW.PrintWords Go.Proofs.YtegjollhajgcdaaW.PrintLast Go.Proofs.YtegjollhajgcdaaW.PrintMore
attribute [local go_sem] max2_int min2_int max_two min_two max_three min_three max_four min_four   -- for this text's walks alone
set_option linter.unusedVariables false
set_option linter.unusedSimpArgs false
mutual
def cippuslaw07_StemmaTrue.j0 : Nat → List (S24) → List (List Int) → List ByteArray → Bool → ByteArray → List Int → Option (Bool)
  | 0, _, _, _, _, _, _ => none
  | k + 1, x3, x5, x7, x69, x651000, x651001 => if x69 = true then (some false) else (cippuslaw07_StemmaTrue.l0 k x3 x5 x7 0 x651000 x651001)
def cippuslaw07_StemmaTrue.l0 : Nat → List (S24) → List (List Int) → List ByteArray → Int → ByteArray → List Int → Option (Bool)
  | 0, _, _, _, _, _, _ => none
  | k + 1, x3, x5, x7, x11, x651000, x651001 => if x11 < (x7.length : Int) then (if 0 ≤ x11 then (if x11 < (x651000.size : Int) then ((cippuslaw07_has.f k (rdOf ByteArray.empty x7 x11) (bt x651000 x11)).bind fun t663 => (if t663 = true then (cippuslaw07_StemmaTrue.l0 k x3 x5 x7 (wrap64 (x11 + 1)) x651000 x651001) else (some false))) else (none)) else (none)) else (cippuslaw07_StemmaTrue.l1 k x3 x5 0 x651000 x651001)
def cippuslaw07_StemmaTrue.l1 : Nat → List (S24) → List (List Int) → Int → ByteArray → List Int → Option (Bool)
  | 0, _, _, _, _, _ => none
  | k + 1, x3, x5, x12, x651000, x651001 => if x12 < (x5.length : Int) then (if 0 ≤ x12 then (if ((rd_L4 x5 x12).length : Int) = (wrap64 (x12 + 1)) then (cippuslaw07_StemmaTrue.l2 k x3 x5 x12 0 x651000 x651001) else (some false)) else (none)) else ((cippuslaw07_found.f k).bind fun t664 => (some t664))
def cippuslaw07_StemmaTrue.l2 : Nat → List (S24) → List (List Int) → Int → Int → ByteArray → List Int → Option (Bool)
  | 0, _, _, _, _, _, _ => none
  | k + 1, x3, x5, x12, x13, x651000, x651001 => if 0 ≤ x12 then (if x12 < (x5.length : Int) then (if x13 < ((rd_L4 x5 x12).length : Int) then (if 0 ≤ x13 then (if x12 < (x651001.length : Int) then ((cippuslaw07_fits.f (rd (rd_L4 x5 x12) x13) ((rd x651001 x12) == (wrap64 (x13 - 1)))).bind fun t670 => (if t670 = true then (cippuslaw07_StemmaTrue.l2 k x3 x5 x12 (wrap64 (x13 + 1)) x651000 x651001) else (some false))) else (none)) else (none)) else (cippuslaw07_StemmaTrue.l3 k x3 x5 x12 0 x651000 x651001)) else (none)) else (none)
def cippuslaw07_StemmaTrue.l3 : Nat → List (S24) → List (List Int) → Int → Int → ByteArray → List Int → Option (Bool)
  | 0, _, _, _, _, _, _ => none
  | k + 1, x3, x5, x12, x14, x651000, x651001 => if x14 < (x3.length : Int) then ((stemma_Depends.f k x3 x12 x14).bind fun bt671 => (if bt671.2 = 0 then ((cippusref07_Below.f k x651001 x12 x14).bind fun t673 => ((cippuslaw07_fits.f bt671.1 t673).bind fun t674 => (if t674 = true then (cippuslaw07_StemmaTrue.l3 k x3 x5 x12 (wrap64 (x14 + 1)) x651000 x651001) else (some false)))) else (some false))) else (cippuslaw07_StemmaTrue.l1 k x3 x5 (wrap64 (x12 + 1)) x651000 x651001)
end
def cippuslaw07_StemmaTrue.f (k : Nat) (l0 : List Int) : Option (Bool) := (cippuskit_NewUrn.f l0).bind fun bt638 => ((cippuskit_CopiesOf.f bt638.1 bt638.2 5 6 1).bind fun bt641 => ((stemma_Sources.f k bt641.1).bind fun bt651 => ((stemma_Letters.f k bt641.1).bind fun bt655 => ((stemma_Fewest.f k bt641.1).bind fun bt659 => (if bt651.2 = 0 then (if bt655.2 = 0 then (if bt659.2 = 0 then (if (bt651.1.length : Int) = (bt641.1.length : Int) then (if (bt655.1.length : Int) = (bt641.2.1.size : Int) then ((cippuslaw07_errors.f k bt641.1 bt641.2.1 bt641.2.2.1).bind fun t661 => (cippuslaw07_StemmaTrue.j0 k bt641.1 bt651.1 bt655.1 (decide (bt659.1 > t661)) bt641.2.1 bt641.2.2.1)) else (cippuslaw07_StemmaTrue.j0 k bt641.1 bt651.1 bt655.1 true bt641.2.1 bt641.2.2.1)) else (cippuslaw07_StemmaTrue.j0 k bt641.1 bt651.1 bt655.1 true bt641.2.1 bt641.2.2.1)) else (cippuslaw07_StemmaTrue.j0 k bt641.1 bt651.1 bt655.1 true bt641.2.1 bt641.2.2.1)) else (cippuslaw07_StemmaTrue.j0 k bt641.1 bt651.1 bt655.1 true bt641.2.1 bt641.2.2.1)) else (cippuslaw07_StemmaTrue.j0 k bt641.1 bt651.1 bt655.1 true bt641.2.1 bt641.2.2.1))))))
theorem cippuslaw07_StemmaTrue.mono_l : ∀ k, (∀ y0 y1 y2 y3 y4 y5, LeO (cippuslaw07_StemmaTrue.j0 k y0 y1 y2 y3 y4 y5) (cippuslaw07_StemmaTrue.j0 (k + 1) y0 y1 y2 y3 y4 y5)) ∧ (∀ y0 y1 y2 y3 y4 y5, LeO (cippuslaw07_StemmaTrue.l0 k y0 y1 y2 y3 y4 y5) (cippuslaw07_StemmaTrue.l0 (k + 1) y0 y1 y2 y3 y4 y5)) ∧ (∀ y0 y1 y2 y3 y4, LeO (cippuslaw07_StemmaTrue.l1 k y0 y1 y2 y3 y4) (cippuslaw07_StemmaTrue.l1 (k + 1) y0 y1 y2 y3 y4)) ∧ (∀ y0 y1 y2 y3 y4 y5, LeO (cippuslaw07_StemmaTrue.l2 k y0 y1 y2 y3 y4 y5) (cippuslaw07_StemmaTrue.l2 (k + 1) y0 y1 y2 y3 y4 y5)) ∧ (∀ y0 y1 y2 y3 y4 y5, LeO (cippuslaw07_StemmaTrue.l3 k y0 y1 y2 y3 y4 y5) (cippuslaw07_StemmaTrue.l3 (k + 1) y0 y1 y2 y3 y4 y5))
  | 0 => ⟨fun _ _ _ _ _ _ r h => by simp [cippuslaw07_StemmaTrue.j0] at h, fun _ _ _ _ _ _ r h => by simp [cippuslaw07_StemmaTrue.l0] at h, fun _ _ _ _ _ r h => by simp [cippuslaw07_StemmaTrue.l1] at h, fun _ _ _ _ _ _ r h => by simp [cippuslaw07_StemmaTrue.l2] at h, fun _ _ _ _ _ _ r h => by simp [cippuslaw07_StemmaTrue.l3] at h⟩
  | k + 1 => by
    obtain ⟨ih0, ih1, ih2, ih3, ih4⟩ := cippuslaw07_StemmaTrue.mono_l k
    refine ⟨?_, ?_, ?_, ?_, ?_⟩
    · intro y0 y1 y2 y3 y4 y5
      unfold cippuslaw07_StemmaTrue.j0
      repeat' first
      | (with_reducible exact ih0 _ _ _ _ _ _)
      | (with_reducible exact ih1 _ _ _ _ _ _)
      | (with_reducible exact ih2 _ _ _ _ _)
      | (with_reducible exact ih3 _ _ _ _ _ _)
      | (with_reducible exact ih4 _ _ _ _ _ _)
      | (with_reducible exact cippuslaw07_errors.mono _ _ _ _)
      | (with_reducible exact cippuslaw07_found.mono _)
      | (with_reducible exact cippuslaw07_has.mono _ _ _)
      | (with_reducible exact cippusref07_Below.mono _ _ _ _)
      | (with_reducible exact stemma_Depends.mono _ _ _ _)
      | (with_reducible exact stemma_Fewest.mono _ _)
      | (with_reducible exact stemma_Letters.mono _ _)
      | (with_reducible exact stemma_Sources.mono _ _)
      | (with_reducible exact LeO.refl _)
      | (with_reducible exact LeO.none _)
      | (with_reducible refine LeO.ite ?_ ?_)
      | (with_reducible refine LeO.bind ?_ (fun _ => ?_))
      | exact ih0 _ _ _ _ _ _
      | exact ih1 _ _ _ _ _ _
      | exact ih2 _ _ _ _ _
      | exact ih3 _ _ _ _ _ _
      | exact ih4 _ _ _ _ _ _
      | exact cippuslaw07_errors.mono _ _ _ _
      | exact cippuslaw07_found.mono _
      | exact cippuslaw07_has.mono _ _ _
      | exact cippusref07_Below.mono _ _ _ _
      | exact stemma_Depends.mono _ _ _ _
      | exact stemma_Fewest.mono _ _
      | exact stemma_Letters.mono _ _
      | exact stemma_Sources.mono _ _
      | exact LeO.none _
      | refine LeO.ite ?_ ?_
      | refine LeO.bind ?_ (fun _ => ?_)
    · intro y0 y1 y2 y3 y4 y5
      unfold cippuslaw07_StemmaTrue.l0
      repeat' first
      | (with_reducible exact ih0 _ _ _ _ _ _)
      | (with_reducible exact ih1 _ _ _ _ _ _)
      | (with_reducible exact ih2 _ _ _ _ _)
      | (with_reducible exact ih3 _ _ _ _ _ _)
      | (with_reducible exact ih4 _ _ _ _ _ _)
      | (with_reducible exact cippuslaw07_errors.mono _ _ _ _)
      | (with_reducible exact cippuslaw07_found.mono _)
      | (with_reducible exact cippuslaw07_has.mono _ _ _)
      | (with_reducible exact cippusref07_Below.mono _ _ _ _)
      | (with_reducible exact stemma_Depends.mono _ _ _ _)
      | (with_reducible exact stemma_Fewest.mono _ _)
      | (with_reducible exact stemma_Letters.mono _ _)
      | (with_reducible exact stemma_Sources.mono _ _)
      | (with_reducible exact LeO.refl _)
      | (with_reducible exact LeO.none _)
      | (with_reducible refine LeO.ite ?_ ?_)
      | (with_reducible refine LeO.bind ?_ (fun _ => ?_))
      | exact ih0 _ _ _ _ _ _
      | exact ih1 _ _ _ _ _ _
      | exact ih2 _ _ _ _ _
      | exact ih3 _ _ _ _ _ _
      | exact ih4 _ _ _ _ _ _
      | exact cippuslaw07_errors.mono _ _ _ _
      | exact cippuslaw07_found.mono _
      | exact cippuslaw07_has.mono _ _ _
      | exact cippusref07_Below.mono _ _ _ _
      | exact stemma_Depends.mono _ _ _ _
      | exact stemma_Fewest.mono _ _
      | exact stemma_Letters.mono _ _
      | exact stemma_Sources.mono _ _
      | exact LeO.none _
      | refine LeO.ite ?_ ?_
      | refine LeO.bind ?_ (fun _ => ?_)
    · intro y0 y1 y2 y3 y4
      unfold cippuslaw07_StemmaTrue.l1
      repeat' first
      | (with_reducible exact ih0 _ _ _ _ _ _)
      | (with_reducible exact ih1 _ _ _ _ _ _)
      | (with_reducible exact ih2 _ _ _ _ _)
      | (with_reducible exact ih3 _ _ _ _ _ _)
      | (with_reducible exact ih4 _ _ _ _ _ _)
      | (with_reducible exact cippuslaw07_errors.mono _ _ _ _)
      | (with_reducible exact cippuslaw07_found.mono _)
      | (with_reducible exact cippuslaw07_has.mono _ _ _)
      | (with_reducible exact cippusref07_Below.mono _ _ _ _)
      | (with_reducible exact stemma_Depends.mono _ _ _ _)
      | (with_reducible exact stemma_Fewest.mono _ _)
      | (with_reducible exact stemma_Letters.mono _ _)
      | (with_reducible exact stemma_Sources.mono _ _)
      | (with_reducible exact LeO.refl _)
      | (with_reducible exact LeO.none _)
      | (with_reducible refine LeO.ite ?_ ?_)
      | (with_reducible refine LeO.bind ?_ (fun _ => ?_))
      | exact ih0 _ _ _ _ _ _
      | exact ih1 _ _ _ _ _ _
      | exact ih2 _ _ _ _ _
      | exact ih3 _ _ _ _ _ _
      | exact ih4 _ _ _ _ _ _
      | exact cippuslaw07_errors.mono _ _ _ _
      | exact cippuslaw07_found.mono _
      | exact cippuslaw07_has.mono _ _ _
      | exact cippusref07_Below.mono _ _ _ _
      | exact stemma_Depends.mono _ _ _ _
      | exact stemma_Fewest.mono _ _
      | exact stemma_Letters.mono _ _
      | exact stemma_Sources.mono _ _
      | exact LeO.none _
      | refine LeO.ite ?_ ?_
      | refine LeO.bind ?_ (fun _ => ?_)
    · intro y0 y1 y2 y3 y4 y5
      unfold cippuslaw07_StemmaTrue.l2
      repeat' first
      | (with_reducible exact ih0 _ _ _ _ _ _)
      | (with_reducible exact ih1 _ _ _ _ _ _)
      | (with_reducible exact ih2 _ _ _ _ _)
      | (with_reducible exact ih3 _ _ _ _ _ _)
      | (with_reducible exact ih4 _ _ _ _ _ _)
      | (with_reducible exact cippuslaw07_errors.mono _ _ _ _)
      | (with_reducible exact cippuslaw07_found.mono _)
      | (with_reducible exact cippuslaw07_has.mono _ _ _)
      | (with_reducible exact cippusref07_Below.mono _ _ _ _)
      | (with_reducible exact stemma_Depends.mono _ _ _ _)
      | (with_reducible exact stemma_Fewest.mono _ _)
      | (with_reducible exact stemma_Letters.mono _ _)
      | (with_reducible exact stemma_Sources.mono _ _)
      | (with_reducible exact LeO.refl _)
      | (with_reducible exact LeO.none _)
      | (with_reducible refine LeO.ite ?_ ?_)
      | (with_reducible refine LeO.bind ?_ (fun _ => ?_))
      | exact ih0 _ _ _ _ _ _
      | exact ih1 _ _ _ _ _ _
      | exact ih2 _ _ _ _ _
      | exact ih3 _ _ _ _ _ _
      | exact ih4 _ _ _ _ _ _
      | exact cippuslaw07_errors.mono _ _ _ _
      | exact cippuslaw07_found.mono _
      | exact cippuslaw07_has.mono _ _ _
      | exact cippusref07_Below.mono _ _ _ _
      | exact stemma_Depends.mono _ _ _ _
      | exact stemma_Fewest.mono _ _
      | exact stemma_Letters.mono _ _
      | exact stemma_Sources.mono _ _
      | exact LeO.none _
      | refine LeO.ite ?_ ?_
      | refine LeO.bind ?_ (fun _ => ?_)
    · intro y0 y1 y2 y3 y4 y5
      unfold cippuslaw07_StemmaTrue.l3
      repeat' first
      | (with_reducible exact ih0 _ _ _ _ _ _)
      | (with_reducible exact ih1 _ _ _ _ _ _)
      | (with_reducible exact ih2 _ _ _ _ _)
      | (with_reducible exact ih3 _ _ _ _ _ _)
      | (with_reducible exact ih4 _ _ _ _ _ _)
      | (with_reducible exact cippuslaw07_errors.mono _ _ _ _)
      | (with_reducible exact cippuslaw07_found.mono _)
      | (with_reducible exact cippuslaw07_has.mono _ _ _)
      | (with_reducible exact cippusref07_Below.mono _ _ _ _)
      | (with_reducible exact stemma_Depends.mono _ _ _ _)
      | (with_reducible exact stemma_Fewest.mono _ _)
      | (with_reducible exact stemma_Letters.mono _ _)
      | (with_reducible exact stemma_Sources.mono _ _)
      | (with_reducible exact LeO.refl _)
      | (with_reducible exact LeO.none _)
      | (with_reducible refine LeO.ite ?_ ?_)
      | (with_reducible refine LeO.bind ?_ (fun _ => ?_))
      | exact ih0 _ _ _ _ _ _
      | exact ih1 _ _ _ _ _ _
      | exact ih2 _ _ _ _ _
      | exact ih3 _ _ _ _ _ _
      | exact ih4 _ _ _ _ _ _
      | exact cippuslaw07_errors.mono _ _ _ _
      | exact cippuslaw07_found.mono _
      | exact cippuslaw07_has.mono _ _ _
      | exact cippusref07_Below.mono _ _ _ _
      | exact stemma_Depends.mono _ _ _ _
      | exact stemma_Fewest.mono _ _
      | exact stemma_Letters.mono _ _
      | exact stemma_Sources.mono _ _
      | exact LeO.none _
      | refine LeO.ite ?_ ?_
      | refine LeO.bind ?_ (fun _ => ?_)
theorem cippuslaw07_StemmaTrue.mono : ∀ a0 k, LeO (cippuslaw07_StemmaTrue.f k a0) (cippuslaw07_StemmaTrue.f (k + 1) a0) := by
  intro a0 k
  obtain ⟨ih0, ih1, ih2, ih3, ih4⟩ := cippuslaw07_StemmaTrue.mono_l k
  unfold cippuslaw07_StemmaTrue.f
  repeat' first
      | (with_reducible exact ih0 _ _ _ _ _ _)
      | (with_reducible exact ih1 _ _ _ _ _ _)
      | (with_reducible exact ih2 _ _ _ _ _)
      | (with_reducible exact ih3 _ _ _ _ _ _)
      | (with_reducible exact ih4 _ _ _ _ _ _)
      | (with_reducible exact cippuslaw07_errors.mono _ _ _ _)
      | (with_reducible exact cippuslaw07_found.mono _)
      | (with_reducible exact cippuslaw07_has.mono _ _ _)
      | (with_reducible exact cippusref07_Below.mono _ _ _ _)
      | (with_reducible exact stemma_Depends.mono _ _ _ _)
      | (with_reducible exact stemma_Fewest.mono _ _)
      | (with_reducible exact stemma_Letters.mono _ _)
      | (with_reducible exact stemma_Sources.mono _ _)
      | (with_reducible exact LeO.refl _)
      | (with_reducible exact LeO.none _)
      | (with_reducible refine LeO.ite ?_ ?_)
      | (with_reducible refine LeO.bind ?_ (fun _ => ?_))
      | exact ih0 _ _ _ _ _ _
      | exact ih1 _ _ _ _ _ _
      | exact ih2 _ _ _ _ _
      | exact ih3 _ _ _ _ _ _
      | exact ih4 _ _ _ _ _ _
      | exact cippuslaw07_errors.mono _ _ _ _
      | exact cippuslaw07_found.mono _
      | exact cippuslaw07_has.mono _ _ _
      | exact cippusref07_Below.mono _ _ _ _
      | exact stemma_Depends.mono _ _ _ _
      | exact stemma_Fewest.mono _ _
      | exact stemma_Letters.mono _ _
      | exact stemma_Sources.mono _ _
      | exact LeO.none _
      | refine LeO.ite ?_ ?_
      | refine LeO.bind ?_ (fun _ => ?_)
set_option maxHeartbeats 8000000 in
set_option maxRecDepth 100000 in
theorem cippuslaw07_StemmaTrue.calls (k : Nat) (A0 : Option Addr) (c0 : Nat) (l0 : List Int) (r : Bool) (w : World) (hr0 : Kd.C (Kd.int .i64) w A0 l0.length l0) (hc0 : l0.length ≤ c0) (h : cippuslaw07_StemmaTrue.f k l0 = some r) :
    Calls Try.prog 11 #[.slice A0 l0.length c0] w fun e w' => e = .returned (.bool r) ∧ Below w.heap.size w w' := by
  have hu27 := Try.underlying27
  have HR0 := Aside0.mk hr0
  have HC0 := Aside0.mk hc0
  clear hr0 hc0
  have HB := Aside0.mk (Below.refl w.heap.size w)
  have H : ((cippuskit_NewUrn.f l0).bind fun bt638 => ((cippuskit_CopiesOf.f bt638.1 bt638.2 5 6 1).bind fun bt641 => ((stemma_Sources.f k bt641.1).bind fun bt651 => ((stemma_Letters.f k bt641.1).bind fun bt655 => ((stemma_Fewest.f k bt641.1).bind fun bt659 => (if bt651.2 = 0 then (if bt655.2 = 0 then (if bt659.2 = 0 then (if (bt651.1.length : Int) = (bt641.1.length : Int) then (if (bt655.1.length : Int) = (bt641.2.1.size : Int) then ((cippuslaw07_errors.f k bt641.1 bt641.2.1 bt641.2.2.1).bind fun t661 => (cippuslaw07_StemmaTrue.j0 k bt641.1 bt651.1 bt655.1 (decide (bt659.1 > t661)) bt641.2.1 bt641.2.2.1)) else (cippuslaw07_StemmaTrue.j0 k bt641.1 bt651.1 bt655.1 true bt641.2.1 bt641.2.2.1)) else (cippuslaw07_StemmaTrue.j0 k bt641.1 bt651.1 bt655.1 true bt641.2.1 bt641.2.2.1)) else (cippuslaw07_StemmaTrue.j0 k bt641.1 bt651.1 bt655.1 true bt641.2.1 bt641.2.2.1)) else (cippuslaw07_StemmaTrue.j0 k bt641.1 bt651.1 bt655.1 true bt641.2.1 bt641.2.2.1)) else (cippuslaw07_StemmaTrue.j0 k bt641.1 bt651.1 bt655.1 true bt641.2.1 bt641.2.2.1))))))) = some r := h
  clear h
  replace H := Option.bind_eq_some_iff.mp H
  obtain ⟨⟨t638, t639⟩, A20, H⟩ := H
  replace H : ((cippuskit_CopiesOf.f t638 t639 5 6 1).bind fun bt641 => ((stemma_Sources.f k bt641.1).bind fun bt651 => ((stemma_Letters.f k bt641.1).bind fun bt655 => ((stemma_Fewest.f k bt641.1).bind fun bt659 => (if bt651.2 = 0 then (if bt655.2 = 0 then (if bt659.2 = 0 then (if (bt651.1.length : Int) = (bt641.1.length : Int) then (if (bt655.1.length : Int) = (bt641.2.1.size : Int) then ((cippuslaw07_errors.f k bt641.1 bt641.2.1 bt641.2.2.1).bind fun t661 => (cippuslaw07_StemmaTrue.j0 k bt641.1 bt651.1 bt655.1 (decide (bt659.1 > t661)) bt641.2.1 bt641.2.2.1)) else (cippuslaw07_StemmaTrue.j0 k bt641.1 bt651.1 bt655.1 true bt641.2.1 bt641.2.2.1)) else (cippuslaw07_StemmaTrue.j0 k bt641.1 bt651.1 bt655.1 true bt641.2.1 bt641.2.2.1)) else (cippuslaw07_StemmaTrue.j0 k bt641.1 bt651.1 bt655.1 true bt641.2.1 bt641.2.2.1)) else (cippuslaw07_StemmaTrue.j0 k bt641.1 bt651.1 bt655.1 true bt641.2.1 bt641.2.2.1)) else (cippuslaw07_StemmaTrue.j0 k bt641.1 bt651.1 bt655.1 true bt641.2.1 bt641.2.2.1)))))) = some r := H
  have A2 := Aside0.mk A20
  clear A20
  replace H := Option.bind_eq_some_iff.mp H
  obtain ⟨⟨t641, t644, t645, t648, t649⟩, A30, H⟩ := H
  replace H : ((stemma_Sources.f k t641).bind fun bt651 => ((stemma_Letters.f k t641).bind fun bt655 => ((stemma_Fewest.f k t641).bind fun bt659 => (if bt651.2 = 0 then (if bt655.2 = 0 then (if bt659.2 = 0 then (if (bt651.1.length : Int) = (t641.length : Int) then (if (bt655.1.length : Int) = (t644.size : Int) then ((cippuslaw07_errors.f k t641 t644 t645).bind fun t661 => (cippuslaw07_StemmaTrue.j0 k t641 bt651.1 bt655.1 (decide (bt659.1 > t661)) t644 t645)) else (cippuslaw07_StemmaTrue.j0 k t641 bt651.1 bt655.1 true t644 t645)) else (cippuslaw07_StemmaTrue.j0 k t641 bt651.1 bt655.1 true t644 t645)) else (cippuslaw07_StemmaTrue.j0 k t641 bt651.1 bt655.1 true t644 t645)) else (cippuslaw07_StemmaTrue.j0 k t641 bt651.1 bt655.1 true t644 t645)) else (cippuslaw07_StemmaTrue.j0 k t641 bt651.1 bt655.1 true t644 t645))))) = some r := H
  have A3 := Aside0.mk A30
  clear A30
  replace H := Option.bind_eq_some_iff.mp H
  obtain ⟨⟨t651, t654⟩, A40, H⟩ := H
  replace H : ((stemma_Letters.f k t641).bind fun bt655 => ((stemma_Fewest.f k t641).bind fun bt659 => (if t654 = 0 then (if bt655.2 = 0 then (if bt659.2 = 0 then (if (t651.length : Int) = (t641.length : Int) then (if (bt655.1.length : Int) = (t644.size : Int) then ((cippuslaw07_errors.f k t641 t644 t645).bind fun t661 => (cippuslaw07_StemmaTrue.j0 k t641 t651 bt655.1 (decide (bt659.1 > t661)) t644 t645)) else (cippuslaw07_StemmaTrue.j0 k t641 t651 bt655.1 true t644 t645)) else (cippuslaw07_StemmaTrue.j0 k t641 t651 bt655.1 true t644 t645)) else (cippuslaw07_StemmaTrue.j0 k t641 t651 bt655.1 true t644 t645)) else (cippuslaw07_StemmaTrue.j0 k t641 t651 bt655.1 true t644 t645)) else (cippuslaw07_StemmaTrue.j0 k t641 t651 bt655.1 true t644 t645)))) = some r := H
  have A4 := Aside0.mk A40
  clear A40
  replace H := Option.bind_eq_some_iff.mp H
  obtain ⟨⟨t655, t656⟩, A50, H⟩ := H
  replace H : ((stemma_Fewest.f k t641).bind fun bt659 => (if t654 = 0 then (if t656 = 0 then (if bt659.2 = 0 then (if (t651.length : Int) = (t641.length : Int) then (if (t655.length : Int) = (t644.size : Int) then ((cippuslaw07_errors.f k t641 t644 t645).bind fun t661 => (cippuslaw07_StemmaTrue.j0 k t641 t651 t655 (decide (bt659.1 > t661)) t644 t645)) else (cippuslaw07_StemmaTrue.j0 k t641 t651 t655 true t644 t645)) else (cippuslaw07_StemmaTrue.j0 k t641 t651 t655 true t644 t645)) else (cippuslaw07_StemmaTrue.j0 k t641 t651 t655 true t644 t645)) else (cippuslaw07_StemmaTrue.j0 k t641 t651 t655 true t644 t645)) else (cippuslaw07_StemmaTrue.j0 k t641 t651 t655 true t644 t645))) = some r := H
  have A5 := Aside0.mk A50
  clear A50
  replace H := Option.bind_eq_some_iff.mp H
  obtain ⟨⟨t659, t660⟩, A60, H⟩ := H
  replace H : (if t654 = 0 then (if t656 = 0 then (if t660 = 0 then (if (t651.length : Int) = (t641.length : Int) then (if (t655.length : Int) = (t644.size : Int) then ((cippuslaw07_errors.f k t641 t644 t645).bind fun t661 => (cippuslaw07_StemmaTrue.j0 k t641 t651 t655 (decide (t659 > t661)) t644 t645)) else (cippuslaw07_StemmaTrue.j0 k t641 t651 t655 true t644 t645)) else (cippuslaw07_StemmaTrue.j0 k t641 t651 t655 true t644 t645)) else (cippuslaw07_StemmaTrue.j0 k t641 t651 t655 true t644 t645)) else (cippuslaw07_StemmaTrue.j0 k t641 t651 t655 true t644 t645)) else (cippuslaw07_StemmaTrue.j0 k t641 t651 t655 true t644 t645)) = some r := H
  have A6 := Aside0.mk A60
  clear A60
  have HC7 := Aside0.mk H
  clear H
  go_enter Try.func11, Try.ntmps11
  go_upto_region 5 with (first | (go_at_call 14; (with_reducible refine (cippuskit_NewUrn.calls _ _ l0 t638 t639 w _ ?side1 ?side2 ?side3 A2.out).mono ?_); (case side1 => repeat (first | (with_reducible first | exact HB.out | apply below_alloc | apply pw_below_drewN | apply below_drew1) | exact HB.out)); (case side2 => exact HR0.out); (case side3 => exact HC0.out); rintro e w8 ⟨g640, rfl, hi, hb, hb2⟩; have n0_ := Aside0.mk (hb); have n1_ := Aside0.mk (hi); clear HB; have HB := n0_; have HI640 := n1_; clear n0_ n1_; (try clear hb); (try clear hb2); (try clear hk); (try clear hi)) | (go_at_call 13; (with_reducible refine (cippuskit_CopiesOf.calls g640 t638 t639 5 6 1 t641 t644 t645 t648 t649 w _ ?side1 ?side2 A3.out).mono ?_); (case side1 => repeat (first | (with_reducible first | exact HI640.out | apply IsS72.alloc | apply IsS72.drewN | apply IsS72.drew | apply IsS72.set_0 | apply IsS72.set_1) | exact HI640.out)); (case side2 => repeat (first | (with_reducible first | exact HB.out | apply below_alloc | apply pw_below_drewN | apply below_drew1 | refine below_set ?_ (IsS72.ge HI640.out)) | exact HB.out)); rintro e w9 ⟨v642, v646, rfl, ho0, ho1, hi, hb, hk⟩; have n0_ := Aside0.mk (Kd.R_lower ho0 (below_size (by repeat (first | (with_reducible first | exact HB.out | apply below_alloc | apply pw_below_drewN | apply below_drew1 | refine below_set ?_ (IsS72.ge HI640.out)) | exact HB.out)))); have n1_ := Aside0.mk (Kd.R_lower ho1 (below_size (by repeat (first | (with_reducible first | exact HB.out | apply below_alloc | apply pw_below_drewN | apply below_drew1 | refine below_set ?_ (IsS72.ge HI640.out)) | exact HB.out)))); have n2_ := Aside0.mk (hb); have n3_ := Aside0.mk (hi); clear HB; clear HI640; have HO643 := n0_; have HO647 := n1_; have HB := n2_; have HI640 := n3_; clear n0_ n1_ n2_ n3_; (try clear hb); (try clear hb2); (try clear hk); (try clear hi); (try clear ho0); (try clear ho1)) | ((with_reducible refine gate_dst (N := 4) rfl ?_); (try (refine gate_guard (by rfl) ?_; dsimp only)); refine box_event ?hg (N := 4) ?hd (cs := #[.string (⟨#[]⟩ : ByteArray), .slice none 0 0]) (t := 27) ?hr ?_; (case hd => rfl); (case hg => rfl); (case hr => first | (go_simp; done) | (go_simp; rfl)); intro gb650 hg w10 hbox hb; have n0_ := Aside0.mk (Kd.R_below (by (with_reducible repeat (first | apply Kd.R_alloc | apply Kd.R_drewN | apply Kd.R_drew)); exact HO643.out) hb); have n1_ := Aside0.mk (Kd.R_below (by (with_reducible repeat (first | apply Kd.R_alloc | apply Kd.R_drewN | apply Kd.R_drew)); exact HO647.out) hb); have n2_ := Aside0.mk (IsS72.below (by repeat (first | (with_reducible first | exact HI640.out | apply IsS72.alloc | apply IsS72.drewN | apply IsS72.drew | apply IsS72.set_0 | apply IsS72.set_1) | exact HI640.out)) hb); have n3_ := Aside0.mk (below_step (by repeat (first | (with_reducible first | exact HB.out | apply below_alloc | apply pw_below_drewN | apply below_drew1 | refine below_set ?_ (IsS72.ge HI640.out)) | exact HB.out)) hb); have n4_ := Aside0.mk (hbox); have n5_ := Aside0.mk ((by rw [hg]; exact (below_size (by repeat (first | (with_reducible first | exact HB.out | apply below_alloc | apply pw_below_drewN | apply below_drew1 | refine below_set ?_ (IsS72.ge HI640.out)) | exact HB.out))) : w.heap.size ≤ gb650)); have n6_ := Aside0.mk ((by rw [hg]; exact (below_size (by repeat (first | (with_reducible first | exact HB.out | apply below_alloc | apply pw_below_drewN | apply below_drew1 | refine below_set ?_ (IsS72.ge HI640.out)) | exact HB.out))) : w.heap.size ≤ gb650)); have n7_ := Aside0.mk ((by rw [hg]; exact Nat.ne_of_lt (IsS72.lt (show IsS72 w _ g640 t648 t649 from by repeat (first | (with_reducible first | exact HI640.out | apply IsS72.alloc | apply IsS72.drewN | apply IsS72.drew | apply IsS72.set_0 | apply IsS72.set_1) | exact HI640.out))) : g640 ≠ gb650)); have n8_ := Aside0.mk ((by rw [hg]; exact Nat.ne_of_gt (IsS72.lt (show IsS72 w _ g640 t648 t649 from by repeat (first | (with_reducible first | exact HI640.out | apply IsS72.alloc | apply IsS72.drewN | apply IsS72.drew | apply IsS72.set_0 | apply IsS72.set_1) | exact HI640.out))) : gb650 ≠ g640)); clear HO643; clear HO647; clear HI640; clear HB; have HO643 := n0_; have HO647 := n1_; have HI640 := n2_; have HB := n3_; have BK650 := n4_; have GW650 := n5_; have GE650 := n6_; have NB640_650 := n7_; have NB650_640 := n8_; clear n0_ n1_ n2_ n3_ n4_ n5_ n6_ n7_ n8_; clear hb hbox hg; have hnb11 := NB650_640.out; have hnc11 := NB640_650.out; have hcz12_0 : w10.cell? ⟨gb650, 0, none⟩ = some (.string (⟨#[]⟩ : ByteArray)) := (blk_cell BK650.out 0).trans rfl; have hcz12_1 : w10.cell? ⟨gb650, 1, none⟩ = some (.slice none 0 0) := (blk_cell BK650.out 1).trans rfl; have hfz12_0 := blk_frozen BK650.out 0; have hfz12_1 := blk_frozen BK650.out 1; obtain ⟨Ao13, co13, eo13⟩ := Kd.R_slice HO647.out; subst eo13; obtain ⟨Ao14, co14, eo14⟩ := Kd.R_slice HO643.out; subst eo14) | (go_at_call 30; (with_reducible refine (stemma_Sources.calls k _ _ t641 t651 t654 _ ?side1 ?side2 A4.out).mono ?_); (case side1 => refine (Kd.R_reads' (e := 24) (base := w.heap.size) (ok := fun k_ => True) (n := t641.length) (c := co14) ?_).2.2; exact (by (with_reducible repeat (first | apply Kd.R_alloc | apply Kd.R_drewN | apply Kd.R_drew)); exact (Kd.R_mono (Kd.R_far (p := ⟨gb650, 1, none⟩) (Kd.R_far (p := ⟨gb650, 0, none⟩) (Kd.R_types HO643.out BK650.out (by decide)) (fun _ hk => hk.2) (.string t644)) (fun _ hk => hk.2) (.slice Ao13 t645.length co13)) (fun _ h_ => h_.1)))); (case side2 => exact (Kd.R_reads' HO643.out).2.1); rintro e w15 ⟨v652, rfl, ho0, hb⟩; have n0_ := Aside0.mk (Kd.R_below (by (with_reducible repeat (first | apply Kd.R_alloc | apply Kd.R_drewN | apply Kd.R_drew)); exact (Kd.R_mono (Kd.R_far (p := ⟨gb650, 1, none⟩) (Kd.R_far (p := ⟨gb650, 0, none⟩) (Kd.R_types HO643.out BK650.out (by decide)) (fun _ hk => hk.2) (.string t644)) (fun _ hk => hk.2) (.slice Ao13 t645.length co13)) (fun _ h_ => h_.1))) hb); have n1_ := Aside0.mk (Kd.R_below (by (with_reducible repeat (first | apply Kd.R_alloc | apply Kd.R_drewN | apply Kd.R_drew)); exact (Kd.R_mono (Kd.R_far (p := ⟨gb650, 1, none⟩) (Kd.R_far (p := ⟨gb650, 0, none⟩) (Kd.R_types HO647.out BK650.out (by decide)) (fun _ hk => hk.2) (.string t644)) (fun _ hk => hk.2) (.slice Ao13 t645.length co13)) (fun _ h_ => h_.1))) hb); have n2_ := Aside0.mk (Kd.N_lower (Kd.N_mono (ok' := fun k_ => some k_ ≠ (.slice Ao14 t641.length co14 : Value).ownBlock ∧ some k_ ≠ (.slice Ao13 t645.length co13 : Value).ownBlock ∧ k_ ≠ gb650 ∧ k_ ≠ g640) ho0 (fun k_ hk_ => ⟨(Kd.fresh' (Kd.R_lt (by (with_reducible repeat (first | apply Kd.R_alloc | apply Kd.R_drewN | apply Kd.R_drew)); exact (Kd.R_mono (Kd.R_far (p := ⟨gb650, 1, none⟩) (Kd.R_far (p := ⟨gb650, 0, none⟩) (Kd.R_types HO643.out BK650.out (by decide)) (fun _ hk => hk.2) (.string t644)) (fun _ hk => hk.2) (.slice Ao13 t645.length co13)) (fun _ h_ => h_.1)))) k_ hk_), (Kd.fresh' (Kd.R_lt (by (with_reducible repeat (first | apply Kd.R_alloc | apply Kd.R_drewN | apply Kd.R_drew)); exact (Kd.R_mono (Kd.R_far (p := ⟨gb650, 1, none⟩) (Kd.R_far (p := ⟨gb650, 0, none⟩) (Kd.R_types HO647.out BK650.out (by decide)) (fun _ hk => hk.2) (.string t644)) (fun _ hk => hk.2) (.slice Ao13 t645.length co13)) (fun _ h_ => h_.1)))) k_ hk_), (Kd.freshB (g := gb650) (o := .cells #[.string t644, .slice Ao13 t645.length co13] 27 (0, 0)) (by (with_reducible repeat (first | refine blk_drewN ?_ _ | refine blk_drew ?_ | refine blk_alloc ?_ _)); refine blk_put (cs := #[.string t644, .slice none 0 0]) ?_ 1 _ rfl; (with_reducible repeat (first | refine blk_drewN ?_ _ | refine blk_drew ?_ | refine blk_alloc ?_ _)); refine blk_put (cs := #[.string (⟨#[]⟩ : ByteArray), .slice none 0 0]) ?_ 0 _ rfl; (with_reducible repeat (first | refine blk_drewN ?_ _ | refine blk_drew ?_ | refine blk_alloc ?_ _)); exact BK650.out) k_ hk_), (IsS72.fresh (by repeat (first | (with_reducible first | exact HI640.out | apply IsS72.alloc | apply IsS72.drewN | apply IsS72.drew | apply IsS72.set_0 | apply IsS72.set_1 | refine IsS72.far ?_ NB640_650.out _) | exact HI640.out)) k_ hk_)⟩)) (below_size (by repeat (first | (with_reducible first | exact HB.out | apply below_alloc | apply pw_below_drewN | apply below_drew1 | refine below_set ?_ (IsS72.ge HI640.out) | refine below_set ?_ GE650.out) | exact HB.out)))); have n3_ := Aside0.mk (IsS72.below (show IsS72 w ((w10.setCell ⟨gb650, 0, none⟩ (.string t644)).setCell ⟨gb650, 1, none⟩ (.slice Ao13 t645.length co13)) g640 t648 t649 from by repeat (first | (with_reducible first | exact HI640.out | apply IsS72.alloc | apply IsS72.drewN | apply IsS72.drew | apply IsS72.set_0 | apply IsS72.set_1 | refine IsS72.far ?_ NB640_650.out _) | exact HI640.out)) hb); have n4_ := Aside0.mk (blk_below (g := gb650) (o := .cells #[.string t644, .slice Ao13 t645.length co13] 27 (0, 0)) (by (with_reducible repeat (first | refine blk_drewN ?_ _ | refine blk_drew ?_ | refine blk_alloc ?_ _)); refine blk_put (cs := #[.string t644, .slice none 0 0]) ?_ 1 _ rfl; (with_reducible repeat (first | refine blk_drewN ?_ _ | refine blk_drew ?_ | refine blk_alloc ?_ _)); refine blk_put (cs := #[.string (⟨#[]⟩ : ByteArray), .slice none 0 0]) ?_ 0 _ rfl; (with_reducible repeat (first | refine blk_drewN ?_ _ | refine blk_drew ?_ | refine blk_alloc ?_ _)); exact BK650.out) hb); have n5_ := Aside0.mk (below_step (by repeat (first | (with_reducible first | exact HB.out | apply below_alloc | apply pw_below_drewN | apply below_drew1 | refine below_set ?_ (IsS72.ge HI640.out) | refine below_set ?_ GE650.out) | exact HB.out)) hb); clear HO643; clear HO647; clear HI640; clear BK650; clear HB; have HO643 := n0_; have HO647 := n1_; have HO653 := n2_; have HI640 := n3_; have BK650 := n4_; have HB := n5_; clear n0_ n1_ n2_ n3_ n4_ n5_; (try clear hb); (try clear hb2); (try clear hk); (try clear hi); (try clear ho0)) | (go_at_call 18; (with_reducible refine (stemma_Letters.calls k _ _ t641 t655 t656 _ ?side1 ?side2 A5.out).mono ?_); (case side1 => repeat (first | exact (Kd.R_reads' HO643.out).2.2 | (with_reducible refine Kd.C_alloc ?_ _) | (with_reducible refine Kd.C_drewN ?_ _) | (with_reducible refine Kd.C_drew ?_))); (case side2 => exact (Kd.R_reads' HO643.out).2.1); rintro e w16 ⟨v657, rfl, ho0, hb⟩; have n0_ := Aside0.mk (Kd.R_below (by (with_reducible repeat (first | apply Kd.R_alloc | apply Kd.R_drewN | apply Kd.R_drew)); exact HO643.out) hb); have n1_ := Aside0.mk (Kd.R_below (by (with_reducible repeat (first | apply Kd.R_alloc | apply Kd.R_drewN | apply Kd.R_drew)); exact HO647.out) hb); have n2_ := Aside0.mk (Kd.N_elder' (by (with_reducible repeat (first | apply Kd.N_alloc | apply Kd.N_drewN | apply Kd.N_drew)); exact HO653.out) (Kd.R_base ho0) hb); have n3_ := Aside0.mk (Kd.R_lower ho0 (below_size (by repeat (first | (with_reducible first | exact HB.out | apply below_alloc | apply pw_below_drewN | apply below_drew1 | refine below_set ?_ (IsS72.ge HI640.out) | refine below_set ?_ GE650.out) | exact HB.out)))); have n4_ := Aside0.mk (IsS72.below (by repeat (first | (with_reducible first | exact HI640.out | apply IsS72.alloc | apply IsS72.drewN | apply IsS72.drew | apply IsS72.set_0 | apply IsS72.set_1 | refine IsS72.far ?_ NB640_650.out _) | exact HI640.out)) hb); have n5_ := Aside0.mk (blk_below (g := gb650) (o := .cells #[.string t644, .slice Ao13 t645.length co13] 27 (0, 0)) (by (with_reducible repeat (first | refine blk_drewN ?_ _ | refine blk_drew ?_ | refine blk_alloc ?_ _)); exact BK650.out) hb); have n6_ := Aside0.mk (below_step (by repeat (first | (with_reducible first | exact HB.out | apply below_alloc | apply pw_below_drewN | apply below_drew1 | refine below_set ?_ (IsS72.ge HI640.out) | refine below_set ?_ GE650.out) | exact HB.out)) hb); clear HO643; clear HO647; clear HO653; clear HI640; clear BK650; clear HB; have HO643 := n0_; have HO647 := n1_; have HO653 := n2_; have HO658 := n3_; have HI640 := n4_; have BK650 := n5_; have HB := n6_; clear n0_ n1_ n2_ n3_ n4_ n5_ n6_; (try clear hb); (try clear hb2); (try clear hk); (try clear hi); (try clear ho0)) | (go_at_call 24; (with_reducible refine (stemma_Fewest.calls k _ _ t641 t659 t660 _ ?side1 ?side2 A6.out).mono ?_); (case side1 => repeat (first | exact (Kd.R_reads' HO643.out).2.2 | (with_reducible refine Kd.C_alloc ?_ _) | (with_reducible refine Kd.C_drewN ?_ _) | (with_reducible refine Kd.C_drew ?_))); (case side2 => exact (Kd.R_reads' HO643.out).2.1); rintro e w17 ⟨rfl, hb⟩; have n0_ := Aside0.mk (Kd.R_below (by (with_reducible repeat (first | apply Kd.R_alloc | apply Kd.R_drewN | apply Kd.R_drew)); exact HO643.out) hb); have n1_ := Aside0.mk (Kd.R_below (by (with_reducible repeat (first | apply Kd.R_alloc | apply Kd.R_drewN | apply Kd.R_drew)); exact HO647.out) hb); have n2_ := Aside0.mk (Kd.N_below (by (with_reducible repeat (first | apply Kd.N_alloc | apply Kd.N_drewN | apply Kd.N_drew)); exact HO653.out) hb); have n3_ := Aside0.mk (Kd.R_below (by (with_reducible repeat (first | apply Kd.R_alloc | apply Kd.R_drewN | apply Kd.R_drew)); exact HO658.out) hb); have n4_ := Aside0.mk (IsS72.below (by repeat (first | (with_reducible first | exact HI640.out | apply IsS72.alloc | apply IsS72.drewN | apply IsS72.drew | apply IsS72.set_0 | apply IsS72.set_1 | refine IsS72.far ?_ NB640_650.out _) | exact HI640.out)) hb); have n5_ := Aside0.mk (blk_below (g := gb650) (o := .cells #[.string t644, .slice Ao13 t645.length co13] 27 (0, 0)) (by (with_reducible repeat (first | refine blk_drewN ?_ _ | refine blk_drew ?_ | refine blk_alloc ?_ _)); exact BK650.out) hb); have n6_ := Aside0.mk (below_step (by repeat (first | (with_reducible first | exact HB.out | apply below_alloc | apply pw_below_drewN | apply below_drew1 | refine below_set ?_ (IsS72.ge HI640.out) | refine below_set ?_ GE650.out) | exact HB.out)) hb); clear HO643; clear HO647; clear HO653; clear HO658; clear HI640; clear BK650; clear HB; have HO643 := n0_; have HO647 := n1_; have HO653 := n2_; have HO658 := n3_; have HI640 := n4_; have BK650 := n5_; have HB := n6_; clear n0_ n1_ n2_ n3_ n4_ n5_ n6_; (try clear hb); (try clear hb2); (try clear hk); (try clear hi)))
  repeat (go_quiet (first | (go_at_call 14; (with_reducible refine (cippuskit_NewUrn.calls _ _ l0 t638 t639 w _ ?side1 ?side2 ?side3 A2.out).mono ?_); (case side1 => repeat (first | (with_reducible first | exact HB.out | apply below_alloc | apply pw_below_drewN | apply below_drew1) | exact HB.out)); (case side2 => exact HR0.out); (case side3 => exact HC0.out); rintro e w8 ⟨g640, rfl, hi, hb, hb2⟩; have n0_ := Aside0.mk (hb); have n1_ := Aside0.mk (hi); clear HB; have HB := n0_; have HI640 := n1_; clear n0_ n1_; (try clear hb); (try clear hb2); (try clear hk); (try clear hi)) | (go_at_call 13; (with_reducible refine (cippuskit_CopiesOf.calls g640 t638 t639 5 6 1 t641 t644 t645 t648 t649 w _ ?side1 ?side2 A3.out).mono ?_); (case side1 => repeat (first | (with_reducible first | exact HI640.out | apply IsS72.alloc | apply IsS72.drewN | apply IsS72.drew | apply IsS72.set_0 | apply IsS72.set_1) | exact HI640.out)); (case side2 => repeat (first | (with_reducible first | exact HB.out | apply below_alloc | apply pw_below_drewN | apply below_drew1 | refine below_set ?_ (IsS72.ge HI640.out)) | exact HB.out)); rintro e w9 ⟨v642, v646, rfl, ho0, ho1, hi, hb, hk⟩; have n0_ := Aside0.mk (Kd.R_lower ho0 (below_size (by repeat (first | (with_reducible first | exact HB.out | apply below_alloc | apply pw_below_drewN | apply below_drew1 | refine below_set ?_ (IsS72.ge HI640.out)) | exact HB.out)))); have n1_ := Aside0.mk (Kd.R_lower ho1 (below_size (by repeat (first | (with_reducible first | exact HB.out | apply below_alloc | apply pw_below_drewN | apply below_drew1 | refine below_set ?_ (IsS72.ge HI640.out)) | exact HB.out)))); have n2_ := Aside0.mk (hb); have n3_ := Aside0.mk (hi); clear HB; clear HI640; have HO643 := n0_; have HO647 := n1_; have HB := n2_; have HI640 := n3_; clear n0_ n1_ n2_ n3_; (try clear hb); (try clear hb2); (try clear hk); (try clear hi); (try clear ho0); (try clear ho1)) | ((with_reducible refine gate_dst (N := 4) rfl ?_); (try (refine gate_guard (by rfl) ?_; dsimp only)); refine box_event ?hg (N := 4) ?hd (cs := #[.string (⟨#[]⟩ : ByteArray), .slice none 0 0]) (t := 27) ?hr ?_; (case hd => rfl); (case hg => rfl); (case hr => first | (go_simp; done) | (go_simp; rfl)); intro gb650 hg w10 hbox hb; have n0_ := Aside0.mk (Kd.R_below (by (with_reducible repeat (first | apply Kd.R_alloc | apply Kd.R_drewN | apply Kd.R_drew)); exact HO643.out) hb); have n1_ := Aside0.mk (Kd.R_below (by (with_reducible repeat (first | apply Kd.R_alloc | apply Kd.R_drewN | apply Kd.R_drew)); exact HO647.out) hb); have n2_ := Aside0.mk (IsS72.below (by repeat (first | (with_reducible first | exact HI640.out | apply IsS72.alloc | apply IsS72.drewN | apply IsS72.drew | apply IsS72.set_0 | apply IsS72.set_1) | exact HI640.out)) hb); have n3_ := Aside0.mk (below_step (by repeat (first | (with_reducible first | exact HB.out | apply below_alloc | apply pw_below_drewN | apply below_drew1 | refine below_set ?_ (IsS72.ge HI640.out)) | exact HB.out)) hb); have n4_ := Aside0.mk (hbox); have n5_ := Aside0.mk ((by rw [hg]; exact (below_size (by repeat (first | (with_reducible first | exact HB.out | apply below_alloc | apply pw_below_drewN | apply below_drew1 | refine below_set ?_ (IsS72.ge HI640.out)) | exact HB.out))) : w.heap.size ≤ gb650)); have n6_ := Aside0.mk ((by rw [hg]; exact (below_size (by repeat (first | (with_reducible first | exact HB.out | apply below_alloc | apply pw_below_drewN | apply below_drew1 | refine below_set ?_ (IsS72.ge HI640.out)) | exact HB.out))) : w.heap.size ≤ gb650)); have n7_ := Aside0.mk ((by rw [hg]; exact Nat.ne_of_lt (IsS72.lt (show IsS72 w _ g640 t648 t649 from by repeat (first | (with_reducible first | exact HI640.out | apply IsS72.alloc | apply IsS72.drewN | apply IsS72.drew | apply IsS72.set_0 | apply IsS72.set_1) | exact HI640.out))) : g640 ≠ gb650)); have n8_ := Aside0.mk ((by rw [hg]; exact Nat.ne_of_gt (IsS72.lt (show IsS72 w _ g640 t648 t649 from by repeat (first | (with_reducible first | exact HI640.out | apply IsS72.alloc | apply IsS72.drewN | apply IsS72.drew | apply IsS72.set_0 | apply IsS72.set_1) | exact HI640.out))) : gb650 ≠ g640)); clear HO643; clear HO647; clear HI640; clear HB; have HO643 := n0_; have HO647 := n1_; have HI640 := n2_; have HB := n3_; have BK650 := n4_; have GW650 := n5_; have GE650 := n6_; have NB640_650 := n7_; have NB650_640 := n8_; clear n0_ n1_ n2_ n3_ n4_ n5_ n6_ n7_ n8_; clear hb hbox hg; have hnb11 := NB650_640.out; have hnc11 := NB640_650.out; have hcz12_0 : w10.cell? ⟨gb650, 0, none⟩ = some (.string (⟨#[]⟩ : ByteArray)) := (blk_cell BK650.out 0).trans rfl; have hcz12_1 : w10.cell? ⟨gb650, 1, none⟩ = some (.slice none 0 0) := (blk_cell BK650.out 1).trans rfl; have hfz12_0 := blk_frozen BK650.out 0; have hfz12_1 := blk_frozen BK650.out 1; obtain ⟨Ao13, co13, eo13⟩ := Kd.R_slice HO647.out; subst eo13; obtain ⟨Ao14, co14, eo14⟩ := Kd.R_slice HO643.out; subst eo14) | (go_at_call 30; (with_reducible refine (stemma_Sources.calls k _ _ t641 t651 t654 _ ?side1 ?side2 A4.out).mono ?_); (case side1 => refine (Kd.R_reads' (e := 24) (base := w.heap.size) (ok := fun k_ => True) (n := t641.length) (c := co14) ?_).2.2; exact (by (with_reducible repeat (first | apply Kd.R_alloc | apply Kd.R_drewN | apply Kd.R_drew)); exact (Kd.R_mono (Kd.R_far (p := ⟨gb650, 1, none⟩) (Kd.R_far (p := ⟨gb650, 0, none⟩) (Kd.R_types HO643.out BK650.out (by decide)) (fun _ hk => hk.2) (.string t644)) (fun _ hk => hk.2) (.slice Ao13 t645.length co13)) (fun _ h_ => h_.1)))); (case side2 => exact (Kd.R_reads' HO643.out).2.1); rintro e w15 ⟨v652, rfl, ho0, hb⟩; have n0_ := Aside0.mk (Kd.R_below (by (with_reducible repeat (first | apply Kd.R_alloc | apply Kd.R_drewN | apply Kd.R_drew)); exact (Kd.R_mono (Kd.R_far (p := ⟨gb650, 1, none⟩) (Kd.R_far (p := ⟨gb650, 0, none⟩) (Kd.R_types HO643.out BK650.out (by decide)) (fun _ hk => hk.2) (.string t644)) (fun _ hk => hk.2) (.slice Ao13 t645.length co13)) (fun _ h_ => h_.1))) hb); have n1_ := Aside0.mk (Kd.R_below (by (with_reducible repeat (first | apply Kd.R_alloc | apply Kd.R_drewN | apply Kd.R_drew)); exact (Kd.R_mono (Kd.R_far (p := ⟨gb650, 1, none⟩) (Kd.R_far (p := ⟨gb650, 0, none⟩) (Kd.R_types HO647.out BK650.out (by decide)) (fun _ hk => hk.2) (.string t644)) (fun _ hk => hk.2) (.slice Ao13 t645.length co13)) (fun _ h_ => h_.1))) hb); have n2_ := Aside0.mk (Kd.N_lower (Kd.N_mono (ok' := fun k_ => some k_ ≠ (.slice Ao14 t641.length co14 : Value).ownBlock ∧ some k_ ≠ (.slice Ao13 t645.length co13 : Value).ownBlock ∧ k_ ≠ gb650 ∧ k_ ≠ g640) ho0 (fun k_ hk_ => ⟨(Kd.fresh' (Kd.R_lt (by (with_reducible repeat (first | apply Kd.R_alloc | apply Kd.R_drewN | apply Kd.R_drew)); exact (Kd.R_mono (Kd.R_far (p := ⟨gb650, 1, none⟩) (Kd.R_far (p := ⟨gb650, 0, none⟩) (Kd.R_types HO643.out BK650.out (by decide)) (fun _ hk => hk.2) (.string t644)) (fun _ hk => hk.2) (.slice Ao13 t645.length co13)) (fun _ h_ => h_.1)))) k_ hk_), (Kd.fresh' (Kd.R_lt (by (with_reducible repeat (first | apply Kd.R_alloc | apply Kd.R_drewN | apply Kd.R_drew)); exact (Kd.R_mono (Kd.R_far (p := ⟨gb650, 1, none⟩) (Kd.R_far (p := ⟨gb650, 0, none⟩) (Kd.R_types HO647.out BK650.out (by decide)) (fun _ hk => hk.2) (.string t644)) (fun _ hk => hk.2) (.slice Ao13 t645.length co13)) (fun _ h_ => h_.1)))) k_ hk_), (Kd.freshB (g := gb650) (o := .cells #[.string t644, .slice Ao13 t645.length co13] 27 (0, 0)) (by (with_reducible repeat (first | refine blk_drewN ?_ _ | refine blk_drew ?_ | refine blk_alloc ?_ _)); refine blk_put (cs := #[.string t644, .slice none 0 0]) ?_ 1 _ rfl; (with_reducible repeat (first | refine blk_drewN ?_ _ | refine blk_drew ?_ | refine blk_alloc ?_ _)); refine blk_put (cs := #[.string (⟨#[]⟩ : ByteArray), .slice none 0 0]) ?_ 0 _ rfl; (with_reducible repeat (first | refine blk_drewN ?_ _ | refine blk_drew ?_ | refine blk_alloc ?_ _)); exact BK650.out) k_ hk_), (IsS72.fresh (by repeat (first | (with_reducible first | exact HI640.out | apply IsS72.alloc | apply IsS72.drewN | apply IsS72.drew | apply IsS72.set_0 | apply IsS72.set_1 | refine IsS72.far ?_ NB640_650.out _) | exact HI640.out)) k_ hk_)⟩)) (below_size (by repeat (first | (with_reducible first | exact HB.out | apply below_alloc | apply pw_below_drewN | apply below_drew1 | refine below_set ?_ (IsS72.ge HI640.out) | refine below_set ?_ GE650.out) | exact HB.out)))); have n3_ := Aside0.mk (IsS72.below (show IsS72 w ((w10.setCell ⟨gb650, 0, none⟩ (.string t644)).setCell ⟨gb650, 1, none⟩ (.slice Ao13 t645.length co13)) g640 t648 t649 from by repeat (first | (with_reducible first | exact HI640.out | apply IsS72.alloc | apply IsS72.drewN | apply IsS72.drew | apply IsS72.set_0 | apply IsS72.set_1 | refine IsS72.far ?_ NB640_650.out _) | exact HI640.out)) hb); have n4_ := Aside0.mk (blk_below (g := gb650) (o := .cells #[.string t644, .slice Ao13 t645.length co13] 27 (0, 0)) (by (with_reducible repeat (first | refine blk_drewN ?_ _ | refine blk_drew ?_ | refine blk_alloc ?_ _)); refine blk_put (cs := #[.string t644, .slice none 0 0]) ?_ 1 _ rfl; (with_reducible repeat (first | refine blk_drewN ?_ _ | refine blk_drew ?_ | refine blk_alloc ?_ _)); refine blk_put (cs := #[.string (⟨#[]⟩ : ByteArray), .slice none 0 0]) ?_ 0 _ rfl; (with_reducible repeat (first | refine blk_drewN ?_ _ | refine blk_drew ?_ | refine blk_alloc ?_ _)); exact BK650.out) hb); have n5_ := Aside0.mk (below_step (by repeat (first | (with_reducible first | exact HB.out | apply below_alloc | apply pw_below_drewN | apply below_drew1 | refine below_set ?_ (IsS72.ge HI640.out) | refine below_set ?_ GE650.out) | exact HB.out)) hb); clear HO643; clear HO647; clear HI640; clear BK650; clear HB; have HO643 := n0_; have HO647 := n1_; have HO653 := n2_; have HI640 := n3_; have BK650 := n4_; have HB := n5_; clear n0_ n1_ n2_ n3_ n4_ n5_; (try clear hb); (try clear hb2); (try clear hk); (try clear hi); (try clear ho0)) | (go_at_call 18; (with_reducible refine (stemma_Letters.calls k _ _ t641 t655 t656 _ ?side1 ?side2 A5.out).mono ?_); (case side1 => repeat (first | exact (Kd.R_reads' HO643.out).2.2 | (with_reducible refine Kd.C_alloc ?_ _) | (with_reducible refine Kd.C_drewN ?_ _) | (with_reducible refine Kd.C_drew ?_))); (case side2 => exact (Kd.R_reads' HO643.out).2.1); rintro e w16 ⟨v657, rfl, ho0, hb⟩; have n0_ := Aside0.mk (Kd.R_below (by (with_reducible repeat (first | apply Kd.R_alloc | apply Kd.R_drewN | apply Kd.R_drew)); exact HO643.out) hb); have n1_ := Aside0.mk (Kd.R_below (by (with_reducible repeat (first | apply Kd.R_alloc | apply Kd.R_drewN | apply Kd.R_drew)); exact HO647.out) hb); have n2_ := Aside0.mk (Kd.N_elder' (by (with_reducible repeat (first | apply Kd.N_alloc | apply Kd.N_drewN | apply Kd.N_drew)); exact HO653.out) (Kd.R_base ho0) hb); have n3_ := Aside0.mk (Kd.R_lower ho0 (below_size (by repeat (first | (with_reducible first | exact HB.out | apply below_alloc | apply pw_below_drewN | apply below_drew1 | refine below_set ?_ (IsS72.ge HI640.out) | refine below_set ?_ GE650.out) | exact HB.out)))); have n4_ := Aside0.mk (IsS72.below (by repeat (first | (with_reducible first | exact HI640.out | apply IsS72.alloc | apply IsS72.drewN | apply IsS72.drew | apply IsS72.set_0 | apply IsS72.set_1 | refine IsS72.far ?_ NB640_650.out _) | exact HI640.out)) hb); have n5_ := Aside0.mk (blk_below (g := gb650) (o := .cells #[.string t644, .slice Ao13 t645.length co13] 27 (0, 0)) (by (with_reducible repeat (first | refine blk_drewN ?_ _ | refine blk_drew ?_ | refine blk_alloc ?_ _)); exact BK650.out) hb); have n6_ := Aside0.mk (below_step (by repeat (first | (with_reducible first | exact HB.out | apply below_alloc | apply pw_below_drewN | apply below_drew1 | refine below_set ?_ (IsS72.ge HI640.out) | refine below_set ?_ GE650.out) | exact HB.out)) hb); clear HO643; clear HO647; clear HO653; clear HI640; clear BK650; clear HB; have HO643 := n0_; have HO647 := n1_; have HO653 := n2_; have HO658 := n3_; have HI640 := n4_; have BK650 := n5_; have HB := n6_; clear n0_ n1_ n2_ n3_ n4_ n5_ n6_; (try clear hb); (try clear hb2); (try clear hk); (try clear hi); (try clear ho0)) | (go_at_call 24; (with_reducible refine (stemma_Fewest.calls k _ _ t641 t659 t660 _ ?side1 ?side2 A6.out).mono ?_); (case side1 => repeat (first | exact (Kd.R_reads' HO643.out).2.2 | (with_reducible refine Kd.C_alloc ?_ _) | (with_reducible refine Kd.C_drewN ?_ _) | (with_reducible refine Kd.C_drew ?_))); (case side2 => exact (Kd.R_reads' HO643.out).2.1); rintro e w17 ⟨rfl, hb⟩; have n0_ := Aside0.mk (Kd.R_below (by (with_reducible repeat (first | apply Kd.R_alloc | apply Kd.R_drewN | apply Kd.R_drew)); exact HO643.out) hb); have n1_ := Aside0.mk (Kd.R_below (by (with_reducible repeat (first | apply Kd.R_alloc | apply Kd.R_drewN | apply Kd.R_drew)); exact HO647.out) hb); have n2_ := Aside0.mk (Kd.N_below (by (with_reducible repeat (first | apply Kd.N_alloc | apply Kd.N_drewN | apply Kd.N_drew)); exact HO653.out) hb); have n3_ := Aside0.mk (Kd.R_below (by (with_reducible repeat (first | apply Kd.R_alloc | apply Kd.R_drewN | apply Kd.R_drew)); exact HO658.out) hb); have n4_ := Aside0.mk (IsS72.below (by repeat (first | (with_reducible first | exact HI640.out | apply IsS72.alloc | apply IsS72.drewN | apply IsS72.drew | apply IsS72.set_0 | apply IsS72.set_1 | refine IsS72.far ?_ NB640_650.out _) | exact HI640.out)) hb); have n5_ := Aside0.mk (blk_below (g := gb650) (o := .cells #[.string t644, .slice Ao13 t645.length co13] 27 (0, 0)) (by (with_reducible repeat (first | refine blk_drewN ?_ _ | refine blk_drew ?_ | refine blk_alloc ?_ _)); exact BK650.out) hb); have n6_ := Aside0.mk (below_step (by repeat (first | (with_reducible first | exact HB.out | apply below_alloc | apply pw_below_drewN | apply below_drew1 | refine below_set ?_ (IsS72.ge HI640.out) | refine below_set ?_ GE650.out) | exact HB.out)) hb); clear HO643; clear HO647; clear HO653; clear HO658; clear HI640; clear BK650; clear HB; have HO643 := n0_; have HO647 := n1_; have HO653 := n2_; have HO658 := n3_; have HI640 := n4_; have BK650 := n5_; have HB := n6_; clear n0_ n1_ n2_ n3_ n4_ n5_ n6_; (try clear hb); (try clear hb2); (try clear hk); (try clear hi))); go_upto_region 5 with (first | (go_at_call 14; (with_reducible refine (cippuskit_NewUrn.calls _ _ l0 t638 t639 w _ ?side1 ?side2 ?side3 A2.out).mono ?_); (case side1 => repeat (first | (with_reducible first | exact HB.out | apply below_alloc | apply pw_below_drewN | apply below_drew1) | exact HB.out)); (case side2 => exact HR0.out); (case side3 => exact HC0.out); rintro e w8 ⟨g640, rfl, hi, hb, hb2⟩; have n0_ := Aside0.mk (hb); have n1_ := Aside0.mk (hi); clear HB; have HB := n0_; have HI640 := n1_; clear n0_ n1_; (try clear hb); (try clear hb2); (try clear hk); (try clear hi)) | (go_at_call 13; (with_reducible refine (cippuskit_CopiesOf.calls g640 t638 t639 5 6 1 t641 t644 t645 t648 t649 w _ ?side1 ?side2 A3.out).mono ?_); (case side1 => repeat (first | (with_reducible first | exact HI640.out | apply IsS72.alloc | apply IsS72.drewN | apply IsS72.drew | apply IsS72.set_0 | apply IsS72.set_1) | exact HI640.out)); (case side2 => repeat (first | (with_reducible first | exact HB.out | apply below_alloc | apply pw_below_drewN | apply below_drew1 | refine below_set ?_ (IsS72.ge HI640.out)) | exact HB.out)); rintro e w9 ⟨v642, v646, rfl, ho0, ho1, hi, hb, hk⟩; have n0_ := Aside0.mk (Kd.R_lower ho0 (below_size (by repeat (first | (with_reducible first | exact HB.out | apply below_alloc | apply pw_below_drewN | apply below_drew1 | refine below_set ?_ (IsS72.ge HI640.out)) | exact HB.out)))); have n1_ := Aside0.mk (Kd.R_lower ho1 (below_size (by repeat (first | (with_reducible first | exact HB.out | apply below_alloc | apply pw_below_drewN | apply below_drew1 | refine below_set ?_ (IsS72.ge HI640.out)) | exact HB.out)))); have n2_ := Aside0.mk (hb); have n3_ := Aside0.mk (hi); clear HB; clear HI640; have HO643 := n0_; have HO647 := n1_; have HB := n2_; have HI640 := n3_; clear n0_ n1_ n2_ n3_; (try clear hb); (try clear hb2); (try clear hk); (try clear hi); (try clear ho0); (try clear ho1)) | ((with_reducible refine gate_dst (N := 4) rfl ?_); (try (refine gate_guard (by rfl) ?_; dsimp only)); refine box_event ?hg (N := 4) ?hd (cs := #[.string (⟨#[]⟩ : ByteArray), .slice none 0 0]) (t := 27) ?hr ?_; (case hd => rfl); (case hg => rfl); (case hr => first | (go_simp; done) | (go_simp; rfl)); intro gb650 hg w10 hbox hb; have n0_ := Aside0.mk (Kd.R_below (by (with_reducible repeat (first | apply Kd.R_alloc | apply Kd.R_drewN | apply Kd.R_drew)); exact HO643.out) hb); have n1_ := Aside0.mk (Kd.R_below (by (with_reducible repeat (first | apply Kd.R_alloc | apply Kd.R_drewN | apply Kd.R_drew)); exact HO647.out) hb); have n2_ := Aside0.mk (IsS72.below (by repeat (first | (with_reducible first | exact HI640.out | apply IsS72.alloc | apply IsS72.drewN | apply IsS72.drew | apply IsS72.set_0 | apply IsS72.set_1) | exact HI640.out)) hb); have n3_ := Aside0.mk (below_step (by repeat (first | (with_reducible first | exact HB.out | apply below_alloc | apply pw_below_drewN | apply below_drew1 | refine below_set ?_ (IsS72.ge HI640.out)) | exact HB.out)) hb); have n4_ := Aside0.mk (hbox); have n5_ := Aside0.mk ((by rw [hg]; exact (below_size (by repeat (first | (with_reducible first | exact HB.out | apply below_alloc | apply pw_below_drewN | apply below_drew1 | refine below_set ?_ (IsS72.ge HI640.out)) | exact HB.out))) : w.heap.size ≤ gb650)); have n6_ := Aside0.mk ((by rw [hg]; exact (below_size (by repeat (first | (with_reducible first | exact HB.out | apply below_alloc | apply pw_below_drewN | apply below_drew1 | refine below_set ?_ (IsS72.ge HI640.out)) | exact HB.out))) : w.heap.size ≤ gb650)); have n7_ := Aside0.mk ((by rw [hg]; exact Nat.ne_of_lt (IsS72.lt (show IsS72 w _ g640 t648 t649 from by repeat (first | (with_reducible first | exact HI640.out | apply IsS72.alloc | apply IsS72.drewN | apply IsS72.drew | apply IsS72.set_0 | apply IsS72.set_1) | exact HI640.out))) : g640 ≠ gb650)); have n8_ := Aside0.mk ((by rw [hg]; exact Nat.ne_of_gt (IsS72.lt (show IsS72 w _ g640 t648 t649 from by repeat (first | (with_reducible first | exact HI640.out | apply IsS72.alloc | apply IsS72.drewN | apply IsS72.drew | apply IsS72.set_0 | apply IsS72.set_1) | exact HI640.out))) : gb650 ≠ g640)); clear HO643; clear HO647; clear HI640; clear HB; have HO643 := n0_; have HO647 := n1_; have HI640 := n2_; have HB := n3_; have BK650 := n4_; have GW650 := n5_; have GE650 := n6_; have NB640_650 := n7_; have NB650_640 := n8_; clear n0_ n1_ n2_ n3_ n4_ n5_ n6_ n7_ n8_; clear hb hbox hg; have hnb11 := NB650_640.out; have hnc11 := NB640_650.out; have hcz12_0 : w10.cell? ⟨gb650, 0, none⟩ = some (.string (⟨#[]⟩ : ByteArray)) := (blk_cell BK650.out 0).trans rfl; have hcz12_1 : w10.cell? ⟨gb650, 1, none⟩ = some (.slice none 0 0) := (blk_cell BK650.out 1).trans rfl; have hfz12_0 := blk_frozen BK650.out 0; have hfz12_1 := blk_frozen BK650.out 1; obtain ⟨Ao13, co13, eo13⟩ := Kd.R_slice HO647.out; subst eo13; obtain ⟨Ao14, co14, eo14⟩ := Kd.R_slice HO643.out; subst eo14) | (go_at_call 30; (with_reducible refine (stemma_Sources.calls k _ _ t641 t651 t654 _ ?side1 ?side2 A4.out).mono ?_); (case side1 => refine (Kd.R_reads' (e := 24) (base := w.heap.size) (ok := fun k_ => True) (n := t641.length) (c := co14) ?_).2.2; exact (by (with_reducible repeat (first | apply Kd.R_alloc | apply Kd.R_drewN | apply Kd.R_drew)); exact (Kd.R_mono (Kd.R_far (p := ⟨gb650, 1, none⟩) (Kd.R_far (p := ⟨gb650, 0, none⟩) (Kd.R_types HO643.out BK650.out (by decide)) (fun _ hk => hk.2) (.string t644)) (fun _ hk => hk.2) (.slice Ao13 t645.length co13)) (fun _ h_ => h_.1)))); (case side2 => exact (Kd.R_reads' HO643.out).2.1); rintro e w15 ⟨v652, rfl, ho0, hb⟩; have n0_ := Aside0.mk (Kd.R_below (by (with_reducible repeat (first | apply Kd.R_alloc | apply Kd.R_drewN | apply Kd.R_drew)); exact (Kd.R_mono (Kd.R_far (p := ⟨gb650, 1, none⟩) (Kd.R_far (p := ⟨gb650, 0, none⟩) (Kd.R_types HO643.out BK650.out (by decide)) (fun _ hk => hk.2) (.string t644)) (fun _ hk => hk.2) (.slice Ao13 t645.length co13)) (fun _ h_ => h_.1))) hb); have n1_ := Aside0.mk (Kd.R_below (by (with_reducible repeat (first | apply Kd.R_alloc | apply Kd.R_drewN | apply Kd.R_drew)); exact (Kd.R_mono (Kd.R_far (p := ⟨gb650, 1, none⟩) (Kd.R_far (p := ⟨gb650, 0, none⟩) (Kd.R_types HO647.out BK650.out (by decide)) (fun _ hk => hk.2) (.string t644)) (fun _ hk => hk.2) (.slice Ao13 t645.length co13)) (fun _ h_ => h_.1))) hb); have n2_ := Aside0.mk (Kd.N_lower (Kd.N_mono (ok' := fun k_ => some k_ ≠ (.slice Ao14 t641.length co14 : Value).ownBlock ∧ some k_ ≠ (.slice Ao13 t645.length co13 : Value).ownBlock ∧ k_ ≠ gb650 ∧ k_ ≠ g640) ho0 (fun k_ hk_ => ⟨(Kd.fresh' (Kd.R_lt (by (with_reducible repeat (first | apply Kd.R_alloc | apply Kd.R_drewN | apply Kd.R_drew)); exact (Kd.R_mono (Kd.R_far (p := ⟨gb650, 1, none⟩) (Kd.R_far (p := ⟨gb650, 0, none⟩) (Kd.R_types HO643.out BK650.out (by decide)) (fun _ hk => hk.2) (.string t644)) (fun _ hk => hk.2) (.slice Ao13 t645.length co13)) (fun _ h_ => h_.1)))) k_ hk_), (Kd.fresh' (Kd.R_lt (by (with_reducible repeat (first | apply Kd.R_alloc | apply Kd.R_drewN | apply Kd.R_drew)); exact (Kd.R_mono (Kd.R_far (p := ⟨gb650, 1, none⟩) (Kd.R_far (p := ⟨gb650, 0, none⟩) (Kd.R_types HO647.out BK650.out (by decide)) (fun _ hk => hk.2) (.string t644)) (fun _ hk => hk.2) (.slice Ao13 t645.length co13)) (fun _ h_ => h_.1)))) k_ hk_), (Kd.freshB (g := gb650) (o := .cells #[.string t644, .slice Ao13 t645.length co13] 27 (0, 0)) (by (with_reducible repeat (first | refine blk_drewN ?_ _ | refine blk_drew ?_ | refine blk_alloc ?_ _)); refine blk_put (cs := #[.string t644, .slice none 0 0]) ?_ 1 _ rfl; (with_reducible repeat (first | refine blk_drewN ?_ _ | refine blk_drew ?_ | refine blk_alloc ?_ _)); refine blk_put (cs := #[.string (⟨#[]⟩ : ByteArray), .slice none 0 0]) ?_ 0 _ rfl; (with_reducible repeat (first | refine blk_drewN ?_ _ | refine blk_drew ?_ | refine blk_alloc ?_ _)); exact BK650.out) k_ hk_), (IsS72.fresh (by repeat (first | (with_reducible first | exact HI640.out | apply IsS72.alloc | apply IsS72.drewN | apply IsS72.drew | apply IsS72.set_0 | apply IsS72.set_1 | refine IsS72.far ?_ NB640_650.out _) | exact HI640.out)) k_ hk_)⟩)) (below_size (by repeat (first | (with_reducible first | exact HB.out | apply below_alloc | apply pw_below_drewN | apply below_drew1 | refine below_set ?_ (IsS72.ge HI640.out) | refine below_set ?_ GE650.out) | exact HB.out)))); have n3_ := Aside0.mk (IsS72.below (show IsS72 w ((w10.setCell ⟨gb650, 0, none⟩ (.string t644)).setCell ⟨gb650, 1, none⟩ (.slice Ao13 t645.length co13)) g640 t648 t649 from by repeat (first | (with_reducible first | exact HI640.out | apply IsS72.alloc | apply IsS72.drewN | apply IsS72.drew | apply IsS72.set_0 | apply IsS72.set_1 | refine IsS72.far ?_ NB640_650.out _) | exact HI640.out)) hb); have n4_ := Aside0.mk (blk_below (g := gb650) (o := .cells #[.string t644, .slice Ao13 t645.length co13] 27 (0, 0)) (by (with_reducible repeat (first | refine blk_drewN ?_ _ | refine blk_drew ?_ | refine blk_alloc ?_ _)); refine blk_put (cs := #[.string t644, .slice none 0 0]) ?_ 1 _ rfl; (with_reducible repeat (first | refine blk_drewN ?_ _ | refine blk_drew ?_ | refine blk_alloc ?_ _)); refine blk_put (cs := #[.string (⟨#[]⟩ : ByteArray), .slice none 0 0]) ?_ 0 _ rfl; (with_reducible repeat (first | refine blk_drewN ?_ _ | refine blk_drew ?_ | refine blk_alloc ?_ _)); exact BK650.out) hb); have n5_ := Aside0.mk (below_step (by repeat (first | (with_reducible first | exact HB.out | apply below_alloc | apply pw_below_drewN | apply below_drew1 | refine below_set ?_ (IsS72.ge HI640.out) | refine below_set ?_ GE650.out) | exact HB.out)) hb); clear HO643; clear HO647; clear HI640; clear BK650; clear HB; have HO643 := n0_; have HO647 := n1_; have HO653 := n2_; have HI640 := n3_; have BK650 := n4_; have HB := n5_; clear n0_ n1_ n2_ n3_ n4_ n5_; (try clear hb); (try clear hb2); (try clear hk); (try clear hi); (try clear ho0)) | (go_at_call 18; (with_reducible refine (stemma_Letters.calls k _ _ t641 t655 t656 _ ?side1 ?side2 A5.out).mono ?_); (case side1 => repeat (first | exact (Kd.R_reads' HO643.out).2.2 | (with_reducible refine Kd.C_alloc ?_ _) | (with_reducible refine Kd.C_drewN ?_ _) | (with_reducible refine Kd.C_drew ?_))); (case side2 => exact (Kd.R_reads' HO643.out).2.1); rintro e w16 ⟨v657, rfl, ho0, hb⟩; have n0_ := Aside0.mk (Kd.R_below (by (with_reducible repeat (first | apply Kd.R_alloc | apply Kd.R_drewN | apply Kd.R_drew)); exact HO643.out) hb); have n1_ := Aside0.mk (Kd.R_below (by (with_reducible repeat (first | apply Kd.R_alloc | apply Kd.R_drewN | apply Kd.R_drew)); exact HO647.out) hb); have n2_ := Aside0.mk (Kd.N_elder' (by (with_reducible repeat (first | apply Kd.N_alloc | apply Kd.N_drewN | apply Kd.N_drew)); exact HO653.out) (Kd.R_base ho0) hb); have n3_ := Aside0.mk (Kd.R_lower ho0 (below_size (by repeat (first | (with_reducible first | exact HB.out | apply below_alloc | apply pw_below_drewN | apply below_drew1 | refine below_set ?_ (IsS72.ge HI640.out) | refine below_set ?_ GE650.out) | exact HB.out)))); have n4_ := Aside0.mk (IsS72.below (by repeat (first | (with_reducible first | exact HI640.out | apply IsS72.alloc | apply IsS72.drewN | apply IsS72.drew | apply IsS72.set_0 | apply IsS72.set_1 | refine IsS72.far ?_ NB640_650.out _) | exact HI640.out)) hb); have n5_ := Aside0.mk (blk_below (g := gb650) (o := .cells #[.string t644, .slice Ao13 t645.length co13] 27 (0, 0)) (by (with_reducible repeat (first | refine blk_drewN ?_ _ | refine blk_drew ?_ | refine blk_alloc ?_ _)); exact BK650.out) hb); have n6_ := Aside0.mk (below_step (by repeat (first | (with_reducible first | exact HB.out | apply below_alloc | apply pw_below_drewN | apply below_drew1 | refine below_set ?_ (IsS72.ge HI640.out) | refine below_set ?_ GE650.out) | exact HB.out)) hb); clear HO643; clear HO647; clear HO653; clear HI640; clear BK650; clear HB; have HO643 := n0_; have HO647 := n1_; have HO653 := n2_; have HO658 := n3_; have HI640 := n4_; have BK650 := n5_; have HB := n6_; clear n0_ n1_ n2_ n3_ n4_ n5_ n6_; (try clear hb); (try clear hb2); (try clear hk); (try clear hi); (try clear ho0)) | (go_at_call 24; (with_reducible refine (stemma_Fewest.calls k _ _ t641 t659 t660 _ ?side1 ?side2 A6.out).mono ?_); (case side1 => repeat (first | exact (Kd.R_reads' HO643.out).2.2 | (with_reducible refine Kd.C_alloc ?_ _) | (with_reducible refine Kd.C_drewN ?_ _) | (with_reducible refine Kd.C_drew ?_))); (case side2 => exact (Kd.R_reads' HO643.out).2.1); rintro e w17 ⟨rfl, hb⟩; have n0_ := Aside0.mk (Kd.R_below (by (with_reducible repeat (first | apply Kd.R_alloc | apply Kd.R_drewN | apply Kd.R_drew)); exact HO643.out) hb); have n1_ := Aside0.mk (Kd.R_below (by (with_reducible repeat (first | apply Kd.R_alloc | apply Kd.R_drewN | apply Kd.R_drew)); exact HO647.out) hb); have n2_ := Aside0.mk (Kd.N_below (by (with_reducible repeat (first | apply Kd.N_alloc | apply Kd.N_drewN | apply Kd.N_drew)); exact HO653.out) hb); have n3_ := Aside0.mk (Kd.R_below (by (with_reducible repeat (first | apply Kd.R_alloc | apply Kd.R_drewN | apply Kd.R_drew)); exact HO658.out) hb); have n4_ := Aside0.mk (IsS72.below (by repeat (first | (with_reducible first | exact HI640.out | apply IsS72.alloc | apply IsS72.drewN | apply IsS72.drew | apply IsS72.set_0 | apply IsS72.set_1 | refine IsS72.far ?_ NB640_650.out _) | exact HI640.out)) hb); have n5_ := Aside0.mk (blk_below (g := gb650) (o := .cells #[.string t644, .slice Ao13 t645.length co13] 27 (0, 0)) (by (with_reducible repeat (first | refine blk_drewN ?_ _ | refine blk_drew ?_ | refine blk_alloc ?_ _)); exact BK650.out) hb); have n6_ := Aside0.mk (below_step (by repeat (first | (with_reducible first | exact HB.out | apply below_alloc | apply pw_below_drewN | apply below_drew1 | refine below_set ?_ (IsS72.ge HI640.out) | refine below_set ?_ GE650.out) | exact HB.out)) hb); clear HO643; clear HO647; clear HO653; clear HO658; clear HI640; clear BK650; clear HB; have HO643 := n0_; have HO647 := n1_; have HO653 := n2_; have HO658 := n3_; have HI640 := n4_; have BK650 := n5_; have HB := n6_; clear n0_ n1_ n2_ n3_ n4_ n5_ n6_; (try clear hb); (try clear hb2); (try clear hk); (try clear hi))))
  (try simp only [Act.put, List.setIfInBounds_toArray, List.set_cons_zero, List.set_cons_succ])
  go_cut [69] (fun v69 wc => ∃ (kq : Nat) (x69_6 : Bool), v69 = .bool x69_6 ∧ Aside0 (cippuslaw07_StemmaTrue.j0 kq t641 t651 t655 x69_6 t644 t645 = some r) ∧ Aside0 (kq ≤ k) ∧ Aside0 (Kd.R k24 24 wc w.heap.size (fun _ => True) (.slice Ao14 t641.length co14) t641) ∧ Aside0 (Kd.N (Kd.slice 3 (Kd.int .i64)) 25 wc w.heap.size (fun k_ => some k_ ≠ ((.slice Ao14 t641.length co14) : Value).ownBlock ∧ some k_ ≠ (v657 : Value).ownBlock ∧ some k_ ≠ ((.slice Ao13 t645.length co13) : Value).ownBlock ∧ k_ ≠ gb650) v652 t651) ∧ Aside0 (Kd.R Kd.string 9 wc w.heap.size (fun _ => True) v657 t655) ∧ Aside0 (Kd.R (Kd.int .i64) 3 wc w.heap.size (fun _ => True) (.slice Ao13 t645.length co13) t645) ∧ Aside0 (wc.heap[gb650]? = some (.cells #[.string t644, (.slice Ao13 t645.length co13)] 27 (0, 0))) ∧ Aside0 (Below w.heap.size w wc))
  case first =>
    have H := HC7.out
    clear HC7
    by_cases c18 : t654 = 0
    · rw [if_pos c18] at H
      have c18b0 : (t654 == 0) = true := beq_iff_eq.mpr c18
      have c18b1 : (t654 != 0) = false := bne_eq_false_iff_eq.mpr c18
      clear c18
      (first | rw [c18b0] | (simp only [i64_w, i32_w]; rw [c18b0]) | skip)
      by_cases c19 : t656 = 0
      · rw [if_pos c19] at H
        have c19b0 : (t656 == 0) = true := beq_iff_eq.mpr c19
        have c19b1 : (t656 != 0) = false := bne_eq_false_iff_eq.mpr c19
        clear c19
        by_cases c20 : t660 = 0
        · rw [if_pos c20] at H
          have c20b0 : (t660 == 0) = true := beq_iff_eq.mpr c20
          have c20b1 : (t660 != 0) = false := bne_eq_false_iff_eq.mpr c20
          clear c20
          by_cases c21 : (t651.length : Int) = (t641.length : Int)
          · rw [if_pos c21] at H
            have c21b0 : ((t651.length : Int) == (t641.length : Int)) = true := beq_iff_eq.mpr c21
            have c21b1 : ((t651.length : Int) != (t641.length : Int)) = false := bne_eq_false_iff_eq.mpr c21
            have c21b2 : (t651.length == t641.length) = true := by first | simpa using c21 | (simp at c21 ⊢; omega)
            clear c21
            by_cases c22 : (t655.length : Int) = (t644.size : Int)
            · rw [if_pos c22] at H
              have c22b0 : ((t655.length : Int) == (t644.size : Int)) = true := beq_iff_eq.mpr c22
              have c22b1 : ((t655.length : Int) != (t644.size : Int)) = false := bne_eq_false_iff_eq.mpr c22
              have c22b2 : (t655.length == t644.size) = true := by first | simpa using c22 | (simp at c22 ⊢; omega)
              clear c22
              replace H := Option.bind_eq_some_iff.mp H
              obtain ⟨t661, A230, H⟩ := H
              replace H : (cippuslaw07_StemmaTrue.j0 k t641 t651 t655 (decide (t659 > t661)) t644 t645) = some r := H
              have A23 := Aside0.mk A230
              clear A230
              have H' := Aside0.mk H
              clear H
              obtain ⟨Ao24, co24, eo24⟩ := Kd.N_slice HO653.out
              subst eo24
              obtain ⟨Ao25, co25, eo25⟩ := Kd.R_slice HO658.out
              subst eo25
              have hnb26 := NB650_640.out
              have hnc26 := NB640_650.out
              have hcz27_0 : w17.cell? ⟨gb650, 0, none⟩ = some (.string t644) := (blk_cell BK650.out 0).trans rfl
              have hcz27_1 : w17.cell? ⟨gb650, 1, none⟩ = some (.slice Ao13 t645.length co13) := (blk_cell BK650.out 1).trans rfl
              have hfz27_0 := blk_frozen BK650.out 0
              have hfz27_1 := blk_frozen BK650.out 1
              go_wp2_with (first | (go_at_call 31; (with_reducible refine (cippuslaw07_errors.calls k _ _ t641 t644 _ _ t645 t661 _ ?side1 ?side2 ?side3 ?side4 A23.out).mono ?_); (case side1 => repeat (first | exact (Kd.R_reads' HO643.out).2.2 | (with_reducible refine Kd.C_alloc ?_ _) | (with_reducible refine Kd.C_drewN ?_ _) | (with_reducible refine Kd.C_drew ?_))); (case side2 => exact (Kd.R_reads' HO643.out).2.1); (case side3 => repeat (first | exact (Kd.R_reads' HO647.out).2.2 | (with_reducible refine Kd.C_alloc ?_ _) | (with_reducible refine Kd.C_drewN ?_ _) | (with_reducible refine Kd.C_drew ?_))); (case side4 => exact (Kd.R_reads' HO647.out).2.1); rintro e w28 ⟨rfl, hb⟩; have n0_ := Aside0.mk (Kd.R_below (by (with_reducible repeat (first | apply Kd.R_alloc | apply Kd.R_drewN | apply Kd.R_drew)); exact HO643.out) hb); have n1_ := Aside0.mk (Kd.R_below (by (with_reducible repeat (first | apply Kd.R_alloc | apply Kd.R_drewN | apply Kd.R_drew)); exact HO647.out) hb); have n2_ := Aside0.mk (Kd.N_below (by (with_reducible repeat (first | apply Kd.N_alloc | apply Kd.N_drewN | apply Kd.N_drew)); exact HO653.out) hb); have n3_ := Aside0.mk (Kd.R_below (by (with_reducible repeat (first | apply Kd.R_alloc | apply Kd.R_drewN | apply Kd.R_drew)); exact HO658.out) hb); have n4_ := Aside0.mk (IsS72.below (by repeat (first | (with_reducible first | exact HI640.out | apply IsS72.alloc | apply IsS72.drewN | apply IsS72.drew | apply IsS72.set_0 | apply IsS72.set_1 | refine IsS72.far ?_ NB640_650.out _) | exact HI640.out)) hb); have n5_ := Aside0.mk (blk_below (g := gb650) (o := .cells #[.string t644, .slice Ao13 t645.length co13] 27 (0, 0)) (by (with_reducible repeat (first | refine blk_drewN ?_ _ | refine blk_drew ?_ | refine blk_alloc ?_ _)); exact BK650.out) hb); have n6_ := Aside0.mk (below_step (by repeat (first | (with_reducible first | exact HB.out | apply below_alloc | apply pw_below_drewN | apply below_drew1 | refine below_set ?_ (IsS72.ge HI640.out) | refine below_set ?_ GE650.out) | exact HB.out)) hb); clear HO643; clear HO647; clear HO653; clear HO658; clear HI640; clear BK650; clear HB; have HO643 := n0_; have HO647 := n1_; have HO653 := n2_; have HO658 := n3_; have HI640 := n4_; have BK650 := n5_; have HB := n6_; clear n0_ n1_ n2_ n3_ n4_ n5_ n6_; (try clear hb); (try clear hb2); (try clear hk); (try clear hi)))
              repeat (go_quiet (first | (go_at_call 31; (with_reducible refine (cippuslaw07_errors.calls k _ _ t641 t644 _ _ t645 t661 _ ?side1 ?side2 ?side3 ?side4 A23.out).mono ?_); (case side1 => repeat (first | exact (Kd.R_reads' HO643.out).2.2 | (with_reducible refine Kd.C_alloc ?_ _) | (with_reducible refine Kd.C_drewN ?_ _) | (with_reducible refine Kd.C_drew ?_))); (case side2 => exact (Kd.R_reads' HO643.out).2.1); (case side3 => repeat (first | exact (Kd.R_reads' HO647.out).2.2 | (with_reducible refine Kd.C_alloc ?_ _) | (with_reducible refine Kd.C_drewN ?_ _) | (with_reducible refine Kd.C_drew ?_))); (case side4 => exact (Kd.R_reads' HO647.out).2.1); rintro e w28 ⟨rfl, hb⟩; have n0_ := Aside0.mk (Kd.R_below (by (with_reducible repeat (first | apply Kd.R_alloc | apply Kd.R_drewN | apply Kd.R_drew)); exact HO643.out) hb); have n1_ := Aside0.mk (Kd.R_below (by (with_reducible repeat (first | apply Kd.R_alloc | apply Kd.R_drewN | apply Kd.R_drew)); exact HO647.out) hb); have n2_ := Aside0.mk (Kd.N_below (by (with_reducible repeat (first | apply Kd.N_alloc | apply Kd.N_drewN | apply Kd.N_drew)); exact HO653.out) hb); have n3_ := Aside0.mk (Kd.R_below (by (with_reducible repeat (first | apply Kd.R_alloc | apply Kd.R_drewN | apply Kd.R_drew)); exact HO658.out) hb); have n4_ := Aside0.mk (IsS72.below (by repeat (first | (with_reducible first | exact HI640.out | apply IsS72.alloc | apply IsS72.drewN | apply IsS72.drew | apply IsS72.set_0 | apply IsS72.set_1 | refine IsS72.far ?_ NB640_650.out _) | exact HI640.out)) hb); have n5_ := Aside0.mk (blk_below (g := gb650) (o := .cells #[.string t644, .slice Ao13 t645.length co13] 27 (0, 0)) (by (with_reducible repeat (first | refine blk_drewN ?_ _ | refine blk_drew ?_ | refine blk_alloc ?_ _)); exact BK650.out) hb); have n6_ := Aside0.mk (below_step (by repeat (first | (with_reducible first | exact HB.out | apply below_alloc | apply pw_below_drewN | apply below_drew1 | refine below_set ?_ (IsS72.ge HI640.out) | refine below_set ?_ GE650.out) | exact HB.out)) hb); clear HO643; clear HO647; clear HO653; clear HO658; clear HI640; clear BK650; clear HB; have HO643 := n0_; have HO647 := n1_; have HO653 := n2_; have HO658 := n3_; have HI640 := n4_; have BK650 := n5_; have HB := n6_; clear n0_ n1_ n2_ n3_ n4_ n5_ n6_; (try clear hb); (try clear hb2); (try clear hk); (try clear hi))); try go_wp2_with (first | (go_at_call 31; (with_reducible refine (cippuslaw07_errors.calls k _ _ t641 t644 _ _ t645 t661 _ ?side1 ?side2 ?side3 ?side4 A23.out).mono ?_); (case side1 => repeat (first | exact (Kd.R_reads' HO643.out).2.2 | (with_reducible refine Kd.C_alloc ?_ _) | (with_reducible refine Kd.C_drewN ?_ _) | (with_reducible refine Kd.C_drew ?_))); (case side2 => exact (Kd.R_reads' HO643.out).2.1); (case side3 => repeat (first | exact (Kd.R_reads' HO647.out).2.2 | (with_reducible refine Kd.C_alloc ?_ _) | (with_reducible refine Kd.C_drewN ?_ _) | (with_reducible refine Kd.C_drew ?_))); (case side4 => exact (Kd.R_reads' HO647.out).2.1); rintro e w28 ⟨rfl, hb⟩; have n0_ := Aside0.mk (Kd.R_below (by (with_reducible repeat (first | apply Kd.R_alloc | apply Kd.R_drewN | apply Kd.R_drew)); exact HO643.out) hb); have n1_ := Aside0.mk (Kd.R_below (by (with_reducible repeat (first | apply Kd.R_alloc | apply Kd.R_drewN | apply Kd.R_drew)); exact HO647.out) hb); have n2_ := Aside0.mk (Kd.N_below (by (with_reducible repeat (first | apply Kd.N_alloc | apply Kd.N_drewN | apply Kd.N_drew)); exact HO653.out) hb); have n3_ := Aside0.mk (Kd.R_below (by (with_reducible repeat (first | apply Kd.R_alloc | apply Kd.R_drewN | apply Kd.R_drew)); exact HO658.out) hb); have n4_ := Aside0.mk (IsS72.below (by repeat (first | (with_reducible first | exact HI640.out | apply IsS72.alloc | apply IsS72.drewN | apply IsS72.drew | apply IsS72.set_0 | apply IsS72.set_1 | refine IsS72.far ?_ NB640_650.out _) | exact HI640.out)) hb); have n5_ := Aside0.mk (blk_below (g := gb650) (o := .cells #[.string t644, .slice Ao13 t645.length co13] 27 (0, 0)) (by (with_reducible repeat (first | refine blk_drewN ?_ _ | refine blk_drew ?_ | refine blk_alloc ?_ _)); exact BK650.out) hb); have n6_ := Aside0.mk (below_step (by repeat (first | (with_reducible first | exact HB.out | apply below_alloc | apply pw_below_drewN | apply below_drew1 | refine below_set ?_ (IsS72.ge HI640.out) | refine below_set ?_ GE650.out) | exact HB.out)) hb); clear HO643; clear HO647; clear HO653; clear HO658; clear HI640; clear BK650; clear HB; have HO643 := n0_; have HO647 := n1_; have HO653 := n2_; have HO658 := n3_; have HI640 := n4_; have BK650 := n5_; have HB := n6_; clear n0_ n1_ n2_ n3_ n4_ n5_ n6_; (try clear hb); (try clear hb2); (try clear hk); (try clear hi))))
              go_meet
              case rel => exact ⟨_, (decide (t659 > t661)), (by first | rfl | (simp; done) | (simp [*]; done)), H', ⟨by first | omega | exact Nat.le_refl _⟩, ⟨by (with_reducible repeat (first | apply Kd.R_alloc | apply Kd.R_drewN | apply Kd.R_drew)); exact HO643.out⟩, ⟨by (with_reducible repeat (first | apply Kd.N_alloc | apply Kd.N_drewN | apply Kd.N_drew)); exact Kd.N_mono HO653.out (fun _ hk => ⟨hk.1.1, ⟨hk.2, ⟨hk.1.2.1, hk.1.2.2.1⟩⟩⟩)⟩, ⟨by (with_reducible repeat (first | apply Kd.R_alloc | apply Kd.R_drewN | apply Kd.R_drew)); exact HO658.out⟩, ⟨by (with_reducible repeat (first | apply Kd.R_alloc | apply Kd.R_drewN | apply Kd.R_drew)); exact HO647.out⟩, ⟨by (with_reducible repeat (first | refine blk_drewN ?_ _ | refine blk_drew ?_ | refine blk_alloc ?_ _)); exact BK650.out⟩, ⟨by repeat (first | (with_reducible first | exact HB.out | apply below_alloc | apply pw_below_drewN | apply below_drew1 | refine below_set ?_ (IsS72.ge HI640.out) | refine below_set ?_ GE650.out) | exact HB.out)⟩⟩
            · rw [if_neg c22] at H
              have c22b0 : ((t655.length : Int) == (t644.size : Int)) = false := beq_eq_false_iff_ne.mpr c22
              have c22b1 : ((t655.length : Int) != (t644.size : Int)) = true := bne_iff_ne.mpr c22
              have c22b2 : (t655.length == t644.size) = false := by first | simpa using c22 | (simp at c22 ⊢; omega)
              have H' := Aside0.mk H
              clear H
              obtain ⟨Ao29, co29, eo29⟩ := Kd.N_slice HO653.out
              subst eo29
              obtain ⟨Ao30, co30, eo30⟩ := Kd.R_slice HO658.out
              subst eo30
              have hnb31 := NB650_640.out
              have hnc31 := NB640_650.out
              have hcz32_0 : w17.cell? ⟨gb650, 0, none⟩ = some (.string t644) := (blk_cell BK650.out 0).trans rfl
              have hcz32_1 : w17.cell? ⟨gb650, 1, none⟩ = some (.slice Ao13 t645.length co13) := (blk_cell BK650.out 1).trans rfl
              have hfz32_0 := blk_frozen BK650.out 0
              have hfz32_1 := blk_frozen BK650.out 1
              go_wp2
              repeat (go_quiet (fail); try go_wp2)
              go_meet
              case rel => exact ⟨_, (true), (by first | rfl | (simp; done) | (simp [*]; done)), H', ⟨by first | omega | exact Nat.le_refl _⟩, ⟨by (with_reducible repeat (first | apply Kd.R_alloc | apply Kd.R_drewN | apply Kd.R_drew)); exact HO643.out⟩, ⟨by (with_reducible repeat (first | apply Kd.N_alloc | apply Kd.N_drewN | apply Kd.N_drew)); exact Kd.N_mono HO653.out (fun _ hk => ⟨hk.1.1, ⟨hk.2, ⟨hk.1.2.1, hk.1.2.2.1⟩⟩⟩)⟩, ⟨by (with_reducible repeat (first | apply Kd.R_alloc | apply Kd.R_drewN | apply Kd.R_drew)); exact HO658.out⟩, ⟨by (with_reducible repeat (first | apply Kd.R_alloc | apply Kd.R_drewN | apply Kd.R_drew)); exact HO647.out⟩, ⟨by (with_reducible repeat (first | refine blk_drewN ?_ _ | refine blk_drew ?_ | refine blk_alloc ?_ _)); exact BK650.out⟩, ⟨by repeat (first | (with_reducible first | exact HB.out | apply below_alloc | apply pw_below_drewN | apply below_drew1 | refine below_set ?_ (IsS72.ge HI640.out) | refine below_set ?_ GE650.out) | exact HB.out)⟩⟩
          · rw [if_neg c21] at H
            have c21b0 : ((t651.length : Int) == (t641.length : Int)) = false := beq_eq_false_iff_ne.mpr c21
            have c21b1 : ((t651.length : Int) != (t641.length : Int)) = true := bne_iff_ne.mpr c21
            have c21b2 : (t651.length == t641.length) = false := by first | simpa using c21 | (simp at c21 ⊢; omega)
            have H' := Aside0.mk H
            clear H
            obtain ⟨Ao33, co33, eo33⟩ := Kd.N_slice HO653.out
            subst eo33
            go_wp2
            repeat (go_quiet (fail); try go_wp2)
            go_meet
            case rel => exact ⟨_, (true), (by first | rfl | (simp; done) | (simp [*]; done)), H', ⟨by first | omega | exact Nat.le_refl _⟩, ⟨by (with_reducible repeat (first | apply Kd.R_alloc | apply Kd.R_drewN | apply Kd.R_drew)); exact HO643.out⟩, ⟨by (with_reducible repeat (first | apply Kd.N_alloc | apply Kd.N_drewN | apply Kd.N_drew)); exact Kd.N_mono HO653.out (fun _ hk => ⟨hk.1.1, ⟨hk.2, ⟨hk.1.2.1, hk.1.2.2.1⟩⟩⟩)⟩, ⟨by (with_reducible repeat (first | apply Kd.R_alloc | apply Kd.R_drewN | apply Kd.R_drew)); exact HO658.out⟩, ⟨by (with_reducible repeat (first | apply Kd.R_alloc | apply Kd.R_drewN | apply Kd.R_drew)); exact HO647.out⟩, ⟨by (with_reducible repeat (first | refine blk_drewN ?_ _ | refine blk_drew ?_ | refine blk_alloc ?_ _)); exact BK650.out⟩, ⟨by repeat (first | (with_reducible first | exact HB.out | apply below_alloc | apply pw_below_drewN | apply below_drew1 | refine below_set ?_ (IsS72.ge HI640.out) | refine below_set ?_ GE650.out) | exact HB.out)⟩⟩
        · rw [if_neg c20] at H
          have c20b0 : (t660 == 0) = false := beq_eq_false_iff_ne.mpr c20
          have c20b1 : (t660 != 0) = true := bne_iff_ne.mpr c20
          have H' := Aside0.mk H
          clear H
          go_wp2
          repeat (go_quiet (fail); try go_wp2)
          go_meet
          case rel => exact ⟨_, (true), (by first | rfl | (simp; done) | (simp [*]; done)), H', ⟨by first | omega | exact Nat.le_refl _⟩, ⟨by (with_reducible repeat (first | apply Kd.R_alloc | apply Kd.R_drewN | apply Kd.R_drew)); exact HO643.out⟩, ⟨by (with_reducible repeat (first | apply Kd.N_alloc | apply Kd.N_drewN | apply Kd.N_drew)); exact Kd.N_mono HO653.out (fun _ hk => ⟨hk.1.1, ⟨hk.2, ⟨hk.1.2.1, hk.1.2.2.1⟩⟩⟩)⟩, ⟨by (with_reducible repeat (first | apply Kd.R_alloc | apply Kd.R_drewN | apply Kd.R_drew)); exact HO658.out⟩, ⟨by (with_reducible repeat (first | apply Kd.R_alloc | apply Kd.R_drewN | apply Kd.R_drew)); exact HO647.out⟩, ⟨by (with_reducible repeat (first | refine blk_drewN ?_ _ | refine blk_drew ?_ | refine blk_alloc ?_ _)); exact BK650.out⟩, ⟨by repeat (first | (with_reducible first | exact HB.out | apply below_alloc | apply pw_below_drewN | apply below_drew1 | refine below_set ?_ (IsS72.ge HI640.out) | refine below_set ?_ GE650.out) | exact HB.out)⟩⟩
      · rw [if_neg c19] at H
        have c19b0 : (t656 == 0) = false := beq_eq_false_iff_ne.mpr c19
        have c19b1 : (t656 != 0) = true := bne_iff_ne.mpr c19
        have H' := Aside0.mk H
        clear H
        go_wp2
        repeat (go_quiet (fail); try go_wp2)
        go_meet
        case rel => exact ⟨_, (true), (by first | rfl | (simp; done) | (simp [*]; done)), H', ⟨by first | omega | exact Nat.le_refl _⟩, ⟨by (with_reducible repeat (first | apply Kd.R_alloc | apply Kd.R_drewN | apply Kd.R_drew)); exact HO643.out⟩, ⟨by (with_reducible repeat (first | apply Kd.N_alloc | apply Kd.N_drewN | apply Kd.N_drew)); exact Kd.N_mono HO653.out (fun _ hk => ⟨hk.1.1, ⟨hk.2, ⟨hk.1.2.1, hk.1.2.2.1⟩⟩⟩)⟩, ⟨by (with_reducible repeat (first | apply Kd.R_alloc | apply Kd.R_drewN | apply Kd.R_drew)); exact HO658.out⟩, ⟨by (with_reducible repeat (first | apply Kd.R_alloc | apply Kd.R_drewN | apply Kd.R_drew)); exact HO647.out⟩, ⟨by (with_reducible repeat (first | refine blk_drewN ?_ _ | refine blk_drew ?_ | refine blk_alloc ?_ _)); exact BK650.out⟩, ⟨by repeat (first | (with_reducible first | exact HB.out | apply below_alloc | apply pw_below_drewN | apply below_drew1 | refine below_set ?_ (IsS72.ge HI640.out) | refine below_set ?_ GE650.out) | exact HB.out)⟩⟩
    · rw [if_neg c18] at H
      have c18b0 : (t654 == 0) = false := beq_eq_false_iff_ne.mpr c18
      have c18b1 : (t654 != 0) = true := bne_iff_ne.mpr c18
      (first | rw [c18b0] | (simp only [i64_w, i32_w]; rw [c18b0]) | skip)
      have H' := Aside0.mk H
      clear H
      go_wp2
      repeat (go_quiet (fail); try go_wp2)
      go_meet
      case rel => exact ⟨_, (true), (by first | rfl | (simp; done) | (simp [*]; done)), H', ⟨by first | omega | exact Nat.le_refl _⟩, ⟨by (with_reducible repeat (first | apply Kd.R_alloc | apply Kd.R_drewN | apply Kd.R_drew)); exact HO643.out⟩, ⟨by (with_reducible repeat (first | apply Kd.N_alloc | apply Kd.N_drewN | apply Kd.N_drew)); exact Kd.N_mono HO653.out (fun _ hk => ⟨hk.1.1, ⟨hk.2, ⟨hk.1.2.1, hk.1.2.2.1⟩⟩⟩)⟩, ⟨by (with_reducible repeat (first | apply Kd.R_alloc | apply Kd.R_drewN | apply Kd.R_drew)); exact HO658.out⟩, ⟨by (with_reducible repeat (first | apply Kd.R_alloc | apply Kd.R_drewN | apply Kd.R_drew)); exact HO647.out⟩, ⟨by (with_reducible repeat (first | refine blk_drewN ?_ _ | refine blk_drew ?_ | refine blk_alloc ?_ _)); exact BK650.out⟩, ⟨by repeat (first | (with_reducible first | exact HB.out | apply below_alloc | apply pw_below_drewN | apply below_drew1 | refine below_set ?_ (IsS72.ge HI640.out) | refine below_set ?_ GE650.out) | exact HB.out)⟩⟩
  case rest =>
    clear HC7
    try clear c1
    try clear c2
    try clear p2
    try clear c3
    try clear c11
    try clear c18
    try clear c18b0
    try clear c18b1
    try clear c19
    try clear c19b0
    try clear c19b1
    try clear c20
    try clear c20b0
    try clear c20b1
    try clear c21
    try clear c21b0
    try clear c21b1
    try clear c21b2
    try clear c22
    try clear c22b0
    try clear c22b1
    try clear c22b2
    try clear c26
    try clear c31
    try clear hcz12_0
    try clear hcz12_1
    try clear hcz27_0
    try clear hcz27_1
    try clear hcz32_0
    try clear hcz32_1
    try clear hfz12_0
    try clear hfz12_1
    try clear hfz27_0
    try clear hfz27_1
    try clear hfz32_0
    try clear hfz32_1
    obtain ⟨kq, x69_6, rfl, HA, HJ6, HO_3, HO_5, HO_7, HO_651001, BK650, HB⟩ := hcut
    cases kq with
    | zero => exact absurd HA.out (by simp [cippuslaw07_StemmaTrue.j0])
    | succ kj6 =>
      have H := HA.out
      clear HA
      simp only [cippuslaw07_StemmaTrue.j0] at H
      by_cases c34 : x69_6 = true
      · subst c34
        have H1 : (some false) = some r := by rw [if_pos rfl] at H; exact H
        clear H
        have H := H1
        clear H1
        obtain rfl := Option.some.inj H
        go_wp2
        repeat (go_quiet (fail); try go_wp2)
        go_ret
        exact ⟨by first | rfl | (simp [errW_none, errW_some] <;> rfl) | (simp [*, errW_none, errW_some] <;> rfl), by repeat (first | (with_reducible first | exact HB.out | apply below_alloc | apply pw_below_drewN | apply below_drew1 | refine below_set ?_ GE650.out) | exact HB.out)⟩
      · replace c34 := Bool.eq_false_iff.mpr c34
        subst c34
        have H1 : (cippuslaw07_StemmaTrue.l0 kj6 t641 t651 t655 0 t644 t645) = some r := by rw [if_neg (show ¬ (false = true) by decide)] at H; exact H
        clear H
        have H := H1
        clear H1
        have H' := Aside0.mk H
        clear H
        go_wp2
        repeat (go_quiet (fail); try go_wp2)
        go_loopg [11] kj6 (fun kq v11 w' => ∃ (x11_2 : Int), v11 = .int .i64 x11_2 ∧ Aside0 (cippuslaw07_StemmaTrue.l0 kq t641 t651 t655 x11_2 t644 t645 = some r) ∧ Aside0 (kq ≤ kj6) ∧ Aside0 (Kd.R k24 24 w' w.heap.size (fun _ => True) (.slice Ao14 t641.length co14) t641) ∧ Aside0 (Kd.N (Kd.slice 3 (Kd.int .i64)) 25 w' w.heap.size (fun k_ => some k_ ≠ ((.slice Ao14 t641.length co14) : Value).ownBlock ∧ some k_ ≠ (v657 : Value).ownBlock ∧ some k_ ≠ ((.slice Ao13 t645.length co13) : Value).ownBlock ∧ k_ ≠ gb650) v652 t651) ∧ Aside0 (Kd.R Kd.string 9 w' w.heap.size (fun _ => True) v657 t655) ∧ Aside0 (Kd.R (Kd.int .i64) 3 w' w.heap.size (fun _ => True) (.slice Ao13 t645.length co13) t645) ∧ Aside0 (w'.heap[gb650]? = some (.cells #[.string t644, (.slice Ao13 t645.length co13)] 27 (0, 0))) ∧ Aside0 (Below w.heap.size w w'))
        case atStart => exact ⟨(0), (by first | rfl | (simp; done) | (simp [*]; done)), H', ⟨Nat.le_refl _⟩, ⟨by (with_reducible repeat (first | apply Kd.R_alloc | apply Kd.R_drewN | apply Kd.R_drew)); exact HO_3.out⟩, ⟨by (with_reducible repeat (first | apply Kd.N_alloc | apply Kd.N_drewN | apply Kd.N_drew)); exact HO_5.out⟩, ⟨by (with_reducible repeat (first | apply Kd.R_alloc | apply Kd.R_drewN | apply Kd.R_drew)); exact HO_7.out⟩, ⟨by (with_reducible repeat (first | apply Kd.R_alloc | apply Kd.R_drewN | apply Kd.R_drew)); exact HO_651001.out⟩, ⟨by (with_reducible repeat (first | refine blk_drewN ?_ _ | refine blk_drew ?_ | refine blk_alloc ?_ _)); exact BK650.out⟩, ⟨by repeat (first | (with_reducible first | exact HB.out | apply below_alloc | apply pw_below_drewN | apply below_drew1 | refine below_set ?_ GE650.out) | exact HB.out)⟩⟩
        case round =>
          clear H'
          try clear c1
          try clear c2
          try clear p2
          try clear c3
          try clear c11
          try clear c18
          try clear c18b0
          try clear c18b1
          try clear c19
          try clear c19b0
          try clear c19b1
          try clear c20
          try clear c20b0
          try clear c20b1
          try clear c21
          try clear c21b0
          try clear c21b1
          try clear c21b2
          try clear c22
          try clear c22b0
          try clear c22b1
          try clear c22b2
          try clear c26
          try clear c31
          try clear c34
          try clear hcz12_0
          try clear hcz12_1
          try clear hcz27_0
          try clear hcz27_1
          try clear hcz32_0
          try clear hcz32_1
          try clear hfz12_0
          try clear hfz12_1
          try clear hfz27_0
          try clear hfz27_1
          try clear hfz32_0
          try clear hfz32_1
          try clear p2
          obtain ⟨x11_2, rfl, HA, HK2, HO_3, HO_5, HO_7, HO_651001, BK650, HB⟩ := hrel
          cases gk with
          | zero => exact absurd HA.out (by simp [cippuslaw07_StemmaTrue.l0])
          | succ k2 =>
            have H := HA.out
            clear HA
            simp only [cippuslaw07_StemmaTrue.l0] at H
            by_cases c35 : x11_2 < (t655.length : Int)
            · rw [if_pos c35] at H
              have c35b0 : decide (x11_2 < (t655.length : Int)) = true := decide_eq_true c35
              clear c35
              by_cases c36 : 0 ≤ x11_2
              · rw [if_pos c36] at H
                have c36b0 : decide (0 ≤ x11_2) = true := decide_eq_true c36
                clear c36
                by_cases c37 : x11_2 < (t644.size : Int)
                · rw [if_pos c37] at H
                  have c37b0 : decide (x11_2 < (t644.size : Int)) = true := decide_eq_true c37
                  clear c37
                  replace H := Option.bind_eq_some_iff.mp H
                  obtain ⟨t663, A390, H⟩ := H
                  replace H : (if t663 = true then (cippuslaw07_StemmaTrue.l0 k2 t641 t651 t655 (wrap64 (x11_2 + 1)) t644 t645) else (some false)) = some r := H
                  have A39 := Aside0.mk A390
                  clear A390
                  by_cases c40 : t663 = true
                  · subst c40
                    have H1 : (cippuslaw07_StemmaTrue.l0 k2 t641 t651 t655 (wrap64 (x11_2 + 1)) t644 t645) = some r := by rw [if_pos rfl] at H; exact H
                    clear H
                    have H := H1
                    clear H1
                    have H' := Aside0.mk H
                    clear H
                    obtain ⟨Ao41, co41, eo41⟩ := Kd.R_slice HO_7.out
                    subst eo41
                    have p662 : 0 ≤ (x11_2 : Int) := of_decide_eq_true (by first | (with_reducible assumption) | assumption)
                    have q662 : x11_2 < (t655.length : Int) := of_decide_eq_true (by first | (with_reducible assumption) | assumption)
                    obtain ⟨ad662, e662, hx662_0⟩ := Kd.at_string (Kd.R_reads' HO_7.out).2.2 x11_2 p662 q662
                    cases e662
                    replace p662 := eq_true p662
                    replace q662 := eq_true q662
                    have hcz42_0 : wr.cell? ⟨gb650, 0, none⟩ = some (.string t644) := (blk_cell BK650.out 0).trans rfl
                    have hcz42_1 : wr.cell? ⟨gb650, 1, none⟩ = some (.slice Ao13 t645.length co13) := (blk_cell BK650.out 1).trans rfl
                    have hfz42_0 := blk_frozen BK650.out 0
                    have hfz42_1 := blk_frozen BK650.out 1
                    have p38 : 0 ≤ (x11_2 : Int) := of_decide_eq_true (by first | (with_reducible assumption) | assumption)
                    have q38 : x11_2 < (t644.size : Int) := of_decide_eq_true (by first | (with_reducible assumption) | assumption)
                    have hx38 := bt_at t644 x11_2
                    replace p38 := eq_true p38
                    replace q38 := eq_true q38
                    go_wp2_with (first | (go_at_call 33; (with_reducible refine (cippuslaw07_has.calls k2 (rdOf ByteArray.empty t655 x11_2) (bt t644 x11_2) true _ A39.out).mono ?_); rintro e w' ⟨rfl, ⟨nd, rfl⟩⟩; (try first | exact ⟨rfl, _, World.drewN_drewN _ _ _⟩ | exact ⟨rfl, _, Eq.trans (World.drewN_drewN _ _ _) (congrArg (World.drewN _) (Nat.add_assoc _ _ _))⟩)))
                    repeat (go_quiet (first | (go_at_call 33; (with_reducible refine (cippuslaw07_has.calls k2 (rdOf ByteArray.empty t655 x11_2) (bt t644 x11_2) true _ A39.out).mono ?_); rintro e w' ⟨rfl, ⟨nd, rfl⟩⟩; (try first | exact ⟨rfl, _, World.drewN_drewN _ _ _⟩ | exact ⟨rfl, _, Eq.trans (World.drewN_drewN _ _ _) (congrArg (World.drewN _) (Nat.add_assoc _ _ _))⟩))); try go_wp2_with (first | (go_at_call 33; (with_reducible refine (cippuslaw07_has.calls k2 (rdOf ByteArray.empty t655 x11_2) (bt t644 x11_2) true _ A39.out).mono ?_); rintro e w' ⟨rfl, ⟨nd, rfl⟩⟩; (try first | exact ⟨rfl, _, World.drewN_drewN _ _ _⟩ | exact ⟨rfl, _, Eq.trans (World.drewN_drewN _ _ _) (congrArg (World.drewN _) (Nat.add_assoc _ _ _))⟩))))
                    go_roundg k2
                    case measure => have := HJ6.out; have := HK2.out; omega
                    case rel => exact ⟨(wrap64 (x11_2 + 1)), (by first | rfl | (simp; done) | (simp [*]; done)), H', ⟨by have := HJ6.out; have := HK2.out; omega⟩, ⟨by (with_reducible repeat (first | apply Kd.R_alloc | apply Kd.R_drewN | apply Kd.R_drew)); exact HO_3.out⟩, ⟨by (with_reducible repeat (first | apply Kd.N_alloc | apply Kd.N_drewN | apply Kd.N_drew)); exact HO_5.out⟩, ⟨by (with_reducible repeat (first | apply Kd.R_alloc | apply Kd.R_drewN | apply Kd.R_drew)); exact HO_7.out⟩, ⟨by (with_reducible repeat (first | apply Kd.R_alloc | apply Kd.R_drewN | apply Kd.R_drew)); exact HO_651001.out⟩, ⟨by (with_reducible repeat (first | refine blk_drewN ?_ _ | refine blk_drew ?_ | refine blk_alloc ?_ _)); exact BK650.out⟩, ⟨by repeat (first | (with_reducible first | exact HB.out | apply below_alloc | apply pw_below_drewN | apply below_drew1 | refine below_set ?_ GE650.out) | exact HB.out)⟩⟩
                  · replace c40 := Bool.eq_false_iff.mpr c40
                    subst c40
                    have H1 : (some false) = some r := by rw [if_neg (show ¬ (false = true) by decide)] at H; exact H
                    clear H
                    have H := H1
                    clear H1
                    obtain rfl := Option.some.inj H
                    obtain ⟨Ao43, co43, eo43⟩ := Kd.R_slice HO_7.out
                    subst eo43
                    have p662 : 0 ≤ (x11_2 : Int) := of_decide_eq_true (by first | (with_reducible assumption) | assumption)
                    have q662 : x11_2 < (t655.length : Int) := of_decide_eq_true (by first | (with_reducible assumption) | assumption)
                    obtain ⟨ad662, e662, hx662_0⟩ := Kd.at_string (Kd.R_reads' HO_7.out).2.2 x11_2 p662 q662
                    cases e662
                    replace p662 := eq_true p662
                    replace q662 := eq_true q662
                    have hcz44_0 : wr.cell? ⟨gb650, 0, none⟩ = some (.string t644) := (blk_cell BK650.out 0).trans rfl
                    have hcz44_1 : wr.cell? ⟨gb650, 1, none⟩ = some (.slice Ao13 t645.length co13) := (blk_cell BK650.out 1).trans rfl
                    have hfz44_0 := blk_frozen BK650.out 0
                    have hfz44_1 := blk_frozen BK650.out 1
                    have p38 : 0 ≤ (x11_2 : Int) := of_decide_eq_true (by first | (with_reducible assumption) | assumption)
                    have q38 : x11_2 < (t644.size : Int) := of_decide_eq_true (by first | (with_reducible assumption) | assumption)
                    have hx38 := bt_at t644 x11_2
                    replace p38 := eq_true p38
                    replace q38 := eq_true q38
                    go_wp2_with (first | (go_at_call 33; (with_reducible refine (cippuslaw07_has.calls k2 (rdOf ByteArray.empty t655 x11_2) (bt t644 x11_2) false _ A39.out).mono ?_); rintro e w' ⟨rfl, ⟨nd, rfl⟩⟩; (try first | exact ⟨rfl, _, World.drewN_drewN _ _ _⟩ | exact ⟨rfl, _, Eq.trans (World.drewN_drewN _ _ _) (congrArg (World.drewN _) (Nat.add_assoc _ _ _))⟩)))
                    repeat (go_quiet (first | (go_at_call 33; (with_reducible refine (cippuslaw07_has.calls k2 (rdOf ByteArray.empty t655 x11_2) (bt t644 x11_2) false _ A39.out).mono ?_); rintro e w' ⟨rfl, ⟨nd, rfl⟩⟩; (try first | exact ⟨rfl, _, World.drewN_drewN _ _ _⟩ | exact ⟨rfl, _, Eq.trans (World.drewN_drewN _ _ _) (congrArg (World.drewN _) (Nat.add_assoc _ _ _))⟩))); try go_wp2_with (first | (go_at_call 33; (with_reducible refine (cippuslaw07_has.calls k2 (rdOf ByteArray.empty t655 x11_2) (bt t644 x11_2) false _ A39.out).mono ?_); rintro e w' ⟨rfl, ⟨nd, rfl⟩⟩; (try first | exact ⟨rfl, _, World.drewN_drewN _ _ _⟩ | exact ⟨rfl, _, Eq.trans (World.drewN_drewN _ _ _) (congrArg (World.drewN _) (Nat.add_assoc _ _ _))⟩))))
                    go_ret
                    exact ⟨by first | rfl | (simp [errW_none, errW_some] <;> rfl) | (simp [*, errW_none, errW_some] <;> rfl), by repeat (first | (with_reducible first | exact HB.out | apply below_alloc | apply pw_below_drewN | apply below_drew1 | refine below_set ?_ GE650.out) | exact HB.out)⟩
                · rw [if_neg c37] at H
                  exact absurd H (by simp)
              · rw [if_neg c36] at H
                exact absurd H (by simp)
            · rw [if_neg c35] at H
              have c35b0 : decide (x11_2 < (t655.length : Int)) = false := decide_eq_false c35
              clear c35
              have H' := Aside0.mk H
              clear H
              obtain ⟨Ao45, co45, eo45⟩ := Kd.R_slice HO_7.out
              subst eo45
              go_wp2
              repeat (go_quiet (fail); try go_wp2)
              go_loopg [12] k2 (fun kq v12 w' => ∃ (x12_3 : Int), v12 = .int .i64 x12_3 ∧ Aside0 (cippuslaw07_StemmaTrue.l1 kq t641 t651 x12_3 t644 t645 = some r) ∧ Aside0 (kq ≤ k2) ∧ Aside0 (Kd.R k24 24 w' w.heap.size (fun _ => True) (.slice Ao14 t641.length co14) t641) ∧ Aside0 (Kd.N (Kd.slice 3 (Kd.int .i64)) 25 w' w.heap.size (fun k_ => some k_ ≠ ((.slice Ao14 t641.length co14) : Value).ownBlock ∧ some k_ ≠ ((.slice Ao13 t645.length co13) : Value).ownBlock ∧ k_ ≠ gb650) v652 t651) ∧ Aside0 (Kd.R (Kd.int .i64) 3 w' w.heap.size (fun _ => True) (.slice Ao13 t645.length co13) t645) ∧ Aside0 (w'.heap[gb650]? = some (.cells #[.string t644, (.slice Ao13 t645.length co13)] 27 (0, 0))) ∧ Aside0 (Below w.heap.size w w'))
              case atStart => exact ⟨(0), (by first | rfl | (simp; done) | (simp [*]; done)), H', ⟨Nat.le_refl _⟩, ⟨by (with_reducible repeat (first | apply Kd.R_alloc | apply Kd.R_drewN | apply Kd.R_drew)); exact HO_3.out⟩, ⟨by (with_reducible repeat (first | apply Kd.N_alloc | apply Kd.N_drewN | apply Kd.N_drew)); exact Kd.N_mono HO_5.out (fun _ hk => ⟨hk.1, ⟨hk.2.2.1, hk.2.2.2⟩⟩)⟩, ⟨by (with_reducible repeat (first | apply Kd.R_alloc | apply Kd.R_drewN | apply Kd.R_drew)); exact HO_651001.out⟩, ⟨by (with_reducible repeat (first | refine blk_drewN ?_ _ | refine blk_drew ?_ | refine blk_alloc ?_ _)); exact BK650.out⟩, ⟨by repeat (first | (with_reducible first | exact HB.out | apply below_alloc | apply pw_below_drewN | apply below_drew1 | refine below_set ?_ GE650.out) | exact HB.out)⟩⟩
              case round =>
                clear H'
                try clear c1
                try clear c2
                try clear p2
                try clear c3
                try clear p3
                try clear q3
                try clear hx3
                try clear c4
                try clear p6
                try clear q6
                try clear hx6
                try clear c11
                try clear c18
                try clear c18b0
                try clear c18b1
                try clear c19
                try clear c19b0
                try clear c19b1
                try clear c20
                try clear c20b0
                try clear c20b1
                try clear c21
                try clear c21b0
                try clear c21b1
                try clear c21b2
                try clear c22
                try clear c22b0
                try clear c22b1
                try clear c22b2
                try clear c26
                try clear c31
                try clear c34
                try clear c35
                try clear c35b0
                try clear c36
                try clear c36b0
                try clear c37
                try clear c37b0
                try clear p38
                try clear q38
                try clear hx38
                try clear c40
                try clear hcz12_0
                try clear hcz12_1
                try clear hcz27_0
                try clear hcz27_1
                try clear hcz32_0
                try clear hcz32_1
                try clear hcz42_0
                try clear hcz42_1
                try clear hcz44_0
                try clear hcz44_1
                try clear hfz12_0
                try clear hfz12_1
                try clear hfz27_0
                try clear hfz27_1
                try clear hfz32_0
                try clear hfz32_1
                try clear hfz42_0
                try clear hfz42_1
                try clear hfz44_0
                try clear hfz44_1
                try clear hx662_0
                try clear p2
                try clear p38
                try clear p662
                try clear q38
                try clear q662
                obtain ⟨x12_3, rfl, HA, HK3, HO_3, HO_5, HO_651001, BK650, HB⟩ := hrel
                cases gk with
                | zero => exact absurd HA.out (by simp [cippuslaw07_StemmaTrue.l1])
                | succ k3 =>
                  have H := HA.out
                  clear HA
                  simp only [cippuslaw07_StemmaTrue.l1] at H
                  by_cases c46 : x12_3 < (t651.length : Int)
                  · rw [if_pos c46] at H
                    have c46b0 : decide (x12_3 < (t651.length : Int)) = true := decide_eq_true c46
                    clear c46
                    by_cases c47 : 0 ≤ x12_3
                    · rw [if_pos c47] at H
                      have c47b0 : decide (0 ≤ x12_3) = true := decide_eq_true c47
                      clear c47
                      by_cases c48 : ((rd_L4 t651 x12_3).length : Int) = (wrap64 (x12_3 + 1))
                      · rw [if_pos c48] at H
                        have c48b0 : (((rd_L4 t651 x12_3).length : Int) == (wrap64 (x12_3 + 1))) = true := beq_iff_eq.mpr c48
                        have c48b1 : (((rd_L4 t651 x12_3).length : Int) != (wrap64 (x12_3 + 1))) = false := bne_eq_false_iff_eq.mpr c48
                        clear c48
                        have H' := Aside0.mk H
                        clear H
                        obtain ⟨Ao49, co49, eo49⟩ := Kd.N_slice HO_5.out
                        subst eo49
                        have p665 : 0 ≤ (x12_3 : Int) := of_decide_eq_true (by first | (with_reducible assumption) | assumption)
                        have q665 : x12_3 < (t651.length : Int) := of_decide_eq_true (by first | (with_reducible assumption) | assumption)
                        obtain ⟨ad665, A665_0, c665_0, e665, hx665_0, hl665_0, hi665_0⟩ := at_L4 (Kd.N_reads' HO_5.out).2.2 x12_3 p665 q665
                        cases e665
                        obtain ⟨ce665, hce665, hMe665, hcc665⟩ := Kd.N_get HO_5.out [] x12_3 p665 (by first | exact q665 | exact of_decide_eq_true (by first | (with_reducible assumption) | assumption) | (have e_ := (Kd.N_reads' HO_5.out).1; omega))
                        obtain ⟨ua665_0, uc665_0, rfl, ul665_0, ge665_0⟩ := Kd.FK_slice_open hMe665
                        have hv665_0 := hcc665 0 _ rfl
                        rw [Nat.add_zero, show ((Kd.slice 3 (Kd.int .i64))).sz = 1 from rfl, Nat.mul_one] at hv665_0
                        replace hv665_0 := Option.some.inj (hv665_0.symm.trans hx665_0)
                        injection hv665_0 with hva_ hvn_ hvc_
                        rw [hva_] at ge665_0
                        rw [hvc_] at ul665_0
                        have HL665_0 := Aside0.mk (show Kd.V (Kd.int .i64) 3 _ w.heap.size _ _ (rd_L4 t651 x12_3) from Kd.V_mk ul665_0 ge665_0)
                        clear hva_ hvn_ hvc_ ge665_0 ul665_0
                        clear hcc665 hce665
                        have HR665_0 := Aside0.mk hi665_0
                        have HC665_0 := Aside0.mk hl665_0
                        clear hi665_0 hl665_0
                        replace p665 := eq_true p665
                        replace q665 := eq_true q665
                        go_wp2
                        repeat (go_quiet (fail); try go_wp2)
                        go_loopg [13] k3 (fun kq v13 w' => ∃ (x13_4 : Int), v13 = .int .i64 x13_4 ∧ Aside0 (cippuslaw07_StemmaTrue.l2 kq t641 t651 x12_3 x13_4 t644 t645 = some r) ∧ Aside0 (kq ≤ k3) ∧ Aside0 (Kd.R k24 24 w' w.heap.size (fun _ => True) (.slice Ao14 t641.length co14) t641) ∧ Aside0 (Kd.N (Kd.slice 3 (Kd.int .i64)) 25 w' w.heap.size (fun k_ => some k_ ≠ ((.slice Ao14 t641.length co14) : Value).ownBlock ∧ some k_ ≠ ((.slice Ao13 t645.length co13) : Value).ownBlock ∧ k_ ≠ gb650) (.slice (some ad665) t651.length co49) t651) ∧ Aside0 (Kd.R (Kd.int .i64) 3 w' w.heap.size (fun _ => True) (.slice Ao13 t645.length co13) t645) ∧ Aside0 (w'.heap[gb650]? = some (.cells #[.string t644, (.slice Ao13 t645.length co13)] 27 (0, 0))) ∧ Aside0 (Kd.C (Kd.int .i64) w' A665_0 (rd_L4 t651 x12_3).length (rd_L4 t651 x12_3)) ∧ Aside0 (Below w.heap.size w w'))
                        case atStart => exact ⟨(0), (by first | rfl | (simp; done) | (simp [*]; done)), H', ⟨Nat.le_refl _⟩, ⟨by (with_reducible repeat (first | apply Kd.R_alloc | apply Kd.R_drewN | apply Kd.R_drew)); exact HO_3.out⟩, ⟨by (with_reducible repeat (first | apply Kd.N_alloc | apply Kd.N_drewN | apply Kd.N_drew)); exact HO_5.out⟩, ⟨by (with_reducible repeat (first | apply Kd.R_alloc | apply Kd.R_drewN | apply Kd.R_drew)); exact HO_651001.out⟩, ⟨by (with_reducible repeat (first | refine blk_drewN ?_ _ | refine blk_drew ?_ | refine blk_alloc ?_ _)); exact BK650.out⟩, ⟨by repeat (first | (with_reducible exact HR665_0.out) | (with_reducible refine Kd.C_alloc ?_ _) | (with_reducible refine Kd.C_drewN ?_ _) | (with_reducible refine Kd.C_drew ?_) | exact HR665_0.out)⟩, ⟨by repeat (first | (with_reducible first | exact HB.out | apply below_alloc | apply pw_below_drewN | apply below_drew1 | refine below_set ?_ GE650.out) | exact HB.out)⟩⟩
                        case round =>
                          clear H'
                          try clear c1
                          try clear c2
                          try clear p2
                          try clear c3
                          try clear p3
                          try clear q3
                          try clear hx3
                          try clear c4
                          try clear c6
                          try clear p6
                          try clear q6
                          try clear hx6
                          try clear c11
                          try clear c18
                          try clear c18b0
                          try clear c18b1
                          try clear c19
                          try clear c19b0
                          try clear c19b1
                          try clear c20
                          try clear c20b0
                          try clear c20b1
                          try clear c21
                          try clear c21b0
                          try clear c21b1
                          try clear c21b2
                          try clear c22
                          try clear c22b0
                          try clear c22b1
                          try clear c22b2
                          try clear c26
                          try clear c31
                          try clear c34
                          try clear c35
                          try clear c35b0
                          try clear c36
                          try clear c36b0
                          try clear c37
                          try clear c37b0
                          try clear p38
                          try clear q38
                          try clear hx38
                          try clear c40
                          try clear c46
                          try clear c46b0
                          try clear c47
                          try clear c47b0
                          try clear c48
                          try clear c48b0
                          try clear c48b1
                          try clear hcz12_0
                          try clear hcz12_1
                          try clear hcz27_0
                          try clear hcz27_1
                          try clear hcz32_0
                          try clear hcz32_1
                          try clear hcz42_0
                          try clear hcz42_1
                          try clear hcz44_0
                          try clear hcz44_1
                          try clear hfz12_0
                          try clear hfz12_1
                          try clear hfz27_0
                          try clear hfz27_1
                          try clear hfz32_0
                          try clear hfz32_1
                          try clear hfz42_0
                          try clear hfz42_1
                          try clear hfz44_0
                          try clear hfz44_1
                          try clear hx662_0
                          try clear hx665_0
                          try clear p2
                          try clear p3
                          try clear p38
                          try clear p6
                          try clear p662
                          try clear p665
                          try clear q3
                          try clear q38
                          try clear q6
                          try clear q662
                          try clear q665
                          obtain ⟨x13_4, rfl, HA, HK4, HO_3, HO_5, HO_651001, BK650, HR665_0, HB⟩ := hrel
                          cases gk with
                          | zero => exact absurd HA.out (by simp [cippuslaw07_StemmaTrue.l2])
                          | succ k4 =>
                            have H := HA.out
                            clear HA
                            simp only [cippuslaw07_StemmaTrue.l2] at H
                            by_cases c50 : 0 ≤ x12_3
                            · rw [if_pos c50] at H
                              have c50b0 : decide (0 ≤ x12_3) = true := decide_eq_true c50
                              clear c50
                              by_cases c51 : x12_3 < (t651.length : Int)
                              · rw [if_pos c51] at H
                                have c51b0 : decide (x12_3 < (t651.length : Int)) = true := decide_eq_true c51
                                clear c51
                                by_cases c52 : x13_4 < ((rd_L4 t651 x12_3).length : Int)
                                · rw [if_pos c52] at H
                                  have c52b0 : decide (x13_4 < ((rd_L4 t651 x12_3).length : Int)) = true := decide_eq_true c52
                                  clear c52
                                  by_cases c53 : 0 ≤ x13_4
                                  · rw [if_pos c53] at H
                                    have c53b0 : decide (0 ≤ x13_4) = true := decide_eq_true c53
                                    clear c53
                                    by_cases c54 : x12_3 < (t645.length : Int)
                                    · rw [if_pos c54] at H
                                      have c54b0 : decide (x12_3 < (t645.length : Int)) = true := decide_eq_true c54
                                      clear c54
                                      replace H := Option.bind_eq_some_iff.mp H
                                      obtain ⟨t670, A550, H⟩ := H
                                      replace H : (if t670 = true then (cippuslaw07_StemmaTrue.l2 k4 t641 t651 x12_3 (wrap64 (x13_4 + 1)) t644 t645) else (some false)) = some r := H
                                      have A55 := Aside0.mk A550
                                      clear A550
                                      by_cases c56 : t670 = true
                                      · subst c56
                                        have H1 : (cippuslaw07_StemmaTrue.l2 k4 t641 t651 x12_3 (wrap64 (x13_4 + 1)) t644 t645) = some r := by rw [if_pos rfl] at H; exact H
                                        clear H
                                        have H := H1
                                        clear H1
                                        have H' := Aside0.mk H
                                        clear H
                                        have p666 : 0 ≤ (x12_3 : Int) := of_decide_eq_true (by first | (with_reducible assumption) | assumption)
                                        have q666 : x12_3 < (t651.length : Int) := of_decide_eq_true (by first | (with_reducible assumption) | assumption)
                                        obtain ⟨ad666, A666_0, c666_0, e666, hx666_0, hl666_0, hi666_0⟩ := at_L4 (Kd.N_reads' HO_5.out).2.2 x12_3 p666 q666
                                        obtain rfl : ad665 = ad666 := (by injection e666)
                                        obtain ⟨ce666, hce666, hMe666, hcc666⟩ := Kd.N_get HO_5.out [] x12_3 p666 (by first | exact q666 | exact of_decide_eq_true (by first | (with_reducible assumption) | assumption) | (have e_ := (Kd.N_reads' HO_5.out).1; omega))
                                        obtain ⟨ua666_0, uc666_0, rfl, ul666_0, ge666_0⟩ := Kd.FK_slice_open hMe666
                                        have hv666_0 := hcc666 0 _ rfl
                                        rw [Nat.add_zero, show ((Kd.slice 3 (Kd.int .i64))).sz = 1 from rfl, Nat.mul_one] at hv666_0
                                        replace hv666_0 := Option.some.inj (hv666_0.symm.trans hx666_0)
                                        injection hv666_0 with hva_ hvn_ hvc_
                                        rw [hva_] at ge666_0
                                        rw [hvc_] at ul666_0
                                        have HL666_0 := Aside0.mk (show Kd.V (Kd.int .i64) 3 _ w.heap.size _ _ (rd_L4 t651 x12_3) from Kd.V_mk ul666_0 ge666_0)
                                        clear hva_ hvn_ hvc_ ge666_0 ul666_0
                                        clear hcc666 hce666
                                        have HR666_0 := Aside0.mk hi666_0
                                        have HC666_0 := Aside0.mk hl666_0
                                        clear hi666_0 hl666_0
                                        replace p666 := eq_true p666
                                        replace q666 := eq_true q666
                                        have p667 : 0 ≤ (x12_3 : Int) := of_decide_eq_true (by first | (with_reducible assumption) | assumption)
                                        have q667 : x12_3 < (t651.length : Int) := of_decide_eq_true (by first | (with_reducible assumption) | assumption)
                                        obtain ⟨ad667, A667_0, c667_0, e667, hx667_0, hl667_0, hi667_0⟩ := at_L4 (Kd.N_reads' HO_5.out).2.2 x12_3 p667 q667
                                        obtain rfl : ad665 = ad667 := (by injection e667)
                                        obtain ⟨ce667, hce667, hMe667, hcc667⟩ := Kd.N_get HO_5.out [] x12_3 p667 (by first | exact q667 | exact of_decide_eq_true (by first | (with_reducible assumption) | assumption) | (have e_ := (Kd.N_reads' HO_5.out).1; omega))
                                        obtain ⟨ua667_0, uc667_0, rfl, ul667_0, ge667_0⟩ := Kd.FK_slice_open hMe667
                                        have hv667_0 := hcc667 0 _ rfl
                                        rw [Nat.add_zero, show ((Kd.slice 3 (Kd.int .i64))).sz = 1 from rfl, Nat.mul_one] at hv667_0
                                        replace hv667_0 := Option.some.inj (hv667_0.symm.trans hx667_0)
                                        injection hv667_0 with hva_ hvn_ hvc_
                                        rw [hva_] at ge667_0
                                        rw [hvc_] at ul667_0
                                        have HL667_0 := Aside0.mk (show Kd.V (Kd.int .i64) 3 _ w.heap.size _ _ (rd_L4 t651 x12_3) from Kd.V_mk ul667_0 ge667_0)
                                        clear hva_ hvn_ hvc_ ge667_0 ul667_0
                                        clear hcc667 hce667
                                        have HR667_0 := Aside0.mk hi667_0
                                        have HC667_0 := Aside0.mk hl667_0
                                        clear hi667_0 hl667_0
                                        replace p667 := eq_true p667
                                        replace q667 := eq_true q667
                                        have ea_ := Option.some.inj (hx666_0.symm.trans hx667_0)
                                        injection ea_ with ea_ en_ ec_
                                        subst ea_
                                        subst ec_
                                        clear en_
                                        have p668 : 0 ≤ (x13_4 : Int) := of_decide_eq_true (by first | (with_reducible assumption) | assumption)
                                        have q668 : x13_4 < ((rd_L4 t651 x12_3).length : Int) := of_decide_eq_true (by first | (with_reducible assumption) | assumption)
                                        obtain ⟨ad668, e668, hx668_0⟩ := Kd.at_int (by repeat (first | (with_reducible exact HR667_0.out) | (with_reducible refine Kd.C_alloc ?_ _) | (with_reducible refine Kd.C_drewN ?_ _) | (with_reducible refine Kd.C_drew ?_) | exact HR667_0.out)) x13_4 p668 q668
                                        cases e668
                                        replace p668 := eq_true p668
                                        replace q668 := eq_true q668
                                        have hcz57_0 : wr.cell? ⟨gb650, 0, none⟩ = some (.string t644) := (blk_cell BK650.out 0).trans rfl
                                        have hcz57_1 : wr.cell? ⟨gb650, 1, none⟩ = some (.slice Ao13 t645.length co13) := (blk_cell BK650.out 1).trans rfl
                                        have hfz57_0 := blk_frozen BK650.out 0
                                        have hfz57_1 := blk_frozen BK650.out 1
                                        have p669 : 0 ≤ (x12_3 : Int) := of_decide_eq_true (by first | (with_reducible assumption) | assumption)
                                        have q669 : x12_3 < (t645.length : Int) := of_decide_eq_true (by first | (with_reducible assumption) | assumption)
                                        obtain ⟨ad669, e669, hx669_0⟩ := Kd.at_int (Kd.R_reads' HO_651001.out).2.2 x12_3 p669 q669
                                        cases e669
                                        replace p669 := eq_true p669
                                        replace q669 := eq_true q669
                                        go_wp2_with (first | (go_at_call 41; (with_reducible refine (cippuslaw07_fits.calls (rd (rd_L4 t651 x12_3) x13_4) ((rd t645 x12_3) == (wrap64 (x13_4 - 1))) true _ A55.out).mono ?_); rintro e w' ⟨rfl, ⟨nd, rfl⟩⟩; (try first | exact ⟨rfl, _, World.drewN_drewN _ _ _⟩ | exact ⟨rfl, _, Eq.trans (World.drewN_drewN _ _ _) (congrArg (World.drewN _) (Nat.add_assoc _ _ _))⟩)))
                                        repeat (go_quiet (first | (go_at_call 41; (with_reducible refine (cippuslaw07_fits.calls (rd (rd_L4 t651 x12_3) x13_4) ((rd t645 x12_3) == (wrap64 (x13_4 - 1))) true _ A55.out).mono ?_); rintro e w' ⟨rfl, ⟨nd, rfl⟩⟩; (try first | exact ⟨rfl, _, World.drewN_drewN _ _ _⟩ | exact ⟨rfl, _, Eq.trans (World.drewN_drewN _ _ _) (congrArg (World.drewN _) (Nat.add_assoc _ _ _))⟩))); try go_wp2_with (first | (go_at_call 41; (with_reducible refine (cippuslaw07_fits.calls (rd (rd_L4 t651 x12_3) x13_4) ((rd t645 x12_3) == (wrap64 (x13_4 - 1))) true _ A55.out).mono ?_); rintro e w' ⟨rfl, ⟨nd, rfl⟩⟩; (try first | exact ⟨rfl, _, World.drewN_drewN _ _ _⟩ | exact ⟨rfl, _, Eq.trans (World.drewN_drewN _ _ _) (congrArg (World.drewN _) (Nat.add_assoc _ _ _))⟩))))
                                        go_roundg k4
                                        case measure => have := HJ6.out; have := HK2.out; have := HK3.out; have := HK4.out; omega
                                        case rel => exact ⟨(wrap64 (x13_4 + 1)), (by first | rfl | (simp; done) | (simp [*]; done)), H', ⟨by have := HJ6.out; have := HK2.out; have := HK3.out; have := HK4.out; omega⟩, ⟨by (with_reducible repeat (first | apply Kd.R_alloc | apply Kd.R_drewN | apply Kd.R_drew)); exact HO_3.out⟩, ⟨by (with_reducible repeat (first | apply Kd.N_alloc | apply Kd.N_drewN | apply Kd.N_drew)); exact HO_5.out⟩, ⟨by (with_reducible repeat (first | apply Kd.R_alloc | apply Kd.R_drewN | apply Kd.R_drew)); exact HO_651001.out⟩, ⟨by (with_reducible repeat (first | refine blk_drewN ?_ _ | refine blk_drew ?_ | refine blk_alloc ?_ _)); exact BK650.out⟩, ⟨by repeat (first | (with_reducible exact HR665_0.out) | (with_reducible refine Kd.C_alloc ?_ _) | (with_reducible refine Kd.C_drewN ?_ _) | (with_reducible refine Kd.C_drew ?_) | exact HR665_0.out)⟩, ⟨by repeat (first | (with_reducible first | exact HB.out | apply below_alloc | apply pw_below_drewN | apply below_drew1 | refine below_set ?_ GE650.out) | exact HB.out)⟩⟩
                                      · replace c56 := Bool.eq_false_iff.mpr c56
                                        subst c56
                                        have H1 : (some false) = some r := by rw [if_neg (show ¬ (false = true) by decide)] at H; exact H
                                        clear H
                                        have H := H1
                                        clear H1
                                        obtain rfl := Option.some.inj H
                                        have p666 : 0 ≤ (x12_3 : Int) := of_decide_eq_true (by first | (with_reducible assumption) | assumption)
                                        have q666 : x12_3 < (t651.length : Int) := of_decide_eq_true (by first | (with_reducible assumption) | assumption)
                                        obtain ⟨ad666, A666_0, c666_0, e666, hx666_0, hl666_0, hi666_0⟩ := at_L4 (Kd.N_reads' HO_5.out).2.2 x12_3 p666 q666
                                        obtain rfl : ad665 = ad666 := (by injection e666)
                                        obtain ⟨ce666, hce666, hMe666, hcc666⟩ := Kd.N_get HO_5.out [] x12_3 p666 (by first | exact q666 | exact of_decide_eq_true (by first | (with_reducible assumption) | assumption) | (have e_ := (Kd.N_reads' HO_5.out).1; omega))
                                        obtain ⟨ua666_0, uc666_0, rfl, ul666_0, ge666_0⟩ := Kd.FK_slice_open hMe666
                                        have hv666_0 := hcc666 0 _ rfl
                                        rw [Nat.add_zero, show ((Kd.slice 3 (Kd.int .i64))).sz = 1 from rfl, Nat.mul_one] at hv666_0
                                        replace hv666_0 := Option.some.inj (hv666_0.symm.trans hx666_0)
                                        injection hv666_0 with hva_ hvn_ hvc_
                                        rw [hva_] at ge666_0
                                        rw [hvc_] at ul666_0
                                        have HL666_0 := Aside0.mk (show Kd.V (Kd.int .i64) 3 _ w.heap.size _ _ (rd_L4 t651 x12_3) from Kd.V_mk ul666_0 ge666_0)
                                        clear hva_ hvn_ hvc_ ge666_0 ul666_0
                                        clear hcc666 hce666
                                        have HR666_0 := Aside0.mk hi666_0
                                        have HC666_0 := Aside0.mk hl666_0
                                        clear hi666_0 hl666_0
                                        replace p666 := eq_true p666
                                        replace q666 := eq_true q666
                                        have p667 : 0 ≤ (x12_3 : Int) := of_decide_eq_true (by first | (with_reducible assumption) | assumption)
                                        have q667 : x12_3 < (t651.length : Int) := of_decide_eq_true (by first | (with_reducible assumption) | assumption)
                                        obtain ⟨ad667, A667_0, c667_0, e667, hx667_0, hl667_0, hi667_0⟩ := at_L4 (Kd.N_reads' HO_5.out).2.2 x12_3 p667 q667
                                        obtain rfl : ad665 = ad667 := (by injection e667)
                                        obtain ⟨ce667, hce667, hMe667, hcc667⟩ := Kd.N_get HO_5.out [] x12_3 p667 (by first | exact q667 | exact of_decide_eq_true (by first | (with_reducible assumption) | assumption) | (have e_ := (Kd.N_reads' HO_5.out).1; omega))
                                        obtain ⟨ua667_0, uc667_0, rfl, ul667_0, ge667_0⟩ := Kd.FK_slice_open hMe667
                                        have hv667_0 := hcc667 0 _ rfl
                                        rw [Nat.add_zero, show ((Kd.slice 3 (Kd.int .i64))).sz = 1 from rfl, Nat.mul_one] at hv667_0
                                        replace hv667_0 := Option.some.inj (hv667_0.symm.trans hx667_0)
                                        injection hv667_0 with hva_ hvn_ hvc_
                                        rw [hva_] at ge667_0
                                        rw [hvc_] at ul667_0
                                        have HL667_0 := Aside0.mk (show Kd.V (Kd.int .i64) 3 _ w.heap.size _ _ (rd_L4 t651 x12_3) from Kd.V_mk ul667_0 ge667_0)
                                        clear hva_ hvn_ hvc_ ge667_0 ul667_0
                                        clear hcc667 hce667
                                        have HR667_0 := Aside0.mk hi667_0
                                        have HC667_0 := Aside0.mk hl667_0
                                        clear hi667_0 hl667_0
                                        replace p667 := eq_true p667
                                        replace q667 := eq_true q667
                                        have ea_ := Option.some.inj (hx666_0.symm.trans hx667_0)
                                        injection ea_ with ea_ en_ ec_
                                        subst ea_
                                        subst ec_
                                        clear en_
                                        have p668 : 0 ≤ (x13_4 : Int) := of_decide_eq_true (by first | (with_reducible assumption) | assumption)
                                        have q668 : x13_4 < ((rd_L4 t651 x12_3).length : Int) := of_decide_eq_true (by first | (with_reducible assumption) | assumption)
                                        obtain ⟨ad668, e668, hx668_0⟩ := Kd.at_int (by repeat (first | (with_reducible exact HR667_0.out) | (with_reducible refine Kd.C_alloc ?_ _) | (with_reducible refine Kd.C_drewN ?_ _) | (with_reducible refine Kd.C_drew ?_) | exact HR667_0.out)) x13_4 p668 q668
                                        cases e668
                                        replace p668 := eq_true p668
                                        replace q668 := eq_true q668
                                        have hcz58_0 : wr.cell? ⟨gb650, 0, none⟩ = some (.string t644) := (blk_cell BK650.out 0).trans rfl
                                        have hcz58_1 : wr.cell? ⟨gb650, 1, none⟩ = some (.slice Ao13 t645.length co13) := (blk_cell BK650.out 1).trans rfl
                                        have hfz58_0 := blk_frozen BK650.out 0
                                        have hfz58_1 := blk_frozen BK650.out 1
                                        have p669 : 0 ≤ (x12_3 : Int) := of_decide_eq_true (by first | (with_reducible assumption) | assumption)
                                        have q669 : x12_3 < (t645.length : Int) := of_decide_eq_true (by first | (with_reducible assumption) | assumption)
                                        obtain ⟨ad669, e669, hx669_0⟩ := Kd.at_int (Kd.R_reads' HO_651001.out).2.2 x12_3 p669 q669
                                        cases e669
                                        replace p669 := eq_true p669
                                        replace q669 := eq_true q669
                                        go_wp2_with (first | (go_at_call 41; (with_reducible refine (cippuslaw07_fits.calls (rd (rd_L4 t651 x12_3) x13_4) ((rd t645 x12_3) == (wrap64 (x13_4 - 1))) false _ A55.out).mono ?_); rintro e w' ⟨rfl, ⟨nd, rfl⟩⟩; (try first | exact ⟨rfl, _, World.drewN_drewN _ _ _⟩ | exact ⟨rfl, _, Eq.trans (World.drewN_drewN _ _ _) (congrArg (World.drewN _) (Nat.add_assoc _ _ _))⟩)))
                                        repeat (go_quiet (first | (go_at_call 41; (with_reducible refine (cippuslaw07_fits.calls (rd (rd_L4 t651 x12_3) x13_4) ((rd t645 x12_3) == (wrap64 (x13_4 - 1))) false _ A55.out).mono ?_); rintro e w' ⟨rfl, ⟨nd, rfl⟩⟩; (try first | exact ⟨rfl, _, World.drewN_drewN _ _ _⟩ | exact ⟨rfl, _, Eq.trans (World.drewN_drewN _ _ _) (congrArg (World.drewN _) (Nat.add_assoc _ _ _))⟩))); try go_wp2_with (first | (go_at_call 41; (with_reducible refine (cippuslaw07_fits.calls (rd (rd_L4 t651 x12_3) x13_4) ((rd t645 x12_3) == (wrap64 (x13_4 - 1))) false _ A55.out).mono ?_); rintro e w' ⟨rfl, ⟨nd, rfl⟩⟩; (try first | exact ⟨rfl, _, World.drewN_drewN _ _ _⟩ | exact ⟨rfl, _, Eq.trans (World.drewN_drewN _ _ _) (congrArg (World.drewN _) (Nat.add_assoc _ _ _))⟩))))
                                        go_ret
                                        exact ⟨by first | rfl | (simp [errW_none, errW_some] <;> rfl) | (simp [*, errW_none, errW_some] <;> rfl), by repeat (first | (with_reducible first | exact HB.out | apply below_alloc | apply pw_below_drewN | apply below_drew1 | refine below_set ?_ GE650.out) | exact HB.out)⟩
                                    · rw [if_neg c54] at H
                                      exact absurd H (by simp)
                                  · rw [if_neg c53] at H
                                    exact absurd H (by simp)
                                · rw [if_neg c52] at H
                                  have c52b0 : decide (x13_4 < ((rd_L4 t651 x12_3).length : Int)) = false := decide_eq_false c52
                                  clear c52
                                  have H' := Aside0.mk H
                                  clear H
                                  have p666 : 0 ≤ (x12_3 : Int) := of_decide_eq_true (by first | (with_reducible assumption) | assumption)
                                  have q666 : x12_3 < (t651.length : Int) := of_decide_eq_true (by first | (with_reducible assumption) | assumption)
                                  obtain ⟨ad666, A666_0, c666_0, e666, hx666_0, hl666_0, hi666_0⟩ := at_L4 (Kd.N_reads' HO_5.out).2.2 x12_3 p666 q666
                                  obtain rfl : ad665 = ad666 := (by injection e666)
                                  obtain ⟨ce666, hce666, hMe666, hcc666⟩ := Kd.N_get HO_5.out [] x12_3 p666 (by first | exact q666 | exact of_decide_eq_true (by first | (with_reducible assumption) | assumption) | (have e_ := (Kd.N_reads' HO_5.out).1; omega))
                                  obtain ⟨ua666_0, uc666_0, rfl, ul666_0, ge666_0⟩ := Kd.FK_slice_open hMe666
                                  have hv666_0 := hcc666 0 _ rfl
                                  rw [Nat.add_zero, show ((Kd.slice 3 (Kd.int .i64))).sz = 1 from rfl, Nat.mul_one] at hv666_0
                                  replace hv666_0 := Option.some.inj (hv666_0.symm.trans hx666_0)
                                  injection hv666_0 with hva_ hvn_ hvc_
                                  rw [hva_] at ge666_0
                                  rw [hvc_] at ul666_0
                                  have HL666_0 := Aside0.mk (show Kd.V (Kd.int .i64) 3 _ w.heap.size _ _ (rd_L4 t651 x12_3) from Kd.V_mk ul666_0 ge666_0)
                                  clear hva_ hvn_ hvc_ ge666_0 ul666_0
                                  clear hcc666 hce666
                                  have HR666_0 := Aside0.mk hi666_0
                                  have HC666_0 := Aside0.mk hl666_0
                                  clear hi666_0 hl666_0
                                  replace p666 := eq_true p666
                                  replace q666 := eq_true q666
                                  go_wp2
                                  repeat (go_quiet (fail); try go_wp2)
                                  go_loopg [14] k4 (fun kq v14 w' => ∃ (x14_5 : Int), v14 = .int .i64 x14_5 ∧ Aside0 (cippuslaw07_StemmaTrue.l3 kq t641 t651 x12_3 x14_5 t644 t645 = some r) ∧ Aside0 (kq ≤ k4) ∧ Aside0 (Kd.R k24 24 w' w.heap.size (fun _ => True) (.slice Ao14 t641.length co14) t641) ∧ Aside0 (Kd.N (Kd.slice 3 (Kd.int .i64)) 25 w' w.heap.size (fun k_ => some k_ ≠ ((.slice Ao14 t641.length co14) : Value).ownBlock ∧ some k_ ≠ ((.slice Ao13 t645.length co13) : Value).ownBlock ∧ k_ ≠ gb650) (.slice (some ad665) t651.length co49) t651) ∧ Aside0 (Kd.R (Kd.int .i64) 3 w' w.heap.size (fun _ => True) (.slice Ao13 t645.length co13) t645) ∧ Aside0 (w'.heap[gb650]? = some (.cells #[.string t644, (.slice Ao13 t645.length co13)] 27 (0, 0))) ∧ Aside0 (Kd.C (Kd.int .i64) w' A665_0 (rd_L4 t651 x12_3).length (rd_L4 t651 x12_3)) ∧ Aside0 (Kd.C (Kd.int .i64) w' A666_0 (rd_L4 t651 x12_3).length (rd_L4 t651 x12_3)) ∧ Aside0 (Below w.heap.size w w'))
                                  case atStart => exact ⟨(0), (by first | rfl | (simp; done) | (simp [*]; done)), H', ⟨Nat.le_refl _⟩, ⟨by (with_reducible repeat (first | apply Kd.R_alloc | apply Kd.R_drewN | apply Kd.R_drew)); exact HO_3.out⟩, ⟨by (with_reducible repeat (first | apply Kd.N_alloc | apply Kd.N_drewN | apply Kd.N_drew)); exact HO_5.out⟩, ⟨by (with_reducible repeat (first | apply Kd.R_alloc | apply Kd.R_drewN | apply Kd.R_drew)); exact HO_651001.out⟩, ⟨by (with_reducible repeat (first | refine blk_drewN ?_ _ | refine blk_drew ?_ | refine blk_alloc ?_ _)); exact BK650.out⟩, ⟨by repeat (first | (with_reducible exact HR665_0.out) | (with_reducible refine Kd.C_alloc ?_ _) | (with_reducible refine Kd.C_drewN ?_ _) | (with_reducible refine Kd.C_drew ?_) | exact HR665_0.out)⟩, ⟨by repeat (first | (with_reducible exact HR666_0.out) | (with_reducible refine Kd.C_alloc ?_ _) | (with_reducible refine Kd.C_drewN ?_ _) | (with_reducible refine Kd.C_drew ?_) | exact HR666_0.out)⟩, ⟨by repeat (first | (with_reducible first | exact HB.out | apply below_alloc | apply pw_below_drewN | apply below_drew1 | refine below_set ?_ GE650.out) | exact HB.out)⟩⟩
                                  case round =>
                                    clear H'
                                    try clear c1
                                    try clear c2
                                    try clear p2
                                    try clear c3
                                    try clear p3
                                    try clear q3
                                    try clear hx3
                                    try clear c4
                                    try clear c5
                                    try clear c6
                                    try clear p6
                                    try clear q6
                                    try clear hx6
                                    try clear c11
                                    try clear c18
                                    try clear c18b0
                                    try clear c18b1
                                    try clear c19
                                    try clear c19b0
                                    try clear c19b1
                                    try clear c20
                                    try clear c20b0
                                    try clear c20b1
                                    try clear c21
                                    try clear c21b0
                                    try clear c21b1
                                    try clear c21b2
                                    try clear c22
                                    try clear c22b0
                                    try clear c22b1
                                    try clear c22b2
                                    try clear c26
                                    try clear c31
                                    try clear c34
                                    try clear c35
                                    try clear c35b0
                                    try clear c36
                                    try clear c36b0
                                    try clear c37
                                    try clear c37b0
                                    try clear p38
                                    try clear q38
                                    try clear hx38
                                    try clear c40
                                    try clear c46
                                    try clear c46b0
                                    try clear c47
                                    try clear c47b0
                                    try clear c48
                                    try clear c48b0
                                    try clear c48b1
                                    try clear c50
                                    try clear c50b0
                                    try clear c51
                                    try clear c51b0
                                    try clear c52
                                    try clear c52b0
                                    try clear c53
                                    try clear c53b0
                                    try clear c54
                                    try clear c54b0
                                    try clear c56
                                    try clear hcz12_0
                                    try clear hcz12_1
                                    try clear hcz27_0
                                    try clear hcz27_1
                                    try clear hcz32_0
                                    try clear hcz32_1
                                    try clear hcz42_0
                                    try clear hcz42_1
                                    try clear hcz44_0
                                    try clear hcz44_1
                                    try clear hcz57_0
                                    try clear hcz57_1
                                    try clear hcz58_0
                                    try clear hcz58_1
                                    try clear hfz12_0
                                    try clear hfz12_1
                                    try clear hfz27_0
                                    try clear hfz27_1
                                    try clear hfz32_0
                                    try clear hfz32_1
                                    try clear hfz42_0
                                    try clear hfz42_1
                                    try clear hfz44_0
                                    try clear hfz44_1
                                    try clear hfz57_0
                                    try clear hfz57_1
                                    try clear hfz58_0
                                    try clear hfz58_1
                                    try clear hx662_0
                                    try clear hx665_0
                                    try clear hx666_0
                                    try clear hx667_0
                                    try clear hx668_0
                                    try clear hx669_0
                                    try clear p2
                                    try clear p3
                                    try clear p38
                                    try clear p6
                                    try clear p662
                                    try clear p665
                                    try clear p666
                                    try clear p667
                                    try clear p668
                                    try clear p669
                                    try clear q3
                                    try clear q38
                                    try clear q6
                                    try clear q662
                                    try clear q665
                                    try clear q666
                                    try clear q667
                                    try clear q668
                                    try clear q669
                                    obtain ⟨x14_5, rfl, HA, HK5, HO_3, HO_5, HO_651001, BK650, HR665_0, HR666_0, HB⟩ := hrel
                                    cases gk with
                                    | zero => exact absurd HA.out (by simp [cippuslaw07_StemmaTrue.l3])
                                    | succ k5 =>
                                      have H := HA.out
                                      clear HA
                                      simp only [cippuslaw07_StemmaTrue.l3] at H
                                      by_cases c59 : x14_5 < (t641.length : Int)
                                      · rw [if_pos c59] at H
                                        have c59b0 : decide (x14_5 < (t641.length : Int)) = true := decide_eq_true c59
                                        clear c59
                                        replace H := Option.bind_eq_some_iff.mp H
                                        obtain ⟨⟨t671, t672⟩, A600, H⟩ := H
                                        replace H : (if t672 = 0 then ((cippusref07_Below.f k5 t645 x12_3 x14_5).bind fun t673 => ((cippuslaw07_fits.f t671 t673).bind fun t674 => (if t674 = true then (cippuslaw07_StemmaTrue.l3 k5 t641 t651 x12_3 (wrap64 (x14_5 + 1)) t644 t645) else (some false)))) else (some false)) = some r := H
                                        have A60 := Aside0.mk A600
                                        clear A600
                                        by_cases c61 : t672 = 0
                                        · rw [if_pos c61] at H
                                          have c61b0 : (t672 == 0) = true := beq_iff_eq.mpr c61
                                          have c61b1 : (t672 != 0) = false := bne_eq_false_iff_eq.mpr c61
                                          clear c61
                                          replace H := Option.bind_eq_some_iff.mp H
                                          obtain ⟨t673, A620, H⟩ := H
                                          replace H : ((cippuslaw07_fits.f t671 t673).bind fun t674 => (if t674 = true then (cippuslaw07_StemmaTrue.l3 k5 t641 t651 x12_3 (wrap64 (x14_5 + 1)) t644 t645) else (some false))) = some r := H
                                          have A62 := Aside0.mk A620
                                          clear A620
                                          replace H := Option.bind_eq_some_iff.mp H
                                          obtain ⟨t674, A630, H⟩ := H
                                          replace H : (if t674 = true then (cippuslaw07_StemmaTrue.l3 k5 t641 t651 x12_3 (wrap64 (x14_5 + 1)) t644 t645) else (some false)) = some r := H
                                          have A63 := Aside0.mk A630
                                          clear A630
                                          by_cases c64 : t674 = true
                                          · subst c64
                                            have H1 : (cippuslaw07_StemmaTrue.l3 k5 t641 t651 x12_3 (wrap64 (x14_5 + 1)) t644 t645) = some r := by rw [if_pos rfl] at H; exact H
                                            clear H
                                            have H := H1
                                            clear H1
                                            have H' := Aside0.mk H
                                            clear H
                                            go_wp2_with (first | (go_at_call 37; (with_reducible refine (stemma_Depends.calls k5 _ _ t641 x12_3 x14_5 t671 t672 _ ?side1 ?side2 A60.out).mono ?_); (case side1 => repeat (first | exact (Kd.R_reads' HO_3.out).2.2 | (with_reducible refine Kd.C_alloc ?_ _) | (with_reducible refine Kd.C_drewN ?_ _) | (with_reducible refine Kd.C_drew ?_))); (case side2 => exact (Kd.R_reads' HO_3.out).2.1); rintro e w65 ⟨rfl, hb⟩; have n0_ := Aside0.mk (Kd.R_below (by (with_reducible repeat (first | apply Kd.R_alloc | apply Kd.R_drewN | apply Kd.R_drew)); exact HO_3.out) hb); have n1_ := Aside0.mk (Kd.N_below (by (with_reducible repeat (first | apply Kd.N_alloc | apply Kd.N_drewN | apply Kd.N_drew)); exact HO_5.out) hb); have n2_ := Aside0.mk (Kd.R_below (by (with_reducible repeat (first | apply Kd.R_alloc | apply Kd.R_drewN | apply Kd.R_drew)); exact HO_651001.out) hb); have n3_ := Aside0.mk (blk_below (g := gb650) (o := .cells #[.string t644, .slice Ao13 t645.length co13] 27 (0, 0)) (by (with_reducible repeat (first | refine blk_drewN ?_ _ | refine blk_drew ?_ | refine blk_alloc ?_ _)); exact BK650.out) hb); have n4_ := Aside0.mk (Kd.C_below (by repeat (first | (with_reducible exact HR665_0.out) | (with_reducible refine Kd.C_alloc ?_ _) | (with_reducible refine Kd.C_drewN ?_ _) | (with_reducible refine Kd.C_drew ?_) | exact HR665_0.out)) hb); have n5_ := Aside0.mk (Kd.C_below (by repeat (first | (with_reducible exact HR666_0.out) | (with_reducible refine Kd.C_alloc ?_ _) | (with_reducible refine Kd.C_drewN ?_ _) | (with_reducible refine Kd.C_drew ?_) | exact HR666_0.out)) hb); have n6_ := Aside0.mk (below_step (by repeat (first | (with_reducible first | exact HB.out | apply below_alloc | apply pw_below_drewN | apply below_drew1 | refine below_set ?_ GE650.out) | exact HB.out)) hb); clear HO_3; clear HO_5; clear HO_651001; clear BK650; clear HR665_0; clear HR666_0; clear HB; have HO_3 := n0_; have HO_5 := n1_; have HO_651001 := n2_; have BK650 := n3_; have HR665_0 := n4_; have HR666_0 := n5_; have HB := n6_; clear n0_ n1_ n2_ n3_ n4_ n5_ n6_; (try clear hb); (try clear hb2); (try clear hk); (try clear hi); have hcz66_0 : w65.cell? ⟨gb650, 0, none⟩ = some (.string t644) := (blk_cell BK650.out 0).trans rfl; have hcz66_1 : w65.cell? ⟨gb650, 1, none⟩ = some (.slice Ao13 t645.length co13) := (blk_cell BK650.out 1).trans rfl; have hfz66_0 := blk_frozen BK650.out 0; have hfz66_1 := blk_frozen BK650.out 1) | (go_at_call 42; (with_reducible refine (cippusref07_Below.calls k5 _ _ t645 x12_3 x14_5 t673 _ ?side1 ?side2 A62.out).mono ?_); (case side1 => repeat (first | exact (Kd.R_reads' HO_651001.out).2.2 | (with_reducible refine Kd.C_alloc ?_ _) | (with_reducible refine Kd.C_drewN ?_ _) | (with_reducible refine Kd.C_drew ?_))); (case side2 => exact (Kd.R_reads' HO_651001.out).2.1); rintro e w' ⟨rfl, ⟨nd, rfl⟩⟩; (try first | exact ⟨rfl, _, World.drewN_drewN _ _ _⟩ | exact ⟨rfl, _, Eq.trans (World.drewN_drewN _ _ _) (congrArg (World.drewN _) (Nat.add_assoc _ _ _))⟩)) | (go_at_call 41; (with_reducible refine (cippuslaw07_fits.calls t671 t673 true _ A63.out).mono ?_); rintro e w' ⟨rfl, ⟨nd, rfl⟩⟩; (try first | exact ⟨rfl, _, World.drewN_drewN _ _ _⟩ | exact ⟨rfl, _, Eq.trans (World.drewN_drewN _ _ _) (congrArg (World.drewN _) (Nat.add_assoc _ _ _))⟩)))
                                            repeat (go_quiet (first | (go_at_call 37; (with_reducible refine (stemma_Depends.calls k5 _ _ t641 x12_3 x14_5 t671 t672 _ ?side1 ?side2 A60.out).mono ?_); (case side1 => repeat (first | exact (Kd.R_reads' HO_3.out).2.2 | (with_reducible refine Kd.C_alloc ?_ _) | (with_reducible refine Kd.C_drewN ?_ _) | (with_reducible refine Kd.C_drew ?_))); (case side2 => exact (Kd.R_reads' HO_3.out).2.1); rintro e w65 ⟨rfl, hb⟩; have n0_ := Aside0.mk (Kd.R_below (by (with_reducible repeat (first | apply Kd.R_alloc | apply Kd.R_drewN | apply Kd.R_drew)); exact HO_3.out) hb); have n1_ := Aside0.mk (Kd.N_below (by (with_reducible repeat (first | apply Kd.N_alloc | apply Kd.N_drewN | apply Kd.N_drew)); exact HO_5.out) hb); have n2_ := Aside0.mk (Kd.R_below (by (with_reducible repeat (first | apply Kd.R_alloc | apply Kd.R_drewN | apply Kd.R_drew)); exact HO_651001.out) hb); have n3_ := Aside0.mk (blk_below (g := gb650) (o := .cells #[.string t644, .slice Ao13 t645.length co13] 27 (0, 0)) (by (with_reducible repeat (first | refine blk_drewN ?_ _ | refine blk_drew ?_ | refine blk_alloc ?_ _)); exact BK650.out) hb); have n4_ := Aside0.mk (Kd.C_below (by repeat (first | (with_reducible exact HR665_0.out) | (with_reducible refine Kd.C_alloc ?_ _) | (with_reducible refine Kd.C_drewN ?_ _) | (with_reducible refine Kd.C_drew ?_) | exact HR665_0.out)) hb); have n5_ := Aside0.mk (Kd.C_below (by repeat (first | (with_reducible exact HR666_0.out) | (with_reducible refine Kd.C_alloc ?_ _) | (with_reducible refine Kd.C_drewN ?_ _) | (with_reducible refine Kd.C_drew ?_) | exact HR666_0.out)) hb); have n6_ := Aside0.mk (below_step (by repeat (first | (with_reducible first | exact HB.out | apply below_alloc | apply pw_below_drewN | apply below_drew1 | refine below_set ?_ GE650.out) | exact HB.out)) hb); clear HO_3; clear HO_5; clear HO_651001; clear BK650; clear HR665_0; clear HR666_0; clear HB; have HO_3 := n0_; have HO_5 := n1_; have HO_651001 := n2_; have BK650 := n3_; have HR665_0 := n4_; have HR666_0 := n5_; have HB := n6_; clear n0_ n1_ n2_ n3_ n4_ n5_ n6_; (try clear hb); (try clear hb2); (try clear hk); (try clear hi); have hcz66_0 : w65.cell? ⟨gb650, 0, none⟩ = some (.string t644) := (blk_cell BK650.out 0).trans rfl; have hcz66_1 : w65.cell? ⟨gb650, 1, none⟩ = some (.slice Ao13 t645.length co13) := (blk_cell BK650.out 1).trans rfl; have hfz66_0 := blk_frozen BK650.out 0; have hfz66_1 := blk_frozen BK650.out 1) | (go_at_call 42; (with_reducible refine (cippusref07_Below.calls k5 _ _ t645 x12_3 x14_5 t673 _ ?side1 ?side2 A62.out).mono ?_); (case side1 => repeat (first | exact (Kd.R_reads' HO_651001.out).2.2 | (with_reducible refine Kd.C_alloc ?_ _) | (with_reducible refine Kd.C_drewN ?_ _) | (with_reducible refine Kd.C_drew ?_))); (case side2 => exact (Kd.R_reads' HO_651001.out).2.1); rintro e w' ⟨rfl, ⟨nd, rfl⟩⟩; (try first | exact ⟨rfl, _, World.drewN_drewN _ _ _⟩ | exact ⟨rfl, _, Eq.trans (World.drewN_drewN _ _ _) (congrArg (World.drewN _) (Nat.add_assoc _ _ _))⟩)) | (go_at_call 41; (with_reducible refine (cippuslaw07_fits.calls t671 t673 true _ A63.out).mono ?_); rintro e w' ⟨rfl, ⟨nd, rfl⟩⟩; (try first | exact ⟨rfl, _, World.drewN_drewN _ _ _⟩ | exact ⟨rfl, _, Eq.trans (World.drewN_drewN _ _ _) (congrArg (World.drewN _) (Nat.add_assoc _ _ _))⟩))); try go_wp2_with (first | (go_at_call 37; (with_reducible refine (stemma_Depends.calls k5 _ _ t641 x12_3 x14_5 t671 t672 _ ?side1 ?side2 A60.out).mono ?_); (case side1 => repeat (first | exact (Kd.R_reads' HO_3.out).2.2 | (with_reducible refine Kd.C_alloc ?_ _) | (with_reducible refine Kd.C_drewN ?_ _) | (with_reducible refine Kd.C_drew ?_))); (case side2 => exact (Kd.R_reads' HO_3.out).2.1); rintro e w65 ⟨rfl, hb⟩; have n0_ := Aside0.mk (Kd.R_below (by (with_reducible repeat (first | apply Kd.R_alloc | apply Kd.R_drewN | apply Kd.R_drew)); exact HO_3.out) hb); have n1_ := Aside0.mk (Kd.N_below (by (with_reducible repeat (first | apply Kd.N_alloc | apply Kd.N_drewN | apply Kd.N_drew)); exact HO_5.out) hb); have n2_ := Aside0.mk (Kd.R_below (by (with_reducible repeat (first | apply Kd.R_alloc | apply Kd.R_drewN | apply Kd.R_drew)); exact HO_651001.out) hb); have n3_ := Aside0.mk (blk_below (g := gb650) (o := .cells #[.string t644, .slice Ao13 t645.length co13] 27 (0, 0)) (by (with_reducible repeat (first | refine blk_drewN ?_ _ | refine blk_drew ?_ | refine blk_alloc ?_ _)); exact BK650.out) hb); have n4_ := Aside0.mk (Kd.C_below (by repeat (first | (with_reducible exact HR665_0.out) | (with_reducible refine Kd.C_alloc ?_ _) | (with_reducible refine Kd.C_drewN ?_ _) | (with_reducible refine Kd.C_drew ?_) | exact HR665_0.out)) hb); have n5_ := Aside0.mk (Kd.C_below (by repeat (first | (with_reducible exact HR666_0.out) | (with_reducible refine Kd.C_alloc ?_ _) | (with_reducible refine Kd.C_drewN ?_ _) | (with_reducible refine Kd.C_drew ?_) | exact HR666_0.out)) hb); have n6_ := Aside0.mk (below_step (by repeat (first | (with_reducible first | exact HB.out | apply below_alloc | apply pw_below_drewN | apply below_drew1 | refine below_set ?_ GE650.out) | exact HB.out)) hb); clear HO_3; clear HO_5; clear HO_651001; clear BK650; clear HR665_0; clear HR666_0; clear HB; have HO_3 := n0_; have HO_5 := n1_; have HO_651001 := n2_; have BK650 := n3_; have HR665_0 := n4_; have HR666_0 := n5_; have HB := n6_; clear n0_ n1_ n2_ n3_ n4_ n5_ n6_; (try clear hb); (try clear hb2); (try clear hk); (try clear hi); have hcz66_0 : w65.cell? ⟨gb650, 0, none⟩ = some (.string t644) := (blk_cell BK650.out 0).trans rfl; have hcz66_1 : w65.cell? ⟨gb650, 1, none⟩ = some (.slice Ao13 t645.length co13) := (blk_cell BK650.out 1).trans rfl; have hfz66_0 := blk_frozen BK650.out 0; have hfz66_1 := blk_frozen BK650.out 1) | (go_at_call 42; (with_reducible refine (cippusref07_Below.calls k5 _ _ t645 x12_3 x14_5 t673 _ ?side1 ?side2 A62.out).mono ?_); (case side1 => repeat (first | exact (Kd.R_reads' HO_651001.out).2.2 | (with_reducible refine Kd.C_alloc ?_ _) | (with_reducible refine Kd.C_drewN ?_ _) | (with_reducible refine Kd.C_drew ?_))); (case side2 => exact (Kd.R_reads' HO_651001.out).2.1); rintro e w' ⟨rfl, ⟨nd, rfl⟩⟩; (try first | exact ⟨rfl, _, World.drewN_drewN _ _ _⟩ | exact ⟨rfl, _, Eq.trans (World.drewN_drewN _ _ _) (congrArg (World.drewN _) (Nat.add_assoc _ _ _))⟩)) | (go_at_call 41; (with_reducible refine (cippuslaw07_fits.calls t671 t673 true _ A63.out).mono ?_); rintro e w' ⟨rfl, ⟨nd, rfl⟩⟩; (try first | exact ⟨rfl, _, World.drewN_drewN _ _ _⟩ | exact ⟨rfl, _, Eq.trans (World.drewN_drewN _ _ _) (congrArg (World.drewN _) (Nat.add_assoc _ _ _))⟩))))
                                            go_roundg k5
                                            case measure => have := HJ6.out; have := HK2.out; have := HK3.out; have := HK4.out; have := HK5.out; omega
                                            case rel => exact ⟨(wrap64 (x14_5 + 1)), (by first | rfl | (simp; done) | (simp [*]; done)), H', ⟨by have := HJ6.out; have := HK2.out; have := HK3.out; have := HK4.out; have := HK5.out; omega⟩, ⟨by (with_reducible repeat (first | apply Kd.R_alloc | apply Kd.R_drewN | apply Kd.R_drew)); exact HO_3.out⟩, ⟨by (with_reducible repeat (first | apply Kd.N_alloc | apply Kd.N_drewN | apply Kd.N_drew)); exact HO_5.out⟩, ⟨by (with_reducible repeat (first | apply Kd.R_alloc | apply Kd.R_drewN | apply Kd.R_drew)); exact HO_651001.out⟩, ⟨by (with_reducible repeat (first | refine blk_drewN ?_ _ | refine blk_drew ?_ | refine blk_alloc ?_ _)); exact BK650.out⟩, ⟨by repeat (first | (with_reducible exact HR665_0.out) | (with_reducible refine Kd.C_alloc ?_ _) | (with_reducible refine Kd.C_drewN ?_ _) | (with_reducible refine Kd.C_drew ?_) | exact HR665_0.out)⟩, ⟨by repeat (first | (with_reducible exact HR666_0.out) | (with_reducible refine Kd.C_alloc ?_ _) | (with_reducible refine Kd.C_drewN ?_ _) | (with_reducible refine Kd.C_drew ?_) | exact HR666_0.out)⟩, ⟨by repeat (first | (with_reducible first | exact HB.out | apply below_alloc | apply pw_below_drewN | apply below_drew1 | refine below_set ?_ GE650.out) | exact HB.out)⟩⟩
                                          · replace c64 := Bool.eq_false_iff.mpr c64
                                            subst c64
                                            have H1 : (some false) = some r := by rw [if_neg (show ¬ (false = true) by decide)] at H; exact H
                                            clear H
                                            have H := H1
                                            clear H1
                                            obtain rfl := Option.some.inj H
                                            go_wp2_with (first | (go_at_call 37; (with_reducible refine (stemma_Depends.calls k5 _ _ t641 x12_3 x14_5 t671 t672 _ ?side1 ?side2 A60.out).mono ?_); (case side1 => repeat (first | exact (Kd.R_reads' HO_3.out).2.2 | (with_reducible refine Kd.C_alloc ?_ _) | (with_reducible refine Kd.C_drewN ?_ _) | (with_reducible refine Kd.C_drew ?_))); (case side2 => exact (Kd.R_reads' HO_3.out).2.1); rintro e w67 ⟨rfl, hb⟩; have n0_ := Aside0.mk (Kd.R_below (by (with_reducible repeat (first | apply Kd.R_alloc | apply Kd.R_drewN | apply Kd.R_drew)); exact HO_3.out) hb); have n1_ := Aside0.mk (Kd.N_below (by (with_reducible repeat (first | apply Kd.N_alloc | apply Kd.N_drewN | apply Kd.N_drew)); exact HO_5.out) hb); have n2_ := Aside0.mk (Kd.R_below (by (with_reducible repeat (first | apply Kd.R_alloc | apply Kd.R_drewN | apply Kd.R_drew)); exact HO_651001.out) hb); have n3_ := Aside0.mk (blk_below (g := gb650) (o := .cells #[.string t644, .slice Ao13 t645.length co13] 27 (0, 0)) (by (with_reducible repeat (first | refine blk_drewN ?_ _ | refine blk_drew ?_ | refine blk_alloc ?_ _)); exact BK650.out) hb); have n4_ := Aside0.mk (Kd.C_below (by repeat (first | (with_reducible exact HR665_0.out) | (with_reducible refine Kd.C_alloc ?_ _) | (with_reducible refine Kd.C_drewN ?_ _) | (with_reducible refine Kd.C_drew ?_) | exact HR665_0.out)) hb); have n5_ := Aside0.mk (Kd.C_below (by repeat (first | (with_reducible exact HR666_0.out) | (with_reducible refine Kd.C_alloc ?_ _) | (with_reducible refine Kd.C_drewN ?_ _) | (with_reducible refine Kd.C_drew ?_) | exact HR666_0.out)) hb); have n6_ := Aside0.mk (below_step (by repeat (first | (with_reducible first | exact HB.out | apply below_alloc | apply pw_below_drewN | apply below_drew1 | refine below_set ?_ GE650.out) | exact HB.out)) hb); clear HO_3; clear HO_5; clear HO_651001; clear BK650; clear HR665_0; clear HR666_0; clear HB; have HO_3 := n0_; have HO_5 := n1_; have HO_651001 := n2_; have BK650 := n3_; have HR665_0 := n4_; have HR666_0 := n5_; have HB := n6_; clear n0_ n1_ n2_ n3_ n4_ n5_ n6_; (try clear hb); (try clear hb2); (try clear hk); (try clear hi); have hcz68_0 : w67.cell? ⟨gb650, 0, none⟩ = some (.string t644) := (blk_cell BK650.out 0).trans rfl; have hcz68_1 : w67.cell? ⟨gb650, 1, none⟩ = some (.slice Ao13 t645.length co13) := (blk_cell BK650.out 1).trans rfl; have hfz68_0 := blk_frozen BK650.out 0; have hfz68_1 := blk_frozen BK650.out 1) | (go_at_call 42; (with_reducible refine (cippusref07_Below.calls k5 _ _ t645 x12_3 x14_5 t673 _ ?side1 ?side2 A62.out).mono ?_); (case side1 => repeat (first | exact (Kd.R_reads' HO_651001.out).2.2 | (with_reducible refine Kd.C_alloc ?_ _) | (with_reducible refine Kd.C_drewN ?_ _) | (with_reducible refine Kd.C_drew ?_))); (case side2 => exact (Kd.R_reads' HO_651001.out).2.1); rintro e w' ⟨rfl, ⟨nd, rfl⟩⟩; (try first | exact ⟨rfl, _, World.drewN_drewN _ _ _⟩ | exact ⟨rfl, _, Eq.trans (World.drewN_drewN _ _ _) (congrArg (World.drewN _) (Nat.add_assoc _ _ _))⟩)) | (go_at_call 41; (with_reducible refine (cippuslaw07_fits.calls t671 t673 false _ A63.out).mono ?_); rintro e w' ⟨rfl, ⟨nd, rfl⟩⟩; (try first | exact ⟨rfl, _, World.drewN_drewN _ _ _⟩ | exact ⟨rfl, _, Eq.trans (World.drewN_drewN _ _ _) (congrArg (World.drewN _) (Nat.add_assoc _ _ _))⟩)))
                                            repeat (go_quiet (first | (go_at_call 37; (with_reducible refine (stemma_Depends.calls k5 _ _ t641 x12_3 x14_5 t671 t672 _ ?side1 ?side2 A60.out).mono ?_); (case side1 => repeat (first | exact (Kd.R_reads' HO_3.out).2.2 | (with_reducible refine Kd.C_alloc ?_ _) | (with_reducible refine Kd.C_drewN ?_ _) | (with_reducible refine Kd.C_drew ?_))); (case side2 => exact (Kd.R_reads' HO_3.out).2.1); rintro e w67 ⟨rfl, hb⟩; have n0_ := Aside0.mk (Kd.R_below (by (with_reducible repeat (first | apply Kd.R_alloc | apply Kd.R_drewN | apply Kd.R_drew)); exact HO_3.out) hb); have n1_ := Aside0.mk (Kd.N_below (by (with_reducible repeat (first | apply Kd.N_alloc | apply Kd.N_drewN | apply Kd.N_drew)); exact HO_5.out) hb); have n2_ := Aside0.mk (Kd.R_below (by (with_reducible repeat (first | apply Kd.R_alloc | apply Kd.R_drewN | apply Kd.R_drew)); exact HO_651001.out) hb); have n3_ := Aside0.mk (blk_below (g := gb650) (o := .cells #[.string t644, .slice Ao13 t645.length co13] 27 (0, 0)) (by (with_reducible repeat (first | refine blk_drewN ?_ _ | refine blk_drew ?_ | refine blk_alloc ?_ _)); exact BK650.out) hb); have n4_ := Aside0.mk (Kd.C_below (by repeat (first | (with_reducible exact HR665_0.out) | (with_reducible refine Kd.C_alloc ?_ _) | (with_reducible refine Kd.C_drewN ?_ _) | (with_reducible refine Kd.C_drew ?_) | exact HR665_0.out)) hb); have n5_ := Aside0.mk (Kd.C_below (by repeat (first | (with_reducible exact HR666_0.out) | (with_reducible refine Kd.C_alloc ?_ _) | (with_reducible refine Kd.C_drewN ?_ _) | (with_reducible refine Kd.C_drew ?_) | exact HR666_0.out)) hb); have n6_ := Aside0.mk (below_step (by repeat (first | (with_reducible first | exact HB.out | apply below_alloc | apply pw_below_drewN | apply below_drew1 | refine below_set ?_ GE650.out) | exact HB.out)) hb); clear HO_3; clear HO_5; clear HO_651001; clear BK650; clear HR665_0; clear HR666_0; clear HB; have HO_3 := n0_; have HO_5 := n1_; have HO_651001 := n2_; have BK650 := n3_; have HR665_0 := n4_; have HR666_0 := n5_; have HB := n6_; clear n0_ n1_ n2_ n3_ n4_ n5_ n6_; (try clear hb); (try clear hb2); (try clear hk); (try clear hi); have hcz68_0 : w67.cell? ⟨gb650, 0, none⟩ = some (.string t644) := (blk_cell BK650.out 0).trans rfl; have hcz68_1 : w67.cell? ⟨gb650, 1, none⟩ = some (.slice Ao13 t645.length co13) := (blk_cell BK650.out 1).trans rfl; have hfz68_0 := blk_frozen BK650.out 0; have hfz68_1 := blk_frozen BK650.out 1) | (go_at_call 42; (with_reducible refine (cippusref07_Below.calls k5 _ _ t645 x12_3 x14_5 t673 _ ?side1 ?side2 A62.out).mono ?_); (case side1 => repeat (first | exact (Kd.R_reads' HO_651001.out).2.2 | (with_reducible refine Kd.C_alloc ?_ _) | (with_reducible refine Kd.C_drewN ?_ _) | (with_reducible refine Kd.C_drew ?_))); (case side2 => exact (Kd.R_reads' HO_651001.out).2.1); rintro e w' ⟨rfl, ⟨nd, rfl⟩⟩; (try first | exact ⟨rfl, _, World.drewN_drewN _ _ _⟩ | exact ⟨rfl, _, Eq.trans (World.drewN_drewN _ _ _) (congrArg (World.drewN _) (Nat.add_assoc _ _ _))⟩)) | (go_at_call 41; (with_reducible refine (cippuslaw07_fits.calls t671 t673 false _ A63.out).mono ?_); rintro e w' ⟨rfl, ⟨nd, rfl⟩⟩; (try first | exact ⟨rfl, _, World.drewN_drewN _ _ _⟩ | exact ⟨rfl, _, Eq.trans (World.drewN_drewN _ _ _) (congrArg (World.drewN _) (Nat.add_assoc _ _ _))⟩))); try go_wp2_with (first | (go_at_call 37; (with_reducible refine (stemma_Depends.calls k5 _ _ t641 x12_3 x14_5 t671 t672 _ ?side1 ?side2 A60.out).mono ?_); (case side1 => repeat (first | exact (Kd.R_reads' HO_3.out).2.2 | (with_reducible refine Kd.C_alloc ?_ _) | (with_reducible refine Kd.C_drewN ?_ _) | (with_reducible refine Kd.C_drew ?_))); (case side2 => exact (Kd.R_reads' HO_3.out).2.1); rintro e w67 ⟨rfl, hb⟩; have n0_ := Aside0.mk (Kd.R_below (by (with_reducible repeat (first | apply Kd.R_alloc | apply Kd.R_drewN | apply Kd.R_drew)); exact HO_3.out) hb); have n1_ := Aside0.mk (Kd.N_below (by (with_reducible repeat (first | apply Kd.N_alloc | apply Kd.N_drewN | apply Kd.N_drew)); exact HO_5.out) hb); have n2_ := Aside0.mk (Kd.R_below (by (with_reducible repeat (first | apply Kd.R_alloc | apply Kd.R_drewN | apply Kd.R_drew)); exact HO_651001.out) hb); have n3_ := Aside0.mk (blk_below (g := gb650) (o := .cells #[.string t644, .slice Ao13 t645.length co13] 27 (0, 0)) (by (with_reducible repeat (first | refine blk_drewN ?_ _ | refine blk_drew ?_ | refine blk_alloc ?_ _)); exact BK650.out) hb); have n4_ := Aside0.mk (Kd.C_below (by repeat (first | (with_reducible exact HR665_0.out) | (with_reducible refine Kd.C_alloc ?_ _) | (with_reducible refine Kd.C_drewN ?_ _) | (with_reducible refine Kd.C_drew ?_) | exact HR665_0.out)) hb); have n5_ := Aside0.mk (Kd.C_below (by repeat (first | (with_reducible exact HR666_0.out) | (with_reducible refine Kd.C_alloc ?_ _) | (with_reducible refine Kd.C_drewN ?_ _) | (with_reducible refine Kd.C_drew ?_) | exact HR666_0.out)) hb); have n6_ := Aside0.mk (below_step (by repeat (first | (with_reducible first | exact HB.out | apply below_alloc | apply pw_below_drewN | apply below_drew1 | refine below_set ?_ GE650.out) | exact HB.out)) hb); clear HO_3; clear HO_5; clear HO_651001; clear BK650; clear HR665_0; clear HR666_0; clear HB; have HO_3 := n0_; have HO_5 := n1_; have HO_651001 := n2_; have BK650 := n3_; have HR665_0 := n4_; have HR666_0 := n5_; have HB := n6_; clear n0_ n1_ n2_ n3_ n4_ n5_ n6_; (try clear hb); (try clear hb2); (try clear hk); (try clear hi); have hcz68_0 : w67.cell? ⟨gb650, 0, none⟩ = some (.string t644) := (blk_cell BK650.out 0).trans rfl; have hcz68_1 : w67.cell? ⟨gb650, 1, none⟩ = some (.slice Ao13 t645.length co13) := (blk_cell BK650.out 1).trans rfl; have hfz68_0 := blk_frozen BK650.out 0; have hfz68_1 := blk_frozen BK650.out 1) | (go_at_call 42; (with_reducible refine (cippusref07_Below.calls k5 _ _ t645 x12_3 x14_5 t673 _ ?side1 ?side2 A62.out).mono ?_); (case side1 => repeat (first | exact (Kd.R_reads' HO_651001.out).2.2 | (with_reducible refine Kd.C_alloc ?_ _) | (with_reducible refine Kd.C_drewN ?_ _) | (with_reducible refine Kd.C_drew ?_))); (case side2 => exact (Kd.R_reads' HO_651001.out).2.1); rintro e w' ⟨rfl, ⟨nd, rfl⟩⟩; (try first | exact ⟨rfl, _, World.drewN_drewN _ _ _⟩ | exact ⟨rfl, _, Eq.trans (World.drewN_drewN _ _ _) (congrArg (World.drewN _) (Nat.add_assoc _ _ _))⟩)) | (go_at_call 41; (with_reducible refine (cippuslaw07_fits.calls t671 t673 false _ A63.out).mono ?_); rintro e w' ⟨rfl, ⟨nd, rfl⟩⟩; (try first | exact ⟨rfl, _, World.drewN_drewN _ _ _⟩ | exact ⟨rfl, _, Eq.trans (World.drewN_drewN _ _ _) (congrArg (World.drewN _) (Nat.add_assoc _ _ _))⟩))))
                                            go_ret
                                            exact ⟨by first | rfl | (simp [errW_none, errW_some] <;> rfl) | (simp [*, errW_none, errW_some] <;> rfl), by repeat (first | (with_reducible first | exact HB.out | apply below_alloc | apply pw_below_drewN | apply below_drew1 | refine below_set ?_ GE650.out) | exact HB.out)⟩
                                        · rw [if_neg c61] at H
                                          have c61b0 : (t672 == 0) = false := beq_eq_false_iff_ne.mpr c61
                                          have c61b1 : (t672 != 0) = true := bne_iff_ne.mpr c61
                                          obtain rfl := Option.some.inj H
                                          go_wp2_with (first | (go_at_call 37; (with_reducible refine (stemma_Depends.calls k5 _ _ t641 x12_3 x14_5 t671 t672 _ ?side1 ?side2 A60.out).mono ?_); (case side1 => repeat (first | exact (Kd.R_reads' HO_3.out).2.2 | (with_reducible refine Kd.C_alloc ?_ _) | (with_reducible refine Kd.C_drewN ?_ _) | (with_reducible refine Kd.C_drew ?_))); (case side2 => exact (Kd.R_reads' HO_3.out).2.1); rintro e w69 ⟨rfl, hb⟩; have n0_ := Aside0.mk (Kd.R_below (by (with_reducible repeat (first | apply Kd.R_alloc | apply Kd.R_drewN | apply Kd.R_drew)); exact HO_3.out) hb); have n1_ := Aside0.mk (Kd.N_below (by (with_reducible repeat (first | apply Kd.N_alloc | apply Kd.N_drewN | apply Kd.N_drew)); exact HO_5.out) hb); have n2_ := Aside0.mk (Kd.R_below (by (with_reducible repeat (first | apply Kd.R_alloc | apply Kd.R_drewN | apply Kd.R_drew)); exact HO_651001.out) hb); have n3_ := Aside0.mk (blk_below (g := gb650) (o := .cells #[.string t644, .slice Ao13 t645.length co13] 27 (0, 0)) (by (with_reducible repeat (first | refine blk_drewN ?_ _ | refine blk_drew ?_ | refine blk_alloc ?_ _)); exact BK650.out) hb); have n4_ := Aside0.mk (Kd.C_below (by repeat (first | (with_reducible exact HR665_0.out) | (with_reducible refine Kd.C_alloc ?_ _) | (with_reducible refine Kd.C_drewN ?_ _) | (with_reducible refine Kd.C_drew ?_) | exact HR665_0.out)) hb); have n5_ := Aside0.mk (Kd.C_below (by repeat (first | (with_reducible exact HR666_0.out) | (with_reducible refine Kd.C_alloc ?_ _) | (with_reducible refine Kd.C_drewN ?_ _) | (with_reducible refine Kd.C_drew ?_) | exact HR666_0.out)) hb); have n6_ := Aside0.mk (below_step (by repeat (first | (with_reducible first | exact HB.out | apply below_alloc | apply pw_below_drewN | apply below_drew1 | refine below_set ?_ GE650.out) | exact HB.out)) hb); clear HO_3; clear HO_5; clear HO_651001; clear BK650; clear HR665_0; clear HR666_0; clear HB; have HO_3 := n0_; have HO_5 := n1_; have HO_651001 := n2_; have BK650 := n3_; have HR665_0 := n4_; have HR666_0 := n5_; have HB := n6_; clear n0_ n1_ n2_ n3_ n4_ n5_ n6_; (try clear hb); (try clear hb2); (try clear hk); (try clear hi)))
                                          repeat (go_quiet (first | (go_at_call 37; (with_reducible refine (stemma_Depends.calls k5 _ _ t641 x12_3 x14_5 t671 t672 _ ?side1 ?side2 A60.out).mono ?_); (case side1 => repeat (first | exact (Kd.R_reads' HO_3.out).2.2 | (with_reducible refine Kd.C_alloc ?_ _) | (with_reducible refine Kd.C_drewN ?_ _) | (with_reducible refine Kd.C_drew ?_))); (case side2 => exact (Kd.R_reads' HO_3.out).2.1); rintro e w69 ⟨rfl, hb⟩; have n0_ := Aside0.mk (Kd.R_below (by (with_reducible repeat (first | apply Kd.R_alloc | apply Kd.R_drewN | apply Kd.R_drew)); exact HO_3.out) hb); have n1_ := Aside0.mk (Kd.N_below (by (with_reducible repeat (first | apply Kd.N_alloc | apply Kd.N_drewN | apply Kd.N_drew)); exact HO_5.out) hb); have n2_ := Aside0.mk (Kd.R_below (by (with_reducible repeat (first | apply Kd.R_alloc | apply Kd.R_drewN | apply Kd.R_drew)); exact HO_651001.out) hb); have n3_ := Aside0.mk (blk_below (g := gb650) (o := .cells #[.string t644, .slice Ao13 t645.length co13] 27 (0, 0)) (by (with_reducible repeat (first | refine blk_drewN ?_ _ | refine blk_drew ?_ | refine blk_alloc ?_ _)); exact BK650.out) hb); have n4_ := Aside0.mk (Kd.C_below (by repeat (first | (with_reducible exact HR665_0.out) | (with_reducible refine Kd.C_alloc ?_ _) | (with_reducible refine Kd.C_drewN ?_ _) | (with_reducible refine Kd.C_drew ?_) | exact HR665_0.out)) hb); have n5_ := Aside0.mk (Kd.C_below (by repeat (first | (with_reducible exact HR666_0.out) | (with_reducible refine Kd.C_alloc ?_ _) | (with_reducible refine Kd.C_drewN ?_ _) | (with_reducible refine Kd.C_drew ?_) | exact HR666_0.out)) hb); have n6_ := Aside0.mk (below_step (by repeat (first | (with_reducible first | exact HB.out | apply below_alloc | apply pw_below_drewN | apply below_drew1 | refine below_set ?_ GE650.out) | exact HB.out)) hb); clear HO_3; clear HO_5; clear HO_651001; clear BK650; clear HR665_0; clear HR666_0; clear HB; have HO_3 := n0_; have HO_5 := n1_; have HO_651001 := n2_; have BK650 := n3_; have HR665_0 := n4_; have HR666_0 := n5_; have HB := n6_; clear n0_ n1_ n2_ n3_ n4_ n5_ n6_; (try clear hb); (try clear hb2); (try clear hk); (try clear hi))); try go_wp2_with (first | (go_at_call 37; (with_reducible refine (stemma_Depends.calls k5 _ _ t641 x12_3 x14_5 t671 t672 _ ?side1 ?side2 A60.out).mono ?_); (case side1 => repeat (first | exact (Kd.R_reads' HO_3.out).2.2 | (with_reducible refine Kd.C_alloc ?_ _) | (with_reducible refine Kd.C_drewN ?_ _) | (with_reducible refine Kd.C_drew ?_))); (case side2 => exact (Kd.R_reads' HO_3.out).2.1); rintro e w69 ⟨rfl, hb⟩; have n0_ := Aside0.mk (Kd.R_below (by (with_reducible repeat (first | apply Kd.R_alloc | apply Kd.R_drewN | apply Kd.R_drew)); exact HO_3.out) hb); have n1_ := Aside0.mk (Kd.N_below (by (with_reducible repeat (first | apply Kd.N_alloc | apply Kd.N_drewN | apply Kd.N_drew)); exact HO_5.out) hb); have n2_ := Aside0.mk (Kd.R_below (by (with_reducible repeat (first | apply Kd.R_alloc | apply Kd.R_drewN | apply Kd.R_drew)); exact HO_651001.out) hb); have n3_ := Aside0.mk (blk_below (g := gb650) (o := .cells #[.string t644, .slice Ao13 t645.length co13] 27 (0, 0)) (by (with_reducible repeat (first | refine blk_drewN ?_ _ | refine blk_drew ?_ | refine blk_alloc ?_ _)); exact BK650.out) hb); have n4_ := Aside0.mk (Kd.C_below (by repeat (first | (with_reducible exact HR665_0.out) | (with_reducible refine Kd.C_alloc ?_ _) | (with_reducible refine Kd.C_drewN ?_ _) | (with_reducible refine Kd.C_drew ?_) | exact HR665_0.out)) hb); have n5_ := Aside0.mk (Kd.C_below (by repeat (first | (with_reducible exact HR666_0.out) | (with_reducible refine Kd.C_alloc ?_ _) | (with_reducible refine Kd.C_drewN ?_ _) | (with_reducible refine Kd.C_drew ?_) | exact HR666_0.out)) hb); have n6_ := Aside0.mk (below_step (by repeat (first | (with_reducible first | exact HB.out | apply below_alloc | apply pw_below_drewN | apply below_drew1 | refine below_set ?_ GE650.out) | exact HB.out)) hb); clear HO_3; clear HO_5; clear HO_651001; clear BK650; clear HR665_0; clear HR666_0; clear HB; have HO_3 := n0_; have HO_5 := n1_; have HO_651001 := n2_; have BK650 := n3_; have HR665_0 := n4_; have HR666_0 := n5_; have HB := n6_; clear n0_ n1_ n2_ n3_ n4_ n5_ n6_; (try clear hb); (try clear hb2); (try clear hk); (try clear hi))))
                                          go_ret
                                          exact ⟨by first | rfl | (simp [errW_none, errW_some] <;> rfl) | (simp [*, errW_none, errW_some] <;> rfl), by repeat (first | (with_reducible first | exact HB.out | apply below_alloc | apply pw_below_drewN | apply below_drew1 | refine below_set ?_ GE650.out) | exact HB.out)⟩
                                      · rw [if_neg c59] at H
                                        have c59b0 : decide (x14_5 < (t641.length : Int)) = false := decide_eq_false c59
                                        clear c59
                                        have H' := Aside0.mk H
                                        clear H
                                        go_wp2
                                        repeat (go_quiet (fail); try go_wp2)
                                        go_roundg k5
                                        case measure => have := HJ6.out; have := HK2.out; have := HK3.out; have := HK4.out; have := HK5.out; omega
                                        case rel => exact ⟨(wrap64 (x12_3 + 1)), (by first | rfl | (simp; done) | (simp [*]; done)), H', ⟨by have := HJ6.out; have := HK2.out; have := HK3.out; have := HK4.out; have := HK5.out; omega⟩, ⟨by (with_reducible repeat (first | apply Kd.R_alloc | apply Kd.R_drewN | apply Kd.R_drew)); exact HO_3.out⟩, ⟨by (with_reducible repeat (first | apply Kd.N_alloc | apply Kd.N_drewN | apply Kd.N_drew)); exact HO_5.out⟩, ⟨by (with_reducible repeat (first | apply Kd.R_alloc | apply Kd.R_drewN | apply Kd.R_drew)); exact HO_651001.out⟩, ⟨by (with_reducible repeat (first | refine blk_drewN ?_ _ | refine blk_drew ?_ | refine blk_alloc ?_ _)); exact BK650.out⟩, ⟨by repeat (first | (with_reducible first | exact HB.out | apply below_alloc | apply pw_below_drewN | apply below_drew1 | refine below_set ?_ GE650.out) | exact HB.out)⟩⟩
                              · rw [if_neg c51] at H
                                exact absurd H (by simp)
                            · rw [if_neg c50] at H
                              exact absurd H (by simp)
                      · rw [if_neg c48] at H
                        have c48b0 : (((rd_L4 t651 x12_3).length : Int) == (wrap64 (x12_3 + 1))) = false := beq_eq_false_iff_ne.mpr c48
                        have c48b1 : (((rd_L4 t651 x12_3).length : Int) != (wrap64 (x12_3 + 1))) = true := bne_iff_ne.mpr c48
                        obtain rfl := Option.some.inj H
                        obtain ⟨Ao70, co70, eo70⟩ := Kd.N_slice HO_5.out
                        subst eo70
                        have p665 : 0 ≤ (x12_3 : Int) := of_decide_eq_true (by first | (with_reducible assumption) | assumption)
                        have q665 : x12_3 < (t651.length : Int) := of_decide_eq_true (by first | (with_reducible assumption) | assumption)
                        obtain ⟨ad665, A665_0, c665_0, e665, hx665_0, hl665_0, hi665_0⟩ := at_L4 (Kd.N_reads' HO_5.out).2.2 x12_3 p665 q665
                        cases e665
                        obtain ⟨ce665, hce665, hMe665, hcc665⟩ := Kd.N_get HO_5.out [] x12_3 p665 (by first | exact q665 | exact of_decide_eq_true (by first | (with_reducible assumption) | assumption) | (have e_ := (Kd.N_reads' HO_5.out).1; omega))
                        obtain ⟨ua665_0, uc665_0, rfl, ul665_0, ge665_0⟩ := Kd.FK_slice_open hMe665
                        have hv665_0 := hcc665 0 _ rfl
                        rw [Nat.add_zero, show ((Kd.slice 3 (Kd.int .i64))).sz = 1 from rfl, Nat.mul_one] at hv665_0
                        replace hv665_0 := Option.some.inj (hv665_0.symm.trans hx665_0)
                        injection hv665_0 with hva_ hvn_ hvc_
                        rw [hva_] at ge665_0
                        rw [hvc_] at ul665_0
                        have HL665_0 := Aside0.mk (show Kd.V (Kd.int .i64) 3 _ w.heap.size _ _ (rd_L4 t651 x12_3) from Kd.V_mk ul665_0 ge665_0)
                        clear hva_ hvn_ hvc_ ge665_0 ul665_0
                        clear hcc665 hce665
                        have HR665_0 := Aside0.mk hi665_0
                        have HC665_0 := Aside0.mk hl665_0
                        clear hi665_0 hl665_0
                        replace p665 := eq_true p665
                        replace q665 := eq_true q665
                        go_wp2
                        repeat (go_quiet (fail); try go_wp2)
                        go_ret
                        exact ⟨by first | rfl | (simp [errW_none, errW_some] <;> rfl) | (simp [*, errW_none, errW_some] <;> rfl), by repeat (first | (with_reducible first | exact HB.out | apply below_alloc | apply pw_below_drewN | apply below_drew1 | refine below_set ?_ GE650.out) | exact HB.out)⟩
                    · rw [if_neg c47] at H
                      exact absurd H (by simp)
                  · rw [if_neg c46] at H
                    have c46b0 : decide (x12_3 < (t651.length : Int)) = false := decide_eq_false c46
                    clear c46
                    replace H := Option.bind_eq_some_iff.mp H
                    obtain ⟨t664, A710, H⟩ := H
                    replace H : (some t664) = some r := H
                    have A71 := Aside0.mk A710
                    clear A710
                    obtain rfl := Option.some.inj H
                    obtain ⟨Ao72, co72, eo72⟩ := Kd.N_slice HO_5.out
                    subst eo72
                    go_wp2_with (first | (go_at_call 17; (with_reducible refine (cippuslaw07_found.calls k3  t664 _ A71.out).mono ?_); rintro e w73 ⟨rfl, hb⟩; have n0_ := Aside0.mk (Kd.R_below (by (with_reducible repeat (first | apply Kd.R_alloc | apply Kd.R_drewN | apply Kd.R_drew)); exact HO_3.out) hb); have n1_ := Aside0.mk (Kd.N_below (by (with_reducible repeat (first | apply Kd.N_alloc | apply Kd.N_drewN | apply Kd.N_drew)); exact HO_5.out) hb); have n2_ := Aside0.mk (Kd.R_below (by (with_reducible repeat (first | apply Kd.R_alloc | apply Kd.R_drewN | apply Kd.R_drew)); exact HO_651001.out) hb); have n3_ := Aside0.mk (blk_below (g := gb650) (o := .cells #[.string t644, .slice Ao13 t645.length co13] 27 (0, 0)) (by (with_reducible repeat (first | refine blk_drewN ?_ _ | refine blk_drew ?_ | refine blk_alloc ?_ _)); exact BK650.out) hb); have n4_ := Aside0.mk (below_step (by repeat (first | (with_reducible first | exact HB.out | apply below_alloc | apply pw_below_drewN | apply below_drew1 | refine below_set ?_ GE650.out) | exact HB.out)) hb); clear HO_3; clear HO_5; clear HO_651001; clear BK650; clear HB; have HO_3 := n0_; have HO_5 := n1_; have HO_651001 := n2_; have BK650 := n3_; have HB := n4_; clear n0_ n1_ n2_ n3_ n4_; (try clear hb); (try clear hb2); (try clear hk); (try clear hi)))
                    repeat (go_quiet (first | (go_at_call 17; (with_reducible refine (cippuslaw07_found.calls k3  t664 _ A71.out).mono ?_); rintro e w73 ⟨rfl, hb⟩; have n0_ := Aside0.mk (Kd.R_below (by (with_reducible repeat (first | apply Kd.R_alloc | apply Kd.R_drewN | apply Kd.R_drew)); exact HO_3.out) hb); have n1_ := Aside0.mk (Kd.N_below (by (with_reducible repeat (first | apply Kd.N_alloc | apply Kd.N_drewN | apply Kd.N_drew)); exact HO_5.out) hb); have n2_ := Aside0.mk (Kd.R_below (by (with_reducible repeat (first | apply Kd.R_alloc | apply Kd.R_drewN | apply Kd.R_drew)); exact HO_651001.out) hb); have n3_ := Aside0.mk (blk_below (g := gb650) (o := .cells #[.string t644, .slice Ao13 t645.length co13] 27 (0, 0)) (by (with_reducible repeat (first | refine blk_drewN ?_ _ | refine blk_drew ?_ | refine blk_alloc ?_ _)); exact BK650.out) hb); have n4_ := Aside0.mk (below_step (by repeat (first | (with_reducible first | exact HB.out | apply below_alloc | apply pw_below_drewN | apply below_drew1 | refine below_set ?_ GE650.out) | exact HB.out)) hb); clear HO_3; clear HO_5; clear HO_651001; clear BK650; clear HB; have HO_3 := n0_; have HO_5 := n1_; have HO_651001 := n2_; have BK650 := n3_; have HB := n4_; clear n0_ n1_ n2_ n3_ n4_; (try clear hb); (try clear hb2); (try clear hk); (try clear hi))); try go_wp2_with (first | (go_at_call 17; (with_reducible refine (cippuslaw07_found.calls k3  t664 _ A71.out).mono ?_); rintro e w73 ⟨rfl, hb⟩; have n0_ := Aside0.mk (Kd.R_below (by (with_reducible repeat (first | apply Kd.R_alloc | apply Kd.R_drewN | apply Kd.R_drew)); exact HO_3.out) hb); have n1_ := Aside0.mk (Kd.N_below (by (with_reducible repeat (first | apply Kd.N_alloc | apply Kd.N_drewN | apply Kd.N_drew)); exact HO_5.out) hb); have n2_ := Aside0.mk (Kd.R_below (by (with_reducible repeat (first | apply Kd.R_alloc | apply Kd.R_drewN | apply Kd.R_drew)); exact HO_651001.out) hb); have n3_ := Aside0.mk (blk_below (g := gb650) (o := .cells #[.string t644, .slice Ao13 t645.length co13] 27 (0, 0)) (by (with_reducible repeat (first | refine blk_drewN ?_ _ | refine blk_drew ?_ | refine blk_alloc ?_ _)); exact BK650.out) hb); have n4_ := Aside0.mk (below_step (by repeat (first | (with_reducible first | exact HB.out | apply below_alloc | apply pw_below_drewN | apply below_drew1 | refine below_set ?_ GE650.out) | exact HB.out)) hb); clear HO_3; clear HO_5; clear HO_651001; clear BK650; clear HB; have HO_3 := n0_; have HO_5 := n1_; have HO_651001 := n2_; have BK650 := n3_; have HB := n4_; clear n0_ n1_ n2_ n3_ n4_; (try clear hb); (try clear hb2); (try clear hk); (try clear hi))))
                    go_ret
                    exact ⟨by first | rfl | (simp [errW_none, errW_some] <;> rfl) | (simp [*, errW_none, errW_some] <;> rfl), by repeat (first | (with_reducible first | exact HB.out | apply below_alloc | apply pw_below_drewN | apply below_drew1 | refine below_set ?_ GE650.out) | exact HB.out)⟩
def cippuslaw07_StemmaTrue.Pure : Prop := ∀ (l0 : List Int), l0.length ≤ maxLen → l0.length * 8 ≤ 140737488351232 → (∀ x ∈ l0, (Lit.int .i64 x).wf = true) → ∃ k, cippuslaw07_StemmaTrue.f k l0 = some true
theorem cippuslaw07_StemmaTrue.walk (P : cippuslaw07_StemmaTrue.Pure) (a0 : Option Addr) (len0 cap0 : Nat) (z0 : List Int) (w : World) (w0 : (a0 = none ∧ len0 = 0 ∧ cap0 = 0 ∧ z0 = []) ∨ ∃ x, a0 = some x ∧ len0 ≤ cap0 ∧ cap0 ≤ maxLen ∧ z0.length = cap0 ∧ (∀ i, i < z0.length → w.cell? (x.add i) = some (.int .i64 (z0.getD i 0))) ∧ ∀ n ∈ z0, (Lit.int .i64 n).wf = true) (y0 : len0 * 8 ≤ 140737488351232) :
    Calls Try.prog 11 #[.slice a0 len0 cap0] w fun e w' => e = .returned (.bool true) ∧ Below w.heap.size w w' := by
  obtain ⟨l0, rfl, hr0, hm0, hw0, hc0⟩ := ReadsInt.ofRowC w0
  obtain ⟨k, h⟩ := P l0 hm0 y0 hw0
  refine (cippuslaw07_StemmaTrue.calls k _ _ l0 true w (Kd.C_of_reads (d := (0 : Int)) (h1 := fun _ => rfl) hr0) hc0 h).mono ?_
  rintro e w' ⟨rfl, hd⟩
  exact ⟨rfl, hd⟩
end Go.Proofs.Ytegjollhajgcdaa.P
namespace Go.Proofs.Ytegjollhajgcdaa.Pure
open Go.RowKit Go.Proofs.Ytegjollhajgcdaa.P Go.Proofs.Ytegjollhajgcdaa.P.OwnSt Go.Proofs.YtegjollhajgcdaaW.PrintWords Go.Proofs.YtegjollhajgcdaaW.PrintLast
set_option linter.unusedVariables false
set_option linter.unusedSimpArgs false
theorem rowsV (l : List S24) (hk : knownE l = 0) (i : Nat) (hi : i < l.length) : rd_L4 (sourcesV l).1 (i : Int) = srcRow l i := by
  unfold sourcesV rd_L4
  rw [if_pos hk]
  simp [List.getD_eq_getElem?_getD, hi]
theorem textsV (l : List S24) (hk : knownE l = 0) (i : Nat) (hi : i < (rd_T24 l 0).f0.size) : rdOf ByteArray.empty (lettersV l).1 (i : Int) = letterRow l i := by
  unfold lettersV rdOf
  rw [if_pos hk]
  simp [List.getD_eq_getElem?_getD, hi]
theorem rowV (l : List S24) (i j : Nat) (hj : j ≤ i) : rd (srcRow l i) (j : Int) = verdictI ((knownV l).countP (srcP i j)) (knownV l).length := by
  unfold srcRow rd
  simp [List.getD_eq_getElem?_getD, show j < i + 1 by omega]
theorem maskLetters_ok (M : Nat → Bool) : ∀ x ∈ maskLetters M 26, 0 ≤ x ∧ x ≤ 255 := by
  intro x hx
  unfold maskLetters at hx
  rw [List.mem_map] at hx
  obtain ⟨j, hj, rfl⟩ := hx
  have := List.mem_range.1 (List.mem_filter.1 hj).1
  omega
theorem letterRow_size (l : List S24) (i : Nat) : (letterRow l i).size ≤ 26 := by
  unfold letterRow
  rw [strOfNums_size]
  unfold maskLetters
  rw [List.length_map]
  exact Nat.le_trans (List.length_filter_le _ _) (by simp)
theorem hasB_row (M : Nat → Bool) (j : Nat) (hj : j < 26) : hasB (strOfNums (maskLetters M 26)) (65 + (j : Int)) = M j := by
  unfold hasB
  rw [Bool.eq_iff_iff, List.any_eq_true]
  constructor
  · rintro ⟨p, hp, h⟩
    have hp' := List.mem_range.1 hp
    rw [strOfNums_size] at hp'
    rw [bt_str _ p (maskLetters_ok M) hp'] at h
    have h2 : (maskLetters M 26).getD p 0 = 65 + (j : Int) := by simpa using h
    have hm : (maskLetters M 26).getD p 0 ∈ maskLetters M 26 := by
      rw [List.getD_eq_getElem?_getD, List.getElem?_eq_getElem hp']
      exact List.getElem_mem hp'
    rw [h2] at hm
    unfold maskLetters at hm
    rw [List.mem_map] at hm
    obtain ⟨q, hq, e⟩ := hm
    rw [List.mem_filter] at hq
    have : q = j := by omega
    rw [← this]
    exact hq.2
  · intro h
    have hm : 65 + (j : Int) ∈ maskLetters M 26 := by
      unfold maskLetters
      rw [List.mem_map]
      exact ⟨j, List.mem_filter.2 ⟨List.mem_range.2 hj, h⟩, rfl⟩
    obtain ⟨p, hp, e⟩ := List.getElem_of_mem hm
    refine ⟨p, List.mem_range.2 (by rw [strOfNums_size]; exact hp), ?_⟩
    rw [bt_str _ p (maskLetters_ok M) hp, List.getD_eq_getElem?_getD, List.getElem?_eq_getElem hp, Option.getD_some, e]
    simp
section
variable {er : Int} {st : ByteArray} {l : List S24} {src : List Int}
theorem true_l3 (h : MadeT er st l src) (i : Nat) (hi : i < l.length) (R : Bool)
    (hR : Ev (fun k => cippuslaw07_StemmaTrue.l1 k l (sourcesV l).1 ((i + 1 : Nat) : Int) st src) R) : ∀ rem b, b + rem = l.length →
    Ev (fun k => cippuslaw07_StemmaTrue.l3 k l (sourcesV l).1 (i : Int) (b : Int) st src) R := by
  intro rem
  have h5 := h.five
  induction rem with
  | zero =>
    intro b hb
    refine Ev.step (fun k => by rw [cippuslaw07_StemmaTrue.l3]) ?_
    refine Ev.if_neg' (by omega) ?_
    rw [wrap64_small (by omega) (by omega)]
    exact hR
  | succ rem ih =>
    intro b hb
    refine Ev.step (fun k => by rw [cippuslaw07_StemmaTrue.l3]) ?_
    refine Ev.if_pos' (by omega) ?_
    have hD : dependsV l (i : Int) (b : Int) = (verdictI ((knownV l).countP fun s => dependB s i b) (knownV l).length, 0) := by
      unfold dependsV
      rw [if_neg (by rw [check_of_valid h.valid]; simp), if_neg (by omega), if_neg (by rw [h.knownE]; simp)]
      rfl
    unfold stemma_Depends.f
    simp only [Option.bind_some, hD]
    refine Ev.if_pos' (by trivial) ?_
    refine Ev.bind (below_ev h i b hi) ?_
    have hf := fits_verdict (knownV l) (fun s => dependB s i b) (srcF src) h.known
    rw [hf]
    simp only [Option.bind_some]
    refine Ev.if_pos' (by trivial) ?_
    rw [show wrap64 ((b : Int) + 1) = ((b + 1 : Nat) : Int) by rw [wrap64_small (by omega) (by omega)]; omega]
    exact ih (b + 1) (by omega)
theorem true_l2 (h : MadeT er st l src) (i : Nat) (hi : i < l.length) (R : Bool)
    (hR : Ev (fun k => cippuslaw07_StemmaTrue.l1 k l (sourcesV l).1 ((i + 1 : Nat) : Int) st src) R) : ∀ rem j, j + rem = i + 1 →
    Ev (fun k => cippuslaw07_StemmaTrue.l2 k l (sourcesV l).1 (i : Int) (j : Int) st src) R := by
  intro rem
  have h5 := h.five
  have hrow := rowsV l h.knownE i hi
  have hlen : (sourcesV l).1.length = l.length := by unfold sourcesV; rw [if_pos h.knownE]; simp
  have hrl : (srcRow l i).length = i + 1 := by simp [srcRow]
  induction rem with
  | zero =>
    intro j hj
    refine Ev.step (fun k => by rw [cippuslaw07_StemmaTrue.l2]) ?_
    rw [hrow]
    refine Ev.if_pos' (by omega) (Ev.if_pos' (by omega) (Ev.if_neg' (by omega) ?_))
    exact true_l3 h i hi R hR l.length 0 (by omega)
  | succ rem ih =>
    intro j hj
    refine Ev.step (fun k => by rw [cippuslaw07_StemmaTrue.l2]) ?_
    rw [hrow]
    refine Ev.if_pos' (by omega) (Ev.if_pos' (by omega) (Ev.if_pos' (by omega) (Ev.if_pos' (by omega) (Ev.if_pos' (by rw [h.made.len]; omega) ?_))))
    rw [rowV l i j (by omega)]
    have e1 : wrap64 ((j : Int) - 1) = (j : Int) - 1 := by simp [wrap64]; omega
    have e2 : (rd src (i : Int) == wrap64 ((j : Int) - 1)) = srcP i j (srcF src) := by rw [e1]; rfl
    rw [e2, fits_verdict (knownV l) (srcP i j) (srcF src) h.known]
    simp only [Option.bind_some]
    refine Ev.if_pos' (by trivial) ?_
    rw [show wrap64 ((j : Int) + 1) = ((j + 1 : Nat) : Int) by rw [wrap64_small (by omega) (by omega)]; omega]
    exact ih (j + 1) (by omega)
theorem true_l1 (h : MadeT er st l src) : ∀ rem i, i + rem = l.length → Ev (fun k => cippuslaw07_StemmaTrue.l1 k l (sourcesV l).1 (i : Int) st src) true := by
  intro rem
  have h5 := h.five
  have hlen : (sourcesV l).1.length = l.length := by unfold sourcesV; rw [if_pos h.knownE]; simp
  induction rem with
  | zero =>
    intro i hi
    refine Ev.step (fun k => by rw [cippuslaw07_StemmaTrue.l1]) ?_
    refine Ev.if_neg' (by omega) ?_
    exact Ev.bind found_ev (Ev.now _)
  | succ rem ih =>
    intro i hi
    refine Ev.step (fun k => by rw [cippuslaw07_StemmaTrue.l1]) ?_
    refine Ev.if_pos' (by omega) (Ev.if_pos' (by omega) ?_)
    rw [rowsV l h.knownE i (by omega)]
    have e1 : wrap64 ((i : Int) + 1) = (i : Int) + 1 := wrap64_small (by omega) (by omega)
    refine Ev.if_pos' (by rw [e1]; simp [srcRow]) ?_
    exact true_l2 h i (by omega) true (ih (i + 1) (by omega)) (i + 1) 0 (by omega)
theorem true_l0 (h : MadeT er st l src) : ∀ rem p, p + rem = st.size → Ev (fun k => cippuslaw07_StemmaTrue.l0 k l (sourcesV l).1 (lettersV l).1 (p : Int) st src) true := by
  intro rem
  have h8 := h.high
  have hfirst := h.first
  have hlen : (lettersV l).1.length = st.size := by unfold lettersV; rw [if_pos h.knownE, ← hfirst]; simp
  induction rem with
  | zero =>
    intro p hp
    refine Ev.step (fun k => by rw [cippuslaw07_StemmaTrue.l0]) ?_
    refine Ev.if_neg' (by omega) ?_
    exact true_l1 h l.length 0 (by omega)
  | succ rem ih =>
    intro p hp
    refine Ev.step (fun k => by rw [cippuslaw07_StemmaTrue.l0]) ?_
    refine Ev.if_pos' (by omega) (Ev.if_pos' (by omega) (Ev.if_pos' (by omega) ?_))
    rw [textsV l h.knownE p (by omega)]
    have hb := h.letters p (by omega)
    obtain ⟨j, hj⟩ : ∃ j : Nat, bt st (p : Int) = 65 + (j : Int) := ⟨(bt st (p : Int) - 65).toNat, by omega⟩
    have hhas : hasB (letterRow l p) (bt st (p : Int)) = true := by
      unfold letterRow
      rw [hj, hasB_row _ j (by omega)]
      exact (mayAt_iff h.valid p j (by omega)).2 ⟨srcF src, letF st, h.tree, h.fit, by unfold letF; rw [if_pos (by omega)]; exact hj⟩
    have he := has_ev (letterRow l p) (bt st (p : Int)) (by have := letterRow_size l p; omega)
    rw [hhas] at he
    refine Ev.bind he ?_
    refine Ev.if_pos' (by trivial) ?_
    rw [show wrap64 ((p : Int) + 1) = ((p + 1 : Nat) : Int) by rw [wrap64_small (by omega) (by omega)]; omega]
    exact ih (p + 1) (by omega)
end
theorem StemmaTrue : cippuslaw07_StemmaTrue.Pure := by
  intro l0 hl _ _
  obtain ⟨a, b, e1⟩ := newUrn_ok l0 (by have : maxLen = 9223372036854775807 := rfl; omega)
  obtain ⟨l, st, src, a2, b2, e2, h, hn, hp⟩ := copiesOf_made a b 5 6 1 (by omega) (by omega) (by omega) (by omega) (by omega) (by omega)
  have hfirst := h.first
  have hk := h.knownE
  refine Ev.rounds ?_
  unfold cippuslaw07_StemmaTrue.f cippuskit_NewUrn.f cippuskit_CopiesOf.f stemma_Sources.f stemma_Letters.f stemma_Fewest.f
  rw [e1]
  simp only [Option.bind_some, e2]
  have s1 : (sourcesV l).2 = 0 := by unfold sourcesV; rw [if_pos hk]
  have s2 : (lettersV l).2 = 0 := by unfold lettersV; rw [if_pos hk]
  have s3 : (fewestV l).2 = 0 := by unfold fewestV; rw [if_pos hk]
  have s4 : (sourcesV l).1.length = l.length := by unfold sourcesV; rw [if_pos hk]; simp
  have s5 : (lettersV l).1.length = st.size := by unfold lettersV; rw [if_pos hk, ← hfirst]; simp
  refine Ev.if_pos' s1 (Ev.if_pos' s2 (Ev.if_pos' s3 (Ev.if_pos' (by omega) (Ev.if_pos' (by omega) ?_))))
  refine Ev.bind (errors_ev h) ?_
  rw [show decide ((fewestV l).1 > errSum l st src l.length) = false from decide_eq_false (by have := h.fewest; omega)]
  refine Ev.step (fun k => by rw [cippuslaw07_StemmaTrue.j0]) ?_
  refine Ev.if_neg' (by decide) ?_
  exact true_l0 h st.size 0 (by omega)
end Go.Proofs.Ytegjollhajgcdaa.Pure
namespace Go.Proofs.YtegjollhajgcdaaW.PrintWords
open Go.ChangeShapes Go.WideShapes
theorem sized_ints {H : Type} {enc : TypeId × Value → H} {P : Program} {W : World} {base : Nat} {spare : Nat → Bool} {held : Bool} {t e : TypeId} {k : IntKind} {a : Option Addr} {len cap : Nat} {d : DataW H} {ps : List MemPlace} {ts : List TypeId} {ds : List (DataW H)} {j : Nat}
    (hsz : (DataW.weightsEach P ts ds).all (· ≤ reachBytes) = true) (ht : ts[j]? = some t) (hd : ds[j]? = some d) (hu : P.underlying t = some (.slice e)) (he : P.underlying e = some (.int k)) (hc : P.cellsOf e = 1) {B : Nat} (hB : P.bytesOf e = B)
    (h : DataW.Trod enc P W base spare held t (.slice a len cap) d ps) : len * B ≤ 140737488351232 := by
  obtain ⟨fuel, hf⟩ := h
  rcases open_ints hu he hc hf with ⟨hcs, _⟩ | ⟨x, l, c, zs, hcs, _, hl, _, hz, hx, _, _⟩
  · simp [Value.cells] at hcs
    obtain ⟨rfl, rfl, rfl⟩ := hcs
    simp
  · simp [Value.cells] at hcs
    obtain ⟨rfl, rfl, rfl⟩ := hcs
    obtain ⟨hx, _⟩ := Prod.mk.inj hx
    subst hx
    have z := sized_slice hsz ht hd hu
    rw [hB] at z
    have hl2 : len ≤ zs.length := by
      rw [hz]
      split
      · exact hl
      · exact Nat.le_refl _
    have h1 : (lits (H := H) k (zs.take len)).length + (lits (H := H) k (zs.drop len)).length = zs.length := by
      simp [lits]
      omega
    rw [h1] at z
    exact Nat.le_trans (Nat.mul_le_mul_right _ hl2) z
end Go.Proofs.YtegjollhajgcdaaW.PrintWords
namespace Go.Proofs.Ytegjollhajgcdaa.stemmaTrue
open Go.ChangeShapes Go.WideShapes Go.ChangeAt Go.RowKit
open Go.ChangeMaps (open_string shut_string)
set_option linter.unusedVariables false
theorem own : ownKnob Try.prog.godebug = none := by kernel_rfl
theorem laidOut : laidOutB Try.prog = true := by kernel_rfl
def IsRow (k : IntKind) (w : World) (a : Option Addr) (len cap : Nat) (zs : List Int) : Prop :=
  (a = none ∧ len = 0 ∧ cap = 0 ∧ zs = []) ∨
  ∃ x, a = some x ∧ len ≤ cap ∧ cap ≤ maxLen ∧ zs.length = cap ∧ (∀ i, i < zs.length → w.cell? (x.add i) = some (.int k (zs.getD i 0))) ∧ ∀ n ∈ zs, (Lit.int k n).wf = true
set_option maxRecDepth 100000 in
theorem lifted (os : Os) (started : os.Started) (H : Type) (enc : TypeId × Value → H) :
    ReturnsInHanded {} Try.checked os 11 .any (Rows.stemmaTrueSpec.pre6 enc Try.prog Try.f11 Rows.stemmaTrueRow.domain false) (Rows.stemmaTrueSpec.post enc Try.prog Try.f11 false true false false) := by
  refine returnsInHanded_of_change_sized (C := Try.checked) own started (by kernel_rfl) Try.func11
    (ChangeSpec.witness6 (enc := enc) (C := Try.checked) false ⟨#[], #[.slice none 0 0], []⟩ 8 (by kernel_rfl) (by kernel_rfl) (by kernel_rfl) (by kernel_rfl)) ?_
  intro W base args ds gs before hval0 hW hcnd hsz0 _
  have hsz : (DataW.weightsEach Try.prog (Try.f11.params.toList ++ Rows.stemmaTrueSpec.plain.varTypes Try.prog) (ds ++ gs)).all (· ≤ reachBytes) = true := hsz0
  have hval : ∀ (j : Nat) t v, Try.f11.params[j]? = some t → args[j]? = some v → Value.okWide Try.prog W .any base t v := hval0
  have hW' := hW
  obtain ⟨p, q, hA0, hV, rfl, hfz, hnd⟩ := hW
  have hA : DataW.TrodAll enc Try.prog W 0 (fun _ => true) true Try.f11.params.toList args.toList ds p := hA0
  rw [Try.params11] at hA hval hsz
  obtain ⟨v0, vs0, d0, ds0, p0, q0, hargs, rfl, rfl, h0, r0⟩ := trodAll_cons hA
  obtain ⟨rfl, rfl, rfl⟩ := trodAll_nil r0
  obtain rfl : args = #[v0] := by cases args; simp_all
  obtain ⟨rfl, rfl⟩ := trodVars_none hV
  obtain ⟨a0, len0, cap0, rfl⟩ := okWide_slice Try.underlying25 (hval 0 25 v0 rfl rfl)
  have k0 := h0
  have lt0 : ∀ x ∈ p0, x.block < W.heap.size := by obtain ⟨m, hm⟩ := k0; exact DataW.trod_lt m _ _ _ hm
  obtain ⟨z0, w0⟩ : ∃ zs, IsRow .i64 W a0 len0 cap0 zs := by
    obtain ⟨fuel, hf⟩ := h0
    rcases open_ints Try.underlying25 Try.underlying3 (by kernel_rfl) hf with ⟨hcs, _⟩ | ⟨x, l, c, zs, hcs, _, hl, hm, hz, _, hcell, hwz⟩
    · simp [Value.cells] at hcs
      obtain ⟨rfl, rfl, rfl⟩ := hcs
      exact ⟨[], .inl ⟨rfl, rfl, rfl, rfl⟩⟩
    · simp [Value.cells] at hcs
      obtain ⟨rfl, rfl, rfl⟩ := hcs
      exact ⟨zs, .inr ⟨_, rfl, hl, hm, by simpa using hz, hcell, hwz⟩⟩
  have y0 : len0 * 8 ≤ 140737488351232 := Go.Proofs.YtegjollhajgcdaaW.PrintWords.sized_ints hsz (j := 0) (t := 25) rfl rfl Try.underlying25 Try.underlying3 (by kernel_rfl) (by kernel_rfl) h0
  clear hA0 hval0 hsz0 hsz
  refine (P.cippuslaw07_StemmaTrue.walk Pure.StemmaTrue a0 len0 cap0 z0 W w0 y0).mono fun e W' ⟨he, bel⟩ => ?_
  subst he
  exact ⟨_, rfl, _, _, _, [], _, [], hW', trodAll_mk1 (shut_bool Try.underlying4 _), (trodAll_cons_mk (Below.trod laidOut (by kernel_rfl) (of_decide_eq_true (by kernel_rfl)) k0 bel lt0) trodAll_mk0), rfl, bel.frame _, fun h => by cases h⟩
theorem over : Rows.stemmaTrueRow.holds Try.pinned (OpenSpec.ofChange Rows.stemmaTrueSpec) :=
  OpenClaim.holds_of_wide 11 Try.f11 rfl rfl rfl rfl rfl rfl rfl ⟨rfl, rfl, rfl, rfl, rfl⟩ rfl rfl rfl rfl rfl (by kernel_rfl) Try.func11 (by kernel_rfl)
    (of_decide_eq_true (by kernel_rfl)) (by unfold Func.isWrapper; first | (rw [if_pos (by decide +kernel)]; kernel_rfl) | (rw [if_neg (by decide +kernel)]; exact ⟨rfl, rfl⟩))
    (fun os started H enc _ => lifted os started H enc)
theorem proved : Rows.StemmaTrueSaid := over
#print axioms proved
end Go.Proofs.Ytegjollhajgcdaa.stemmaTrue
namespace Go.Proofs.Ytegjollhajgcdaa
theorem stemmaTrue_holds : Rows.StemmaTrueSaid := stemmaTrue.proved
end Go.Proofs.Ytegjollhajgcdaa
