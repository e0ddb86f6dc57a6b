/- The statement StemmaLater holds of the given program. Conditions: none beyond those of its row. -/
import Derived.SizedLaws
import Derived.ChangeSlices
import Derived.Test.YtegjollhajgcdaaRows
import Derived.WalkKit
import Derived.ProofKit
import Derived.OpenShut
import Derived.ShutString
import Derived.ChangeOld
import Derived.Below
import Derived.Test.YtegjollhajgcdaaB4
set_option linter.unusedVariables false
set_option linter.unusedSimpArgs false
namespace Go.Proofs.Ytegjollhajgcdaa.P
open Go.RowKit Go.Proofs.YtegjollhajgcdaaW.PrintWords Go.Proofs.YtegjollhajgcdaaW.PrintLast Go.Proofs.YtegjollhajgcdaaW.PrintMore
attribute [local go_sem] max2_int min2_int max_two min_two max_three min_three max_four min_four   -- for this text's walks alone
set_option linter.unusedVariables false
set_option linter.unusedSimpArgs false
mutual
def cippuslaw07_StemmaLater.j0 : Nat → List ByteArray → List ByteArray → List (List Int) → List (List Int) → Bool → Option (Bool)
  | 0, _, _, _, _, _ => none
  | k + 1, x7, x9, x15, x17, x116 => if x116 = true then (some false) else (cippuslaw07_StemmaLater.l0 k x7 x9 x15 x17 0)
def cippuslaw07_StemmaLater.l0 : Nat → List ByteArray → List ByteArray → List (List Int) → List (List Int) → Int → Option (Bool)
  | 0, _, _, _, _, _ => none
  | k + 1, x7, x9, x15, x17, x19 => if x19 < (x7.length : Int) then (cippuslaw07_StemmaLater.l1 k x7 x9 x15 x17 x19 0) else (cippuslaw07_StemmaLater.l2 k x15 x17 0)
def cippuslaw07_StemmaLater.l1 : Nat → List ByteArray → List ByteArray → List (List Int) → List (List Int) → Int → Int → Option (Bool)
  | 0, _, _, _, _, _, _ => none
  | k + 1, x7, x9, x15, x17, x19, x20 => if 0 ≤ x19 then (if x19 < (x9.length : Int) then (if x20 < ((rdOf ByteArray.empty x9 x19).size : Int) then (if x19 < (x7.length : Int) then (if 0 ≤ x20 then ((cippuslaw07_has.f k (rdOf ByteArray.empty x7 x19) (bt (rdOf ByteArray.empty x9 x19) x20)).bind fun t594 => (if t594 = true then (cippuslaw07_StemmaLater.l1 k x7 x9 x15 x17 x19 (wrap64 (x20 + 1))) else (some false))) else (none)) else (none)) else (cippuslaw07_StemmaLater.l0 k x7 x9 x15 x17 (wrap64 (x19 + 1)))) else (none)) else (none)
def cippuslaw07_StemmaLater.l2 : Nat → List (List Int) → List (List Int) → Int → Option (Bool)
  | 0, _, _, _ => none
  | k + 1, x15, x17, x21 => if x21 < (x15.length : Int) then (if 0 ≤ x21 then (if x21 < (x17.length : Int) then (if ((rd_L4 x15 x21).length : Int) = ((rd_L4 x17 x21).length : Int) then (cippuslaw07_StemmaLater.l3 k x15 x17 x21 0) else (some false)) else (none)) else (none)) else ((cippuslaw07_found.f k).bind fun t595 => (some t595))
def cippuslaw07_StemmaLater.l3 : Nat → List (List Int) → List (List Int) → Int → Int → Option (Bool)
  | 0, _, _, _, _ => none
  | k + 1, x15, x17, x21, x22 => if 0 ≤ x21 then (if x21 < (x15.length : Int) then (if x22 < ((rd_L4 x15 x21).length : Int) then (if 0 ≤ x22 then (if (rd (rd_L4 x15 x21) x22) = 3 then (cippuslaw07_StemmaLater.l3 k x15 x17 x21 (wrap64 (x22 + 1))) else (if x21 < (x17.length : Int) then (if x22 < ((rd_L4 x17 x21).length : Int) then (if (rd (rd_L4 x17 x21) x22) = (rd (rd_L4 x15 x21) x22) then (cippuslaw07_StemmaLater.l3 k x15 x17 x21 (wrap64 (x22 + 1))) else (some false)) else (none)) else (none))) else (none)) else (cippuslaw07_StemmaLater.l2 k x15 x17 (wrap64 (x21 + 1)))) else (none)) else (none)
end
def cippuslaw07_StemmaLater.f (k : Nat) (l0 : List Int) : Option (Bool) := (cippuskit_NewUrn.f l0).bind fun bt552 => ((cippuskit_CopiesOf.f bt552.1 bt552.2 5 5 1).bind fun bt555 => (if (bt555.1.length : Int) < 2 then ((cippuslaw07_found.f k).bind fun t565 => (some t565)) else (if 0 ≤ (wrap64 ((bt555.1.length : Int) - 1)) then (if (wrap64 ((bt555.1.length : Int) - 1)) ≤ (bt555.1.length : Int) then ((some (bt555.1.take ((wrap64 ((bt555.1.length : Int) - 1)) : Int).toNat : List (S24))).bind fun y566 => ((stemma_Letters.f k y566).bind fun bt571 => ((stemma_Letters.f k bt555.1).bind fun bt575 => ((stemma_Fewest.f k y566).bind fun bt579 => ((stemma_Fewest.f k bt555.1).bind fun bt581 => ((stemma_Sources.f k y566).bind fun bt583 => ((stemma_Sources.f k bt555.1).bind fun bt587 => (if bt571.2 = 0 then (if bt575.2 = 0 then (if bt579.2 = 0 then (if bt581.2 = 0 then (if bt583.2 = 0 then (if bt587.2 = 0 then (if bt581.1 < bt579.1 then (cippuslaw07_StemmaLater.j0 k bt571.1 bt575.1 bt583.1 bt587.1 true) else (if (bt571.1.length : Int) = (bt575.1.length : Int) then (if (bt583.1.length : Int) = (y566.length : Int) then (cippuslaw07_StemmaLater.j0 k bt571.1 bt575.1 bt583.1 bt587.1 ((bt587.1.length : Int) != (bt555.1.length : Int))) else (cippuslaw07_StemmaLater.j0 k bt571.1 bt575.1 bt583.1 bt587.1 true)) else (cippuslaw07_StemmaLater.j0 k bt571.1 bt575.1 bt583.1 bt587.1 true))) else (cippuslaw07_StemmaLater.j0 k bt571.1 bt575.1 bt583.1 bt587.1 true)) else (cippuslaw07_StemmaLater.j0 k bt571.1 bt575.1 bt583.1 bt587.1 true)) else (cippuslaw07_StemmaLater.j0 k bt571.1 bt575.1 bt583.1 bt587.1 true)) else (cippuslaw07_StemmaLater.j0 k bt571.1 bt575.1 bt583.1 bt587.1 true)) else (cippuslaw07_StemmaLater.j0 k bt571.1 bt575.1 bt583.1 bt587.1 true)) else (cippuslaw07_StemmaLater.j0 k bt571.1 bt575.1 bt583.1 bt587.1 true))))))))) else (none)) else (none))))
theorem cippuslaw07_StemmaLater.mono_l : ∀ k, (∀ y0 y1 y2 y3 y4, LeO (cippuslaw07_StemmaLater.j0 k y0 y1 y2 y3 y4) (cippuslaw07_StemmaLater.j0 (k + 1) y0 y1 y2 y3 y4)) ∧ (∀ y0 y1 y2 y3 y4, LeO (cippuslaw07_StemmaLater.l0 k y0 y1 y2 y3 y4) (cippuslaw07_StemmaLater.l0 (k + 1) y0 y1 y2 y3 y4)) ∧ (∀ y0 y1 y2 y3 y4 y5, LeO (cippuslaw07_StemmaLater.l1 k y0 y1 y2 y3 y4 y5) (cippuslaw07_StemmaLater.l1 (k + 1) y0 y1 y2 y3 y4 y5)) ∧ (∀ y0 y1 y2, LeO (cippuslaw07_StemmaLater.l2 k y0 y1 y2) (cippuslaw07_StemmaLater.l2 (k + 1) y0 y1 y2)) ∧ (∀ y0 y1 y2 y3, LeO (cippuslaw07_StemmaLater.l3 k y0 y1 y2 y3) (cippuslaw07_StemmaLater.l3 (k + 1) y0 y1 y2 y3))
  | 0 => ⟨fun _ _ _ _ _ r h => by simp [cippuslaw07_StemmaLater.j0] at h, fun _ _ _ _ _ r h => by simp [cippuslaw07_StemmaLater.l0] at h, fun _ _ _ _ _ _ r h => by simp [cippuslaw07_StemmaLater.l1] at h, fun _ _ _ r h => by simp [cippuslaw07_StemmaLater.l2] at h, fun _ _ _ _ r h => by simp [cippuslaw07_StemmaLater.l3] at h⟩
  | k + 1 => by
    obtain ⟨ih0, ih1, ih2, ih3, ih4⟩ := cippuslaw07_StemmaLater.mono_l k
    refine ⟨?_, ?_, ?_, ?_, ?_⟩
    · intro y0 y1 y2 y3 y4
      unfold cippuslaw07_StemmaLater.j0
      repeat' first
      | (with_reducible exact ih0 _ _ _ _ _)
      | (with_reducible exact ih1 _ _ _ _ _)
      | (with_reducible exact ih2 _ _ _ _ _ _)
      | (with_reducible exact ih3 _ _ _)
      | (with_reducible exact ih4 _ _ _ _)
      | (with_reducible exact cippuslaw07_found.mono _)
      | (with_reducible exact cippuslaw07_has.mono _ _ _)
      | (with_reducible exact stemma_Fewest.mono _ _)
      | (with_reducible exact stemma_Letters.mono _ _)
      | (with_reducible exact stemma_Sources.mono _ _)
      | (with_reducible exact LeO.refl _)
      | (with_reducible exact LeO.none _)
      | (with_reducible refine LeO.ite ?_ ?_)
      | (with_reducible refine LeO.bind ?_ (fun _ => ?_))
      | exact ih0 _ _ _ _ _
      | exact ih1 _ _ _ _ _
      | exact ih2 _ _ _ _ _ _
      | exact ih3 _ _ _
      | exact ih4 _ _ _ _
      | exact cippuslaw07_found.mono _
      | exact cippuslaw07_has.mono _ _ _
      | exact stemma_Fewest.mono _ _
      | exact stemma_Letters.mono _ _
      | exact stemma_Sources.mono _ _
      | exact LeO.none _
      | refine LeO.ite ?_ ?_
      | refine LeO.bind ?_ (fun _ => ?_)
    · intro y0 y1 y2 y3 y4
      unfold cippuslaw07_StemmaLater.l0
      repeat' first
      | (with_reducible exact ih0 _ _ _ _ _)
      | (with_reducible exact ih1 _ _ _ _ _)
      | (with_reducible exact ih2 _ _ _ _ _ _)
      | (with_reducible exact ih3 _ _ _)
      | (with_reducible exact ih4 _ _ _ _)
      | (with_reducible exact cippuslaw07_found.mono _)
      | (with_reducible exact cippuslaw07_has.mono _ _ _)
      | (with_reducible exact stemma_Fewest.mono _ _)
      | (with_reducible exact stemma_Letters.mono _ _)
      | (with_reducible exact stemma_Sources.mono _ _)
      | (with_reducible exact LeO.refl _)
      | (with_reducible exact LeO.none _)
      | (with_reducible refine LeO.ite ?_ ?_)
      | (with_reducible refine LeO.bind ?_ (fun _ => ?_))
      | exact ih0 _ _ _ _ _
      | exact ih1 _ _ _ _ _
      | exact ih2 _ _ _ _ _ _
      | exact ih3 _ _ _
      | exact ih4 _ _ _ _
      | exact cippuslaw07_found.mono _
      | exact cippuslaw07_has.mono _ _ _
      | exact stemma_Fewest.mono _ _
      | exact stemma_Letters.mono _ _
      | exact stemma_Sources.mono _ _
      | exact LeO.none _
      | refine LeO.ite ?_ ?_
      | refine LeO.bind ?_ (fun _ => ?_)
    · intro y0 y1 y2 y3 y4 y5
      unfold cippuslaw07_StemmaLater.l1
      repeat' first
      | (with_reducible exact ih0 _ _ _ _ _)
      | (with_reducible exact ih1 _ _ _ _ _)
      | (with_reducible exact ih2 _ _ _ _ _ _)
      | (with_reducible exact ih3 _ _ _)
      | (with_reducible exact ih4 _ _ _ _)
      | (with_reducible exact cippuslaw07_found.mono _)
      | (with_reducible exact cippuslaw07_has.mono _ _ _)
      | (with_reducible exact stemma_Fewest.mono _ _)
      | (with_reducible exact stemma_Letters.mono _ _)
      | (with_reducible exact stemma_Sources.mono _ _)
      | (with_reducible exact LeO.refl _)
      | (with_reducible exact LeO.none _)
      | (with_reducible refine LeO.ite ?_ ?_)
      | (with_reducible refine LeO.bind ?_ (fun _ => ?_))
      | exact ih0 _ _ _ _ _
      | exact ih1 _ _ _ _ _
      | exact ih2 _ _ _ _ _ _
      | exact ih3 _ _ _
      | exact ih4 _ _ _ _
      | exact cippuslaw07_found.mono _
      | exact cippuslaw07_has.mono _ _ _
      | exact stemma_Fewest.mono _ _
      | exact stemma_Letters.mono _ _
      | exact stemma_Sources.mono _ _
      | exact LeO.none _
      | refine LeO.ite ?_ ?_
      | refine LeO.bind ?_ (fun _ => ?_)
    · intro y0 y1 y2
      unfold cippuslaw07_StemmaLater.l2
      repeat' first
      | (with_reducible exact ih0 _ _ _ _ _)
      | (with_reducible exact ih1 _ _ _ _ _)
      | (with_reducible exact ih2 _ _ _ _ _ _)
      | (with_reducible exact ih3 _ _ _)
      | (with_reducible exact ih4 _ _ _ _)
      | (with_reducible exact cippuslaw07_found.mono _)
      | (with_reducible exact cippuslaw07_has.mono _ _ _)
      | (with_reducible exact stemma_Fewest.mono _ _)
      | (with_reducible exact stemma_Letters.mono _ _)
      | (with_reducible exact stemma_Sources.mono _ _)
      | (with_reducible exact LeO.refl _)
      | (with_reducible exact LeO.none _)
      | (with_reducible refine LeO.ite ?_ ?_)
      | (with_reducible refine LeO.bind ?_ (fun _ => ?_))
      | exact ih0 _ _ _ _ _
      | exact ih1 _ _ _ _ _
      | exact ih2 _ _ _ _ _ _
      | exact ih3 _ _ _
      | exact ih4 _ _ _ _
      | exact cippuslaw07_found.mono _
      | exact cippuslaw07_has.mono _ _ _
      | exact stemma_Fewest.mono _ _
      | exact stemma_Letters.mono _ _
      | exact stemma_Sources.mono _ _
      | exact LeO.none _
      | refine LeO.ite ?_ ?_
      | refine LeO.bind ?_ (fun _ => ?_)
    · intro y0 y1 y2 y3
      unfold cippuslaw07_StemmaLater.l3
      repeat' first
      | (with_reducible exact ih0 _ _ _ _ _)
      | (with_reducible exact ih1 _ _ _ _ _)
      | (with_reducible exact ih2 _ _ _ _ _ _)
      | (with_reducible exact ih3 _ _ _)
      | (with_reducible exact ih4 _ _ _ _)
      | (with_reducible exact cippuslaw07_found.mono _)
      | (with_reducible exact cippuslaw07_has.mono _ _ _)
      | (with_reducible exact stemma_Fewest.mono _ _)
      | (with_reducible exact stemma_Letters.mono _ _)
      | (with_reducible exact stemma_Sources.mono _ _)
      | (with_reducible exact LeO.refl _)
      | (with_reducible exact LeO.none _)
      | (with_reducible refine LeO.ite ?_ ?_)
      | (with_reducible refine LeO.bind ?_ (fun _ => ?_))
      | exact ih0 _ _ _ _ _
      | exact ih1 _ _ _ _ _
      | exact ih2 _ _ _ _ _ _
      | exact ih3 _ _ _
      | exact ih4 _ _ _ _
      | exact cippuslaw07_found.mono _
      | exact cippuslaw07_has.mono _ _ _
      | exact stemma_Fewest.mono _ _
      | exact stemma_Letters.mono _ _
      | exact stemma_Sources.mono _ _
      | exact LeO.none _
      | refine LeO.ite ?_ ?_
      | refine LeO.bind ?_ (fun _ => ?_)
theorem cippuslaw07_StemmaLater.mono : ∀ a0 k, LeO (cippuslaw07_StemmaLater.f k a0) (cippuslaw07_StemmaLater.f (k + 1) a0) := by
  intro a0 k
  obtain ⟨ih0, ih1, ih2, ih3, ih4⟩ := cippuslaw07_StemmaLater.mono_l k
  unfold cippuslaw07_StemmaLater.f
  repeat' first
      | (with_reducible exact ih0 _ _ _ _ _)
      | (with_reducible exact ih1 _ _ _ _ _)
      | (with_reducible exact ih2 _ _ _ _ _ _)
      | (with_reducible exact ih3 _ _ _)
      | (with_reducible exact ih4 _ _ _ _)
      | (with_reducible exact cippuslaw07_found.mono _)
      | (with_reducible exact cippuslaw07_has.mono _ _ _)
      | (with_reducible exact stemma_Fewest.mono _ _)
      | (with_reducible exact stemma_Letters.mono _ _)
      | (with_reducible exact stemma_Sources.mono _ _)
      | (with_reducible exact LeO.refl _)
      | (with_reducible exact LeO.none _)
      | (with_reducible refine LeO.ite ?_ ?_)
      | (with_reducible refine LeO.bind ?_ (fun _ => ?_))
      | exact ih0 _ _ _ _ _
      | exact ih1 _ _ _ _ _
      | exact ih2 _ _ _ _ _ _
      | exact ih3 _ _ _
      | exact ih4 _ _ _ _
      | exact cippuslaw07_found.mono _
      | exact cippuslaw07_has.mono _ _ _
      | exact stemma_Fewest.mono _ _
      | exact stemma_Letters.mono _ _
      | exact stemma_Sources.mono _ _
      | exact LeO.none _
      | refine LeO.ite ?_ ?_
      | refine LeO.bind ?_ (fun _ => ?_)
set_option maxHeartbeats 8000000 in
set_option maxRecDepth 100000 in
theorem cippuslaw07_StemmaLater.calls (k : Nat) (A0 : Option Addr) (c0 : Nat) (l0 : List Int) (r : Bool) (w : World) (hr0 : Kd.C (Kd.int .i64) w A0 l0.length l0) (hc0 : l0.length ≤ c0) (h : cippuslaw07_StemmaLater.f k l0 = some r) :
    Calls Try.prog 9 #[.slice A0 l0.length c0] w fun e w' => e = .returned (.bool r) ∧ Below w.heap.size w w' := by
  have hu27 := Try.underlying27
  have HR0 := Aside0.mk hr0
  have HC0 := Aside0.mk hc0
  clear hr0 hc0
  have HB := Aside0.mk (Below.refl w.heap.size w)
  have H : ((cippuskit_NewUrn.f l0).bind fun bt552 => ((cippuskit_CopiesOf.f bt552.1 bt552.2 5 5 1).bind fun bt555 => (if (bt555.1.length : Int) < 2 then ((cippuslaw07_found.f k).bind fun t565 => (some t565)) else (if 0 ≤ (wrap64 ((bt555.1.length : Int) - 1)) then (if (wrap64 ((bt555.1.length : Int) - 1)) ≤ (bt555.1.length : Int) then ((some (bt555.1.take ((wrap64 ((bt555.1.length : Int) - 1)) : Int).toNat : List (S24))).bind fun y566 => ((stemma_Letters.f k y566).bind fun bt571 => ((stemma_Letters.f k bt555.1).bind fun bt575 => ((stemma_Fewest.f k y566).bind fun bt579 => ((stemma_Fewest.f k bt555.1).bind fun bt581 => ((stemma_Sources.f k y566).bind fun bt583 => ((stemma_Sources.f k bt555.1).bind fun bt587 => (if bt571.2 = 0 then (if bt575.2 = 0 then (if bt579.2 = 0 then (if bt581.2 = 0 then (if bt583.2 = 0 then (if bt587.2 = 0 then (if bt581.1 < bt579.1 then (cippuslaw07_StemmaLater.j0 k bt571.1 bt575.1 bt583.1 bt587.1 true) else (if (bt571.1.length : Int) = (bt575.1.length : Int) then (if (bt583.1.length : Int) = (y566.length : Int) then (cippuslaw07_StemmaLater.j0 k bt571.1 bt575.1 bt583.1 bt587.1 ((bt587.1.length : Int) != (bt555.1.length : Int))) else (cippuslaw07_StemmaLater.j0 k bt571.1 bt575.1 bt583.1 bt587.1 true)) else (cippuslaw07_StemmaLater.j0 k bt571.1 bt575.1 bt583.1 bt587.1 true))) else (cippuslaw07_StemmaLater.j0 k bt571.1 bt575.1 bt583.1 bt587.1 true)) else (cippuslaw07_StemmaLater.j0 k bt571.1 bt575.1 bt583.1 bt587.1 true)) else (cippuslaw07_StemmaLater.j0 k bt571.1 bt575.1 bt583.1 bt587.1 true)) else (cippuslaw07_StemmaLater.j0 k bt571.1 bt575.1 bt583.1 bt587.1 true)) else (cippuslaw07_StemmaLater.j0 k bt571.1 bt575.1 bt583.1 bt587.1 true)) else (cippuslaw07_StemmaLater.j0 k bt571.1 bt575.1 bt583.1 bt587.1 true))))))))) else (none)) else (none))))) = some r := h
  clear h
  replace H := Option.bind_eq_some_iff.mp H
  obtain ⟨⟨t552, t553⟩, A20, H⟩ := H
  replace H : ((cippuskit_CopiesOf.f t552 t553 5 5 1).bind fun bt555 => (if (bt555.1.length : Int) < 2 then ((cippuslaw07_found.f k).bind fun t565 => (some t565)) else (if 0 ≤ (wrap64 ((bt555.1.length : Int) - 1)) then (if (wrap64 ((bt555.1.length : Int) - 1)) ≤ (bt555.1.length : Int) then ((some (bt555.1.take ((wrap64 ((bt555.1.length : Int) - 1)) : Int).toNat : List (S24))).bind fun y566 => ((stemma_Letters.f k y566).bind fun bt571 => ((stemma_Letters.f k bt555.1).bind fun bt575 => ((stemma_Fewest.f k y566).bind fun bt579 => ((stemma_Fewest.f k bt555.1).bind fun bt581 => ((stemma_Sources.f k y566).bind fun bt583 => ((stemma_Sources.f k bt555.1).bind fun bt587 => (if bt571.2 = 0 then (if bt575.2 = 0 then (if bt579.2 = 0 then (if bt581.2 = 0 then (if bt583.2 = 0 then (if bt587.2 = 0 then (if bt581.1 < bt579.1 then (cippuslaw07_StemmaLater.j0 k bt571.1 bt575.1 bt583.1 bt587.1 true) else (if (bt571.1.length : Int) = (bt575.1.length : Int) then (if (bt583.1.length : Int) = (y566.length : Int) then (cippuslaw07_StemmaLater.j0 k bt571.1 bt575.1 bt583.1 bt587.1 ((bt587.1.length : Int) != (bt555.1.length : Int))) else (cippuslaw07_StemmaLater.j0 k bt571.1 bt575.1 bt583.1 bt587.1 true)) else (cippuslaw07_StemmaLater.j0 k bt571.1 bt575.1 bt583.1 bt587.1 true))) else (cippuslaw07_StemmaLater.j0 k bt571.1 bt575.1 bt583.1 bt587.1 true)) else (cippuslaw07_StemmaLater.j0 k bt571.1 bt575.1 bt583.1 bt587.1 true)) else (cippuslaw07_StemmaLater.j0 k bt571.1 bt575.1 bt583.1 bt587.1 true)) else (cippuslaw07_StemmaLater.j0 k bt571.1 bt575.1 bt583.1 bt587.1 true)) else (cippuslaw07_StemmaLater.j0 k bt571.1 bt575.1 bt583.1 bt587.1 true)) else (cippuslaw07_StemmaLater.j0 k bt571.1 bt575.1 bt583.1 bt587.1 true))))))))) else (none)) else (none)))) = some r := H
  have A2 := Aside0.mk A20
  clear A20
  replace H := Option.bind_eq_some_iff.mp H
  obtain ⟨⟨t555, t558, t559, t562, t563⟩, A30, H⟩ := H
  replace H : (if (t555.length : Int) < 2 then ((cippuslaw07_found.f k).bind fun t565 => (some t565)) else (if 0 ≤ (wrap64 ((t555.length : Int) - 1)) then (if (wrap64 ((t555.length : Int) - 1)) ≤ (t555.length : Int) then ((some (t555.take ((wrap64 ((t555.length : Int) - 1)) : Int).toNat : List (S24))).bind fun y566 => ((stemma_Letters.f k y566).bind fun bt571 => ((stemma_Letters.f k t555).bind fun bt575 => ((stemma_Fewest.f k y566).bind fun bt579 => ((stemma_Fewest.f k t555).bind fun bt581 => ((stemma_Sources.f k y566).bind fun bt583 => ((stemma_Sources.f k t555).bind fun bt587 => (if bt571.2 = 0 then (if bt575.2 = 0 then (if bt579.2 = 0 then (if bt581.2 = 0 then (if bt583.2 = 0 then (if bt587.2 = 0 then (if bt581.1 < bt579.1 then (cippuslaw07_StemmaLater.j0 k bt571.1 bt575.1 bt583.1 bt587.1 true) else (if (bt571.1.length : Int) = (bt575.1.length : Int) then (if (bt583.1.length : Int) = (y566.length : Int) then (cippuslaw07_StemmaLater.j0 k bt571.1 bt575.1 bt583.1 bt587.1 ((bt587.1.length : Int) != (t555.length : Int))) else (cippuslaw07_StemmaLater.j0 k bt571.1 bt575.1 bt583.1 bt587.1 true)) else (cippuslaw07_StemmaLater.j0 k bt571.1 bt575.1 bt583.1 bt587.1 true))) else (cippuslaw07_StemmaLater.j0 k bt571.1 bt575.1 bt583.1 bt587.1 true)) else (cippuslaw07_StemmaLater.j0 k bt571.1 bt575.1 bt583.1 bt587.1 true)) else (cippuslaw07_StemmaLater.j0 k bt571.1 bt575.1 bt583.1 bt587.1 true)) else (cippuslaw07_StemmaLater.j0 k bt571.1 bt575.1 bt583.1 bt587.1 true)) else (cippuslaw07_StemmaLater.j0 k bt571.1 bt575.1 bt583.1 bt587.1 true)) else (cippuslaw07_StemmaLater.j0 k bt571.1 bt575.1 bt583.1 bt587.1 true))))))))) else (none)) else (none))) = some r := H
  have A3 := Aside0.mk A30
  clear A30
  by_cases c4 : (t555.length : Int) < 2
  · rw [if_pos c4] at H
    have c4b0 : decide ((t555.length : Int) < 2) = true := decide_eq_true c4
    have c4b1 : decide (t555.length < 2) = true := decide_eq_true (by omega)
    clear c4
    replace H := Option.bind_eq_some_iff.mp H
    obtain ⟨t565, A50, H⟩ := H
    replace H : (some t565) = some r := H
    have A5 := Aside0.mk A50
    clear A50
    obtain rfl := Option.some.inj H
    go_enter Try.func9, Try.ntmps9
    go_wp2_with (first | (go_at_call 14; (with_reducible refine (cippuskit_NewUrn.calls _ _ l0 t552 t553 w _ ?side1 ?side2 ?side3 A2.out).mono ?_); (case side1 => repeat (first | (with_reducible first | exact HB.out | apply below_alloc | apply pw_below_drewN | apply below_drew1) | exact HB.out)); (case side2 => exact HR0.out); (case side3 => exact HC0.out); rintro e w6 ⟨g554, rfl, hi, hb, hb2⟩; have n0_ := Aside0.mk (hb); have n1_ := Aside0.mk (hi); clear HB; have HB := n0_; have HI554 := n1_; clear n0_ n1_; (try clear hb); (try clear hb2); (try clear hk); (try clear hi)) | (go_at_call 13; (with_reducible refine (cippuskit_CopiesOf.calls g554 t552 t553 5 5 1 t555 t558 t559 t562 t563 w _ ?side1 ?side2 A3.out).mono ?_); (case side1 => repeat (first | (with_reducible first | exact HI554.out | apply IsS72.alloc | apply IsS72.drewN | apply IsS72.drew | apply IsS72.set_0 | apply IsS72.set_1) | exact HI554.out)); (case side2 => repeat (first | (with_reducible first | exact HB.out | apply below_alloc | apply pw_below_drewN | apply below_drew1 | refine below_set ?_ (IsS72.ge HI554.out)) | exact HB.out)); rintro e w7 ⟨v556, v560, rfl, ho0, ho1, hi, hb, hk⟩; have n0_ := Aside0.mk (Kd.R_lower ho0 (below_size (by repeat (first | (with_reducible first | exact HB.out | apply below_alloc | apply pw_below_drewN | apply below_drew1 | refine below_set ?_ (IsS72.ge HI554.out)) | exact HB.out)))); have n1_ := Aside0.mk (Kd.R_lower ho1 (below_size (by repeat (first | (with_reducible first | exact HB.out | apply below_alloc | apply pw_below_drewN | apply below_drew1 | refine below_set ?_ (IsS72.ge HI554.out)) | exact HB.out)))); have n2_ := Aside0.mk (hb); have n3_ := Aside0.mk (hi); clear HB; clear HI554; have HO557 := n0_; have HO561 := n1_; have HB := n2_; have HI554 := n3_; clear n0_ n1_ n2_ n3_; (try clear hb); (try clear hb2); (try clear hk); (try clear hi); (try clear ho0); (try clear ho1)) | ((with_reducible refine gate_dst (N := 5) rfl ?_); (try (refine gate_guard (by rfl) ?_; dsimp only)); refine box_event ?hg (N := 5) ?hd (cs := #[.string (⟨#[]⟩ : ByteArray), .slice none 0 0]) (t := 27) ?hr ?_; (case hd => rfl); (case hg => rfl); (case hr => first | (go_simp; done) | (go_simp; rfl)); intro gb564 hg w8 hbox hb; have n0_ := Aside0.mk (Kd.R_below (by (with_reducible repeat (first | apply Kd.R_alloc | apply Kd.R_drewN | apply Kd.R_drew)); exact HO557.out) hb); have n1_ := Aside0.mk (Kd.R_below (by (with_reducible repeat (first | apply Kd.R_alloc | apply Kd.R_drewN | apply Kd.R_drew)); exact HO561.out) hb); have n2_ := Aside0.mk (IsS72.below (by repeat (first | (with_reducible first | exact HI554.out | apply IsS72.alloc | apply IsS72.drewN | apply IsS72.drew | apply IsS72.set_0 | apply IsS72.set_1) | exact HI554.out)) hb); have n3_ := Aside0.mk (below_step (by repeat (first | (with_reducible first | exact HB.out | apply below_alloc | apply pw_below_drewN | apply below_drew1 | refine below_set ?_ (IsS72.ge HI554.out)) | exact HB.out)) hb); have n4_ := Aside0.mk (hbox); have n5_ := Aside0.mk ((by rw [hg]; exact (below_size (by repeat (first | (with_reducible first | exact HB.out | apply below_alloc | apply pw_below_drewN | apply below_drew1 | refine below_set ?_ (IsS72.ge HI554.out)) | exact HB.out))) : w.heap.size ≤ gb564)); have n6_ := Aside0.mk ((by rw [hg]; exact (below_size (by repeat (first | (with_reducible first | exact HB.out | apply below_alloc | apply pw_below_drewN | apply below_drew1 | refine below_set ?_ (IsS72.ge HI554.out)) | exact HB.out))) : w.heap.size ≤ gb564)); have n7_ := Aside0.mk ((by rw [hg]; exact Nat.ne_of_lt (IsS72.lt (show IsS72 w _ g554 t562 t563 from by repeat (first | (with_reducible first | exact HI554.out | apply IsS72.alloc | apply IsS72.drewN | apply IsS72.drew | apply IsS72.set_0 | apply IsS72.set_1) | exact HI554.out))) : g554 ≠ gb564)); have n8_ := Aside0.mk ((by rw [hg]; exact Nat.ne_of_gt (IsS72.lt (show IsS72 w _ g554 t562 t563 from by repeat (first | (with_reducible first | exact HI554.out | apply IsS72.alloc | apply IsS72.drewN | apply IsS72.drew | apply IsS72.set_0 | apply IsS72.set_1) | exact HI554.out))) : gb564 ≠ g554)); clear HO557; clear HO561; clear HI554; clear HB; have HO557 := n0_; have HO561 := n1_; have HI554 := n2_; have HB := n3_; have BK564 := n4_; have GW564 := n5_; have GE564 := n6_; have NB554_564 := n7_; have NB564_554 := n8_; clear n0_ n1_ n2_ n3_ n4_ n5_ n6_ n7_ n8_; clear hb hbox hg; have hnb9 := NB564_554.out; have hnc9 := NB554_564.out; have hcz10_0 : w8.cell? ⟨gb564, 0, none⟩ = some (.string (⟨#[]⟩ : ByteArray)) := (blk_cell BK564.out 0).trans rfl; have hcz10_1 : w8.cell? ⟨gb564, 1, none⟩ = some (.slice none 0 0) := (blk_cell BK564.out 1).trans rfl; have hfz10_0 := blk_frozen BK564.out 0; have hfz10_1 := blk_frozen BK564.out 1; obtain ⟨Ao11, co11, eo11⟩ := Kd.R_slice HO561.out; subst eo11; obtain ⟨Ao12, co12, eo12⟩ := Kd.R_slice HO557.out; subst eo12) | (go_at_call 17; (with_reducible refine (cippuslaw07_found.calls k  t565 _ A5.out).mono ?_); rintro e w13 ⟨rfl, hb⟩; have n0_ := Aside0.mk (Kd.R_below (by (with_reducible repeat (first | apply Kd.R_alloc | apply Kd.R_drewN | apply Kd.R_drew)); exact (Kd.R_mono (Kd.R_far (p := ⟨gb564, 1, none⟩) (Kd.R_far (p := ⟨gb564, 0, none⟩) (Kd.R_types HO557.out BK564.out (by decide)) (fun _ hk => hk.2) (.string t558)) (fun _ hk => hk.2) (.slice Ao11 t559.length co11)) (fun _ h_ => h_.1))) hb); have n1_ := Aside0.mk (Kd.R_below (by (with_reducible repeat (first | apply Kd.R_alloc | apply Kd.R_drewN | apply Kd.R_drew)); exact (Kd.R_mono (Kd.R_far (p := ⟨gb564, 1, none⟩) (Kd.R_far (p := ⟨gb564, 0, none⟩) (Kd.R_types HO561.out BK564.out (by decide)) (fun _ hk => hk.2) (.string t558)) (fun _ hk => hk.2) (.slice Ao11 t559.length co11)) (fun _ h_ => h_.1))) hb); have n2_ := Aside0.mk (IsS72.below (show IsS72 w ((w8.setCell ⟨gb564, 0, none⟩ (.string t558)).setCell ⟨gb564, 1, none⟩ (.slice Ao11 t559.length co11)) g554 t562 t563 from by repeat (first | (with_reducible first | exact HI554.out | apply IsS72.alloc | apply IsS72.drewN | apply IsS72.drew | apply IsS72.set_0 | apply IsS72.set_1 | refine IsS72.far ?_ NB554_564.out _) | exact HI554.out)) hb); have n3_ := Aside0.mk (blk_below (g := gb564) (o := .cells #[.string t558, .slice Ao11 t559.length co11] 27 (0, 0)) (by (with_reducible repeat (first | refine blk_drewN ?_ _ | refine blk_drew ?_ | refine blk_alloc ?_ _)); refine blk_put (cs := #[.string t558, .slice none 0 0]) ?_ 1 _ rfl; (with_reducible repeat (first | refine blk_drewN ?_ _ | refine blk_drew ?_ | refine blk_alloc ?_ _)); refine blk_put (cs := #[.string (⟨#[]⟩ : ByteArray), .slice none 0 0]) ?_ 0 _ rfl; (with_reducible repeat (first | refine blk_drewN ?_ _ | refine blk_drew ?_ | refine blk_alloc ?_ _)); exact BK564.out) hb); have n4_ := Aside0.mk (below_step (by repeat (first | (with_reducible first | exact HB.out | apply below_alloc | apply pw_below_drewN | apply below_drew1 | refine below_set ?_ (IsS72.ge HI554.out) | refine below_set ?_ GE564.out) | exact HB.out)) hb); clear HO557; clear HO561; clear HI554; clear BK564; clear HB; have HO557 := n0_; have HO561 := n1_; have HI554 := n2_; have BK564 := n3_; have HB := n4_; clear n0_ n1_ n2_ n3_ n4_; (try clear hb); (try clear hb2); (try clear hk); (try clear hi)))
    repeat (go_quiet (first | (go_at_call 14; (with_reducible refine (cippuskit_NewUrn.calls _ _ l0 t552 t553 w _ ?side1 ?side2 ?side3 A2.out).mono ?_); (case side1 => repeat (first | (with_reducible first | exact HB.out | apply below_alloc | apply pw_below_drewN | apply below_drew1) | exact HB.out)); (case side2 => exact HR0.out); (case side3 => exact HC0.out); rintro e w6 ⟨g554, rfl, hi, hb, hb2⟩; have n0_ := Aside0.mk (hb); have n1_ := Aside0.mk (hi); clear HB; have HB := n0_; have HI554 := n1_; clear n0_ n1_; (try clear hb); (try clear hb2); (try clear hk); (try clear hi)) | (go_at_call 13; (with_reducible refine (cippuskit_CopiesOf.calls g554 t552 t553 5 5 1 t555 t558 t559 t562 t563 w _ ?side1 ?side2 A3.out).mono ?_); (case side1 => repeat (first | (with_reducible first | exact HI554.out | apply IsS72.alloc | apply IsS72.drewN | apply IsS72.drew | apply IsS72.set_0 | apply IsS72.set_1) | exact HI554.out)); (case side2 => repeat (first | (with_reducible first | exact HB.out | apply below_alloc | apply pw_below_drewN | apply below_drew1 | refine below_set ?_ (IsS72.ge HI554.out)) | exact HB.out)); rintro e w7 ⟨v556, v560, rfl, ho0, ho1, hi, hb, hk⟩; have n0_ := Aside0.mk (Kd.R_lower ho0 (below_size (by repeat (first | (with_reducible first | exact HB.out | apply below_alloc | apply pw_below_drewN | apply below_drew1 | refine below_set ?_ (IsS72.ge HI554.out)) | exact HB.out)))); have n1_ := Aside0.mk (Kd.R_lower ho1 (below_size (by repeat (first | (with_reducible first | exact HB.out | apply below_alloc | apply pw_below_drewN | apply below_drew1 | refine below_set ?_ (IsS72.ge HI554.out)) | exact HB.out)))); have n2_ := Aside0.mk (hb); have n3_ := Aside0.mk (hi); clear HB; clear HI554; have HO557 := n0_; have HO561 := n1_; have HB := n2_; have HI554 := n3_; clear n0_ n1_ n2_ n3_; (try clear hb); (try clear hb2); (try clear hk); (try clear hi); (try clear ho0); (try clear ho1)) | ((with_reducible refine gate_dst (N := 5) rfl ?_); (try (refine gate_guard (by rfl) ?_; dsimp only)); refine box_event ?hg (N := 5) ?hd (cs := #[.string (⟨#[]⟩ : ByteArray), .slice none 0 0]) (t := 27) ?hr ?_; (case hd => rfl); (case hg => rfl); (case hr => first | (go_simp; done) | (go_simp; rfl)); intro gb564 hg w8 hbox hb; have n0_ := Aside0.mk (Kd.R_below (by (with_reducible repeat (first | apply Kd.R_alloc | apply Kd.R_drewN | apply Kd.R_drew)); exact HO557.out) hb); have n1_ := Aside0.mk (Kd.R_below (by (with_reducible repeat (first | apply Kd.R_alloc | apply Kd.R_drewN | apply Kd.R_drew)); exact HO561.out) hb); have n2_ := Aside0.mk (IsS72.below (by repeat (first | (with_reducible first | exact HI554.out | apply IsS72.alloc | apply IsS72.drewN | apply IsS72.drew | apply IsS72.set_0 | apply IsS72.set_1) | exact HI554.out)) hb); have n3_ := Aside0.mk (below_step (by repeat (first | (with_reducible first | exact HB.out | apply below_alloc | apply pw_below_drewN | apply below_drew1 | refine below_set ?_ (IsS72.ge HI554.out)) | exact HB.out)) hb); have n4_ := Aside0.mk (hbox); have n5_ := Aside0.mk ((by rw [hg]; exact (below_size (by repeat (first | (with_reducible first | exact HB.out | apply below_alloc | apply pw_below_drewN | apply below_drew1 | refine below_set ?_ (IsS72.ge HI554.out)) | exact HB.out))) : w.heap.size ≤ gb564)); have n6_ := Aside0.mk ((by rw [hg]; exact (below_size (by repeat (first | (with_reducible first | exact HB.out | apply below_alloc | apply pw_below_drewN | apply below_drew1 | refine below_set ?_ (IsS72.ge HI554.out)) | exact HB.out))) : w.heap.size ≤ gb564)); have n7_ := Aside0.mk ((by rw [hg]; exact Nat.ne_of_lt (IsS72.lt (show IsS72 w _ g554 t562 t563 from by repeat (first | (with_reducible first | exact HI554.out | apply IsS72.alloc | apply IsS72.drewN | apply IsS72.drew | apply IsS72.set_0 | apply IsS72.set_1) | exact HI554.out))) : g554 ≠ gb564)); have n8_ := Aside0.mk ((by rw [hg]; exact Nat.ne_of_gt (IsS72.lt (show IsS72 w _ g554 t562 t563 from by repeat (first | (with_reducible first | exact HI554.out | apply IsS72.alloc | apply IsS72.drewN | apply IsS72.drew | apply IsS72.set_0 | apply IsS72.set_1) | exact HI554.out))) : gb564 ≠ g554)); clear HO557; clear HO561; clear HI554; clear HB; have HO557 := n0_; have HO561 := n1_; have HI554 := n2_; have HB := n3_; have BK564 := n4_; have GW564 := n5_; have GE564 := n6_; have NB554_564 := n7_; have NB564_554 := n8_; clear n0_ n1_ n2_ n3_ n4_ n5_ n6_ n7_ n8_; clear hb hbox hg; have hnb9 := NB564_554.out; have hnc9 := NB554_564.out; have hcz10_0 : w8.cell? ⟨gb564, 0, none⟩ = some (.string (⟨#[]⟩ : ByteArray)) := (blk_cell BK564.out 0).trans rfl; have hcz10_1 : w8.cell? ⟨gb564, 1, none⟩ = some (.slice none 0 0) := (blk_cell BK564.out 1).trans rfl; have hfz10_0 := blk_frozen BK564.out 0; have hfz10_1 := blk_frozen BK564.out 1; obtain ⟨Ao11, co11, eo11⟩ := Kd.R_slice HO561.out; subst eo11; obtain ⟨Ao12, co12, eo12⟩ := Kd.R_slice HO557.out; subst eo12) | (go_at_call 17; (with_reducible refine (cippuslaw07_found.calls k  t565 _ A5.out).mono ?_); rintro e w13 ⟨rfl, hb⟩; have n0_ := Aside0.mk (Kd.R_below (by (with_reducible repeat (first | apply Kd.R_alloc | apply Kd.R_drewN | apply Kd.R_drew)); exact (Kd.R_mono (Kd.R_far (p := ⟨gb564, 1, none⟩) (Kd.R_far (p := ⟨gb564, 0, none⟩) (Kd.R_types HO557.out BK564.out (by decide)) (fun _ hk => hk.2) (.string t558)) (fun _ hk => hk.2) (.slice Ao11 t559.length co11)) (fun _ h_ => h_.1))) hb); have n1_ := Aside0.mk (Kd.R_below (by (with_reducible repeat (first | apply Kd.R_alloc | apply Kd.R_drewN | apply Kd.R_drew)); exact (Kd.R_mono (Kd.R_far (p := ⟨gb564, 1, none⟩) (Kd.R_far (p := ⟨gb564, 0, none⟩) (Kd.R_types HO561.out BK564.out (by decide)) (fun _ hk => hk.2) (.string t558)) (fun _ hk => hk.2) (.slice Ao11 t559.length co11)) (fun _ h_ => h_.1))) hb); have n2_ := Aside0.mk (IsS72.below (show IsS72 w ((w8.setCell ⟨gb564, 0, none⟩ (.string t558)).setCell ⟨gb564, 1, none⟩ (.slice Ao11 t559.length co11)) g554 t562 t563 from by repeat (first | (with_reducible first | exact HI554.out | apply IsS72.alloc | apply IsS72.drewN | apply IsS72.drew | apply IsS72.set_0 | apply IsS72.set_1 | refine IsS72.far ?_ NB554_564.out _) | exact HI554.out)) hb); have n3_ := Aside0.mk (blk_below (g := gb564) (o := .cells #[.string t558, .slice Ao11 t559.length co11] 27 (0, 0)) (by (with_reducible repeat (first | refine blk_drewN ?_ _ | refine blk_drew ?_ | refine blk_alloc ?_ _)); refine blk_put (cs := #[.string t558, .slice none 0 0]) ?_ 1 _ rfl; (with_reducible repeat (first | refine blk_drewN ?_ _ | refine blk_drew ?_ | refine blk_alloc ?_ _)); refine blk_put (cs := #[.string (⟨#[]⟩ : ByteArray), .slice none 0 0]) ?_ 0 _ rfl; (with_reducible repeat (first | refine blk_drewN ?_ _ | refine blk_drew ?_ | refine blk_alloc ?_ _)); exact BK564.out) hb); have n4_ := Aside0.mk (below_step (by repeat (first | (with_reducible first | exact HB.out | apply below_alloc | apply pw_below_drewN | apply below_drew1 | refine below_set ?_ (IsS72.ge HI554.out) | refine below_set ?_ GE564.out) | exact HB.out)) hb); clear HO557; clear HO561; clear HI554; clear BK564; clear HB; have HO557 := n0_; have HO561 := n1_; have HI554 := n2_; have BK564 := n3_; have HB := n4_; clear n0_ n1_ n2_ n3_ n4_; (try clear hb); (try clear hb2); (try clear hk); (try clear hi))); try go_wp2_with (first | (go_at_call 14; (with_reducible refine (cippuskit_NewUrn.calls _ _ l0 t552 t553 w _ ?side1 ?side2 ?side3 A2.out).mono ?_); (case side1 => repeat (first | (with_reducible first | exact HB.out | apply below_alloc | apply pw_below_drewN | apply below_drew1) | exact HB.out)); (case side2 => exact HR0.out); (case side3 => exact HC0.out); rintro e w6 ⟨g554, rfl, hi, hb, hb2⟩; have n0_ := Aside0.mk (hb); have n1_ := Aside0.mk (hi); clear HB; have HB := n0_; have HI554 := n1_; clear n0_ n1_; (try clear hb); (try clear hb2); (try clear hk); (try clear hi)) | (go_at_call 13; (with_reducible refine (cippuskit_CopiesOf.calls g554 t552 t553 5 5 1 t555 t558 t559 t562 t563 w _ ?side1 ?side2 A3.out).mono ?_); (case side1 => repeat (first | (with_reducible first | exact HI554.out | apply IsS72.alloc | apply IsS72.drewN | apply IsS72.drew | apply IsS72.set_0 | apply IsS72.set_1) | exact HI554.out)); (case side2 => repeat (first | (with_reducible first | exact HB.out | apply below_alloc | apply pw_below_drewN | apply below_drew1 | refine below_set ?_ (IsS72.ge HI554.out)) | exact HB.out)); rintro e w7 ⟨v556, v560, rfl, ho0, ho1, hi, hb, hk⟩; have n0_ := Aside0.mk (Kd.R_lower ho0 (below_size (by repeat (first | (with_reducible first | exact HB.out | apply below_alloc | apply pw_below_drewN | apply below_drew1 | refine below_set ?_ (IsS72.ge HI554.out)) | exact HB.out)))); have n1_ := Aside0.mk (Kd.R_lower ho1 (below_size (by repeat (first | (with_reducible first | exact HB.out | apply below_alloc | apply pw_below_drewN | apply below_drew1 | refine below_set ?_ (IsS72.ge HI554.out)) | exact HB.out)))); have n2_ := Aside0.mk (hb); have n3_ := Aside0.mk (hi); clear HB; clear HI554; have HO557 := n0_; have HO561 := n1_; have HB := n2_; have HI554 := n3_; clear n0_ n1_ n2_ n3_; (try clear hb); (try clear hb2); (try clear hk); (try clear hi); (try clear ho0); (try clear ho1)) | ((with_reducible refine gate_dst (N := 5) rfl ?_); (try (refine gate_guard (by rfl) ?_; dsimp only)); refine box_event ?hg (N := 5) ?hd (cs := #[.string (⟨#[]⟩ : ByteArray), .slice none 0 0]) (t := 27) ?hr ?_; (case hd => rfl); (case hg => rfl); (case hr => first | (go_simp; done) | (go_simp; rfl)); intro gb564 hg w8 hbox hb; have n0_ := Aside0.mk (Kd.R_below (by (with_reducible repeat (first | apply Kd.R_alloc | apply Kd.R_drewN | apply Kd.R_drew)); exact HO557.out) hb); have n1_ := Aside0.mk (Kd.R_below (by (with_reducible repeat (first | apply Kd.R_alloc | apply Kd.R_drewN | apply Kd.R_drew)); exact HO561.out) hb); have n2_ := Aside0.mk (IsS72.below (by repeat (first | (with_reducible first | exact HI554.out | apply IsS72.alloc | apply IsS72.drewN | apply IsS72.drew | apply IsS72.set_0 | apply IsS72.set_1) | exact HI554.out)) hb); have n3_ := Aside0.mk (below_step (by repeat (first | (with_reducible first | exact HB.out | apply below_alloc | apply pw_below_drewN | apply below_drew1 | refine below_set ?_ (IsS72.ge HI554.out)) | exact HB.out)) hb); have n4_ := Aside0.mk (hbox); have n5_ := Aside0.mk ((by rw [hg]; exact (below_size (by repeat (first | (with_reducible first | exact HB.out | apply below_alloc | apply pw_below_drewN | apply below_drew1 | refine below_set ?_ (IsS72.ge HI554.out)) | exact HB.out))) : w.heap.size ≤ gb564)); have n6_ := Aside0.mk ((by rw [hg]; exact (below_size (by repeat (first | (with_reducible first | exact HB.out | apply below_alloc | apply pw_below_drewN | apply below_drew1 | refine below_set ?_ (IsS72.ge HI554.out)) | exact HB.out))) : w.heap.size ≤ gb564)); have n7_ := Aside0.mk ((by rw [hg]; exact Nat.ne_of_lt (IsS72.lt (show IsS72 w _ g554 t562 t563 from by repeat (first | (with_reducible first | exact HI554.out | apply IsS72.alloc | apply IsS72.drewN | apply IsS72.drew | apply IsS72.set_0 | apply IsS72.set_1) | exact HI554.out))) : g554 ≠ gb564)); have n8_ := Aside0.mk ((by rw [hg]; exact Nat.ne_of_gt (IsS72.lt (show IsS72 w _ g554 t562 t563 from by repeat (first | (with_reducible first | exact HI554.out | apply IsS72.alloc | apply IsS72.drewN | apply IsS72.drew | apply IsS72.set_0 | apply IsS72.set_1) | exact HI554.out))) : gb564 ≠ g554)); clear HO557; clear HO561; clear HI554; clear HB; have HO557 := n0_; have HO561 := n1_; have HI554 := n2_; have HB := n3_; have BK564 := n4_; have GW564 := n5_; have GE564 := n6_; have NB554_564 := n7_; have NB564_554 := n8_; clear n0_ n1_ n2_ n3_ n4_ n5_ n6_ n7_ n8_; clear hb hbox hg; have hnb9 := NB564_554.out; have hnc9 := NB554_564.out; have hcz10_0 : w8.cell? ⟨gb564, 0, none⟩ = some (.string (⟨#[]⟩ : ByteArray)) := (blk_cell BK564.out 0).trans rfl; have hcz10_1 : w8.cell? ⟨gb564, 1, none⟩ = some (.slice none 0 0) := (blk_cell BK564.out 1).trans rfl; have hfz10_0 := blk_frozen BK564.out 0; have hfz10_1 := blk_frozen BK564.out 1; obtain ⟨Ao11, co11, eo11⟩ := Kd.R_slice HO561.out; subst eo11; obtain ⟨Ao12, co12, eo12⟩ := Kd.R_slice HO557.out; subst eo12) | (go_at_call 17; (with_reducible refine (cippuslaw07_found.calls k  t565 _ A5.out).mono ?_); rintro e w13 ⟨rfl, hb⟩; have n0_ := Aside0.mk (Kd.R_below (by (with_reducible repeat (first | apply Kd.R_alloc | apply Kd.R_drewN | apply Kd.R_drew)); exact (Kd.R_mono (Kd.R_far (p := ⟨gb564, 1, none⟩) (Kd.R_far (p := ⟨gb564, 0, none⟩) (Kd.R_types HO557.out BK564.out (by decide)) (fun _ hk => hk.2) (.string t558)) (fun _ hk => hk.2) (.slice Ao11 t559.length co11)) (fun _ h_ => h_.1))) hb); have n1_ := Aside0.mk (Kd.R_below (by (with_reducible repeat (first | apply Kd.R_alloc | apply Kd.R_drewN | apply Kd.R_drew)); exact (Kd.R_mono (Kd.R_far (p := ⟨gb564, 1, none⟩) (Kd.R_far (p := ⟨gb564, 0, none⟩) (Kd.R_types HO561.out BK564.out (by decide)) (fun _ hk => hk.2) (.string t558)) (fun _ hk => hk.2) (.slice Ao11 t559.length co11)) (fun _ h_ => h_.1))) hb); have n2_ := Aside0.mk (IsS72.below (show IsS72 w ((w8.setCell ⟨gb564, 0, none⟩ (.string t558)).setCell ⟨gb564, 1, none⟩ (.slice Ao11 t559.length co11)) g554 t562 t563 from by repeat (first | (with_reducible first | exact HI554.out | apply IsS72.alloc | apply IsS72.drewN | apply IsS72.drew | apply IsS72.set_0 | apply IsS72.set_1 | refine IsS72.far ?_ NB554_564.out _) | exact HI554.out)) hb); have n3_ := Aside0.mk (blk_below (g := gb564) (o := .cells #[.string t558, .slice Ao11 t559.length co11] 27 (0, 0)) (by (with_reducible repeat (first | refine blk_drewN ?_ _ | refine blk_drew ?_ | refine blk_alloc ?_ _)); refine blk_put (cs := #[.string t558, .slice none 0 0]) ?_ 1 _ rfl; (with_reducible repeat (first | refine blk_drewN ?_ _ | refine blk_drew ?_ | refine blk_alloc ?_ _)); refine blk_put (cs := #[.string (⟨#[]⟩ : ByteArray), .slice none 0 0]) ?_ 0 _ rfl; (with_reducible repeat (first | refine blk_drewN ?_ _ | refine blk_drew ?_ | refine blk_alloc ?_ _)); exact BK564.out) hb); have n4_ := Aside0.mk (below_step (by repeat (first | (with_reducible first | exact HB.out | apply below_alloc | apply pw_below_drewN | apply below_drew1 | refine below_set ?_ (IsS72.ge HI554.out) | refine below_set ?_ GE564.out) | exact HB.out)) hb); clear HO557; clear HO561; clear HI554; clear BK564; clear HB; have HO557 := n0_; have HO561 := n1_; have HI554 := n2_; have BK564 := n3_; have HB := n4_; clear n0_ n1_ n2_ n3_ n4_; (try clear hb); (try clear hb2); (try clear hk); (try clear hi))))
    go_ret
    exact ⟨by first | rfl | (simp [errW_none, errW_some] <;> rfl) | (simp [*, errW_none, errW_some] <;> rfl), by repeat (first | (with_reducible first | exact HB.out | apply below_alloc | apply pw_below_drewN | apply below_drew1 | refine below_set ?_ (IsS72.ge HI554.out) | refine below_set ?_ GE564.out) | exact HB.out)⟩
  · rw [if_neg c4] at H
    have c4b0 : decide ((t555.length : Int) < 2) = false := decide_eq_false c4
    have c4b1 : decide (t555.length < 2) = false := decide_eq_false (by omega)
    clear c4
    obtain ⟨ji14, hji14⟩ : ∃ j_ : Int, (wrap64 ((t555.length : Int) - 1)) = j_ := ⟨_, rfl⟩
    replace H : (if 0 ≤ (ji14) then (if (ji14) ≤ (t555.length : Int) then ((some (t555.take ((ji14) : Int).toNat : List (S24))).bind fun y566 => ((stemma_Letters.f k y566).bind fun bt571 => ((stemma_Letters.f k t555).bind fun bt575 => ((stemma_Fewest.f k y566).bind fun bt579 => ((stemma_Fewest.f k t555).bind fun bt581 => ((stemma_Sources.f k y566).bind fun bt583 => ((stemma_Sources.f k t555).bind fun bt587 => (if bt571.2 = 0 then (if bt575.2 = 0 then (if bt579.2 = 0 then (if bt581.2 = 0 then (if bt583.2 = 0 then (if bt587.2 = 0 then (if bt581.1 < bt579.1 then (cippuslaw07_StemmaLater.j0 k bt571.1 bt575.1 bt583.1 bt587.1 true) else (if (bt571.1.length : Int) = (bt575.1.length : Int) then (if (bt583.1.length : Int) = (y566.length : Int) then (cippuslaw07_StemmaLater.j0 k bt571.1 bt575.1 bt583.1 bt587.1 ((bt587.1.length : Int) != (t555.length : Int))) else (cippuslaw07_StemmaLater.j0 k bt571.1 bt575.1 bt583.1 bt587.1 true)) else (cippuslaw07_StemmaLater.j0 k bt571.1 bt575.1 bt583.1 bt587.1 true))) else (cippuslaw07_StemmaLater.j0 k bt571.1 bt575.1 bt583.1 bt587.1 true)) else (cippuslaw07_StemmaLater.j0 k bt571.1 bt575.1 bt583.1 bt587.1 true)) else (cippuslaw07_StemmaLater.j0 k bt571.1 bt575.1 bt583.1 bt587.1 true)) else (cippuslaw07_StemmaLater.j0 k bt571.1 bt575.1 bt583.1 bt587.1 true)) else (cippuslaw07_StemmaLater.j0 k bt571.1 bt575.1 bt583.1 bt587.1 true)) else (cippuslaw07_StemmaLater.j0 k bt571.1 bt575.1 bt583.1 bt587.1 true))))))))) else (none)) else (none)) = some r := by first | (rw [hji14] at H; exact H) | (simp only [hji14] at H ⊢; exact H)
    (try rw [hji14] at A2)
    (try rw [hji14] at A3)
    have hji14w : (IntKind.i64.wrap ((t555.length : Int) - 1)) = ji14 := (i64_w _).trans hji14
    by_cases c15 : 0 ≤ (ji14)
    · rw [if_pos c15] at H
      have c15b0 := eq_true c15
      have c15b1 : decide (0 ≤ (ji14)) = true := decide_eq_true c15
      clear c15
      by_cases c16 : (ji14) ≤ (t555.length : Int)
      · rw [if_pos c16] at H
        have c16b0 := eq_true c16
        have c16b1 : decide ((ji14) ≤ (t555.length : Int)) = true := decide_eq_true c16
        clear c16
        obtain ⟨y566, hy566⟩ : ∃ y_ : List (S24), y_ = (t555.take ((ji14) : Int).toNat) := ⟨_, rfl⟩
        replace H : ((stemma_Letters.f k y566).bind fun bt571 => ((stemma_Letters.f k t555).bind fun bt575 => ((stemma_Fewest.f k y566).bind fun bt579 => ((stemma_Fewest.f k t555).bind fun bt581 => ((stemma_Sources.f k y566).bind fun bt583 => ((stemma_Sources.f k t555).bind fun bt587 => (if bt571.2 = 0 then (if bt575.2 = 0 then (if bt579.2 = 0 then (if bt581.2 = 0 then (if bt583.2 = 0 then (if bt587.2 = 0 then (if bt581.1 < bt579.1 then (cippuslaw07_StemmaLater.j0 k bt571.1 bt575.1 bt583.1 bt587.1 true) else (if (bt571.1.length : Int) = (bt575.1.length : Int) then (if (bt583.1.length : Int) = (y566.length : Int) then (cippuslaw07_StemmaLater.j0 k bt571.1 bt575.1 bt583.1 bt587.1 ((bt587.1.length : Int) != (t555.length : Int))) else (cippuslaw07_StemmaLater.j0 k bt571.1 bt575.1 bt583.1 bt587.1 true)) else (cippuslaw07_StemmaLater.j0 k bt571.1 bt575.1 bt583.1 bt587.1 true))) else (cippuslaw07_StemmaLater.j0 k bt571.1 bt575.1 bt583.1 bt587.1 true)) else (cippuslaw07_StemmaLater.j0 k bt571.1 bt575.1 bt583.1 bt587.1 true)) else (cippuslaw07_StemmaLater.j0 k bt571.1 bt575.1 bt583.1 bt587.1 true)) else (cippuslaw07_StemmaLater.j0 k bt571.1 bt575.1 bt583.1 bt587.1 true)) else (cippuslaw07_StemmaLater.j0 k bt571.1 bt575.1 bt583.1 bt587.1 true)) else (cippuslaw07_StemmaLater.j0 k bt571.1 bt575.1 bt583.1 bt587.1 true)))))))) = some r := by first | (rw [hy566]; with_reducible exact H) | (have H2_ := (Option.bind_some _ _).symm.trans H; rw [hy566]; with_reducible exact H2_) | (have H2_ := (Option.bind_some _ _).symm.trans H; with_reducible exact H2_) | with_reducible exact H | (rw [hy566]; exact H) | exact H
        have Ny566 := Aside0.mk hy566
        clear hy566
        replace H := Option.bind_eq_some_iff.mp H
        obtain ⟨⟨t571, t572⟩, A170, H⟩ := H
        replace H : ((stemma_Letters.f k t555).bind fun bt575 => ((stemma_Fewest.f k y566).bind fun bt579 => ((stemma_Fewest.f k t555).bind fun bt581 => ((stemma_Sources.f k y566).bind fun bt583 => ((stemma_Sources.f k t555).bind fun bt587 => (if t572 = 0 then (if bt575.2 = 0 then (if bt579.2 = 0 then (if bt581.2 = 0 then (if bt583.2 = 0 then (if bt587.2 = 0 then (if bt581.1 < bt579.1 then (cippuslaw07_StemmaLater.j0 k t571 bt575.1 bt583.1 bt587.1 true) else (if (t571.length : Int) = (bt575.1.length : Int) then (if (bt583.1.length : Int) = (y566.length : Int) then (cippuslaw07_StemmaLater.j0 k t571 bt575.1 bt583.1 bt587.1 ((bt587.1.length : Int) != (t555.length : Int))) else (cippuslaw07_StemmaLater.j0 k t571 bt575.1 bt583.1 bt587.1 true)) else (cippuslaw07_StemmaLater.j0 k t571 bt575.1 bt583.1 bt587.1 true))) else (cippuslaw07_StemmaLater.j0 k t571 bt575.1 bt583.1 bt587.1 true)) else (cippuslaw07_StemmaLater.j0 k t571 bt575.1 bt583.1 bt587.1 true)) else (cippuslaw07_StemmaLater.j0 k t571 bt575.1 bt583.1 bt587.1 true)) else (cippuslaw07_StemmaLater.j0 k t571 bt575.1 bt583.1 bt587.1 true)) else (cippuslaw07_StemmaLater.j0 k t571 bt575.1 bt583.1 bt587.1 true)) else (cippuslaw07_StemmaLater.j0 k t571 bt575.1 bt583.1 bt587.1 true))))))) = some r := H
        have A17 := Aside0.mk A170
        clear A170
        replace H := Option.bind_eq_some_iff.mp H
        obtain ⟨⟨t575, t576⟩, A180, H⟩ := H
        replace H : ((stemma_Fewest.f k y566).bind fun bt579 => ((stemma_Fewest.f k t555).bind fun bt581 => ((stemma_Sources.f k y566).bind fun bt583 => ((stemma_Sources.f k t555).bind fun bt587 => (if t572 = 0 then (if t576 = 0 then (if bt579.2 = 0 then (if bt581.2 = 0 then (if bt583.2 = 0 then (if bt587.2 = 0 then (if bt581.1 < bt579.1 then (cippuslaw07_StemmaLater.j0 k t571 t575 bt583.1 bt587.1 true) else (if (t571.length : Int) = (t575.length : Int) then (if (bt583.1.length : Int) = (y566.length : Int) then (cippuslaw07_StemmaLater.j0 k t571 t575 bt583.1 bt587.1 ((bt587.1.length : Int) != (t555.length : Int))) else (cippuslaw07_StemmaLater.j0 k t571 t575 bt583.1 bt587.1 true)) else (cippuslaw07_StemmaLater.j0 k t571 t575 bt583.1 bt587.1 true))) else (cippuslaw07_StemmaLater.j0 k t571 t575 bt583.1 bt587.1 true)) else (cippuslaw07_StemmaLater.j0 k t571 t575 bt583.1 bt587.1 true)) else (cippuslaw07_StemmaLater.j0 k t571 t575 bt583.1 bt587.1 true)) else (cippuslaw07_StemmaLater.j0 k t571 t575 bt583.1 bt587.1 true)) else (cippuslaw07_StemmaLater.j0 k t571 t575 bt583.1 bt587.1 true)) else (cippuslaw07_StemmaLater.j0 k t571 t575 bt583.1 bt587.1 true)))))) = some r := H
        have A18 := Aside0.mk A180
        clear A180
        replace H := Option.bind_eq_some_iff.mp H
        obtain ⟨⟨t579, t580⟩, A190, H⟩ := H
        replace H : ((stemma_Fewest.f k t555).bind fun bt581 => ((stemma_Sources.f k y566).bind fun bt583 => ((stemma_Sources.f k t555).bind fun bt587 => (if t572 = 0 then (if t576 = 0 then (if t580 = 0 then (if bt581.2 = 0 then (if bt583.2 = 0 then (if bt587.2 = 0 then (if bt581.1 < t579 then (cippuslaw07_StemmaLater.j0 k t571 t575 bt583.1 bt587.1 true) else (if (t571.length : Int) = (t575.length : Int) then (if (bt583.1.length : Int) = (y566.length : Int) then (cippuslaw07_StemmaLater.j0 k t571 t575 bt583.1 bt587.1 ((bt587.1.length : Int) != (t555.length : Int))) else (cippuslaw07_StemmaLater.j0 k t571 t575 bt583.1 bt587.1 true)) else (cippuslaw07_StemmaLater.j0 k t571 t575 bt583.1 bt587.1 true))) else (cippuslaw07_StemmaLater.j0 k t571 t575 bt583.1 bt587.1 true)) else (cippuslaw07_StemmaLater.j0 k t571 t575 bt583.1 bt587.1 true)) else (cippuslaw07_StemmaLater.j0 k t571 t575 bt583.1 bt587.1 true)) else (cippuslaw07_StemmaLater.j0 k t571 t575 bt583.1 bt587.1 true)) else (cippuslaw07_StemmaLater.j0 k t571 t575 bt583.1 bt587.1 true)) else (cippuslaw07_StemmaLater.j0 k t571 t575 bt583.1 bt587.1 true))))) = some r := H
        have A19 := Aside0.mk A190
        clear A190
        replace H := Option.bind_eq_some_iff.mp H
        obtain ⟨⟨t581, t582⟩, A200, H⟩ := H
        replace H : ((stemma_Sources.f k y566).bind fun bt583 => ((stemma_Sources.f k t555).bind fun bt587 => (if t572 = 0 then (if t576 = 0 then (if t580 = 0 then (if t582 = 0 then (if bt583.2 = 0 then (if bt587.2 = 0 then (if t581 < t579 then (cippuslaw07_StemmaLater.j0 k t571 t575 bt583.1 bt587.1 true) else (if (t571.length : Int) = (t575.length : Int) then (if (bt583.1.length : Int) = (y566.length : Int) then (cippuslaw07_StemmaLater.j0 k t571 t575 bt583.1 bt587.1 ((bt587.1.length : Int) != (t555.length : Int))) else (cippuslaw07_StemmaLater.j0 k t571 t575 bt583.1 bt587.1 true)) else (cippuslaw07_StemmaLater.j0 k t571 t575 bt583.1 bt587.1 true))) else (cippuslaw07_StemmaLater.j0 k t571 t575 bt583.1 bt587.1 true)) else (cippuslaw07_StemmaLater.j0 k t571 t575 bt583.1 bt587.1 true)) else (cippuslaw07_StemmaLater.j0 k t571 t575 bt583.1 bt587.1 true)) else (cippuslaw07_StemmaLater.j0 k t571 t575 bt583.1 bt587.1 true)) else (cippuslaw07_StemmaLater.j0 k t571 t575 bt583.1 bt587.1 true)) else (cippuslaw07_StemmaLater.j0 k t571 t575 bt583.1 bt587.1 true)))) = some r := H
        have A20 := Aside0.mk A200
        clear A200
        replace H := Option.bind_eq_some_iff.mp H
        obtain ⟨⟨t583, t586⟩, A210, H⟩ := H
        replace H : ((stemma_Sources.f k t555).bind fun bt587 => (if t572 = 0 then (if t576 = 0 then (if t580 = 0 then (if t582 = 0 then (if t586 = 0 then (if bt587.2 = 0 then (if t581 < t579 then (cippuslaw07_StemmaLater.j0 k t571 t575 t583 bt587.1 true) else (if (t571.length : Int) = (t575.length : Int) then (if (t583.length : Int) = (y566.length : Int) then (cippuslaw07_StemmaLater.j0 k t571 t575 t583 bt587.1 ((bt587.1.length : Int) != (t555.length : Int))) else (cippuslaw07_StemmaLater.j0 k t571 t575 t583 bt587.1 true)) else (cippuslaw07_StemmaLater.j0 k t571 t575 t583 bt587.1 true))) else (cippuslaw07_StemmaLater.j0 k t571 t575 t583 bt587.1 true)) else (cippuslaw07_StemmaLater.j0 k t571 t575 t583 bt587.1 true)) else (cippuslaw07_StemmaLater.j0 k t571 t575 t583 bt587.1 true)) else (cippuslaw07_StemmaLater.j0 k t571 t575 t583 bt587.1 true)) else (cippuslaw07_StemmaLater.j0 k t571 t575 t583 bt587.1 true)) else (cippuslaw07_StemmaLater.j0 k t571 t575 t583 bt587.1 true))) = some r := H
        have A21 := Aside0.mk A210
        clear A210
        replace H := Option.bind_eq_some_iff.mp H
        obtain ⟨⟨t587, t590⟩, A220, H⟩ := H
        replace H : (if t572 = 0 then (if t576 = 0 then (if t580 = 0 then (if t582 = 0 then (if t586 = 0 then (if t590 = 0 then (if t581 < t579 then (cippuslaw07_StemmaLater.j0 k t571 t575 t583 t587 true) else (if (t571.length : Int) = (t575.length : Int) then (if (t583.length : Int) = (y566.length : Int) then (cippuslaw07_StemmaLater.j0 k t571 t575 t583 t587 ((t587.length : Int) != (t555.length : Int))) else (cippuslaw07_StemmaLater.j0 k t571 t575 t583 t587 true)) else (cippuslaw07_StemmaLater.j0 k t571 t575 t583 t587 true))) else (cippuslaw07_StemmaLater.j0 k t571 t575 t583 t587 true)) else (cippuslaw07_StemmaLater.j0 k t571 t575 t583 t587 true)) else (cippuslaw07_StemmaLater.j0 k t571 t575 t583 t587 true)) else (cippuslaw07_StemmaLater.j0 k t571 t575 t583 t587 true)) else (cippuslaw07_StemmaLater.j0 k t571 t575 t583 t587 true)) else (cippuslaw07_StemmaLater.j0 k t571 t575 t583 t587 true)) = some r := H
        have A22 := Aside0.mk A220
        clear A220
        have HC23 := Aside0.mk H
        clear H
        go_enter Try.func9, Try.ntmps9
        go_upto_region 12 with (first | (go_at_call 14; (with_reducible refine (cippuskit_NewUrn.calls _ _ l0 t552 t553 w _ ?side1 ?side2 ?side3 A2.out).mono ?_); (case side1 => repeat (first | (with_reducible first | exact HB.out | apply below_alloc | apply pw_below_drewN | apply below_drew1) | exact HB.out)); (case side2 => exact HR0.out); (case side3 => exact HC0.out); rintro e w24 ⟨g554, rfl, hi, hb, hb2⟩; have n0_ := Aside0.mk (hb); have n1_ := Aside0.mk (hi); clear HB; have HB := n0_; have HI554 := n1_; clear n0_ n1_; (try clear hb); (try clear hb2); (try clear hk); (try clear hi)) | (go_at_call 13; (with_reducible refine (cippuskit_CopiesOf.calls g554 t552 t553 5 5 1 t555 t558 t559 t562 t563 w _ ?side1 ?side2 A3.out).mono ?_); (case side1 => repeat (first | (with_reducible first | exact HI554.out | apply IsS72.alloc | apply IsS72.drewN | apply IsS72.drew | apply IsS72.set_0 | apply IsS72.set_1) | exact HI554.out)); (case side2 => repeat (first | (with_reducible first | exact HB.out | apply below_alloc | apply pw_below_drewN | apply below_drew1 | refine below_set ?_ (IsS72.ge HI554.out)) | exact HB.out)); rintro e w25 ⟨v556, v560, rfl, ho0, ho1, hi, hb, hk⟩; have n0_ := Aside0.mk (Kd.R_lower ho0 (below_size (by repeat (first | (with_reducible first | exact HB.out | apply below_alloc | apply pw_below_drewN | apply below_drew1 | refine below_set ?_ (IsS72.ge HI554.out)) | exact HB.out)))); have n1_ := Aside0.mk (Kd.R_lower ho1 (below_size (by repeat (first | (with_reducible first | exact HB.out | apply below_alloc | apply pw_below_drewN | apply below_drew1 | refine below_set ?_ (IsS72.ge HI554.out)) | exact HB.out)))); have n2_ := Aside0.mk (hb); have n3_ := Aside0.mk (hi); clear HB; clear HI554; have HO557 := n0_; have HO561 := n1_; have HB := n2_; have HI554 := n3_; clear n0_ n1_ n2_ n3_; (try clear hb); (try clear hb2); (try clear hk); (try clear hi); (try clear ho0); (try clear ho1)) | ((with_reducible refine gate_dst (N := 5) rfl ?_); (try (refine gate_guard (by rfl) ?_; dsimp only)); refine box_event ?hg (N := 5) ?hd (cs := #[.string (⟨#[]⟩ : ByteArray), .slice none 0 0]) (t := 27) ?hr ?_; (case hd => rfl); (case hg => rfl); (case hr => first | (go_simp; done) | (go_simp; rfl)); intro gb564 hg w26 hbox hb; have n0_ := Aside0.mk (Kd.R_below (by (with_reducible repeat (first | apply Kd.R_alloc | apply Kd.R_drewN | apply Kd.R_drew)); exact HO557.out) hb); have n1_ := Aside0.mk (Kd.R_below (by (with_reducible repeat (first | apply Kd.R_alloc | apply Kd.R_drewN | apply Kd.R_drew)); exact HO561.out) hb); have n2_ := Aside0.mk (IsS72.below (by repeat (first | (with_reducible first | exact HI554.out | apply IsS72.alloc | apply IsS72.drewN | apply IsS72.drew | apply IsS72.set_0 | apply IsS72.set_1) | exact HI554.out)) hb); have n3_ := Aside0.mk (below_step (by repeat (first | (with_reducible first | exact HB.out | apply below_alloc | apply pw_below_drewN | apply below_drew1 | refine below_set ?_ (IsS72.ge HI554.out)) | exact HB.out)) hb); have n4_ := Aside0.mk (hbox); have n5_ := Aside0.mk ((by rw [hg]; exact (below_size (by repeat (first | (with_reducible first | exact HB.out | apply below_alloc | apply pw_below_drewN | apply below_drew1 | refine below_set ?_ (IsS72.ge HI554.out)) | exact HB.out))) : w.heap.size ≤ gb564)); have n6_ := Aside0.mk ((by rw [hg]; exact (below_size (by repeat (first | (with_reducible first | exact HB.out | apply below_alloc | apply pw_below_drewN | apply below_drew1 | refine below_set ?_ (IsS72.ge HI554.out)) | exact HB.out))) : w.heap.size ≤ gb564)); have n7_ := Aside0.mk ((by rw [hg]; exact Nat.ne_of_lt (IsS72.lt (show IsS72 w _ g554 t562 t563 from by repeat (first | (with_reducible first | exact HI554.out | apply IsS72.alloc | apply IsS72.drewN | apply IsS72.drew | apply IsS72.set_0 | apply IsS72.set_1) | exact HI554.out))) : g554 ≠ gb564)); have n8_ := Aside0.mk ((by rw [hg]; exact Nat.ne_of_gt (IsS72.lt (show IsS72 w _ g554 t562 t563 from by repeat (first | (with_reducible first | exact HI554.out | apply IsS72.alloc | apply IsS72.drewN | apply IsS72.drew | apply IsS72.set_0 | apply IsS72.set_1) | exact HI554.out))) : gb564 ≠ g554)); clear HO557; clear HO561; clear HI554; clear HB; have HO557 := n0_; have HO561 := n1_; have HI554 := n2_; have HB := n3_; have BK564 := n4_; have GW564 := n5_; have GE564 := n6_; have NB554_564 := n7_; have NB564_554 := n8_; clear n0_ n1_ n2_ n3_ n4_ n5_ n6_ n7_ n8_; clear hb hbox hg; have hnb27 := NB564_554.out; have hnc27 := NB554_564.out; have hcz28_0 : w26.cell? ⟨gb564, 0, none⟩ = some (.string (⟨#[]⟩ : ByteArray)) := (blk_cell BK564.out 0).trans rfl; have hcz28_1 : w26.cell? ⟨gb564, 1, none⟩ = some (.slice none 0 0) := (blk_cell BK564.out 1).trans rfl; have hfz28_0 := blk_frozen BK564.out 0; have hfz28_1 := blk_frozen BK564.out 1; obtain ⟨Ao29, co29, eo29⟩ := Kd.R_slice HO561.out; subst eo29) | ((with_reducible refine gate_store (t := 27) (p := 5) rfl ?_); (try (rw [drewN_self w26]; generalize hq_ : World.drewN w26 _ = w26; have n0_ := Aside0.mk (Kd.R_at hq_ HO557.out); have n1_ := Aside0.mk (Kd.R_at hq_ HO561.out); have n2_ := Aside0.mk (blk_at hq_ BK564.out); have n3_ := Aside0.mk (IsS72.at_ hq_ HI554.out); have n4_ := Aside0.mk (below_at hq_ HB.out); clear hq_ HO557 HO561 BK564 HI554 HB; have HO557 := n0_; have HO561 := n1_; have BK564 := n2_; have HI554 := n3_; have HB := n4_; clear n0_ n1_ n2_ n3_ n4_)); refine store_event (t := 27) (p := 5) (v := ?vo_w30) (w1 := ((w26.setCell ⟨gb564, 0, none⟩ (.string t558)).setCell ⟨gb564, 1, none⟩ (.slice Ao29 t559.length co29))) ?hg ?ho ?hn ?hr ?_; (case ho => rfl); (case hg => rfl); (case hn => rfl); (case hr => first | (go_simp; done) | (go_simp; rfl)); intro w30 hw; have n0_ : Aside0 (Kd.R k24 24 w30 w.heap.size (fun _ => True) v556 t555) := ⟨(by rw [hw]; exact (by (with_reducible repeat (first | apply Kd.R_alloc | apply Kd.R_drewN | apply Kd.R_drew)); exact Kd.R_mono (Kd.R_far (p := ⟨gb564, 1, none⟩) (Kd.R_far (p := ⟨gb564, 0, none⟩) (Kd.R_types HO557.out BK564.out (by decide)) (fun _ hk => hk.2) (.string t558)) (fun _ hk => hk.2) (.slice Ao29 t559.length co29)) (fun _ hk => trivial)))⟩; have n1_ : Aside0 (Kd.R (Kd.int .i64) 3 w30 w.heap.size (fun _ => True) (.slice Ao29 t559.length co29) t559) := ⟨(by rw [hw]; exact (by (with_reducible repeat (first | apply Kd.R_alloc | apply Kd.R_drewN | apply Kd.R_drew)); exact Kd.R_mono (Kd.R_far (p := ⟨gb564, 1, none⟩) (Kd.R_far (p := ⟨gb564, 0, none⟩) (Kd.R_types HO561.out BK564.out (by decide)) (fun _ hk => hk.2) (.string t558)) (fun _ hk => hk.2) (.slice Ao29 t559.length co29)) (fun _ hk => trivial)))⟩; have n2_ : Aside0 (w30.heap[gb564]? = some (.cells #[.string t558, .slice Ao29 t559.length co29] 27 (0, 0))) := ⟨(by rw [hw]; exact (by (with_reducible repeat (first | refine blk_drewN ?_ _ | refine blk_drew ?_ | refine blk_alloc ?_ _)); refine blk_put (cs := #[.string t558, .slice none 0 0]) ?_ 1 _ rfl; (with_reducible repeat (first | refine blk_drewN ?_ _ | refine blk_drew ?_ | refine blk_alloc ?_ _)); refine blk_put (cs := #[.string (⟨#[]⟩ : ByteArray), .slice none 0 0]) ?_ 0 _ rfl; (with_reducible repeat (first | refine blk_drewN ?_ _ | refine blk_drew ?_ | refine blk_alloc ?_ _)); exact BK564.out))⟩; have n3_ : Aside0 (IsS72 w w30 g554 t562 t563) := ⟨(by rw [hw]; exact (by repeat (first | (with_reducible first | exact HI554.out | apply IsS72.alloc | apply IsS72.drewN | apply IsS72.drew | apply IsS72.set_0 | apply IsS72.set_1 | refine IsS72.far ?_ NB554_564.out _) | exact HI554.out)))⟩; have n4_ : Aside0 (Below w.heap.size w w30) := ⟨(by rw [hw]; exact (by repeat (first | (with_reducible first | exact HB.out | apply below_alloc | apply pw_below_drewN | apply below_drew1 | refine below_set ?_ (IsS72.ge HI554.out) | refine below_set ?_ GE564.out) | exact HB.out)))⟩; clear hw; clear HO557; clear HO561; clear BK564; clear HI554; clear HB; have HO557 := n0_; have HO561 := n1_; have BK564 := n2_; have HI554 := n3_; have HB := n4_; clear n0_ n1_ n2_ n3_ n4_; obtain ⟨Ao31, co31, eo31⟩ := Kd.R_slice HO557.out; subst eo31; have q32 : ((ji14) : Int) ≤ ((t555.length : Int) : Int) := of_decide_eq_true (by first | (with_reducible assumption) | assumption); obtain ⟨i032, hi032, _, hsz32, _⟩ := info_parts info24; have hroom32 : t555.length ≤ co31 := (Kd.R_reads' HO557.out).2.1; have hC32 : Kd.F k24 _ _ Ao31 t555.length t555 := (Kd.V_at (base := w.heap.size) (Kd.R_V (IsS72.apart HI554.out (Kd.R_types (Kd.R_apart' (HO557.out) (Kd.R_typed HO561.out) (by decide)) BK564.out (by decide)) (by decide)))).2.2; have hcut32 := cut_to (P := Try.prog) 22 24 .i64 Try.underlying22 hi032 Ao31 t555.length co31 (ji14) (of_decide_eq_true (by first | (with_reducible assumption) | assumption)) q32 hroom32; have hr32 := Kd.F_take (m := ((ji14) : Int).toNat) hC32 (by omega); have hy32 : y566.length = ((ji14) : Int).toNat := (by rw [Ny566.out, List.length_take]; omega); rw [← Ny566.out] at hr32; rw [← hy32] at hcut32; have HO570 := Aside0.mk (show Kd.V k24 24 _ w.heap.size _ (.slice Ao31 y566.length co31) y566 from Kd.V_mk (by omega) hr32); have HC570 := Aside0.mk (show y566.length ≤ co31 from by omega); clear hr32 hC32 hroom32 hi032 hsz32; have KY32 := Aside0.mk hy32; clear hy32; replace q32 := eq_true q32) | (go_at_call 18; (with_reducible refine (stemma_Letters.calls k _ _ y566 t571 t572 _ ?side1 ?side2 A17.out).mono ?_); (case side1 => repeat (first | exact (Kd.V_reads' HO570.out).2.2 | (with_reducible refine Kd.C_alloc ?_ _) | (with_reducible refine Kd.C_drewN ?_ _) | (with_reducible refine Kd.C_drew ?_))); (case side2 => exact (Kd.V_reads' HO570.out).2.1); rintro e w33 ⟨v573, rfl, ho0, hb⟩; have n0_ := Aside0.mk (Kd.R_below (by (with_reducible repeat (first | apply Kd.R_alloc | apply Kd.R_drewN | apply Kd.R_drew)); exact HO557.out) hb); have n1_ := Aside0.mk (Kd.R_below (by (with_reducible repeat (first | apply Kd.R_alloc | apply Kd.R_drewN | apply Kd.R_drew)); exact HO561.out) hb); have n2_ := Aside0.mk (Kd.V_elder' (by (with_reducible repeat (first | apply Kd.V_alloc | apply Kd.V_drewN | apply Kd.V_drew)); exact HO570.out) (Kd.R_base ho0) hb); have n3_ := Aside0.mk (Kd.R_lower ho0 (below_size (by repeat (first | (with_reducible first | exact HB.out | apply below_alloc | apply pw_below_drewN | apply below_drew1 | refine below_set ?_ (IsS72.ge HI554.out) | refine below_set ?_ GE564.out) | exact HB.out)))); have n4_ := Aside0.mk (IsS72.below (by repeat (first | (with_reducible first | exact HI554.out | apply IsS72.alloc | apply IsS72.drewN | apply IsS72.drew | apply IsS72.set_0 | apply IsS72.set_1 | refine IsS72.far ?_ NB554_564.out _) | exact HI554.out)) hb); have n5_ := Aside0.mk (blk_below (g := gb564) (o := .cells #[.string t558, .slice Ao29 t559.length co29] 27 (0, 0)) (by (with_reducible repeat (first | refine blk_drewN ?_ _ | refine blk_drew ?_ | refine blk_alloc ?_ _)); exact BK564.out) hb); have n6_ := Aside0.mk (below_step (by repeat (first | (with_reducible first | exact HB.out | apply below_alloc | apply pw_below_drewN | apply below_drew1 | refine below_set ?_ (IsS72.ge HI554.out) | refine below_set ?_ GE564.out) | exact HB.out)) hb); clear HO557; clear HO561; clear HO570; clear HI554; clear BK564; clear HB; have HO557 := n0_; have HO561 := n1_; have HO570 := n2_; have HO574 := n3_; have HI554 := n4_; have BK564 := n5_; have HB := n6_; clear n0_ n1_ n2_ n3_ n4_ n5_ n6_; (try clear hb); (try clear hb2); (try clear hk); (try clear hi); (try clear ho0)) | (go_at_call 18; (with_reducible refine (stemma_Letters.calls k _ _ t555 t575 t576 _ ?side1 ?side2 A18.out).mono ?_); (case side1 => repeat (first | exact (Kd.R_reads' HO557.out).2.2 | (with_reducible refine Kd.C_alloc ?_ _) | (with_reducible refine Kd.C_drewN ?_ _) | (with_reducible refine Kd.C_drew ?_))); (case side2 => exact (Kd.R_reads' HO557.out).2.1); rintro e w34 ⟨v577, rfl, ho0, hb⟩; have n0_ := Aside0.mk (Kd.R_below (by (with_reducible repeat (first | apply Kd.R_alloc | apply Kd.R_drewN | apply Kd.R_drew)); exact HO557.out) hb); have n1_ := Aside0.mk (Kd.R_below (by (with_reducible repeat (first | apply Kd.R_alloc | apply Kd.R_drewN | apply Kd.R_drew)); exact HO561.out) hb); have n2_ := Aside0.mk (Kd.V_elder' (by (with_reducible repeat (first | apply Kd.V_alloc | apply Kd.V_drewN | apply Kd.V_drew)); exact HO570.out) (Kd.R_base ho0) hb); have n3_ := Aside0.mk (Kd.R_elder' (by (with_reducible repeat (first | apply Kd.R_alloc | apply Kd.R_drewN | apply Kd.R_drew)); exact HO574.out) (Kd.R_base ho0) hb); have n4_ := Aside0.mk (Kd.R_lower (Kd.R_new' ho0 (Kd.R_lt (by (with_reducible repeat (first | apply Kd.R_alloc | apply Kd.R_drewN | apply Kd.R_drew)); exact HO574.out))) (below_size (by repeat (first | (with_reducible first | exact HB.out | apply below_alloc | apply pw_below_drewN | apply below_drew1 | refine below_set ?_ (IsS72.ge HI554.out) | refine below_set ?_ GE564.out) | exact HB.out)))); have n5_ := Aside0.mk (IsS72.below (by repeat (first | (with_reducible first | exact HI554.out | apply IsS72.alloc | apply IsS72.drewN | apply IsS72.drew | apply IsS72.set_0 | apply IsS72.set_1 | refine IsS72.far ?_ NB554_564.out _) | exact HI554.out)) hb); have n6_ := Aside0.mk (blk_below (g := gb564) (o := .cells #[.string t558, .slice Ao29 t559.length co29] 27 (0, 0)) (by (with_reducible repeat (first | refine blk_drewN ?_ _ | refine blk_drew ?_ | refine blk_alloc ?_ _)); exact BK564.out) hb); have n7_ := Aside0.mk (below_step (by repeat (first | (with_reducible first | exact HB.out | apply below_alloc | apply pw_below_drewN | apply below_drew1 | refine below_set ?_ (IsS72.ge HI554.out) | refine below_set ?_ GE564.out) | exact HB.out)) hb); clear HO557; clear HO561; clear HO570; clear HO574; clear HI554; clear BK564; clear HB; have HO557 := n0_; have HO561 := n1_; have HO570 := n2_; have HO574 := n3_; have HO578 := n4_; have HI554 := n5_; have BK564 := n6_; have HB := n7_; clear n0_ n1_ n2_ n3_ n4_ n5_ n6_ n7_; (try clear hb); (try clear hb2); (try clear hk); (try clear hi); (try clear ho0)) | (go_at_call 24; (with_reducible refine (stemma_Fewest.calls k _ _ y566 t579 t580 _ ?side1 ?side2 A19.out).mono ?_); (case side1 => repeat (first | exact (Kd.V_reads' HO570.out).2.2 | (with_reducible refine Kd.C_alloc ?_ _) | (with_reducible refine Kd.C_drewN ?_ _) | (with_reducible refine Kd.C_drew ?_))); (case side2 => exact (Kd.V_reads' HO570.out).2.1); rintro e w35 ⟨rfl, hb⟩; have n0_ := Aside0.mk (Kd.R_below (by (with_reducible repeat (first | apply Kd.R_alloc | apply Kd.R_drewN | apply Kd.R_drew)); exact HO557.out) hb); have n1_ := Aside0.mk (Kd.R_below (by (with_reducible repeat (first | apply Kd.R_alloc | apply Kd.R_drewN | apply Kd.R_drew)); exact HO561.out) hb); have n2_ := Aside0.mk (Kd.V_below (by (with_reducible repeat (first | apply Kd.V_alloc | apply Kd.V_drewN | apply Kd.V_drew)); exact HO570.out) hb); have n3_ := Aside0.mk (Kd.R_below (by (with_reducible repeat (first | apply Kd.R_alloc | apply Kd.R_drewN | apply Kd.R_drew)); exact HO574.out) hb); have n4_ := Aside0.mk (Kd.R_below (by (with_reducible repeat (first | apply Kd.R_alloc | apply Kd.R_drewN | apply Kd.R_drew)); exact HO578.out) hb); have n5_ := Aside0.mk (IsS72.below (by repeat (first | (with_reducible first | exact HI554.out | apply IsS72.alloc | apply IsS72.drewN | apply IsS72.drew | apply IsS72.set_0 | apply IsS72.set_1 | refine IsS72.far ?_ NB554_564.out _) | exact HI554.out)) hb); have n6_ := Aside0.mk (blk_below (g := gb564) (o := .cells #[.string t558, .slice Ao29 t559.length co29] 27 (0, 0)) (by (with_reducible repeat (first | refine blk_drewN ?_ _ | refine blk_drew ?_ | refine blk_alloc ?_ _)); exact BK564.out) hb); have n7_ := Aside0.mk (below_step (by repeat (first | (with_reducible first | exact HB.out | apply below_alloc | apply pw_below_drewN | apply below_drew1 | refine below_set ?_ (IsS72.ge HI554.out) | refine below_set ?_ GE564.out) | exact HB.out)) hb); clear HO557; clear HO561; clear HO570; clear HO574; clear HO578; clear HI554; clear BK564; clear HB; have HO557 := n0_; have HO561 := n1_; have HO570 := n2_; have HO574 := n3_; have HO578 := n4_; have HI554 := n5_; have BK564 := n6_; have HB := n7_; clear n0_ n1_ n2_ n3_ n4_ n5_ n6_ n7_; (try clear hb); (try clear hb2); (try clear hk); (try clear hi)) | (go_at_call 24; (with_reducible refine (stemma_Fewest.calls k _ _ t555 t581 t582 _ ?side1 ?side2 A20.out).mono ?_); (case side1 => repeat (first | exact (Kd.R_reads' HO557.out).2.2 | (with_reducible refine Kd.C_alloc ?_ _) | (with_reducible refine Kd.C_drewN ?_ _) | (with_reducible refine Kd.C_drew ?_))); (case side2 => exact (Kd.R_reads' HO557.out).2.1); rintro e w36 ⟨rfl, hb⟩; have n0_ := Aside0.mk (Kd.R_below (by (with_reducible repeat (first | apply Kd.R_alloc | apply Kd.R_drewN | apply Kd.R_drew)); exact HO557.out) hb); have n1_ := Aside0.mk (Kd.R_below (by (with_reducible repeat (first | apply Kd.R_alloc | apply Kd.R_drewN | apply Kd.R_drew)); exact HO561.out) hb); have n2_ := Aside0.mk (Kd.V_below (by (with_reducible repeat (first | apply Kd.V_alloc | apply Kd.V_drewN | apply Kd.V_drew)); exact HO570.out) hb); have n3_ := Aside0.mk (Kd.R_below (by (with_reducible repeat (first | apply Kd.R_alloc | apply Kd.R_drewN | apply Kd.R_drew)); exact HO574.out) hb); have n4_ := Aside0.mk (Kd.R_below (by (with_reducible repeat (first | apply Kd.R_alloc | apply Kd.R_drewN | apply Kd.R_drew)); exact HO578.out) hb); have n5_ := Aside0.mk (IsS72.below (by repeat (first | (with_reducible first | exact HI554.out | apply IsS72.alloc | apply IsS72.drewN | apply IsS72.drew | apply IsS72.set_0 | apply IsS72.set_1 | refine IsS72.far ?_ NB554_564.out _) | exact HI554.out)) hb); have n6_ := Aside0.mk (blk_below (g := gb564) (o := .cells #[.string t558, .slice Ao29 t559.length co29] 27 (0, 0)) (by (with_reducible repeat (first | refine blk_drewN ?_ _ | refine blk_drew ?_ | refine blk_alloc ?_ _)); exact BK564.out) hb); have n7_ := Aside0.mk (below_step (by repeat (first | (with_reducible first | exact HB.out | apply below_alloc | apply pw_below_drewN | apply below_drew1 | refine below_set ?_ (IsS72.ge HI554.out) | refine below_set ?_ GE564.out) | exact HB.out)) hb); clear HO557; clear HO561; clear HO570; clear HO574; clear HO578; clear HI554; clear BK564; clear HB; have HO557 := n0_; have HO561 := n1_; have HO570 := n2_; have HO574 := n3_; have HO578 := n4_; have HI554 := n5_; have BK564 := n6_; have HB := n7_; clear n0_ n1_ n2_ n3_ n4_ n5_ n6_ n7_; (try clear hb); (try clear hb2); (try clear hk); (try clear hi)) | (go_at_call 30; (with_reducible refine (stemma_Sources.calls k _ _ y566 t583 t586 _ ?side1 ?side2 A21.out).mono ?_); (case side1 => repeat (first | exact (Kd.V_reads' HO570.out).2.2 | (with_reducible refine Kd.C_alloc ?_ _) | (with_reducible refine Kd.C_drewN ?_ _) | (with_reducible refine Kd.C_drew ?_))); (case side2 => exact (Kd.V_reads' HO570.out).2.1); rintro e w37 ⟨v584, rfl, ho0, hb⟩; have n0_ := Aside0.mk (Kd.R_below (by (with_reducible repeat (first | apply Kd.R_alloc | apply Kd.R_drewN | apply Kd.R_drew)); exact HO557.out) hb); have n1_ := Aside0.mk (Kd.R_below (by (with_reducible repeat (first | apply Kd.R_alloc | apply Kd.R_drewN | apply Kd.R_drew)); exact HO561.out) hb); have n2_ := Aside0.mk (Kd.V_elder' (by (with_reducible repeat (first | apply Kd.V_alloc | apply Kd.V_drewN | apply Kd.V_drew)); exact HO570.out) (Kd.N_base ho0) hb); have n3_ := Aside0.mk (Kd.R_below (by (with_reducible repeat (first | apply Kd.R_alloc | apply Kd.R_drewN | apply Kd.R_drew)); exact HO574.out) hb); have n4_ := Aside0.mk (Kd.R_below (by (with_reducible repeat (first | apply Kd.R_alloc | apply Kd.R_drewN | apply Kd.R_drew)); exact HO578.out) hb); have n5_ := Aside0.mk (Kd.N_lower (Kd.N_mono (ok' := fun k_ => some k_ ≠ (.slice Ao31 t555.length co31 : Value).ownBlock ∧ some k_ ≠ (.slice Ao29 t559.length co29 : Value).ownBlock ∧ some k_ ≠ (v573 : Value).ownBlock ∧ some k_ ≠ (v577 : Value).ownBlock ∧ k_ ≠ gb564 ∧ k_ ≠ g554) ho0 (fun k_ hk_ => ⟨(Kd.fresh' (Kd.R_lt (by (with_reducible repeat (first | apply Kd.R_alloc | apply Kd.R_drewN | apply Kd.R_drew)); exact HO557.out)) k_ hk_), (Kd.fresh' (Kd.R_lt (by (with_reducible repeat (first | apply Kd.R_alloc | apply Kd.R_drewN | apply Kd.R_drew)); exact HO561.out)) k_ hk_), (Kd.fresh' (Kd.R_lt (by (with_reducible repeat (first | apply Kd.R_alloc | apply Kd.R_drewN | apply Kd.R_drew)); exact HO574.out)) k_ hk_), (Kd.fresh' (Kd.R_lt (by (with_reducible repeat (first | apply Kd.R_alloc | apply Kd.R_drewN | apply Kd.R_drew)); exact HO578.out)) k_ hk_), (Kd.freshB (g := gb564) (o := .cells #[.string t558, .slice Ao29 t559.length co29] 27 (0, 0)) (by (with_reducible repeat (first | refine blk_drewN ?_ _ | refine blk_drew ?_ | refine blk_alloc ?_ _)); exact BK564.out) k_ hk_), (IsS72.fresh (by repeat (first | (with_reducible first | exact HI554.out | apply IsS72.alloc | apply IsS72.drewN | apply IsS72.drew | apply IsS72.set_0 | apply IsS72.set_1 | refine IsS72.far ?_ NB554_564.out _) | exact HI554.out)) k_ hk_)⟩)) (below_size (by repeat (first | (with_reducible first | exact HB.out | apply below_alloc | apply pw_below_drewN | apply below_drew1 | refine below_set ?_ (IsS72.ge HI554.out) | refine below_set ?_ GE564.out) | exact HB.out)))); have n6_ := Aside0.mk (IsS72.below (by repeat (first | (with_reducible first | exact HI554.out | apply IsS72.alloc | apply IsS72.drewN | apply IsS72.drew | apply IsS72.set_0 | apply IsS72.set_1 | refine IsS72.far ?_ NB554_564.out _) | exact HI554.out)) hb); have n7_ := Aside0.mk (blk_below (g := gb564) (o := .cells #[.string t558, .slice Ao29 t559.length co29] 27 (0, 0)) (by (with_reducible repeat (first | refine blk_drewN ?_ _ | refine blk_drew ?_ | refine blk_alloc ?_ _)); exact BK564.out) hb); have n8_ := Aside0.mk (below_step (by repeat (first | (with_reducible first | exact HB.out | apply below_alloc | apply pw_below_drewN | apply below_drew1 | refine below_set ?_ (IsS72.ge HI554.out) | refine below_set ?_ GE564.out) | exact HB.out)) hb); clear HO557; clear HO561; clear HO570; clear HO574; clear HO578; clear HI554; clear BK564; clear HB; have HO557 := n0_; have HO561 := n1_; have HO570 := n2_; have HO574 := n3_; have HO578 := n4_; have HO585 := n5_; have HI554 := n6_; have BK564 := n7_; have HB := n8_; clear n0_ n1_ n2_ n3_ n4_ n5_ n6_ n7_ n8_; (try clear hb); (try clear hb2); (try clear hk); (try clear hi); (try clear ho0)) | (go_at_call 30; (with_reducible refine (stemma_Sources.calls k _ _ t555 t587 t590 _ ?side1 ?side2 A22.out).mono ?_); (case side1 => repeat (first | exact (Kd.R_reads' HO557.out).2.2 | (with_reducible refine Kd.C_alloc ?_ _) | (with_reducible refine Kd.C_drewN ?_ _) | (with_reducible refine Kd.C_drew ?_))); (case side2 => exact (Kd.R_reads' HO557.out).2.1); rintro e w38 ⟨v588, rfl, ho0, hb⟩; have n0_ := Aside0.mk (Kd.R_below (by (with_reducible repeat (first | apply Kd.R_alloc | apply Kd.R_drewN | apply Kd.R_drew)); exact HO557.out) hb); have n1_ := Aside0.mk (Kd.R_below (by (with_reducible repeat (first | apply Kd.R_alloc | apply Kd.R_drewN | apply Kd.R_drew)); exact HO561.out) hb); have n2_ := Aside0.mk (Kd.V_elder' (by (with_reducible repeat (first | apply Kd.V_alloc | apply Kd.V_drewN | apply Kd.V_drew)); exact HO570.out) (Kd.N_base ho0) hb); have n3_ := Aside0.mk (Kd.R_below (by (with_reducible repeat (first | apply Kd.R_alloc | apply Kd.R_drewN | apply Kd.R_drew)); exact HO574.out) hb); have n4_ := Aside0.mk (Kd.R_below (by (with_reducible repeat (first | apply Kd.R_alloc | apply Kd.R_drewN | apply Kd.R_drew)); exact HO578.out) hb); have n5_ := Aside0.mk (Kd.N_elder' (by (with_reducible repeat (first | apply Kd.N_alloc | apply Kd.N_drewN | apply Kd.N_drew)); exact HO585.out) (Kd.N_base ho0) hb); have n6_ := Aside0.mk (Kd.N_lower (Kd.N_mono (ok' := fun k_ => some k_ ≠ (.slice Ao31 t555.length co31 : Value).ownBlock ∧ some k_ ≠ (.slice Ao29 t559.length co29 : Value).ownBlock ∧ some k_ ≠ (v573 : Value).ownBlock ∧ some k_ ≠ (v577 : Value).ownBlock ∧ some k_ ≠ (v584 : Value).ownBlock ∧ k_ ≠ gb564 ∧ k_ ≠ g554) ho0 (fun k_ hk_ => ⟨(Kd.fresh' (Kd.R_lt (by (with_reducible repeat (first | apply Kd.R_alloc | apply Kd.R_drewN | apply Kd.R_drew)); exact HO557.out)) k_ hk_), (Kd.fresh' (Kd.R_lt (by (with_reducible repeat (first | apply Kd.R_alloc | apply Kd.R_drewN | apply Kd.R_drew)); exact HO561.out)) k_ hk_), (Kd.fresh' (Kd.R_lt (by (with_reducible repeat (first | apply Kd.R_alloc | apply Kd.R_drewN | apply Kd.R_drew)); exact HO574.out)) k_ hk_), (Kd.fresh' (Kd.R_lt (by (with_reducible repeat (first | apply Kd.R_alloc | apply Kd.R_drewN | apply Kd.R_drew)); exact HO578.out)) k_ hk_), (Kd.fresh' (Kd.N_lt (by (with_reducible repeat (first | apply Kd.N_alloc | apply Kd.N_drewN | apply Kd.N_drew)); exact HO585.out)) k_ hk_), (Kd.freshB (g := gb564) (o := .cells #[.string t558, .slice Ao29 t559.length co29] 27 (0, 0)) (by (with_reducible repeat (first | refine blk_drewN ?_ _ | refine blk_drew ?_ | refine blk_alloc ?_ _)); exact BK564.out) k_ hk_), (IsS72.fresh (by repeat (first | (with_reducible first | exact HI554.out | apply IsS72.alloc | apply IsS72.drewN | apply IsS72.drew | apply IsS72.set_0 | apply IsS72.set_1 | refine IsS72.far ?_ NB554_564.out _) | exact HI554.out)) k_ hk_)⟩)) (below_size (by repeat (first | (with_reducible first | exact HB.out | apply below_alloc | apply pw_below_drewN | apply below_drew1 | refine below_set ?_ (IsS72.ge HI554.out) | refine below_set ?_ GE564.out) | exact HB.out)))); have n7_ := Aside0.mk (IsS72.below (by repeat (first | (with_reducible first | exact HI554.out | apply IsS72.alloc | apply IsS72.drewN | apply IsS72.drew | apply IsS72.set_0 | apply IsS72.set_1 | refine IsS72.far ?_ NB554_564.out _) | exact HI554.out)) hb); have n8_ := Aside0.mk (blk_below (g := gb564) (o := .cells #[.string t558, .slice Ao29 t559.length co29] 27 (0, 0)) (by (with_reducible repeat (first | refine blk_drewN ?_ _ | refine blk_drew ?_ | refine blk_alloc ?_ _)); exact BK564.out) hb); have n9_ := Aside0.mk (below_step (by repeat (first | (with_reducible first | exact HB.out | apply below_alloc | apply pw_below_drewN | apply below_drew1 | refine below_set ?_ (IsS72.ge HI554.out) | refine below_set ?_ GE564.out) | exact HB.out)) hb); clear HO557; clear HO561; clear HO570; clear HO574; clear HO578; clear HO585; clear HI554; clear BK564; clear HB; have HO557 := n0_; have HO561 := n1_; have HO570 := n2_; have HO574 := n3_; have HO578 := n4_; have HO585 := n5_; have HO589 := n6_; have HI554 := n7_; have BK564 := n8_; have HB := n9_; clear n0_ n1_ n2_ n3_ n4_ n5_ n6_ n7_ n8_ n9_; (try clear hb); (try clear hb2); (try clear hk); (try clear hi); (try clear ho0)))
        repeat (go_quiet (first | (go_at_call 14; (with_reducible refine (cippuskit_NewUrn.calls _ _ l0 t552 t553 w _ ?side1 ?side2 ?side3 A2.out).mono ?_); (case side1 => repeat (first | (with_reducible first | exact HB.out | apply below_alloc | apply pw_below_drewN | apply below_drew1) | exact HB.out)); (case side2 => exact HR0.out); (case side3 => exact HC0.out); rintro e w24 ⟨g554, rfl, hi, hb, hb2⟩; have n0_ := Aside0.mk (hb); have n1_ := Aside0.mk (hi); clear HB; have HB := n0_; have HI554 := n1_; clear n0_ n1_; (try clear hb); (try clear hb2); (try clear hk); (try clear hi)) | (go_at_call 13; (with_reducible refine (cippuskit_CopiesOf.calls g554 t552 t553 5 5 1 t555 t558 t559 t562 t563 w _ ?side1 ?side2 A3.out).mono ?_); (case side1 => repeat (first | (with_reducible first | exact HI554.out | apply IsS72.alloc | apply IsS72.drewN | apply IsS72.drew | apply IsS72.set_0 | apply IsS72.set_1) | exact HI554.out)); (case side2 => repeat (first | (with_reducible first | exact HB.out | apply below_alloc | apply pw_below_drewN | apply below_drew1 | refine below_set ?_ (IsS72.ge HI554.out)) | exact HB.out)); rintro e w25 ⟨v556, v560, rfl, ho0, ho1, hi, hb, hk⟩; have n0_ := Aside0.mk (Kd.R_lower ho0 (below_size (by repeat (first | (with_reducible first | exact HB.out | apply below_alloc | apply pw_below_drewN | apply below_drew1 | refine below_set ?_ (IsS72.ge HI554.out)) | exact HB.out)))); have n1_ := Aside0.mk (Kd.R_lower ho1 (below_size (by repeat (first | (with_reducible first | exact HB.out | apply below_alloc | apply pw_below_drewN | apply below_drew1 | refine below_set ?_ (IsS72.ge HI554.out)) | exact HB.out)))); have n2_ := Aside0.mk (hb); have n3_ := Aside0.mk (hi); clear HB; clear HI554; have HO557 := n0_; have HO561 := n1_; have HB := n2_; have HI554 := n3_; clear n0_ n1_ n2_ n3_; (try clear hb); (try clear hb2); (try clear hk); (try clear hi); (try clear ho0); (try clear ho1)) | ((with_reducible refine gate_dst (N := 5) rfl ?_); (try (refine gate_guard (by rfl) ?_; dsimp only)); refine box_event ?hg (N := 5) ?hd (cs := #[.string (⟨#[]⟩ : ByteArray), .slice none 0 0]) (t := 27) ?hr ?_; (case hd => rfl); (case hg => rfl); (case hr => first | (go_simp; done) | (go_simp; rfl)); intro gb564 hg w26 hbox hb; have n0_ := Aside0.mk (Kd.R_below (by (with_reducible repeat (first | apply Kd.R_alloc | apply Kd.R_drewN | apply Kd.R_drew)); exact HO557.out) hb); have n1_ := Aside0.mk (Kd.R_below (by (with_reducible repeat (first | apply Kd.R_alloc | apply Kd.R_drewN | apply Kd.R_drew)); exact HO561.out) hb); have n2_ := Aside0.mk (IsS72.below (by repeat (first | (with_reducible first | exact HI554.out | apply IsS72.alloc | apply IsS72.drewN | apply IsS72.drew | apply IsS72.set_0 | apply IsS72.set_1) | exact HI554.out)) hb); have n3_ := Aside0.mk (below_step (by repeat (first | (with_reducible first | exact HB.out | apply below_alloc | apply pw_below_drewN | apply below_drew1 | refine below_set ?_ (IsS72.ge HI554.out)) | exact HB.out)) hb); have n4_ := Aside0.mk (hbox); have n5_ := Aside0.mk ((by rw [hg]; exact (below_size (by repeat (first | (with_reducible first | exact HB.out | apply below_alloc | apply pw_below_drewN | apply below_drew1 | refine below_set ?_ (IsS72.ge HI554.out)) | exact HB.out))) : w.heap.size ≤ gb564)); have n6_ := Aside0.mk ((by rw [hg]; exact (below_size (by repeat (first | (with_reducible first | exact HB.out | apply below_alloc | apply pw_below_drewN | apply below_drew1 | refine below_set ?_ (IsS72.ge HI554.out)) | exact HB.out))) : w.heap.size ≤ gb564)); have n7_ := Aside0.mk ((by rw [hg]; exact Nat.ne_of_lt (IsS72.lt (show IsS72 w _ g554 t562 t563 from by repeat (first | (with_reducible first | exact HI554.out | apply IsS72.alloc | apply IsS72.drewN | apply IsS72.drew | apply IsS72.set_0 | apply IsS72.set_1) | exact HI554.out))) : g554 ≠ gb564)); have n8_ := Aside0.mk ((by rw [hg]; exact Nat.ne_of_gt (IsS72.lt (show IsS72 w _ g554 t562 t563 from by repeat (first | (with_reducible first | exact HI554.out | apply IsS72.alloc | apply IsS72.drewN | apply IsS72.drew | apply IsS72.set_0 | apply IsS72.set_1) | exact HI554.out))) : gb564 ≠ g554)); clear HO557; clear HO561; clear HI554; clear HB; have HO557 := n0_; have HO561 := n1_; have HI554 := n2_; have HB := n3_; have BK564 := n4_; have GW564 := n5_; have GE564 := n6_; have NB554_564 := n7_; have NB564_554 := n8_; clear n0_ n1_ n2_ n3_ n4_ n5_ n6_ n7_ n8_; clear hb hbox hg; have hnb27 := NB564_554.out; have hnc27 := NB554_564.out; have hcz28_0 : w26.cell? ⟨gb564, 0, none⟩ = some (.string (⟨#[]⟩ : ByteArray)) := (blk_cell BK564.out 0).trans rfl; have hcz28_1 : w26.cell? ⟨gb564, 1, none⟩ = some (.slice none 0 0) := (blk_cell BK564.out 1).trans rfl; have hfz28_0 := blk_frozen BK564.out 0; have hfz28_1 := blk_frozen BK564.out 1; obtain ⟨Ao29, co29, eo29⟩ := Kd.R_slice HO561.out; subst eo29) | ((with_reducible refine gate_store (t := 27) (p := 5) rfl ?_); (try (rw [drewN_self w26]; generalize hq_ : World.drewN w26 _ = w26; have n0_ := Aside0.mk (Kd.R_at hq_ HO557.out); have n1_ := Aside0.mk (Kd.R_at hq_ HO561.out); have n2_ := Aside0.mk (blk_at hq_ BK564.out); have n3_ := Aside0.mk (IsS72.at_ hq_ HI554.out); have n4_ := Aside0.mk (below_at hq_ HB.out); clear hq_ HO557 HO561 BK564 HI554 HB; have HO557 := n0_; have HO561 := n1_; have BK564 := n2_; have HI554 := n3_; have HB := n4_; clear n0_ n1_ n2_ n3_ n4_)); refine store_event (t := 27) (p := 5) (v := ?vo_w30) (w1 := ((w26.setCell ⟨gb564, 0, none⟩ (.string t558)).setCell ⟨gb564, 1, none⟩ (.slice Ao29 t559.length co29))) ?hg ?ho ?hn ?hr ?_; (case ho => rfl); (case hg => rfl); (case hn => rfl); (case hr => first | (go_simp; done) | (go_simp; rfl)); intro w30 hw; have n0_ : Aside0 (Kd.R k24 24 w30 w.heap.size (fun _ => True) v556 t555) := ⟨(by rw [hw]; exact (by (with_reducible repeat (first | apply Kd.R_alloc | apply Kd.R_drewN | apply Kd.R_drew)); exact Kd.R_mono (Kd.R_far (p := ⟨gb564, 1, none⟩) (Kd.R_far (p := ⟨gb564, 0, none⟩) (Kd.R_types HO557.out BK564.out (by decide)) (fun _ hk => hk.2) (.string t558)) (fun _ hk => hk.2) (.slice Ao29 t559.length co29)) (fun _ hk => trivial)))⟩; have n1_ : Aside0 (Kd.R (Kd.int .i64) 3 w30 w.heap.size (fun _ => True) (.slice Ao29 t559.length co29) t559) := ⟨(by rw [hw]; exact (by (with_reducible repeat (first | apply Kd.R_alloc | apply Kd.R_drewN | apply Kd.R_drew)); exact Kd.R_mono (Kd.R_far (p := ⟨gb564, 1, none⟩) (Kd.R_far (p := ⟨gb564, 0, none⟩) (Kd.R_types HO561.out BK564.out (by decide)) (fun _ hk => hk.2) (.string t558)) (fun _ hk => hk.2) (.slice Ao29 t559.length co29)) (fun _ hk => trivial)))⟩; have n2_ : Aside0 (w30.heap[gb564]? = some (.cells #[.string t558, .slice Ao29 t559.length co29] 27 (0, 0))) := ⟨(by rw [hw]; exact (by (with_reducible repeat (first | refine blk_drewN ?_ _ | refine blk_drew ?_ | refine blk_alloc ?_ _)); refine blk_put (cs := #[.string t558, .slice none 0 0]) ?_ 1 _ rfl; (with_reducible repeat (first | refine blk_drewN ?_ _ | refine blk_drew ?_ | refine blk_alloc ?_ _)); refine blk_put (cs := #[.string (⟨#[]⟩ : ByteArray), .slice none 0 0]) ?_ 0 _ rfl; (with_reducible repeat (first | refine blk_drewN ?_ _ | refine blk_drew ?_ | refine blk_alloc ?_ _)); exact BK564.out))⟩; have n3_ : Aside0 (IsS72 w w30 g554 t562 t563) := ⟨(by rw [hw]; exact (by repeat (first | (with_reducible first | exact HI554.out | apply IsS72.alloc | apply IsS72.drewN | apply IsS72.drew | apply IsS72.set_0 | apply IsS72.set_1 | refine IsS72.far ?_ NB554_564.out _) | exact HI554.out)))⟩; have n4_ : Aside0 (Below w.heap.size w w30) := ⟨(by rw [hw]; exact (by repeat (first | (with_reducible first | exact HB.out | apply below_alloc | apply pw_below_drewN | apply below_drew1 | refine below_set ?_ (IsS72.ge HI554.out) | refine below_set ?_ GE564.out) | exact HB.out)))⟩; clear hw; clear HO557; clear HO561; clear BK564; clear HI554; clear HB; have HO557 := n0_; have HO561 := n1_; have BK564 := n2_; have HI554 := n3_; have HB := n4_; clear n0_ n1_ n2_ n3_ n4_; obtain ⟨Ao31, co31, eo31⟩ := Kd.R_slice HO557.out; subst eo31; have q32 : ((ji14) : Int) ≤ ((t555.length : Int) : Int) := of_decide_eq_true (by first | (with_reducible assumption) | assumption); obtain ⟨i032, hi032, _, hsz32, _⟩ := info_parts info24; have hroom32 : t555.length ≤ co31 := (Kd.R_reads' HO557.out).2.1; have hC32 : Kd.F k24 _ _ Ao31 t555.length t555 := (Kd.V_at (base := w.heap.size) (Kd.R_V (IsS72.apart HI554.out (Kd.R_types (Kd.R_apart' (HO557.out) (Kd.R_typed HO561.out) (by decide)) BK564.out (by decide)) (by decide)))).2.2; have hcut32 := cut_to (P := Try.prog) 22 24 .i64 Try.underlying22 hi032 Ao31 t555.length co31 (ji14) (of_decide_eq_true (by first | (with_reducible assumption) | assumption)) q32 hroom32; have hr32 := Kd.F_take (m := ((ji14) : Int).toNat) hC32 (by omega); have hy32 : y566.length = ((ji14) : Int).toNat := (by rw [Ny566.out, List.length_take]; omega); rw [← Ny566.out] at hr32; rw [← hy32] at hcut32; have HO570 := Aside0.mk (show Kd.V k24 24 _ w.heap.size _ (.slice Ao31 y566.length co31) y566 from Kd.V_mk (by omega) hr32); have HC570 := Aside0.mk (show y566.length ≤ co31 from by omega); clear hr32 hC32 hroom32 hi032 hsz32; have KY32 := Aside0.mk hy32; clear hy32; replace q32 := eq_true q32) | (go_at_call 18; (with_reducible refine (stemma_Letters.calls k _ _ y566 t571 t572 _ ?side1 ?side2 A17.out).mono ?_); (case side1 => repeat (first | exact (Kd.V_reads' HO570.out).2.2 | (with_reducible refine Kd.C_alloc ?_ _) | (with_reducible refine Kd.C_drewN ?_ _) | (with_reducible refine Kd.C_drew ?_))); (case side2 => exact (Kd.V_reads' HO570.out).2.1); rintro e w33 ⟨v573, rfl, ho0, hb⟩; have n0_ := Aside0.mk (Kd.R_below (by (with_reducible repeat (first | apply Kd.R_alloc | apply Kd.R_drewN | apply Kd.R_drew)); exact HO557.out) hb); have n1_ := Aside0.mk (Kd.R_below (by (with_reducible repeat (first | apply Kd.R_alloc | apply Kd.R_drewN | apply Kd.R_drew)); exact HO561.out) hb); have n2_ := Aside0.mk (Kd.V_elder' (by (with_reducible repeat (first | apply Kd.V_alloc | apply Kd.V_drewN | apply Kd.V_drew)); exact HO570.out) (Kd.R_base ho0) hb); have n3_ := Aside0.mk (Kd.R_lower ho0 (below_size (by repeat (first | (with_reducible first | exact HB.out | apply below_alloc | apply pw_below_drewN | apply below_drew1 | refine below_set ?_ (IsS72.ge HI554.out) | refine below_set ?_ GE564.out) | exact HB.out)))); have n4_ := Aside0.mk (IsS72.below (by repeat (first | (with_reducible first | exact HI554.out | apply IsS72.alloc | apply IsS72.drewN | apply IsS72.drew | apply IsS72.set_0 | apply IsS72.set_1 | refine IsS72.far ?_ NB554_564.out _) | exact HI554.out)) hb); have n5_ := Aside0.mk (blk_below (g := gb564) (o := .cells #[.string t558, .slice Ao29 t559.length co29] 27 (0, 0)) (by (with_reducible repeat (first | refine blk_drewN ?_ _ | refine blk_drew ?_ | refine blk_alloc ?_ _)); exact BK564.out) hb); have n6_ := Aside0.mk (below_step (by repeat (first | (with_reducible first | exact HB.out | apply below_alloc | apply pw_below_drewN | apply below_drew1 | refine below_set ?_ (IsS72.ge HI554.out) | refine below_set ?_ GE564.out) | exact HB.out)) hb); clear HO557; clear HO561; clear HO570; clear HI554; clear BK564; clear HB; have HO557 := n0_; have HO561 := n1_; have HO570 := n2_; have HO574 := n3_; have HI554 := n4_; have BK564 := n5_; have HB := n6_; clear n0_ n1_ n2_ n3_ n4_ n5_ n6_; (try clear hb); (try clear hb2); (try clear hk); (try clear hi); (try clear ho0)) | (go_at_call 18; (with_reducible refine (stemma_Letters.calls k _ _ t555 t575 t576 _ ?side1 ?side2 A18.out).mono ?_); (case side1 => repeat (first | exact (Kd.R_reads' HO557.out).2.2 | (with_reducible refine Kd.C_alloc ?_ _) | (with_reducible refine Kd.C_drewN ?_ _) | (with_reducible refine Kd.C_drew ?_))); (case side2 => exact (Kd.R_reads' HO557.out).2.1); rintro e w34 ⟨v577, rfl, ho0, hb⟩; have n0_ := Aside0.mk (Kd.R_below (by (with_reducible repeat (first | apply Kd.R_alloc | apply Kd.R_drewN | apply Kd.R_drew)); exact HO557.out) hb); have n1_ := Aside0.mk (Kd.R_below (by (with_reducible repeat (first | apply Kd.R_alloc | apply Kd.R_drewN | apply Kd.R_drew)); exact HO561.out) hb); have n2_ := Aside0.mk (Kd.V_elder' (by (with_reducible repeat (first | apply Kd.V_alloc | apply Kd.V_drewN | apply Kd.V_drew)); exact HO570.out) (Kd.R_base ho0) hb); have n3_ := Aside0.mk (Kd.R_elder' (by (with_reducible repeat (first | apply Kd.R_alloc | apply Kd.R_drewN | apply Kd.R_drew)); exact HO574.out) (Kd.R_base ho0) hb); have n4_ := Aside0.mk (Kd.R_lower (Kd.R_new' ho0 (Kd.R_lt (by (with_reducible repeat (first | apply Kd.R_alloc | apply Kd.R_drewN | apply Kd.R_drew)); exact HO574.out))) (below_size (by repeat (first | (with_reducible first | exact HB.out | apply below_alloc | apply pw_below_drewN | apply below_drew1 | refine below_set ?_ (IsS72.ge HI554.out) | refine below_set ?_ GE564.out) | exact HB.out)))); have n5_ := Aside0.mk (IsS72.below (by repeat (first | (with_reducible first | exact HI554.out | apply IsS72.alloc | apply IsS72.drewN | apply IsS72.drew | apply IsS72.set_0 | apply IsS72.set_1 | refine IsS72.far ?_ NB554_564.out _) | exact HI554.out)) hb); have n6_ := Aside0.mk (blk_below (g := gb564) (o := .cells #[.string t558, .slice Ao29 t559.length co29] 27 (0, 0)) (by (with_reducible repeat (first | refine blk_drewN ?_ _ | refine blk_drew ?_ | refine blk_alloc ?_ _)); exact BK564.out) hb); have n7_ := Aside0.mk (below_step (by repeat (first | (with_reducible first | exact HB.out | apply below_alloc | apply pw_below_drewN | apply below_drew1 | refine below_set ?_ (IsS72.ge HI554.out) | refine below_set ?_ GE564.out) | exact HB.out)) hb); clear HO557; clear HO561; clear HO570; clear HO574; clear HI554; clear BK564; clear HB; have HO557 := n0_; have HO561 := n1_; have HO570 := n2_; have HO574 := n3_; have HO578 := n4_; have HI554 := n5_; have BK564 := n6_; have HB := n7_; clear n0_ n1_ n2_ n3_ n4_ n5_ n6_ n7_; (try clear hb); (try clear hb2); (try clear hk); (try clear hi); (try clear ho0)) | (go_at_call 24; (with_reducible refine (stemma_Fewest.calls k _ _ y566 t579 t580 _ ?side1 ?side2 A19.out).mono ?_); (case side1 => repeat (first | exact (Kd.V_reads' HO570.out).2.2 | (with_reducible refine Kd.C_alloc ?_ _) | (with_reducible refine Kd.C_drewN ?_ _) | (with_reducible refine Kd.C_drew ?_))); (case side2 => exact (Kd.V_reads' HO570.out).2.1); rintro e w35 ⟨rfl, hb⟩; have n0_ := Aside0.mk (Kd.R_below (by (with_reducible repeat (first | apply Kd.R_alloc | apply Kd.R_drewN | apply Kd.R_drew)); exact HO557.out) hb); have n1_ := Aside0.mk (Kd.R_below (by (with_reducible repeat (first | apply Kd.R_alloc | apply Kd.R_drewN | apply Kd.R_drew)); exact HO561.out) hb); have n2_ := Aside0.mk (Kd.V_below (by (with_reducible repeat (first | apply Kd.V_alloc | apply Kd.V_drewN | apply Kd.V_drew)); exact HO570.out) hb); have n3_ := Aside0.mk (Kd.R_below (by (with_reducible repeat (first | apply Kd.R_alloc | apply Kd.R_drewN | apply Kd.R_drew)); exact HO574.out) hb); have n4_ := Aside0.mk (Kd.R_below (by (with_reducible repeat (first | apply Kd.R_alloc | apply Kd.R_drewN | apply Kd.R_drew)); exact HO578.out) hb); have n5_ := Aside0.mk (IsS72.below (by repeat (first | (with_reducible first | exact HI554.out | apply IsS72.alloc | apply IsS72.drewN | apply IsS72.drew | apply IsS72.set_0 | apply IsS72.set_1 | refine IsS72.far ?_ NB554_564.out _) | exact HI554.out)) hb); have n6_ := Aside0.mk (blk_below (g := gb564) (o := .cells #[.string t558, .slice Ao29 t559.length co29] 27 (0, 0)) (by (with_reducible repeat (first | refine blk_drewN ?_ _ | refine blk_drew ?_ | refine blk_alloc ?_ _)); exact BK564.out) hb); have n7_ := Aside0.mk (below_step (by repeat (first | (with_reducible first | exact HB.out | apply below_alloc | apply pw_below_drewN | apply below_drew1 | refine below_set ?_ (IsS72.ge HI554.out) | refine below_set ?_ GE564.out) | exact HB.out)) hb); clear HO557; clear HO561; clear HO570; clear HO574; clear HO578; clear HI554; clear BK564; clear HB; have HO557 := n0_; have HO561 := n1_; have HO570 := n2_; have HO574 := n3_; have HO578 := n4_; have HI554 := n5_; have BK564 := n6_; have HB := n7_; clear n0_ n1_ n2_ n3_ n4_ n5_ n6_ n7_; (try clear hb); (try clear hb2); (try clear hk); (try clear hi)) | (go_at_call 24; (with_reducible refine (stemma_Fewest.calls k _ _ t555 t581 t582 _ ?side1 ?side2 A20.out).mono ?_); (case side1 => repeat (first | exact (Kd.R_reads' HO557.out).2.2 | (with_reducible refine Kd.C_alloc ?_ _) | (with_reducible refine Kd.C_drewN ?_ _) | (with_reducible refine Kd.C_drew ?_))); (case side2 => exact (Kd.R_reads' HO557.out).2.1); rintro e w36 ⟨rfl, hb⟩; have n0_ := Aside0.mk (Kd.R_below (by (with_reducible repeat (first | apply Kd.R_alloc | apply Kd.R_drewN | apply Kd.R_drew)); exact HO557.out) hb); have n1_ := Aside0.mk (Kd.R_below (by (with_reducible repeat (first | apply Kd.R_alloc | apply Kd.R_drewN | apply Kd.R_drew)); exact HO561.out) hb); have n2_ := Aside0.mk (Kd.V_below (by (with_reducible repeat (first | apply Kd.V_alloc | apply Kd.V_drewN | apply Kd.V_drew)); exact HO570.out) hb); have n3_ := Aside0.mk (Kd.R_below (by (with_reducible repeat (first | apply Kd.R_alloc | apply Kd.R_drewN | apply Kd.R_drew)); exact HO574.out) hb); have n4_ := Aside0.mk (Kd.R_below (by (with_reducible repeat (first | apply Kd.R_alloc | apply Kd.R_drewN | apply Kd.R_drew)); exact HO578.out) hb); have n5_ := Aside0.mk (IsS72.below (by repeat (first | (with_reducible first | exact HI554.out | apply IsS72.alloc | apply IsS72.drewN | apply IsS72.drew | apply IsS72.set_0 | apply IsS72.set_1 | refine IsS72.far ?_ NB554_564.out _) | exact HI554.out)) hb); have n6_ := Aside0.mk (blk_below (g := gb564) (o := .cells #[.string t558, .slice Ao29 t559.length co29] 27 (0, 0)) (by (with_reducible repeat (first | refine blk_drewN ?_ _ | refine blk_drew ?_ | refine blk_alloc ?_ _)); exact BK564.out) hb); have n7_ := Aside0.mk (below_step (by repeat (first | (with_reducible first | exact HB.out | apply below_alloc | apply pw_below_drewN | apply below_drew1 | refine below_set ?_ (IsS72.ge HI554.out) | refine below_set ?_ GE564.out) | exact HB.out)) hb); clear HO557; clear HO561; clear HO570; clear HO574; clear HO578; clear HI554; clear BK564; clear HB; have HO557 := n0_; have HO561 := n1_; have HO570 := n2_; have HO574 := n3_; have HO578 := n4_; have HI554 := n5_; have BK564 := n6_; have HB := n7_; clear n0_ n1_ n2_ n3_ n4_ n5_ n6_ n7_; (try clear hb); (try clear hb2); (try clear hk); (try clear hi)) | (go_at_call 30; (with_reducible refine (stemma_Sources.calls k _ _ y566 t583 t586 _ ?side1 ?side2 A21.out).mono ?_); (case side1 => repeat (first | exact (Kd.V_reads' HO570.out).2.2 | (with_reducible refine Kd.C_alloc ?_ _) | (with_reducible refine Kd.C_drewN ?_ _) | (with_reducible refine Kd.C_drew ?_))); (case side2 => exact (Kd.V_reads' HO570.out).2.1); rintro e w37 ⟨v584, rfl, ho0, hb⟩; have n0_ := Aside0.mk (Kd.R_below (by (with_reducible repeat (first | apply Kd.R_alloc | apply Kd.R_drewN | apply Kd.R_drew)); exact HO557.out) hb); have n1_ := Aside0.mk (Kd.R_below (by (with_reducible repeat (first | apply Kd.R_alloc | apply Kd.R_drewN | apply Kd.R_drew)); exact HO561.out) hb); have n2_ := Aside0.mk (Kd.V_elder' (by (with_reducible repeat (first | apply Kd.V_alloc | apply Kd.V_drewN | apply Kd.V_drew)); exact HO570.out) (Kd.N_base ho0) hb); have n3_ := Aside0.mk (Kd.R_below (by (with_reducible repeat (first | apply Kd.R_alloc | apply Kd.R_drewN | apply Kd.R_drew)); exact HO574.out) hb); have n4_ := Aside0.mk (Kd.R_below (by (with_reducible repeat (first | apply Kd.R_alloc | apply Kd.R_drewN | apply Kd.R_drew)); exact HO578.out) hb); have n5_ := Aside0.mk (Kd.N_lower (Kd.N_mono (ok' := fun k_ => some k_ ≠ (.slice Ao31 t555.length co31 : Value).ownBlock ∧ some k_ ≠ (.slice Ao29 t559.length co29 : Value).ownBlock ∧ some k_ ≠ (v573 : Value).ownBlock ∧ some k_ ≠ (v577 : Value).ownBlock ∧ k_ ≠ gb564 ∧ k_ ≠ g554) ho0 (fun k_ hk_ => ⟨(Kd.fresh' (Kd.R_lt (by (with_reducible repeat (first | apply Kd.R_alloc | apply Kd.R_drewN | apply Kd.R_drew)); exact HO557.out)) k_ hk_), (Kd.fresh' (Kd.R_lt (by (with_reducible repeat (first | apply Kd.R_alloc | apply Kd.R_drewN | apply Kd.R_drew)); exact HO561.out)) k_ hk_), (Kd.fresh' (Kd.R_lt (by (with_reducible repeat (first | apply Kd.R_alloc | apply Kd.R_drewN | apply Kd.R_drew)); exact HO574.out)) k_ hk_), (Kd.fresh' (Kd.R_lt (by (with_reducible repeat (first | apply Kd.R_alloc | apply Kd.R_drewN | apply Kd.R_drew)); exact HO578.out)) k_ hk_), (Kd.freshB (g := gb564) (o := .cells #[.string t558, .slice Ao29 t559.length co29] 27 (0, 0)) (by (with_reducible repeat (first | refine blk_drewN ?_ _ | refine blk_drew ?_ | refine blk_alloc ?_ _)); exact BK564.out) k_ hk_), (IsS72.fresh (by repeat (first | (with_reducible first | exact HI554.out | apply IsS72.alloc | apply IsS72.drewN | apply IsS72.drew | apply IsS72.set_0 | apply IsS72.set_1 | refine IsS72.far ?_ NB554_564.out _) | exact HI554.out)) k_ hk_)⟩)) (below_size (by repeat (first | (with_reducible first | exact HB.out | apply below_alloc | apply pw_below_drewN | apply below_drew1 | refine below_set ?_ (IsS72.ge HI554.out) | refine below_set ?_ GE564.out) | exact HB.out)))); have n6_ := Aside0.mk (IsS72.below (by repeat (first | (with_reducible first | exact HI554.out | apply IsS72.alloc | apply IsS72.drewN | apply IsS72.drew | apply IsS72.set_0 | apply IsS72.set_1 | refine IsS72.far ?_ NB554_564.out _) | exact HI554.out)) hb); have n7_ := Aside0.mk (blk_below (g := gb564) (o := .cells #[.string t558, .slice Ao29 t559.length co29] 27 (0, 0)) (by (with_reducible repeat (first | refine blk_drewN ?_ _ | refine blk_drew ?_ | refine blk_alloc ?_ _)); exact BK564.out) hb); have n8_ := Aside0.mk (below_step (by repeat (first | (with_reducible first | exact HB.out | apply below_alloc | apply pw_below_drewN | apply below_drew1 | refine below_set ?_ (IsS72.ge HI554.out) | refine below_set ?_ GE564.out) | exact HB.out)) hb); clear HO557; clear HO561; clear HO570; clear HO574; clear HO578; clear HI554; clear BK564; clear HB; have HO557 := n0_; have HO561 := n1_; have HO570 := n2_; have HO574 := n3_; have HO578 := n4_; have HO585 := n5_; have HI554 := n6_; have BK564 := n7_; have HB := n8_; clear n0_ n1_ n2_ n3_ n4_ n5_ n6_ n7_ n8_; (try clear hb); (try clear hb2); (try clear hk); (try clear hi); (try clear ho0)) | (go_at_call 30; (with_reducible refine (stemma_Sources.calls k _ _ t555 t587 t590 _ ?side1 ?side2 A22.out).mono ?_); (case side1 => repeat (first | exact (Kd.R_reads' HO557.out).2.2 | (with_reducible refine Kd.C_alloc ?_ _) | (with_reducible refine Kd.C_drewN ?_ _) | (with_reducible refine Kd.C_drew ?_))); (case side2 => exact (Kd.R_reads' HO557.out).2.1); rintro e w38 ⟨v588, rfl, ho0, hb⟩; have n0_ := Aside0.mk (Kd.R_below (by (with_reducible repeat (first | apply Kd.R_alloc | apply Kd.R_drewN | apply Kd.R_drew)); exact HO557.out) hb); have n1_ := Aside0.mk (Kd.R_below (by (with_reducible repeat (first | apply Kd.R_alloc | apply Kd.R_drewN | apply Kd.R_drew)); exact HO561.out) hb); have n2_ := Aside0.mk (Kd.V_elder' (by (with_reducible repeat (first | apply Kd.V_alloc | apply Kd.V_drewN | apply Kd.V_drew)); exact HO570.out) (Kd.N_base ho0) hb); have n3_ := Aside0.mk (Kd.R_below (by (with_reducible repeat (first | apply Kd.R_alloc | apply Kd.R_drewN | apply Kd.R_drew)); exact HO574.out) hb); have n4_ := Aside0.mk (Kd.R_below (by (with_reducible repeat (first | apply Kd.R_alloc | apply Kd.R_drewN | apply Kd.R_drew)); exact HO578.out) hb); have n5_ := Aside0.mk (Kd.N_elder' (by (with_reducible repeat (first | apply Kd.N_alloc | apply Kd.N_drewN | apply Kd.N_drew)); exact HO585.out) (Kd.N_base ho0) hb); have n6_ := Aside0.mk (Kd.N_lower (Kd.N_mono (ok' := fun k_ => some k_ ≠ (.slice Ao31 t555.length co31 : Value).ownBlock ∧ some k_ ≠ (.slice Ao29 t559.length co29 : Value).ownBlock ∧ some k_ ≠ (v573 : Value).ownBlock ∧ some k_ ≠ (v577 : Value).ownBlock ∧ some k_ ≠ (v584 : Value).ownBlock ∧ k_ ≠ gb564 ∧ k_ ≠ g554) ho0 (fun k_ hk_ => ⟨(Kd.fresh' (Kd.R_lt (by (with_reducible repeat (first | apply Kd.R_alloc | apply Kd.R_drewN | apply Kd.R_drew)); exact HO557.out)) k_ hk_), (Kd.fresh' (Kd.R_lt (by (with_reducible repeat (first | apply Kd.R_alloc | apply Kd.R_drewN | apply Kd.R_drew)); exact HO561.out)) k_ hk_), (Kd.fresh' (Kd.R_lt (by (with_reducible repeat (first | apply Kd.R_alloc | apply Kd.R_drewN | apply Kd.R_drew)); exact HO574.out)) k_ hk_), (Kd.fresh' (Kd.R_lt (by (with_reducible repeat (first | apply Kd.R_alloc | apply Kd.R_drewN | apply Kd.R_drew)); exact HO578.out)) k_ hk_), (Kd.fresh' (Kd.N_lt (by (with_reducible repeat (first | apply Kd.N_alloc | apply Kd.N_drewN | apply Kd.N_drew)); exact HO585.out)) k_ hk_), (Kd.freshB (g := gb564) (o := .cells #[.string t558, .slice Ao29 t559.length co29] 27 (0, 0)) (by (with_reducible repeat (first | refine blk_drewN ?_ _ | refine blk_drew ?_ | refine blk_alloc ?_ _)); exact BK564.out) k_ hk_), (IsS72.fresh (by repeat (first | (with_reducible first | exact HI554.out | apply IsS72.alloc | apply IsS72.drewN | apply IsS72.drew | apply IsS72.set_0 | apply IsS72.set_1 | refine IsS72.far ?_ NB554_564.out _) | exact HI554.out)) k_ hk_)⟩)) (below_size (by repeat (first | (with_reducible first | exact HB.out | apply below_alloc | apply pw_below_drewN | apply below_drew1 | refine below_set ?_ (IsS72.ge HI554.out) | refine below_set ?_ GE564.out) | exact HB.out)))); have n7_ := Aside0.mk (IsS72.below (by repeat (first | (with_reducible first | exact HI554.out | apply IsS72.alloc | apply IsS72.drewN | apply IsS72.drew | apply IsS72.set_0 | apply IsS72.set_1 | refine IsS72.far ?_ NB554_564.out _) | exact HI554.out)) hb); have n8_ := Aside0.mk (blk_below (g := gb564) (o := .cells #[.string t558, .slice Ao29 t559.length co29] 27 (0, 0)) (by (with_reducible repeat (first | refine blk_drewN ?_ _ | refine blk_drew ?_ | refine blk_alloc ?_ _)); exact BK564.out) hb); have n9_ := Aside0.mk (below_step (by repeat (first | (with_reducible first | exact HB.out | apply below_alloc | apply pw_below_drewN | apply below_drew1 | refine below_set ?_ (IsS72.ge HI554.out) | refine below_set ?_ GE564.out) | exact HB.out)) hb); clear HO557; clear HO561; clear HO570; clear HO574; clear HO578; clear HO585; clear HI554; clear BK564; clear HB; have HO557 := n0_; have HO561 := n1_; have HO570 := n2_; have HO574 := n3_; have HO578 := n4_; have HO585 := n5_; have HO589 := n6_; have HI554 := n7_; have BK564 := n8_; have HB := n9_; clear n0_ n1_ n2_ n3_ n4_ n5_ n6_ n7_ n8_ n9_; (try clear hb); (try clear hb2); (try clear hk); (try clear hi); (try clear ho0))); go_upto_region 12 with (first | (go_at_call 14; (with_reducible refine (cippuskit_NewUrn.calls _ _ l0 t552 t553 w _ ?side1 ?side2 ?side3 A2.out).mono ?_); (case side1 => repeat (first | (with_reducible first | exact HB.out | apply below_alloc | apply pw_below_drewN | apply below_drew1) | exact HB.out)); (case side2 => exact HR0.out); (case side3 => exact HC0.out); rintro e w24 ⟨g554, rfl, hi, hb, hb2⟩; have n0_ := Aside0.mk (hb); have n1_ := Aside0.mk (hi); clear HB; have HB := n0_; have HI554 := n1_; clear n0_ n1_; (try clear hb); (try clear hb2); (try clear hk); (try clear hi)) | (go_at_call 13; (with_reducible refine (cippuskit_CopiesOf.calls g554 t552 t553 5 5 1 t555 t558 t559 t562 t563 w _ ?side1 ?side2 A3.out).mono ?_); (case side1 => repeat (first | (with_reducible first | exact HI554.out | apply IsS72.alloc | apply IsS72.drewN | apply IsS72.drew | apply IsS72.set_0 | apply IsS72.set_1) | exact HI554.out)); (case side2 => repeat (first | (with_reducible first | exact HB.out | apply below_alloc | apply pw_below_drewN | apply below_drew1 | refine below_set ?_ (IsS72.ge HI554.out)) | exact HB.out)); rintro e w25 ⟨v556, v560, rfl, ho0, ho1, hi, hb, hk⟩; have n0_ := Aside0.mk (Kd.R_lower ho0 (below_size (by repeat (first | (with_reducible first | exact HB.out | apply below_alloc | apply pw_below_drewN | apply below_drew1 | refine below_set ?_ (IsS72.ge HI554.out)) | exact HB.out)))); have n1_ := Aside0.mk (Kd.R_lower ho1 (below_size (by repeat (first | (with_reducible first | exact HB.out | apply below_alloc | apply pw_below_drewN | apply below_drew1 | refine below_set ?_ (IsS72.ge HI554.out)) | exact HB.out)))); have n2_ := Aside0.mk (hb); have n3_ := Aside0.mk (hi); clear HB; clear HI554; have HO557 := n0_; have HO561 := n1_; have HB := n2_; have HI554 := n3_; clear n0_ n1_ n2_ n3_; (try clear hb); (try clear hb2); (try clear hk); (try clear hi); (try clear ho0); (try clear ho1)) | ((with_reducible refine gate_dst (N := 5) rfl ?_); (try (refine gate_guard (by rfl) ?_; dsimp only)); refine box_event ?hg (N := 5) ?hd (cs := #[.string (⟨#[]⟩ : ByteArray), .slice none 0 0]) (t := 27) ?hr ?_; (case hd => rfl); (case hg => rfl); (case hr => first | (go_simp; done) | (go_simp; rfl)); intro gb564 hg w26 hbox hb; have n0_ := Aside0.mk (Kd.R_below (by (with_reducible repeat (first | apply Kd.R_alloc | apply Kd.R_drewN | apply Kd.R_drew)); exact HO557.out) hb); have n1_ := Aside0.mk (Kd.R_below (by (with_reducible repeat (first | apply Kd.R_alloc | apply Kd.R_drewN | apply Kd.R_drew)); exact HO561.out) hb); have n2_ := Aside0.mk (IsS72.below (by repeat (first | (with_reducible first | exact HI554.out | apply IsS72.alloc | apply IsS72.drewN | apply IsS72.drew | apply IsS72.set_0 | apply IsS72.set_1) | exact HI554.out)) hb); have n3_ := Aside0.mk (below_step (by repeat (first | (with_reducible first | exact HB.out | apply below_alloc | apply pw_below_drewN | apply below_drew1 | refine below_set ?_ (IsS72.ge HI554.out)) | exact HB.out)) hb); have n4_ := Aside0.mk (hbox); have n5_ := Aside0.mk ((by rw [hg]; exact (below_size (by repeat (first | (with_reducible first | exact HB.out | apply below_alloc | apply pw_below_drewN | apply below_drew1 | refine below_set ?_ (IsS72.ge HI554.out)) | exact HB.out))) : w.heap.size ≤ gb564)); have n6_ := Aside0.mk ((by rw [hg]; exact (below_size (by repeat (first | (with_reducible first | exact HB.out | apply below_alloc | apply pw_below_drewN | apply below_drew1 | refine below_set ?_ (IsS72.ge HI554.out)) | exact HB.out))) : w.heap.size ≤ gb564)); have n7_ := Aside0.mk ((by rw [hg]; exact Nat.ne_of_lt (IsS72.lt (show IsS72 w _ g554 t562 t563 from by repeat (first | (with_reducible first | exact HI554.out | apply IsS72.alloc | apply IsS72.drewN | apply IsS72.drew | apply IsS72.set_0 | apply IsS72.set_1) | exact HI554.out))) : g554 ≠ gb564)); have n8_ := Aside0.mk ((by rw [hg]; exact Nat.ne_of_gt (IsS72.lt (show IsS72 w _ g554 t562 t563 from by repeat (first | (with_reducible first | exact HI554.out | apply IsS72.alloc | apply IsS72.drewN | apply IsS72.drew | apply IsS72.set_0 | apply IsS72.set_1) | exact HI554.out))) : gb564 ≠ g554)); clear HO557; clear HO561; clear HI554; clear HB; have HO557 := n0_; have HO561 := n1_; have HI554 := n2_; have HB := n3_; have BK564 := n4_; have GW564 := n5_; have GE564 := n6_; have NB554_564 := n7_; have NB564_554 := n8_; clear n0_ n1_ n2_ n3_ n4_ n5_ n6_ n7_ n8_; clear hb hbox hg; have hnb27 := NB564_554.out; have hnc27 := NB554_564.out; have hcz28_0 : w26.cell? ⟨gb564, 0, none⟩ = some (.string (⟨#[]⟩ : ByteArray)) := (blk_cell BK564.out 0).trans rfl; have hcz28_1 : w26.cell? ⟨gb564, 1, none⟩ = some (.slice none 0 0) := (blk_cell BK564.out 1).trans rfl; have hfz28_0 := blk_frozen BK564.out 0; have hfz28_1 := blk_frozen BK564.out 1; obtain ⟨Ao29, co29, eo29⟩ := Kd.R_slice HO561.out; subst eo29) | ((with_reducible refine gate_store (t := 27) (p := 5) rfl ?_); (try (rw [drewN_self w26]; generalize hq_ : World.drewN w26 _ = w26; have n0_ := Aside0.mk (Kd.R_at hq_ HO557.out); have n1_ := Aside0.mk (Kd.R_at hq_ HO561.out); have n2_ := Aside0.mk (blk_at hq_ BK564.out); have n3_ := Aside0.mk (IsS72.at_ hq_ HI554.out); have n4_ := Aside0.mk (below_at hq_ HB.out); clear hq_ HO557 HO561 BK564 HI554 HB; have HO557 := n0_; have HO561 := n1_; have BK564 := n2_; have HI554 := n3_; have HB := n4_; clear n0_ n1_ n2_ n3_ n4_)); refine store_event (t := 27) (p := 5) (v := ?vo_w30) (w1 := ((w26.setCell ⟨gb564, 0, none⟩ (.string t558)).setCell ⟨gb564, 1, none⟩ (.slice Ao29 t559.length co29))) ?hg ?ho ?hn ?hr ?_; (case ho => rfl); (case hg => rfl); (case hn => rfl); (case hr => first | (go_simp; done) | (go_simp; rfl)); intro w30 hw; have n0_ : Aside0 (Kd.R k24 24 w30 w.heap.size (fun _ => True) v556 t555) := ⟨(by rw [hw]; exact (by (with_reducible repeat (first | apply Kd.R_alloc | apply Kd.R_drewN | apply Kd.R_drew)); exact Kd.R_mono (Kd.R_far (p := ⟨gb564, 1, none⟩) (Kd.R_far (p := ⟨gb564, 0, none⟩) (Kd.R_types HO557.out BK564.out (by decide)) (fun _ hk => hk.2) (.string t558)) (fun _ hk => hk.2) (.slice Ao29 t559.length co29)) (fun _ hk => trivial)))⟩; have n1_ : Aside0 (Kd.R (Kd.int .i64) 3 w30 w.heap.size (fun _ => True) (.slice Ao29 t559.length co29) t559) := ⟨(by rw [hw]; exact (by (with_reducible repeat (first | apply Kd.R_alloc | apply Kd.R_drewN | apply Kd.R_drew)); exact Kd.R_mono (Kd.R_far (p := ⟨gb564, 1, none⟩) (Kd.R_far (p := ⟨gb564, 0, none⟩) (Kd.R_types HO561.out BK564.out (by decide)) (fun _ hk => hk.2) (.string t558)) (fun _ hk => hk.2) (.slice Ao29 t559.length co29)) (fun _ hk => trivial)))⟩; have n2_ : Aside0 (w30.heap[gb564]? = some (.cells #[.string t558, .slice Ao29 t559.length co29] 27 (0, 0))) := ⟨(by rw [hw]; exact (by (with_reducible repeat (first | refine blk_drewN ?_ _ | refine blk_drew ?_ | refine blk_alloc ?_ _)); refine blk_put (cs := #[.string t558, .slice none 0 0]) ?_ 1 _ rfl; (with_reducible repeat (first | refine blk_drewN ?_ _ | refine blk_drew ?_ | refine blk_alloc ?_ _)); refine blk_put (cs := #[.string (⟨#[]⟩ : ByteArray), .slice none 0 0]) ?_ 0 _ rfl; (with_reducible repeat (first | refine blk_drewN ?_ _ | refine blk_drew ?_ | refine blk_alloc ?_ _)); exact BK564.out))⟩; have n3_ : Aside0 (IsS72 w w30 g554 t562 t563) := ⟨(by rw [hw]; exact (by repeat (first | (with_reducible first | exact HI554.out | apply IsS72.alloc | apply IsS72.drewN | apply IsS72.drew | apply IsS72.set_0 | apply IsS72.set_1 | refine IsS72.far ?_ NB554_564.out _) | exact HI554.out)))⟩; have n4_ : Aside0 (Below w.heap.size w w30) := ⟨(by rw [hw]; exact (by repeat (first | (with_reducible first | exact HB.out | apply below_alloc | apply pw_below_drewN | apply below_drew1 | refine below_set ?_ (IsS72.ge HI554.out) | refine below_set ?_ GE564.out) | exact HB.out)))⟩; clear hw; clear HO557; clear HO561; clear BK564; clear HI554; clear HB; have HO557 := n0_; have HO561 := n1_; have BK564 := n2_; have HI554 := n3_; have HB := n4_; clear n0_ n1_ n2_ n3_ n4_; obtain ⟨Ao31, co31, eo31⟩ := Kd.R_slice HO557.out; subst eo31; have q32 : ((ji14) : Int) ≤ ((t555.length : Int) : Int) := of_decide_eq_true (by first | (with_reducible assumption) | assumption); obtain ⟨i032, hi032, _, hsz32, _⟩ := info_parts info24; have hroom32 : t555.length ≤ co31 := (Kd.R_reads' HO557.out).2.1; have hC32 : Kd.F k24 _ _ Ao31 t555.length t555 := (Kd.V_at (base := w.heap.size) (Kd.R_V (IsS72.apart HI554.out (Kd.R_types (Kd.R_apart' (HO557.out) (Kd.R_typed HO561.out) (by decide)) BK564.out (by decide)) (by decide)))).2.2; have hcut32 := cut_to (P := Try.prog) 22 24 .i64 Try.underlying22 hi032 Ao31 t555.length co31 (ji14) (of_decide_eq_true (by first | (with_reducible assumption) | assumption)) q32 hroom32; have hr32 := Kd.F_take (m := ((ji14) : Int).toNat) hC32 (by omega); have hy32 : y566.length = ((ji14) : Int).toNat := (by rw [Ny566.out, List.length_take]; omega); rw [← Ny566.out] at hr32; rw [← hy32] at hcut32; have HO570 := Aside0.mk (show Kd.V k24 24 _ w.heap.size _ (.slice Ao31 y566.length co31) y566 from Kd.V_mk (by omega) hr32); have HC570 := Aside0.mk (show y566.length ≤ co31 from by omega); clear hr32 hC32 hroom32 hi032 hsz32; have KY32 := Aside0.mk hy32; clear hy32; replace q32 := eq_true q32) | (go_at_call 18; (with_reducible refine (stemma_Letters.calls k _ _ y566 t571 t572 _ ?side1 ?side2 A17.out).mono ?_); (case side1 => repeat (first | exact (Kd.V_reads' HO570.out).2.2 | (with_reducible refine Kd.C_alloc ?_ _) | (with_reducible refine Kd.C_drewN ?_ _) | (with_reducible refine Kd.C_drew ?_))); (case side2 => exact (Kd.V_reads' HO570.out).2.1); rintro e w33 ⟨v573, rfl, ho0, hb⟩; have n0_ := Aside0.mk (Kd.R_below (by (with_reducible repeat (first | apply Kd.R_alloc | apply Kd.R_drewN | apply Kd.R_drew)); exact HO557.out) hb); have n1_ := Aside0.mk (Kd.R_below (by (with_reducible repeat (first | apply Kd.R_alloc | apply Kd.R_drewN | apply Kd.R_drew)); exact HO561.out) hb); have n2_ := Aside0.mk (Kd.V_elder' (by (with_reducible repeat (first | apply Kd.V_alloc | apply Kd.V_drewN | apply Kd.V_drew)); exact HO570.out) (Kd.R_base ho0) hb); have n3_ := Aside0.mk (Kd.R_lower ho0 (below_size (by repeat (first | (with_reducible first | exact HB.out | apply below_alloc | apply pw_below_drewN | apply below_drew1 | refine below_set ?_ (IsS72.ge HI554.out) | refine below_set ?_ GE564.out) | exact HB.out)))); have n4_ := Aside0.mk (IsS72.below (by repeat (first | (with_reducible first | exact HI554.out | apply IsS72.alloc | apply IsS72.drewN | apply IsS72.drew | apply IsS72.set_0 | apply IsS72.set_1 | refine IsS72.far ?_ NB554_564.out _) | exact HI554.out)) hb); have n5_ := Aside0.mk (blk_below (g := gb564) (o := .cells #[.string t558, .slice Ao29 t559.length co29] 27 (0, 0)) (by (with_reducible repeat (first | refine blk_drewN ?_ _ | refine blk_drew ?_ | refine blk_alloc ?_ _)); exact BK564.out) hb); have n6_ := Aside0.mk (below_step (by repeat (first | (with_reducible first | exact HB.out | apply below_alloc | apply pw_below_drewN | apply below_drew1 | refine below_set ?_ (IsS72.ge HI554.out) | refine below_set ?_ GE564.out) | exact HB.out)) hb); clear HO557; clear HO561; clear HO570; clear HI554; clear BK564; clear HB; have HO557 := n0_; have HO561 := n1_; have HO570 := n2_; have HO574 := n3_; have HI554 := n4_; have BK564 := n5_; have HB := n6_; clear n0_ n1_ n2_ n3_ n4_ n5_ n6_; (try clear hb); (try clear hb2); (try clear hk); (try clear hi); (try clear ho0)) | (go_at_call 18; (with_reducible refine (stemma_Letters.calls k _ _ t555 t575 t576 _ ?side1 ?side2 A18.out).mono ?_); (case side1 => repeat (first | exact (Kd.R_reads' HO557.out).2.2 | (with_reducible refine Kd.C_alloc ?_ _) | (with_reducible refine Kd.C_drewN ?_ _) | (with_reducible refine Kd.C_drew ?_))); (case side2 => exact (Kd.R_reads' HO557.out).2.1); rintro e w34 ⟨v577, rfl, ho0, hb⟩; have n0_ := Aside0.mk (Kd.R_below (by (with_reducible repeat (first | apply Kd.R_alloc | apply Kd.R_drewN | apply Kd.R_drew)); exact HO557.out) hb); have n1_ := Aside0.mk (Kd.R_below (by (with_reducible repeat (first | apply Kd.R_alloc | apply Kd.R_drewN | apply Kd.R_drew)); exact HO561.out) hb); have n2_ := Aside0.mk (Kd.V_elder' (by (with_reducible repeat (first | apply Kd.V_alloc | apply Kd.V_drewN | apply Kd.V_drew)); exact HO570.out) (Kd.R_base ho0) hb); have n3_ := Aside0.mk (Kd.R_elder' (by (with_reducible repeat (first | apply Kd.R_alloc | apply Kd.R_drewN | apply Kd.R_drew)); exact HO574.out) (Kd.R_base ho0) hb); have n4_ := Aside0.mk (Kd.R_lower (Kd.R_new' ho0 (Kd.R_lt (by (with_reducible repeat (first | apply Kd.R_alloc | apply Kd.R_drewN | apply Kd.R_drew)); exact HO574.out))) (below_size (by repeat (first | (with_reducible first | exact HB.out | apply below_alloc | apply pw_below_drewN | apply below_drew1 | refine below_set ?_ (IsS72.ge HI554.out) | refine below_set ?_ GE564.out) | exact HB.out)))); have n5_ := Aside0.mk (IsS72.below (by repeat (first | (with_reducible first | exact HI554.out | apply IsS72.alloc | apply IsS72.drewN | apply IsS72.drew | apply IsS72.set_0 | apply IsS72.set_1 | refine IsS72.far ?_ NB554_564.out _) | exact HI554.out)) hb); have n6_ := Aside0.mk (blk_below (g := gb564) (o := .cells #[.string t558, .slice Ao29 t559.length co29] 27 (0, 0)) (by (with_reducible repeat (first | refine blk_drewN ?_ _ | refine blk_drew ?_ | refine blk_alloc ?_ _)); exact BK564.out) hb); have n7_ := Aside0.mk (below_step (by repeat (first | (with_reducible first | exact HB.out | apply below_alloc | apply pw_below_drewN | apply below_drew1 | refine below_set ?_ (IsS72.ge HI554.out) | refine below_set ?_ GE564.out) | exact HB.out)) hb); clear HO557; clear HO561; clear HO570; clear HO574; clear HI554; clear BK564; clear HB; have HO557 := n0_; have HO561 := n1_; have HO570 := n2_; have HO574 := n3_; have HO578 := n4_; have HI554 := n5_; have BK564 := n6_; have HB := n7_; clear n0_ n1_ n2_ n3_ n4_ n5_ n6_ n7_; (try clear hb); (try clear hb2); (try clear hk); (try clear hi); (try clear ho0)) | (go_at_call 24; (with_reducible refine (stemma_Fewest.calls k _ _ y566 t579 t580 _ ?side1 ?side2 A19.out).mono ?_); (case side1 => repeat (first | exact (Kd.V_reads' HO570.out).2.2 | (with_reducible refine Kd.C_alloc ?_ _) | (with_reducible refine Kd.C_drewN ?_ _) | (with_reducible refine Kd.C_drew ?_))); (case side2 => exact (Kd.V_reads' HO570.out).2.1); rintro e w35 ⟨rfl, hb⟩; have n0_ := Aside0.mk (Kd.R_below (by (with_reducible repeat (first | apply Kd.R_alloc | apply Kd.R_drewN | apply Kd.R_drew)); exact HO557.out) hb); have n1_ := Aside0.mk (Kd.R_below (by (with_reducible repeat (first | apply Kd.R_alloc | apply Kd.R_drewN | apply Kd.R_drew)); exact HO561.out) hb); have n2_ := Aside0.mk (Kd.V_below (by (with_reducible repeat (first | apply Kd.V_alloc | apply Kd.V_drewN | apply Kd.V_drew)); exact HO570.out) hb); have n3_ := Aside0.mk (Kd.R_below (by (with_reducible repeat (first | apply Kd.R_alloc | apply Kd.R_drewN | apply Kd.R_drew)); exact HO574.out) hb); have n4_ := Aside0.mk (Kd.R_below (by (with_reducible repeat (first | apply Kd.R_alloc | apply Kd.R_drewN | apply Kd.R_drew)); exact HO578.out) hb); have n5_ := Aside0.mk (IsS72.below (by repeat (first | (with_reducible first | exact HI554.out | apply IsS72.alloc | apply IsS72.drewN | apply IsS72.drew | apply IsS72.set_0 | apply IsS72.set_1 | refine IsS72.far ?_ NB554_564.out _) | exact HI554.out)) hb); have n6_ := Aside0.mk (blk_below (g := gb564) (o := .cells #[.string t558, .slice Ao29 t559.length co29] 27 (0, 0)) (by (with_reducible repeat (first | refine blk_drewN ?_ _ | refine blk_drew ?_ | refine blk_alloc ?_ _)); exact BK564.out) hb); have n7_ := Aside0.mk (below_step (by repeat (first | (with_reducible first | exact HB.out | apply below_alloc | apply pw_below_drewN | apply below_drew1 | refine below_set ?_ (IsS72.ge HI554.out) | refine below_set ?_ GE564.out) | exact HB.out)) hb); clear HO557; clear HO561; clear HO570; clear HO574; clear HO578; clear HI554; clear BK564; clear HB; have HO557 := n0_; have HO561 := n1_; have HO570 := n2_; have HO574 := n3_; have HO578 := n4_; have HI554 := n5_; have BK564 := n6_; have HB := n7_; clear n0_ n1_ n2_ n3_ n4_ n5_ n6_ n7_; (try clear hb); (try clear hb2); (try clear hk); (try clear hi)) | (go_at_call 24; (with_reducible refine (stemma_Fewest.calls k _ _ t555 t581 t582 _ ?side1 ?side2 A20.out).mono ?_); (case side1 => repeat (first | exact (Kd.R_reads' HO557.out).2.2 | (with_reducible refine Kd.C_alloc ?_ _) | (with_reducible refine Kd.C_drewN ?_ _) | (with_reducible refine Kd.C_drew ?_))); (case side2 => exact (Kd.R_reads' HO557.out).2.1); rintro e w36 ⟨rfl, hb⟩; have n0_ := Aside0.mk (Kd.R_below (by (with_reducible repeat (first | apply Kd.R_alloc | apply Kd.R_drewN | apply Kd.R_drew)); exact HO557.out) hb); have n1_ := Aside0.mk (Kd.R_below (by (with_reducible repeat (first | apply Kd.R_alloc | apply Kd.R_drewN | apply Kd.R_drew)); exact HO561.out) hb); have n2_ := Aside0.mk (Kd.V_below (by (with_reducible repeat (first | apply Kd.V_alloc | apply Kd.V_drewN | apply Kd.V_drew)); exact HO570.out) hb); have n3_ := Aside0.mk (Kd.R_below (by (with_reducible repeat (first | apply Kd.R_alloc | apply Kd.R_drewN | apply Kd.R_drew)); exact HO574.out) hb); have n4_ := Aside0.mk (Kd.R_below (by (with_reducible repeat (first | apply Kd.R_alloc | apply Kd.R_drewN | apply Kd.R_drew)); exact HO578.out) hb); have n5_ := Aside0.mk (IsS72.below (by repeat (first | (with_reducible first | exact HI554.out | apply IsS72.alloc | apply IsS72.drewN | apply IsS72.drew | apply IsS72.set_0 | apply IsS72.set_1 | refine IsS72.far ?_ NB554_564.out _) | exact HI554.out)) hb); have n6_ := Aside0.mk (blk_below (g := gb564) (o := .cells #[.string t558, .slice Ao29 t559.length co29] 27 (0, 0)) (by (with_reducible repeat (first | refine blk_drewN ?_ _ | refine blk_drew ?_ | refine blk_alloc ?_ _)); exact BK564.out) hb); have n7_ := Aside0.mk (below_step (by repeat (first | (with_reducible first | exact HB.out | apply below_alloc | apply pw_below_drewN | apply below_drew1 | refine below_set ?_ (IsS72.ge HI554.out) | refine below_set ?_ GE564.out) | exact HB.out)) hb); clear HO557; clear HO561; clear HO570; clear HO574; clear HO578; clear HI554; clear BK564; clear HB; have HO557 := n0_; have HO561 := n1_; have HO570 := n2_; have HO574 := n3_; have HO578 := n4_; have HI554 := n5_; have BK564 := n6_; have HB := n7_; clear n0_ n1_ n2_ n3_ n4_ n5_ n6_ n7_; (try clear hb); (try clear hb2); (try clear hk); (try clear hi)) | (go_at_call 30; (with_reducible refine (stemma_Sources.calls k _ _ y566 t583 t586 _ ?side1 ?side2 A21.out).mono ?_); (case side1 => repeat (first | exact (Kd.V_reads' HO570.out).2.2 | (with_reducible refine Kd.C_alloc ?_ _) | (with_reducible refine Kd.C_drewN ?_ _) | (with_reducible refine Kd.C_drew ?_))); (case side2 => exact (Kd.V_reads' HO570.out).2.1); rintro e w37 ⟨v584, rfl, ho0, hb⟩; have n0_ := Aside0.mk (Kd.R_below (by (with_reducible repeat (first | apply Kd.R_alloc | apply Kd.R_drewN | apply Kd.R_drew)); exact HO557.out) hb); have n1_ := Aside0.mk (Kd.R_below (by (with_reducible repeat (first | apply Kd.R_alloc | apply Kd.R_drewN | apply Kd.R_drew)); exact HO561.out) hb); have n2_ := Aside0.mk (Kd.V_elder' (by (with_reducible repeat (first | apply Kd.V_alloc | apply Kd.V_drewN | apply Kd.V_drew)); exact HO570.out) (Kd.N_base ho0) hb); have n3_ := Aside0.mk (Kd.R_below (by (with_reducible repeat (first | apply Kd.R_alloc | apply Kd.R_drewN | apply Kd.R_drew)); exact HO574.out) hb); have n4_ := Aside0.mk (Kd.R_below (by (with_reducible repeat (first | apply Kd.R_alloc | apply Kd.R_drewN | apply Kd.R_drew)); exact HO578.out) hb); have n5_ := Aside0.mk (Kd.N_lower (Kd.N_mono (ok' := fun k_ => some k_ ≠ (.slice Ao31 t555.length co31 : Value).ownBlock ∧ some k_ ≠ (.slice Ao29 t559.length co29 : Value).ownBlock ∧ some k_ ≠ (v573 : Value).ownBlock ∧ some k_ ≠ (v577 : Value).ownBlock ∧ k_ ≠ gb564 ∧ k_ ≠ g554) ho0 (fun k_ hk_ => ⟨(Kd.fresh' (Kd.R_lt (by (with_reducible repeat (first | apply Kd.R_alloc | apply Kd.R_drewN | apply Kd.R_drew)); exact HO557.out)) k_ hk_), (Kd.fresh' (Kd.R_lt (by (with_reducible repeat (first | apply Kd.R_alloc | apply Kd.R_drewN | apply Kd.R_drew)); exact HO561.out)) k_ hk_), (Kd.fresh' (Kd.R_lt (by (with_reducible repeat (first | apply Kd.R_alloc | apply Kd.R_drewN | apply Kd.R_drew)); exact HO574.out)) k_ hk_), (Kd.fresh' (Kd.R_lt (by (with_reducible repeat (first | apply Kd.R_alloc | apply Kd.R_drewN | apply Kd.R_drew)); exact HO578.out)) k_ hk_), (Kd.freshB (g := gb564) (o := .cells #[.string t558, .slice Ao29 t559.length co29] 27 (0, 0)) (by (with_reducible repeat (first | refine blk_drewN ?_ _ | refine blk_drew ?_ | refine blk_alloc ?_ _)); exact BK564.out) k_ hk_), (IsS72.fresh (by repeat (first | (with_reducible first | exact HI554.out | apply IsS72.alloc | apply IsS72.drewN | apply IsS72.drew | apply IsS72.set_0 | apply IsS72.set_1 | refine IsS72.far ?_ NB554_564.out _) | exact HI554.out)) k_ hk_)⟩)) (below_size (by repeat (first | (with_reducible first | exact HB.out | apply below_alloc | apply pw_below_drewN | apply below_drew1 | refine below_set ?_ (IsS72.ge HI554.out) | refine below_set ?_ GE564.out) | exact HB.out)))); have n6_ := Aside0.mk (IsS72.below (by repeat (first | (with_reducible first | exact HI554.out | apply IsS72.alloc | apply IsS72.drewN | apply IsS72.drew | apply IsS72.set_0 | apply IsS72.set_1 | refine IsS72.far ?_ NB554_564.out _) | exact HI554.out)) hb); have n7_ := Aside0.mk (blk_below (g := gb564) (o := .cells #[.string t558, .slice Ao29 t559.length co29] 27 (0, 0)) (by (with_reducible repeat (first | refine blk_drewN ?_ _ | refine blk_drew ?_ | refine blk_alloc ?_ _)); exact BK564.out) hb); have n8_ := Aside0.mk (below_step (by repeat (first | (with_reducible first | exact HB.out | apply below_alloc | apply pw_below_drewN | apply below_drew1 | refine below_set ?_ (IsS72.ge HI554.out) | refine below_set ?_ GE564.out) | exact HB.out)) hb); clear HO557; clear HO561; clear HO570; clear HO574; clear HO578; clear HI554; clear BK564; clear HB; have HO557 := n0_; have HO561 := n1_; have HO570 := n2_; have HO574 := n3_; have HO578 := n4_; have HO585 := n5_; have HI554 := n6_; have BK564 := n7_; have HB := n8_; clear n0_ n1_ n2_ n3_ n4_ n5_ n6_ n7_ n8_; (try clear hb); (try clear hb2); (try clear hk); (try clear hi); (try clear ho0)) | (go_at_call 30; (with_reducible refine (stemma_Sources.calls k _ _ t555 t587 t590 _ ?side1 ?side2 A22.out).mono ?_); (case side1 => repeat (first | exact (Kd.R_reads' HO557.out).2.2 | (with_reducible refine Kd.C_alloc ?_ _) | (with_reducible refine Kd.C_drewN ?_ _) | (with_reducible refine Kd.C_drew ?_))); (case side2 => exact (Kd.R_reads' HO557.out).2.1); rintro e w38 ⟨v588, rfl, ho0, hb⟩; have n0_ := Aside0.mk (Kd.R_below (by (with_reducible repeat (first | apply Kd.R_alloc | apply Kd.R_drewN | apply Kd.R_drew)); exact HO557.out) hb); have n1_ := Aside0.mk (Kd.R_below (by (with_reducible repeat (first | apply Kd.R_alloc | apply Kd.R_drewN | apply Kd.R_drew)); exact HO561.out) hb); have n2_ := Aside0.mk (Kd.V_elder' (by (with_reducible repeat (first | apply Kd.V_alloc | apply Kd.V_drewN | apply Kd.V_drew)); exact HO570.out) (Kd.N_base ho0) hb); have n3_ := Aside0.mk (Kd.R_below (by (with_reducible repeat (first | apply Kd.R_alloc | apply Kd.R_drewN | apply Kd.R_drew)); exact HO574.out) hb); have n4_ := Aside0.mk (Kd.R_below (by (with_reducible repeat (first | apply Kd.R_alloc | apply Kd.R_drewN | apply Kd.R_drew)); exact HO578.out) hb); have n5_ := Aside0.mk (Kd.N_elder' (by (with_reducible repeat (first | apply Kd.N_alloc | apply Kd.N_drewN | apply Kd.N_drew)); exact HO585.out) (Kd.N_base ho0) hb); have n6_ := Aside0.mk (Kd.N_lower (Kd.N_mono (ok' := fun k_ => some k_ ≠ (.slice Ao31 t555.length co31 : Value).ownBlock ∧ some k_ ≠ (.slice Ao29 t559.length co29 : Value).ownBlock ∧ some k_ ≠ (v573 : Value).ownBlock ∧ some k_ ≠ (v577 : Value).ownBlock ∧ some k_ ≠ (v584 : Value).ownBlock ∧ k_ ≠ gb564 ∧ k_ ≠ g554) ho0 (fun k_ hk_ => ⟨(Kd.fresh' (Kd.R_lt (by (with_reducible repeat (first | apply Kd.R_alloc | apply Kd.R_drewN | apply Kd.R_drew)); exact HO557.out)) k_ hk_), (Kd.fresh' (Kd.R_lt (by (with_reducible repeat (first | apply Kd.R_alloc | apply Kd.R_drewN | apply Kd.R_drew)); exact HO561.out)) k_ hk_), (Kd.fresh' (Kd.R_lt (by (with_reducible repeat (first | apply Kd.R_alloc | apply Kd.R_drewN | apply Kd.R_drew)); exact HO574.out)) k_ hk_), (Kd.fresh' (Kd.R_lt (by (with_reducible repeat (first | apply Kd.R_alloc | apply Kd.R_drewN | apply Kd.R_drew)); exact HO578.out)) k_ hk_), (Kd.fresh' (Kd.N_lt (by (with_reducible repeat (first | apply Kd.N_alloc | apply Kd.N_drewN | apply Kd.N_drew)); exact HO585.out)) k_ hk_), (Kd.freshB (g := gb564) (o := .cells #[.string t558, .slice Ao29 t559.length co29] 27 (0, 0)) (by (with_reducible repeat (first | refine blk_drewN ?_ _ | refine blk_drew ?_ | refine blk_alloc ?_ _)); exact BK564.out) k_ hk_), (IsS72.fresh (by repeat (first | (with_reducible first | exact HI554.out | apply IsS72.alloc | apply IsS72.drewN | apply IsS72.drew | apply IsS72.set_0 | apply IsS72.set_1 | refine IsS72.far ?_ NB554_564.out _) | exact HI554.out)) k_ hk_)⟩)) (below_size (by repeat (first | (with_reducible first | exact HB.out | apply below_alloc | apply pw_below_drewN | apply below_drew1 | refine below_set ?_ (IsS72.ge HI554.out) | refine below_set ?_ GE564.out) | exact HB.out)))); have n7_ := Aside0.mk (IsS72.below (by repeat (first | (with_reducible first | exact HI554.out | apply IsS72.alloc | apply IsS72.drewN | apply IsS72.drew | apply IsS72.set_0 | apply IsS72.set_1 | refine IsS72.far ?_ NB554_564.out _) | exact HI554.out)) hb); have n8_ := Aside0.mk (blk_below (g := gb564) (o := .cells #[.string t558, .slice Ao29 t559.length co29] 27 (0, 0)) (by (with_reducible repeat (first | refine blk_drewN ?_ _ | refine blk_drew ?_ | refine blk_alloc ?_ _)); exact BK564.out) hb); have n9_ := Aside0.mk (below_step (by repeat (first | (with_reducible first | exact HB.out | apply below_alloc | apply pw_below_drewN | apply below_drew1 | refine below_set ?_ (IsS72.ge HI554.out) | refine below_set ?_ GE564.out) | exact HB.out)) hb); clear HO557; clear HO561; clear HO570; clear HO574; clear HO578; clear HO585; clear HI554; clear BK564; clear HB; have HO557 := n0_; have HO561 := n1_; have HO570 := n2_; have HO574 := n3_; have HO578 := n4_; have HO585 := n5_; have HO589 := n6_; have HI554 := n7_; have BK564 := n8_; have HB := n9_; clear n0_ n1_ n2_ n3_ n4_ n5_ n6_ n7_ n8_ n9_; (try clear hb); (try clear hb2); (try clear hk); (try clear hi); (try clear ho0))))
        (try simp only [Act.put, List.setIfInBounds_toArray, List.set_cons_zero, List.set_cons_succ])
        go_cut [116] (fun v116 wc => ∃ (kq : Nat) (x116_22 : Bool), v116 = .bool x116_22 ∧ Aside0 (cippuslaw07_StemmaLater.j0 kq t571 t575 t583 t587 x116_22 = some r) ∧ Aside0 (kq ≤ k) ∧ Aside0 (Kd.R Kd.string 9 wc w.heap.size (fun k_ => some k_ ≠ (v577 : Value).ownBlock) v573 t571) ∧ Aside0 (Kd.R Kd.string 9 wc w.heap.size (fun k_ => some k_ ≠ (v573 : Value).ownBlock) v577 t575) ∧ Aside0 (Kd.N (Kd.slice 3 (Kd.int .i64)) 25 wc w.heap.size (fun k_ => some k_ ≠ (v573 : Value).ownBlock ∧ some k_ ≠ (v577 : Value).ownBlock ∧ some k_ ≠ (v588 : Value).ownBlock ∧ some k_ ≠ ((.slice Ao29 t559.length co29) : Value).ownBlock ∧ k_ ≠ gb564) v584 t583) ∧ Aside0 (Kd.N (Kd.slice 3 (Kd.int .i64)) 25 wc w.heap.size (fun k_ => some k_ ≠ (v573 : Value).ownBlock ∧ some k_ ≠ (v577 : Value).ownBlock ∧ some k_ ≠ (v584 : Value).ownBlock ∧ some k_ ≠ ((.slice Ao29 t559.length co29) : Value).ownBlock ∧ k_ ≠ gb564) v588 t587) ∧ Aside0 (Kd.R (Kd.int .i64) 3 wc w.heap.size (fun _ => True) (.slice Ao29 t559.length co29) t559) ∧ Aside0 (wc.heap[gb564]? = some (.cells #[.string t558, (.slice Ao29 t559.length co29)] 27 (0, 0))) ∧ Aside0 (Below w.heap.size w wc))
        case first =>
          have H := HC23.out
          clear HC23
          by_cases c39 : t572 = 0
          · rw [if_pos c39] at H
            have c39b0 : (t572 == 0) = true := beq_iff_eq.mpr c39
            have c39b1 : (t572 != 0) = false := bne_eq_false_iff_eq.mpr c39
            clear c39
            (first | rw [c39b0] | (simp only [i64_w, i32_w]; rw [c39b0]) | skip)
            by_cases c40 : t576 = 0
            · rw [if_pos c40] at H
              have c40b0 : (t576 == 0) = true := beq_iff_eq.mpr c40
              have c40b1 : (t576 != 0) = false := bne_eq_false_iff_eq.mpr c40
              clear c40
              by_cases c41 : t580 = 0
              · rw [if_pos c41] at H
                have c41b0 : (t580 == 0) = true := beq_iff_eq.mpr c41
                have c41b1 : (t580 != 0) = false := bne_eq_false_iff_eq.mpr c41
                clear c41
                by_cases c42 : t582 = 0
                · rw [if_pos c42] at H
                  have c42b0 : (t582 == 0) = true := beq_iff_eq.mpr c42
                  have c42b1 : (t582 != 0) = false := bne_eq_false_iff_eq.mpr c42
                  clear c42
                  by_cases c43 : t586 = 0
                  · rw [if_pos c43] at H
                    have c43b0 : (t586 == 0) = true := beq_iff_eq.mpr c43
                    have c43b1 : (t586 != 0) = false := bne_eq_false_iff_eq.mpr c43
                    clear c43
                    by_cases c44 : t590 = 0
                    · rw [if_pos c44] at H
                      have c44b0 : (t590 == 0) = true := beq_iff_eq.mpr c44
                      have c44b1 : (t590 != 0) = false := bne_eq_false_iff_eq.mpr c44
                      clear c44
                      by_cases c45 : t581 < t579
                      · rw [if_pos c45] at H
                        have c45b0 : decide (t581 < t579) = true := decide_eq_true c45
                        clear c45
                        have H' := Aside0.mk H
                        clear H
                        go_wp2
                        repeat (go_quiet (fail); try go_wp2)
                        go_meet
                        case rel => exact ⟨_, (true), (by first | rfl | (simp; done) | (simp [*]; done)), H', ⟨by first | omega | exact Nat.le_refl _⟩, ⟨by (with_reducible repeat (first | apply Kd.R_alloc | apply Kd.R_drewN | apply Kd.R_drew)); exact Kd.R_mono HO574.out (fun _ hk => hk.2)⟩, ⟨by (with_reducible repeat (first | apply Kd.R_alloc | apply Kd.R_drewN | apply Kd.R_drew)); exact Kd.R_mono HO578.out (fun _ hk => hk.2)⟩, ⟨by (with_reducible repeat (first | apply Kd.N_alloc | apply Kd.N_drewN | apply Kd.N_drew)); exact Kd.N_mono HO585.out (fun _ hk => ⟨hk.1.2.2.1, ⟨hk.1.2.2.2.1, ⟨hk.2, ⟨hk.1.2.1, hk.1.2.2.2.2.1⟩⟩⟩⟩)⟩, ⟨by (with_reducible repeat (first | apply Kd.N_alloc | apply Kd.N_drewN | apply Kd.N_drew)); exact Kd.N_mono HO589.out (fun _ hk => ⟨hk.2.2.1, ⟨hk.2.2.2.1, ⟨hk.2.2.2.2.1, ⟨hk.2.1, hk.2.2.2.2.2.1⟩⟩⟩⟩)⟩, ⟨by (with_reducible repeat (first | apply Kd.R_alloc | apply Kd.R_drewN | apply Kd.R_drew)); exact HO561.out⟩, ⟨by (with_reducible repeat (first | refine blk_drewN ?_ _ | refine blk_drew ?_ | refine blk_alloc ?_ _)); exact BK564.out⟩, ⟨by repeat (first | (with_reducible first | exact HB.out | apply below_alloc | apply pw_below_drewN | apply below_drew1 | refine below_set ?_ (IsS72.ge HI554.out) | refine below_set ?_ GE564.out) | exact HB.out)⟩⟩
                      · rw [if_neg c45] at H
                        have c45b0 : decide (t581 < t579) = false := decide_eq_false c45
                        clear c45
                        by_cases c46 : (t571.length : Int) = (t575.length : Int)
                        · rw [if_pos c46] at H
                          have c46b0 : ((t571.length : Int) == (t575.length : Int)) = true := beq_iff_eq.mpr c46
                          have c46b1 : ((t571.length : Int) != (t575.length : Int)) = false := bne_eq_false_iff_eq.mpr c46
                          have c46b2 : (t571.length == t575.length) = true := by first | simpa using c46 | (simp at c46 ⊢; omega)
                          clear c46
                          by_cases c47 : (t583.length : Int) = (y566.length : Int)
                          · rw [if_pos c47] at H
                            have c47b0 : ((t583.length : Int) == (y566.length : Int)) = true := beq_iff_eq.mpr c47
                            have c47b1 : ((t583.length : Int) != (y566.length : Int)) = false := bne_eq_false_iff_eq.mpr c47
                            have c47b2 : (t583.length == y566.length) = true := by first | simpa using c47 | (simp at c47 ⊢; omega)
                            clear c47
                            have H' := Aside0.mk H
                            clear H
                            obtain ⟨Ao48, co48, eo48⟩ := Kd.R_slice HO574.out
                            subst eo48
                            obtain ⟨Ao49, co49, eo49⟩ := Kd.R_slice HO578.out
                            subst eo49
                            obtain ⟨Ao50, co50, eo50⟩ := Kd.N_slice HO585.out
                            subst eo50
                            obtain ⟨Ao51, co51, eo51⟩ := Kd.N_slice HO589.out
                            subst eo51
                            go_wp2
                            repeat (go_quiet (fail); try go_wp2)
                            go_meet
                            case rel => exact ⟨_, (((t587.length : Int) != (t555.length : Int))), (by first | rfl | (simp; done) | (simp [*]; done)), H', ⟨by first | omega | exact Nat.le_refl _⟩, ⟨by (with_reducible repeat (first | apply Kd.R_alloc | apply Kd.R_drewN | apply Kd.R_drew)); exact Kd.R_mono HO574.out (fun _ hk => hk.2)⟩, ⟨by (with_reducible repeat (first | apply Kd.R_alloc | apply Kd.R_drewN | apply Kd.R_drew)); exact Kd.R_mono HO578.out (fun _ hk => hk.2)⟩, ⟨by (with_reducible repeat (first | apply Kd.N_alloc | apply Kd.N_drewN | apply Kd.N_drew)); exact Kd.N_mono HO585.out (fun _ hk => ⟨hk.1.2.2.1, ⟨hk.1.2.2.2.1, ⟨hk.2, ⟨hk.1.2.1, hk.1.2.2.2.2.1⟩⟩⟩⟩)⟩, ⟨by (with_reducible repeat (first | apply Kd.N_alloc | apply Kd.N_drewN | apply Kd.N_drew)); exact Kd.N_mono HO589.out (fun _ hk => ⟨hk.2.2.1, ⟨hk.2.2.2.1, ⟨hk.2.2.2.2.1, ⟨hk.2.1, hk.2.2.2.2.2.1⟩⟩⟩⟩)⟩, ⟨by (with_reducible repeat (first | apply Kd.R_alloc | apply Kd.R_drewN | apply Kd.R_drew)); exact HO561.out⟩, ⟨by (with_reducible repeat (first | refine blk_drewN ?_ _ | refine blk_drew ?_ | refine blk_alloc ?_ _)); exact BK564.out⟩, ⟨by repeat (first | (with_reducible first | exact HB.out | apply below_alloc | apply pw_below_drewN | apply below_drew1 | refine below_set ?_ (IsS72.ge HI554.out) | refine below_set ?_ GE564.out) | exact HB.out)⟩⟩
                          · rw [if_neg c47] at H
                            have c47b0 : ((t583.length : Int) == (y566.length : Int)) = false := beq_eq_false_iff_ne.mpr c47
                            have c47b1 : ((t583.length : Int) != (y566.length : Int)) = true := bne_iff_ne.mpr c47
                            have c47b2 : (t583.length == y566.length) = false := by first | simpa using c47 | (simp at c47 ⊢; omega)
                            have H' := Aside0.mk H
                            clear H
                            obtain ⟨Ao52, co52, eo52⟩ := Kd.R_slice HO574.out
                            subst eo52
                            obtain ⟨Ao53, co53, eo53⟩ := Kd.R_slice HO578.out
                            subst eo53
                            obtain ⟨Ao54, co54, eo54⟩ := Kd.N_slice HO585.out
                            subst eo54
                            go_wp2
                            repeat (go_quiet (fail); try go_wp2)
                            go_meet
                            case rel => exact ⟨_, (true), (by first | rfl | (simp; done) | (simp [*]; done)), H', ⟨by first | omega | exact Nat.le_refl _⟩, ⟨by (with_reducible repeat (first | apply Kd.R_alloc | apply Kd.R_drewN | apply Kd.R_drew)); exact Kd.R_mono HO574.out (fun _ hk => hk.2)⟩, ⟨by (with_reducible repeat (first | apply Kd.R_alloc | apply Kd.R_drewN | apply Kd.R_drew)); exact Kd.R_mono HO578.out (fun _ hk => hk.2)⟩, ⟨by (with_reducible repeat (first | apply Kd.N_alloc | apply Kd.N_drewN | apply Kd.N_drew)); exact Kd.N_mono HO585.out (fun _ hk => ⟨hk.1.2.2.1, ⟨hk.1.2.2.2.1, ⟨hk.2, ⟨hk.1.2.1, hk.1.2.2.2.2.1⟩⟩⟩⟩)⟩, ⟨by (with_reducible repeat (first | apply Kd.N_alloc | apply Kd.N_drewN | apply Kd.N_drew)); exact Kd.N_mono HO589.out (fun _ hk => ⟨hk.2.2.1, ⟨hk.2.2.2.1, ⟨hk.2.2.2.2.1, ⟨hk.2.1, hk.2.2.2.2.2.1⟩⟩⟩⟩)⟩, ⟨by (with_reducible repeat (first | apply Kd.R_alloc | apply Kd.R_drewN | apply Kd.R_drew)); exact HO561.out⟩, ⟨by (with_reducible repeat (first | refine blk_drewN ?_ _ | refine blk_drew ?_ | refine blk_alloc ?_ _)); exact BK564.out⟩, ⟨by repeat (first | (with_reducible first | exact HB.out | apply below_alloc | apply pw_below_drewN | apply below_drew1 | refine below_set ?_ (IsS72.ge HI554.out) | refine below_set ?_ GE564.out) | exact HB.out)⟩⟩
                        · rw [if_neg c46] at H
                          have c46b0 : ((t571.length : Int) == (t575.length : Int)) = false := beq_eq_false_iff_ne.mpr c46
                          have c46b1 : ((t571.length : Int) != (t575.length : Int)) = true := bne_iff_ne.mpr c46
                          have c46b2 : (t571.length == t575.length) = false := by first | simpa using c46 | (simp at c46 ⊢; omega)
                          have H' := Aside0.mk H
                          clear H
                          obtain ⟨Ao55, co55, eo55⟩ := Kd.R_slice HO574.out
                          subst eo55
                          obtain ⟨Ao56, co56, eo56⟩ := Kd.R_slice HO578.out
                          subst eo56
                          go_wp2
                          repeat (go_quiet (fail); try go_wp2)
                          go_meet
                          case rel => exact ⟨_, (true), (by first | rfl | (simp; done) | (simp [*]; done)), H', ⟨by first | omega | exact Nat.le_refl _⟩, ⟨by (with_reducible repeat (first | apply Kd.R_alloc | apply Kd.R_drewN | apply Kd.R_drew)); exact Kd.R_mono HO574.out (fun _ hk => hk.2)⟩, ⟨by (with_reducible repeat (first | apply Kd.R_alloc | apply Kd.R_drewN | apply Kd.R_drew)); exact Kd.R_mono HO578.out (fun _ hk => hk.2)⟩, ⟨by (with_reducible repeat (first | apply Kd.N_alloc | apply Kd.N_drewN | apply Kd.N_drew)); exact Kd.N_mono HO585.out (fun _ hk => ⟨hk.1.2.2.1, ⟨hk.1.2.2.2.1, ⟨hk.2, ⟨hk.1.2.1, hk.1.2.2.2.2.1⟩⟩⟩⟩)⟩, ⟨by (with_reducible repeat (first | apply Kd.N_alloc | apply Kd.N_drewN | apply Kd.N_drew)); exact Kd.N_mono HO589.out (fun _ hk => ⟨hk.2.2.1, ⟨hk.2.2.2.1, ⟨hk.2.2.2.2.1, ⟨hk.2.1, hk.2.2.2.2.2.1⟩⟩⟩⟩)⟩, ⟨by (with_reducible repeat (first | apply Kd.R_alloc | apply Kd.R_drewN | apply Kd.R_drew)); exact HO561.out⟩, ⟨by (with_reducible repeat (first | refine blk_drewN ?_ _ | refine blk_drew ?_ | refine blk_alloc ?_ _)); exact BK564.out⟩, ⟨by repeat (first | (with_reducible first | exact HB.out | apply below_alloc | apply pw_below_drewN | apply below_drew1 | refine below_set ?_ (IsS72.ge HI554.out) | refine below_set ?_ GE564.out) | exact HB.out)⟩⟩
                    · rw [if_neg c44] at H
                      have c44b0 : (t590 == 0) = false := beq_eq_false_iff_ne.mpr c44
                      have c44b1 : (t590 != 0) = true := bne_iff_ne.mpr c44
                      have H' := Aside0.mk H
                      clear H
                      go_wp2
                      repeat (go_quiet (fail); try go_wp2)
                      go_meet
                      case rel => exact ⟨_, (true), (by first | rfl | (simp; done) | (simp [*]; done)), H', ⟨by first | omega | exact Nat.le_refl _⟩, ⟨by (with_reducible repeat (first | apply Kd.R_alloc | apply Kd.R_drewN | apply Kd.R_drew)); exact Kd.R_mono HO574.out (fun _ hk => hk.2)⟩, ⟨by (with_reducible repeat (first | apply Kd.R_alloc | apply Kd.R_drewN | apply Kd.R_drew)); exact Kd.R_mono HO578.out (fun _ hk => hk.2)⟩, ⟨by (with_reducible repeat (first | apply Kd.N_alloc | apply Kd.N_drewN | apply Kd.N_drew)); exact Kd.N_mono HO585.out (fun _ hk => ⟨hk.1.2.2.1, ⟨hk.1.2.2.2.1, ⟨hk.2, ⟨hk.1.2.1, hk.1.2.2.2.2.1⟩⟩⟩⟩)⟩, ⟨by (with_reducible repeat (first | apply Kd.N_alloc | apply Kd.N_drewN | apply Kd.N_drew)); exact Kd.N_mono HO589.out (fun _ hk => ⟨hk.2.2.1, ⟨hk.2.2.2.1, ⟨hk.2.2.2.2.1, ⟨hk.2.1, hk.2.2.2.2.2.1⟩⟩⟩⟩)⟩, ⟨by (with_reducible repeat (first | apply Kd.R_alloc | apply Kd.R_drewN | apply Kd.R_drew)); exact HO561.out⟩, ⟨by (with_reducible repeat (first | refine blk_drewN ?_ _ | refine blk_drew ?_ | refine blk_alloc ?_ _)); exact BK564.out⟩, ⟨by repeat (first | (with_reducible first | exact HB.out | apply below_alloc | apply pw_below_drewN | apply below_drew1 | refine below_set ?_ (IsS72.ge HI554.out) | refine below_set ?_ GE564.out) | exact HB.out)⟩⟩
                  · rw [if_neg c43] at H
                    have c43b0 : (t586 == 0) = false := beq_eq_false_iff_ne.mpr c43
                    have c43b1 : (t586 != 0) = true := bne_iff_ne.mpr c43
                    have H' := Aside0.mk H
                    clear H
                    go_wp2
                    repeat (go_quiet (fail); try go_wp2)
                    go_meet
                    case rel => exact ⟨_, (true), (by first | rfl | (simp; done) | (simp [*]; done)), H', ⟨by first | omega | exact Nat.le_refl _⟩, ⟨by (with_reducible repeat (first | apply Kd.R_alloc | apply Kd.R_drewN | apply Kd.R_drew)); exact Kd.R_mono HO574.out (fun _ hk => hk.2)⟩, ⟨by (with_reducible repeat (first | apply Kd.R_alloc | apply Kd.R_drewN | apply Kd.R_drew)); exact Kd.R_mono HO578.out (fun _ hk => hk.2)⟩, ⟨by (with_reducible repeat (first | apply Kd.N_alloc | apply Kd.N_drewN | apply Kd.N_drew)); exact Kd.N_mono HO585.out (fun _ hk => ⟨hk.1.2.2.1, ⟨hk.1.2.2.2.1, ⟨hk.2, ⟨hk.1.2.1, hk.1.2.2.2.2.1⟩⟩⟩⟩)⟩, ⟨by (with_reducible repeat (first | apply Kd.N_alloc | apply Kd.N_drewN | apply Kd.N_drew)); exact Kd.N_mono HO589.out (fun _ hk => ⟨hk.2.2.1, ⟨hk.2.2.2.1, ⟨hk.2.2.2.2.1, ⟨hk.2.1, hk.2.2.2.2.2.1⟩⟩⟩⟩)⟩, ⟨by (with_reducible repeat (first | apply Kd.R_alloc | apply Kd.R_drewN | apply Kd.R_drew)); exact HO561.out⟩, ⟨by (with_reducible repeat (first | refine blk_drewN ?_ _ | refine blk_drew ?_ | refine blk_alloc ?_ _)); exact BK564.out⟩, ⟨by repeat (first | (with_reducible first | exact HB.out | apply below_alloc | apply pw_below_drewN | apply below_drew1 | refine below_set ?_ (IsS72.ge HI554.out) | refine below_set ?_ GE564.out) | exact HB.out)⟩⟩
                · rw [if_neg c42] at H
                  have c42b0 : (t582 == 0) = false := beq_eq_false_iff_ne.mpr c42
                  have c42b1 : (t582 != 0) = true := bne_iff_ne.mpr c42
                  have H' := Aside0.mk H
                  clear H
                  go_wp2
                  repeat (go_quiet (fail); try go_wp2)
                  go_meet
                  case rel => exact ⟨_, (true), (by first | rfl | (simp; done) | (simp [*]; done)), H', ⟨by first | omega | exact Nat.le_refl _⟩, ⟨by (with_reducible repeat (first | apply Kd.R_alloc | apply Kd.R_drewN | apply Kd.R_drew)); exact Kd.R_mono HO574.out (fun _ hk => hk.2)⟩, ⟨by (with_reducible repeat (first | apply Kd.R_alloc | apply Kd.R_drewN | apply Kd.R_drew)); exact Kd.R_mono HO578.out (fun _ hk => hk.2)⟩, ⟨by (with_reducible repeat (first | apply Kd.N_alloc | apply Kd.N_drewN | apply Kd.N_drew)); exact Kd.N_mono HO585.out (fun _ hk => ⟨hk.1.2.2.1, ⟨hk.1.2.2.2.1, ⟨hk.2, ⟨hk.1.2.1, hk.1.2.2.2.2.1⟩⟩⟩⟩)⟩, ⟨by (with_reducible repeat (first | apply Kd.N_alloc | apply Kd.N_drewN | apply Kd.N_drew)); exact Kd.N_mono HO589.out (fun _ hk => ⟨hk.2.2.1, ⟨hk.2.2.2.1, ⟨hk.2.2.2.2.1, ⟨hk.2.1, hk.2.2.2.2.2.1⟩⟩⟩⟩)⟩, ⟨by (with_reducible repeat (first | apply Kd.R_alloc | apply Kd.R_drewN | apply Kd.R_drew)); exact HO561.out⟩, ⟨by (with_reducible repeat (first | refine blk_drewN ?_ _ | refine blk_drew ?_ | refine blk_alloc ?_ _)); exact BK564.out⟩, ⟨by repeat (first | (with_reducible first | exact HB.out | apply below_alloc | apply pw_below_drewN | apply below_drew1 | refine below_set ?_ (IsS72.ge HI554.out) | refine below_set ?_ GE564.out) | exact HB.out)⟩⟩
              · rw [if_neg c41] at H
                have c41b0 : (t580 == 0) = false := beq_eq_false_iff_ne.mpr c41
                have c41b1 : (t580 != 0) = true := bne_iff_ne.mpr c41
                have H' := Aside0.mk H
                clear H
                go_wp2
                repeat (go_quiet (fail); try go_wp2)
                go_meet
                case rel => exact ⟨_, (true), (by first | rfl | (simp; done) | (simp [*]; done)), H', ⟨by first | omega | exact Nat.le_refl _⟩, ⟨by (with_reducible repeat (first | apply Kd.R_alloc | apply Kd.R_drewN | apply Kd.R_drew)); exact Kd.R_mono HO574.out (fun _ hk => hk.2)⟩, ⟨by (with_reducible repeat (first | apply Kd.R_alloc | apply Kd.R_drewN | apply Kd.R_drew)); exact Kd.R_mono HO578.out (fun _ hk => hk.2)⟩, ⟨by (with_reducible repeat (first | apply Kd.N_alloc | apply Kd.N_drewN | apply Kd.N_drew)); exact Kd.N_mono HO585.out (fun _ hk => ⟨hk.1.2.2.1, ⟨hk.1.2.2.2.1, ⟨hk.2, ⟨hk.1.2.1, hk.1.2.2.2.2.1⟩⟩⟩⟩)⟩, ⟨by (with_reducible repeat (first | apply Kd.N_alloc | apply Kd.N_drewN | apply Kd.N_drew)); exact Kd.N_mono HO589.out (fun _ hk => ⟨hk.2.2.1, ⟨hk.2.2.2.1, ⟨hk.2.2.2.2.1, ⟨hk.2.1, hk.2.2.2.2.2.1⟩⟩⟩⟩)⟩, ⟨by (with_reducible repeat (first | apply Kd.R_alloc | apply Kd.R_drewN | apply Kd.R_drew)); exact HO561.out⟩, ⟨by (with_reducible repeat (first | refine blk_drewN ?_ _ | refine blk_drew ?_ | refine blk_alloc ?_ _)); exact BK564.out⟩, ⟨by repeat (first | (with_reducible first | exact HB.out | apply below_alloc | apply pw_below_drewN | apply below_drew1 | refine below_set ?_ (IsS72.ge HI554.out) | refine below_set ?_ GE564.out) | exact HB.out)⟩⟩
            · rw [if_neg c40] at H
              have c40b0 : (t576 == 0) = false := beq_eq_false_iff_ne.mpr c40
              have c40b1 : (t576 != 0) = true := bne_iff_ne.mpr c40
              have H' := Aside0.mk H
              clear H
              go_wp2
              repeat (go_quiet (fail); try go_wp2)
              go_meet
              case rel => exact ⟨_, (true), (by first | rfl | (simp; done) | (simp [*]; done)), H', ⟨by first | omega | exact Nat.le_refl _⟩, ⟨by (with_reducible repeat (first | apply Kd.R_alloc | apply Kd.R_drewN | apply Kd.R_drew)); exact Kd.R_mono HO574.out (fun _ hk => hk.2)⟩, ⟨by (with_reducible repeat (first | apply Kd.R_alloc | apply Kd.R_drewN | apply Kd.R_drew)); exact Kd.R_mono HO578.out (fun _ hk => hk.2)⟩, ⟨by (with_reducible repeat (first | apply Kd.N_alloc | apply Kd.N_drewN | apply Kd.N_drew)); exact Kd.N_mono HO585.out (fun _ hk => ⟨hk.1.2.2.1, ⟨hk.1.2.2.2.1, ⟨hk.2, ⟨hk.1.2.1, hk.1.2.2.2.2.1⟩⟩⟩⟩)⟩, ⟨by (with_reducible repeat (first | apply Kd.N_alloc | apply Kd.N_drewN | apply Kd.N_drew)); exact Kd.N_mono HO589.out (fun _ hk => ⟨hk.2.2.1, ⟨hk.2.2.2.1, ⟨hk.2.2.2.2.1, ⟨hk.2.1, hk.2.2.2.2.2.1⟩⟩⟩⟩)⟩, ⟨by (with_reducible repeat (first | apply Kd.R_alloc | apply Kd.R_drewN | apply Kd.R_drew)); exact HO561.out⟩, ⟨by (with_reducible repeat (first | refine blk_drewN ?_ _ | refine blk_drew ?_ | refine blk_alloc ?_ _)); exact BK564.out⟩, ⟨by repeat (first | (with_reducible first | exact HB.out | apply below_alloc | apply pw_below_drewN | apply below_drew1 | refine below_set ?_ (IsS72.ge HI554.out) | refine below_set ?_ GE564.out) | exact HB.out)⟩⟩
          · rw [if_neg c39] at H
            have c39b0 : (t572 == 0) = false := beq_eq_false_iff_ne.mpr c39
            have c39b1 : (t572 != 0) = true := bne_iff_ne.mpr c39
            (first | rw [c39b0] | (simp only [i64_w, i32_w]; rw [c39b0]) | skip)
            have H' := Aside0.mk H
            clear H
            go_wp2
            repeat (go_quiet (fail); try go_wp2)
            go_meet
            case rel => exact ⟨_, (true), (by first | rfl | (simp; done) | (simp [*]; done)), H', ⟨by first | omega | exact Nat.le_refl _⟩, ⟨by (with_reducible repeat (first | apply Kd.R_alloc | apply Kd.R_drewN | apply Kd.R_drew)); exact Kd.R_mono HO574.out (fun _ hk => hk.2)⟩, ⟨by (with_reducible repeat (first | apply Kd.R_alloc | apply Kd.R_drewN | apply Kd.R_drew)); exact Kd.R_mono HO578.out (fun _ hk => hk.2)⟩, ⟨by (with_reducible repeat (first | apply Kd.N_alloc | apply Kd.N_drewN | apply Kd.N_drew)); exact Kd.N_mono HO585.out (fun _ hk => ⟨hk.1.2.2.1, ⟨hk.1.2.2.2.1, ⟨hk.2, ⟨hk.1.2.1, hk.1.2.2.2.2.1⟩⟩⟩⟩)⟩, ⟨by (with_reducible repeat (first | apply Kd.N_alloc | apply Kd.N_drewN | apply Kd.N_drew)); exact Kd.N_mono HO589.out (fun _ hk => ⟨hk.2.2.1, ⟨hk.2.2.2.1, ⟨hk.2.2.2.2.1, ⟨hk.2.1, hk.2.2.2.2.2.1⟩⟩⟩⟩)⟩, ⟨by (with_reducible repeat (first | apply Kd.R_alloc | apply Kd.R_drewN | apply Kd.R_drew)); exact HO561.out⟩, ⟨by (with_reducible repeat (first | refine blk_drewN ?_ _ | refine blk_drew ?_ | refine blk_alloc ?_ _)); exact BK564.out⟩, ⟨by repeat (first | (with_reducible first | exact HB.out | apply below_alloc | apply pw_below_drewN | apply below_drew1 | refine below_set ?_ (IsS72.ge HI554.out) | refine below_set ?_ GE564.out) | exact HB.out)⟩⟩
        case rest =>
          clear HC23
          try clear c1
          try clear c2
          try clear p2
          try clear c3
          try clear q3
          try clear c4
          try clear c4b0
          try clear c4b1
          try clear p6
          try clear c9
          try clear c15
          try clear c15b0
          try clear c15b1
          try clear c16
          try clear c16b0
          try clear c16b1
          try clear c27
          try clear q32
          try clear c39
          try clear c39b0
          try clear c39b1
          try clear c40
          try clear c40b0
          try clear c40b1
          try clear c41
          try clear c41b0
          try clear c41b1
          try clear c42
          try clear c42b0
          try clear c42b1
          try clear c43
          try clear c43b0
          try clear c43b1
          try clear c44
          try clear c44b0
          try clear c44b1
          try clear c45
          try clear c45b0
          try clear c46
          try clear c46b0
          try clear c46b1
          try clear c46b2
          try clear c47
          try clear c47b0
          try clear c47b1
          try clear c47b2
          try clear hcz10_0
          try clear hcz10_1
          try clear hcz28_0
          try clear hcz28_1
          try clear hfz10_0
          try clear hfz10_1
          try clear hfz28_0
          try clear hfz28_1
          try clear q32
          obtain ⟨kq, x116_22, rfl, HA, HJ22, HO_7, HO_9, HO_15, HO_17, HO_565001, BK564, HB⟩ := hcut
          cases kq with
          | zero => exact absurd HA.out (by simp [cippuslaw07_StemmaLater.j0])
          | succ kj22 =>
            have H := HA.out
            clear HA
            simp only [cippuslaw07_StemmaLater.j0] at H
            by_cases c57 : x116_22 = true
            · subst c57
              have H1 : (some false) = some r := by rw [if_pos rfl] at H; exact H
              clear H
              have H := H1
              clear H1
              obtain rfl := Option.some.inj H
              go_wp2
              repeat (go_quiet (fail); try go_wp2)
              go_ret
              exact ⟨by first | rfl | (simp [errW_none, errW_some] <;> rfl) | (simp only [← hji14]; first | rfl | (simp [errW_none, errW_some] <;> rfl)) | (simp [*, errW_none, errW_some] <;> rfl), by repeat (first | (with_reducible first | exact HB.out | apply below_alloc | apply pw_below_drewN | apply below_drew1 | refine below_set ?_ GE564.out) | exact HB.out)⟩
            · replace c57 := Bool.eq_false_iff.mpr c57
              subst c57
              have H1 : (cippuslaw07_StemmaLater.l0 kj22 t571 t575 t583 t587 0) = some r := by rw [if_neg (show ¬ (false = true) by decide)] at H; exact H
              clear H
              have H := H1
              clear H1
              have H' := Aside0.mk H
              clear H
              go_wp2
              repeat (go_quiet (fail); try go_wp2)
              go_loopg [19] kj22 (fun kq v19 w' => ∃ (x19_2 : Int), v19 = .int .i64 x19_2 ∧ Aside0 (cippuslaw07_StemmaLater.l0 kq t571 t575 t583 t587 x19_2 = some r) ∧ Aside0 (kq ≤ kj22) ∧ Aside0 (Kd.R Kd.string 9 w' w.heap.size (fun k_ => some k_ ≠ (v577 : Value).ownBlock) v573 t571) ∧ Aside0 (Kd.R Kd.string 9 w' w.heap.size (fun k_ => some k_ ≠ (v573 : Value).ownBlock) v577 t575) ∧ Aside0 (Kd.N (Kd.slice 3 (Kd.int .i64)) 25 w' w.heap.size (fun k_ => some k_ ≠ (v573 : Value).ownBlock ∧ some k_ ≠ (v577 : Value).ownBlock ∧ some k_ ≠ (v588 : Value).ownBlock ∧ some k_ ≠ ((.slice Ao29 t559.length co29) : Value).ownBlock ∧ k_ ≠ gb564) v584 t583) ∧ Aside0 (Kd.N (Kd.slice 3 (Kd.int .i64)) 25 w' w.heap.size (fun k_ => some k_ ≠ (v573 : Value).ownBlock ∧ some k_ ≠ (v577 : Value).ownBlock ∧ some k_ ≠ (v584 : Value).ownBlock ∧ some k_ ≠ ((.slice Ao29 t559.length co29) : Value).ownBlock ∧ k_ ≠ gb564) v588 t587) ∧ Aside0 (Kd.R (Kd.int .i64) 3 w' w.heap.size (fun _ => True) (.slice Ao29 t559.length co29) t559) ∧ Aside0 (w'.heap[gb564]? = some (.cells #[.string t558, (.slice Ao29 t559.length co29)] 27 (0, 0))) ∧ Aside0 (Below w.heap.size w w'))
              case atStart => exact ⟨(0), (by first | rfl | (simp; done) | (simp [*]; done)), H', ⟨Nat.le_refl _⟩, ⟨by (with_reducible repeat (first | apply Kd.R_alloc | apply Kd.R_drewN | apply Kd.R_drew)); exact HO_7.out⟩, ⟨by (with_reducible repeat (first | apply Kd.R_alloc | apply Kd.R_drewN | apply Kd.R_drew)); exact HO_9.out⟩, ⟨by (with_reducible repeat (first | apply Kd.N_alloc | apply Kd.N_drewN | apply Kd.N_drew)); exact HO_15.out⟩, ⟨by (with_reducible repeat (first | apply Kd.N_alloc | apply Kd.N_drewN | apply Kd.N_drew)); exact HO_17.out⟩, ⟨by (with_reducible repeat (first | apply Kd.R_alloc | apply Kd.R_drewN | apply Kd.R_drew)); exact HO_565001.out⟩, ⟨by (with_reducible repeat (first | refine blk_drewN ?_ _ | refine blk_drew ?_ | refine blk_alloc ?_ _)); exact BK564.out⟩, ⟨by repeat (first | (with_reducible first | exact HB.out | apply below_alloc | apply pw_below_drewN | apply below_drew1 | refine below_set ?_ GE564.out) | exact HB.out)⟩⟩
              case round =>
                clear H'
                try clear c1
                try clear c2
                try clear p2
                try clear c3
                try clear q3
                try clear c4
                try clear c4b0
                try clear c4b1
                try clear c5
                try clear p6
                try clear c9
                try clear c15
                try clear c15b0
                try clear c15b1
                try clear c16
                try clear c16b0
                try clear c16b1
                try clear c27
                try clear q32
                try clear c39
                try clear c39b0
                try clear c39b1
                try clear c40
                try clear c40b0
                try clear c40b1
                try clear c41
                try clear c41b0
                try clear c41b1
                try clear c42
                try clear c42b0
                try clear c42b1
                try clear c43
                try clear c43b0
                try clear c43b1
                try clear c44
                try clear c44b0
                try clear c44b1
                try clear c45
                try clear c45b0
                try clear c46
                try clear c46b0
                try clear c46b1
                try clear c46b2
                try clear c47
                try clear c47b0
                try clear c47b1
                try clear c47b2
                try clear c57
                try clear hcz10_0
                try clear hcz10_1
                try clear hcz28_0
                try clear hcz28_1
                try clear hfz10_0
                try clear hfz10_1
                try clear hfz28_0
                try clear hfz28_1
                try clear p2
                try clear p6
                try clear q3
                try clear q32
                obtain ⟨x19_2, rfl, HA, HK2, HO_7, HO_9, HO_15, HO_17, HO_565001, BK564, HB⟩ := hrel
                cases gk with
                | zero => exact absurd HA.out (by simp [cippuslaw07_StemmaLater.l0])
                | succ k2 =>
                  have H := HA.out
                  clear HA
                  simp only [cippuslaw07_StemmaLater.l0] at H
                  by_cases c58 : x19_2 < (t571.length : Int)
                  · rw [if_pos c58] at H
                    have c58b0 : decide (x19_2 < (t571.length : Int)) = true := decide_eq_true c58
                    clear c58
                    have H' := Aside0.mk H
                    clear H
                    obtain ⟨Ao59, co59, eo59⟩ := Kd.R_slice HO_7.out
                    subst eo59
                    go_wp2
                    repeat (go_quiet (fail); try go_wp2)
                    go_loopg [20] k2 (fun kq v20 w' => ∃ (x20_3 : Int), v20 = .int .i64 x20_3 ∧ Aside0 (cippuslaw07_StemmaLater.l1 kq t571 t575 t583 t587 x19_2 x20_3 = some r) ∧ Aside0 (kq ≤ k2) ∧ Aside0 (Kd.R Kd.string 9 w' w.heap.size (fun k_ => some k_ ≠ (v577 : Value).ownBlock) (.slice Ao59 t571.length co59) t571) ∧ Aside0 (Kd.R Kd.string 9 w' w.heap.size (fun k_ => some k_ ≠ ((.slice Ao59 t571.length co59) : Value).ownBlock) v577 t575) ∧ Aside0 (Kd.N (Kd.slice 3 (Kd.int .i64)) 25 w' w.heap.size (fun k_ => some k_ ≠ ((.slice Ao59 t571.length co59) : Value).ownBlock ∧ some k_ ≠ (v577 : Value).ownBlock ∧ some k_ ≠ (v588 : Value).ownBlock ∧ some k_ ≠ ((.slice Ao29 t559.length co29) : Value).ownBlock ∧ k_ ≠ gb564) v584 t583) ∧ Aside0 (Kd.N (Kd.slice 3 (Kd.int .i64)) 25 w' w.heap.size (fun k_ => some k_ ≠ ((.slice Ao59 t571.length co59) : Value).ownBlock ∧ some k_ ≠ (v577 : Value).ownBlock ∧ some k_ ≠ (v584 : Value).ownBlock ∧ some k_ ≠ ((.slice Ao29 t559.length co29) : Value).ownBlock ∧ k_ ≠ gb564) v588 t587) ∧ Aside0 (Kd.R (Kd.int .i64) 3 w' w.heap.size (fun _ => True) (.slice Ao29 t559.length co29) t559) ∧ Aside0 (w'.heap[gb564]? = some (.cells #[.string t558, (.slice Ao29 t559.length co29)] 27 (0, 0))) ∧ Aside0 (Below w.heap.size w w'))
                    case atStart => exact ⟨(0), (by first | rfl | (simp; done) | (simp [*]; done)), H', ⟨Nat.le_refl _⟩, ⟨by (with_reducible repeat (first | apply Kd.R_alloc | apply Kd.R_drewN | apply Kd.R_drew)); exact HO_7.out⟩, ⟨by (with_reducible repeat (first | apply Kd.R_alloc | apply Kd.R_drewN | apply Kd.R_drew)); exact HO_9.out⟩, ⟨by (with_reducible repeat (first | apply Kd.N_alloc | apply Kd.N_drewN | apply Kd.N_drew)); exact HO_15.out⟩, ⟨by (with_reducible repeat (first | apply Kd.N_alloc | apply Kd.N_drewN | apply Kd.N_drew)); exact HO_17.out⟩, ⟨by (with_reducible repeat (first | apply Kd.R_alloc | apply Kd.R_drewN | apply Kd.R_drew)); exact HO_565001.out⟩, ⟨by (with_reducible repeat (first | refine blk_drewN ?_ _ | refine blk_drew ?_ | refine blk_alloc ?_ _)); exact BK564.out⟩, ⟨by repeat (first | (with_reducible first | exact HB.out | apply below_alloc | apply pw_below_drewN | apply below_drew1 | refine below_set ?_ GE564.out) | exact HB.out)⟩⟩
                    case round =>
                      clear H'
                      try clear c1
                      try clear c2
                      try clear p2
                      try clear c3
                      try clear q3
                      try clear c4
                      try clear c4b0
                      try clear c4b1
                      try clear c5
                      try clear p6
                      try clear c9
                      try clear c15
                      try clear c15b0
                      try clear c15b1
                      try clear c16
                      try clear c16b0
                      try clear c16b1
                      try clear c27
                      try clear q32
                      try clear c39
                      try clear c39b0
                      try clear c39b1
                      try clear c40
                      try clear c40b0
                      try clear c40b1
                      try clear c41
                      try clear c41b0
                      try clear c41b1
                      try clear c42
                      try clear c42b0
                      try clear c42b1
                      try clear c43
                      try clear c43b0
                      try clear c43b1
                      try clear c44
                      try clear c44b0
                      try clear c44b1
                      try clear c45
                      try clear c45b0
                      try clear c46
                      try clear c46b0
                      try clear c46b1
                      try clear c46b2
                      try clear c47
                      try clear c47b0
                      try clear c47b1
                      try clear c47b2
                      try clear c57
                      try clear c58
                      try clear c58b0
                      try clear hcz10_0
                      try clear hcz10_1
                      try clear hcz28_0
                      try clear hcz28_1
                      try clear hfz10_0
                      try clear hfz10_1
                      try clear hfz28_0
                      try clear hfz28_1
                      try clear p2
                      try clear p6
                      try clear q3
                      try clear q32
                      obtain ⟨x20_3, rfl, HA, HK3, HO_7, HO_9, HO_15, HO_17, HO_565001, BK564, HB⟩ := hrel
                      cases gk with
                      | zero => exact absurd HA.out (by simp [cippuslaw07_StemmaLater.l1])
                      | succ k3 =>
                        have H := HA.out
                        clear HA
                        simp only [cippuslaw07_StemmaLater.l1] at H
                        by_cases c60 : 0 ≤ x19_2
                        · rw [if_pos c60] at H
                          have c60b0 : decide (0 ≤ x19_2) = true := decide_eq_true c60
                          clear c60
                          by_cases c61 : x19_2 < (t575.length : Int)
                          · rw [if_pos c61] at H
                            have c61b0 : decide (x19_2 < (t575.length : Int)) = true := decide_eq_true c61
                            clear c61
                            by_cases c62 : x20_3 < ((rdOf ByteArray.empty t575 x19_2).size : Int)
                            · rw [if_pos c62] at H
                              have c62b0 : decide (x20_3 < ((rdOf ByteArray.empty t575 x19_2).size : Int)) = true := decide_eq_true c62
                              clear c62
                              by_cases c63 : x19_2 < (t571.length : Int)
                              · rw [if_pos c63] at H
                                have c63b0 : decide (x19_2 < (t571.length : Int)) = true := decide_eq_true c63
                                clear c63
                                by_cases c64 : 0 ≤ x20_3
                                · rw [if_pos c64] at H
                                  have c64b0 : decide (0 ≤ x20_3) = true := decide_eq_true c64
                                  clear c64
                                  replace H := Option.bind_eq_some_iff.mp H
                                  obtain ⟨t594, A660, H⟩ := H
                                  replace H : (if t594 = true then (cippuslaw07_StemmaLater.l1 k3 t571 t575 t583 t587 x19_2 (wrap64 (x20_3 + 1))) else (some false)) = some r := H
                                  have A66 := Aside0.mk A660
                                  clear A660
                                  by_cases c67 : t594 = true
                                  · subst c67
                                    have H1 : (cippuslaw07_StemmaLater.l1 k3 t571 t575 t583 t587 x19_2 (wrap64 (x20_3 + 1))) = some r := by rw [if_pos rfl] at H; exact H
                                    clear H
                                    have H := H1
                                    clear H1
                                    have H' := Aside0.mk H
                                    clear H
                                    obtain ⟨Ao68, co68, eo68⟩ := Kd.R_slice HO_9.out
                                    subst eo68
                                    have p591 : 0 ≤ (x19_2 : Int) := of_decide_eq_true (by first | (with_reducible assumption) | assumption)
                                    have q591 : x19_2 < (t575.length : Int) := of_decide_eq_true (by first | (with_reducible assumption) | assumption)
                                    obtain ⟨ad591, e591, hx591_0⟩ := Kd.at_string (Kd.R_reads' HO_9.out).2.2 x19_2 p591 q591
                                    cases e591
                                    replace p591 := eq_true p591
                                    replace q591 := eq_true q591
                                    have p592 : 0 ≤ (x19_2 : Int) := of_decide_eq_true (by first | (with_reducible assumption) | assumption)
                                    have q592 : x19_2 < (t571.length : Int) := of_decide_eq_true (by first | (with_reducible assumption) | assumption)
                                    obtain ⟨ad592, e592, hx592_0⟩ := Kd.at_string (Kd.R_reads' HO_7.out).2.2 x19_2 p592 q592
                                    cases e592
                                    replace p592 := eq_true p592
                                    replace q592 := eq_true q592
                                    have p593 : 0 ≤ (x19_2 : Int) := of_decide_eq_true (by first | (with_reducible assumption) | assumption)
                                    have q593 : x19_2 < (t575.length : Int) := of_decide_eq_true (by first | (with_reducible assumption) | assumption)
                                    obtain ⟨ad593, e593, hx593_0⟩ := Kd.at_string (Kd.R_reads' HO_9.out).2.2 x19_2 p593 q593
                                    obtain rfl : ad591 = ad593 := (by injection e593)
                                    replace p593 := eq_true p593
                                    replace q593 := eq_true q593
                                    have p65 : 0 ≤ (x20_3 : Int) := of_decide_eq_true (by first | (with_reducible assumption) | assumption)
                                    have q65 : x20_3 < ((rdOf ByteArray.empty t575 x19_2).size : Int) := of_decide_eq_true (by first | (with_reducible assumption) | assumption)
                                    have hx65 := bt_at (rdOf ByteArray.empty t575 x19_2) x20_3
                                    replace p65 := eq_true p65
                                    replace q65 := eq_true q65
                                    go_wp2_with (first | (go_at_call 33; (with_reducible refine (cippuslaw07_has.calls k3 (rdOf ByteArray.empty t571 x19_2) (bt (rdOf ByteArray.empty t575 x19_2) x20_3) true _ A66.out).mono ?_); rintro e w' ⟨rfl, ⟨nd, rfl⟩⟩; (try first | exact ⟨rfl, _, World.drewN_drewN _ _ _⟩ | exact ⟨rfl, _, Eq.trans (World.drewN_drewN _ _ _) (congrArg (World.drewN _) (Nat.add_assoc _ _ _))⟩)))
                                    repeat (go_quiet (first | (go_at_call 33; (with_reducible refine (cippuslaw07_has.calls k3 (rdOf ByteArray.empty t571 x19_2) (bt (rdOf ByteArray.empty t575 x19_2) x20_3) true _ A66.out).mono ?_); rintro e w' ⟨rfl, ⟨nd, rfl⟩⟩; (try first | exact ⟨rfl, _, World.drewN_drewN _ _ _⟩ | exact ⟨rfl, _, Eq.trans (World.drewN_drewN _ _ _) (congrArg (World.drewN _) (Nat.add_assoc _ _ _))⟩))); try go_wp2_with (first | (go_at_call 33; (with_reducible refine (cippuslaw07_has.calls k3 (rdOf ByteArray.empty t571 x19_2) (bt (rdOf ByteArray.empty t575 x19_2) x20_3) true _ A66.out).mono ?_); rintro e w' ⟨rfl, ⟨nd, rfl⟩⟩; (try first | exact ⟨rfl, _, World.drewN_drewN _ _ _⟩ | exact ⟨rfl, _, Eq.trans (World.drewN_drewN _ _ _) (congrArg (World.drewN _) (Nat.add_assoc _ _ _))⟩))))
                                    go_roundg k3
                                    case measure => have := HJ22.out; have := HK2.out; have := HK3.out; omega
                                    case rel => exact ⟨(wrap64 (x20_3 + 1)), (by first | rfl | (simp; done) | (simp [*]; done)), H', ⟨by have := HJ22.out; have := HK2.out; have := HK3.out; omega⟩, ⟨by (with_reducible repeat (first | apply Kd.R_alloc | apply Kd.R_drewN | apply Kd.R_drew)); exact HO_7.out⟩, ⟨by (with_reducible repeat (first | apply Kd.R_alloc | apply Kd.R_drewN | apply Kd.R_drew)); exact HO_9.out⟩, ⟨by (with_reducible repeat (first | apply Kd.N_alloc | apply Kd.N_drewN | apply Kd.N_drew)); exact HO_15.out⟩, ⟨by (with_reducible repeat (first | apply Kd.N_alloc | apply Kd.N_drewN | apply Kd.N_drew)); exact HO_17.out⟩, ⟨by (with_reducible repeat (first | apply Kd.R_alloc | apply Kd.R_drewN | apply Kd.R_drew)); exact HO_565001.out⟩, ⟨by (with_reducible repeat (first | refine blk_drewN ?_ _ | refine blk_drew ?_ | refine blk_alloc ?_ _)); exact BK564.out⟩, ⟨by repeat (first | (with_reducible first | exact HB.out | apply below_alloc | apply pw_below_drewN | apply below_drew1 | refine below_set ?_ GE564.out) | exact HB.out)⟩⟩
                                  · replace c67 := Bool.eq_false_iff.mpr c67
                                    subst c67
                                    have H1 : (some false) = some r := by rw [if_neg (show ¬ (false = true) by decide)] at H; exact H
                                    clear H
                                    have H := H1
                                    clear H1
                                    obtain rfl := Option.some.inj H
                                    obtain ⟨Ao69, co69, eo69⟩ := Kd.R_slice HO_9.out
                                    subst eo69
                                    have p591 : 0 ≤ (x19_2 : Int) := of_decide_eq_true (by first | (with_reducible assumption) | assumption)
                                    have q591 : x19_2 < (t575.length : Int) := of_decide_eq_true (by first | (with_reducible assumption) | assumption)
                                    obtain ⟨ad591, e591, hx591_0⟩ := Kd.at_string (Kd.R_reads' HO_9.out).2.2 x19_2 p591 q591
                                    cases e591
                                    replace p591 := eq_true p591
                                    replace q591 := eq_true q591
                                    have p592 : 0 ≤ (x19_2 : Int) := of_decide_eq_true (by first | (with_reducible assumption) | assumption)
                                    have q592 : x19_2 < (t571.length : Int) := of_decide_eq_true (by first | (with_reducible assumption) | assumption)
                                    obtain ⟨ad592, e592, hx592_0⟩ := Kd.at_string (Kd.R_reads' HO_7.out).2.2 x19_2 p592 q592
                                    cases e592
                                    replace p592 := eq_true p592
                                    replace q592 := eq_true q592
                                    have p593 : 0 ≤ (x19_2 : Int) := of_decide_eq_true (by first | (with_reducible assumption) | assumption)
                                    have q593 : x19_2 < (t575.length : Int) := of_decide_eq_true (by first | (with_reducible assumption) | assumption)
                                    obtain ⟨ad593, e593, hx593_0⟩ := Kd.at_string (Kd.R_reads' HO_9.out).2.2 x19_2 p593 q593
                                    obtain rfl : ad591 = ad593 := (by injection e593)
                                    replace p593 := eq_true p593
                                    replace q593 := eq_true q593
                                    have p65 : 0 ≤ (x20_3 : Int) := of_decide_eq_true (by first | (with_reducible assumption) | assumption)
                                    have q65 : x20_3 < ((rdOf ByteArray.empty t575 x19_2).size : Int) := of_decide_eq_true (by first | (with_reducible assumption) | assumption)
                                    have hx65 := bt_at (rdOf ByteArray.empty t575 x19_2) x20_3
                                    replace p65 := eq_true p65
                                    replace q65 := eq_true q65
                                    go_wp2_with (first | (go_at_call 33; (with_reducible refine (cippuslaw07_has.calls k3 (rdOf ByteArray.empty t571 x19_2) (bt (rdOf ByteArray.empty t575 x19_2) x20_3) false _ A66.out).mono ?_); rintro e w' ⟨rfl, ⟨nd, rfl⟩⟩; (try first | exact ⟨rfl, _, World.drewN_drewN _ _ _⟩ | exact ⟨rfl, _, Eq.trans (World.drewN_drewN _ _ _) (congrArg (World.drewN _) (Nat.add_assoc _ _ _))⟩)))
                                    repeat (go_quiet (first | (go_at_call 33; (with_reducible refine (cippuslaw07_has.calls k3 (rdOf ByteArray.empty t571 x19_2) (bt (rdOf ByteArray.empty t575 x19_2) x20_3) false _ A66.out).mono ?_); rintro e w' ⟨rfl, ⟨nd, rfl⟩⟩; (try first | exact ⟨rfl, _, World.drewN_drewN _ _ _⟩ | exact ⟨rfl, _, Eq.trans (World.drewN_drewN _ _ _) (congrArg (World.drewN _) (Nat.add_assoc _ _ _))⟩))); try go_wp2_with (first | (go_at_call 33; (with_reducible refine (cippuslaw07_has.calls k3 (rdOf ByteArray.empty t571 x19_2) (bt (rdOf ByteArray.empty t575 x19_2) x20_3) false _ A66.out).mono ?_); rintro e w' ⟨rfl, ⟨nd, rfl⟩⟩; (try first | exact ⟨rfl, _, World.drewN_drewN _ _ _⟩ | exact ⟨rfl, _, Eq.trans (World.drewN_drewN _ _ _) (congrArg (World.drewN _) (Nat.add_assoc _ _ _))⟩))))
                                    go_ret
                                    exact ⟨by first | rfl | (simp [errW_none, errW_some] <;> rfl) | (simp only [← hji14]; first | rfl | (simp [errW_none, errW_some] <;> rfl)) | (simp [*, errW_none, errW_some] <;> rfl), by repeat (first | (with_reducible first | exact HB.out | apply below_alloc | apply pw_below_drewN | apply below_drew1 | refine below_set ?_ GE564.out) | exact HB.out)⟩
                                · rw [if_neg c64] at H
                                  exact absurd H (by simp)
                              · rw [if_neg c63] at H
                                exact absurd H (by simp)
                            · rw [if_neg c62] at H
                              have c62b0 : decide (x20_3 < ((rdOf ByteArray.empty t575 x19_2).size : Int)) = false := decide_eq_false c62
                              clear c62
                              have H' := Aside0.mk H
                              clear H
                              obtain ⟨Ao70, co70, eo70⟩ := Kd.R_slice HO_9.out
                              subst eo70
                              have p591 : 0 ≤ (x19_2 : Int) := of_decide_eq_true (by first | (with_reducible assumption) | assumption)
                              have q591 : x19_2 < (t575.length : Int) := of_decide_eq_true (by first | (with_reducible assumption) | assumption)
                              obtain ⟨ad591, e591, hx591_0⟩ := Kd.at_string (Kd.R_reads' HO_9.out).2.2 x19_2 p591 q591
                              cases e591
                              replace p591 := eq_true p591
                              replace q591 := eq_true q591
                              go_wp2
                              repeat (go_quiet (fail); try go_wp2)
                              go_roundg k3
                              case measure => have := HJ22.out; have := HK2.out; have := HK3.out; omega
                              case rel => exact ⟨(wrap64 (x19_2 + 1)), (by first | rfl | (simp; done) | (simp [*]; done)), H', ⟨by have := HJ22.out; have := HK2.out; have := HK3.out; omega⟩, ⟨by (with_reducible repeat (first | apply Kd.R_alloc | apply Kd.R_drewN | apply Kd.R_drew)); exact HO_7.out⟩, ⟨by (with_reducible repeat (first | apply Kd.R_alloc | apply Kd.R_drewN | apply Kd.R_drew)); exact HO_9.out⟩, ⟨by (with_reducible repeat (first | apply Kd.N_alloc | apply Kd.N_drewN | apply Kd.N_drew)); exact HO_15.out⟩, ⟨by (with_reducible repeat (first | apply Kd.N_alloc | apply Kd.N_drewN | apply Kd.N_drew)); exact HO_17.out⟩, ⟨by (with_reducible repeat (first | apply Kd.R_alloc | apply Kd.R_drewN | apply Kd.R_drew)); exact HO_565001.out⟩, ⟨by (with_reducible repeat (first | refine blk_drewN ?_ _ | refine blk_drew ?_ | refine blk_alloc ?_ _)); exact BK564.out⟩, ⟨by repeat (first | (with_reducible first | exact HB.out | apply below_alloc | apply pw_below_drewN | apply below_drew1 | refine below_set ?_ GE564.out) | exact HB.out)⟩⟩
                          · rw [if_neg c61] at H
                            exact absurd H (by simp)
                        · rw [if_neg c60] at H
                          exact absurd H (by simp)
                  · rw [if_neg c58] at H
                    have c58b0 : decide (x19_2 < (t571.length : Int)) = false := decide_eq_false c58
                    clear c58
                    have H' := Aside0.mk H
                    clear H
                    obtain ⟨Ao71, co71, eo71⟩ := Kd.R_slice HO_7.out
                    subst eo71
                    go_wp2
                    repeat (go_quiet (fail); try go_wp2)
                    go_loopg [21] k2 (fun kq v21 w' => ∃ (x21_3 : Int), v21 = .int .i64 x21_3 ∧ Aside0 (cippuslaw07_StemmaLater.l2 kq t583 t587 x21_3 = some r) ∧ Aside0 (kq ≤ k2) ∧ Aside0 (Kd.N (Kd.slice 3 (Kd.int .i64)) 25 w' w.heap.size (fun k_ => some k_ ≠ (v588 : Value).ownBlock ∧ some k_ ≠ ((.slice Ao29 t559.length co29) : Value).ownBlock ∧ k_ ≠ gb564) v584 t583) ∧ Aside0 (Kd.N (Kd.slice 3 (Kd.int .i64)) 25 w' w.heap.size (fun k_ => some k_ ≠ (v584 : Value).ownBlock ∧ some k_ ≠ ((.slice Ao29 t559.length co29) : Value).ownBlock ∧ k_ ≠ gb564) v588 t587) ∧ Aside0 (Kd.R (Kd.int .i64) 3 w' w.heap.size (fun _ => True) (.slice Ao29 t559.length co29) t559) ∧ Aside0 (w'.heap[gb564]? = some (.cells #[.string t558, (.slice Ao29 t559.length co29)] 27 (0, 0))) ∧ Aside0 (Below w.heap.size w w'))
                    case atStart => exact ⟨(0), (by first | rfl | (simp; done) | (simp [*]; done)), H', ⟨Nat.le_refl _⟩, ⟨by (with_reducible repeat (first | apply Kd.N_alloc | apply Kd.N_drewN | apply Kd.N_drew)); exact Kd.N_mono HO_15.out (fun _ hk => ⟨hk.2.2.1, ⟨hk.2.2.2.1, hk.2.2.2.2⟩⟩)⟩, ⟨by (with_reducible repeat (first | apply Kd.N_alloc | apply Kd.N_drewN | apply Kd.N_drew)); exact Kd.N_mono HO_17.out (fun _ hk => ⟨hk.2.2.1, ⟨hk.2.2.2.1, hk.2.2.2.2⟩⟩)⟩, ⟨by (with_reducible repeat (first | apply Kd.R_alloc | apply Kd.R_drewN | apply Kd.R_drew)); exact HO_565001.out⟩, ⟨by (with_reducible repeat (first | refine blk_drewN ?_ _ | refine blk_drew ?_ | refine blk_alloc ?_ _)); exact BK564.out⟩, ⟨by repeat (first | (with_reducible first | exact HB.out | apply below_alloc | apply pw_below_drewN | apply below_drew1 | refine below_set ?_ GE564.out) | exact HB.out)⟩⟩
                    case round =>
                      clear H'
                      try clear c1
                      try clear c2
                      try clear p2
                      try clear c3
                      try clear q3
                      try clear c4
                      try clear c4b0
                      try clear c4b1
                      try clear c5
                      try clear p5
                      try clear q5
                      try clear hx5
                      try clear c6
                      try clear p6
                      try clear q6
                      try clear hx6
                      try clear c9
                      try clear c15
                      try clear c15b0
                      try clear c15b1
                      try clear c16
                      try clear c16b0
                      try clear c16b1
                      try clear c27
                      try clear q32
                      try clear c39
                      try clear c39b0
                      try clear c39b1
                      try clear c40
                      try clear c40b0
                      try clear c40b1
                      try clear c41
                      try clear c41b0
                      try clear c41b1
                      try clear c42
                      try clear c42b0
                      try clear c42b1
                      try clear c43
                      try clear c43b0
                      try clear c43b1
                      try clear c44
                      try clear c44b0
                      try clear c44b1
                      try clear c45
                      try clear c45b0
                      try clear c46
                      try clear c46b0
                      try clear c46b1
                      try clear c46b2
                      try clear c47
                      try clear c47b0
                      try clear c47b1
                      try clear c47b2
                      try clear c57
                      try clear c58
                      try clear c58b0
                      try clear p59
                      try clear q59
                      try clear hx59
                      try clear c60
                      try clear c60b0
                      try clear c61
                      try clear c61b0
                      try clear c62
                      try clear c62b0
                      try clear c63
                      try clear c63b0
                      try clear c64
                      try clear c64b0
                      try clear p64
                      try clear p65
                      try clear q65
                      try clear hx65
                      try clear c67
                      try clear hcz10_0
                      try clear hcz10_1
                      try clear hcz28_0
                      try clear hcz28_1
                      try clear hfz10_0
                      try clear hfz10_1
                      try clear hfz28_0
                      try clear hfz28_1
                      try clear hx591_0
                      try clear hx592_0
                      try clear hx593_0
                      try clear p2
                      try clear p591
                      try clear p592
                      try clear p593
                      try clear p6
                      try clear p65
                      try clear q3
                      try clear q32
                      try clear q591
                      try clear q592
                      try clear q593
                      try clear q65
                      obtain ⟨x21_3, rfl, HA, HK3, HO_15, HO_17, HO_565001, BK564, HB⟩ := hrel
                      cases gk with
                      | zero => exact absurd HA.out (by simp [cippuslaw07_StemmaLater.l2])
                      | succ k3 =>
                        have H := HA.out
                        clear HA
                        simp only [cippuslaw07_StemmaLater.l2] at H
                        by_cases c72 : x21_3 < (t583.length : Int)
                        · rw [if_pos c72] at H
                          have c72b0 : decide (x21_3 < (t583.length : Int)) = true := decide_eq_true c72
                          clear c72
                          by_cases c73 : 0 ≤ x21_3
                          · rw [if_pos c73] at H
                            have c73b0 : decide (0 ≤ x21_3) = true := decide_eq_true c73
                            clear c73
                            by_cases c74 : x21_3 < (t587.length : Int)
                            · rw [if_pos c74] at H
                              have c74b0 : decide (x21_3 < (t587.length : Int)) = true := decide_eq_true c74
                              clear c74
                              by_cases c75 : ((rd_L4 t583 x21_3).length : Int) = ((rd_L4 t587 x21_3).length : Int)
                              · rw [if_pos c75] at H
                                have c75b0 : (((rd_L4 t583 x21_3).length : Int) == ((rd_L4 t587 x21_3).length : Int)) = true := beq_iff_eq.mpr c75
                                have c75b1 : (((rd_L4 t583 x21_3).length : Int) != ((rd_L4 t587 x21_3).length : Int)) = false := bne_eq_false_iff_eq.mpr c75
                                have c75b2 : ((rd_L4 t583 x21_3).length == (rd_L4 t587 x21_3).length) = true := by first | simpa using c75 | (simp at c75 ⊢; omega)
                                clear c75
                                have H' := Aside0.mk H
                                clear H
                                obtain ⟨Ao76, co76, eo76⟩ := Kd.N_slice HO_15.out
                                subst eo76
                                have p596 : 0 ≤ (x21_3 : Int) := of_decide_eq_true (by first | (with_reducible assumption) | assumption)
                                have q596 : x21_3 < (t583.length : Int) := of_decide_eq_true (by first | (with_reducible assumption) | assumption)
                                obtain ⟨ad596, A596_0, c596_0, e596, hx596_0, hl596_0, hi596_0⟩ := at_L4 (Kd.N_reads' HO_15.out).2.2 x21_3 p596 q596
                                cases e596
                                obtain ⟨ce596, hce596, hMe596, hcc596⟩ := Kd.N_get HO_15.out [] x21_3 p596 (by first | exact q596 | exact of_decide_eq_true (by first | (with_reducible assumption) | assumption) | (have e_ := (Kd.N_reads' HO_15.out).1; omega))
                                obtain ⟨ua596_0, uc596_0, rfl, ul596_0, ge596_0⟩ := Kd.FK_slice_open hMe596
                                have hv596_0 := hcc596 0 _ rfl
                                rw [Nat.add_zero, show ((Kd.slice 3 (Kd.int .i64))).sz = 1 from rfl, Nat.mul_one] at hv596_0
                                replace hv596_0 := Option.some.inj (hv596_0.symm.trans hx596_0)
                                injection hv596_0 with hva_ hvn_ hvc_
                                rw [hva_] at ge596_0
                                rw [hvc_] at ul596_0
                                have HL596_0 := Aside0.mk (show Kd.V (Kd.int .i64) 3 _ w.heap.size _ _ (rd_L4 t583 x21_3) from Kd.V_mk ul596_0 ge596_0)
                                clear hva_ hvn_ hvc_ ge596_0 ul596_0
                                clear hcc596 hce596
                                have HR596_0 := Aside0.mk hi596_0
                                have HC596_0 := Aside0.mk hl596_0
                                clear hi596_0 hl596_0
                                replace p596 := eq_true p596
                                replace q596 := eq_true q596
                                obtain ⟨Ao77, co77, eo77⟩ := Kd.N_slice HO_17.out
                                subst eo77
                                have p597 : 0 ≤ (x21_3 : Int) := of_decide_eq_true (by first | (with_reducible assumption) | assumption)
                                have q597 : x21_3 < (t587.length : Int) := of_decide_eq_true (by first | (with_reducible assumption) | assumption)
                                obtain ⟨ad597, A597_0, c597_0, e597, hx597_0, hl597_0, hi597_0⟩ := at_L4 (Kd.N_reads' HO_17.out).2.2 x21_3 p597 q597
                                cases e597
                                obtain ⟨ce597, hce597, hMe597, hcc597⟩ := Kd.N_get HO_17.out [] x21_3 p597 (by first | exact q597 | exact of_decide_eq_true (by first | (with_reducible assumption) | assumption) | (have e_ := (Kd.N_reads' HO_17.out).1; omega))
                                obtain ⟨ua597_0, uc597_0, rfl, ul597_0, ge597_0⟩ := Kd.FK_slice_open hMe597
                                have hv597_0 := hcc597 0 _ rfl
                                rw [Nat.add_zero, show ((Kd.slice 3 (Kd.int .i64))).sz = 1 from rfl, Nat.mul_one] at hv597_0
                                replace hv597_0 := Option.some.inj (hv597_0.symm.trans hx597_0)
                                injection hv597_0 with hva_ hvn_ hvc_
                                rw [hva_] at ge597_0
                                rw [hvc_] at ul597_0
                                have HL597_0 := Aside0.mk (show Kd.V (Kd.int .i64) 3 _ w.heap.size _ _ (rd_L4 t587 x21_3) from Kd.V_mk ul597_0 ge597_0)
                                clear hva_ hvn_ hvc_ ge597_0 ul597_0
                                clear hcc597 hce597
                                have HR597_0 := Aside0.mk hi597_0
                                have HC597_0 := Aside0.mk hl597_0
                                clear hi597_0 hl597_0
                                replace p597 := eq_true p597
                                replace q597 := eq_true q597
                                go_wp2
                                repeat (go_quiet (fail); try go_wp2)
                                go_loopg [22] k3 (fun kq v22 w' => ∃ (x22_4 : Int), v22 = .int .i64 x22_4 ∧ Aside0 (cippuslaw07_StemmaLater.l3 kq t583 t587 x21_3 x22_4 = some r) ∧ Aside0 (kq ≤ k3) ∧ Aside0 (Kd.N (Kd.slice 3 (Kd.int .i64)) 25 w' w.heap.size (fun k_ => some k_ ≠ ((.slice (some ad597) t587.length co77) : Value).ownBlock ∧ some k_ ≠ ((.slice Ao29 t559.length co29) : Value).ownBlock ∧ k_ ≠ gb564) (.slice (some ad596) t583.length co76) t583) ∧ Aside0 (Kd.N (Kd.slice 3 (Kd.int .i64)) 25 w' w.heap.size (fun k_ => some k_ ≠ ((.slice (some ad596) t583.length co76) : Value).ownBlock ∧ some k_ ≠ ((.slice Ao29 t559.length co29) : Value).ownBlock ∧ k_ ≠ gb564) (.slice (some ad597) t587.length co77) t587) ∧ Aside0 (Kd.R (Kd.int .i64) 3 w' w.heap.size (fun _ => True) (.slice Ao29 t559.length co29) t559) ∧ Aside0 (w'.heap[gb564]? = some (.cells #[.string t558, (.slice Ao29 t559.length co29)] 27 (0, 0))) ∧ Aside0 (Kd.C (Kd.int .i64) w' A596_0 (rd_L4 t583 x21_3).length (rd_L4 t583 x21_3)) ∧ Aside0 (Kd.C (Kd.int .i64) w' A597_0 (rd_L4 t587 x21_3).length (rd_L4 t587 x21_3)) ∧ Aside0 (Below w.heap.size w w'))
                                case atStart => exact ⟨(0), (by first | rfl | (simp; done) | (simp [*]; done)), H', ⟨Nat.le_refl _⟩, ⟨by (with_reducible repeat (first | apply Kd.N_alloc | apply Kd.N_drewN | apply Kd.N_drew)); exact HO_15.out⟩, ⟨by (with_reducible repeat (first | apply Kd.N_alloc | apply Kd.N_drewN | apply Kd.N_drew)); exact HO_17.out⟩, ⟨by (with_reducible repeat (first | apply Kd.R_alloc | apply Kd.R_drewN | apply Kd.R_drew)); exact HO_565001.out⟩, ⟨by (with_reducible repeat (first | refine blk_drewN ?_ _ | refine blk_drew ?_ | refine blk_alloc ?_ _)); exact BK564.out⟩, ⟨by repeat (first | (with_reducible exact HR596_0.out) | (with_reducible refine Kd.C_alloc ?_ _) | (with_reducible refine Kd.C_drewN ?_ _) | (with_reducible refine Kd.C_drew ?_) | exact HR596_0.out)⟩, ⟨by repeat (first | (with_reducible exact HR597_0.out) | (with_reducible refine Kd.C_alloc ?_ _) | (with_reducible refine Kd.C_drewN ?_ _) | (with_reducible refine Kd.C_drew ?_) | exact HR597_0.out)⟩, ⟨by repeat (first | (with_reducible first | exact HB.out | apply below_alloc | apply pw_below_drewN | apply below_drew1 | refine below_set ?_ GE564.out) | exact HB.out)⟩⟩
                                case round =>
                                  clear H'
                                  try clear c1
                                  try clear c2
                                  try clear p2
                                  try clear c3
                                  try clear q3
                                  try clear c4
                                  try clear c4b0
                                  try clear c4b1
                                  try clear c5
                                  try clear p5
                                  try clear q5
                                  try clear hx5
                                  try clear c6
                                  try clear p6
                                  try clear q6
                                  try clear hx6
                                  try clear c7
                                  try clear c9
                                  try clear c15
                                  try clear c15b0
                                  try clear c15b1
                                  try clear c16
                                  try clear c16b0
                                  try clear c16b1
                                  try clear c27
                                  try clear q32
                                  try clear c39
                                  try clear c39b0
                                  try clear c39b1
                                  try clear c40
                                  try clear c40b0
                                  try clear c40b1
                                  try clear c41
                                  try clear c41b0
                                  try clear c41b1
                                  try clear c42
                                  try clear c42b0
                                  try clear c42b1
                                  try clear c43
                                  try clear c43b0
                                  try clear c43b1
                                  try clear c44
                                  try clear c44b0
                                  try clear c44b1
                                  try clear c45
                                  try clear c45b0
                                  try clear c46
                                  try clear c46b0
                                  try clear c46b1
                                  try clear c46b2
                                  try clear c47
                                  try clear c47b0
                                  try clear c47b1
                                  try clear c47b2
                                  try clear c57
                                  try clear c58
                                  try clear c58b0
                                  try clear c59
                                  try clear p59
                                  try clear q59
                                  try clear hx59
                                  try clear c60
                                  try clear c60b0
                                  try clear c61
                                  try clear c61b0
                                  try clear c62
                                  try clear c62b0
                                  try clear c63
                                  try clear c63b0
                                  try clear c64
                                  try clear c64b0
                                  try clear p64
                                  try clear p65
                                  try clear q65
                                  try clear hx65
                                  try clear c67
                                  try clear c72
                                  try clear c72b0
                                  try clear c73
                                  try clear c73b0
                                  try clear c74
                                  try clear c74b0
                                  try clear c75
                                  try clear c75b0
                                  try clear c75b1
                                  try clear c75b2
                                  try clear hcz10_0
                                  try clear hcz10_1
                                  try clear hcz28_0
                                  try clear hcz28_1
                                  try clear hfz10_0
                                  try clear hfz10_1
                                  try clear hfz28_0
                                  try clear hfz28_1
                                  try clear hx591_0
                                  try clear hx592_0
                                  try clear hx593_0
                                  try clear hx596_0
                                  try clear hx597_0
                                  try clear p2
                                  try clear p5
                                  try clear p59
                                  try clear p591
                                  try clear p592
                                  try clear p593
                                  try clear p596
                                  try clear p597
                                  try clear p6
                                  try clear p64
                                  try clear p65
                                  try clear q3
                                  try clear q32
                                  try clear q5
                                  try clear q59
                                  try clear q591
                                  try clear q592
                                  try clear q593
                                  try clear q596
                                  try clear q597
                                  try clear q6
                                  try clear q65
                                  obtain ⟨x22_4, rfl, HA, HK4, HO_15, HO_17, HO_565001, BK564, HR596_0, HR597_0, HB⟩ := hrel
                                  cases gk with
                                  | zero => exact absurd HA.out (by simp [cippuslaw07_StemmaLater.l3])
                                  | succ k4 =>
                                    have H := HA.out
                                    clear HA
                                    simp only [cippuslaw07_StemmaLater.l3] at H
                                    by_cases c78 : 0 ≤ x21_3
                                    · rw [if_pos c78] at H
                                      have c78b0 : decide (0 ≤ x21_3) = true := decide_eq_true c78
                                      clear c78
                                      by_cases c79 : x21_3 < (t583.length : Int)
                                      · rw [if_pos c79] at H
                                        have c79b0 : decide (x21_3 < (t583.length : Int)) = true := decide_eq_true c79
                                        clear c79
                                        by_cases c80 : x22_4 < ((rd_L4 t583 x21_3).length : Int)
                                        · rw [if_pos c80] at H
                                          have c80b0 : decide (x22_4 < ((rd_L4 t583 x21_3).length : Int)) = true := decide_eq_true c80
                                          clear c80
                                          by_cases c81 : 0 ≤ x22_4
                                          · rw [if_pos c81] at H
                                            have c81b0 : decide (0 ≤ x22_4) = true := decide_eq_true c81
                                            clear c81
                                            by_cases c82 : (rd (rd_L4 t583 x21_3) x22_4) = 3
                                            · rw [if_pos c82] at H
                                              have c82b0 : ((rd (rd_L4 t583 x21_3) x22_4) == 3) = true := beq_iff_eq.mpr c82
                                              have c82b1 : ((rd (rd_L4 t583 x21_3) x22_4) != 3) = false := bne_eq_false_iff_eq.mpr c82
                                              clear c82
                                              have H' := Aside0.mk H
                                              clear H
                                              have p598 : 0 ≤ (x21_3 : Int) := of_decide_eq_true (by first | (with_reducible assumption) | assumption)
                                              have q598 : x21_3 < (t583.length : Int) := of_decide_eq_true (by first | (with_reducible assumption) | assumption)
                                              obtain ⟨ad598, A598_0, c598_0, e598, hx598_0, hl598_0, hi598_0⟩ := at_L4 (Kd.N_reads' HO_15.out).2.2 x21_3 p598 q598
                                              obtain rfl : ad596 = ad598 := (by injection e598)
                                              obtain ⟨ce598, hce598, hMe598, hcc598⟩ := Kd.N_get HO_15.out [] x21_3 p598 (by first | exact q598 | exact of_decide_eq_true (by first | (with_reducible assumption) | assumption) | (have e_ := (Kd.N_reads' HO_15.out).1; omega))
                                              obtain ⟨ua598_0, uc598_0, rfl, ul598_0, ge598_0⟩ := Kd.FK_slice_open hMe598
                                              have hv598_0 := hcc598 0 _ rfl
                                              rw [Nat.add_zero, show ((Kd.slice 3 (Kd.int .i64))).sz = 1 from rfl, Nat.mul_one] at hv598_0
                                              replace hv598_0 := Option.some.inj (hv598_0.symm.trans hx598_0)
                                              injection hv598_0 with hva_ hvn_ hvc_
                                              rw [hva_] at ge598_0
                                              rw [hvc_] at ul598_0
                                              have HL598_0 := Aside0.mk (show Kd.V (Kd.int .i64) 3 _ w.heap.size _ _ (rd_L4 t583 x21_3) from Kd.V_mk ul598_0 ge598_0)
                                              clear hva_ hvn_ hvc_ ge598_0 ul598_0
                                              clear hcc598 hce598
                                              have HR598_0 := Aside0.mk hi598_0
                                              have HC598_0 := Aside0.mk hl598_0
                                              clear hi598_0 hl598_0
                                              replace p598 := eq_true p598
                                              replace q598 := eq_true q598
                                              have p599 : 0 ≤ (x21_3 : Int) := of_decide_eq_true (by first | (with_reducible assumption) | assumption)
                                              have q599 : x21_3 < (t583.length : Int) := of_decide_eq_true (by first | (with_reducible assumption) | assumption)
                                              obtain ⟨ad599, A599_0, c599_0, e599, hx599_0, hl599_0, hi599_0⟩ := at_L4 (Kd.N_reads' HO_15.out).2.2 x21_3 p599 q599
                                              obtain rfl : ad596 = ad599 := (by injection e599)
                                              obtain ⟨ce599, hce599, hMe599, hcc599⟩ := Kd.N_get HO_15.out [] x21_3 p599 (by first | exact q599 | exact of_decide_eq_true (by first | (with_reducible assumption) | assumption) | (have e_ := (Kd.N_reads' HO_15.out).1; omega))
                                              obtain ⟨ua599_0, uc599_0, rfl, ul599_0, ge599_0⟩ := Kd.FK_slice_open hMe599
                                              have hv599_0 := hcc599 0 _ rfl
                                              rw [Nat.add_zero, show ((Kd.slice 3 (Kd.int .i64))).sz = 1 from rfl, Nat.mul_one] at hv599_0
                                              replace hv599_0 := Option.some.inj (hv599_0.symm.trans hx599_0)
                                              injection hv599_0 with hva_ hvn_ hvc_
                                              rw [hva_] at ge599_0
                                              rw [hvc_] at ul599_0
                                              have HL599_0 := Aside0.mk (show Kd.V (Kd.int .i64) 3 _ w.heap.size _ _ (rd_L4 t583 x21_3) from Kd.V_mk ul599_0 ge599_0)
                                              clear hva_ hvn_ hvc_ ge599_0 ul599_0
                                              clear hcc599 hce599
                                              have HR599_0 := Aside0.mk hi599_0
                                              have HC599_0 := Aside0.mk hl599_0
                                              clear hi599_0 hl599_0
                                              replace p599 := eq_true p599
                                              replace q599 := eq_true q599
                                              have ea_ := Option.some.inj (hx598_0.symm.trans hx599_0)
                                              injection ea_ with ea_ en_ ec_
                                              subst ea_
                                              subst ec_
                                              clear en_
                                              have p600 : 0 ≤ (x22_4 : Int) := of_decide_eq_true (by first | (with_reducible assumption) | assumption)
                                              have q600 : x22_4 < ((rd_L4 t583 x21_3).length : Int) := of_decide_eq_true (by first | (with_reducible assumption) | assumption)
                                              obtain ⟨ad600, e600, hx600_0⟩ := Kd.at_int (by repeat (first | (with_reducible exact HR599_0.out) | (with_reducible refine Kd.C_alloc ?_ _) | (with_reducible refine Kd.C_drewN ?_ _) | (with_reducible refine Kd.C_drew ?_) | exact HR599_0.out)) x22_4 p600 q600
                                              cases e600
                                              replace p600 := eq_true p600
                                              replace q600 := eq_true q600
                                              go_wp2
                                              repeat (go_quiet (fail); try go_wp2)
                                              go_roundg k4
                                              case measure => have := HJ22.out; have := HK2.out; have := HK3.out; have := HK4.out; omega
                                              case rel => exact ⟨(wrap64 (x22_4 + 1)), (by first | rfl | (simp; done) | (simp [*]; done)), H', ⟨by have := HJ22.out; have := HK2.out; have := HK3.out; have := HK4.out; omega⟩, ⟨by (with_reducible repeat (first | apply Kd.N_alloc | apply Kd.N_drewN | apply Kd.N_drew)); exact HO_15.out⟩, ⟨by (with_reducible repeat (first | apply Kd.N_alloc | apply Kd.N_drewN | apply Kd.N_drew)); exact HO_17.out⟩, ⟨by (with_reducible repeat (first | apply Kd.R_alloc | apply Kd.R_drewN | apply Kd.R_drew)); exact HO_565001.out⟩, ⟨by (with_reducible repeat (first | refine blk_drewN ?_ _ | refine blk_drew ?_ | refine blk_alloc ?_ _)); exact BK564.out⟩, ⟨by repeat (first | (with_reducible exact HR596_0.out) | (with_reducible refine Kd.C_alloc ?_ _) | (with_reducible refine Kd.C_drewN ?_ _) | (with_reducible refine Kd.C_drew ?_) | exact HR596_0.out)⟩, ⟨by repeat (first | (with_reducible exact HR597_0.out) | (with_reducible refine Kd.C_alloc ?_ _) | (with_reducible refine Kd.C_drewN ?_ _) | (with_reducible refine Kd.C_drew ?_) | exact HR597_0.out)⟩, ⟨by repeat (first | (with_reducible first | exact HB.out | apply below_alloc | apply pw_below_drewN | apply below_drew1 | refine below_set ?_ GE564.out) | exact HB.out)⟩⟩
                                            · rw [if_neg c82] at H
                                              have c82b0 : ((rd (rd_L4 t583 x21_3) x22_4) == 3) = false := beq_eq_false_iff_ne.mpr c82
                                              have c82b1 : ((rd (rd_L4 t583 x21_3) x22_4) != 3) = true := bne_iff_ne.mpr c82
                                              by_cases c83 : x21_3 < (t587.length : Int)
                                              · rw [if_pos c83] at H
                                                have c83b0 : decide (x21_3 < (t587.length : Int)) = true := decide_eq_true c83
                                                clear c83
                                                by_cases c84 : x22_4 < ((rd_L4 t587 x21_3).length : Int)
                                                · rw [if_pos c84] at H
                                                  have c84b0 : decide (x22_4 < ((rd_L4 t587 x21_3).length : Int)) = true := decide_eq_true c84
                                                  clear c84
                                                  by_cases c85 : (rd (rd_L4 t587 x21_3) x22_4) = (rd (rd_L4 t583 x21_3) x22_4)
                                                  · rw [if_pos c85] at H
                                                    have c85b0 : ((rd (rd_L4 t587 x21_3) x22_4) == (rd (rd_L4 t583 x21_3) x22_4)) = true := beq_iff_eq.mpr c85
                                                    have c85b1 : ((rd (rd_L4 t587 x21_3) x22_4) != (rd (rd_L4 t583 x21_3) x22_4)) = false := bne_eq_false_iff_eq.mpr c85
                                                    clear c85
                                                    have H' := Aside0.mk H
                                                    clear H
                                                    have p598 : 0 ≤ (x21_3 : Int) := of_decide_eq_true (by first | (with_reducible assumption) | assumption)
                                                    have q598 : x21_3 < (t583.length : Int) := of_decide_eq_true (by first | (with_reducible assumption) | assumption)
                                                    obtain ⟨ad598, A598_0, c598_0, e598, hx598_0, hl598_0, hi598_0⟩ := at_L4 (Kd.N_reads' HO_15.out).2.2 x21_3 p598 q598
                                                    obtain rfl : ad596 = ad598 := (by injection e598)
                                                    obtain ⟨ce598, hce598, hMe598, hcc598⟩ := Kd.N_get HO_15.out [] x21_3 p598 (by first | exact q598 | exact of_decide_eq_true (by first | (with_reducible assumption) | assumption) | (have e_ := (Kd.N_reads' HO_15.out).1; omega))
                                                    obtain ⟨ua598_0, uc598_0, rfl, ul598_0, ge598_0⟩ := Kd.FK_slice_open hMe598
                                                    have hv598_0 := hcc598 0 _ rfl
                                                    rw [Nat.add_zero, show ((Kd.slice 3 (Kd.int .i64))).sz = 1 from rfl, Nat.mul_one] at hv598_0
                                                    replace hv598_0 := Option.some.inj (hv598_0.symm.trans hx598_0)
                                                    injection hv598_0 with hva_ hvn_ hvc_
                                                    rw [hva_] at ge598_0
                                                    rw [hvc_] at ul598_0
                                                    have HL598_0 := Aside0.mk (show Kd.V (Kd.int .i64) 3 _ w.heap.size _ _ (rd_L4 t583 x21_3) from Kd.V_mk ul598_0 ge598_0)
                                                    clear hva_ hvn_ hvc_ ge598_0 ul598_0
                                                    clear hcc598 hce598
                                                    have HR598_0 := Aside0.mk hi598_0
                                                    have HC598_0 := Aside0.mk hl598_0
                                                    clear hi598_0 hl598_0
                                                    replace p598 := eq_true p598
                                                    replace q598 := eq_true q598
                                                    have p599 : 0 ≤ (x21_3 : Int) := of_decide_eq_true (by first | (with_reducible assumption) | assumption)
                                                    have q599 : x21_3 < (t583.length : Int) := of_decide_eq_true (by first | (with_reducible assumption) | assumption)
                                                    obtain ⟨ad599, A599_0, c599_0, e599, hx599_0, hl599_0, hi599_0⟩ := at_L4 (Kd.N_reads' HO_15.out).2.2 x21_3 p599 q599
                                                    obtain rfl : ad596 = ad599 := (by injection e599)
                                                    obtain ⟨ce599, hce599, hMe599, hcc599⟩ := Kd.N_get HO_15.out [] x21_3 p599 (by first | exact q599 | exact of_decide_eq_true (by first | (with_reducible assumption) | assumption) | (have e_ := (Kd.N_reads' HO_15.out).1; omega))
                                                    obtain ⟨ua599_0, uc599_0, rfl, ul599_0, ge599_0⟩ := Kd.FK_slice_open hMe599
                                                    have hv599_0 := hcc599 0 _ rfl
                                                    rw [Nat.add_zero, show ((Kd.slice 3 (Kd.int .i64))).sz = 1 from rfl, Nat.mul_one] at hv599_0
                                                    replace hv599_0 := Option.some.inj (hv599_0.symm.trans hx599_0)
                                                    injection hv599_0 with hva_ hvn_ hvc_
                                                    rw [hva_] at ge599_0
                                                    rw [hvc_] at ul599_0
                                                    have HL599_0 := Aside0.mk (show Kd.V (Kd.int .i64) 3 _ w.heap.size _ _ (rd_L4 t583 x21_3) from Kd.V_mk ul599_0 ge599_0)
                                                    clear hva_ hvn_ hvc_ ge599_0 ul599_0
                                                    clear hcc599 hce599
                                                    have HR599_0 := Aside0.mk hi599_0
                                                    have HC599_0 := Aside0.mk hl599_0
                                                    clear hi599_0 hl599_0
                                                    replace p599 := eq_true p599
                                                    replace q599 := eq_true q599
                                                    have ea_ := Option.some.inj (hx598_0.symm.trans hx599_0)
                                                    injection ea_ with ea_ en_ ec_
                                                    subst ea_
                                                    subst ec_
                                                    clear en_
                                                    have p600 : 0 ≤ (x22_4 : Int) := of_decide_eq_true (by first | (with_reducible assumption) | assumption)
                                                    have q600 : x22_4 < ((rd_L4 t583 x21_3).length : Int) := of_decide_eq_true (by first | (with_reducible assumption) | assumption)
                                                    obtain ⟨ad600, e600, hx600_0⟩ := Kd.at_int (by repeat (first | (with_reducible exact HR599_0.out) | (with_reducible refine Kd.C_alloc ?_ _) | (with_reducible refine Kd.C_drewN ?_ _) | (with_reducible refine Kd.C_drew ?_) | exact HR599_0.out)) x22_4 p600 q600
                                                    cases e600
                                                    replace p600 := eq_true p600
                                                    replace q600 := eq_true q600
                                                    have p601 : 0 ≤ (x21_3 : Int) := of_decide_eq_true (by first | (with_reducible assumption) | assumption)
                                                    have q601 : x21_3 < (t587.length : Int) := of_decide_eq_true (by first | (with_reducible assumption) | assumption)
                                                    obtain ⟨ad601, A601_0, c601_0, e601, hx601_0, hl601_0, hi601_0⟩ := at_L4 (Kd.N_reads' HO_17.out).2.2 x21_3 p601 q601
                                                    obtain rfl : ad597 = ad601 := (by injection e601)
                                                    obtain ⟨ce601, hce601, hMe601, hcc601⟩ := Kd.N_get HO_17.out [] x21_3 p601 (by first | exact q601 | exact of_decide_eq_true (by first | (with_reducible assumption) | assumption) | (have e_ := (Kd.N_reads' HO_17.out).1; omega))
                                                    obtain ⟨ua601_0, uc601_0, rfl, ul601_0, ge601_0⟩ := Kd.FK_slice_open hMe601
                                                    have hv601_0 := hcc601 0 _ rfl
                                                    rw [Nat.add_zero, show ((Kd.slice 3 (Kd.int .i64))).sz = 1 from rfl, Nat.mul_one] at hv601_0
                                                    replace hv601_0 := Option.some.inj (hv601_0.symm.trans hx601_0)
                                                    injection hv601_0 with hva_ hvn_ hvc_
                                                    rw [hva_] at ge601_0
                                                    rw [hvc_] at ul601_0
                                                    have HL601_0 := Aside0.mk (show Kd.V (Kd.int .i64) 3 _ w.heap.size _ _ (rd_L4 t587 x21_3) from Kd.V_mk ul601_0 ge601_0)
                                                    clear hva_ hvn_ hvc_ ge601_0 ul601_0
                                                    clear hcc601 hce601
                                                    have HR601_0 := Aside0.mk hi601_0
                                                    have HC601_0 := Aside0.mk hl601_0
                                                    clear hi601_0 hl601_0
                                                    replace p601 := eq_true p601
                                                    replace q601 := eq_true q601
                                                    have p602 : 0 ≤ (x22_4 : Int) := of_decide_eq_true (by first | (with_reducible assumption) | assumption)
                                                    have q602 : x22_4 < ((rd_L4 t587 x21_3).length : Int) := of_decide_eq_true (by first | (with_reducible assumption) | assumption)
                                                    obtain ⟨ad602, e602, hx602_0⟩ := Kd.at_int (by repeat (first | (with_reducible exact HR601_0.out) | (with_reducible refine Kd.C_alloc ?_ _) | (with_reducible refine Kd.C_drewN ?_ _) | (with_reducible refine Kd.C_drew ?_) | exact HR601_0.out)) x22_4 p602 q602
                                                    cases e602
                                                    replace p602 := eq_true p602
                                                    replace q602 := eq_true q602
                                                    have p603 : 0 ≤ (x21_3 : Int) := of_decide_eq_true (by first | (with_reducible assumption) | assumption)
                                                    have q603 : x21_3 < (t583.length : Int) := of_decide_eq_true (by first | (with_reducible assumption) | assumption)
                                                    obtain ⟨ad603, A603_0, c603_0, e603, hx603_0, hl603_0, hi603_0⟩ := at_L4 (Kd.N_reads' HO_15.out).2.2 x21_3 p603 q603
                                                    obtain rfl : ad596 = ad603 := (by injection e603)
                                                    obtain ⟨ce603, hce603, hMe603, hcc603⟩ := Kd.N_get HO_15.out [] x21_3 p603 (by first | exact q603 | exact of_decide_eq_true (by first | (with_reducible assumption) | assumption) | (have e_ := (Kd.N_reads' HO_15.out).1; omega))
                                                    obtain ⟨ua603_0, uc603_0, rfl, ul603_0, ge603_0⟩ := Kd.FK_slice_open hMe603
                                                    have hv603_0 := hcc603 0 _ rfl
                                                    rw [Nat.add_zero, show ((Kd.slice 3 (Kd.int .i64))).sz = 1 from rfl, Nat.mul_one] at hv603_0
                                                    replace hv603_0 := Option.some.inj (hv603_0.symm.trans hx603_0)
                                                    injection hv603_0 with hva_ hvn_ hvc_
                                                    rw [hva_] at ge603_0
                                                    rw [hvc_] at ul603_0
                                                    have HL603_0 := Aside0.mk (show Kd.V (Kd.int .i64) 3 _ w.heap.size _ _ (rd_L4 t583 x21_3) from Kd.V_mk ul603_0 ge603_0)
                                                    clear hva_ hvn_ hvc_ ge603_0 ul603_0
                                                    clear hcc603 hce603
                                                    have HR603_0 := Aside0.mk hi603_0
                                                    have HC603_0 := Aside0.mk hl603_0
                                                    clear hi603_0 hl603_0
                                                    replace p603 := eq_true p603
                                                    replace q603 := eq_true q603
                                                    have ea_ := Option.some.inj (hx598_0.symm.trans hx603_0)
                                                    injection ea_ with ea_ en_ ec_
                                                    subst ea_
                                                    subst ec_
                                                    clear en_
                                                    have p604 : 0 ≤ (x22_4 : Int) := of_decide_eq_true (by first | (with_reducible assumption) | assumption)
                                                    have q604 : x22_4 < ((rd_L4 t583 x21_3).length : Int) := of_decide_eq_true (by first | (with_reducible assumption) | assumption)
                                                    obtain ⟨ad604, e604, hx604_0⟩ := Kd.at_int (by repeat (first | (with_reducible exact HR603_0.out) | (with_reducible refine Kd.C_alloc ?_ _) | (with_reducible refine Kd.C_drewN ?_ _) | (with_reducible refine Kd.C_drew ?_) | exact HR603_0.out)) x22_4 p604 q604
                                                    cases e604
                                                    replace p604 := eq_true p604
                                                    replace q604 := eq_true q604
                                                    go_wp2
                                                    repeat (go_quiet (fail); try go_wp2)
                                                    go_roundg k4
                                                    case measure => have := HJ22.out; have := HK2.out; have := HK3.out; have := HK4.out; omega
                                                    case rel => exact ⟨(wrap64 (x22_4 + 1)), (by first | rfl | (simp; done) | (simp [*]; done)), H', ⟨by have := HJ22.out; have := HK2.out; have := HK3.out; have := HK4.out; omega⟩, ⟨by (with_reducible repeat (first | apply Kd.N_alloc | apply Kd.N_drewN | apply Kd.N_drew)); exact HO_15.out⟩, ⟨by (with_reducible repeat (first | apply Kd.N_alloc | apply Kd.N_drewN | apply Kd.N_drew)); exact HO_17.out⟩, ⟨by (with_reducible repeat (first | apply Kd.R_alloc | apply Kd.R_drewN | apply Kd.R_drew)); exact HO_565001.out⟩, ⟨by (with_reducible repeat (first | refine blk_drewN ?_ _ | refine blk_drew ?_ | refine blk_alloc ?_ _)); exact BK564.out⟩, ⟨by repeat (first | (with_reducible exact HR596_0.out) | (with_reducible refine Kd.C_alloc ?_ _) | (with_reducible refine Kd.C_drewN ?_ _) | (with_reducible refine Kd.C_drew ?_) | exact HR596_0.out)⟩, ⟨by repeat (first | (with_reducible exact HR597_0.out) | (with_reducible refine Kd.C_alloc ?_ _) | (with_reducible refine Kd.C_drewN ?_ _) | (with_reducible refine Kd.C_drew ?_) | exact HR597_0.out)⟩, ⟨by repeat (first | (with_reducible first | exact HB.out | apply below_alloc | apply pw_below_drewN | apply below_drew1 | refine below_set ?_ GE564.out) | exact HB.out)⟩⟩
                                                  · rw [if_neg c85] at H
                                                    have c85b0 : ((rd (rd_L4 t587 x21_3) x22_4) == (rd (rd_L4 t583 x21_3) x22_4)) = false := beq_eq_false_iff_ne.mpr c85
                                                    have c85b1 : ((rd (rd_L4 t587 x21_3) x22_4) != (rd (rd_L4 t583 x21_3) x22_4)) = true := bne_iff_ne.mpr c85
                                                    obtain rfl := Option.some.inj H
                                                    have p598 : 0 ≤ (x21_3 : Int) := of_decide_eq_true (by first | (with_reducible assumption) | assumption)
                                                    have q598 : x21_3 < (t583.length : Int) := of_decide_eq_true (by first | (with_reducible assumption) | assumption)
                                                    obtain ⟨ad598, A598_0, c598_0, e598, hx598_0, hl598_0, hi598_0⟩ := at_L4 (Kd.N_reads' HO_15.out).2.2 x21_3 p598 q598
                                                    obtain rfl : ad596 = ad598 := (by injection e598)
                                                    obtain ⟨ce598, hce598, hMe598, hcc598⟩ := Kd.N_get HO_15.out [] x21_3 p598 (by first | exact q598 | exact of_decide_eq_true (by first | (with_reducible assumption) | assumption) | (have e_ := (Kd.N_reads' HO_15.out).1; omega))
                                                    obtain ⟨ua598_0, uc598_0, rfl, ul598_0, ge598_0⟩ := Kd.FK_slice_open hMe598
                                                    have hv598_0 := hcc598 0 _ rfl
                                                    rw [Nat.add_zero, show ((Kd.slice 3 (Kd.int .i64))).sz = 1 from rfl, Nat.mul_one] at hv598_0
                                                    replace hv598_0 := Option.some.inj (hv598_0.symm.trans hx598_0)
                                                    injection hv598_0 with hva_ hvn_ hvc_
                                                    rw [hva_] at ge598_0
                                                    rw [hvc_] at ul598_0
                                                    have HL598_0 := Aside0.mk (show Kd.V (Kd.int .i64) 3 _ w.heap.size _ _ (rd_L4 t583 x21_3) from Kd.V_mk ul598_0 ge598_0)
                                                    clear hva_ hvn_ hvc_ ge598_0 ul598_0
                                                    clear hcc598 hce598
                                                    have HR598_0 := Aside0.mk hi598_0
                                                    have HC598_0 := Aside0.mk hl598_0
                                                    clear hi598_0 hl598_0
                                                    replace p598 := eq_true p598
                                                    replace q598 := eq_true q598
                                                    have p599 : 0 ≤ (x21_3 : Int) := of_decide_eq_true (by first | (with_reducible assumption) | assumption)
                                                    have q599 : x21_3 < (t583.length : Int) := of_decide_eq_true (by first | (with_reducible assumption) | assumption)
                                                    obtain ⟨ad599, A599_0, c599_0, e599, hx599_0, hl599_0, hi599_0⟩ := at_L4 (Kd.N_reads' HO_15.out).2.2 x21_3 p599 q599
                                                    obtain rfl : ad596 = ad599 := (by injection e599)
                                                    obtain ⟨ce599, hce599, hMe599, hcc599⟩ := Kd.N_get HO_15.out [] x21_3 p599 (by first | exact q599 | exact of_decide_eq_true (by first | (with_reducible assumption) | assumption) | (have e_ := (Kd.N_reads' HO_15.out).1; omega))
                                                    obtain ⟨ua599_0, uc599_0, rfl, ul599_0, ge599_0⟩ := Kd.FK_slice_open hMe599
                                                    have hv599_0 := hcc599 0 _ rfl
                                                    rw [Nat.add_zero, show ((Kd.slice 3 (Kd.int .i64))).sz = 1 from rfl, Nat.mul_one] at hv599_0
                                                    replace hv599_0 := Option.some.inj (hv599_0.symm.trans hx599_0)
                                                    injection hv599_0 with hva_ hvn_ hvc_
                                                    rw [hva_] at ge599_0
                                                    rw [hvc_] at ul599_0
                                                    have HL599_0 := Aside0.mk (show Kd.V (Kd.int .i64) 3 _ w.heap.size _ _ (rd_L4 t583 x21_3) from Kd.V_mk ul599_0 ge599_0)
                                                    clear hva_ hvn_ hvc_ ge599_0 ul599_0
                                                    clear hcc599 hce599
                                                    have HR599_0 := Aside0.mk hi599_0
                                                    have HC599_0 := Aside0.mk hl599_0
                                                    clear hi599_0 hl599_0
                                                    replace p599 := eq_true p599
                                                    replace q599 := eq_true q599
                                                    have ea_ := Option.some.inj (hx598_0.symm.trans hx599_0)
                                                    injection ea_ with ea_ en_ ec_
                                                    subst ea_
                                                    subst ec_
                                                    clear en_
                                                    have p600 : 0 ≤ (x22_4 : Int) := of_decide_eq_true (by first | (with_reducible assumption) | assumption)
                                                    have q600 : x22_4 < ((rd_L4 t583 x21_3).length : Int) := of_decide_eq_true (by first | (with_reducible assumption) | assumption)
                                                    obtain ⟨ad600, e600, hx600_0⟩ := Kd.at_int (by repeat (first | (with_reducible exact HR599_0.out) | (with_reducible refine Kd.C_alloc ?_ _) | (with_reducible refine Kd.C_drewN ?_ _) | (with_reducible refine Kd.C_drew ?_) | exact HR599_0.out)) x22_4 p600 q600
                                                    cases e600
                                                    replace p600 := eq_true p600
                                                    replace q600 := eq_true q600
                                                    have p601 : 0 ≤ (x21_3 : Int) := of_decide_eq_true (by first | (with_reducible assumption) | assumption)
                                                    have q601 : x21_3 < (t587.length : Int) := of_decide_eq_true (by first | (with_reducible assumption) | assumption)
                                                    obtain ⟨ad601, A601_0, c601_0, e601, hx601_0, hl601_0, hi601_0⟩ := at_L4 (Kd.N_reads' HO_17.out).2.2 x21_3 p601 q601
                                                    obtain rfl : ad597 = ad601 := (by injection e601)
                                                    obtain ⟨ce601, hce601, hMe601, hcc601⟩ := Kd.N_get HO_17.out [] x21_3 p601 (by first | exact q601 | exact of_decide_eq_true (by first | (with_reducible assumption) | assumption) | (have e_ := (Kd.N_reads' HO_17.out).1; omega))
                                                    obtain ⟨ua601_0, uc601_0, rfl, ul601_0, ge601_0⟩ := Kd.FK_slice_open hMe601
                                                    have hv601_0 := hcc601 0 _ rfl
                                                    rw [Nat.add_zero, show ((Kd.slice 3 (Kd.int .i64))).sz = 1 from rfl, Nat.mul_one] at hv601_0
                                                    replace hv601_0 := Option.some.inj (hv601_0.symm.trans hx601_0)
                                                    injection hv601_0 with hva_ hvn_ hvc_
                                                    rw [hva_] at ge601_0
                                                    rw [hvc_] at ul601_0
                                                    have HL601_0 := Aside0.mk (show Kd.V (Kd.int .i64) 3 _ w.heap.size _ _ (rd_L4 t587 x21_3) from Kd.V_mk ul601_0 ge601_0)
                                                    clear hva_ hvn_ hvc_ ge601_0 ul601_0
                                                    clear hcc601 hce601
                                                    have HR601_0 := Aside0.mk hi601_0
                                                    have HC601_0 := Aside0.mk hl601_0
                                                    clear hi601_0 hl601_0
                                                    replace p601 := eq_true p601
                                                    replace q601 := eq_true q601
                                                    have p602 : 0 ≤ (x22_4 : Int) := of_decide_eq_true (by first | (with_reducible assumption) | assumption)
                                                    have q602 : x22_4 < ((rd_L4 t587 x21_3).length : Int) := of_decide_eq_true (by first | (with_reducible assumption) | assumption)
                                                    obtain ⟨ad602, e602, hx602_0⟩ := Kd.at_int (by repeat (first | (with_reducible exact HR601_0.out) | (with_reducible refine Kd.C_alloc ?_ _) | (with_reducible refine Kd.C_drewN ?_ _) | (with_reducible refine Kd.C_drew ?_) | exact HR601_0.out)) x22_4 p602 q602
                                                    cases e602
                                                    replace p602 := eq_true p602
                                                    replace q602 := eq_true q602
                                                    have p603 : 0 ≤ (x21_3 : Int) := of_decide_eq_true (by first | (with_reducible assumption) | assumption)
                                                    have q603 : x21_3 < (t583.length : Int) := of_decide_eq_true (by first | (with_reducible assumption) | assumption)
                                                    obtain ⟨ad603, A603_0, c603_0, e603, hx603_0, hl603_0, hi603_0⟩ := at_L4 (Kd.N_reads' HO_15.out).2.2 x21_3 p603 q603
                                                    obtain rfl : ad596 = ad603 := (by injection e603)
                                                    obtain ⟨ce603, hce603, hMe603, hcc603⟩ := Kd.N_get HO_15.out [] x21_3 p603 (by first | exact q603 | exact of_decide_eq_true (by first | (with_reducible assumption) | assumption) | (have e_ := (Kd.N_reads' HO_15.out).1; omega))
                                                    obtain ⟨ua603_0, uc603_0, rfl, ul603_0, ge603_0⟩ := Kd.FK_slice_open hMe603
                                                    have hv603_0 := hcc603 0 _ rfl
                                                    rw [Nat.add_zero, show ((Kd.slice 3 (Kd.int .i64))).sz = 1 from rfl, Nat.mul_one] at hv603_0
                                                    replace hv603_0 := Option.some.inj (hv603_0.symm.trans hx603_0)
                                                    injection hv603_0 with hva_ hvn_ hvc_
                                                    rw [hva_] at ge603_0
                                                    rw [hvc_] at ul603_0
                                                    have HL603_0 := Aside0.mk (show Kd.V (Kd.int .i64) 3 _ w.heap.size _ _ (rd_L4 t583 x21_3) from Kd.V_mk ul603_0 ge603_0)
                                                    clear hva_ hvn_ hvc_ ge603_0 ul603_0
                                                    clear hcc603 hce603
                                                    have HR603_0 := Aside0.mk hi603_0
                                                    have HC603_0 := Aside0.mk hl603_0
                                                    clear hi603_0 hl603_0
                                                    replace p603 := eq_true p603
                                                    replace q603 := eq_true q603
                                                    have ea_ := Option.some.inj (hx598_0.symm.trans hx603_0)
                                                    injection ea_ with ea_ en_ ec_
                                                    subst ea_
                                                    subst ec_
                                                    clear en_
                                                    have p604 : 0 ≤ (x22_4 : Int) := of_decide_eq_true (by first | (with_reducible assumption) | assumption)
                                                    have q604 : x22_4 < ((rd_L4 t583 x21_3).length : Int) := of_decide_eq_true (by first | (with_reducible assumption) | assumption)
                                                    obtain ⟨ad604, e604, hx604_0⟩ := Kd.at_int (by repeat (first | (with_reducible exact HR603_0.out) | (with_reducible refine Kd.C_alloc ?_ _) | (with_reducible refine Kd.C_drewN ?_ _) | (with_reducible refine Kd.C_drew ?_) | exact HR603_0.out)) x22_4 p604 q604
                                                    cases e604
                                                    replace p604 := eq_true p604
                                                    replace q604 := eq_true q604
                                                    go_wp2
                                                    repeat (go_quiet (fail); try go_wp2)
                                                    go_ret
                                                    exact ⟨by first | rfl | (simp [errW_none, errW_some] <;> rfl) | (simp only [← hji14]; first | rfl | (simp [errW_none, errW_some] <;> rfl)) | (simp [*, errW_none, errW_some] <;> rfl), by repeat (first | (with_reducible first | exact HB.out | apply below_alloc | apply pw_below_drewN | apply below_drew1 | refine below_set ?_ GE564.out) | exact HB.out)⟩
                                                · rw [if_neg c84] at H
                                                  exact absurd H (by simp)
                                              · rw [if_neg c83] at H
                                                exact absurd H (by simp)
                                          · rw [if_neg c81] at H
                                            exact absurd H (by simp)
                                        · rw [if_neg c80] at H
                                          have c80b0 : decide (x22_4 < ((rd_L4 t583 x21_3).length : Int)) = false := decide_eq_false c80
                                          clear c80
                                          have H' := Aside0.mk H
                                          clear H
                                          have p598 : 0 ≤ (x21_3 : Int) := of_decide_eq_true (by first | (with_reducible assumption) | assumption)
                                          have q598 : x21_3 < (t583.length : Int) := of_decide_eq_true (by first | (with_reducible assumption) | assumption)
                                          obtain ⟨ad598, A598_0, c598_0, e598, hx598_0, hl598_0, hi598_0⟩ := at_L4 (Kd.N_reads' HO_15.out).2.2 x21_3 p598 q598
                                          obtain rfl : ad596 = ad598 := (by injection e598)
                                          obtain ⟨ce598, hce598, hMe598, hcc598⟩ := Kd.N_get HO_15.out [] x21_3 p598 (by first | exact q598 | exact of_decide_eq_true (by first | (with_reducible assumption) | assumption) | (have e_ := (Kd.N_reads' HO_15.out).1; omega))
                                          obtain ⟨ua598_0, uc598_0, rfl, ul598_0, ge598_0⟩ := Kd.FK_slice_open hMe598
                                          have hv598_0 := hcc598 0 _ rfl
                                          rw [Nat.add_zero, show ((Kd.slice 3 (Kd.int .i64))).sz = 1 from rfl, Nat.mul_one] at hv598_0
                                          replace hv598_0 := Option.some.inj (hv598_0.symm.trans hx598_0)
                                          injection hv598_0 with hva_ hvn_ hvc_
                                          rw [hva_] at ge598_0
                                          rw [hvc_] at ul598_0
                                          have HL598_0 := Aside0.mk (show Kd.V (Kd.int .i64) 3 _ w.heap.size _ _ (rd_L4 t583 x21_3) from Kd.V_mk ul598_0 ge598_0)
                                          clear hva_ hvn_ hvc_ ge598_0 ul598_0
                                          clear hcc598 hce598
                                          have HR598_0 := Aside0.mk hi598_0
                                          have HC598_0 := Aside0.mk hl598_0
                                          clear hi598_0 hl598_0
                                          replace p598 := eq_true p598
                                          replace q598 := eq_true q598
                                          go_wp2
                                          repeat (go_quiet (fail); try go_wp2)
                                          go_roundg k4
                                          case measure => have := HJ22.out; have := HK2.out; have := HK3.out; have := HK4.out; omega
                                          case rel => exact ⟨(wrap64 (x21_3 + 1)), (by first | rfl | (simp; done) | (simp [*]; done)), H', ⟨by have := HJ22.out; have := HK2.out; have := HK3.out; have := HK4.out; omega⟩, ⟨by (with_reducible repeat (first | apply Kd.N_alloc | apply Kd.N_drewN | apply Kd.N_drew)); exact HO_15.out⟩, ⟨by (with_reducible repeat (first | apply Kd.N_alloc | apply Kd.N_drewN | apply Kd.N_drew)); exact HO_17.out⟩, ⟨by (with_reducible repeat (first | apply Kd.R_alloc | apply Kd.R_drewN | apply Kd.R_drew)); exact HO_565001.out⟩, ⟨by (with_reducible repeat (first | refine blk_drewN ?_ _ | refine blk_drew ?_ | refine blk_alloc ?_ _)); exact BK564.out⟩, ⟨by repeat (first | (with_reducible first | exact HB.out | apply below_alloc | apply pw_below_drewN | apply below_drew1 | refine below_set ?_ GE564.out) | exact HB.out)⟩⟩
                                      · rw [if_neg c79] at H
                                        exact absurd H (by simp)
                                    · rw [if_neg c78] at H
                                      exact absurd H (by simp)
                              · rw [if_neg c75] at H
                                have c75b0 : (((rd_L4 t583 x21_3).length : Int) == ((rd_L4 t587 x21_3).length : Int)) = false := beq_eq_false_iff_ne.mpr c75
                                have c75b1 : (((rd_L4 t583 x21_3).length : Int) != ((rd_L4 t587 x21_3).length : Int)) = true := bne_iff_ne.mpr c75
                                have c75b2 : ((rd_L4 t583 x21_3).length == (rd_L4 t587 x21_3).length) = false := by first | simpa using c75 | (simp at c75 ⊢; omega)
                                obtain rfl := Option.some.inj H
                                obtain ⟨Ao86, co86, eo86⟩ := Kd.N_slice HO_15.out
                                subst eo86
                                have p596 : 0 ≤ (x21_3 : Int) := of_decide_eq_true (by first | (with_reducible assumption) | assumption)
                                have q596 : x21_3 < (t583.length : Int) := of_decide_eq_true (by first | (with_reducible assumption) | assumption)
                                obtain ⟨ad596, A596_0, c596_0, e596, hx596_0, hl596_0, hi596_0⟩ := at_L4 (Kd.N_reads' HO_15.out).2.2 x21_3 p596 q596
                                cases e596
                                obtain ⟨ce596, hce596, hMe596, hcc596⟩ := Kd.N_get HO_15.out [] x21_3 p596 (by first | exact q596 | exact of_decide_eq_true (by first | (with_reducible assumption) | assumption) | (have e_ := (Kd.N_reads' HO_15.out).1; omega))
                                obtain ⟨ua596_0, uc596_0, rfl, ul596_0, ge596_0⟩ := Kd.FK_slice_open hMe596
                                have hv596_0 := hcc596 0 _ rfl
                                rw [Nat.add_zero, show ((Kd.slice 3 (Kd.int .i64))).sz = 1 from rfl, Nat.mul_one] at hv596_0
                                replace hv596_0 := Option.some.inj (hv596_0.symm.trans hx596_0)
                                injection hv596_0 with hva_ hvn_ hvc_
                                rw [hva_] at ge596_0
                                rw [hvc_] at ul596_0
                                have HL596_0 := Aside0.mk (show Kd.V (Kd.int .i64) 3 _ w.heap.size _ _ (rd_L4 t583 x21_3) from Kd.V_mk ul596_0 ge596_0)
                                clear hva_ hvn_ hvc_ ge596_0 ul596_0
                                clear hcc596 hce596
                                have HR596_0 := Aside0.mk hi596_0
                                have HC596_0 := Aside0.mk hl596_0
                                clear hi596_0 hl596_0
                                replace p596 := eq_true p596
                                replace q596 := eq_true q596
                                obtain ⟨Ao87, co87, eo87⟩ := Kd.N_slice HO_17.out
                                subst eo87
                                have p597 : 0 ≤ (x21_3 : Int) := of_decide_eq_true (by first | (with_reducible assumption) | assumption)
                                have q597 : x21_3 < (t587.length : Int) := of_decide_eq_true (by first | (with_reducible assumption) | assumption)
                                obtain ⟨ad597, A597_0, c597_0, e597, hx597_0, hl597_0, hi597_0⟩ := at_L4 (Kd.N_reads' HO_17.out).2.2 x21_3 p597 q597
                                cases e597
                                obtain ⟨ce597, hce597, hMe597, hcc597⟩ := Kd.N_get HO_17.out [] x21_3 p597 (by first | exact q597 | exact of_decide_eq_true (by first | (with_reducible assumption) | assumption) | (have e_ := (Kd.N_reads' HO_17.out).1; omega))
                                obtain ⟨ua597_0, uc597_0, rfl, ul597_0, ge597_0⟩ := Kd.FK_slice_open hMe597
                                have hv597_0 := hcc597 0 _ rfl
                                rw [Nat.add_zero, show ((Kd.slice 3 (Kd.int .i64))).sz = 1 from rfl, Nat.mul_one] at hv597_0
                                replace hv597_0 := Option.some.inj (hv597_0.symm.trans hx597_0)
                                injection hv597_0 with hva_ hvn_ hvc_
                                rw [hva_] at ge597_0
                                rw [hvc_] at ul597_0
                                have HL597_0 := Aside0.mk (show Kd.V (Kd.int .i64) 3 _ w.heap.size _ _ (rd_L4 t587 x21_3) from Kd.V_mk ul597_0 ge597_0)
                                clear hva_ hvn_ hvc_ ge597_0 ul597_0
                                clear hcc597 hce597
                                have HR597_0 := Aside0.mk hi597_0
                                have HC597_0 := Aside0.mk hl597_0
                                clear hi597_0 hl597_0
                                replace p597 := eq_true p597
                                replace q597 := eq_true q597
                                go_wp2
                                repeat (go_quiet (fail); try go_wp2)
                                go_ret
                                exact ⟨by first | rfl | (simp [errW_none, errW_some] <;> rfl) | (simp only [← hji14]; first | rfl | (simp [errW_none, errW_some] <;> rfl)) | (simp [*, errW_none, errW_some] <;> rfl), by repeat (first | (with_reducible first | exact HB.out | apply below_alloc | apply pw_below_drewN | apply below_drew1 | refine below_set ?_ GE564.out) | exact HB.out)⟩
                            · rw [if_neg c74] at H
                              exact absurd H (by simp)
                          · rw [if_neg c73] at H
                            exact absurd H (by simp)
                        · rw [if_neg c72] at H
                          have c72b0 : decide (x21_3 < (t583.length : Int)) = false := decide_eq_false c72
                          clear c72
                          replace H := Option.bind_eq_some_iff.mp H
                          obtain ⟨t595, A880, H⟩ := H
                          replace H : (some t595) = some r := H
                          have A88 := Aside0.mk A880
                          clear A880
                          obtain rfl := Option.some.inj H
                          obtain ⟨Ao89, co89, eo89⟩ := Kd.N_slice HO_15.out
                          subst eo89
                          go_wp2_with (first | (go_at_call 17; (with_reducible refine (cippuslaw07_found.calls k3  t595 _ A88.out).mono ?_); rintro e w90 ⟨rfl, hb⟩; have n0_ := Aside0.mk (Kd.N_below (by (with_reducible repeat (first | apply Kd.N_alloc | apply Kd.N_drewN | apply Kd.N_drew)); exact HO_15.out) hb); have n1_ := Aside0.mk (Kd.N_below (by (with_reducible repeat (first | apply Kd.N_alloc | apply Kd.N_drewN | apply Kd.N_drew)); exact HO_17.out) hb); have n2_ := Aside0.mk (Kd.R_below (by (with_reducible repeat (first | apply Kd.R_alloc | apply Kd.R_drewN | apply Kd.R_drew)); exact HO_565001.out) hb); have n3_ := Aside0.mk (blk_below (g := gb564) (o := .cells #[.string t558, .slice Ao29 t559.length co29] 27 (0, 0)) (by (with_reducible repeat (first | refine blk_drewN ?_ _ | refine blk_drew ?_ | refine blk_alloc ?_ _)); exact BK564.out) hb); have n4_ := Aside0.mk (below_step (by repeat (first | (with_reducible first | exact HB.out | apply below_alloc | apply pw_below_drewN | apply below_drew1 | refine below_set ?_ GE564.out) | exact HB.out)) hb); clear HO_15; clear HO_17; clear HO_565001; clear BK564; clear HB; have HO_15 := n0_; have HO_17 := n1_; have HO_565001 := n2_; have BK564 := n3_; have HB := n4_; clear n0_ n1_ n2_ n3_ n4_; (try clear hb); (try clear hb2); (try clear hk); (try clear hi)))
                          repeat (go_quiet (first | (go_at_call 17; (with_reducible refine (cippuslaw07_found.calls k3  t595 _ A88.out).mono ?_); rintro e w90 ⟨rfl, hb⟩; have n0_ := Aside0.mk (Kd.N_below (by (with_reducible repeat (first | apply Kd.N_alloc | apply Kd.N_drewN | apply Kd.N_drew)); exact HO_15.out) hb); have n1_ := Aside0.mk (Kd.N_below (by (with_reducible repeat (first | apply Kd.N_alloc | apply Kd.N_drewN | apply Kd.N_drew)); exact HO_17.out) hb); have n2_ := Aside0.mk (Kd.R_below (by (with_reducible repeat (first | apply Kd.R_alloc | apply Kd.R_drewN | apply Kd.R_drew)); exact HO_565001.out) hb); have n3_ := Aside0.mk (blk_below (g := gb564) (o := .cells #[.string t558, .slice Ao29 t559.length co29] 27 (0, 0)) (by (with_reducible repeat (first | refine blk_drewN ?_ _ | refine blk_drew ?_ | refine blk_alloc ?_ _)); exact BK564.out) hb); have n4_ := Aside0.mk (below_step (by repeat (first | (with_reducible first | exact HB.out | apply below_alloc | apply pw_below_drewN | apply below_drew1 | refine below_set ?_ GE564.out) | exact HB.out)) hb); clear HO_15; clear HO_17; clear HO_565001; clear BK564; clear HB; have HO_15 := n0_; have HO_17 := n1_; have HO_565001 := n2_; have BK564 := n3_; have HB := n4_; clear n0_ n1_ n2_ n3_ n4_; (try clear hb); (try clear hb2); (try clear hk); (try clear hi))); try go_wp2_with (first | (go_at_call 17; (with_reducible refine (cippuslaw07_found.calls k3  t595 _ A88.out).mono ?_); rintro e w90 ⟨rfl, hb⟩; have n0_ := Aside0.mk (Kd.N_below (by (with_reducible repeat (first | apply Kd.N_alloc | apply Kd.N_drewN | apply Kd.N_drew)); exact HO_15.out) hb); have n1_ := Aside0.mk (Kd.N_below (by (with_reducible repeat (first | apply Kd.N_alloc | apply Kd.N_drewN | apply Kd.N_drew)); exact HO_17.out) hb); have n2_ := Aside0.mk (Kd.R_below (by (with_reducible repeat (first | apply Kd.R_alloc | apply Kd.R_drewN | apply Kd.R_drew)); exact HO_565001.out) hb); have n3_ := Aside0.mk (blk_below (g := gb564) (o := .cells #[.string t558, .slice Ao29 t559.length co29] 27 (0, 0)) (by (with_reducible repeat (first | refine blk_drewN ?_ _ | refine blk_drew ?_ | refine blk_alloc ?_ _)); exact BK564.out) hb); have n4_ := Aside0.mk (below_step (by repeat (first | (with_reducible first | exact HB.out | apply below_alloc | apply pw_below_drewN | apply below_drew1 | refine below_set ?_ GE564.out) | exact HB.out)) hb); clear HO_15; clear HO_17; clear HO_565001; clear BK564; clear HB; have HO_15 := n0_; have HO_17 := n1_; have HO_565001 := n2_; have BK564 := n3_; have HB := n4_; clear n0_ n1_ n2_ n3_ n4_; (try clear hb); (try clear hb2); (try clear hk); (try clear hi))))
                          go_ret
                          exact ⟨by first | rfl | (simp [errW_none, errW_some] <;> rfl) | (simp only [← hji14]; first | rfl | (simp [errW_none, errW_some] <;> rfl)) | (simp [*, errW_none, errW_some] <;> rfl), by repeat (first | (with_reducible first | exact HB.out | apply below_alloc | apply pw_below_drewN | apply below_drew1 | refine below_set ?_ GE564.out) | exact HB.out)⟩
      · rw [if_neg c16] at H
        exact absurd H (by simp)
    · rw [if_neg c15] at H
      exact absurd H (by simp)
def cippuslaw07_StemmaLater.Pure : Prop := ∀ (l0 : List Int), l0.length ≤ maxLen → l0.length * 8 ≤ 140737488351232 → (∀ x ∈ l0, (Lit.int .i64 x).wf = true) → ∃ k, cippuslaw07_StemmaLater.f k l0 = some true
theorem cippuslaw07_StemmaLater.walk (P : cippuslaw07_StemmaLater.Pure) (a0 : Option Addr) (len0 cap0 : Nat) (z0 : List Int) (w : World) (w0 : (a0 = none ∧ len0 = 0 ∧ cap0 = 0 ∧ z0 = []) ∨ ∃ x, a0 = some x ∧ len0 ≤ cap0 ∧ cap0 ≤ maxLen ∧ z0.length = cap0 ∧ (∀ i, i < z0.length → w.cell? (x.add i) = some (.int .i64 (z0.getD i 0))) ∧ ∀ n ∈ z0, (Lit.int .i64 n).wf = true) (y0 : len0 * 8 ≤ 140737488351232) :
    Calls Try.prog 9 #[.slice a0 len0 cap0] w fun e w' => e = .returned (.bool true) ∧ Below w.heap.size w w' := by
  obtain ⟨l0, rfl, hr0, hm0, hw0, hc0⟩ := ReadsInt.ofRowC w0
  obtain ⟨k, h⟩ := P l0 hm0 y0 hw0
  refine (cippuslaw07_StemmaLater.calls k _ _ l0 true w (Kd.C_of_reads (d := (0 : Int)) (h1 := fun _ => rfl) hr0) hc0 h).mono ?_
  rintro e w' ⟨rfl, hd⟩
  exact ⟨rfl, hd⟩
end Go.Proofs.Ytegjollhajgcdaa.P
namespace Go.Proofs.Ytegjollhajgcdaa.Pure
open Go.RowKit Go.Proofs.Ytegjollhajgcdaa.P Go.Proofs.Ytegjollhajgcdaa.P.OwnSt Go.Proofs.YtegjollhajgcdaaW.PrintWords Go.Proofs.YtegjollhajgcdaaW.PrintLast
set_option linter.unusedVariables false
set_option linter.unusedSimpArgs false
section
variable {l l' : List S24} {m : Nat} {r : (Nat → Int) → Nat → Int}
theorem later_l3 (h : SubT l l' m r) (hk : knownE l = 0) (hk' : knownE l' = 0) (hm : m = l.length) (hm' : m ≤ l'.length) (i : Nat) (hi : i < m) (R : Bool)
    (hR : Ev (fun k => cippuslaw07_StemmaLater.l2 k (sourcesV l).1 (sourcesV l').1 ((i + 1 : Nat) : Int)) R) : ∀ rem j, j + rem = i + 1 →
    Ev (fun k => cippuslaw07_StemmaLater.l3 k (sourcesV l).1 (sourcesV l').1 (i : Int) (j : Int)) R := by
  intro rem
  have h5 := h.vl.five
  have hl : (sourcesV l).1.length = l.length := by unfold sourcesV; rw [if_pos hk]; simp
  have hl' : (sourcesV l').1.length = l'.length := by unfold sourcesV; rw [if_pos hk']; simp
  have hrow := rowsV l hk i (by omega)
  have hrow' := rowsV l' hk' i (by omega)
  have hr : (srcRow l i).length = i + 1 := by simp [srcRow]
  have hr' : (srcRow l' i).length = i + 1 := by simp [srcRow]
  induction rem with
  | zero =>
    intro j hj
    refine Ev.step (fun k => by rw [cippuslaw07_StemmaLater.l3]) ?_
    rw [hrow, hrow']
    refine Ev.if_pos' (by omega) (Ev.if_pos' (by omega) (Ev.if_neg' (by omega) ?_))
    rw [show wrap64 ((i : Int) + 1) = ((i + 1 : Nat) : Int) by rw [wrap64_small (by omega) (by omega)]; omega]
    exact hR
  | succ rem ih =>
    intro j hj
    refine Ev.step (fun k => by rw [cippuslaw07_StemmaLater.l3]) ?_
    rw [hrow, hrow', show wrap64 ((j : Int) + 1) = ((j + 1 : Nat) : Int) by rw [wrap64_small (by omega) (by omega)]; omega]
    refine Ev.if_pos' (by omega) (Ev.if_pos' (by omega) (Ev.if_pos' (by omega) (Ev.if_pos' (by omega) ?_)))
    rw [rowV l i j (by omega), rowV l' i j (by omega)]
    by_cases e : verdictI ((knownV l).countP (srcP i j)) (knownV l).length = 3
    · exact Ev.if_pos' e (ih (j + 1) (by omega))
    · refine Ev.if_neg' e (Ev.if_pos' (by omega) (Ev.if_pos' (by omega) (Ev.if_pos' ?_ (ih (j + 1) (by omega)))))
      exact h.verdict (knownE_zero hk').2 i j hi e
theorem later_l2 (h : SubT l l' m r) (hk : knownE l = 0) (hk' : knownE l' = 0) (hm : m = l.length) (hm' : m ≤ l'.length) : ∀ rem i, i + rem = m →
    Ev (fun k => cippuslaw07_StemmaLater.l2 k (sourcesV l).1 (sourcesV l').1 (i : Int)) true := by
  intro rem
  have h5 := h.vl.five
  have hl : (sourcesV l).1.length = l.length := by unfold sourcesV; rw [if_pos hk]; simp
  have hl' : (sourcesV l').1.length = l'.length := by unfold sourcesV; rw [if_pos hk']; simp
  induction rem with
  | zero =>
    intro i hi
    refine Ev.step (fun k => by rw [cippuslaw07_StemmaLater.l2]) ?_
    exact Ev.if_neg' (by omega) (Ev.bind found_ev (Ev.now _))
  | succ rem ih =>
    intro i hi
    refine Ev.step (fun k => by rw [cippuslaw07_StemmaLater.l2]) ?_
    rw [rowsV l hk i (by omega), rowsV l' hk' i (by omega)]
    refine Ev.if_pos' (by omega) (Ev.if_pos' (by omega) (Ev.if_pos' (by omega) (Ev.if_pos' (by simp [srcRow]) ?_)))
    exact later_l3 h hk hk' hm hm' i (by omega) true (ih (i + 1) (by omega)) (i + 1) 0 (by omega)
theorem later_l1 (h : SubT l l' m r) (hk : knownE l = 0) (hk' : knownE l' = 0) (hL : (rd_T24 l 0).f0.size = (rd_T24 l' 0).f0.size) (p : Nat) (hp : p < (rd_T24 l 0).f0.size) (R : Bool)
    (hR : Ev (fun k => cippuslaw07_StemmaLater.l0 k (lettersV l).1 (lettersV l').1 (sourcesV l).1 (sourcesV l').1 ((p + 1 : Nat) : Int)) R) : ∀ rem q, q + rem = (letterRow l' p).size →
    Ev (fun k => cippuslaw07_StemmaLater.l1 k (lettersV l).1 (lettersV l').1 (sourcesV l).1 (sourcesV l').1 (p : Int) (q : Int)) R := by
  intro rem
  have h8 := h.vl.high
  have hs' := letterRow_size l' p
  have hs := letterRow_size l p
  have hl : (lettersV l).1.length = (rd_T24 l 0).f0.size := by unfold lettersV; rw [if_pos hk]; simp
  have hl' : (lettersV l').1.length = (rd_T24 l' 0).f0.size := by unfold lettersV; rw [if_pos hk']; simp
  induction rem with
  | zero =>
    intro q hq
    refine Ev.step (fun k => by rw [cippuslaw07_StemmaLater.l1]) ?_
    rw [textsV l hk p hp, textsV l' hk' p (by omega)]
    refine Ev.if_pos' (by omega) (Ev.if_pos' (by omega) (Ev.if_neg' (by omega) ?_))
    rw [show wrap64 ((p : Int) + 1) = ((p + 1 : Nat) : Int) by rw [wrap64_small (by omega) (by omega)]; omega]
    exact hR
  | succ rem ih =>
    intro q hq
    refine Ev.step (fun k => by rw [cippuslaw07_StemmaLater.l1]) ?_
    rw [textsV l hk p hp, textsV l' hk' p (by omega)]
    refine Ev.if_pos' (by omega) (Ev.if_pos' (by omega) (Ev.if_pos' (by omega) (Ev.if_pos' (by omega) (Ev.if_pos' (by omega) ?_))))
    obtain ⟨j, h1, h2, h3⟩ := bt_mask (mayAt l' p) q (show q < (letterRow l' p).size by omega)
    have h4 := has_ev (letterRow l p) (bt (letterRow l' p) (q : Int)) (by omega)
    have h5 : hasB (letterRow l p) (bt (letterRow l' p) (q : Int)) = true := by
      unfold letterRow
      rw [h3, hasB_row _ j h1]
      exact h.letters p j hp (by omega) h2
    rw [h5] at h4
    refine Ev.bind h4 (Ev.if_pos' (by trivial) ?_)
    rw [show wrap64 ((q : Int) + 1) = ((q + 1 : Nat) : Int) by rw [wrap64_small (by omega) (by omega)]; omega]
    exact ih (q + 1) (by omega)
theorem later_l0 (h : SubT l l' m r) (hk : knownE l = 0) (hk' : knownE l' = 0) (hL : (rd_T24 l 0).f0.size = (rd_T24 l' 0).f0.size) (hm : m = l.length) (hm' : m ≤ l'.length) : ∀ rem p, p + rem = (rd_T24 l 0).f0.size →
    Ev (fun k => cippuslaw07_StemmaLater.l0 k (lettersV l).1 (lettersV l').1 (sourcesV l).1 (sourcesV l').1 (p : Int)) true := by
  intro rem
  have hl : (lettersV l).1.length = (rd_T24 l 0).f0.size := by unfold lettersV; rw [if_pos hk]; simp
  induction rem with
  | zero =>
    intro p hp
    refine Ev.step (fun k => by rw [cippuslaw07_StemmaLater.l0]) ?_
    exact Ev.if_neg' (by omega) (by simpa using later_l2 h hk hk' hm hm' m 0 (by omega))
  | succ rem ih =>
    intro p hp
    refine Ev.step (fun k => by rw [cippuslaw07_StemmaLater.l0]) ?_
    refine Ev.if_pos' (by omega) ?_
    simpa using later_l1 h hk hk' hL p (by omega) true (ih (p + 1) (by omega)) (letterRow l' p).size 0 (by omega)
end
theorem StemmaLater : cippuslaw07_StemmaLater.Pure := by
  intro l0 hl _ _
  obtain ⟨a, b, e1⟩ := newUrn_ok l0 (by have : maxLen = 9223372036854775807 := rfl; omega)
  obtain ⟨l, st, src, a2, b2, e2, h, hn, hp⟩ := copiesOf_made a b 5 5 1 (by omega) (by omega) (by omega) (by omega) (by omega) (by omega)
  have h5 := h.five
  refine Ev.rounds ?_
  unfold cippuslaw07_StemmaLater.f cippuskit_NewUrn.f cippuskit_CopiesOf.f stemma_Sources.f stemma_Letters.f stemma_Fewest.f
  rw [e1]
  simp only [Option.bind_some, e2]
  by_cases h2 : (l.length : Int) < 2
  · exact Ev.if_pos' h2 (Ev.bind found_ev (Ev.now _))
  · refine Ev.if_neg' h2 ?_
    have ew : wrap64 ((l.length : Int) - 1) = ((l.length - 1 : Nat) : Int) := by simp [wrap64]; omega
    rw [ew, Int.toNat_natCast]
    refine Ev.if_pos' (by omega) (Ev.if_pos' (by omega) ?_)
    obtain ⟨m, hm⟩ : ∃ m, m = l.length - 1 := ⟨_, rfl⟩
    rw [← hm]
    have ht := h.take m (by omega) (by omega)
    have hs := sub_take h.valid m (by omega) (by omega)
    obtain ⟨y, hy⟩ : ∃ y, y = l.take m := ⟨_, rfl⟩
    have hyl : y.length = m := by rw [hy, List.length_take]; omega
    rw [← hy] at ht hs ⊢
    have hk := ht.knownE
    have hk' := h.knownE
    have hL : (rd_T24 y 0).f0.size = (rd_T24 l 0).f0.size := by rw [ht.first, h.first]
    have s1 : (sourcesV l).2 = 0 := by unfold sourcesV; rw [if_pos hk']
    have s2 : (lettersV l).2 = 0 := by unfold lettersV; rw [if_pos hk']
    have s3 : (fewestV l).2 = 0 := by unfold fewestV; rw [if_pos hk']
    have s4 : (sourcesV l).1.length = l.length := by unfold sourcesV; rw [if_pos hk']; simp
    have s5 : (lettersV l).1.length = (rd_T24 l 0).f0.size := by unfold lettersV; rw [if_pos hk']; simp
    have t1 : (sourcesV y).2 = 0 := by unfold sourcesV; rw [if_pos hk]
    have t2 : (lettersV y).2 = 0 := by unfold lettersV; rw [if_pos hk]
    have t3 : (fewestV y).2 = 0 := by unfold fewestV; rw [if_pos hk]
    have t4 : (sourcesV y).1.length = y.length := by unfold sourcesV; rw [if_pos hk]; simp
    have t5 : (lettersV y).1.length = (rd_T24 y 0).f0.size := by unfold lettersV; rw [if_pos hk]; simp
    have hf := hs.fewest hk hk'
    refine Ev.if_pos' t2 (Ev.if_pos' s2 (Ev.if_pos' t3 (Ev.if_pos' s3 (Ev.if_pos' t1 (Ev.if_pos' s1 (Ev.if_neg' (by omega) (Ev.if_pos' (by omega) (Ev.if_pos' (by omega) ?_))))))))
    rw [show ((((sourcesV l).1.length : Nat) : Int) != (l.length : Int)) = false from by rw [s4]; simp]
    refine Ev.step (fun k => by rw [cippuslaw07_StemmaLater.j0]) ?_
    refine Ev.if_neg' (by decide) ?_
    simpa using later_l0 hs hk hk' hL (by omega) (by omega) (rd_T24 y 0).f0.size 0 (by omega)
end Go.Proofs.Ytegjollhajgcdaa.Pure
namespace Go.Proofs.YtegjollhajgcdaaW.PrintWords
open Go.ChangeShapes Go.WideShapes
theorem sized_ints {H : Type} {enc : TypeId × Value → H} {P : Program} {W : World} {base : Nat} {spare : Nat → Bool} {held : Bool} {t e : TypeId} {k : IntKind} {a : Option Addr} {len cap : Nat} {d : DataW H} {ps : List MemPlace} {ts : List TypeId} {ds : List (DataW H)} {j : Nat}
    (hsz : (DataW.weightsEach P ts ds).all (· ≤ reachBytes) = true) (ht : ts[j]? = some t) (hd : ds[j]? = some d) (hu : P.underlying t = some (.slice e)) (he : P.underlying e = some (.int k)) (hc : P.cellsOf e = 1) {B : Nat} (hB : P.bytesOf e = B)
    (h : DataW.Trod enc P W base spare held t (.slice a len cap) d ps) : len * B ≤ 140737488351232 := by
  obtain ⟨fuel, hf⟩ := h
  rcases open_ints hu he hc hf with ⟨hcs, _⟩ | ⟨x, l, c, zs, hcs, _, hl, _, hz, hx, _, _⟩
  · simp [Value.cells] at hcs
    obtain ⟨rfl, rfl, rfl⟩ := hcs
    simp
  · simp [Value.cells] at hcs
    obtain ⟨rfl, rfl, rfl⟩ := hcs
    obtain ⟨hx, _⟩ := Prod.mk.inj hx
    subst hx
    have z := sized_slice hsz ht hd hu
    rw [hB] at z
    have hl2 : len ≤ zs.length := by
      rw [hz]
      split
      · exact hl
      · exact Nat.le_refl _
    have h1 : (lits (H := H) k (zs.take len)).length + (lits (H := H) k (zs.drop len)).length = zs.length := by
      simp [lits]
      omega
    rw [h1] at z
    exact Nat.le_trans (Nat.mul_le_mul_right _ hl2) z
end Go.Proofs.YtegjollhajgcdaaW.PrintWords
namespace Go.Proofs.Ytegjollhajgcdaa.stemmaLater
open Go.ChangeShapes Go.WideShapes Go.ChangeAt Go.RowKit
open Go.ChangeMaps (open_string shut_string)
set_option linter.unusedVariables false
theorem own : ownKnob Try.prog.godebug = none := by kernel_rfl
theorem laidOut : laidOutB Try.prog = true := by kernel_rfl
def IsRow (k : IntKind) (w : World) (a : Option Addr) (len cap : Nat) (zs : List Int) : Prop :=
  (a = none ∧ len = 0 ∧ cap = 0 ∧ zs = []) ∨
  ∃ x, a = some x ∧ len ≤ cap ∧ cap ≤ maxLen ∧ zs.length = cap ∧ (∀ i, i < zs.length → w.cell? (x.add i) = some (.int k (zs.getD i 0))) ∧ ∀ n ∈ zs, (Lit.int k n).wf = true
set_option maxRecDepth 100000 in
theorem lifted (os : Os) (started : os.Started) (H : Type) (enc : TypeId × Value → H) :
    ReturnsInHanded {} Try.checked os 9 .any (Rows.stemmaLaterSpec.pre6 enc Try.prog Try.f9 Rows.stemmaLaterRow.domain false) (Rows.stemmaLaterSpec.post enc Try.prog Try.f9 false true false false) := by
  refine returnsInHanded_of_change_sized (C := Try.checked) own started (by kernel_rfl) Try.func9
    (ChangeSpec.witness6 (enc := enc) (C := Try.checked) false ⟨#[], #[.slice none 0 0], []⟩ 8 (by kernel_rfl) (by kernel_rfl) (by kernel_rfl) (by kernel_rfl)) ?_
  intro W base args ds gs before hval0 hW hcnd hsz0 _
  have hsz : (DataW.weightsEach Try.prog (Try.f9.params.toList ++ Rows.stemmaLaterSpec.plain.varTypes Try.prog) (ds ++ gs)).all (· ≤ reachBytes) = true := hsz0
  have hval : ∀ (j : Nat) t v, Try.f9.params[j]? = some t → args[j]? = some v → Value.okWide Try.prog W .any base t v := hval0
  have hW' := hW
  obtain ⟨p, q, hA0, hV, rfl, hfz, hnd⟩ := hW
  have hA : DataW.TrodAll enc Try.prog W 0 (fun _ => true) true Try.f9.params.toList args.toList ds p := hA0
  rw [Try.params9] at hA hval hsz
  obtain ⟨v0, vs0, d0, ds0, p0, q0, hargs, rfl, rfl, h0, r0⟩ := trodAll_cons hA
  obtain ⟨rfl, rfl, rfl⟩ := trodAll_nil r0
  obtain rfl : args = #[v0] := by cases args; simp_all
  obtain ⟨rfl, rfl⟩ := trodVars_none hV
  obtain ⟨a0, len0, cap0, rfl⟩ := okWide_slice Try.underlying25 (hval 0 25 v0 rfl rfl)
  have k0 := h0
  have lt0 : ∀ x ∈ p0, x.block < W.heap.size := by obtain ⟨m, hm⟩ := k0; exact DataW.trod_lt m _ _ _ hm
  obtain ⟨z0, w0⟩ : ∃ zs, IsRow .i64 W a0 len0 cap0 zs := by
    obtain ⟨fuel, hf⟩ := h0
    rcases open_ints Try.underlying25 Try.underlying3 (by kernel_rfl) hf with ⟨hcs, _⟩ | ⟨x, l, c, zs, hcs, _, hl, hm, hz, _, hcell, hwz⟩
    · simp [Value.cells] at hcs
      obtain ⟨rfl, rfl, rfl⟩ := hcs
      exact ⟨[], .inl ⟨rfl, rfl, rfl, rfl⟩⟩
    · simp [Value.cells] at hcs
      obtain ⟨rfl, rfl, rfl⟩ := hcs
      exact ⟨zs, .inr ⟨_, rfl, hl, hm, by simpa using hz, hcell, hwz⟩⟩
  have y0 : len0 * 8 ≤ 140737488351232 := Go.Proofs.YtegjollhajgcdaaW.PrintWords.sized_ints hsz (j := 0) (t := 25) rfl rfl Try.underlying25 Try.underlying3 (by kernel_rfl) (by kernel_rfl) h0
  clear hA0 hval0 hsz0 hsz
  refine (P.cippuslaw07_StemmaLater.walk Pure.StemmaLater a0 len0 cap0 z0 W w0 y0).mono fun e W' ⟨he, bel⟩ => ?_
  subst he
  exact ⟨_, rfl, _, _, _, [], _, [], hW', trodAll_mk1 (shut_bool Try.underlying4 _), (trodAll_cons_mk (Below.trod laidOut (by kernel_rfl) (of_decide_eq_true (by kernel_rfl)) k0 bel lt0) trodAll_mk0), rfl, bel.frame _, fun h => by cases h⟩
theorem over : Rows.stemmaLaterRow.holds Try.pinned (OpenSpec.ofChange Rows.stemmaLaterSpec) :=
  OpenClaim.holds_of_wide 9 Try.f9 rfl rfl rfl rfl rfl rfl rfl ⟨rfl, rfl, rfl, rfl, rfl⟩ rfl rfl rfl rfl rfl (by kernel_rfl) Try.func9 (by kernel_rfl)
    (of_decide_eq_true (by kernel_rfl)) (by unfold Func.isWrapper; first | (rw [if_pos (by decide +kernel)]; kernel_rfl) | (rw [if_neg (by decide +kernel)]; exact ⟨rfl, rfl⟩))
    (fun os started H enc _ => lifted os started H enc)
theorem proved : Rows.StemmaLaterSaid := over
#print axioms proved
end Go.Proofs.Ytegjollhajgcdaa.stemmaLater
namespace Go.Proofs.Ytegjollhajgcdaa
theorem stemmaLater_holds : Rows.StemmaLaterSaid := stemmaLater.proved
end Go.Proofs.Ytegjollhajgcdaa
