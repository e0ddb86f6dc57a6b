/- The statement StemmaAgreed holds of the given program. Conditions: none beyond those of its row. -/
import Derived.SizedLaws
import Derived.ChangeSlices
import Derived.Test.YtegjollhajgcdaaRows
import Derived.WalkKit
import Derived.ProofKit
import Derived.OpenShut
import Derived.ShutString
import Derived.ChangeOld
import Derived.Below
import Derived.Test.YtegjollhajgcdaaB4
namespace Go.Proofs.Ytegjollhajgcdaa.P
open Go.RowKit Go.Proofs.YtegjollhajgcdaaW.PrintWords Go.Proofs.YtegjollhajgcdaaW.PrintLast Go.Proofs.YtegjollhajgcdaaW.PrintMore
attribute [local go_sem] max2_int min2_int max_two min_two max_three min_three max_four min_four   -- for this text's walks alone
set_option linter.unusedVariables false
set_option linter.unusedSimpArgs false
mutual
def cippuslaw07_StemmaAgreed.j0 : Nat → List (S24) → ByteArray → List Int → Option (Bool)
  | 0, _, _, _ => none
  | k + 1, x4, x430000, x430001 => (stemma_Sources.f k x4).bind fun bt436 => ((stemma_Letters.f k x4).bind fun bt440 => ((stemma_Print.f k x4).bind fun bt444 => (if bt436.2 = 0 then (if bt440.2 = 0 then (if bt444.2 = 0 then (if (bt436.1.length : Int) = (x4.length : Int) then (if (bt440.1.length : Int) = (bt444.1.size : Int) then (cippuslaw07_StemmaAgreed.j1 k x4 bt436.1 bt440.1 bt444.1 ((bt444.1.size : Int) != (x430000.size : Int))) else (cippuslaw07_StemmaAgreed.j1 k x4 bt436.1 bt440.1 bt444.1 true)) else (cippuslaw07_StemmaAgreed.j1 k x4 bt436.1 bt440.1 bt444.1 true)) else (cippuslaw07_StemmaAgreed.j1 k x4 bt436.1 bt440.1 bt444.1 true)) else (cippuslaw07_StemmaAgreed.j1 k x4 bt436.1 bt440.1 bt444.1 true)) else (cippuslaw07_StemmaAgreed.j1 k x4 bt436.1 bt440.1 bt444.1 true))))
def cippuslaw07_StemmaAgreed.j1 : Nat → List (S24) → List (List Int) → List ByteArray → ByteArray → Bool → Option (Bool)
  | 0, _, _, _, _, _ => none
  | k + 1, x4, x6, x8, x10, x76 => if x76 = true then (some false) else (cippuslaw07_StemmaAgreed.l0 k x4 x6 x8 x10 0)
def cippuslaw07_StemmaAgreed.l0 : Nat → List (S24) → List (List Int) → List ByteArray → ByteArray → Int → Option (Bool)
  | 0, _, _, _, _, _ => none
  | k + 1, x4, x6, x8, x10, x12 => if x12 < (x10.size : Int) then (if 0 ≤ x12 then (if x12 < (x8.length : Int) then (if ((rdOf ByteArray.empty x8 x12).size : Int) = 1 then (if 0 < ((rdOf ByteArray.empty x8 x12).size : Int) then (if (bt x10 x12) = (bt (rdOf ByteArray.empty x8 x12) 0) then (cippuslaw07_StemmaAgreed.l0 k x4 x6 x8 x10 (wrap64 (x12 + 1))) else (some false)) else (none)) else (if (bt x10 x12) = 45 then (cippuslaw07_StemmaAgreed.l0 k x4 x6 x8 x10 (wrap64 (x12 + 1))) else (some false))) else (none)) else (none)) else (cippuslaw07_StemmaAgreed.l1 k x4 x6 x10 0)
def cippuslaw07_StemmaAgreed.l1 : Nat → List (S24) → List (List Int) → ByteArray → Int → Option (Bool)
  | 0, _, _, _, _ => none
  | k + 1, x4, x6, x10, x14 => if x14 < (x4.length : Int) then (if 0 ≤ x14 then (if ((rd_T24 x4 x14).f1) = 0 then (if x14 < (x6.length : Int) then (if ((rd_L4 x6 x14).length : Int) > 0 then (if 0 < ((rd_L4 x6 x14).length : Int) then (if (rd (rd_L4 x6 x14) 0) = 1 then (if x10.toList = ((rd_T24 x4 x14).f0).toList then (cippuslaw07_StemmaAgreed.l1 k x4 x6 x10 (wrap64 (x14 + 1))) else (some false)) else (cippuslaw07_StemmaAgreed.l1 k x4 x6 x10 (wrap64 (x14 + 1)))) else (none)) else (cippuslaw07_StemmaAgreed.l1 k x4 x6 x10 (wrap64 (x14 + 1)))) else (none)) else (cippuslaw07_StemmaAgreed.l1 k x4 x6 x10 (wrap64 (x14 + 1)))) else (none)) else ((cippuslaw07_found.f k).bind fun t453 => (some t453))
end
def cippuslaw07_StemmaAgreed.f (k : Nat) (l0 : List Int) : Option (Bool) := (cippuskit_NewUrn.f l0).bind fun bt417 => ((cippuskit_CopiesOf.f bt417.1 bt417.2 4 6 1).bind fun bt420 => ((cippuskit_Urn_Odds.f bt420.2.2.2.1 bt420.2.2.2.2 1 2).bind fun bt430 => (if bt430.1 = true then (if bt420.1.length < 4398046511104 then (cippuslaw07_StemmaAgreed.j0 k (bt420.1 ++ [(⟨bt420.2.1, 0, true⟩ : S24)]) bt420.2.1 bt420.2.2.1) else (none)) else (cippuslaw07_StemmaAgreed.j0 k bt420.1 bt420.2.1 bt420.2.2.1))))
theorem cippuslaw07_StemmaAgreed.mono_l : ∀ k, (∀ y0 y1 y2, LeO (cippuslaw07_StemmaAgreed.j0 k y0 y1 y2) (cippuslaw07_StemmaAgreed.j0 (k + 1) y0 y1 y2)) ∧ (∀ y0 y1 y2 y3 y4, LeO (cippuslaw07_StemmaAgreed.j1 k y0 y1 y2 y3 y4) (cippuslaw07_StemmaAgreed.j1 (k + 1) y0 y1 y2 y3 y4)) ∧ (∀ y0 y1 y2 y3 y4, LeO (cippuslaw07_StemmaAgreed.l0 k y0 y1 y2 y3 y4) (cippuslaw07_StemmaAgreed.l0 (k + 1) y0 y1 y2 y3 y4)) ∧ (∀ y0 y1 y2 y3, LeO (cippuslaw07_StemmaAgreed.l1 k y0 y1 y2 y3) (cippuslaw07_StemmaAgreed.l1 (k + 1) y0 y1 y2 y3))
  | 0 => ⟨fun _ _ _ r h => by simp [cippuslaw07_StemmaAgreed.j0] at h, fun _ _ _ _ _ r h => by simp [cippuslaw07_StemmaAgreed.j1] at h, fun _ _ _ _ _ r h => by simp [cippuslaw07_StemmaAgreed.l0] at h, fun _ _ _ _ r h => by simp [cippuslaw07_StemmaAgreed.l1] at h⟩
  | k + 1 => by
    obtain ⟨ih0, ih1, ih2, ih3⟩ := cippuslaw07_StemmaAgreed.mono_l k
    refine ⟨?_, ?_, ?_, ?_⟩
    · intro y0 y1 y2
      unfold cippuslaw07_StemmaAgreed.j0
      repeat' first
      | (with_reducible exact ih0 _ _ _)
      | (with_reducible exact ih1 _ _ _ _ _)
      | (with_reducible exact ih2 _ _ _ _ _)
      | (with_reducible exact ih3 _ _ _ _)
      | (with_reducible exact cippuslaw07_found.mono _)
      | (with_reducible exact stemma_Letters.mono _ _)
      | (with_reducible exact stemma_Print.mono _ _)
      | (with_reducible exact stemma_Sources.mono _ _)
      | (with_reducible exact LeO.refl _)
      | (with_reducible exact LeO.none _)
      | (with_reducible refine LeO.ite ?_ ?_)
      | (with_reducible refine LeO.bind ?_ (fun _ => ?_))
      | exact ih0 _ _ _
      | exact ih1 _ _ _ _ _
      | exact ih2 _ _ _ _ _
      | exact ih3 _ _ _ _
      | exact cippuslaw07_found.mono _
      | exact stemma_Letters.mono _ _
      | exact stemma_Print.mono _ _
      | exact stemma_Sources.mono _ _
      | exact LeO.none _
      | refine LeO.ite ?_ ?_
      | refine LeO.bind ?_ (fun _ => ?_)
    · intro y0 y1 y2 y3 y4
      unfold cippuslaw07_StemmaAgreed.j1
      repeat' first
      | (with_reducible exact ih0 _ _ _)
      | (with_reducible exact ih1 _ _ _ _ _)
      | (with_reducible exact ih2 _ _ _ _ _)
      | (with_reducible exact ih3 _ _ _ _)
      | (with_reducible exact cippuslaw07_found.mono _)
      | (with_reducible exact stemma_Letters.mono _ _)
      | (with_reducible exact stemma_Print.mono _ _)
      | (with_reducible exact stemma_Sources.mono _ _)
      | (with_reducible exact LeO.refl _)
      | (with_reducible exact LeO.none _)
      | (with_reducible refine LeO.ite ?_ ?_)
      | (with_reducible refine LeO.bind ?_ (fun _ => ?_))
      | exact ih0 _ _ _
      | exact ih1 _ _ _ _ _
      | exact ih2 _ _ _ _ _
      | exact ih3 _ _ _ _
      | exact cippuslaw07_found.mono _
      | exact stemma_Letters.mono _ _
      | exact stemma_Print.mono _ _
      | exact stemma_Sources.mono _ _
      | exact LeO.none _
      | refine LeO.ite ?_ ?_
      | refine LeO.bind ?_ (fun _ => ?_)
    · intro y0 y1 y2 y3 y4
      unfold cippuslaw07_StemmaAgreed.l0
      repeat' first
      | (with_reducible exact ih0 _ _ _)
      | (with_reducible exact ih1 _ _ _ _ _)
      | (with_reducible exact ih2 _ _ _ _ _)
      | (with_reducible exact ih3 _ _ _ _)
      | (with_reducible exact cippuslaw07_found.mono _)
      | (with_reducible exact stemma_Letters.mono _ _)
      | (with_reducible exact stemma_Print.mono _ _)
      | (with_reducible exact stemma_Sources.mono _ _)
      | (with_reducible exact LeO.refl _)
      | (with_reducible exact LeO.none _)
      | (with_reducible refine LeO.ite ?_ ?_)
      | (with_reducible refine LeO.bind ?_ (fun _ => ?_))
      | exact ih0 _ _ _
      | exact ih1 _ _ _ _ _
      | exact ih2 _ _ _ _ _
      | exact ih3 _ _ _ _
      | exact cippuslaw07_found.mono _
      | exact stemma_Letters.mono _ _
      | exact stemma_Print.mono _ _
      | exact stemma_Sources.mono _ _
      | exact LeO.none _
      | refine LeO.ite ?_ ?_
      | refine LeO.bind ?_ (fun _ => ?_)
    · intro y0 y1 y2 y3
      unfold cippuslaw07_StemmaAgreed.l1
      repeat' first
      | (with_reducible exact ih0 _ _ _)
      | (with_reducible exact ih1 _ _ _ _ _)
      | (with_reducible exact ih2 _ _ _ _ _)
      | (with_reducible exact ih3 _ _ _ _)
      | (with_reducible exact cippuslaw07_found.mono _)
      | (with_reducible exact stemma_Letters.mono _ _)
      | (with_reducible exact stemma_Print.mono _ _)
      | (with_reducible exact stemma_Sources.mono _ _)
      | (with_reducible exact LeO.refl _)
      | (with_reducible exact LeO.none _)
      | (with_reducible refine LeO.ite ?_ ?_)
      | (with_reducible refine LeO.bind ?_ (fun _ => ?_))
      | exact ih0 _ _ _
      | exact ih1 _ _ _ _ _
      | exact ih2 _ _ _ _ _
      | exact ih3 _ _ _ _
      | exact cippuslaw07_found.mono _
      | exact stemma_Letters.mono _ _
      | exact stemma_Print.mono _ _
      | exact stemma_Sources.mono _ _
      | exact LeO.none _
      | refine LeO.ite ?_ ?_
      | refine LeO.bind ?_ (fun _ => ?_)
theorem cippuslaw07_StemmaAgreed.mono : ∀ a0 k, LeO (cippuslaw07_StemmaAgreed.f k a0) (cippuslaw07_StemmaAgreed.f (k + 1) a0) := by
  intro a0 k
  obtain ⟨ih0, ih1, ih2, ih3⟩ := cippuslaw07_StemmaAgreed.mono_l k
  unfold cippuslaw07_StemmaAgreed.f
  repeat' first
      | (with_reducible exact ih0 _ _ _)
      | (with_reducible exact ih1 _ _ _ _ _)
      | (with_reducible exact ih2 _ _ _ _ _)
      | (with_reducible exact ih3 _ _ _ _)
      | (with_reducible exact cippuslaw07_found.mono _)
      | (with_reducible exact stemma_Letters.mono _ _)
      | (with_reducible exact stemma_Print.mono _ _)
      | (with_reducible exact stemma_Sources.mono _ _)
      | (with_reducible exact LeO.refl _)
      | (with_reducible exact LeO.none _)
      | (with_reducible refine LeO.ite ?_ ?_)
      | (with_reducible refine LeO.bind ?_ (fun _ => ?_))
      | exact ih0 _ _ _
      | exact ih1 _ _ _ _ _
      | exact ih2 _ _ _ _ _
      | exact ih3 _ _ _ _
      | exact cippuslaw07_found.mono _
      | exact stemma_Letters.mono _ _
      | exact stemma_Print.mono _ _
      | exact stemma_Sources.mono _ _
      | exact LeO.none _
      | refine LeO.ite ?_ ?_
      | refine LeO.bind ?_ (fun _ => ?_)
set_option maxHeartbeats 8000000 in
set_option maxRecDepth 100000 in
theorem cippuslaw07_StemmaAgreed.calls (k : Nat) (A0 : Option Addr) (c0 : Nat) (l0 : List Int) (r : Bool) (w : World) (hr0 : Kd.C (Kd.int .i64) w A0 l0.length l0) (hc0 : l0.length ≤ c0) (h : cippuslaw07_StemmaAgreed.f k l0 = some r) :
    Calls Try.prog 6 #[.slice A0 l0.length c0] w fun e w' => e = .returned (.bool r) ∧ Below w.heap.size w w' := by
  have hu27 := Try.underlying27
  have hu24 := Try.underlying24
  have HR0 := Aside0.mk hr0
  have HC0 := Aside0.mk hc0
  clear hr0 hc0
  have HB := Aside0.mk (Below.refl w.heap.size w)
  have H : ((cippuskit_NewUrn.f l0).bind fun bt417 => ((cippuskit_CopiesOf.f bt417.1 bt417.2 4 6 1).bind fun bt420 => ((cippuskit_Urn_Odds.f bt420.2.2.2.1 bt420.2.2.2.2 1 2).bind fun bt430 => (if bt430.1 = true then (if bt420.1.length < 4398046511104 then (cippuslaw07_StemmaAgreed.j0 k (bt420.1 ++ [(⟨bt420.2.1, 0, true⟩ : S24)]) bt420.2.1 bt420.2.2.1) else (none)) else (cippuslaw07_StemmaAgreed.j0 k bt420.1 bt420.2.1 bt420.2.2.1))))) = some r := h
  clear h
  replace H := Option.bind_eq_some_iff.mp H
  obtain ⟨⟨t417, t418⟩, A20, H⟩ := H
  replace H : ((cippuskit_CopiesOf.f t417 t418 4 6 1).bind fun bt420 => ((cippuskit_Urn_Odds.f bt420.2.2.2.1 bt420.2.2.2.2 1 2).bind fun bt430 => (if bt430.1 = true then (if bt420.1.length < 4398046511104 then (cippuslaw07_StemmaAgreed.j0 k (bt420.1 ++ [(⟨bt420.2.1, 0, true⟩ : S24)]) bt420.2.1 bt420.2.2.1) else (none)) else (cippuslaw07_StemmaAgreed.j0 k bt420.1 bt420.2.1 bt420.2.2.1)))) = some r := H
  have A2 := Aside0.mk A20
  clear A20
  replace H := Option.bind_eq_some_iff.mp H
  obtain ⟨⟨t420, t423, t424, t427, t428⟩, A30, H⟩ := H
  replace H : ((cippuskit_Urn_Odds.f t427 t428 1 2).bind fun bt430 => (if bt430.1 = true then (if t420.length < 4398046511104 then (cippuslaw07_StemmaAgreed.j0 k (t420 ++ [(⟨t423, 0, true⟩ : S24)]) t423 t424) else (none)) else (cippuslaw07_StemmaAgreed.j0 k t420 t423 t424))) = some r := H
  have A3 := Aside0.mk A30
  clear A30
  replace H := Option.bind_eq_some_iff.mp H
  obtain ⟨⟨t430, t431, t432⟩, A40, H⟩ := H
  replace H : (if t430 = true then (if t420.length < 4398046511104 then (cippuslaw07_StemmaAgreed.j0 k (t420 ++ [(⟨t423, 0, true⟩ : S24)]) t423 t424) else (none)) else (cippuslaw07_StemmaAgreed.j0 k t420 t423 t424)) = some r := H
  have A4 := Aside0.mk A40
  clear A40
  have HC5 := Aside0.mk H
  clear H
  go_enter Try.func6, Try.ntmps6
  go_upto_if 23 with (first | ((with_reducible refine gate_callee (f := 14) rfl ?_); refine goesL_ (some 16) rfl rfl Try.func14 (by kernel_rfl) rfl #[.slice A0 l0.length c0] rfl (by (try simp only [List.map_toArray, List.map_cons, List.map_nil]); first | done | rfl | (simp only [List.length_drop, List.length_take]; rfl)) ?_; (with_reducible refine (cippuskit_NewUrn.calls _ _ l0 t417 t418 w _ ?side1 ?side2 ?side3 A2.out).mono ?_); (case side1 => repeat (first | (with_reducible first | exact HB.out | apply below_alloc | apply pw_below_drewN | apply below_drew1) | exact HB.out)); (case side2 => exact HR0.out); (case side3 => exact HC0.out); rintro e w6 ⟨g419, rfl, hi, hb, hb2⟩; refine ⟨_, rfl, ?_⟩; have n0_ := Aside0.mk (hb); have n1_ := Aside0.mk (hi); clear HB; have HB := n0_; have HI419 := n1_; clear n0_ n1_; (try clear hb); (try clear hb2); (try clear hk); (try clear hi)) | ((with_reducible refine gate_callee (f := 13) rfl ?_); refine goesL_ (some 19) rfl rfl Try.func13 (by kernel_rfl) rfl #[.pointer (some ⟨g419, 0, none⟩), .int .i64 4, .int .i64 6, .int .i64 1] rfl (by (try simp only [List.map_toArray, List.map_cons, List.map_nil]); first | done | rfl | (simp only [List.length_drop, List.length_take]; rfl)) ?_; (with_reducible refine (cippuskit_CopiesOf.calls g419 t417 t418 4 6 1 t420 t423 t424 t427 t428 w _ ?side1 ?side2 A3.out).mono ?_); (case side1 => repeat (first | (with_reducible first | exact HI419.out | apply IsS72.alloc | apply IsS72.drewN | apply IsS72.drew | apply IsS72.set_0 | apply IsS72.set_1) | exact HI419.out)); (case side2 => repeat (first | (with_reducible first | exact HB.out | apply below_alloc | apply pw_below_drewN | apply below_drew1 | refine below_set ?_ (IsS72.ge HI419.out)) | exact HB.out)); rintro e w7 ⟨v421, v425, rfl, ho0, ho1, hi, hb, hk⟩; refine ⟨_, rfl, ?_⟩; have n0_ := Aside0.mk (Kd.R_lower ho0 (below_size (by repeat (first | (with_reducible first | exact HB.out | apply below_alloc | apply pw_below_drewN | apply below_drew1 | refine below_set ?_ (IsS72.ge HI419.out)) | exact HB.out)))); have n1_ := Aside0.mk (Kd.R_lower ho1 (below_size (by repeat (first | (with_reducible first | exact HB.out | apply below_alloc | apply pw_below_drewN | apply below_drew1 | refine below_set ?_ (IsS72.ge HI419.out)) | exact HB.out)))); have n2_ := Aside0.mk (hb); have n3_ := Aside0.mk (hi); clear HB; clear HI419; have HO422 := n0_; have HO426 := n1_; have HB := n2_; have HI419 := n3_; clear n0_ n1_ n2_ n3_; (try clear hb); (try clear hb2); (try clear hk); (try clear hi); (try clear ho0); (try clear ho1)) | ((with_reducible refine gate_dst (N := 5) rfl ?_); (try (refine gate_guard (by rfl) ?_; dsimp only)); refine box_event ?hg (N := 5) ?hd (cs := #[.string (⟨#[]⟩ : ByteArray), .slice none 0 0]) (t := 27) ?hr ?_; (case hd => rfl); (case hg => rfl); (case hr => first | (go_simp; done) | (go_simp; rfl)); intro gb429 hg w8 hbox hb; have n0_ := Aside0.mk (Kd.R_below (by (with_reducible repeat (first | apply Kd.R_alloc | apply Kd.R_drewN | apply Kd.R_drew)); exact HO422.out) hb); have n1_ := Aside0.mk (Kd.R_below (by (with_reducible repeat (first | apply Kd.R_alloc | apply Kd.R_drewN | apply Kd.R_drew)); exact HO426.out) hb); have n2_ := Aside0.mk (IsS72.below (by repeat (first | (with_reducible first | exact HI419.out | apply IsS72.alloc | apply IsS72.drewN | apply IsS72.drew | apply IsS72.set_0 | apply IsS72.set_1) | exact HI419.out)) hb); have n3_ := Aside0.mk (below_step (by repeat (first | (with_reducible first | exact HB.out | apply below_alloc | apply pw_below_drewN | apply below_drew1 | refine below_set ?_ (IsS72.ge HI419.out)) | exact HB.out)) hb); have n4_ := Aside0.mk (hbox); have n5_ := Aside0.mk ((by rw [hg]; exact (below_size (by repeat (first | (with_reducible first | exact HB.out | apply below_alloc | apply pw_below_drewN | apply below_drew1 | refine below_set ?_ (IsS72.ge HI419.out)) | exact HB.out))) : w.heap.size ≤ gb429)); have n6_ := Aside0.mk ((by rw [hg]; exact (below_size (by repeat (first | (with_reducible first | exact HB.out | apply below_alloc | apply pw_below_drewN | apply below_drew1 | refine below_set ?_ (IsS72.ge HI419.out)) | exact HB.out))) : w.heap.size ≤ gb429)); have n7_ := Aside0.mk ((by rw [hg]; exact Nat.ne_of_lt (IsS72.lt (show IsS72 w _ g419 t427 t428 from by repeat (first | (with_reducible first | exact HI419.out | apply IsS72.alloc | apply IsS72.drewN | apply IsS72.drew | apply IsS72.set_0 | apply IsS72.set_1) | exact HI419.out))) : g419 ≠ gb429)); have n8_ := Aside0.mk ((by rw [hg]; exact Nat.ne_of_gt (IsS72.lt (show IsS72 w _ g419 t427 t428 from by repeat (first | (with_reducible first | exact HI419.out | apply IsS72.alloc | apply IsS72.drewN | apply IsS72.drew | apply IsS72.set_0 | apply IsS72.set_1) | exact HI419.out))) : gb429 ≠ g419)); clear HO422; clear HO426; clear HI419; clear HB; have HO422 := n0_; have HO426 := n1_; have HI419 := n2_; have HB := n3_; have BK429 := n4_; have GW429 := n5_; have GE429 := n6_; have NB419_429 := n7_; have NB429_419 := n8_; clear n0_ n1_ n2_ n3_ n4_ n5_ n6_ n7_ n8_; clear hb hbox hg; have hnb9 := NB429_419.out; have hnc9 := NB419_429.out; have hcz10_0 : w8.cell? ⟨gb429, 0, none⟩ = some (.string (⟨#[]⟩ : ByteArray)) := (blk_cell BK429.out 0).trans rfl; have hcz10_1 : w8.cell? ⟨gb429, 1, none⟩ = some (.slice none 0 0) := (blk_cell BK429.out 1).trans rfl; have hfz10_0 := blk_frozen BK429.out 0; have hfz10_1 := blk_frozen BK429.out 1; obtain ⟨Ao11, co11, eo11⟩ := Kd.R_slice HO426.out; subst eo11) | ((with_reducible refine gate_callee (f := 27) rfl ?_); refine goesL_ (some 23) rfl rfl Try.func27 (by kernel_rfl) rfl #[.pointer (some ⟨g419, 0, none⟩), .int .i64 1, .int .i64 2] rfl (by (try simp only [List.map_toArray, List.map_cons, List.map_nil]); first | done | rfl | (simp only [List.length_drop, List.length_take]; rfl)) ?_; (with_reducible refine (cippuskit_Urn_Odds.calls g419 t427 t428 1 2 t430 t431 t432 w _ ?side1 ?side2 A4.out).mono ?_); (case side1 => repeat (first | (with_reducible first | exact HI419.out | apply IsS72.alloc | apply IsS72.drewN | apply IsS72.drew | apply IsS72.set_0 | apply IsS72.set_1 | refine IsS72.far ?_ NB419_429.out _) | exact HI419.out)); (case side2 => repeat (first | (with_reducible first | exact HB.out | apply below_alloc | apply pw_below_drewN | apply below_drew1 | refine below_set ?_ (IsS72.ge HI419.out) | refine below_set ?_ GE429.out) | exact HB.out)); rintro e w12 ⟨rfl, hi, hb, hk⟩; refine ⟨_, rfl, ?_⟩; have n0_ := Aside0.mk (Kd.R_mono (Kd.R_keep (IsS72.apart (show IsS72 w _ g419 t427 t428 from by repeat (first | (with_reducible first | exact HI419.out | apply IsS72.alloc | apply IsS72.drewN | apply IsS72.drew | apply IsS72.set_0 | apply IsS72.set_1 | refine IsS72.far ?_ NB419_429.out _) | exact HI419.out)) (by (with_reducible repeat (first | apply Kd.R_alloc | apply Kd.R_drewN | apply Kd.R_drew)); exact (Kd.R_mono (Kd.R_far (p := ⟨gb429, 1, none⟩) (Kd.R_far (p := ⟨gb429, 0, none⟩) (Kd.R_types HO422.out BK429.out (by decide)) (fun _ hk => hk.2) (.string t423)) (fun _ hk => hk.2) (.slice Ao11 t424.length co11)) (fun _ h_ => h_.1))) (by decide)) hk (fun _ h => h.2)) (fun _ h => h.1)); have n1_ := Aside0.mk (Kd.R_mono (Kd.R_keep (IsS72.apart (show IsS72 w _ g419 t427 t428 from by repeat (first | (with_reducible first | exact HI419.out | apply IsS72.alloc | apply IsS72.drewN | apply IsS72.drew | apply IsS72.set_0 | apply IsS72.set_1 | refine IsS72.far ?_ NB419_429.out _) | exact HI419.out)) (by (with_reducible repeat (first | apply Kd.R_alloc | apply Kd.R_drewN | apply Kd.R_drew)); exact (Kd.R_mono (Kd.R_far (p := ⟨gb429, 1, none⟩) (Kd.R_far (p := ⟨gb429, 0, none⟩) (Kd.R_types HO426.out BK429.out (by decide)) (fun _ hk => hk.2) (.string t423)) (fun _ hk => hk.2) (.slice Ao11 t424.length co11)) (fun _ h_ => h_.1))) (by decide)) hk (fun _ h => h.2)) (fun _ h => h.1)); have n2_ := Aside0.mk (KeepBut.blk hk (g' := gb429) (o := .cells #[.string t423, .slice Ao11 t424.length co11] 27 (0, 0)) (by (with_reducible repeat (first | refine blk_drewN ?_ _ | refine blk_drew ?_ | refine blk_alloc ?_ _)); refine blk_put (cs := #[.string t423, .slice none 0 0]) ?_ 1 _ rfl; (with_reducible repeat (first | refine blk_drewN ?_ _ | refine blk_drew ?_ | refine blk_alloc ?_ _)); refine blk_put (cs := #[.string (⟨#[]⟩ : ByteArray), .slice none 0 0]) ?_ 0 _ rfl; (with_reducible repeat (first | refine blk_drewN ?_ _ | refine blk_drew ?_ | refine blk_alloc ?_ _)); exact BK429.out) NB429_419.out (by simp)); have n3_ := Aside0.mk (hb); have n4_ := Aside0.mk (hi); clear HO422; clear HO426; clear BK429; clear HB; clear HI419; have HO422 := n0_; have HO426 := n1_; have BK429 := n2_; have HB := n3_; have HI419 := n4_; clear n0_ n1_ n2_ n3_ n4_; (try clear hb); (try clear hb2); (try clear hk); (try clear hi)))
  (try simp only [Act.put, List.setIfInBounds_toArray, List.set_cons_zero, List.set_cons_succ])
  go_cut [4] (fun v4 wc => ∃ (kq : Nat) (x4_4 : List (S24)), Aside0 (cippuslaw07_StemmaAgreed.j0 kq x4_4 t423 t424 = some r) ∧ Aside0 (kq ≤ k) ∧ Aside0 (Kd.R k24 24 wc w.heap.size (fun _ => True) v4 x4_4) ∧ Aside0 (Kd.R (Kd.int .i64) 3 wc w.heap.size (fun _ => True) (.slice Ao11 t424.length co11) t424) ∧ Aside0 (wc.heap[gb429]? = some (.cells #[.string t423, (.slice Ao11 t424.length co11)] 27 (0, 0))) ∧ Aside0 (Below w.heap.size w wc))
  case first =>
    have H := HC5.out
    clear HC5
    by_cases c13 : t430 = true
    · subst c13
      have H1 : (if t420.length < 4398046511104 then (cippuslaw07_StemmaAgreed.j0 k (t420 ++ [(⟨t423, 0, true⟩ : S24)]) t423 t424) else (none)) = some r := by rw [if_pos rfl] at H; exact H
      clear H
      have H := H1
      clear H1
      by_cases c14 : t420.length < 4398046511104
      · rw [if_pos c14] at H
        have LMc14 := Aside0.mk c14
        clear c14
        obtain ⟨y433, hy433⟩ : ∃ y_ : List (S24), y_ = (t420 ++ [(⟨t423, 0, true⟩ : S24)]) := ⟨_, rfl⟩
        replace H : (cippuslaw07_StemmaAgreed.j0 k y433 t423 t424) = some r := by first | (rw [hy433]; with_reducible exact H) | (have H2_ := (Option.bind_some _ _).symm.trans H; rw [hy433]; with_reducible exact H2_) | (have H2_ := (Option.bind_some _ _).symm.trans H; with_reducible exact H2_) | with_reducible exact H | (rw [hy433]; exact H) | exact H
        have Ny433 := Aside0.mk hy433
        clear hy433
        have H' := Aside0.mk H
        clear H
        have hnb15 := NB429_419.out
        have hnc15 := NB419_429.out
        have hcz16_0 : w12.cell? ⟨gb429, 0, none⟩ = some (.string t423) := (blk_cell BK429.out 0).trans rfl
        have hcz16_1 : w12.cell? ⟨gb429, 1, none⟩ = some (.slice Ao11 t424.length co11) := (blk_cell BK429.out 1).trans rfl
        have hfz16_0 := blk_frozen BK429.out 0
        have hfz16_1 := blk_frozen BK429.out 1
        go_wp2_with (first | ((with_reducible refine gate_builtin (b := .append) (xs := #[.tmp 24, .tmp 28]) rfl ?_); (try (refine gate_guard (by rfl) ?_; dsimp only)); at_builtin; refine Kd.R_append k24 (w0 := w) w.heap.size rfl (.tmp 24) (.tmp 28) 22 24 (.agg #[(.string ⟨#[]⟩), (.int .i64 0), (.bool false)]) 32 rfl Try.underlying22 info24 rfl (by decide) (by omega) v421 t420 (⟨t423, 0, true⟩ : S24) [.string t423, .int .i64 0, .bool true] (fun _ => True) (fun _ => False) rfl rfl ?aP (fun _ hk => hk.elim) ?aF ?aO ?aB ?aS ?aL ?_; (case aP => exact k24_mkM _ _ _ (⟨t423, 0, true⟩ : S24)); (case aB => exact (by repeat (first | (with_reducible first | exact HB.out | apply below_alloc | apply pw_below_drewN | apply below_drew1 | refine below_set ?_ (IsS72.ge HI419.out) | refine below_set ?_ GE429.out) | exact HB.out))); (case aF => exact (fun _ _ => trivial)); (case aO => exact (by (with_reducible repeat (first | apply Kd.R_alloc | apply Kd.R_drewN | apply Kd.R_drew)); exact HO422.out)); (case aS => exact (below_size (by repeat (first | (with_reducible first | exact HB.out | apply below_alloc | apply pw_below_drewN | apply below_drew1 | refine below_set ?_ (IsS72.ge HI419.out) | refine below_set ?_ GE429.out) | exact HB.out)))); (case aL => have := LMc14.out; omega); intro v434 w17 ho hb hg hat; rw [← Ny433.out] at ho; have n0_ := Aside0.mk (IsS72.grown (by repeat (first | (with_reducible first | exact HI419.out | apply IsS72.alloc | apply IsS72.drewN | apply IsS72.drew | apply IsS72.set_0 | apply IsS72.set_1 | refine IsS72.far ?_ NB419_429.out _) | exact HI419.out)) hg (IsS72.own_ne HI419.out HO422.out (by decide))); have n1_ := Aside0.mk (Kd.R_over' (by (with_reducible repeat (first | apply Kd.R_alloc | apply Kd.R_drewN | apply Kd.R_drew)); exact HO426.out) (Kd.R_typed (by (with_reducible repeat (first | apply Kd.R_alloc | apply Kd.R_drewN | apply Kd.R_drew)); exact HO422.out)) (by decide) hg); have n2_ := Aside0.mk (blk_grown (g := gb429) (o := .cells #[.string t423, .slice Ao11 t424.length co11] 27 (0, 0)) (by (with_reducible repeat (first | refine blk_drewN ?_ _ | refine blk_drew ?_ | refine blk_alloc ?_ _)); exact BK429.out) hg (Kd.R_ne HO422.out BK429.out (by decide))); have n3_ := Aside0.mk (hb); have n4_ := Aside0.mk (ho); clear HI419; clear HO426; clear BK429; clear HB; clear HO422; have HI419 := n0_; have HO426 := n1_; have BK429 := n2_; have HB := n3_; have HO435 := n4_; clear n0_ n1_ n2_ n3_ n4_; clear ho hb hg hat))
        go_meet
        case rel => exact ⟨_, (y433), H', ⟨by first | omega | exact Nat.le_refl _⟩, ⟨by (with_reducible repeat (first | apply Kd.R_alloc | apply Kd.R_drewN | apply Kd.R_drew)); exact HO435.out⟩, ⟨by (with_reducible repeat (first | apply Kd.R_alloc | apply Kd.R_drewN | apply Kd.R_drew)); exact HO426.out⟩, ⟨by (with_reducible repeat (first | refine blk_drewN ?_ _ | refine blk_drew ?_ | refine blk_alloc ?_ _)); exact BK429.out⟩, ⟨by repeat (first | (with_reducible first | exact HB.out | apply below_alloc | apply pw_below_drewN | apply below_drew1 | refine below_set ?_ (IsS72.ge HI419.out) | refine below_set ?_ GE429.out) | exact HB.out)⟩⟩
      · rw [if_neg c14] at H
        exact absurd H (by simp)
    · replace c13 := Bool.eq_false_iff.mpr c13
      subst c13
      have H1 : (cippuslaw07_StemmaAgreed.j0 k t420 t423 t424) = some r := by rw [if_neg (show ¬ (false = true) by decide)] at H; exact H
      clear H
      have H := H1
      clear H1
      have H' := Aside0.mk H
      clear H
      go_wp2
      go_meet
      case rel => exact ⟨_, (t420), H', ⟨by first | omega | exact Nat.le_refl _⟩, ⟨by (with_reducible repeat (first | apply Kd.R_alloc | apply Kd.R_drewN | apply Kd.R_drew)); exact HO422.out⟩, ⟨by (with_reducible repeat (first | apply Kd.R_alloc | apply Kd.R_drewN | apply Kd.R_drew)); exact HO426.out⟩, ⟨by (with_reducible repeat (first | refine blk_drewN ?_ _ | refine blk_drew ?_ | refine blk_alloc ?_ _)); exact BK429.out⟩, ⟨by repeat (first | (with_reducible first | exact HB.out | apply below_alloc | apply pw_below_drewN | apply below_drew1 | refine below_set ?_ (IsS72.ge HI419.out) | refine below_set ?_ GE429.out) | exact HB.out)⟩⟩
  case rest =>
    clear HC5
    try clear c1
    try clear c2
    try clear p2
    try clear c6
    try clear c9
    try clear c13
    try clear c14
    try clear c15
    try clear hcz10_0
    try clear hcz10_1
    try clear hcz16_0
    try clear hcz16_1
    try clear hfz10_0
    try clear hfz10_1
    try clear hfz16_0
    try clear hfz16_1
    obtain ⟨kq, x4_4, HA, HJ4, HO_4, HO_430001, BK429, HB⟩ := hcut
    cases kq with
    | zero => exact absurd HA.out (by simp [cippuslaw07_StemmaAgreed.j0])
    | succ kj4 =>
      have H := HA.out
      clear HA
      simp only [cippuslaw07_StemmaAgreed.j0] at H
      replace H := Option.bind_eq_some_iff.mp H
      obtain ⟨⟨t436, t439⟩, A180, H⟩ := H
      replace H : ((stemma_Letters.f kj4 x4_4).bind fun bt440 => ((stemma_Print.f kj4 x4_4).bind fun bt444 => (if t439 = 0 then (if bt440.2 = 0 then (if bt444.2 = 0 then (if (t436.length : Int) = (x4_4.length : Int) then (if (bt440.1.length : Int) = (bt444.1.size : Int) then (cippuslaw07_StemmaAgreed.j1 kj4 x4_4 t436 bt440.1 bt444.1 ((bt444.1.size : Int) != (t423.size : Int))) else (cippuslaw07_StemmaAgreed.j1 kj4 x4_4 t436 bt440.1 bt444.1 true)) else (cippuslaw07_StemmaAgreed.j1 kj4 x4_4 t436 bt440.1 bt444.1 true)) else (cippuslaw07_StemmaAgreed.j1 kj4 x4_4 t436 bt440.1 bt444.1 true)) else (cippuslaw07_StemmaAgreed.j1 kj4 x4_4 t436 bt440.1 bt444.1 true)) else (cippuslaw07_StemmaAgreed.j1 kj4 x4_4 t436 bt440.1 bt444.1 true)))) = some r := H
      have A18 := Aside0.mk A180
      clear A180
      replace H := Option.bind_eq_some_iff.mp H
      obtain ⟨⟨t440, t441⟩, A190, H⟩ := H
      replace H : ((stemma_Print.f kj4 x4_4).bind fun bt444 => (if t439 = 0 then (if t441 = 0 then (if bt444.2 = 0 then (if (t436.length : Int) = (x4_4.length : Int) then (if (t440.length : Int) = (bt444.1.size : Int) then (cippuslaw07_StemmaAgreed.j1 kj4 x4_4 t436 t440 bt444.1 ((bt444.1.size : Int) != (t423.size : Int))) else (cippuslaw07_StemmaAgreed.j1 kj4 x4_4 t436 t440 bt444.1 true)) else (cippuslaw07_StemmaAgreed.j1 kj4 x4_4 t436 t440 bt444.1 true)) else (cippuslaw07_StemmaAgreed.j1 kj4 x4_4 t436 t440 bt444.1 true)) else (cippuslaw07_StemmaAgreed.j1 kj4 x4_4 t436 t440 bt444.1 true)) else (cippuslaw07_StemmaAgreed.j1 kj4 x4_4 t436 t440 bt444.1 true))) = some r := H
      have A19 := Aside0.mk A190
      clear A190
      replace H := Option.bind_eq_some_iff.mp H
      obtain ⟨⟨t444, t445⟩, A200, H⟩ := H
      replace H : (if t439 = 0 then (if t441 = 0 then (if t445 = 0 then (if (t436.length : Int) = (x4_4.length : Int) then (if (t440.length : Int) = (t444.size : Int) then (cippuslaw07_StemmaAgreed.j1 kj4 x4_4 t436 t440 t444 ((t444.size : Int) != (t423.size : Int))) else (cippuslaw07_StemmaAgreed.j1 kj4 x4_4 t436 t440 t444 true)) else (cippuslaw07_StemmaAgreed.j1 kj4 x4_4 t436 t440 t444 true)) else (cippuslaw07_StemmaAgreed.j1 kj4 x4_4 t436 t440 t444 true)) else (cippuslaw07_StemmaAgreed.j1 kj4 x4_4 t436 t440 t444 true)) else (cippuslaw07_StemmaAgreed.j1 kj4 x4_4 t436 t440 t444 true)) = some r := H
      have A20 := Aside0.mk A200
      clear A200
      have HC21 := Aside0.mk H
      clear H
      obtain ⟨Ao22, co22, eo22⟩ := Kd.R_slice HO_4.out
      subst eo22
      go_upto_region 8 with (first | ((with_reducible refine gate_callee (f := 30) rfl ?_); refine goesL_ (some 32) rfl rfl Try.func30 (by kernel_rfl) rfl #[.slice Ao22 x4_4.length co22] rfl (by (try simp only [List.map_toArray, List.map_cons, List.map_nil]); first | done | rfl | (simp only [List.length_drop, List.length_take]; rfl)) ?_; (with_reducible refine (stemma_Sources.calls kj4 _ _ x4_4 t436 t439 _ ?side1 ?side2 A18.out).mono ?_); (case side1 => repeat (first | exact (Kd.R_reads' HO_4.out).2.2 | (with_reducible refine Kd.C_alloc ?_ _) | (with_reducible refine Kd.C_drewN ?_ _) | (with_reducible refine Kd.C_drew ?_))); (case side2 => exact (Kd.R_reads' HO_4.out).2.1); rintro e w23 ⟨v437, rfl, ho0, hb⟩; refine ⟨_, rfl, ?_⟩; have n0_ := Aside0.mk (Kd.R_below (by (with_reducible repeat (first | apply Kd.R_alloc | apply Kd.R_drewN | apply Kd.R_drew)); exact HO_4.out) hb); have n1_ := Aside0.mk (Kd.R_below (by (with_reducible repeat (first | apply Kd.R_alloc | apply Kd.R_drewN | apply Kd.R_drew)); exact HO_430001.out) hb); have n2_ := Aside0.mk (Kd.N_lower (Kd.N_mono (ok' := fun k_ => some k_ ≠ (.slice Ao22 x4_4.length co22 : Value).ownBlock ∧ some k_ ≠ (.slice Ao11 t424.length co11 : Value).ownBlock ∧ k_ ≠ gb429) ho0 (fun k_ hk_ => ⟨(Kd.fresh' (Kd.R_lt (by (with_reducible repeat (first | apply Kd.R_alloc | apply Kd.R_drewN | apply Kd.R_drew)); exact HO_4.out)) k_ hk_), (Kd.fresh' (Kd.R_lt (by (with_reducible repeat (first | apply Kd.R_alloc | apply Kd.R_drewN | apply Kd.R_drew)); exact HO_430001.out)) k_ hk_), (Kd.freshB (g := gb429) (o := .cells #[.string t423, .slice Ao11 t424.length co11] 27 (0, 0)) (by (with_reducible repeat (first | refine blk_drewN ?_ _ | refine blk_drew ?_ | refine blk_alloc ?_ _)); exact BK429.out) k_ hk_)⟩)) (below_size (by repeat (first | (with_reducible first | exact HB.out | apply below_alloc | apply pw_below_drewN | apply below_drew1 | refine below_set ?_ GE429.out) | exact HB.out)))); have n3_ := Aside0.mk (blk_below (g := gb429) (o := .cells #[.string t423, .slice Ao11 t424.length co11] 27 (0, 0)) (by (with_reducible repeat (first | refine blk_drewN ?_ _ | refine blk_drew ?_ | refine blk_alloc ?_ _)); exact BK429.out) hb); have n4_ := Aside0.mk (below_step (by repeat (first | (with_reducible first | exact HB.out | apply below_alloc | apply pw_below_drewN | apply below_drew1 | refine below_set ?_ GE429.out) | exact HB.out)) hb); clear HO_4; clear HO_430001; clear BK429; clear HB; have HO_4 := n0_; have HO_430001 := n1_; have HO438 := n2_; have BK429 := n3_; have HB := n4_; clear n0_ n1_ n2_ n3_ n4_; (try clear hb); (try clear hb2); (try clear hk); (try clear hi); (try clear ho0)) | ((with_reducible refine gate_callee (f := 18) rfl ?_); refine goesL_ (some 37) rfl rfl Try.func18 (by kernel_rfl) rfl #[.slice Ao22 x4_4.length co22] rfl (by (try simp only [List.map_toArray, List.map_cons, List.map_nil]); first | done | rfl | (simp only [List.length_drop, List.length_take]; rfl)) ?_; (with_reducible refine (stemma_Letters.calls kj4 _ _ x4_4 t440 t441 _ ?side1 ?side2 A19.out).mono ?_); (case side1 => repeat (first | exact (Kd.R_reads' HO_4.out).2.2 | (with_reducible refine Kd.C_alloc ?_ _) | (with_reducible refine Kd.C_drewN ?_ _) | (with_reducible refine Kd.C_drew ?_))); (case side2 => exact (Kd.R_reads' HO_4.out).2.1); rintro e w24 ⟨v442, rfl, ho0, hb⟩; refine ⟨_, rfl, ?_⟩; have n0_ := Aside0.mk (Kd.R_below (by (with_reducible repeat (first | apply Kd.R_alloc | apply Kd.R_drewN | apply Kd.R_drew)); exact HO_4.out) hb); have n1_ := Aside0.mk (Kd.R_below (by (with_reducible repeat (first | apply Kd.R_alloc | apply Kd.R_drewN | apply Kd.R_drew)); exact HO_430001.out) hb); have n2_ := Aside0.mk (Kd.N_elder' (by (with_reducible repeat (first | apply Kd.N_alloc | apply Kd.N_drewN | apply Kd.N_drew)); exact HO438.out) (Kd.R_base ho0) hb); have n3_ := Aside0.mk (Kd.R_lower ho0 (below_size (by repeat (first | (with_reducible first | exact HB.out | apply below_alloc | apply pw_below_drewN | apply below_drew1 | refine below_set ?_ GE429.out) | exact HB.out)))); have n4_ := Aside0.mk (blk_below (g := gb429) (o := .cells #[.string t423, .slice Ao11 t424.length co11] 27 (0, 0)) (by (with_reducible repeat (first | refine blk_drewN ?_ _ | refine blk_drew ?_ | refine blk_alloc ?_ _)); exact BK429.out) hb); have n5_ := Aside0.mk (below_step (by repeat (first | (with_reducible first | exact HB.out | apply below_alloc | apply pw_below_drewN | apply below_drew1 | refine below_set ?_ GE429.out) | exact HB.out)) hb); clear HO_4; clear HO_430001; clear HO438; clear BK429; clear HB; have HO_4 := n0_; have HO_430001 := n1_; have HO438 := n2_; have HO443 := n3_; have BK429 := n4_; have HB := n5_; clear n0_ n1_ n2_ n3_ n4_ n5_; (try clear hb); (try clear hb2); (try clear hk); (try clear hi); (try clear ho0)) | ((with_reducible refine gate_callee (f := 20) rfl ?_); refine goesL_ (some 42) rfl rfl Try.func20 (by kernel_rfl) rfl #[.slice Ao22 x4_4.length co22] rfl (by (try simp only [List.map_toArray, List.map_cons, List.map_nil]); first | done | rfl | (simp only [List.length_drop, List.length_take]; rfl)) ?_; (with_reducible refine (stemma_Print.calls kj4 _ _ x4_4 t444 t445 _ ?side1 ?side2 A20.out).mono ?_); (case side1 => repeat (first | exact (Kd.R_reads' HO_4.out).2.2 | (with_reducible refine Kd.C_alloc ?_ _) | (with_reducible refine Kd.C_drewN ?_ _) | (with_reducible refine Kd.C_drew ?_))); (case side2 => exact (Kd.R_reads' HO_4.out).2.1); rintro e w25 ⟨rfl, hb⟩; refine ⟨_, rfl, ?_⟩; have n0_ := Aside0.mk (Kd.R_below (by (with_reducible repeat (first | apply Kd.R_alloc | apply Kd.R_drewN | apply Kd.R_drew)); exact HO_4.out) hb); have n1_ := Aside0.mk (Kd.R_below (by (with_reducible repeat (first | apply Kd.R_alloc | apply Kd.R_drewN | apply Kd.R_drew)); exact HO_430001.out) hb); have n2_ := Aside0.mk (Kd.N_below (by (with_reducible repeat (first | apply Kd.N_alloc | apply Kd.N_drewN | apply Kd.N_drew)); exact HO438.out) hb); have n3_ := Aside0.mk (Kd.R_below (by (with_reducible repeat (first | apply Kd.R_alloc | apply Kd.R_drewN | apply Kd.R_drew)); exact HO443.out) hb); have n4_ := Aside0.mk (blk_below (g := gb429) (o := .cells #[.string t423, .slice Ao11 t424.length co11] 27 (0, 0)) (by (with_reducible repeat (first | refine blk_drewN ?_ _ | refine blk_drew ?_ | refine blk_alloc ?_ _)); exact BK429.out) hb); have n5_ := Aside0.mk (below_step (by repeat (first | (with_reducible first | exact HB.out | apply below_alloc | apply pw_below_drewN | apply below_drew1 | refine below_set ?_ GE429.out) | exact HB.out)) hb); clear HO_4; clear HO_430001; clear HO438; clear HO443; clear BK429; clear HB; have HO_4 := n0_; have HO_430001 := n1_; have HO438 := n2_; have HO443 := n3_; have BK429 := n4_; have HB := n5_; clear n0_ n1_ n2_ n3_ n4_ n5_; (try clear hb); (try clear hb2); (try clear hk); (try clear hi)))
      (try simp only [Act.put, List.setIfInBounds_toArray, List.set_cons_zero, List.set_cons_succ])
      go_cut [76] (fun v76 wc => ∃ (kq : Nat) (x76_20 : Bool), v76 = .bool x76_20 ∧ Aside0 (cippuslaw07_StemmaAgreed.j1 kq x4_4 t436 t440 t444 x76_20 = some r) ∧ Aside0 (kq ≤ kj4) ∧ Aside0 (Kd.R k24 24 wc w.heap.size (fun _ => True) (.slice Ao22 x4_4.length co22) x4_4) ∧ Aside0 (Kd.N (Kd.slice 3 (Kd.int .i64)) 25 wc w.heap.size (fun k_ => some k_ ≠ ((.slice Ao22 x4_4.length co22) : Value).ownBlock ∧ some k_ ≠ (v442 : Value).ownBlock ∧ some k_ ≠ ((.slice Ao11 t424.length co11) : Value).ownBlock ∧ k_ ≠ gb429) v437 t436) ∧ Aside0 (Kd.R Kd.string 9 wc w.heap.size (fun _ => True) v442 t440) ∧ Aside0 (Kd.R (Kd.int .i64) 3 wc w.heap.size (fun _ => True) (.slice Ao11 t424.length co11) t424) ∧ Aside0 (wc.heap[gb429]? = some (.cells #[.string t423, (.slice Ao11 t424.length co11)] 27 (0, 0))) ∧ Aside0 (Below w.heap.size w wc))
      case first =>
        have H := HC21.out
        clear HC21
        by_cases c26 : t439 = 0
        · rw [if_pos c26] at H
          have c26b0 : (t439 == 0) = true := beq_iff_eq.mpr c26
          have c26b1 : (t439 != 0) = false := bne_eq_false_iff_eq.mpr c26
          clear c26
          (first | rw [c26b0] | (simp only [i64_w, i32_w]; rw [c26b0]) | skip)
          by_cases c27 : t441 = 0
          · rw [if_pos c27] at H
            have c27b0 : (t441 == 0) = true := beq_iff_eq.mpr c27
            have c27b1 : (t441 != 0) = false := bne_eq_false_iff_eq.mpr c27
            clear c27
            by_cases c28 : t445 = 0
            · rw [if_pos c28] at H
              have c28b0 : (t445 == 0) = true := beq_iff_eq.mpr c28
              have c28b1 : (t445 != 0) = false := bne_eq_false_iff_eq.mpr c28
              clear c28
              by_cases c29 : (t436.length : Int) = (x4_4.length : Int)
              · rw [if_pos c29] at H
                have c29b0 : ((t436.length : Int) == (x4_4.length : Int)) = true := beq_iff_eq.mpr c29
                have c29b1 : ((t436.length : Int) != (x4_4.length : Int)) = false := bne_eq_false_iff_eq.mpr c29
                have c29b2 : (t436.length == x4_4.length) = true := by first | simpa using c29 | (simp at c29 ⊢; omega)
                clear c29
                by_cases c30 : (t440.length : Int) = (t444.size : Int)
                · rw [if_pos c30] at H
                  have c30b0 : ((t440.length : Int) == (t444.size : Int)) = true := beq_iff_eq.mpr c30
                  have c30b1 : ((t440.length : Int) != (t444.size : Int)) = false := bne_eq_false_iff_eq.mpr c30
                  have c30b2 : (t440.length == t444.size) = true := by first | simpa using c30 | (simp at c30 ⊢; omega)
                  clear c30
                  have H' := Aside0.mk H
                  clear H
                  obtain ⟨Ao31, co31, eo31⟩ := Kd.N_slice HO438.out
                  subst eo31
                  obtain ⟨Ao32, co32, eo32⟩ := Kd.R_slice HO443.out
                  subst eo32
                  have hcz33_0 : w25.cell? ⟨gb429, 0, none⟩ = some (.string t423) := (blk_cell BK429.out 0).trans rfl
                  have hcz33_1 : w25.cell? ⟨gb429, 1, none⟩ = some (.slice Ao11 t424.length co11) := (blk_cell BK429.out 1).trans rfl
                  have hfz33_0 := blk_frozen BK429.out 0
                  have hfz33_1 := blk_frozen BK429.out 1
                  go_wp2
                  go_meet
                  case rel => exact ⟨_, (((t444.size : Int) != (t423.size : Int))), (by first | rfl | (simp; done) | (simp [*]; done)), H', ⟨by have := HJ4.out; first | omega | exact Nat.le_refl _⟩, ⟨by (with_reducible repeat (first | apply Kd.R_alloc | apply Kd.R_drewN | apply Kd.R_drew)); exact HO_4.out⟩, ⟨by (with_reducible repeat (first | apply Kd.N_alloc | apply Kd.N_drewN | apply Kd.N_drew)); exact Kd.N_mono HO438.out (fun _ hk => ⟨hk.1.1, ⟨hk.2, ⟨hk.1.2.1, hk.1.2.2⟩⟩⟩)⟩, ⟨by (with_reducible repeat (first | apply Kd.R_alloc | apply Kd.R_drewN | apply Kd.R_drew)); exact HO443.out⟩, ⟨by (with_reducible repeat (first | apply Kd.R_alloc | apply Kd.R_drewN | apply Kd.R_drew)); exact HO_430001.out⟩, ⟨by (with_reducible repeat (first | refine blk_drewN ?_ _ | refine blk_drew ?_ | refine blk_alloc ?_ _)); exact BK429.out⟩, ⟨by repeat (first | (with_reducible first | exact HB.out | apply below_alloc | apply pw_below_drewN | apply below_drew1 | refine below_set ?_ GE429.out) | exact HB.out)⟩⟩
                · rw [if_neg c30] at H
                  have c30b0 : ((t440.length : Int) == (t444.size : Int)) = false := beq_eq_false_iff_ne.mpr c30
                  have c30b1 : ((t440.length : Int) != (t444.size : Int)) = true := bne_iff_ne.mpr c30
                  have c30b2 : (t440.length == t444.size) = false := by first | simpa using c30 | (simp at c30 ⊢; omega)
                  have H' := Aside0.mk H
                  clear H
                  obtain ⟨Ao34, co34, eo34⟩ := Kd.N_slice HO438.out
                  subst eo34
                  obtain ⟨Ao35, co35, eo35⟩ := Kd.R_slice HO443.out
                  subst eo35
                  go_wp2
                  go_meet
                  case rel => exact ⟨_, (true), (by first | rfl | (simp; done) | (simp [*]; done)), H', ⟨by have := HJ4.out; first | omega | exact Nat.le_refl _⟩, ⟨by (with_reducible repeat (first | apply Kd.R_alloc | apply Kd.R_drewN | apply Kd.R_drew)); exact HO_4.out⟩, ⟨by (with_reducible repeat (first | apply Kd.N_alloc | apply Kd.N_drewN | apply Kd.N_drew)); exact Kd.N_mono HO438.out (fun _ hk => ⟨hk.1.1, ⟨hk.2, ⟨hk.1.2.1, hk.1.2.2⟩⟩⟩)⟩, ⟨by (with_reducible repeat (first | apply Kd.R_alloc | apply Kd.R_drewN | apply Kd.R_drew)); exact HO443.out⟩, ⟨by (with_reducible repeat (first | apply Kd.R_alloc | apply Kd.R_drewN | apply Kd.R_drew)); exact HO_430001.out⟩, ⟨by (with_reducible repeat (first | refine blk_drewN ?_ _ | refine blk_drew ?_ | refine blk_alloc ?_ _)); exact BK429.out⟩, ⟨by repeat (first | (with_reducible first | exact HB.out | apply below_alloc | apply pw_below_drewN | apply below_drew1 | refine below_set ?_ GE429.out) | exact HB.out)⟩⟩
              · rw [if_neg c29] at H
                have c29b0 : ((t436.length : Int) == (x4_4.length : Int)) = false := beq_eq_false_iff_ne.mpr c29
                have c29b1 : ((t436.length : Int) != (x4_4.length : Int)) = true := bne_iff_ne.mpr c29
                have c29b2 : (t436.length == x4_4.length) = false := by first | simpa using c29 | (simp at c29 ⊢; omega)
                have H' := Aside0.mk H
                clear H
                obtain ⟨Ao36, co36, eo36⟩ := Kd.N_slice HO438.out
                subst eo36
                go_wp2
                go_meet
                case rel => exact ⟨_, (true), (by first | rfl | (simp; done) | (simp [*]; done)), H', ⟨by have := HJ4.out; first | omega | exact Nat.le_refl _⟩, ⟨by (with_reducible repeat (first | apply Kd.R_alloc | apply Kd.R_drewN | apply Kd.R_drew)); exact HO_4.out⟩, ⟨by (with_reducible repeat (first | apply Kd.N_alloc | apply Kd.N_drewN | apply Kd.N_drew)); exact Kd.N_mono HO438.out (fun _ hk => ⟨hk.1.1, ⟨hk.2, ⟨hk.1.2.1, hk.1.2.2⟩⟩⟩)⟩, ⟨by (with_reducible repeat (first | apply Kd.R_alloc | apply Kd.R_drewN | apply Kd.R_drew)); exact HO443.out⟩, ⟨by (with_reducible repeat (first | apply Kd.R_alloc | apply Kd.R_drewN | apply Kd.R_drew)); exact HO_430001.out⟩, ⟨by (with_reducible repeat (first | refine blk_drewN ?_ _ | refine blk_drew ?_ | refine blk_alloc ?_ _)); exact BK429.out⟩, ⟨by repeat (first | (with_reducible first | exact HB.out | apply below_alloc | apply pw_below_drewN | apply below_drew1 | refine below_set ?_ GE429.out) | exact HB.out)⟩⟩
            · rw [if_neg c28] at H
              have c28b0 : (t445 == 0) = false := beq_eq_false_iff_ne.mpr c28
              have c28b1 : (t445 != 0) = true := bne_iff_ne.mpr c28
              have H' := Aside0.mk H
              clear H
              go_wp2
              go_meet
              case rel => exact ⟨_, (true), (by first | rfl | (simp; done) | (simp [*]; done)), H', ⟨by have := HJ4.out; first | omega | exact Nat.le_refl _⟩, ⟨by (with_reducible repeat (first | apply Kd.R_alloc | apply Kd.R_drewN | apply Kd.R_drew)); exact HO_4.out⟩, ⟨by (with_reducible repeat (first | apply Kd.N_alloc | apply Kd.N_drewN | apply Kd.N_drew)); exact Kd.N_mono HO438.out (fun _ hk => ⟨hk.1.1, ⟨hk.2, ⟨hk.1.2.1, hk.1.2.2⟩⟩⟩)⟩, ⟨by (with_reducible repeat (first | apply Kd.R_alloc | apply Kd.R_drewN | apply Kd.R_drew)); exact HO443.out⟩, ⟨by (with_reducible repeat (first | apply Kd.R_alloc | apply Kd.R_drewN | apply Kd.R_drew)); exact HO_430001.out⟩, ⟨by (with_reducible repeat (first | refine blk_drewN ?_ _ | refine blk_drew ?_ | refine blk_alloc ?_ _)); exact BK429.out⟩, ⟨by repeat (first | (with_reducible first | exact HB.out | apply below_alloc | apply pw_below_drewN | apply below_drew1 | refine below_set ?_ GE429.out) | exact HB.out)⟩⟩
          · rw [if_neg c27] at H
            have c27b0 : (t441 == 0) = false := beq_eq_false_iff_ne.mpr c27
            have c27b1 : (t441 != 0) = true := bne_iff_ne.mpr c27
            have H' := Aside0.mk H
            clear H
            go_wp2
            go_meet
            case rel => exact ⟨_, (true), (by first | rfl | (simp; done) | (simp [*]; done)), H', ⟨by have := HJ4.out; first | omega | exact Nat.le_refl _⟩, ⟨by (with_reducible repeat (first | apply Kd.R_alloc | apply Kd.R_drewN | apply Kd.R_drew)); exact HO_4.out⟩, ⟨by (with_reducible repeat (first | apply Kd.N_alloc | apply Kd.N_drewN | apply Kd.N_drew)); exact Kd.N_mono HO438.out (fun _ hk => ⟨hk.1.1, ⟨hk.2, ⟨hk.1.2.1, hk.1.2.2⟩⟩⟩)⟩, ⟨by (with_reducible repeat (first | apply Kd.R_alloc | apply Kd.R_drewN | apply Kd.R_drew)); exact HO443.out⟩, ⟨by (with_reducible repeat (first | apply Kd.R_alloc | apply Kd.R_drewN | apply Kd.R_drew)); exact HO_430001.out⟩, ⟨by (with_reducible repeat (first | refine blk_drewN ?_ _ | refine blk_drew ?_ | refine blk_alloc ?_ _)); exact BK429.out⟩, ⟨by repeat (first | (with_reducible first | exact HB.out | apply below_alloc | apply pw_below_drewN | apply below_drew1 | refine below_set ?_ GE429.out) | exact HB.out)⟩⟩
        · rw [if_neg c26] at H
          have c26b0 : (t439 == 0) = false := beq_eq_false_iff_ne.mpr c26
          have c26b1 : (t439 != 0) = true := bne_iff_ne.mpr c26
          (first | rw [c26b0] | (simp only [i64_w, i32_w]; rw [c26b0]) | skip)
          have H' := Aside0.mk H
          clear H
          go_wp2
          go_meet
          case rel => exact ⟨_, (true), (by first | rfl | (simp; done) | (simp [*]; done)), H', ⟨by have := HJ4.out; first | omega | exact Nat.le_refl _⟩, ⟨by (with_reducible repeat (first | apply Kd.R_alloc | apply Kd.R_drewN | apply Kd.R_drew)); exact HO_4.out⟩, ⟨by (with_reducible repeat (first | apply Kd.N_alloc | apply Kd.N_drewN | apply Kd.N_drew)); exact Kd.N_mono HO438.out (fun _ hk => ⟨hk.1.1, ⟨hk.2, ⟨hk.1.2.1, hk.1.2.2⟩⟩⟩)⟩, ⟨by (with_reducible repeat (first | apply Kd.R_alloc | apply Kd.R_drewN | apply Kd.R_drew)); exact HO443.out⟩, ⟨by (with_reducible repeat (first | apply Kd.R_alloc | apply Kd.R_drewN | apply Kd.R_drew)); exact HO_430001.out⟩, ⟨by (with_reducible repeat (first | refine blk_drewN ?_ _ | refine blk_drew ?_ | refine blk_alloc ?_ _)); exact BK429.out⟩, ⟨by repeat (first | (with_reducible first | exact HB.out | apply below_alloc | apply pw_below_drewN | apply below_drew1 | refine below_set ?_ GE429.out) | exact HB.out)⟩⟩
      case rest =>
        clear HC21
        try clear c1
        try clear c2
        try clear p2
        try clear c3
        try clear c6
        try clear c9
        try clear c13
        try clear c14
        try clear c15
        try clear c18
        try clear c20
        try clear c26
        try clear c26b0
        try clear c26b1
        try clear c27
        try clear c27b0
        try clear c27b1
        try clear c28
        try clear c28b0
        try clear c28b1
        try clear c29
        try clear c29b0
        try clear c29b1
        try clear c29b2
        try clear c30
        try clear c30b0
        try clear c30b1
        try clear c30b2
        try clear hcz10_0
        try clear hcz10_1
        try clear hcz16_0
        try clear hcz16_1
        try clear hcz33_0
        try clear hcz33_1
        try clear hfz10_0
        try clear hfz10_1
        try clear hfz16_0
        try clear hfz16_1
        try clear hfz33_0
        try clear hfz33_1
        try clear p2
        obtain ⟨kq, x76_20, rfl, HA, HJ20, HO_4, HO_6, HO_8, HO_430001, BK429, HB⟩ := hcut
        cases kq with
        | zero => exact absurd HA.out (by simp [cippuslaw07_StemmaAgreed.j1])
        | succ kj20 =>
          have H := HA.out
          clear HA
          simp only [cippuslaw07_StemmaAgreed.j1] at H
          by_cases c37 : x76_20 = true
          · subst c37
            have H1 : (some false) = some r := by rw [if_pos rfl] at H; exact H
            clear H
            have H := H1
            clear H1
            obtain rfl := Option.some.inj H
            go_wp2
            go_ret
            exact ⟨by first | rfl | (simp [errW_none, errW_some] <;> rfl) | (simp [*, errW_none, errW_some] <;> rfl), by repeat (first | (with_reducible first | exact HB.out | apply below_alloc | apply pw_below_drewN | apply below_drew1 | refine below_set ?_ GE429.out) | exact HB.out)⟩
          · replace c37 := Bool.eq_false_iff.mpr c37
            subst c37
            have H1 : (cippuslaw07_StemmaAgreed.l0 kj20 x4_4 t436 t440 t444 0) = some r := by rw [if_neg (show ¬ (false = true) by decide)] at H; exact H
            clear H
            have H := H1
            clear H1
            have H' := Aside0.mk H
            clear H
            go_wp2
            go_loopg [12] kj20 (fun kq v12 w' => ∃ (x12_3 : Int), v12 = .int .i64 x12_3 ∧ Aside0 (cippuslaw07_StemmaAgreed.l0 kq x4_4 t436 t440 t444 x12_3 = some r) ∧ Aside0 (kq ≤ kj20) ∧ Aside0 (Kd.R k24 24 w' w.heap.size (fun _ => True) (.slice Ao22 x4_4.length co22) x4_4) ∧ Aside0 (Kd.N (Kd.slice 3 (Kd.int .i64)) 25 w' w.heap.size (fun k_ => some k_ ≠ ((.slice Ao22 x4_4.length co22) : Value).ownBlock ∧ some k_ ≠ (v442 : Value).ownBlock ∧ some k_ ≠ ((.slice Ao11 t424.length co11) : Value).ownBlock ∧ k_ ≠ gb429) v437 t436) ∧ Aside0 (Kd.R Kd.string 9 w' w.heap.size (fun _ => True) v442 t440) ∧ Aside0 (Kd.R (Kd.int .i64) 3 w' w.heap.size (fun _ => True) (.slice Ao11 t424.length co11) t424) ∧ Aside0 (w'.heap[gb429]? = some (.cells #[.string t423, (.slice Ao11 t424.length co11)] 27 (0, 0))) ∧ Aside0 (Below w.heap.size w w'))
            case atStart => exact ⟨(0), (by first | rfl | (simp; done) | (simp [*]; done)), H', ⟨Nat.le_refl _⟩, ⟨by (with_reducible repeat (first | apply Kd.R_alloc | apply Kd.R_drewN | apply Kd.R_drew)); exact HO_4.out⟩, ⟨by (with_reducible repeat (first | apply Kd.N_alloc | apply Kd.N_drewN | apply Kd.N_drew)); exact HO_6.out⟩, ⟨by (with_reducible repeat (first | apply Kd.R_alloc | apply Kd.R_drewN | apply Kd.R_drew)); exact HO_8.out⟩, ⟨by (with_reducible repeat (first | apply Kd.R_alloc | apply Kd.R_drewN | apply Kd.R_drew)); exact HO_430001.out⟩, ⟨by (with_reducible repeat (first | refine blk_drewN ?_ _ | refine blk_drew ?_ | refine blk_alloc ?_ _)); exact BK429.out⟩, ⟨by repeat (first | (with_reducible first | exact HB.out | apply below_alloc | apply pw_below_drewN | apply below_drew1 | refine below_set ?_ GE429.out) | exact HB.out)⟩⟩
            case round =>
              clear H'
              try clear c1
              try clear c2
              try clear p2
              try clear c3
              try clear c6
              try clear c9
              try clear c13
              try clear c14
              try clear c15
              try clear c18
              try clear c20
              try clear c26
              try clear c26b0
              try clear c26b1
              try clear c27
              try clear c27b0
              try clear c27b1
              try clear c28
              try clear c28b0
              try clear c28b1
              try clear c29
              try clear c29b0
              try clear c29b1
              try clear c29b2
              try clear c30
              try clear c30b0
              try clear c30b1
              try clear c30b2
              try clear c37
              try clear hcz10_0
              try clear hcz10_1
              try clear hcz16_0
              try clear hcz16_1
              try clear hcz33_0
              try clear hcz33_1
              try clear hfz10_0
              try clear hfz10_1
              try clear hfz16_0
              try clear hfz16_1
              try clear hfz33_0
              try clear hfz33_1
              try clear p2
              obtain ⟨x12_3, rfl, HA, HK3, HO_4, HO_6, HO_8, HO_430001, BK429, HB⟩ := hrel
              cases gk with
              | zero => exact absurd HA.out (by simp [cippuslaw07_StemmaAgreed.l0])
              | succ k3 =>
                have H := HA.out
                clear HA
                simp only [cippuslaw07_StemmaAgreed.l0] at H
                by_cases c38 : x12_3 < (t444.size : Int)
                · rw [if_pos c38] at H
                  have c38b0 : decide (x12_3 < (t444.size : Int)) = true := decide_eq_true c38
                  clear c38
                  by_cases c39 : 0 ≤ x12_3
                  · rw [if_pos c39] at H
                    have c39b0 : decide (0 ≤ x12_3) = true := decide_eq_true c39
                    clear c39
                    by_cases c40 : x12_3 < (t440.length : Int)
                    · rw [if_pos c40] at H
                      have c40b0 : decide (x12_3 < (t440.length : Int)) = true := decide_eq_true c40
                      clear c40
                      by_cases c41 : ((rdOf ByteArray.empty t440 x12_3).size : Int) = 1
                      · rw [if_pos c41] at H
                        have c41b0 : (((rdOf ByteArray.empty t440 x12_3).size : Int) == 1) = true := beq_iff_eq.mpr c41
                        have c41b1 : (((rdOf ByteArray.empty t440 x12_3).size : Int) != 1) = false := bne_eq_false_iff_eq.mpr c41
                        clear c41
                        by_cases c42 : 0 < ((rdOf ByteArray.empty t440 x12_3).size : Int)
                        · rw [if_pos c42] at H
                          have c42b0 : decide (0 < ((rdOf ByteArray.empty t440 x12_3).size : Int)) = true := decide_eq_true c42
                          have c42b1 : decide (0 < (rdOf ByteArray.empty t440 x12_3).size) = true := decide_eq_true (by omega)
                          clear c42
                          by_cases c45 : (bt t444 x12_3) = (bt (rdOf ByteArray.empty t440 x12_3) 0)
                          · rw [if_pos c45] at H
                            have c45b0 : ((bt t444 x12_3) == (bt (rdOf ByteArray.empty t440 x12_3) 0)) = true := beq_iff_eq.mpr c45
                            have c45b1 : ((bt t444 x12_3) != (bt (rdOf ByteArray.empty t440 x12_3) 0)) = false := bne_eq_false_iff_eq.mpr c45
                            clear c45
                            have H' := Aside0.mk H
                            clear H
                            obtain ⟨Ao46, co46, eo46⟩ := Kd.R_slice HO_8.out
                            subst eo46
                            have p446 : 0 ≤ (x12_3 : Int) := of_decide_eq_true (by first | (with_reducible assumption) | assumption)
                            have q446 : x12_3 < (t440.length : Int) := of_decide_eq_true (by first | (with_reducible assumption) | assumption)
                            obtain ⟨ad446, e446, hx446_0⟩ := Kd.at_string (Kd.R_reads' HO_8.out).2.2 x12_3 p446 q446
                            cases e446
                            replace p446 := eq_true p446
                            replace q446 := eq_true q446
                            have p447 : 0 ≤ (x12_3 : Int) := of_decide_eq_true (by first | (with_reducible assumption) | assumption)
                            have q447 : x12_3 < (t440.length : Int) := of_decide_eq_true (by first | (with_reducible assumption) | assumption)
                            obtain ⟨ad447, e447, hx447_0⟩ := Kd.at_string (Kd.R_reads' HO_8.out).2.2 x12_3 p447 q447
                            obtain rfl : ad446 = ad447 := (by injection e447)
                            replace p447 := eq_true p447
                            replace q447 := eq_true q447
                            have p43 : 0 ≤ (0 : Int) := (by omega)
                            have q43 : 0 < (rdOf ByteArray.empty t440 x12_3).size := (by have : (0 : Int) < ((rdOf ByteArray.empty t440 x12_3).size : Int) := of_decide_eq_true (by first | (with_reducible assumption) | assumption); omega)
                            have hx43 : ∀ h : 0 < (rdOf ByteArray.empty t440 x12_3).size, (((rdOf ByteArray.empty t440 x12_3)[0]'h).toNat : Int) = bt (rdOf ByteArray.empty t440 x12_3) 0 := bt_at (rdOf ByteArray.empty t440 x12_3) 0
                            clear p43
                            have qi43 : (0 < ((rdOf ByteArray.empty t440 x12_3).size : Int)) = True := eq_true (of_decide_eq_true (by first | (with_reducible assumption) | assumption))
                            replace q43 := eq_true q43
                            have p44 : 0 ≤ (x12_3 : Int) := of_decide_eq_true (by first | (with_reducible assumption) | assumption)
                            have q44 : x12_3 < (t444.size : Int) := of_decide_eq_true (by first | (with_reducible assumption) | assumption)
                            have hx44 := bt_at t444 x12_3
                            replace p44 := eq_true p44
                            replace q44 := eq_true q44
                            go_wp2
                            go_roundg k3
                            case measure => have := HJ4.out; have := HJ20.out; have := HK3.out; omega
                            case rel => exact ⟨(wrap64 (x12_3 + 1)), (by first | rfl | (simp; done) | (simp [*]; done)), H', ⟨by have := HJ4.out; have := HJ20.out; have := HK3.out; omega⟩, ⟨by (with_reducible repeat (first | apply Kd.R_alloc | apply Kd.R_drewN | apply Kd.R_drew)); exact HO_4.out⟩, ⟨by (with_reducible repeat (first | apply Kd.N_alloc | apply Kd.N_drewN | apply Kd.N_drew)); exact HO_6.out⟩, ⟨by (with_reducible repeat (first | apply Kd.R_alloc | apply Kd.R_drewN | apply Kd.R_drew)); exact HO_8.out⟩, ⟨by (with_reducible repeat (first | apply Kd.R_alloc | apply Kd.R_drewN | apply Kd.R_drew)); exact HO_430001.out⟩, ⟨by (with_reducible repeat (first | refine blk_drewN ?_ _ | refine blk_drew ?_ | refine blk_alloc ?_ _)); exact BK429.out⟩, ⟨by repeat (first | (with_reducible first | exact HB.out | apply below_alloc | apply pw_below_drewN | apply below_drew1 | refine below_set ?_ GE429.out) | exact HB.out)⟩⟩
                          · rw [if_neg c45] at H
                            have c45b0 : ((bt t444 x12_3) == (bt (rdOf ByteArray.empty t440 x12_3) 0)) = false := beq_eq_false_iff_ne.mpr c45
                            have c45b1 : ((bt t444 x12_3) != (bt (rdOf ByteArray.empty t440 x12_3) 0)) = true := bne_iff_ne.mpr c45
                            obtain rfl := Option.some.inj H
                            obtain ⟨Ao47, co47, eo47⟩ := Kd.R_slice HO_8.out
                            subst eo47
                            have p446 : 0 ≤ (x12_3 : Int) := of_decide_eq_true (by first | (with_reducible assumption) | assumption)
                            have q446 : x12_3 < (t440.length : Int) := of_decide_eq_true (by first | (with_reducible assumption) | assumption)
                            obtain ⟨ad446, e446, hx446_0⟩ := Kd.at_string (Kd.R_reads' HO_8.out).2.2 x12_3 p446 q446
                            cases e446
                            replace p446 := eq_true p446
                            replace q446 := eq_true q446
                            have p447 : 0 ≤ (x12_3 : Int) := of_decide_eq_true (by first | (with_reducible assumption) | assumption)
                            have q447 : x12_3 < (t440.length : Int) := of_decide_eq_true (by first | (with_reducible assumption) | assumption)
                            obtain ⟨ad447, e447, hx447_0⟩ := Kd.at_string (Kd.R_reads' HO_8.out).2.2 x12_3 p447 q447
                            obtain rfl : ad446 = ad447 := (by injection e447)
                            replace p447 := eq_true p447
                            replace q447 := eq_true q447
                            have p43 : 0 ≤ (0 : Int) := (by omega)
                            have q43 : 0 < (rdOf ByteArray.empty t440 x12_3).size := (by have : (0 : Int) < ((rdOf ByteArray.empty t440 x12_3).size : Int) := of_decide_eq_true (by first | (with_reducible assumption) | assumption); omega)
                            have hx43 : ∀ h : 0 < (rdOf ByteArray.empty t440 x12_3).size, (((rdOf ByteArray.empty t440 x12_3)[0]'h).toNat : Int) = bt (rdOf ByteArray.empty t440 x12_3) 0 := bt_at (rdOf ByteArray.empty t440 x12_3) 0
                            clear p43
                            have qi43 : (0 < ((rdOf ByteArray.empty t440 x12_3).size : Int)) = True := eq_true (of_decide_eq_true (by first | (with_reducible assumption) | assumption))
                            replace q43 := eq_true q43
                            have p44 : 0 ≤ (x12_3 : Int) := of_decide_eq_true (by first | (with_reducible assumption) | assumption)
                            have q44 : x12_3 < (t444.size : Int) := of_decide_eq_true (by first | (with_reducible assumption) | assumption)
                            have hx44 := bt_at t444 x12_3
                            replace p44 := eq_true p44
                            replace q44 := eq_true q44
                            go_wp2
                            go_ret
                            exact ⟨by first | rfl | (simp [errW_none, errW_some] <;> rfl) | (simp [*, errW_none, errW_some] <;> rfl), by repeat (first | (with_reducible first | exact HB.out | apply below_alloc | apply pw_below_drewN | apply below_drew1 | refine below_set ?_ GE429.out) | exact HB.out)⟩
                        · rw [if_neg c42] at H
                          exact absurd H (by simp)
                      · rw [if_neg c41] at H
                        have c41b0 : (((rdOf ByteArray.empty t440 x12_3).size : Int) == 1) = false := beq_eq_false_iff_ne.mpr c41
                        have c41b1 : (((rdOf ByteArray.empty t440 x12_3).size : Int) != 1) = true := bne_iff_ne.mpr c41
                        by_cases c49 : (bt t444 x12_3) = 45
                        · rw [if_pos c49] at H
                          have c49b0 : ((bt t444 x12_3) == 45) = true := beq_iff_eq.mpr c49
                          have c49b1 : ((bt t444 x12_3) != 45) = false := bne_eq_false_iff_eq.mpr c49
                          clear c49
                          have H' := Aside0.mk H
                          clear H
                          obtain ⟨Ao50, co50, eo50⟩ := Kd.R_slice HO_8.out
                          subst eo50
                          have p446 : 0 ≤ (x12_3 : Int) := of_decide_eq_true (by first | (with_reducible assumption) | assumption)
                          have q446 : x12_3 < (t440.length : Int) := of_decide_eq_true (by first | (with_reducible assumption) | assumption)
                          obtain ⟨ad446, e446, hx446_0⟩ := Kd.at_string (Kd.R_reads' HO_8.out).2.2 x12_3 p446 q446
                          cases e446
                          replace p446 := eq_true p446
                          replace q446 := eq_true q446
                          have p48 : 0 ≤ (x12_3 : Int) := of_decide_eq_true (by first | (with_reducible assumption) | assumption)
                          have q48 : x12_3 < (t444.size : Int) := of_decide_eq_true (by first | (with_reducible assumption) | assumption)
                          have hx48 := bt_at t444 x12_3
                          replace p48 := eq_true p48
                          replace q48 := eq_true q48
                          go_wp2
                          go_roundg k3
                          case measure => have := HJ4.out; have := HJ20.out; have := HK3.out; omega
                          case rel => exact ⟨(wrap64 (x12_3 + 1)), (by first | rfl | (simp; done) | (simp [*]; done)), H', ⟨by have := HJ4.out; have := HJ20.out; have := HK3.out; omega⟩, ⟨by (with_reducible repeat (first | apply Kd.R_alloc | apply Kd.R_drewN | apply Kd.R_drew)); exact HO_4.out⟩, ⟨by (with_reducible repeat (first | apply Kd.N_alloc | apply Kd.N_drewN | apply Kd.N_drew)); exact HO_6.out⟩, ⟨by (with_reducible repeat (first | apply Kd.R_alloc | apply Kd.R_drewN | apply Kd.R_drew)); exact HO_8.out⟩, ⟨by (with_reducible repeat (first | apply Kd.R_alloc | apply Kd.R_drewN | apply Kd.R_drew)); exact HO_430001.out⟩, ⟨by (with_reducible repeat (first | refine blk_drewN ?_ _ | refine blk_drew ?_ | refine blk_alloc ?_ _)); exact BK429.out⟩, ⟨by repeat (first | (with_reducible first | exact HB.out | apply below_alloc | apply pw_below_drewN | apply below_drew1 | refine below_set ?_ GE429.out) | exact HB.out)⟩⟩
                        · rw [if_neg c49] at H
                          have c49b0 : ((bt t444 x12_3) == 45) = false := beq_eq_false_iff_ne.mpr c49
                          have c49b1 : ((bt t444 x12_3) != 45) = true := bne_iff_ne.mpr c49
                          obtain rfl := Option.some.inj H
                          obtain ⟨Ao51, co51, eo51⟩ := Kd.R_slice HO_8.out
                          subst eo51
                          have p446 : 0 ≤ (x12_3 : Int) := of_decide_eq_true (by first | (with_reducible assumption) | assumption)
                          have q446 : x12_3 < (t440.length : Int) := of_decide_eq_true (by first | (with_reducible assumption) | assumption)
                          obtain ⟨ad446, e446, hx446_0⟩ := Kd.at_string (Kd.R_reads' HO_8.out).2.2 x12_3 p446 q446
                          cases e446
                          replace p446 := eq_true p446
                          replace q446 := eq_true q446
                          have p48 : 0 ≤ (x12_3 : Int) := of_decide_eq_true (by first | (with_reducible assumption) | assumption)
                          have q48 : x12_3 < (t444.size : Int) := of_decide_eq_true (by first | (with_reducible assumption) | assumption)
                          have hx48 := bt_at t444 x12_3
                          replace p48 := eq_true p48
                          replace q48 := eq_true q48
                          go_wp2
                          go_ret
                          exact ⟨by first | rfl | (simp [errW_none, errW_some] <;> rfl) | (simp [*, errW_none, errW_some] <;> rfl), by repeat (first | (with_reducible first | exact HB.out | apply below_alloc | apply pw_below_drewN | apply below_drew1 | refine below_set ?_ GE429.out) | exact HB.out)⟩
                    · rw [if_neg c40] at H
                      exact absurd H (by simp)
                  · rw [if_neg c39] at H
                    exact absurd H (by simp)
                · rw [if_neg c38] at H
                  have c38b0 : decide (x12_3 < (t444.size : Int)) = false := decide_eq_false c38
                  clear c38
                  have H' := Aside0.mk H
                  clear H
                  go_wp2
                  go_loopg [14] k3 (fun kq v14 w' => ∃ (x14_4 : Int), v14 = .int .i64 x14_4 ∧ Aside0 (cippuslaw07_StemmaAgreed.l1 kq x4_4 t436 t444 x14_4 = some r) ∧ Aside0 (kq ≤ k3) ∧ Aside0 (Kd.R k24 24 w' w.heap.size (fun _ => True) (.slice Ao22 x4_4.length co22) x4_4) ∧ Aside0 (Kd.N (Kd.slice 3 (Kd.int .i64)) 25 w' w.heap.size (fun k_ => some k_ ≠ ((.slice Ao22 x4_4.length co22) : Value).ownBlock ∧ some k_ ≠ ((.slice Ao11 t424.length co11) : Value).ownBlock ∧ k_ ≠ gb429) v437 t436) ∧ Aside0 (Kd.R (Kd.int .i64) 3 w' w.heap.size (fun _ => True) (.slice Ao11 t424.length co11) t424) ∧ Aside0 (w'.heap[gb429]? = some (.cells #[.string t423, (.slice Ao11 t424.length co11)] 27 (0, 0))) ∧ Aside0 (Below w.heap.size w w'))
                  case atStart => exact ⟨(0), (by first | rfl | (simp; done) | (simp [*]; done)), H', ⟨Nat.le_refl _⟩, ⟨by (with_reducible repeat (first | apply Kd.R_alloc | apply Kd.R_drewN | apply Kd.R_drew)); exact HO_4.out⟩, ⟨by (with_reducible repeat (first | apply Kd.N_alloc | apply Kd.N_drewN | apply Kd.N_drew)); exact Kd.N_mono HO_6.out (fun _ hk => ⟨hk.1, ⟨hk.2.2.1, hk.2.2.2⟩⟩)⟩, ⟨by (with_reducible repeat (first | apply Kd.R_alloc | apply Kd.R_drewN | apply Kd.R_drew)); exact HO_430001.out⟩, ⟨by (with_reducible repeat (first | refine blk_drewN ?_ _ | refine blk_drew ?_ | refine blk_alloc ?_ _)); exact BK429.out⟩, ⟨by repeat (first | (with_reducible first | exact HB.out | apply below_alloc | apply pw_below_drewN | apply below_drew1 | refine below_set ?_ GE429.out) | exact HB.out)⟩⟩
                  case round =>
                    clear H'
                    try clear c1
                    try clear c2
                    try clear p2
                    try clear c3
                    try clear c4
                    try clear p4
                    try clear q4
                    try clear hx4
                    try clear qi4
                    try clear c6
                    try clear p6
                    try clear c9
                    try clear c13
                    try clear c14
                    try clear c15
                    try clear c18
                    try clear c20
                    try clear c26
                    try clear c26b0
                    try clear c26b1
                    try clear c27
                    try clear c27b0
                    try clear c27b1
                    try clear c28
                    try clear c28b0
                    try clear c28b1
                    try clear c29
                    try clear c29b0
                    try clear c29b1
                    try clear c29b2
                    try clear c30
                    try clear c30b0
                    try clear c30b1
                    try clear c30b2
                    try clear c37
                    try clear c38
                    try clear c38b0
                    try clear c39
                    try clear c39b0
                    try clear c40
                    try clear c40b0
                    try clear c41
                    try clear c41b0
                    try clear c41b1
                    try clear c42
                    try clear c42b0
                    try clear c42b1
                    try clear p43
                    try clear q43
                    try clear hx43
                    try clear qi43
                    try clear p44
                    try clear q44
                    try clear hx44
                    try clear c45
                    try clear c45b0
                    try clear c45b1
                    try clear p48
                    try clear q48
                    try clear hx48
                    try clear c49
                    try clear c49b0
                    try clear c49b1
                    try clear hcz10_0
                    try clear hcz10_1
                    try clear hcz16_0
                    try clear hcz16_1
                    try clear hcz33_0
                    try clear hcz33_1
                    try clear hfz10_0
                    try clear hfz10_1
                    try clear hfz16_0
                    try clear hfz16_1
                    try clear hfz33_0
                    try clear hfz33_1
                    try clear hx446_0
                    try clear hx447_0
                    try clear p2
                    try clear p43
                    try clear p44
                    try clear p446
                    try clear p447
                    try clear p48
                    try clear q43
                    try clear q44
                    try clear q446
                    try clear q447
                    try clear q48
                    obtain ⟨x14_4, rfl, HA, HK4, HO_4, HO_6, HO_430001, BK429, HB⟩ := hrel
                    cases gk with
                    | zero => exact absurd HA.out (by simp [cippuslaw07_StemmaAgreed.l1])
                    | succ k4 =>
                      have H := HA.out
                      clear HA
                      simp only [cippuslaw07_StemmaAgreed.l1] at H
                      by_cases c52 : x14_4 < (x4_4.length : Int)
                      · rw [if_pos c52] at H
                        have c52b0 : decide (x14_4 < (x4_4.length : Int)) = true := decide_eq_true c52
                        clear c52
                        by_cases c53 : 0 ≤ x14_4
                        · rw [if_pos c53] at H
                          have c53b0 : decide (0 ≤ x14_4) = true := decide_eq_true c53
                          clear c53
                          by_cases c54 : ((rd_T24 x4_4 x14_4).f1) = 0
                          · rw [if_pos c54] at H
                            have c54b0 : (((rd_T24 x4_4 x14_4).f1) == 0) = true := beq_iff_eq.mpr c54
                            have c54b1 : (((rd_T24 x4_4 x14_4).f1) != 0) = false := bne_eq_false_iff_eq.mpr c54
                            clear c54
                            by_cases c55 : x14_4 < (t436.length : Int)
                            · rw [if_pos c55] at H
                              have c55b0 : decide (x14_4 < (t436.length : Int)) = true := decide_eq_true c55
                              clear c55
                              by_cases c56 : ((rd_L4 t436 x14_4).length : Int) > 0
                              · rw [if_pos c56] at H
                                have c56b0 : decide (0 < ((rd_L4 t436 x14_4).length : Int)) = true := decide_eq_true c56
                                have c56b1 : decide (0 < (rd_L4 t436 x14_4).length) = true := decide_eq_true (by omega)
                                clear c56
                                by_cases c57 : 0 < ((rd_L4 t436 x14_4).length : Int)
                                · rw [if_pos c57] at H
                                  have c57b0 : decide (0 < ((rd_L4 t436 x14_4).length : Int)) = true := decide_eq_true c57
                                  have c57b1 : decide (0 < (rd_L4 t436 x14_4).length) = true := decide_eq_true (by omega)
                                  clear c57
                                  by_cases c58 : (rd (rd_L4 t436 x14_4) 0) = 1
                                  · rw [if_pos c58] at H
                                    have c58b0 : ((rd (rd_L4 t436 x14_4) 0) == 1) = true := beq_iff_eq.mpr c58
                                    have c58b1 : ((rd (rd_L4 t436 x14_4) 0) != 1) = false := bne_eq_false_iff_eq.mpr c58
                                    clear c58
                                    by_cases c59 : t444.toList = ((rd_T24 x4_4 x14_4).f0).toList
                                    · rw [if_pos c59] at H
                                      have c59b0 : (t444.toList == ((rd_T24 x4_4 x14_4).f0).toList) = true := beq_iff_eq.mpr c59
                                      have c59b1 : (t444.toList != ((rd_T24 x4_4 x14_4).f0).toList) = false := bne_eq_false_iff_eq.mpr c59
                                      clear c59
                                      have H' := Aside0.mk H
                                      clear H
                                      have p448 : 0 ≤ (x14_4 : Int) := of_decide_eq_true (by first | (with_reducible assumption) | assumption)
                                      have q448 : x14_4 < (x4_4.length : Int) := of_decide_eq_true (by first | (with_reducible assumption) | assumption)
                                      obtain ⟨ad448, e448, hx448_0, hx448_1, hx448_2⟩ := at_T24 (Kd.R_reads' HO_4.out).2.2 x14_4 p448 q448
                                      cases e448
                                      replace p448 := eq_true p448
                                      replace q448 := eq_true q448
                                      obtain ⟨Ao60, co60, eo60⟩ := Kd.N_slice HO_6.out
                                      subst eo60
                                      have p449 : 0 ≤ (x14_4 : Int) := of_decide_eq_true (by first | (with_reducible assumption) | assumption)
                                      have q449 : x14_4 < (t436.length : Int) := of_decide_eq_true (by first | (with_reducible assumption) | assumption)
                                      obtain ⟨ad449, A449_0, c449_0, e449, hx449_0, hl449_0, hi449_0⟩ := at_L4 (Kd.N_reads' HO_6.out).2.2 x14_4 p449 q449
                                      cases e449
                                      obtain ⟨ce449, hce449, hMe449, hcc449⟩ := Kd.N_get HO_6.out [] x14_4 p449 (by first | exact q449 | exact of_decide_eq_true (by first | (with_reducible assumption) | assumption) | (have e_ := (Kd.N_reads' HO_6.out).1; omega))
                                      obtain ⟨ua449_0, uc449_0, rfl, ul449_0, ge449_0⟩ := Kd.FK_slice_open hMe449
                                      have hv449_0 := hcc449 0 _ rfl
                                      rw [Nat.add_zero, show ((Kd.slice 3 (Kd.int .i64))).sz = 1 from rfl, Nat.mul_one] at hv449_0
                                      replace hv449_0 := Option.some.inj (hv449_0.symm.trans hx449_0)
                                      injection hv449_0 with hva_ hvn_ hvc_
                                      rw [hva_] at ge449_0
                                      rw [hvc_] at ul449_0
                                      have HL449_0 := Aside0.mk (show Kd.V (Kd.int .i64) 3 _ w.heap.size _ _ (rd_L4 t436 x14_4) from Kd.V_mk ul449_0 ge449_0)
                                      clear hva_ hvn_ hvc_ ge449_0 ul449_0
                                      clear hcc449 hce449
                                      have HR449_0 := Aside0.mk hi449_0
                                      have HC449_0 := Aside0.mk hl449_0
                                      clear hi449_0 hl449_0
                                      replace p449 := eq_true p449
                                      replace q449 := eq_true q449
                                      have p450 : 0 ≤ (x14_4 : Int) := of_decide_eq_true (by first | (with_reducible assumption) | assumption)
                                      have q450 : x14_4 < (t436.length : Int) := of_decide_eq_true (by first | (with_reducible assumption) | assumption)
                                      obtain ⟨ad450, A450_0, c450_0, e450, hx450_0, hl450_0, hi450_0⟩ := at_L4 (Kd.N_reads' HO_6.out).2.2 x14_4 p450 q450
                                      obtain rfl : ad449 = ad450 := (by injection e450)
                                      obtain ⟨ce450, hce450, hMe450, hcc450⟩ := Kd.N_get HO_6.out [] x14_4 p450 (by first | exact q450 | exact of_decide_eq_true (by first | (with_reducible assumption) | assumption) | (have e_ := (Kd.N_reads' HO_6.out).1; omega))
                                      obtain ⟨ua450_0, uc450_0, rfl, ul450_0, ge450_0⟩ := Kd.FK_slice_open hMe450
                                      have hv450_0 := hcc450 0 _ rfl
                                      rw [Nat.add_zero, show ((Kd.slice 3 (Kd.int .i64))).sz = 1 from rfl, Nat.mul_one] at hv450_0
                                      replace hv450_0 := Option.some.inj (hv450_0.symm.trans hx450_0)
                                      injection hv450_0 with hva_ hvn_ hvc_
                                      rw [hva_] at ge450_0
                                      rw [hvc_] at ul450_0
                                      have HL450_0 := Aside0.mk (show Kd.V (Kd.int .i64) 3 _ w.heap.size _ _ (rd_L4 t436 x14_4) from Kd.V_mk ul450_0 ge450_0)
                                      clear hva_ hvn_ hvc_ ge450_0 ul450_0
                                      clear hcc450 hce450
                                      have HR450_0 := Aside0.mk hi450_0
                                      have HC450_0 := Aside0.mk hl450_0
                                      clear hi450_0 hl450_0
                                      replace p450 := eq_true p450
                                      replace q450 := eq_true q450
                                      have ea_ := Option.some.inj (hx449_0.symm.trans hx450_0)
                                      injection ea_ with ea_ en_ ec_
                                      subst ea_
                                      subst ec_
                                      clear en_
                                      have p451 : 0 ≤ (0 : Int) := (by omega)
                                      have q451 : 0 < ((rd_L4 t436 x14_4).length : Int) := of_decide_eq_true (by first | (with_reducible assumption) | assumption)
                                      obtain ⟨ad451, e451, hx451_0⟩ := Kd.at_int (by repeat (first | (with_reducible exact HR450_0.out) | (with_reducible refine Kd.C_alloc ?_ _) | (with_reducible refine Kd.C_drewN ?_ _) | (with_reducible refine Kd.C_drew ?_) | exact HR450_0.out)) 0 p451 q451
                                      cases e451
                                      have qi451 : (0 < (rd_L4 t436 x14_4).length) = True := eq_true (by omega)
                                      (try rw [show ((0 : Int)).toNat = 0 from rfl] at hx451_0)
                                      (try rw [Addr.add_zero'] at hx451_0)
                                      replace p451 := eq_true p451
                                      replace q451 := eq_true q451
                                      have p452 : 0 ≤ (x14_4 : Int) := of_decide_eq_true (by first | (with_reducible assumption) | assumption)
                                      have q452 : x14_4 < (x4_4.length : Int) := of_decide_eq_true (by first | (with_reducible assumption) | assumption)
                                      obtain ⟨ad452, e452, hx452_0, hx452_1, hx452_2⟩ := at_T24 (Kd.R_reads' HO_4.out).2.2 x14_4 p452 q452
                                      obtain rfl : ad448 = ad452 := (by injection e452)
                                      replace p452 := eq_true p452
                                      replace q452 := eq_true q452
                                      go_wp2
                                      go_roundg k4
                                      case measure => have := HJ4.out; have := HJ20.out; have := HK3.out; have := HK4.out; omega
                                      case rel => exact ⟨(wrap64 (x14_4 + 1)), (by first | rfl | (simp; done) | (simp [*]; done)), H', ⟨by have := HJ4.out; have := HJ20.out; have := HK3.out; have := HK4.out; omega⟩, ⟨by (with_reducible repeat (first | apply Kd.R_alloc | apply Kd.R_drewN | apply Kd.R_drew)); exact HO_4.out⟩, ⟨by (with_reducible repeat (first | apply Kd.N_alloc | apply Kd.N_drewN | apply Kd.N_drew)); exact HO_6.out⟩, ⟨by (with_reducible repeat (first | apply Kd.R_alloc | apply Kd.R_drewN | apply Kd.R_drew)); exact HO_430001.out⟩, ⟨by (with_reducible repeat (first | refine blk_drewN ?_ _ | refine blk_drew ?_ | refine blk_alloc ?_ _)); exact BK429.out⟩, ⟨by repeat (first | (with_reducible first | exact HB.out | apply below_alloc | apply pw_below_drewN | apply below_drew1 | refine below_set ?_ GE429.out) | exact HB.out)⟩⟩
                                    · rw [if_neg c59] at H
                                      have c59b0 : (t444.toList == ((rd_T24 x4_4 x14_4).f0).toList) = false := beq_eq_false_iff_ne.mpr c59
                                      have c59b1 : (t444.toList != ((rd_T24 x4_4 x14_4).f0).toList) = true := bne_iff_ne.mpr c59
                                      obtain rfl := Option.some.inj H
                                      have p448 : 0 ≤ (x14_4 : Int) := of_decide_eq_true (by first | (with_reducible assumption) | assumption)
                                      have q448 : x14_4 < (x4_4.length : Int) := of_decide_eq_true (by first | (with_reducible assumption) | assumption)
                                      obtain ⟨ad448, e448, hx448_0, hx448_1, hx448_2⟩ := at_T24 (Kd.R_reads' HO_4.out).2.2 x14_4 p448 q448
                                      cases e448
                                      replace p448 := eq_true p448
                                      replace q448 := eq_true q448
                                      obtain ⟨Ao61, co61, eo61⟩ := Kd.N_slice HO_6.out
                                      subst eo61
                                      have p449 : 0 ≤ (x14_4 : Int) := of_decide_eq_true (by first | (with_reducible assumption) | assumption)
                                      have q449 : x14_4 < (t436.length : Int) := of_decide_eq_true (by first | (with_reducible assumption) | assumption)
                                      obtain ⟨ad449, A449_0, c449_0, e449, hx449_0, hl449_0, hi449_0⟩ := at_L4 (Kd.N_reads' HO_6.out).2.2 x14_4 p449 q449
                                      cases e449
                                      obtain ⟨ce449, hce449, hMe449, hcc449⟩ := Kd.N_get HO_6.out [] x14_4 p449 (by first | exact q449 | exact of_decide_eq_true (by first | (with_reducible assumption) | assumption) | (have e_ := (Kd.N_reads' HO_6.out).1; omega))
                                      obtain ⟨ua449_0, uc449_0, rfl, ul449_0, ge449_0⟩ := Kd.FK_slice_open hMe449
                                      have hv449_0 := hcc449 0 _ rfl
                                      rw [Nat.add_zero, show ((Kd.slice 3 (Kd.int .i64))).sz = 1 from rfl, Nat.mul_one] at hv449_0
                                      replace hv449_0 := Option.some.inj (hv449_0.symm.trans hx449_0)
                                      injection hv449_0 with hva_ hvn_ hvc_
                                      rw [hva_] at ge449_0
                                      rw [hvc_] at ul449_0
                                      have HL449_0 := Aside0.mk (show Kd.V (Kd.int .i64) 3 _ w.heap.size _ _ (rd_L4 t436 x14_4) from Kd.V_mk ul449_0 ge449_0)
                                      clear hva_ hvn_ hvc_ ge449_0 ul449_0
                                      clear hcc449 hce449
                                      have HR449_0 := Aside0.mk hi449_0
                                      have HC449_0 := Aside0.mk hl449_0
                                      clear hi449_0 hl449_0
                                      replace p449 := eq_true p449
                                      replace q449 := eq_true q449
                                      have p450 : 0 ≤ (x14_4 : Int) := of_decide_eq_true (by first | (with_reducible assumption) | assumption)
                                      have q450 : x14_4 < (t436.length : Int) := of_decide_eq_true (by first | (with_reducible assumption) | assumption)
                                      obtain ⟨ad450, A450_0, c450_0, e450, hx450_0, hl450_0, hi450_0⟩ := at_L4 (Kd.N_reads' HO_6.out).2.2 x14_4 p450 q450
                                      obtain rfl : ad449 = ad450 := (by injection e450)
                                      obtain ⟨ce450, hce450, hMe450, hcc450⟩ := Kd.N_get HO_6.out [] x14_4 p450 (by first | exact q450 | exact of_decide_eq_true (by first | (with_reducible assumption) | assumption) | (have e_ := (Kd.N_reads' HO_6.out).1; omega))
                                      obtain ⟨ua450_0, uc450_0, rfl, ul450_0, ge450_0⟩ := Kd.FK_slice_open hMe450
                                      have hv450_0 := hcc450 0 _ rfl
                                      rw [Nat.add_zero, show ((Kd.slice 3 (Kd.int .i64))).sz = 1 from rfl, Nat.mul_one] at hv450_0
                                      replace hv450_0 := Option.some.inj (hv450_0.symm.trans hx450_0)
                                      injection hv450_0 with hva_ hvn_ hvc_
                                      rw [hva_] at ge450_0
                                      rw [hvc_] at ul450_0
                                      have HL450_0 := Aside0.mk (show Kd.V (Kd.int .i64) 3 _ w.heap.size _ _ (rd_L4 t436 x14_4) from Kd.V_mk ul450_0 ge450_0)
                                      clear hva_ hvn_ hvc_ ge450_0 ul450_0
                                      clear hcc450 hce450
                                      have HR450_0 := Aside0.mk hi450_0
                                      have HC450_0 := Aside0.mk hl450_0
                                      clear hi450_0 hl450_0
                                      replace p450 := eq_true p450
                                      replace q450 := eq_true q450
                                      have ea_ := Option.some.inj (hx449_0.symm.trans hx450_0)
                                      injection ea_ with ea_ en_ ec_
                                      subst ea_
                                      subst ec_
                                      clear en_
                                      have p451 : 0 ≤ (0 : Int) := (by omega)
                                      have q451 : 0 < ((rd_L4 t436 x14_4).length : Int) := of_decide_eq_true (by first | (with_reducible assumption) | assumption)
                                      obtain ⟨ad451, e451, hx451_0⟩ := Kd.at_int (by repeat (first | (with_reducible exact HR450_0.out) | (with_reducible refine Kd.C_alloc ?_ _) | (with_reducible refine Kd.C_drewN ?_ _) | (with_reducible refine Kd.C_drew ?_) | exact HR450_0.out)) 0 p451 q451
                                      cases e451
                                      have qi451 : (0 < (rd_L4 t436 x14_4).length) = True := eq_true (by omega)
                                      (try rw [show ((0 : Int)).toNat = 0 from rfl] at hx451_0)
                                      (try rw [Addr.add_zero'] at hx451_0)
                                      replace p451 := eq_true p451
                                      replace q451 := eq_true q451
                                      have p452 : 0 ≤ (x14_4 : Int) := of_decide_eq_true (by first | (with_reducible assumption) | assumption)
                                      have q452 : x14_4 < (x4_4.length : Int) := of_decide_eq_true (by first | (with_reducible assumption) | assumption)
                                      obtain ⟨ad452, e452, hx452_0, hx452_1, hx452_2⟩ := at_T24 (Kd.R_reads' HO_4.out).2.2 x14_4 p452 q452
                                      obtain rfl : ad448 = ad452 := (by injection e452)
                                      replace p452 := eq_true p452
                                      replace q452 := eq_true q452
                                      go_wp2
                                      go_ret
                                      exact ⟨by first | rfl | (simp [errW_none, errW_some] <;> rfl) | (simp [*, errW_none, errW_some] <;> rfl), by repeat (first | (with_reducible first | exact HB.out | apply below_alloc | apply pw_below_drewN | apply below_drew1 | refine below_set ?_ GE429.out) | exact HB.out)⟩
                                  · rw [if_neg c58] at H
                                    have c58b0 : ((rd (rd_L4 t436 x14_4) 0) == 1) = false := beq_eq_false_iff_ne.mpr c58
                                    have c58b1 : ((rd (rd_L4 t436 x14_4) 0) != 1) = true := bne_iff_ne.mpr c58
                                    have H' := Aside0.mk H
                                    clear H
                                    have p448 : 0 ≤ (x14_4 : Int) := of_decide_eq_true (by first | (with_reducible assumption) | assumption)
                                    have q448 : x14_4 < (x4_4.length : Int) := of_decide_eq_true (by first | (with_reducible assumption) | assumption)
                                    obtain ⟨ad448, e448, hx448_0, hx448_1, hx448_2⟩ := at_T24 (Kd.R_reads' HO_4.out).2.2 x14_4 p448 q448
                                    cases e448
                                    replace p448 := eq_true p448
                                    replace q448 := eq_true q448
                                    obtain ⟨Ao62, co62, eo62⟩ := Kd.N_slice HO_6.out
                                    subst eo62
                                    have p449 : 0 ≤ (x14_4 : Int) := of_decide_eq_true (by first | (with_reducible assumption) | assumption)
                                    have q449 : x14_4 < (t436.length : Int) := of_decide_eq_true (by first | (with_reducible assumption) | assumption)
                                    obtain ⟨ad449, A449_0, c449_0, e449, hx449_0, hl449_0, hi449_0⟩ := at_L4 (Kd.N_reads' HO_6.out).2.2 x14_4 p449 q449
                                    cases e449
                                    obtain ⟨ce449, hce449, hMe449, hcc449⟩ := Kd.N_get HO_6.out [] x14_4 p449 (by first | exact q449 | exact of_decide_eq_true (by first | (with_reducible assumption) | assumption) | (have e_ := (Kd.N_reads' HO_6.out).1; omega))
                                    obtain ⟨ua449_0, uc449_0, rfl, ul449_0, ge449_0⟩ := Kd.FK_slice_open hMe449
                                    have hv449_0 := hcc449 0 _ rfl
                                    rw [Nat.add_zero, show ((Kd.slice 3 (Kd.int .i64))).sz = 1 from rfl, Nat.mul_one] at hv449_0
                                    replace hv449_0 := Option.some.inj (hv449_0.symm.trans hx449_0)
                                    injection hv449_0 with hva_ hvn_ hvc_
                                    rw [hva_] at ge449_0
                                    rw [hvc_] at ul449_0
                                    have HL449_0 := Aside0.mk (show Kd.V (Kd.int .i64) 3 _ w.heap.size _ _ (rd_L4 t436 x14_4) from Kd.V_mk ul449_0 ge449_0)
                                    clear hva_ hvn_ hvc_ ge449_0 ul449_0
                                    clear hcc449 hce449
                                    have HR449_0 := Aside0.mk hi449_0
                                    have HC449_0 := Aside0.mk hl449_0
                                    clear hi449_0 hl449_0
                                    replace p449 := eq_true p449
                                    replace q449 := eq_true q449
                                    have p450 : 0 ≤ (x14_4 : Int) := of_decide_eq_true (by first | (with_reducible assumption) | assumption)
                                    have q450 : x14_4 < (t436.length : Int) := of_decide_eq_true (by first | (with_reducible assumption) | assumption)
                                    obtain ⟨ad450, A450_0, c450_0, e450, hx450_0, hl450_0, hi450_0⟩ := at_L4 (Kd.N_reads' HO_6.out).2.2 x14_4 p450 q450
                                    obtain rfl : ad449 = ad450 := (by injection e450)
                                    obtain ⟨ce450, hce450, hMe450, hcc450⟩ := Kd.N_get HO_6.out [] x14_4 p450 (by first | exact q450 | exact of_decide_eq_true (by first | (with_reducible assumption) | assumption) | (have e_ := (Kd.N_reads' HO_6.out).1; omega))
                                    obtain ⟨ua450_0, uc450_0, rfl, ul450_0, ge450_0⟩ := Kd.FK_slice_open hMe450
                                    have hv450_0 := hcc450 0 _ rfl
                                    rw [Nat.add_zero, show ((Kd.slice 3 (Kd.int .i64))).sz = 1 from rfl, Nat.mul_one] at hv450_0
                                    replace hv450_0 := Option.some.inj (hv450_0.symm.trans hx450_0)
                                    injection hv450_0 with hva_ hvn_ hvc_
                                    rw [hva_] at ge450_0
                                    rw [hvc_] at ul450_0
                                    have HL450_0 := Aside0.mk (show Kd.V (Kd.int .i64) 3 _ w.heap.size _ _ (rd_L4 t436 x14_4) from Kd.V_mk ul450_0 ge450_0)
                                    clear hva_ hvn_ hvc_ ge450_0 ul450_0
                                    clear hcc450 hce450
                                    have HR450_0 := Aside0.mk hi450_0
                                    have HC450_0 := Aside0.mk hl450_0
                                    clear hi450_0 hl450_0
                                    replace p450 := eq_true p450
                                    replace q450 := eq_true q450
                                    have ea_ := Option.some.inj (hx449_0.symm.trans hx450_0)
                                    injection ea_ with ea_ en_ ec_
                                    subst ea_
                                    subst ec_
                                    clear en_
                                    have p451 : 0 ≤ (0 : Int) := (by omega)
                                    have q451 : 0 < ((rd_L4 t436 x14_4).length : Int) := of_decide_eq_true (by first | (with_reducible assumption) | assumption)
                                    obtain ⟨ad451, e451, hx451_0⟩ := Kd.at_int (by repeat (first | (with_reducible exact HR450_0.out) | (with_reducible refine Kd.C_alloc ?_ _) | (with_reducible refine Kd.C_drewN ?_ _) | (with_reducible refine Kd.C_drew ?_) | exact HR450_0.out)) 0 p451 q451
                                    cases e451
                                    have qi451 : (0 < (rd_L4 t436 x14_4).length) = True := eq_true (by omega)
                                    (try rw [show ((0 : Int)).toNat = 0 from rfl] at hx451_0)
                                    (try rw [Addr.add_zero'] at hx451_0)
                                    replace p451 := eq_true p451
                                    replace q451 := eq_true q451
                                    go_wp2
                                    go_roundg k4
                                    case measure => have := HJ4.out; have := HJ20.out; have := HK3.out; have := HK4.out; omega
                                    case rel => exact ⟨(wrap64 (x14_4 + 1)), (by first | rfl | (simp; done) | (simp [*]; done)), H', ⟨by have := HJ4.out; have := HJ20.out; have := HK3.out; have := HK4.out; omega⟩, ⟨by (with_reducible repeat (first | apply Kd.R_alloc | apply Kd.R_drewN | apply Kd.R_drew)); exact HO_4.out⟩, ⟨by (with_reducible repeat (first | apply Kd.N_alloc | apply Kd.N_drewN | apply Kd.N_drew)); exact HO_6.out⟩, ⟨by (with_reducible repeat (first | apply Kd.R_alloc | apply Kd.R_drewN | apply Kd.R_drew)); exact HO_430001.out⟩, ⟨by (with_reducible repeat (first | refine blk_drewN ?_ _ | refine blk_drew ?_ | refine blk_alloc ?_ _)); exact BK429.out⟩, ⟨by repeat (first | (with_reducible first | exact HB.out | apply below_alloc | apply pw_below_drewN | apply below_drew1 | refine below_set ?_ GE429.out) | exact HB.out)⟩⟩
                                · rw [if_neg c57] at H
                                  exact absurd H (by simp)
                              · rw [if_neg c56] at H
                                have c56b0 : decide (0 < ((rd_L4 t436 x14_4).length : Int)) = false := decide_eq_false c56
                                have c56b1 : decide (0 < (rd_L4 t436 x14_4).length) = false := decide_eq_false (by omega)
                                clear c56
                                have H' := Aside0.mk H
                                clear H
                                have p448 : 0 ≤ (x14_4 : Int) := of_decide_eq_true (by first | (with_reducible assumption) | assumption)
                                have q448 : x14_4 < (x4_4.length : Int) := of_decide_eq_true (by first | (with_reducible assumption) | assumption)
                                obtain ⟨ad448, e448, hx448_0, hx448_1, hx448_2⟩ := at_T24 (Kd.R_reads' HO_4.out).2.2 x14_4 p448 q448
                                cases e448
                                replace p448 := eq_true p448
                                replace q448 := eq_true q448
                                obtain ⟨Ao63, co63, eo63⟩ := Kd.N_slice HO_6.out
                                subst eo63
                                have p449 : 0 ≤ (x14_4 : Int) := of_decide_eq_true (by first | (with_reducible assumption) | assumption)
                                have q449 : x14_4 < (t436.length : Int) := of_decide_eq_true (by first | (with_reducible assumption) | assumption)
                                obtain ⟨ad449, A449_0, c449_0, e449, hx449_0, hl449_0, hi449_0⟩ := at_L4 (Kd.N_reads' HO_6.out).2.2 x14_4 p449 q449
                                cases e449
                                obtain ⟨ce449, hce449, hMe449, hcc449⟩ := Kd.N_get HO_6.out [] x14_4 p449 (by first | exact q449 | exact of_decide_eq_true (by first | (with_reducible assumption) | assumption) | (have e_ := (Kd.N_reads' HO_6.out).1; omega))
                                obtain ⟨ua449_0, uc449_0, rfl, ul449_0, ge449_0⟩ := Kd.FK_slice_open hMe449
                                have hv449_0 := hcc449 0 _ rfl
                                rw [Nat.add_zero, show ((Kd.slice 3 (Kd.int .i64))).sz = 1 from rfl, Nat.mul_one] at hv449_0
                                replace hv449_0 := Option.some.inj (hv449_0.symm.trans hx449_0)
                                injection hv449_0 with hva_ hvn_ hvc_
                                rw [hva_] at ge449_0
                                rw [hvc_] at ul449_0
                                have HL449_0 := Aside0.mk (show Kd.V (Kd.int .i64) 3 _ w.heap.size _ _ (rd_L4 t436 x14_4) from Kd.V_mk ul449_0 ge449_0)
                                clear hva_ hvn_ hvc_ ge449_0 ul449_0
                                clear hcc449 hce449
                                have HR449_0 := Aside0.mk hi449_0
                                have HC449_0 := Aside0.mk hl449_0
                                clear hi449_0 hl449_0
                                replace p449 := eq_true p449
                                replace q449 := eq_true q449
                                go_wp2
                                go_roundg k4
                                case measure => have := HJ4.out; have := HJ20.out; have := HK3.out; have := HK4.out; omega
                                case rel => exact ⟨(wrap64 (x14_4 + 1)), (by first | rfl | (simp; done) | (simp [*]; done)), H', ⟨by have := HJ4.out; have := HJ20.out; have := HK3.out; have := HK4.out; omega⟩, ⟨by (with_reducible repeat (first | apply Kd.R_alloc | apply Kd.R_drewN | apply Kd.R_drew)); exact HO_4.out⟩, ⟨by (with_reducible repeat (first | apply Kd.N_alloc | apply Kd.N_drewN | apply Kd.N_drew)); exact HO_6.out⟩, ⟨by (with_reducible repeat (first | apply Kd.R_alloc | apply Kd.R_drewN | apply Kd.R_drew)); exact HO_430001.out⟩, ⟨by (with_reducible repeat (first | refine blk_drewN ?_ _ | refine blk_drew ?_ | refine blk_alloc ?_ _)); exact BK429.out⟩, ⟨by repeat (first | (with_reducible first | exact HB.out | apply below_alloc | apply pw_below_drewN | apply below_drew1 | refine below_set ?_ GE429.out) | exact HB.out)⟩⟩
                            · rw [if_neg c55] at H
                              exact absurd H (by simp)
                          · rw [if_neg c54] at H
                            have c54b0 : (((rd_T24 x4_4 x14_4).f1) == 0) = false := beq_eq_false_iff_ne.mpr c54
                            have c54b1 : (((rd_T24 x4_4 x14_4).f1) != 0) = true := bne_iff_ne.mpr c54
                            have H' := Aside0.mk H
                            clear H
                            have p448 : 0 ≤ (x14_4 : Int) := of_decide_eq_true (by first | (with_reducible assumption) | assumption)
                            have q448 : x14_4 < (x4_4.length : Int) := of_decide_eq_true (by first | (with_reducible assumption) | assumption)
                            obtain ⟨ad448, e448, hx448_0, hx448_1, hx448_2⟩ := at_T24 (Kd.R_reads' HO_4.out).2.2 x14_4 p448 q448
                            cases e448
                            replace p448 := eq_true p448
                            replace q448 := eq_true q448
                            go_wp2
                            go_roundg k4
                            case measure => have := HJ4.out; have := HJ20.out; have := HK3.out; have := HK4.out; omega
                            case rel => exact ⟨(wrap64 (x14_4 + 1)), (by first | rfl | (simp; done) | (simp [*]; done)), H', ⟨by have := HJ4.out; have := HJ20.out; have := HK3.out; have := HK4.out; omega⟩, ⟨by (with_reducible repeat (first | apply Kd.R_alloc | apply Kd.R_drewN | apply Kd.R_drew)); exact HO_4.out⟩, ⟨by (with_reducible repeat (first | apply Kd.N_alloc | apply Kd.N_drewN | apply Kd.N_drew)); exact HO_6.out⟩, ⟨by (with_reducible repeat (first | apply Kd.R_alloc | apply Kd.R_drewN | apply Kd.R_drew)); exact HO_430001.out⟩, ⟨by (with_reducible repeat (first | refine blk_drewN ?_ _ | refine blk_drew ?_ | refine blk_alloc ?_ _)); exact BK429.out⟩, ⟨by repeat (first | (with_reducible first | exact HB.out | apply below_alloc | apply pw_below_drewN | apply below_drew1 | refine below_set ?_ GE429.out) | exact HB.out)⟩⟩
                        · rw [if_neg c53] at H
                          exact absurd H (by simp)
                      · rw [if_neg c52] at H
                        have c52b0 : decide (x14_4 < (x4_4.length : Int)) = false := decide_eq_false c52
                        clear c52
                        replace H := Option.bind_eq_some_iff.mp H
                        obtain ⟨t453, A640, H⟩ := H
                        replace H : (some t453) = some r := H
                        have A64 := Aside0.mk A640
                        clear A640
                        obtain rfl := Option.some.inj H
                        go_wp2_with (first | ((with_reducible refine gate_callee (f := 17) rfl ?_); refine goesL_ (some 137) rfl rfl Try.func17 (by kernel_rfl) rfl #[] rfl (by (try simp only [List.map_toArray, List.map_cons, List.map_nil]); first | done | rfl | (simp only [List.length_drop, List.length_take]; rfl)) ?_; (with_reducible refine (cippuslaw07_found.calls k4  t453 _ A64.out).mono ?_); rintro e w65 ⟨rfl, hb⟩; refine ⟨_, rfl, ?_⟩; have n0_ := Aside0.mk (Kd.R_below (by (with_reducible repeat (first | apply Kd.R_alloc | apply Kd.R_drewN | apply Kd.R_drew)); exact HO_4.out) hb); have n1_ := Aside0.mk (Kd.N_below (by (with_reducible repeat (first | apply Kd.N_alloc | apply Kd.N_drewN | apply Kd.N_drew)); exact HO_6.out) hb); have n2_ := Aside0.mk (Kd.R_below (by (with_reducible repeat (first | apply Kd.R_alloc | apply Kd.R_drewN | apply Kd.R_drew)); exact HO_430001.out) hb); have n3_ := Aside0.mk (blk_below (g := gb429) (o := .cells #[.string t423, .slice Ao11 t424.length co11] 27 (0, 0)) (by (with_reducible repeat (first | refine blk_drewN ?_ _ | refine blk_drew ?_ | refine blk_alloc ?_ _)); exact BK429.out) hb); have n4_ := Aside0.mk (below_step (by repeat (first | (with_reducible first | exact HB.out | apply below_alloc | apply pw_below_drewN | apply below_drew1 | refine below_set ?_ GE429.out) | exact HB.out)) hb); clear HO_4; clear HO_6; clear HO_430001; clear BK429; clear HB; have HO_4 := n0_; have HO_6 := n1_; have HO_430001 := n2_; have BK429 := n3_; have HB := n4_; clear n0_ n1_ n2_ n3_ n4_; (try clear hb); (try clear hb2); (try clear hk); (try clear hi)))
                        go_ret
                        exact ⟨by first | rfl | (simp [errW_none, errW_some] <;> rfl) | (simp [*, errW_none, errW_some] <;> rfl), by repeat (first | (with_reducible first | exact HB.out | apply below_alloc | apply pw_below_drewN | apply below_drew1 | refine below_set ?_ GE429.out) | exact HB.out)⟩
def cippuslaw07_StemmaAgreed.Pure : Prop := ∀ (l0 : List Int), l0.length ≤ maxLen → l0.length * 8 ≤ 140737488351232 → (∀ x ∈ l0, (Lit.int .i64 x).wf = true) → ∃ k, cippuslaw07_StemmaAgreed.f k l0 = some true
theorem cippuslaw07_StemmaAgreed.walk (P : cippuslaw07_StemmaAgreed.Pure) (a0 : Option Addr) (len0 cap0 : Nat) (z0 : List Int) (w : World) (w0 : (a0 = none ∧ len0 = 0 ∧ cap0 = 0 ∧ z0 = []) ∨ ∃ x, a0 = some x ∧ len0 ≤ cap0 ∧ cap0 ≤ maxLen ∧ z0.length = cap0 ∧ (∀ i, i < z0.length → w.cell? (x.add i) = some (.int .i64 (z0.getD i 0))) ∧ ∀ n ∈ z0, (Lit.int .i64 n).wf = true) (y0 : len0 * 8 ≤ 140737488351232) :
    Calls Try.prog 6 #[.slice a0 len0 cap0] w fun e w' => e = .returned (.bool true) ∧ Below w.heap.size w w' := by
  obtain ⟨l0, rfl, hr0, hm0, hw0, hc0⟩ := ReadsInt.ofRowC w0
  obtain ⟨k, h⟩ := P l0 hm0 y0 hw0
  refine (cippuslaw07_StemmaAgreed.calls k _ _ l0 true w (Kd.C_of_reads (d := (0 : Int)) (h1 := fun _ => rfl) hr0) hc0 h).mono ?_
  rintro e w' ⟨rfl, hd⟩
  exact ⟨rfl, hd⟩
end Go.Proofs.Ytegjollhajgcdaa.P
namespace Go.Proofs.Ytegjollhajgcdaa.Pure
open Go.RowKit Go.Proofs.Ytegjollhajgcdaa.P Go.Proofs.Ytegjollhajgcdaa.P.OwnSt Go.Proofs.YtegjollhajgcdaaW.PrintWords Go.Proofs.YtegjollhajgcdaaW.PrintLast
set_option linter.unusedVariables false
set_option linter.unusedSimpArgs false
theorem bt_left (a b : ByteArray) (p : Nat) (hp : p < a.size) : bt (a ++ b) (p : Int) = bt a (p : Int) := by
  rw [← bt_at (a ++ b) (p : Int) (by rw [ByteArray.size_append, Int.toNat_natCast]; omega), ← bt_at a (p : Int) (by simpa using hp)]
  simp only [Int.toNat_natCast]
  rw [ByteArray.getElem_append_left hp]
theorem bt_right (a b : ByteArray) (hb : b.size = 1) : bt (a ++ b) (a.size : Int) = bt b 0 := by
  rw [← bt_at (a ++ b) (a.size : Int) (by rw [ByteArray.size_append, Int.toNat_natCast]; omega), ← bt_at b 0 (by rw [hb]; decide)]
  simp only [Int.toNat_natCast, Int.toNat_zero]
  rw [ByteArray.getElem_append_right (Nat.le_refl _)]
  simp
theorem bytes_ext (a b : ByteArray) (h : a.size = b.size) (hb : ∀ p : Nat, p < a.size → bt a (p : Int) = bt b (p : Int)) : a = b := by
  have hd : a.data = b.data := by
    apply Array.ext
    · exact h
    · intro i h1 h2
      have h3 := hb i h1
      rw [← bt_at a (i : Int) (by simpa using h1), ← bt_at b (i : Int) (by simpa using h2)] at h3
      simp only [Int.toNat_natCast] at h3
      have h4 : (a[i]'h1).toNat = (b[i]'h2).toNat := by omega
      exact UInt8.toNat_inj.1 h4
  cases a
  cases b
  simp at hd
  rw [hd]
def PrintOk (l : List S24) (out : ByteArray) (n : Nat) : Prop := out.size = n ∧ ∀ p : Nat, p < n → bt out (p : Int) = if (letterRow l p).size = 1 then bt (letterRow l p) 0 else 45
theorem row_pos {l : List S24} (hv : Valid l) (hk : knownE l = 0) (p : Nat) (hp : p < (rd_T24 l 0).f0.size) : 1 ≤ (letterRow l p).size := by
  obtain ⟨s, hs⟩ : ∃ s, s ∈ knownV l := List.exists_mem_of_ne_nil _ (knownE_zero hk).2
  obtain ⟨h1, t, ht⟩ := (known_iff hv s).1 hs
  have hg := ht.1 p
  obtain ⟨j, hj⟩ : ∃ j : Nat, t p = 65 + (j : Int) := ⟨(t p - 65).toNat, by omega⟩
  have hm := (mayAt_iff hv p j hp).2 ⟨s, t, h1, ht, hj⟩
  have hmem := mem_mask.2 ⟨j, by omega, hm, rfl⟩
  unfold letterRow
  rw [strOfNums_size]
  exact List.length_pos_of_mem hmem
theorem print_l0 {l : List S24} (hv : Valid l) (hk : knownE l = 0) : ∀ (rem p : Nat) (out : ByteArray), p + rem = (rd_T24 l 0).f0.size → PrintOk l out p →
    ∃ o, Ev (fun k => stemma_Print.l0 k out (lettersV l).1 ((rd_T24 l 0).f0.size : Int) (p : Int)) (o, 0) ∧ PrintOk l o (rd_T24 l 0).f0.size := by
  intro rem
  have h8 := hv.high
  have hl : (lettersV l).1.length = (rd_T24 l 0).f0.size := by unfold lettersV; rw [if_pos hk]; simp
  induction rem with
  | zero =>
    intro p out hp ho
    refine ⟨out, Ev.step (fun k => by rw [stemma_Print.l0]) (Ev.if_neg' (by omega) (Ev.now _)), ?_⟩
    rw [show p = (rd_T24 l 0).f0.size by omega] at ho
    exact ho
  | succ rem ih =>
    intro p out hp ho
    have hr := textsV l hk p (by omega)
    have hs := letterRow_size l p
    have hpos := row_pos hv hk p (by omega)
    have hnext : ∀ b : ByteArray, b.size = 1 → (bt b 0 = if (letterRow l p).size = 1 then bt (letterRow l p) 0 else 45) → PrintOk l (out ++ b) (p + 1) := fun b h1 h2 => by
      refine ⟨by rw [ByteArray.size_append, ho.1, h1], fun q hq => ?_⟩
      by_cases e : q = p
      · subst e
        rw [← ho.1] at h2 ⊢
        rw [bt_right out b h1, h2]
      · rw [bt_left out b q (by rw [ho.1]; omega)]
        exact ho.2 q (by omega)
    have hosz := ho.1
    by_cases h1 : (letterRow l p).size = 1
    · obtain ⟨o, e, h2⟩ := ih (p + 1) (out ++ letterRow l p) (by omega) (hnext _ h1 (by rw [if_pos h1]))
      refine ⟨o, Ev.step (fun k => by rw [stemma_Print.l0]) ?_, h2⟩
      rw [hr]
      refine Ev.if_pos' (by omega) (Ev.if_pos' (by omega) (Ev.if_pos' (by omega) (Ev.if_neg' (by omega) (Ev.if_pos' (by omega) ?_))))
      rw [show wrap64 ((p : Int) + 1) = ((p + 1 : Nat) : Int) by rw [wrap64_small (by omega) (by omega)]; omega]
      exact e
    · obtain ⟨o, e, h2⟩ := ih (p + 1) (out ++ (⟨#[45]⟩ : ByteArray)) (by omega) (hnext _ rfl (by rw [if_neg h1]; rfl))
      refine ⟨o, Ev.step (fun k => by rw [stemma_Print.l0]) ?_, h2⟩
      rw [hr]
      refine Ev.if_pos' (by omega) (Ev.if_pos' (by omega) (Ev.if_pos' (by omega) (Ev.if_pos' (by omega) (Ev.if_pos' (by omega) ?_))))
      rw [show wrap64 ((p : Int) + 1) = ((p + 1 : Nat) : Int) by rw [wrap64_small (by omega) (by omega)]; omega]
      exact e
theorem print_ev {l : List S24} (hv : Valid l) (hk : knownE l = 0) : ∃ o, Ev (fun k => stemma_Print.f k l) (o, 0) ∧ PrintOk l o (rd_T24 l 0).f0.size := by
  obtain ⟨o, e, h⟩ := print_l0 hv hk (rd_T24 l 0).f0.size 0 ⟨#[]⟩ (by omega) ⟨rfl, fun p hp => by omega⟩
  have hl : (lettersV l).1.length = (rd_T24 l 0).f0.size := by unfold lettersV; rw [if_pos hk]; simp
  refine ⟨o, ?_, h⟩
  unfold stemma_Print.f stemma_Letters.f
  simp only [Option.bind_some]
  refine Ev.if_pos' (by unfold lettersV; rw [if_pos hk]) ?_
  rw [hl]
  simpa using e
theorem sure_letter {l : List S24} (hv : Valid l) (hk : knownE l = 0) (i : Nat) (hi : i < l.length) (he : (rd_T24 l (i : Int)).f1 = 0) (hs : verdictI ((knownV l).countP (srcP i 0)) (knownV l).length = 1) (p : Nat) (hp : p < (rd_T24 l 0).f0.size) :
    (letterRow l p).size = 1 ∧ bt (letterRow l p) 0 = bt (rd_T24 l (i : Int)).f0 (p : Int) := by
  have hall : ∀ s ∈ knownV l, s i = -1 := by
    unfold verdictI at hs
    split at hs
    · rename_i h
      intro s hm
      have := List.countP_eq_length.1 h s hm
      unfold srcP at this
      simpa using this
    · split at hs <;> cases hs
  have hlet : ∀ j, mayAt l p j = true → 65 + (j : Int) = bt (rd_T24 l (i : Int)).f0 (p : Int) := by
    intro j hj
    obtain ⟨s, t, h1, h2, h3⟩ := (mayAt_iff hv p j hp).1 hj
    have hsi := hall s ((known_iff hv s).2 ⟨h1, t, h2⟩)
    have h4 := h2.2 i hi
    rw [he] at h4
    have h5 := hsum_nonneg (l := l) (fs := s) t i (rd_T24 l 0).f0.size 0
    have h6 : hsum l s t i (rd_T24 l 0).f0.size 0 = 0 := by
      by_cases e : hsum l s t i (rd_T24 l 0).f0.size 0 = 0
      · exact e
      · have := h4 e; omega
    have hz : ∀ rem q, hsum l s t i rem q = 0 → ∀ x, q ≤ x → x < q + rem → hit l s (x : Int) (t x) i = false := by
      intro rem
      induction rem with
      | zero => intro q _ x h1 h2; omega
      | succ rem ih =>
        intro q h0 x hx1 hx2
        unfold hsum at h0
        have h7 := hsum_nonneg (l := l) (fs := s) t i rem (q + 1)
        by_cases hh : hit l s (q : Int) (t q) i = true
        · rw [if_pos hh] at h0; omega
        · rw [if_neg hh] at h0
          by_cases e : x = q
          · subst e; simpa using hh
          · exact ih (q + 1) (by omega) x (by omega) (by omega)
    have h8 := hz _ 0 h6 p (by omega) (by omega)
    unfold hit at h8
    rw [hsi] at h8
    simp at h8
    rw [← h3, h8]
  obtain ⟨j, hj26, hj, hb⟩ : ∃ j : Nat, j < 26 ∧ mayAt l p j = true ∧ bt (letterRow l p) 0 = 65 + (j : Int) := by
    have := bt_mask (mayAt l p) 0 (by have := row_pos hv hk p hp; unfold letterRow at this; omega)
    simpa [letterRow] using this
  refine ⟨?_, by rw [hb]; exact hlet j hj⟩
  unfold letterRow
  rw [strOfNums_size]
  unfold maskLetters
  rw [List.length_map]
  have hone : (List.range 26).filter (mayAt l p) = (List.range 26).filter (fun x => x == j) := by
    refine List.filter_congr fun x hx => ?_
    rw [Bool.eq_iff_iff]
    constructor
    · intro h
      have h1 := hlet x h
      have h2 := hlet j hj
      have : x = j := by omega
      simp [this]
    · intro h
      have : x = j := by simpa using h
      rw [this]; exact hj
  rw [hone]
  have hcount : ∀ n, ((List.range n).filter fun x => x == j).length = if j < n then 1 else 0 := by
    intro n
    induction n with
    | zero => simp
    | succ n ih =>
      rw [List.range_succ, List.filter_append, List.length_append, ih]
      by_cases e : n = j
      · subst e; simp
      · by_cases e2 : j < n
        · simp [e, e2, show j < n + 1 by omega]
        · simp [e, e2, show ¬ j < n + 1 by omega]
  rw [hcount, if_pos hj26]
section
variable {er : Int} {st : ByteArray} {l : List S24} {src : List Int}
theorem agreed_l1 (h : MadeT er st l src) (out : ByteArray) (ho : PrintOk l out (rd_T24 l 0).f0.size) : ∀ rem i, i + rem = l.length → Ev (fun k => cippuslaw07_StemmaAgreed.l1 k l (sourcesV l).1 out (i : Int)) true := by
  intro rem
  have h5 := h.five
  have hk := h.knownE
  have hl : (sourcesV l).1.length = l.length := by unfold sourcesV; rw [if_pos hk]; simp
  induction rem with
  | zero =>
    intro i hi
    refine Ev.step (fun k => by rw [cippuslaw07_StemmaAgreed.l1]) ?_
    exact Ev.if_neg' (by omega) (Ev.bind found_ev (Ev.now _))
  | succ rem ih =>
    intro i hi
    have hn := ih (i + 1) (by omega)
    refine Ev.step (fun k => by rw [cippuslaw07_StemmaAgreed.l1]) ?_
    rw [rowsV l hk i (by omega), show wrap64 ((i : Int) + 1) = ((i + 1 : Nat) : Int) by rw [wrap64_small (by omega) (by omega)]; omega]
    have hr : (srcRow l i).length = i + 1 := by simp [srcRow]
    refine Ev.if_pos' (by omega) (Ev.if_pos' (by omega) ?_)
    by_cases e : (rd_T24 l (i : Int)).f1 = 0
    · refine Ev.if_pos' e (Ev.if_pos' (by omega) (Ev.if_pos' (by omega) (Ev.if_pos' (by omega) ?_)))
      have hrv := rowV l i 0 (by omega)
      by_cases e2 : verdictI ((knownV l).countP (srcP i 0)) (knownV l).length = 1
      · refine Ev.if_pos' (by rw [show (0 : Int) = ((0 : Nat) : Int) from rfl, hrv]; exact e2) (Ev.if_pos' ?_ hn)
        have : out = (rd_T24 l (i : Int)).f0 := bytes_ext _ _ (by rw [ho.1, h.valid.size i (by omega)]) (fun p hp => by
          rw [ho.1] at hp
          have hsl := sure_letter h.valid hk i (by omega) e e2 p hp
          rw [ho.2 p hp, if_pos hsl.1]
          exact hsl.2)
        rw [this]
      · exact Ev.if_neg' (by rw [show (0 : Int) = ((0 : Nat) : Int) from rfl, hrv]; exact e2) hn
    · exact Ev.if_neg' e hn
theorem agreed_l0 (h : MadeT er st l src) (out : ByteArray) (ho : PrintOk l out (rd_T24 l 0).f0.size) : ∀ rem p, p + rem = (rd_T24 l 0).f0.size → Ev (fun k => cippuslaw07_StemmaAgreed.l0 k l (sourcesV l).1 (lettersV l).1 out (p : Int)) true := by
  intro rem
  have h8 := h.valid.high
  have hk := h.knownE
  have hl : (lettersV l).1.length = (rd_T24 l 0).f0.size := by unfold lettersV; rw [if_pos hk]; simp
  have hos := ho.1
  induction rem with
  | zero =>
    intro p hp
    refine Ev.step (fun k => by rw [cippuslaw07_StemmaAgreed.l0]) ?_
    exact Ev.if_neg' (by omega) (by simpa using agreed_l1 h out ho l.length 0 (by omega))
  | succ rem ih =>
    intro p hp
    have hn := ih (p + 1) (by omega)
    refine Ev.step (fun k => by rw [cippuslaw07_StemmaAgreed.l0]) ?_
    rw [textsV l hk p (by omega), show wrap64 ((p : Int) + 1) = ((p + 1 : Nat) : Int) by rw [wrap64_small (by omega) (by omega)]; omega]
    refine Ev.if_pos' (by omega) (Ev.if_pos' (by omega) (Ev.if_pos' (by omega) ?_))
    by_cases e : (letterRow l p).size = 1
    · exact Ev.if_pos' (by omega) (Ev.if_pos' (by omega) (Ev.if_pos' (by rw [ho.2 p (by omega), if_pos e]) hn))
    · exact Ev.if_neg' (by omega) (Ev.if_pos' (by rw [ho.2 p (by omega), if_neg e]) hn)
theorem agreed_j0 (h : MadeT er st l src) (q : List Int) : Ev (fun k => cippuslaw07_StemmaAgreed.j0 k l st q) true := by
  have hk := h.knownE
  have hfirst := h.first
  obtain ⟨out, e, ho⟩ := print_ev h.valid hk
  have s1 : (sourcesV l).2 = 0 := by unfold sourcesV; rw [if_pos hk]
  have s2 : (lettersV l).2 = 0 := by unfold lettersV; rw [if_pos hk]
  have s4 : (sourcesV l).1.length = l.length := by unfold sourcesV; rw [if_pos hk]; simp
  have s5 : (lettersV l).1.length = (rd_T24 l 0).f0.size := by unfold lettersV; rw [if_pos hk]; simp
  have hos := ho.1
  refine Ev.step (fun k => by rw [cippuslaw07_StemmaAgreed.j0]) ?_
  unfold stemma_Sources.f stemma_Letters.f
  simp only [Option.bind_some]
  refine Ev.bind e ?_
  refine Ev.if_pos' s1 (Ev.if_pos' s2 (Ev.if_pos' (by trivial) (Ev.if_pos' (by omega) (Ev.if_pos' (by show ((lettersV l).1.length : Int) = (out.size : Int); omega) ?_))))
  refine Ev.step (fun k => by rw [cippuslaw07_StemmaAgreed.j1]) ?_
  refine Ev.if_neg' (by show ¬ ((out.size : Int) != (st.size : Int)) = true; rw [hos, hfirst]; simp) ?_
  simpa using agreed_l0 h out ho (rd_T24 l 0).f0.size 0 (by omega)
end
theorem StemmaAgreed : cippuslaw07_StemmaAgreed.Pure := by
  intro l0 hl _ _
  obtain ⟨a, b, e1⟩ := newUrn_ok l0 (by have : maxLen = 9223372036854775807 := rfl; omega)
  obtain ⟨l, st, src, a2, b2, e2, h, hn, hp⟩ := copiesOf_made a b 4 6 1 (by omega) (by omega) (by omega) (by omega) (by omega) (by omega)
  obtain ⟨o, a3, b3, e3⟩ := odds_ok a2 b2 1 2 (by omega)
  refine Ev.rounds ?_
  unfold cippuslaw07_StemmaAgreed.f cippuskit_NewUrn.f cippuskit_CopiesOf.f
  rw [e1]
  simp only [Option.bind_some, e2, e3]
  by_cases ho : o = true
  · refine Ev.if_pos' ho (Ev.if_pos' (by omega) ?_)
    have h2 : MadeT 1 st (l ++ [⟨st, 0, true⟩]) (src ++ [-1]) := by
      refine ⟨h.made.snoc ⟨st, 0, true⟩ (-1) ⟨h.letters, rfl⟩ ⟨Int.le_refl _, show (0 : Int) ≤ 1 by decide⟩ ⟨Int.le_refl _, by omega⟩ (fun _ => rfl) ?_, h.er0, h.er3, by simp, by simp; omega, h.low, h.high, h.letters⟩
      unfold fromOf
      rw [if_pos (by omega)]
      have : ∀ n, apN st st n = 0 := by
        intro n
        induction n with
        | zero => simp [apN]
        | succ n ih => rw [apN_succ, ih, if_pos rfl]; rfl
      rw [this]
      exact Int.le_refl _
    exact agreed_j0 h2 src
  · exact Ev.if_neg' ho (agreed_j0 h src)
end Go.Proofs.Ytegjollhajgcdaa.Pure
namespace Go.Proofs.YtegjollhajgcdaaW.PrintWords
open Go.ChangeShapes Go.WideShapes
theorem sized_ints {H : Type} {enc : TypeId × Value → H} {P : Program} {W : World} {base : Nat} {spare : Nat → Bool} {held : Bool} {t e : TypeId} {k : IntKind} {a : Option Addr} {len cap : Nat} {d : DataW H} {ps : List MemPlace} {ts : List TypeId} {ds : List (DataW H)} {j : Nat}
    (hsz : (DataW.weightsEach P ts ds).all (· ≤ reachBytes) = true) (ht : ts[j]? = some t) (hd : ds[j]? = some d) (hu : P.underlying t = some (.slice e)) (he : P.underlying e = some (.int k)) (hc : P.cellsOf e = 1) {B : Nat} (hB : P.bytesOf e = B)
    (h : DataW.Trod enc P W base spare held t (.slice a len cap) d ps) : len * B ≤ 140737488351232 := by
  obtain ⟨fuel, hf⟩ := h
  rcases open_ints hu he hc hf with ⟨hcs, _⟩ | ⟨x, l, c, zs, hcs, _, hl, _, hz, hx, _, _⟩
  · simp [Value.cells] at hcs
    obtain ⟨rfl, rfl, rfl⟩ := hcs
    simp
  · simp [Value.cells] at hcs
    obtain ⟨rfl, rfl, rfl⟩ := hcs
    obtain ⟨hx, _⟩ := Prod.mk.inj hx
    subst hx
    have z := sized_slice hsz ht hd hu
    rw [hB] at z
    have hl2 : len ≤ zs.length := by
      rw [hz]
      split
      · exact hl
      · exact Nat.le_refl _
    have h1 : (lits (H := H) k (zs.take len)).length + (lits (H := H) k (zs.drop len)).length = zs.length := by
      simp [lits]
      omega
    rw [h1] at z
    exact Nat.le_trans (Nat.mul_le_mul_right _ hl2) z
end Go.Proofs.YtegjollhajgcdaaW.PrintWords
namespace Go.Proofs.Ytegjollhajgcdaa.stemmaAgreed
open Go.ChangeShapes Go.WideShapes Go.ChangeAt Go.RowKit
open Go.ChangeMaps (open_string shut_string)
set_option linter.unusedVariables false
theorem own : ownKnob Try.prog.godebug = none := by kernel_rfl
theorem laidOut : laidOutB Try.prog = true := by kernel_rfl
def IsRow (k : IntKind) (w : World) (a : Option Addr) (len cap : Nat) (zs : List Int) : Prop :=
  (a = none ∧ len = 0 ∧ cap = 0 ∧ zs = []) ∨
  ∃ x, a = some x ∧ len ≤ cap ∧ cap ≤ maxLen ∧ zs.length = cap ∧ (∀ i, i < zs.length → w.cell? (x.add i) = some (.int k (zs.getD i 0))) ∧ ∀ n ∈ zs, (Lit.int k n).wf = true
set_option maxRecDepth 100000 in
theorem lifted (os : Os) (started : os.Started) (H : Type) (enc : TypeId × Value → H) :
    ReturnsInHanded {} Try.checked os 6 .any (Rows.stemmaAgreedSpec.pre6 enc Try.prog Try.f6 Rows.stemmaAgreedRow.domain false) (Rows.stemmaAgreedSpec.post enc Try.prog Try.f6 false true false false) := by
  refine returnsInHanded_of_change_sized (C := Try.checked) own started (by kernel_rfl) Try.func6
    (ChangeSpec.witness6 (enc := enc) (C := Try.checked) false ⟨#[], #[.slice none 0 0], []⟩ 8 (by kernel_rfl) (by kernel_rfl) (by kernel_rfl) (by kernel_rfl)) ?_
  intro W base args ds gs before hval0 hW hcnd hsz0 _
  have hsz : (DataW.weightsEach Try.prog (Try.f6.params.toList ++ Rows.stemmaAgreedSpec.plain.varTypes Try.prog) (ds ++ gs)).all (· ≤ reachBytes) = true := hsz0
  have hval : ∀ (j : Nat) t v, Try.f6.params[j]? = some t → args[j]? = some v → Value.okWide Try.prog W .any base t v := hval0
  have hW' := hW
  obtain ⟨p, q, hA0, hV, rfl, hfz, hnd⟩ := hW
  have hA : DataW.TrodAll enc Try.prog W 0 (fun _ => true) true Try.f6.params.toList args.toList ds p := hA0
  rw [Try.params6] at hA hval hsz
  obtain ⟨v0, vs0, d0, ds0, p0, q0, hargs, rfl, rfl, h0, r0⟩ := trodAll_cons hA
  obtain ⟨rfl, rfl, rfl⟩ := trodAll_nil r0
  obtain rfl : args = #[v0] := by cases args; simp_all
  obtain ⟨rfl, rfl⟩ := trodVars_none hV
  obtain ⟨a0, len0, cap0, rfl⟩ := okWide_slice Try.underlying25 (hval 0 25 v0 rfl rfl)
  have k0 := h0
  have lt0 : ∀ x ∈ p0, x.block < W.heap.size := by obtain ⟨m, hm⟩ := k0; exact DataW.trod_lt m _ _ _ hm
  obtain ⟨z0, w0⟩ : ∃ zs, IsRow .i64 W a0 len0 cap0 zs := by
    obtain ⟨fuel, hf⟩ := h0
    rcases open_ints Try.underlying25 Try.underlying3 (by kernel_rfl) hf with ⟨hcs, _⟩ | ⟨x, l, c, zs, hcs, _, hl, hm, hz, _, hcell, hwz⟩
    · simp [Value.cells] at hcs
      obtain ⟨rfl, rfl, rfl⟩ := hcs
      exact ⟨[], .inl ⟨rfl, rfl, rfl, rfl⟩⟩
    · simp [Value.cells] at hcs
      obtain ⟨rfl, rfl, rfl⟩ := hcs
      exact ⟨zs, .inr ⟨_, rfl, hl, hm, by simpa using hz, hcell, hwz⟩⟩
  have y0 : len0 * 8 ≤ 140737488351232 := Go.Proofs.YtegjollhajgcdaaW.PrintWords.sized_ints hsz (j := 0) (t := 25) rfl rfl Try.underlying25 Try.underlying3 (by kernel_rfl) (by kernel_rfl) h0
  clear hA0 hval0 hsz0 hsz
  refine (P.cippuslaw07_StemmaAgreed.walk Pure.StemmaAgreed a0 len0 cap0 z0 W w0 y0).mono fun e W' ⟨he, bel⟩ => ?_
  subst he
  exact ⟨_, rfl, _, _, _, [], _, [], hW', trodAll_mk1 (shut_bool Try.underlying4 _), (trodAll_cons_mk (Below.trod laidOut (by kernel_rfl) (of_decide_eq_true (by kernel_rfl)) k0 bel lt0) trodAll_mk0), rfl, bel.frame _, fun h => by cases h⟩
theorem over : Rows.stemmaAgreedRow.holds Try.pinned (OpenSpec.ofChange Rows.stemmaAgreedSpec) :=
  OpenClaim.holds_of_wide 6 Try.f6 rfl rfl rfl rfl rfl rfl rfl ⟨rfl, rfl, rfl, rfl, rfl⟩ rfl rfl rfl rfl rfl (by kernel_rfl) Try.func6 (by kernel_rfl)
    (of_decide_eq_true (by kernel_rfl)) (by unfold Func.isWrapper; first | (rw [if_pos (by decide +kernel)]; kernel_rfl) | (rw [if_neg (by decide +kernel)]; exact ⟨rfl, rfl⟩))
    (fun os started H enc _ => lifted os started H enc)
theorem proved : Rows.StemmaAgreedSaid := over
#print axioms proved
end Go.Proofs.Ytegjollhajgcdaa.stemmaAgreed
namespace Go.Proofs.Ytegjollhajgcdaa
theorem stemmaAgreed_holds : Rows.StemmaAgreedSaid := stemmaAgreed.proved
end Go.Proofs.Ytegjollhajgcdaa
