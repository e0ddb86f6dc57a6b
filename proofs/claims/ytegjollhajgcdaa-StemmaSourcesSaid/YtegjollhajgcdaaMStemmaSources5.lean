/- Lemmas for the statement StemmaSources of the given program, for every input that its row lets in. Conditions: none beyond those that each lemma tells. -/
import Derived.Lib.Hide
import Derived.Deep.AppendLies
import Derived.WalkKit
import Derived.Deep.RegionHeld3
import Derived.Deep.RegionWith
import Derived.Deep.RegionLaw
import Derived.StillTailTactics
import Derived.Deep.DeepCutAuto
import Derived.WalkSpells
import Derived.Test.YtegjollhajgcdaaMStemmaSources4
set_option linter.unusedVariables false
set_option linter.unusedSimpArgs false
namespace Go.Proofs.Ytegjollhajgcdaa.P
open Go.RowKit Go.Proofs.YtegjollhajgcdaaW.PrintWords Go.Proofs.YtegjollhajgcdaaW.PrintLast Go.Proofs.YtegjollhajgcdaaW.PrintMore
attribute [local go_sem] max2_int min2_int max_two min_two max_three min_three max_four min_four   -- for this text's walks alone
set_option linter.unusedVariables false
set_option linter.unusedSimpArgs false
def cippuslaw07_found.f (k : Nat)  : Option (Bool) := (cippuslaw07_copies.f 1 1 true).bind fun t268 => ((stemma_Sources.f k t268).bind fun bt271 => ((cippuslaw07_copies.f 1 0 true).bind fun t275 => ((stemma_Print.f k t275).bind fun bt278 => ((cippuslaw07_copies.f 0 1 true).bind fun t280 => ((stemma_Print.f k t280).bind fun bt283 => ((cippuslaw07_copies.f 1 0 true).bind fun t285 => ((stemma_Fewest.f k t285).bind fun bt288 => (if bt271.2 = 0 then (if bt278.2 = 0 then (if bt283.2 = 0 then (if bt288.2 = 0 then (if bt278.1.toList = ([65, 82, 77, 79] : List UInt8) then (if bt283.1.toList = ([65, 82, 77, 65] : List UInt8) then (if bt288.1 = 2 then ((cippuskit_SameGrids.f k bt271.1 (([(([1] : List Int)), (([3, 3] : List Int)), (([2, 2, 1] : List Int))] : List (List Int)))).bind fun t302 => (some t302)) else (some false)) else (some false)) else (some false)) else (some false)) else (some false)) else (some false)) else (some false)))))))))
theorem cippuslaw07_found.mono : ∀ k, LeO (cippuslaw07_found.f k ) (cippuslaw07_found.f (k + 1) ) := by
  intro  k
  unfold cippuslaw07_found.f
  repeat' first
      | (with_reducible exact cippuskit_SameGrids.mono _ _ _)
      | (with_reducible exact stemma_Fewest.mono _ _)
      | (with_reducible exact stemma_Print.mono _ _)
      | (with_reducible exact stemma_Sources.mono _ _)
      | (with_reducible exact LeO.refl _)
      | (with_reducible exact LeO.none _)
      | (with_reducible refine LeO.ite ?_ ?_)
      | (with_reducible refine LeO.bind ?_ (fun _ => ?_))
      | exact cippuskit_SameGrids.mono _ _ _
      | exact stemma_Fewest.mono _ _
      | exact stemma_Print.mono _ _
      | exact stemma_Sources.mono _ _
      | exact LeO.none _
      | refine LeO.ite ?_ ?_
      | refine LeO.bind ?_ (fun _ => ?_)
set_option maxHeartbeats 8000000 in
set_option maxRecDepth 100000 in
theorem cippuslaw07_found.calls (k : Nat)  (r : Bool) (w : World) (h : cippuslaw07_found.f k  = some r) :
    Calls Try.prog 17 #[] w fun e w' => e = .returned (.bool r) ∧ Below w.heap.size w w' := by
  have HB := Aside0.mk (Below.refl w.heap.size w)
  have H : ((cippuslaw07_copies.f 1 1 true).bind fun t268 => ((stemma_Sources.f k t268).bind fun bt271 => ((cippuslaw07_copies.f 1 0 true).bind fun t275 => ((stemma_Print.f k t275).bind fun bt278 => ((cippuslaw07_copies.f 0 1 true).bind fun t280 => ((stemma_Print.f k t280).bind fun bt283 => ((cippuslaw07_copies.f 1 0 true).bind fun t285 => ((stemma_Fewest.f k t285).bind fun bt288 => (if bt271.2 = 0 then (if bt278.2 = 0 then (if bt283.2 = 0 then (if bt288.2 = 0 then (if bt278.1.toList = ([65, 82, 77, 79] : List UInt8) then (if bt283.1.toList = ([65, 82, 77, 65] : List UInt8) then (if bt288.1 = 2 then ((cippuskit_SameGrids.f k bt271.1 (([(([1] : List Int)), (([3, 3] : List Int)), (([2, 2, 1] : List Int))] : List (List Int)))).bind fun t302 => (some t302)) else (some false)) else (some false)) else (some false)) else (some false)) else (some false)) else (some false)) else (some false)))))))))) = some r := h
  clear h
  replace H := Option.bind_eq_some_iff.mp H
  obtain ⟨t268, A10, H⟩ := H
  replace H : ((stemma_Sources.f k t268).bind fun bt271 => ((cippuslaw07_copies.f 1 0 true).bind fun t275 => ((stemma_Print.f k t275).bind fun bt278 => ((cippuslaw07_copies.f 0 1 true).bind fun t280 => ((stemma_Print.f k t280).bind fun bt283 => ((cippuslaw07_copies.f 1 0 true).bind fun t285 => ((stemma_Fewest.f k t285).bind fun bt288 => (if bt271.2 = 0 then (if bt278.2 = 0 then (if bt283.2 = 0 then (if bt288.2 = 0 then (if bt278.1.toList = ([65, 82, 77, 79] : List UInt8) then (if bt283.1.toList = ([65, 82, 77, 65] : List UInt8) then (if bt288.1 = 2 then ((cippuskit_SameGrids.f k bt271.1 (([(([1] : List Int)), (([3, 3] : List Int)), (([2, 2, 1] : List Int))] : List (List Int)))).bind fun t302 => (some t302)) else (some false)) else (some false)) else (some false)) else (some false)) else (some false)) else (some false)) else (some false))))))))) = some r := H
  have A1 := Aside0.mk A10
  clear A10
  replace H := Option.bind_eq_some_iff.mp H
  obtain ⟨⟨t271, t274⟩, A20, H⟩ := H
  replace H : ((cippuslaw07_copies.f 1 0 true).bind fun t275 => ((stemma_Print.f k t275).bind fun bt278 => ((cippuslaw07_copies.f 0 1 true).bind fun t280 => ((stemma_Print.f k t280).bind fun bt283 => ((cippuslaw07_copies.f 1 0 true).bind fun t285 => ((stemma_Fewest.f k t285).bind fun bt288 => (if t274 = 0 then (if bt278.2 = 0 then (if bt283.2 = 0 then (if bt288.2 = 0 then (if bt278.1.toList = ([65, 82, 77, 79] : List UInt8) then (if bt283.1.toList = ([65, 82, 77, 65] : List UInt8) then (if bt288.1 = 2 then ((cippuskit_SameGrids.f k t271 (([(([1] : List Int)), (([3, 3] : List Int)), (([2, 2, 1] : List Int))] : List (List Int)))).bind fun t302 => (some t302)) else (some false)) else (some false)) else (some false)) else (some false)) else (some false)) else (some false)) else (some false)))))))) = some r := H
  have A2 := Aside0.mk A20
  clear A20
  replace H := Option.bind_eq_some_iff.mp H
  obtain ⟨t275, A30, H⟩ := H
  replace H : ((stemma_Print.f k t275).bind fun bt278 => ((cippuslaw07_copies.f 0 1 true).bind fun t280 => ((stemma_Print.f k t280).bind fun bt283 => ((cippuslaw07_copies.f 1 0 true).bind fun t285 => ((stemma_Fewest.f k t285).bind fun bt288 => (if t274 = 0 then (if bt278.2 = 0 then (if bt283.2 = 0 then (if bt288.2 = 0 then (if bt278.1.toList = ([65, 82, 77, 79] : List UInt8) then (if bt283.1.toList = ([65, 82, 77, 65] : List UInt8) then (if bt288.1 = 2 then ((cippuskit_SameGrids.f k t271 (([(([1] : List Int)), (([3, 3] : List Int)), (([2, 2, 1] : List Int))] : List (List Int)))).bind fun t302 => (some t302)) else (some false)) else (some false)) else (some false)) else (some false)) else (some false)) else (some false)) else (some false))))))) = some r := H
  have A3 := Aside0.mk A30
  clear A30
  replace H := Option.bind_eq_some_iff.mp H
  obtain ⟨⟨t278, t279⟩, A40, H⟩ := H
  replace H : ((cippuslaw07_copies.f 0 1 true).bind fun t280 => ((stemma_Print.f k t280).bind fun bt283 => ((cippuslaw07_copies.f 1 0 true).bind fun t285 => ((stemma_Fewest.f k t285).bind fun bt288 => (if t274 = 0 then (if t279 = 0 then (if bt283.2 = 0 then (if bt288.2 = 0 then (if t278.toList = ([65, 82, 77, 79] : List UInt8) then (if bt283.1.toList = ([65, 82, 77, 65] : List UInt8) then (if bt288.1 = 2 then ((cippuskit_SameGrids.f k t271 (([(([1] : List Int)), (([3, 3] : List Int)), (([2, 2, 1] : List Int))] : List (List Int)))).bind fun t302 => (some t302)) else (some false)) else (some false)) else (some false)) else (some false)) else (some false)) else (some false)) else (some false)))))) = some r := H
  have A4 := Aside0.mk A40
  clear A40
  replace H := Option.bind_eq_some_iff.mp H
  obtain ⟨t280, A50, H⟩ := H
  replace H : ((stemma_Print.f k t280).bind fun bt283 => ((cippuslaw07_copies.f 1 0 true).bind fun t285 => ((stemma_Fewest.f k t285).bind fun bt288 => (if t274 = 0 then (if t279 = 0 then (if bt283.2 = 0 then (if bt288.2 = 0 then (if t278.toList = ([65, 82, 77, 79] : List UInt8) then (if bt283.1.toList = ([65, 82, 77, 65] : List UInt8) then (if bt288.1 = 2 then ((cippuskit_SameGrids.f k t271 (([(([1] : List Int)), (([3, 3] : List Int)), (([2, 2, 1] : List Int))] : List (List Int)))).bind fun t302 => (some t302)) else (some false)) else (some false)) else (some false)) else (some false)) else (some false)) else (some false)) else (some false))))) = some r := H
  have A5 := Aside0.mk A50
  clear A50
  replace H := Option.bind_eq_some_iff.mp H
  obtain ⟨⟨t283, t284⟩, A60, H⟩ := H
  replace H : ((cippuslaw07_copies.f 1 0 true).bind fun t285 => ((stemma_Fewest.f k t285).bind fun bt288 => (if t274 = 0 then (if t279 = 0 then (if t284 = 0 then (if bt288.2 = 0 then (if t278.toList = ([65, 82, 77, 79] : List UInt8) then (if t283.toList = ([65, 82, 77, 65] : List UInt8) then (if bt288.1 = 2 then ((cippuskit_SameGrids.f k t271 (([(([1] : List Int)), (([3, 3] : List Int)), (([2, 2, 1] : List Int))] : List (List Int)))).bind fun t302 => (some t302)) else (some false)) else (some false)) else (some false)) else (some false)) else (some false)) else (some false)) else (some false)))) = some r := H
  have A6 := Aside0.mk A60
  clear A60
  replace H := Option.bind_eq_some_iff.mp H
  obtain ⟨t285, A70, H⟩ := H
  replace H : ((stemma_Fewest.f k t285).bind fun bt288 => (if t274 = 0 then (if t279 = 0 then (if t284 = 0 then (if bt288.2 = 0 then (if t278.toList = ([65, 82, 77, 79] : List UInt8) then (if t283.toList = ([65, 82, 77, 65] : List UInt8) then (if bt288.1 = 2 then ((cippuskit_SameGrids.f k t271 (([(([1] : List Int)), (([3, 3] : List Int)), (([2, 2, 1] : List Int))] : List (List Int)))).bind fun t302 => (some t302)) else (some false)) else (some false)) else (some false)) else (some false)) else (some false)) else (some false)) else (some false))) = some r := H
  have A7 := Aside0.mk A70
  clear A70
  replace H := Option.bind_eq_some_iff.mp H
  obtain ⟨⟨t288, t289⟩, A80, H⟩ := H
  replace H : (if t274 = 0 then (if t279 = 0 then (if t284 = 0 then (if t289 = 0 then (if t278.toList = ([65, 82, 77, 79] : List UInt8) then (if t283.toList = ([65, 82, 77, 65] : List UInt8) then (if t288 = 2 then ((cippuskit_SameGrids.f k t271 (([(([1] : List Int)), (([3, 3] : List Int)), (([2, 2, 1] : List Int))] : List (List Int)))).bind fun t302 => (some t302)) else (some false)) else (some false)) else (some false)) else (some false)) else (some false)) else (some false)) else (some false)) = some r := H
  have A8 := Aside0.mk A80
  clear A80
  by_cases c9 : t274 = 0
  · rw [if_pos c9] at H
    have c9b0 : (t274 == 0) = true := beq_iff_eq.mpr c9
    have c9b1 : (t274 != 0) = false := bne_eq_false_iff_eq.mpr c9
    clear c9
    by_cases c10 : t279 = 0
    · rw [if_pos c10] at H
      have c10b0 : (t279 == 0) = true := beq_iff_eq.mpr c10
      have c10b1 : (t279 != 0) = false := bne_eq_false_iff_eq.mpr c10
      clear c10
      by_cases c11 : t284 = 0
      · rw [if_pos c11] at H
        have c11b0 : (t284 == 0) = true := beq_iff_eq.mpr c11
        have c11b1 : (t284 != 0) = false := bne_eq_false_iff_eq.mpr c11
        clear c11
        by_cases c12 : t289 = 0
        · rw [if_pos c12] at H
          have c12b0 : (t289 == 0) = true := beq_iff_eq.mpr c12
          have c12b1 : (t289 != 0) = false := bne_eq_false_iff_eq.mpr c12
          clear c12
          by_cases c13 : t278.toList = ([65, 82, 77, 79] : List UInt8)
          · rw [if_pos c13] at H
            have c13b0 : (t278.toList == ([65, 82, 77, 79] : List UInt8)) = true := beq_iff_eq.mpr c13
            have c13b1 : (t278.toList != ([65, 82, 77, 79] : List UInt8)) = false := bne_eq_false_iff_eq.mpr c13
            clear c13
            by_cases c14 : t283.toList = ([65, 82, 77, 65] : List UInt8)
            · rw [if_pos c14] at H
              have c14b0 : (t283.toList == ([65, 82, 77, 65] : List UInt8)) = true := beq_iff_eq.mpr c14
              have c14b1 : (t283.toList != ([65, 82, 77, 65] : List UInt8)) = false := bne_eq_false_iff_eq.mpr c14
              clear c14
              by_cases c15 : t288 = 2
              · rw [if_pos c15] at H
                have c15b0 : (t288 == 2) = true := beq_iff_eq.mpr c15
                have c15b1 : (t288 != 2) = false := bne_eq_false_iff_eq.mpr c15
                clear c15
                obtain ⟨y290, hy290⟩ : ∃ y_ : List Int, y_ = (([1] : List Int)) := ⟨_, rfl⟩
                replace H : ((cippuskit_SameGrids.f k t271 (([y290, (([3, 3] : List Int)), (([2, 2, 1] : List Int))] : List (List Int)))).bind fun t302 => (some t302)) = some r := by first | (rw [hy290]; with_reducible exact H) | (have H2_ := (Option.bind_some _ _).symm.trans H; rw [hy290]; with_reducible exact H2_) | (have H2_ := (Option.bind_some _ _).symm.trans H; with_reducible exact H2_) | with_reducible exact H | (rw [hy290]; exact H) | exact H
                have Ny290 := Aside0.mk hy290
                clear hy290
                obtain ⟨y293, hy293⟩ : ∃ y_ : List Int, y_ = (([3, 3] : List Int)) := ⟨_, rfl⟩
                replace H : ((cippuskit_SameGrids.f k t271 (([y290, y293, (([2, 2, 1] : List Int))] : List (List Int)))).bind fun t302 => (some t302)) = some r := by first | (rw [hy293]; with_reducible exact H) | (have H2_ := (Option.bind_some _ _).symm.trans H; rw [hy293]; with_reducible exact H2_) | (have H2_ := (Option.bind_some _ _).symm.trans H; with_reducible exact H2_) | with_reducible exact H | (rw [hy293]; exact H) | exact H
                have Ny293 := Aside0.mk hy293
                clear hy293
                obtain ⟨y296, hy296⟩ : ∃ y_ : List Int, y_ = (([2, 2, 1] : List Int)) := ⟨_, rfl⟩
                replace H : ((cippuskit_SameGrids.f k t271 (([y290, y293, y296] : List (List Int)))).bind fun t302 => (some t302)) = some r := by first | (rw [hy296]; with_reducible exact H) | (have H2_ := (Option.bind_some _ _).symm.trans H; rw [hy296]; with_reducible exact H2_) | (have H2_ := (Option.bind_some _ _).symm.trans H; with_reducible exact H2_) | with_reducible exact H | (rw [hy296]; exact H) | exact H
                have Ny296 := Aside0.mk hy296
                clear hy296
                obtain ⟨y299, hy299⟩ : ∃ y_ : List (List Int), y_ = (([y290, y293, y296] : List (List Int))) := ⟨_, rfl⟩
                replace H : ((cippuskit_SameGrids.f k t271 y299).bind fun t302 => (some t302)) = some r := by first | (rw [hy299]; with_reducible exact H) | (have H2_ := (Option.bind_some _ _).symm.trans H; rw [hy299]; with_reducible exact H2_) | (have H2_ := (Option.bind_some _ _).symm.trans H; with_reducible exact H2_) | with_reducible exact H | (rw [hy299]; exact H) | exact H
                have Ny299 := Aside0.mk hy299
                clear hy299
                replace H := Option.bind_eq_some_iff.mp H
                obtain ⟨t302, A160, H⟩ := H
                replace H : (some t302) = some r := H
                have A16 := Aside0.mk A160
                clear A160
                obtain rfl := Option.some.inj H
                go_enter Try.func17, Try.ntmps17
                go_wp2_with (first | ((with_reducible refine gate_callee (f := 47) rfl ?_); refine goesL_ (some 10) rfl rfl Try.func47 (by kernel_rfl) rfl #[.int .i64 1, .int .i64 1, .bool true] rfl (by (try simp only [List.map_toArray, List.map_cons, List.map_nil]); first | done | rfl | (simp only [List.length_drop, List.length_take]; rfl)) ?_; (with_reducible refine (cippuslaw07_copies.calls 1 1 true t268 _ A1.out).mono ?_); rintro e w17 ⟨v269, rfl, ho0, hb⟩; refine ⟨_, rfl, ?_⟩; have n0_ := Aside0.mk (Kd.R_lower ho0 (below_size (by repeat (first | (with_reducible first | exact HB.out | apply below_alloc | apply pw_below_drewN | apply below_drew1) | exact HB.out)))); have n1_ := Aside0.mk (below_step (by repeat (first | (with_reducible first | exact HB.out | apply below_alloc | apply pw_below_drewN | apply below_drew1) | exact HB.out)) hb); clear HB; have HO270 := n0_; have HB := n1_; clear n0_ n1_; (try clear hb); (try clear hb2); (try clear hk); (try clear hi); (try clear ho0); obtain ⟨Ao18, co18, eo18⟩ := Kd.R_slice HO270.out; subst eo18) | ((with_reducible refine gate_callee (f := 30) rfl ?_); refine goesL_ (some 11) rfl rfl Try.func30 (by kernel_rfl) rfl #[.slice Ao18 t268.length co18] rfl (by (try simp only [List.map_toArray, List.map_cons, List.map_nil]); first | done | rfl | (simp only [List.length_drop, List.length_take]; rfl)) ?_; (with_reducible refine (stemma_Sources.calls k _ _ t268 t271 t274 _ ?side1 ?side2 A2.out).mono ?_); (case side1 => repeat (first | exact (Kd.R_reads' HO270.out).2.2 | (with_reducible refine Kd.C_alloc ?_ _) | (with_reducible refine Kd.C_drewN ?_ _) | (with_reducible refine Kd.C_drew ?_))); (case side2 => exact (Kd.R_reads' HO270.out).2.1); rintro e w19 ⟨v272, rfl, ho0, hb⟩; refine ⟨_, rfl, ?_⟩; have n0_ := Aside0.mk (Kd.R_below (by (with_reducible repeat (first | apply Kd.R_alloc | apply Kd.R_drewN | apply Kd.R_drew)); exact HO270.out) hb); have n1_ := Aside0.mk (Kd.N_lower (Kd.N_mono (ok' := fun k_ => some k_ ≠ (.slice Ao18 t268.length co18 : Value).ownBlock) ho0 (fun k_ hk_ => (Kd.fresh' (Kd.R_lt (by (with_reducible repeat (first | apply Kd.R_alloc | apply Kd.R_drewN | apply Kd.R_drew)); exact HO270.out)) k_ hk_))) (below_size (by repeat (first | (with_reducible first | exact HB.out | apply below_alloc | apply pw_below_drewN | apply below_drew1) | exact HB.out)))); have n2_ := Aside0.mk (below_step (by repeat (first | (with_reducible first | exact HB.out | apply below_alloc | apply pw_below_drewN | apply below_drew1) | exact HB.out)) hb); clear HO270; clear HB; have HO270 := n0_; have HO273 := n1_; have HB := n2_; clear n0_ n1_ n2_; (try clear hb); (try clear hb2); (try clear hk); (try clear hi); (try clear ho0)) | ((with_reducible refine gate_callee (f := 47) rfl ?_); refine goesL_ (some 15) rfl rfl Try.func47 (by kernel_rfl) rfl #[.int .i64 1, .int .i64 0, .bool true] rfl (by (try simp only [List.map_toArray, List.map_cons, List.map_nil]); first | done | rfl | (simp only [List.length_drop, List.length_take]; rfl)) ?_; (with_reducible refine (cippuslaw07_copies.calls 1 0 true t275 _ A3.out).mono ?_); rintro e w20 ⟨v276, rfl, ho0, hb⟩; refine ⟨_, rfl, ?_⟩; have n0_ := Aside0.mk (Kd.R_elder' (by (with_reducible repeat (first | apply Kd.R_alloc | apply Kd.R_drewN | apply Kd.R_drew)); exact HO270.out) (Kd.R_base ho0) hb); have n1_ := Aside0.mk (Kd.N_elder' (by (with_reducible repeat (first | apply Kd.N_alloc | apply Kd.N_drewN | apply Kd.N_drew)); exact HO273.out) (Kd.R_base ho0) hb); have n2_ := Aside0.mk (Kd.R_lower (Kd.R_new' ho0 (Kd.R_lt (by (with_reducible repeat (first | apply Kd.R_alloc | apply Kd.R_drewN | apply Kd.R_drew)); exact HO270.out))) (below_size (by repeat (first | (with_reducible first | exact HB.out | apply below_alloc | apply pw_below_drewN | apply below_drew1) | exact HB.out)))); have n3_ := Aside0.mk (below_step (by repeat (first | (with_reducible first | exact HB.out | apply below_alloc | apply pw_below_drewN | apply below_drew1) | exact HB.out)) hb); clear HO270; clear HO273; clear HB; have HO270 := n0_; have HO273 := n1_; have HO277 := n2_; have HB := n3_; clear n0_ n1_ n2_ n3_; (try clear hb); (try clear hb2); (try clear hk); (try clear hi); (try clear ho0); obtain ⟨Ao21, co21, eo21⟩ := Kd.R_slice HO277.out; subst eo21) | ((with_reducible refine gate_callee (f := 20) rfl ?_); refine goesL_ (some 16) rfl rfl Try.func20 (by kernel_rfl) rfl #[.slice Ao21 t275.length co21] rfl (by (try simp only [List.map_toArray, List.map_cons, List.map_nil]); first | done | rfl | (simp only [List.length_drop, List.length_take]; rfl)) ?_; (with_reducible refine (stemma_Print.calls k _ _ t275 t278 t279 _ ?side1 ?side2 A4.out).mono ?_); (case side1 => repeat (first | exact (Kd.R_reads' HO277.out).2.2 | (with_reducible refine Kd.C_alloc ?_ _) | (with_reducible refine Kd.C_drewN ?_ _) | (with_reducible refine Kd.C_drew ?_))); (case side2 => exact (Kd.R_reads' HO277.out).2.1); rintro e w22 ⟨rfl, hb⟩; refine ⟨_, rfl, ?_⟩; have n0_ := Aside0.mk (Kd.R_below (by (with_reducible repeat (first | apply Kd.R_alloc | apply Kd.R_drewN | apply Kd.R_drew)); exact HO270.out) hb); have n1_ := Aside0.mk (Kd.N_below (by (with_reducible repeat (first | apply Kd.N_alloc | apply Kd.N_drewN | apply Kd.N_drew)); exact HO273.out) hb); have n2_ := Aside0.mk (Kd.R_below (by (with_reducible repeat (first | apply Kd.R_alloc | apply Kd.R_drewN | apply Kd.R_drew)); exact HO277.out) hb); have n3_ := Aside0.mk (below_step (by repeat (first | (with_reducible first | exact HB.out | apply below_alloc | apply pw_below_drewN | apply below_drew1) | exact HB.out)) hb); clear HO270; clear HO273; clear HO277; clear HB; have HO270 := n0_; have HO273 := n1_; have HO277 := n2_; have HB := n3_; clear n0_ n1_ n2_ n3_; (try clear hb); (try clear hb2); (try clear hk); (try clear hi)) | ((with_reducible refine gate_callee (f := 47) rfl ?_); refine goesL_ (some 20) rfl rfl Try.func47 (by kernel_rfl) rfl #[.int .i64 0, .int .i64 1, .bool true] rfl (by (try simp only [List.map_toArray, List.map_cons, List.map_nil]); first | done | rfl | (simp only [List.length_drop, List.length_take]; rfl)) ?_; (with_reducible refine (cippuslaw07_copies.calls 0 1 true t280 _ A5.out).mono ?_); rintro e w23 ⟨v281, rfl, ho0, hb⟩; refine ⟨_, rfl, ?_⟩; have n0_ := Aside0.mk (Kd.R_elder' (by (with_reducible repeat (first | apply Kd.R_alloc | apply Kd.R_drewN | apply Kd.R_drew)); exact HO270.out) (Kd.R_base ho0) hb); have n1_ := Aside0.mk (Kd.N_elder' (by (with_reducible repeat (first | apply Kd.N_alloc | apply Kd.N_drewN | apply Kd.N_drew)); exact HO273.out) (Kd.R_base ho0) hb); have n2_ := Aside0.mk (Kd.R_elder' (by (with_reducible repeat (first | apply Kd.R_alloc | apply Kd.R_drewN | apply Kd.R_drew)); exact HO277.out) (Kd.R_base ho0) hb); have n3_ := Aside0.mk (Kd.R_lower (Kd.R_new' (Kd.R_new' ho0 (Kd.R_lt (by (with_reducible repeat (first | apply Kd.R_alloc | apply Kd.R_drewN | apply Kd.R_drew)); exact HO270.out))) (Kd.R_lt (by (with_reducible repeat (first | apply Kd.R_alloc | apply Kd.R_drewN | apply Kd.R_drew)); exact HO277.out))) (below_size (by repeat (first | (with_reducible first | exact HB.out | apply below_alloc | apply pw_below_drewN | apply below_drew1) | exact HB.out)))); have n4_ := Aside0.mk (below_step (by repeat (first | (with_reducible first | exact HB.out | apply below_alloc | apply pw_below_drewN | apply below_drew1) | exact HB.out)) hb); clear HO270; clear HO273; clear HO277; clear HB; have HO270 := n0_; have HO273 := n1_; have HO277 := n2_; have HO282 := n3_; have HB := n4_; clear n0_ n1_ n2_ n3_ n4_; (try clear hb); (try clear hb2); (try clear hk); (try clear hi); (try clear ho0); obtain ⟨Ao24, co24, eo24⟩ := Kd.R_slice HO282.out; subst eo24) | ((with_reducible refine gate_callee (f := 20) rfl ?_); refine goesL_ (some 21) rfl rfl Try.func20 (by kernel_rfl) rfl #[.slice Ao24 t280.length co24] rfl (by (try simp only [List.map_toArray, List.map_cons, List.map_nil]); first | done | rfl | (simp only [List.length_drop, List.length_take]; rfl)) ?_; (with_reducible refine (stemma_Print.calls k _ _ t280 t283 t284 _ ?side1 ?side2 A6.out).mono ?_); (case side1 => repeat (first | exact (Kd.R_reads' HO282.out).2.2 | (with_reducible refine Kd.C_alloc ?_ _) | (with_reducible refine Kd.C_drewN ?_ _) | (with_reducible refine Kd.C_drew ?_))); (case side2 => exact (Kd.R_reads' HO282.out).2.1); rintro e w25 ⟨rfl, hb⟩; refine ⟨_, rfl, ?_⟩; have n0_ := Aside0.mk (Kd.R_below (by (with_reducible repeat (first | apply Kd.R_alloc | apply Kd.R_drewN | apply Kd.R_drew)); exact HO270.out) hb); have n1_ := Aside0.mk (Kd.N_below (by (with_reducible repeat (first | apply Kd.N_alloc | apply Kd.N_drewN | apply Kd.N_drew)); exact HO273.out) hb); have n2_ := Aside0.mk (Kd.R_below (by (with_reducible repeat (first | apply Kd.R_alloc | apply Kd.R_drewN | apply Kd.R_drew)); exact HO277.out) hb); have n3_ := Aside0.mk (Kd.R_below (by (with_reducible repeat (first | apply Kd.R_alloc | apply Kd.R_drewN | apply Kd.R_drew)); exact HO282.out) hb); have n4_ := Aside0.mk (below_step (by repeat (first | (with_reducible first | exact HB.out | apply below_alloc | apply pw_below_drewN | apply below_drew1) | exact HB.out)) hb); clear HO270; clear HO273; clear HO277; clear HO282; clear HB; have HO270 := n0_; have HO273 := n1_; have HO277 := n2_; have HO282 := n3_; have HB := n4_; clear n0_ n1_ n2_ n3_ n4_; (try clear hb); (try clear hb2); (try clear hk); (try clear hi)) | ((with_reducible refine gate_callee (f := 47) rfl ?_); refine goesL_ (some 25) rfl rfl Try.func47 (by kernel_rfl) rfl #[.int .i64 1, .int .i64 0, .bool true] rfl (by (try simp only [List.map_toArray, List.map_cons, List.map_nil]); first | done | rfl | (simp only [List.length_drop, List.length_take]; rfl)) ?_; (with_reducible refine (cippuslaw07_copies.calls 1 0 true t285 _ A7.out).mono ?_); rintro e w26 ⟨v286, rfl, ho0, hb⟩; refine ⟨_, rfl, ?_⟩; have n0_ := Aside0.mk (Kd.R_elder' (by (with_reducible repeat (first | apply Kd.R_alloc | apply Kd.R_drewN | apply Kd.R_drew)); exact HO270.out) (Kd.R_base ho0) hb); have n1_ := Aside0.mk (Kd.N_elder' (by (with_reducible repeat (first | apply Kd.N_alloc | apply Kd.N_drewN | apply Kd.N_drew)); exact HO273.out) (Kd.R_base ho0) hb); have n2_ := Aside0.mk (Kd.R_elder' (by (with_reducible repeat (first | apply Kd.R_alloc | apply Kd.R_drewN | apply Kd.R_drew)); exact HO277.out) (Kd.R_base ho0) hb); have n3_ := Aside0.mk (Kd.R_elder' (by (with_reducible repeat (first | apply Kd.R_alloc | apply Kd.R_drewN | apply Kd.R_drew)); exact HO282.out) (Kd.R_base ho0) hb); have n4_ := Aside0.mk (Kd.R_lower (Kd.R_new' (Kd.R_new' (Kd.R_new' ho0 (Kd.R_lt (by (with_reducible repeat (first | apply Kd.R_alloc | apply Kd.R_drewN | apply Kd.R_drew)); exact HO270.out))) (Kd.R_lt (by (with_reducible repeat (first | apply Kd.R_alloc | apply Kd.R_drewN | apply Kd.R_drew)); exact HO277.out))) (Kd.R_lt (by (with_reducible repeat (first | apply Kd.R_alloc | apply Kd.R_drewN | apply Kd.R_drew)); exact HO282.out))) (below_size (by repeat (first | (with_reducible first | exact HB.out | apply below_alloc | apply pw_below_drewN | apply below_drew1) | exact HB.out)))); have n5_ := Aside0.mk (below_step (by repeat (first | (with_reducible first | exact HB.out | apply below_alloc | apply pw_below_drewN | apply below_drew1) | exact HB.out)) hb); clear HO270; clear HO273; clear HO277; clear HO282; clear HB; have HO270 := n0_; have HO273 := n1_; have HO277 := n2_; have HO282 := n3_; have HO287 := n4_; have HB := n5_; clear n0_ n1_ n2_ n3_ n4_ n5_; (try clear hb); (try clear hb2); (try clear hk); (try clear hi); (try clear ho0); obtain ⟨Ao27, co27, eo27⟩ := Kd.R_slice HO287.out; subst eo27) | ((with_reducible refine gate_callee (f := 24) rfl ?_); refine goesL_ (some 26) rfl rfl Try.func24 (by kernel_rfl) rfl #[.slice Ao27 t285.length co27] rfl (by (try simp only [List.map_toArray, List.map_cons, List.map_nil]); first | done | rfl | (simp only [List.length_drop, List.length_take]; rfl)) ?_; (with_reducible refine (stemma_Fewest.calls k _ _ t285 t288 t289 _ ?side1 ?side2 A8.out).mono ?_); (case side1 => repeat (first | exact (Kd.R_reads' HO287.out).2.2 | (with_reducible refine Kd.C_alloc ?_ _) | (with_reducible refine Kd.C_drewN ?_ _) | (with_reducible refine Kd.C_drew ?_))); (case side2 => exact (Kd.R_reads' HO287.out).2.1); rintro e w28 ⟨rfl, hb⟩; refine ⟨_, rfl, ?_⟩; have n0_ := Aside0.mk (Kd.R_below (by (with_reducible repeat (first | apply Kd.R_alloc | apply Kd.R_drewN | apply Kd.R_drew)); exact HO270.out) hb); have n1_ := Aside0.mk (Kd.N_below (by (with_reducible repeat (first | apply Kd.N_alloc | apply Kd.N_drewN | apply Kd.N_drew)); exact HO273.out) hb); have n2_ := Aside0.mk (Kd.R_below (by (with_reducible repeat (first | apply Kd.R_alloc | apply Kd.R_drewN | apply Kd.R_drew)); exact HO277.out) hb); have n3_ := Aside0.mk (Kd.R_below (by (with_reducible repeat (first | apply Kd.R_alloc | apply Kd.R_drewN | apply Kd.R_drew)); exact HO282.out) hb); have n4_ := Aside0.mk (Kd.R_below (by (with_reducible repeat (first | apply Kd.R_alloc | apply Kd.R_drewN | apply Kd.R_drew)); exact HO287.out) hb); have n5_ := Aside0.mk (below_step (by repeat (first | (with_reducible first | exact HB.out | apply below_alloc | apply pw_below_drewN | apply below_drew1) | exact HB.out)) hb); clear HO270; clear HO273; clear HO277; clear HO282; clear HO287; clear HB; have HO270 := n0_; have HO273 := n1_; have HO277 := n2_; have HO282 := n3_; have HO287 := n4_; have HB := n5_; clear n0_ n1_ n2_ n3_ n4_ n5_; (try clear hb); (try clear hb2); (try clear hk); (try clear hi)) | ((with_reducible refine gate_dst (N := 57) rfl ?_); (try (refine gate_guard (by rfl) ?_; dsimp only)); refine Kd.R_lit (Kd.int .i64) _ 3 ?hg (N := 57) ?hd (xs := ([1] : List Int)) (inner := [.int .i64 1]) (ok := fun _ => True) (okp := fun _ => True) ?hr ?hp (fun _ hk => hk) trivial (Below.refl _ _) (Nat.le_refl _) (by simp) ?_; (case hd => rfl); (case hg => rfl); (case hr => first | (go_simp; done) | (go_simp; rfl)); (case hp => exact (Reps.one (show Kd.M (Kd.int .i64) _ _ _ 1 [.int .i64 1] from rfl) (Reps.none _ _))); intro v291 w29 ho30 hb hg_ hnew_; clear hg_ hnew_; (first | rw [← Ny290.out] at ho30 | (simp only [Int.reduceToNat] at ho30; rw [← Ny290.out] at ho30)); have n0_ := Aside0.mk (Kd.R_below (by (with_reducible repeat (first | apply Kd.R_alloc | apply Kd.R_drewN | apply Kd.R_drew)); exact HO270.out) hb); have n1_ := Aside0.mk (Kd.N_elder' (by (with_reducible repeat (first | apply Kd.N_alloc | apply Kd.N_drewN | apply Kd.N_drew)); exact HO273.out) (Kd.R_base ho30) hb); have n2_ := Aside0.mk (Kd.R_below (by (with_reducible repeat (first | apply Kd.R_alloc | apply Kd.R_drewN | apply Kd.R_drew)); exact HO277.out) hb); have n3_ := Aside0.mk (Kd.R_below (by (with_reducible repeat (first | apply Kd.R_alloc | apply Kd.R_drewN | apply Kd.R_drew)); exact HO282.out) hb); have n4_ := Aside0.mk (Kd.R_below (by (with_reducible repeat (first | apply Kd.R_alloc | apply Kd.R_drewN | apply Kd.R_drew)); exact HO287.out) hb); have n5_ := Aside0.mk (Kd.R_lower ho30 (below_size (by repeat (first | (with_reducible first | exact HB.out | apply below_alloc | apply pw_below_drewN | apply below_drew1) | exact HB.out)))); have n6_ := Aside0.mk (below_step (by repeat (first | (with_reducible first | exact HB.out | apply below_alloc | apply pw_below_drewN | apply below_drew1) | exact HB.out)) hb); clear HO270; clear HO273; clear HO277; clear HO282; clear HO287; clear HB; have HO270 := n0_; have HO273 := n1_; have HO277 := n2_; have HO282 := n3_; have HO287 := n4_; have HO292 := n5_; have HB := n6_; clear n0_ n1_ n2_ n3_ n4_ n5_ n6_; clear hb ho30) | ((with_reducible refine gate_dst (N := 58) rfl ?_); (try (refine gate_guard (by rfl) ?_; dsimp only)); refine Kd.R_lit (Kd.int .i64) _ 3 ?hg (N := 58) ?hd (xs := ([3, 3] : List Int)) (inner := [.int .i64 3, .int .i64 3]) (ok := fun _ => True) (okp := fun _ => True) ?hr ?hp (fun _ hk => hk) trivial (Below.refl _ _) (Nat.le_refl _) (by simp) ?_; (case hd => rfl); (case hg => rfl); (case hr => first | (go_simp; done) | (go_simp; rfl)); (case hp => exact (Reps.one (show Kd.M (Kd.int .i64) _ _ _ 3 [.int .i64 3] from rfl) (Reps.one (show Kd.M (Kd.int .i64) _ _ _ 3 [.int .i64 3] from rfl) (Reps.none _ _)))); intro v294 w31 ho32 hb hg_ hnew_; clear hg_ hnew_; (first | rw [← Ny293.out] at ho32 | (simp only [Int.reduceToNat] at ho32; rw [← Ny293.out] at ho32)); have n0_ := Aside0.mk (Kd.R_below (by (with_reducible repeat (first | apply Kd.R_alloc | apply Kd.R_drewN | apply Kd.R_drew)); exact HO270.out) hb); have n1_ := Aside0.mk (Kd.N_elder' (by (with_reducible repeat (first | apply Kd.N_alloc | apply Kd.N_drewN | apply Kd.N_drew)); exact HO273.out) (Kd.R_base ho32) hb); have n2_ := Aside0.mk (Kd.R_below (by (with_reducible repeat (first | apply Kd.R_alloc | apply Kd.R_drewN | apply Kd.R_drew)); exact HO277.out) hb); have n3_ := Aside0.mk (Kd.R_below (by (with_reducible repeat (first | apply Kd.R_alloc | apply Kd.R_drewN | apply Kd.R_drew)); exact HO282.out) hb); have n4_ := Aside0.mk (Kd.R_below (by (with_reducible repeat (first | apply Kd.R_alloc | apply Kd.R_drewN | apply Kd.R_drew)); exact HO287.out) hb); have n5_ := Aside0.mk (Kd.R_elder' (by (with_reducible repeat (first | apply Kd.R_alloc | apply Kd.R_drewN | apply Kd.R_drew)); exact HO292.out) (Kd.R_base ho32) hb); have n6_ := Aside0.mk (Kd.R_lower (Kd.R_new' ho32 (Kd.R_lt (by (with_reducible repeat (first | apply Kd.R_alloc | apply Kd.R_drewN | apply Kd.R_drew)); exact HO292.out))) (below_size (by repeat (first | (with_reducible first | exact HB.out | apply below_alloc | apply pw_below_drewN | apply below_drew1) | exact HB.out)))); have n7_ := Aside0.mk (below_step (by repeat (first | (with_reducible first | exact HB.out | apply below_alloc | apply pw_below_drewN | apply below_drew1) | exact HB.out)) hb); clear HO270; clear HO273; clear HO277; clear HO282; clear HO287; clear HO292; clear HB; have HO270 := n0_; have HO273 := n1_; have HO277 := n2_; have HO282 := n3_; have HO287 := n4_; have HO292 := n5_; have HO295 := n6_; have HB := n7_; clear n0_ n1_ n2_ n3_ n4_ n5_ n6_ n7_; clear hb ho32) | ((with_reducible refine gate_dst (N := 59) rfl ?_); (try (refine gate_guard (by rfl) ?_; dsimp only)); refine Kd.R_lit (Kd.int .i64) _ 3 ?hg (N := 59) ?hd (xs := ([2, 2, 1] : List Int)) (inner := [.int .i64 2, .int .i64 2, .int .i64 1]) (ok := fun _ => True) (okp := fun _ => True) ?hr ?hp (fun _ hk => hk) trivial (Below.refl _ _) (Nat.le_refl _) (by simp) ?_; (case hd => rfl); (case hg => rfl); (case hr => first | (go_simp; done) | (go_simp; rfl)); (case hp => exact (Reps.one (show Kd.M (Kd.int .i64) _ _ _ 2 [.int .i64 2] from rfl) (Reps.one (show Kd.M (Kd.int .i64) _ _ _ 2 [.int .i64 2] from rfl) (Reps.one (show Kd.M (Kd.int .i64) _ _ _ 1 [.int .i64 1] from rfl) (Reps.none _ _))))); intro v297 w33 ho34 hb hg_ hnew_; clear hg_ hnew_; (first | rw [← Ny296.out] at ho34 | (simp only [Int.reduceToNat] at ho34; rw [← Ny296.out] at ho34)); have n0_ := Aside0.mk (Kd.R_below (by (with_reducible repeat (first | apply Kd.R_alloc | apply Kd.R_drewN | apply Kd.R_drew)); exact HO270.out) hb); have n1_ := Aside0.mk (Kd.N_elder' (by (with_reducible repeat (first | apply Kd.N_alloc | apply Kd.N_drewN | apply Kd.N_drew)); exact HO273.out) (Kd.R_base ho34) hb); have n2_ := Aside0.mk (Kd.R_below (by (with_reducible repeat (first | apply Kd.R_alloc | apply Kd.R_drewN | apply Kd.R_drew)); exact HO277.out) hb); have n3_ := Aside0.mk (Kd.R_below (by (with_reducible repeat (first | apply Kd.R_alloc | apply Kd.R_drewN | apply Kd.R_drew)); exact HO282.out) hb); have n4_ := Aside0.mk (Kd.R_below (by (with_reducible repeat (first | apply Kd.R_alloc | apply Kd.R_drewN | apply Kd.R_drew)); exact HO287.out) hb); have n5_ := Aside0.mk (Kd.R_elder' (by (with_reducible repeat (first | apply Kd.R_alloc | apply Kd.R_drewN | apply Kd.R_drew)); exact HO292.out) (Kd.R_base ho34) hb); have n6_ := Aside0.mk (Kd.R_elder' (by (with_reducible repeat (first | apply Kd.R_alloc | apply Kd.R_drewN | apply Kd.R_drew)); exact HO295.out) (Kd.R_base ho34) hb); have n7_ := Aside0.mk (Kd.R_lower (Kd.R_new' (Kd.R_new' ho34 (Kd.R_lt (by (with_reducible repeat (first | apply Kd.R_alloc | apply Kd.R_drewN | apply Kd.R_drew)); exact HO292.out))) (Kd.R_lt (by (with_reducible repeat (first | apply Kd.R_alloc | apply Kd.R_drewN | apply Kd.R_drew)); exact HO295.out))) (below_size (by repeat (first | (with_reducible first | exact HB.out | apply below_alloc | apply pw_below_drewN | apply below_drew1) | exact HB.out)))); have n8_ := Aside0.mk (below_step (by repeat (first | (with_reducible first | exact HB.out | apply below_alloc | apply pw_below_drewN | apply below_drew1) | exact HB.out)) hb); clear HO270; clear HO273; clear HO277; clear HO282; clear HO287; clear HO292; clear HO295; clear HB; have HO270 := n0_; have HO273 := n1_; have HO277 := n2_; have HO282 := n3_; have HO287 := n4_; have HO292 := n5_; have HO295 := n6_; have HO298 := n7_; have HB := n8_; clear n0_ n1_ n2_ n3_ n4_ n5_ n6_ n7_ n8_; clear hb ho34; obtain ⟨Ao35, co35, eo35⟩ := Kd.R_slice HO292.out; subst eo35; obtain ⟨Ao36, co36, eo36⟩ := Kd.R_slice HO295.out; subst eo36; obtain ⟨Ao37, co37, eo37⟩ := Kd.R_slice HO298.out; subst eo37) | ((with_reducible refine gate_dst (N := 60) rfl ?_); (try (refine gate_guard (by rfl) ?_; dsimp only)); refine Kd.N_lit (Kd.slice 3 (Kd.int .i64)) _ 25 ?hg (N' := 60) ?hd (xs := ([y290, y293, y296] : List (List Int))) (inner := [.slice Ao35 y290.length co35, .slice Ao36 y293.length co36, .slice Ao37 y296.length co37]) (ok := (fun k_ => some k_ ≠ (.slice Ao18 t268.length co18 : Value).ownBlock ∧ some k_ ≠ (v272 : Value).ownBlock ∧ some k_ ≠ (.slice Ao21 t275.length co21 : Value).ownBlock ∧ some k_ ≠ (.slice Ao24 t280.length co24 : Value).ownBlock ∧ some k_ ≠ (.slice Ao27 t285.length co27 : Value).ownBlock)) (okp := (fun k_ => some k_ ≠ (.slice Ao18 t268.length co18 : Value).ownBlock ∧ some k_ ≠ (v272 : Value).ownBlock ∧ some k_ ≠ (.slice Ao21 t275.length co21 : Value).ownBlock ∧ some k_ ≠ (.slice Ao24 t280.length co24 : Value).ownBlock ∧ some k_ ≠ (.slice Ao27 t285.length co27 : Value).ownBlock)) ?hr ?hp (fun _ hk => hk) ((show ∀ k_, w33.heap.size ≤ k_ → (fun k_ => some k_ ≠ (.slice Ao18 t268.length co18 : Value).ownBlock ∧ some k_ ≠ (v272 : Value).ownBlock ∧ some k_ ≠ (.slice Ao21 t275.length co21 : Value).ownBlock ∧ some k_ ≠ (.slice Ao24 t280.length co24 : Value).ownBlock ∧ some k_ ≠ (.slice Ao27 t285.length co27 : Value).ownBlock) k_ from fun k_ hk => ⟨Kd.fresh' (Kd.R_lt (by (with_reducible repeat (first | apply Kd.R_alloc | apply Kd.R_drewN | apply Kd.R_drew)); exact HO270.out)) k_ hk, Kd.fresh' (Kd.N_lt (by (with_reducible repeat (first | apply Kd.N_alloc | apply Kd.N_drewN | apply Kd.N_drew)); exact HO273.out)) k_ hk, Kd.fresh' (Kd.R_lt (by (with_reducible repeat (first | apply Kd.R_alloc | apply Kd.R_drewN | apply Kd.R_drew)); exact HO277.out)) k_ hk, Kd.fresh' (Kd.R_lt (by (with_reducible repeat (first | apply Kd.R_alloc | apply Kd.R_drewN | apply Kd.R_drew)); exact HO282.out)) k_ hk, Kd.fresh' (Kd.R_lt (by (with_reducible repeat (first | apply Kd.R_alloc | apply Kd.R_drewN | apply Kd.R_drew)); exact HO287.out)) k_ hk⟩) _ (Nat.le_refl _)) (Below.refl _ _) (Nat.le_refl _) (by simp) ?_; (case hd => rfl); (case hg => rfl); (case hr => first | (go_simp; done) | (go_simp; rfl)); (case hp => exact (Reps.one (show Kd.FK (Kd.slice 3 (Kd.int .i64)) _ _ y290 [.slice Ao35 y290.length co35] from (Kd.FK_slice_mk (Kd.R_reads' (Kd.R_mono (ok' := (fun k_ => some k_ ≠ (.slice Ao18 t268.length co18 : Value).ownBlock ∧ some k_ ≠ (v272 : Value).ownBlock ∧ some k_ ≠ (.slice Ao21 t275.length co21 : Value).ownBlock ∧ some k_ ≠ (.slice Ao24 t280.length co24 : Value).ownBlock ∧ some k_ ≠ (.slice Ao27 t285.length co27 : Value).ownBlock)) (Kd.R_apart' (Kd.R_apart' (Kd.R_apart' (Kd.R_apart' (Kd.R_apart' (HO292.out) (Kd.R_typed HO270.out) (by decide)) (Kd.N_typed HO273.out) (by decide)) (Kd.R_typed HO277.out) (by decide)) (Kd.R_typed HO282.out) (by decide)) (Kd.R_typed HO287.out) (by decide)) (fun k_ hk => ⟨hk.1.1.1.1.2, ⟨hk.1.1.1.2, ⟨hk.1.1.2, ⟨hk.1.2, hk.2⟩⟩⟩⟩))).2.1 (Kd.R_F (Kd.R_mono (ok' := (fun k_ => some k_ ≠ (.slice Ao18 t268.length co18 : Value).ownBlock ∧ some k_ ≠ (v272 : Value).ownBlock ∧ some k_ ≠ (.slice Ao21 t275.length co21 : Value).ownBlock ∧ some k_ ≠ (.slice Ao24 t280.length co24 : Value).ownBlock ∧ some k_ ≠ (.slice Ao27 t285.length co27 : Value).ownBlock)) (Kd.R_apart' (Kd.R_apart' (Kd.R_apart' (Kd.R_apart' (Kd.R_apart' (HO292.out) (Kd.R_typed HO270.out) (by decide)) (Kd.N_typed HO273.out) (by decide)) (Kd.R_typed HO277.out) (by decide)) (Kd.R_typed HO282.out) (by decide)) (Kd.R_typed HO287.out) (by decide)) (fun k_ hk => ⟨hk.1.1.1.1.2, ⟨hk.1.1.1.2, ⟨hk.1.1.2, ⟨hk.1.2, hk.2⟩⟩⟩⟩))))) (Reps.one (show Kd.FK (Kd.slice 3 (Kd.int .i64)) _ _ y293 [.slice Ao36 y293.length co36] from (Kd.FK_slice_mk (Kd.R_reads' (Kd.R_mono (ok' := (fun k_ => some k_ ≠ (.slice Ao18 t268.length co18 : Value).ownBlock ∧ some k_ ≠ (v272 : Value).ownBlock ∧ some k_ ≠ (.slice Ao21 t275.length co21 : Value).ownBlock ∧ some k_ ≠ (.slice Ao24 t280.length co24 : Value).ownBlock ∧ some k_ ≠ (.slice Ao27 t285.length co27 : Value).ownBlock)) (Kd.R_apart' (Kd.R_apart' (Kd.R_apart' (Kd.R_apart' (Kd.R_apart' (HO295.out) (Kd.R_typed HO270.out) (by decide)) (Kd.N_typed HO273.out) (by decide)) (Kd.R_typed HO277.out) (by decide)) (Kd.R_typed HO282.out) (by decide)) (Kd.R_typed HO287.out) (by decide)) (fun k_ hk => ⟨hk.1.1.1.1.2, ⟨hk.1.1.1.2, ⟨hk.1.1.2, ⟨hk.1.2, hk.2⟩⟩⟩⟩))).2.1 (Kd.R_F (Kd.R_mono (ok' := (fun k_ => some k_ ≠ (.slice Ao18 t268.length co18 : Value).ownBlock ∧ some k_ ≠ (v272 : Value).ownBlock ∧ some k_ ≠ (.slice Ao21 t275.length co21 : Value).ownBlock ∧ some k_ ≠ (.slice Ao24 t280.length co24 : Value).ownBlock ∧ some k_ ≠ (.slice Ao27 t285.length co27 : Value).ownBlock)) (Kd.R_apart' (Kd.R_apart' (Kd.R_apart' (Kd.R_apart' (Kd.R_apart' (HO295.out) (Kd.R_typed HO270.out) (by decide)) (Kd.N_typed HO273.out) (by decide)) (Kd.R_typed HO277.out) (by decide)) (Kd.R_typed HO282.out) (by decide)) (Kd.R_typed HO287.out) (by decide)) (fun k_ hk => ⟨hk.1.1.1.1.2, ⟨hk.1.1.1.2, ⟨hk.1.1.2, ⟨hk.1.2, hk.2⟩⟩⟩⟩))))) (Reps.one (show Kd.FK (Kd.slice 3 (Kd.int .i64)) _ _ y296 [.slice Ao37 y296.length co37] from (Kd.FK_slice_mk (Kd.R_reads' (Kd.R_mono (ok' := (fun k_ => some k_ ≠ (.slice Ao18 t268.length co18 : Value).ownBlock ∧ some k_ ≠ (v272 : Value).ownBlock ∧ some k_ ≠ (.slice Ao21 t275.length co21 : Value).ownBlock ∧ some k_ ≠ (.slice Ao24 t280.length co24 : Value).ownBlock ∧ some k_ ≠ (.slice Ao27 t285.length co27 : Value).ownBlock)) (Kd.R_apart' (Kd.R_apart' (Kd.R_apart' (Kd.R_apart' (Kd.R_apart' (HO298.out) (Kd.R_typed HO270.out) (by decide)) (Kd.N_typed HO273.out) (by decide)) (Kd.R_typed HO277.out) (by decide)) (Kd.R_typed HO282.out) (by decide)) (Kd.R_typed HO287.out) (by decide)) (fun k_ hk => ⟨hk.1.1.1.1.2, ⟨hk.1.1.1.2, ⟨hk.1.1.2, ⟨hk.1.2, hk.2⟩⟩⟩⟩))).2.1 (Kd.R_F (Kd.R_mono (ok' := (fun k_ => some k_ ≠ (.slice Ao18 t268.length co18 : Value).ownBlock ∧ some k_ ≠ (v272 : Value).ownBlock ∧ some k_ ≠ (.slice Ao21 t275.length co21 : Value).ownBlock ∧ some k_ ≠ (.slice Ao24 t280.length co24 : Value).ownBlock ∧ some k_ ≠ (.slice Ao27 t285.length co27 : Value).ownBlock)) (Kd.R_apart' (Kd.R_apart' (Kd.R_apart' (Kd.R_apart' (Kd.R_apart' (HO298.out) (Kd.R_typed HO270.out) (by decide)) (Kd.N_typed HO273.out) (by decide)) (Kd.R_typed HO277.out) (by decide)) (Kd.R_typed HO282.out) (by decide)) (Kd.R_typed HO287.out) (by decide)) (fun k_ hk => ⟨hk.1.1.1.1.2, ⟨hk.1.1.1.2, ⟨hk.1.1.2, ⟨hk.1.2, hk.2⟩⟩⟩⟩))))) (Reps.none _ _))))); intro v300 w38 ho39 hb hg_ hnew_; clear hg_ hnew_; (first | rw [← Ny299.out] at ho39 | (simp only [Int.reduceToNat] at ho39; rw [← Ny299.out] at ho39)); have n0_ := Aside0.mk (Kd.R_below (by (with_reducible repeat (first | apply Kd.R_alloc | apply Kd.R_drewN | apply Kd.R_drew)); exact HO270.out) hb); have n1_ := Aside0.mk (Kd.N_elder' (by (with_reducible repeat (first | apply Kd.N_alloc | apply Kd.N_drewN | apply Kd.N_drew)); exact HO273.out) (Kd.N_base ho39) hb); have n2_ := Aside0.mk (Kd.R_below (by (with_reducible repeat (first | apply Kd.R_alloc | apply Kd.R_drewN | apply Kd.R_drew)); exact HO277.out) hb); have n3_ := Aside0.mk (Kd.R_below (by (with_reducible repeat (first | apply Kd.R_alloc | apply Kd.R_drewN | apply Kd.R_drew)); exact HO282.out) hb); have n4_ := Aside0.mk (Kd.R_below (by (with_reducible repeat (first | apply Kd.R_alloc | apply Kd.R_drewN | apply Kd.R_drew)); exact HO287.out) hb); have n5_ := Aside0.mk (Kd.N_lower ho39 (below_size (by repeat (first | (with_reducible first | exact HB.out | apply below_alloc | apply pw_below_drewN | apply below_drew1) | exact HB.out)))); have n6_ := Aside0.mk (below_step (by repeat (first | (with_reducible first | exact HB.out | apply below_alloc | apply pw_below_drewN | apply below_drew1) | exact HB.out)) hb); clear HO270; clear HO273; clear HO277; clear HO282; clear HO287; clear HB; clear HO292; clear HO295; clear HO298; have HO270 := n0_; have HO273 := n1_; have HO277 := n2_; have HO282 := n3_; have HO287 := n4_; have HO301 := n5_; have HB := n6_; clear n0_ n1_ n2_ n3_ n4_ n5_ n6_; clear hb ho39; obtain ⟨Ao40, co40, eo40⟩ := Kd.N_slice HO273.out; subst eo40; obtain ⟨Ao41, co41, eo41⟩ := Kd.N_slice HO301.out; subst eo41) | (go_at_call 35; (with_reducible refine (cippuskit_SameGrids.calls k _ _ t271 _ _ y299 t302 _ ?side1 ?side2 ?side3 ?side4 A16.out).mono ?_); (case side1 => repeat (first | exact (Kd.N_reads' HO273.out).2.2 | (with_reducible refine Kd.C_alloc ?_ _) | (with_reducible refine Kd.C_drewN ?_ _) | (with_reducible refine Kd.C_drew ?_))); (case side2 => exact (Kd.N_reads' HO273.out).2.1); (case side3 => repeat (first | exact (Kd.N_reads' HO301.out).2.2 | (with_reducible refine Kd.C_alloc ?_ _) | (with_reducible refine Kd.C_drewN ?_ _) | (with_reducible refine Kd.C_drew ?_))); (case side4 => exact (Kd.N_reads' HO301.out).2.1); rintro e w' ⟨rfl, ⟨nd, rfl⟩⟩))
                go_ret
                exact ⟨by first | rfl | (simp [errW_none, errW_some] <;> rfl) | (simp [*, errW_none, errW_some] <;> rfl), by repeat (first | (with_reducible first | exact HB.out | apply below_alloc | apply pw_below_drewN | apply below_drew1) | exact HB.out)⟩
              · rw [if_neg c15] at H
                have c15b0 : (t288 == 2) = false := beq_eq_false_iff_ne.mpr c15
                have c15b1 : (t288 != 2) = true := bne_iff_ne.mpr c15
                obtain rfl := Option.some.inj H
                go_enter Try.func17, Try.ntmps17
                go_wp2_with (first | ((with_reducible refine gate_callee (f := 47) rfl ?_); refine goesL_ (some 10) rfl rfl Try.func47 (by kernel_rfl) rfl #[.int .i64 1, .int .i64 1, .bool true] rfl (by (try simp only [List.map_toArray, List.map_cons, List.map_nil]); first | done | rfl | (simp only [List.length_drop, List.length_take]; rfl)) ?_; (with_reducible refine (cippuslaw07_copies.calls 1 1 true t268 _ A1.out).mono ?_); rintro e w42 ⟨v269, rfl, ho0, hb⟩; refine ⟨_, rfl, ?_⟩; have n0_ := Aside0.mk (Kd.R_lower ho0 (below_size (by repeat (first | (with_reducible first | exact HB.out | apply below_alloc | apply pw_below_drewN | apply below_drew1) | exact HB.out)))); have n1_ := Aside0.mk (below_step (by repeat (first | (with_reducible first | exact HB.out | apply below_alloc | apply pw_below_drewN | apply below_drew1) | exact HB.out)) hb); clear HB; have HO270 := n0_; have HB := n1_; clear n0_ n1_; (try clear hb); (try clear hb2); (try clear hk); (try clear hi); (try clear ho0); obtain ⟨Ao43, co43, eo43⟩ := Kd.R_slice HO270.out; subst eo43) | ((with_reducible refine gate_callee (f := 30) rfl ?_); refine goesL_ (some 11) rfl rfl Try.func30 (by kernel_rfl) rfl #[.slice Ao43 t268.length co43] rfl (by (try simp only [List.map_toArray, List.map_cons, List.map_nil]); first | done | rfl | (simp only [List.length_drop, List.length_take]; rfl)) ?_; (with_reducible refine (stemma_Sources.calls k _ _ t268 t271 t274 _ ?side1 ?side2 A2.out).mono ?_); (case side1 => repeat (first | exact (Kd.R_reads' HO270.out).2.2 | (with_reducible refine Kd.C_alloc ?_ _) | (with_reducible refine Kd.C_drewN ?_ _) | (with_reducible refine Kd.C_drew ?_))); (case side2 => exact (Kd.R_reads' HO270.out).2.1); rintro e w44 ⟨v272, rfl, ho0, hb⟩; refine ⟨_, rfl, ?_⟩; have n0_ := Aside0.mk (Kd.R_below (by (with_reducible repeat (first | apply Kd.R_alloc | apply Kd.R_drewN | apply Kd.R_drew)); exact HO270.out) hb); have n1_ := Aside0.mk (Kd.N_lower (Kd.N_mono (ok' := fun k_ => some k_ ≠ (.slice Ao43 t268.length co43 : Value).ownBlock) ho0 (fun k_ hk_ => (Kd.fresh' (Kd.R_lt (by (with_reducible repeat (first | apply Kd.R_alloc | apply Kd.R_drewN | apply Kd.R_drew)); exact HO270.out)) k_ hk_))) (below_size (by repeat (first | (with_reducible first | exact HB.out | apply below_alloc | apply pw_below_drewN | apply below_drew1) | exact HB.out)))); have n2_ := Aside0.mk (below_step (by repeat (first | (with_reducible first | exact HB.out | apply below_alloc | apply pw_below_drewN | apply below_drew1) | exact HB.out)) hb); clear HO270; clear HB; have HO270 := n0_; have HO273 := n1_; have HB := n2_; clear n0_ n1_ n2_; (try clear hb); (try clear hb2); (try clear hk); (try clear hi); (try clear ho0)) | ((with_reducible refine gate_callee (f := 47) rfl ?_); refine goesL_ (some 15) rfl rfl Try.func47 (by kernel_rfl) rfl #[.int .i64 1, .int .i64 0, .bool true] rfl (by (try simp only [List.map_toArray, List.map_cons, List.map_nil]); first | done | rfl | (simp only [List.length_drop, List.length_take]; rfl)) ?_; (with_reducible refine (cippuslaw07_copies.calls 1 0 true t275 _ A3.out).mono ?_); rintro e w45 ⟨v276, rfl, ho0, hb⟩; refine ⟨_, rfl, ?_⟩; have n0_ := Aside0.mk (Kd.R_elder' (by (with_reducible repeat (first | apply Kd.R_alloc | apply Kd.R_drewN | apply Kd.R_drew)); exact HO270.out) (Kd.R_base ho0) hb); have n1_ := Aside0.mk (Kd.N_elder' (by (with_reducible repeat (first | apply Kd.N_alloc | apply Kd.N_drewN | apply Kd.N_drew)); exact HO273.out) (Kd.R_base ho0) hb); have n2_ := Aside0.mk (Kd.R_lower (Kd.R_new' ho0 (Kd.R_lt (by (with_reducible repeat (first | apply Kd.R_alloc | apply Kd.R_drewN | apply Kd.R_drew)); exact HO270.out))) (below_size (by repeat (first | (with_reducible first | exact HB.out | apply below_alloc | apply pw_below_drewN | apply below_drew1) | exact HB.out)))); have n3_ := Aside0.mk (below_step (by repeat (first | (with_reducible first | exact HB.out | apply below_alloc | apply pw_below_drewN | apply below_drew1) | exact HB.out)) hb); clear HO270; clear HO273; clear HB; have HO270 := n0_; have HO273 := n1_; have HO277 := n2_; have HB := n3_; clear n0_ n1_ n2_ n3_; (try clear hb); (try clear hb2); (try clear hk); (try clear hi); (try clear ho0); obtain ⟨Ao46, co46, eo46⟩ := Kd.R_slice HO277.out; subst eo46) | ((with_reducible refine gate_callee (f := 20) rfl ?_); refine goesL_ (some 16) rfl rfl Try.func20 (by kernel_rfl) rfl #[.slice Ao46 t275.length co46] rfl (by (try simp only [List.map_toArray, List.map_cons, List.map_nil]); first | done | rfl | (simp only [List.length_drop, List.length_take]; rfl)) ?_; (with_reducible refine (stemma_Print.calls k _ _ t275 t278 t279 _ ?side1 ?side2 A4.out).mono ?_); (case side1 => repeat (first | exact (Kd.R_reads' HO277.out).2.2 | (with_reducible refine Kd.C_alloc ?_ _) | (with_reducible refine Kd.C_drewN ?_ _) | (with_reducible refine Kd.C_drew ?_))); (case side2 => exact (Kd.R_reads' HO277.out).2.1); rintro e w47 ⟨rfl, hb⟩; refine ⟨_, rfl, ?_⟩; have n0_ := Aside0.mk (Kd.R_below (by (with_reducible repeat (first | apply Kd.R_alloc | apply Kd.R_drewN | apply Kd.R_drew)); exact HO270.out) hb); have n1_ := Aside0.mk (Kd.N_below (by (with_reducible repeat (first | apply Kd.N_alloc | apply Kd.N_drewN | apply Kd.N_drew)); exact HO273.out) hb); have n2_ := Aside0.mk (Kd.R_below (by (with_reducible repeat (first | apply Kd.R_alloc | apply Kd.R_drewN | apply Kd.R_drew)); exact HO277.out) hb); have n3_ := Aside0.mk (below_step (by repeat (first | (with_reducible first | exact HB.out | apply below_alloc | apply pw_below_drewN | apply below_drew1) | exact HB.out)) hb); clear HO270; clear HO273; clear HO277; clear HB; have HO270 := n0_; have HO273 := n1_; have HO277 := n2_; have HB := n3_; clear n0_ n1_ n2_ n3_; (try clear hb); (try clear hb2); (try clear hk); (try clear hi)) | ((with_reducible refine gate_callee (f := 47) rfl ?_); refine goesL_ (some 20) rfl rfl Try.func47 (by kernel_rfl) rfl #[.int .i64 0, .int .i64 1, .bool true] rfl (by (try simp only [List.map_toArray, List.map_cons, List.map_nil]); first | done | rfl | (simp only [List.length_drop, List.length_take]; rfl)) ?_; (with_reducible refine (cippuslaw07_copies.calls 0 1 true t280 _ A5.out).mono ?_); rintro e w48 ⟨v281, rfl, ho0, hb⟩; refine ⟨_, rfl, ?_⟩; have n0_ := Aside0.mk (Kd.R_elder' (by (with_reducible repeat (first | apply Kd.R_alloc | apply Kd.R_drewN | apply Kd.R_drew)); exact HO270.out) (Kd.R_base ho0) hb); have n1_ := Aside0.mk (Kd.N_elder' (by (with_reducible repeat (first | apply Kd.N_alloc | apply Kd.N_drewN | apply Kd.N_drew)); exact HO273.out) (Kd.R_base ho0) hb); have n2_ := Aside0.mk (Kd.R_elder' (by (with_reducible repeat (first | apply Kd.R_alloc | apply Kd.R_drewN | apply Kd.R_drew)); exact HO277.out) (Kd.R_base ho0) hb); have n3_ := Aside0.mk (Kd.R_lower (Kd.R_new' (Kd.R_new' ho0 (Kd.R_lt (by (with_reducible repeat (first | apply Kd.R_alloc | apply Kd.R_drewN | apply Kd.R_drew)); exact HO270.out))) (Kd.R_lt (by (with_reducible repeat (first | apply Kd.R_alloc | apply Kd.R_drewN | apply Kd.R_drew)); exact HO277.out))) (below_size (by repeat (first | (with_reducible first | exact HB.out | apply below_alloc | apply pw_below_drewN | apply below_drew1) | exact HB.out)))); have n4_ := Aside0.mk (below_step (by repeat (first | (with_reducible first | exact HB.out | apply below_alloc | apply pw_below_drewN | apply below_drew1) | exact HB.out)) hb); clear HO270; clear HO273; clear HO277; clear HB; have HO270 := n0_; have HO273 := n1_; have HO277 := n2_; have HO282 := n3_; have HB := n4_; clear n0_ n1_ n2_ n3_ n4_; (try clear hb); (try clear hb2); (try clear hk); (try clear hi); (try clear ho0); obtain ⟨Ao49, co49, eo49⟩ := Kd.R_slice HO282.out; subst eo49) | ((with_reducible refine gate_callee (f := 20) rfl ?_); refine goesL_ (some 21) rfl rfl Try.func20 (by kernel_rfl) rfl #[.slice Ao49 t280.length co49] rfl (by (try simp only [List.map_toArray, List.map_cons, List.map_nil]); first | done | rfl | (simp only [List.length_drop, List.length_take]; rfl)) ?_; (with_reducible refine (stemma_Print.calls k _ _ t280 t283 t284 _ ?side1 ?side2 A6.out).mono ?_); (case side1 => repeat (first | exact (Kd.R_reads' HO282.out).2.2 | (with_reducible refine Kd.C_alloc ?_ _) | (with_reducible refine Kd.C_drewN ?_ _) | (with_reducible refine Kd.C_drew ?_))); (case side2 => exact (Kd.R_reads' HO282.out).2.1); rintro e w50 ⟨rfl, hb⟩; refine ⟨_, rfl, ?_⟩; have n0_ := Aside0.mk (Kd.R_below (by (with_reducible repeat (first | apply Kd.R_alloc | apply Kd.R_drewN | apply Kd.R_drew)); exact HO270.out) hb); have n1_ := Aside0.mk (Kd.N_below (by (with_reducible repeat (first | apply Kd.N_alloc | apply Kd.N_drewN | apply Kd.N_drew)); exact HO273.out) hb); have n2_ := Aside0.mk (Kd.R_below (by (with_reducible repeat (first | apply Kd.R_alloc | apply Kd.R_drewN | apply Kd.R_drew)); exact HO277.out) hb); have n3_ := Aside0.mk (Kd.R_below (by (with_reducible repeat (first | apply Kd.R_alloc | apply Kd.R_drewN | apply Kd.R_drew)); exact HO282.out) hb); have n4_ := Aside0.mk (below_step (by repeat (first | (with_reducible first | exact HB.out | apply below_alloc | apply pw_below_drewN | apply below_drew1) | exact HB.out)) hb); clear HO270; clear HO273; clear HO277; clear HO282; clear HB; have HO270 := n0_; have HO273 := n1_; have HO277 := n2_; have HO282 := n3_; have HB := n4_; clear n0_ n1_ n2_ n3_ n4_; (try clear hb); (try clear hb2); (try clear hk); (try clear hi)) | ((with_reducible refine gate_callee (f := 47) rfl ?_); refine goesL_ (some 25) rfl rfl Try.func47 (by kernel_rfl) rfl #[.int .i64 1, .int .i64 0, .bool true] rfl (by (try simp only [List.map_toArray, List.map_cons, List.map_nil]); first | done | rfl | (simp only [List.length_drop, List.length_take]; rfl)) ?_; (with_reducible refine (cippuslaw07_copies.calls 1 0 true t285 _ A7.out).mono ?_); rintro e w51 ⟨v286, rfl, ho0, hb⟩; refine ⟨_, rfl, ?_⟩; have n0_ := Aside0.mk (Kd.R_elder' (by (with_reducible repeat (first | apply Kd.R_alloc | apply Kd.R_drewN | apply Kd.R_drew)); exact HO270.out) (Kd.R_base ho0) hb); have n1_ := Aside0.mk (Kd.N_elder' (by (with_reducible repeat (first | apply Kd.N_alloc | apply Kd.N_drewN | apply Kd.N_drew)); exact HO273.out) (Kd.R_base ho0) hb); have n2_ := Aside0.mk (Kd.R_elder' (by (with_reducible repeat (first | apply Kd.R_alloc | apply Kd.R_drewN | apply Kd.R_drew)); exact HO277.out) (Kd.R_base ho0) hb); have n3_ := Aside0.mk (Kd.R_elder' (by (with_reducible repeat (first | apply Kd.R_alloc | apply Kd.R_drewN | apply Kd.R_drew)); exact HO282.out) (Kd.R_base ho0) hb); have n4_ := Aside0.mk (Kd.R_lower (Kd.R_new' (Kd.R_new' (Kd.R_new' ho0 (Kd.R_lt (by (with_reducible repeat (first | apply Kd.R_alloc | apply Kd.R_drewN | apply Kd.R_drew)); exact HO270.out))) (Kd.R_lt (by (with_reducible repeat (first | apply Kd.R_alloc | apply Kd.R_drewN | apply Kd.R_drew)); exact HO277.out))) (Kd.R_lt (by (with_reducible repeat (first | apply Kd.R_alloc | apply Kd.R_drewN | apply Kd.R_drew)); exact HO282.out))) (below_size (by repeat (first | (with_reducible first | exact HB.out | apply below_alloc | apply pw_below_drewN | apply below_drew1) | exact HB.out)))); have n5_ := Aside0.mk (below_step (by repeat (first | (with_reducible first | exact HB.out | apply below_alloc | apply pw_below_drewN | apply below_drew1) | exact HB.out)) hb); clear HO270; clear HO273; clear HO277; clear HO282; clear HB; have HO270 := n0_; have HO273 := n1_; have HO277 := n2_; have HO282 := n3_; have HO287 := n4_; have HB := n5_; clear n0_ n1_ n2_ n3_ n4_ n5_; (try clear hb); (try clear hb2); (try clear hk); (try clear hi); (try clear ho0); obtain ⟨Ao52, co52, eo52⟩ := Kd.R_slice HO287.out; subst eo52) | ((with_reducible refine gate_callee (f := 24) rfl ?_); refine goesL_ (some 26) rfl rfl Try.func24 (by kernel_rfl) rfl #[.slice Ao52 t285.length co52] rfl (by (try simp only [List.map_toArray, List.map_cons, List.map_nil]); first | done | rfl | (simp only [List.length_drop, List.length_take]; rfl)) ?_; (with_reducible refine (stemma_Fewest.calls k _ _ t285 t288 t289 _ ?side1 ?side2 A8.out).mono ?_); (case side1 => repeat (first | exact (Kd.R_reads' HO287.out).2.2 | (with_reducible refine Kd.C_alloc ?_ _) | (with_reducible refine Kd.C_drewN ?_ _) | (with_reducible refine Kd.C_drew ?_))); (case side2 => exact (Kd.R_reads' HO287.out).2.1); rintro e w53 ⟨rfl, hb⟩; refine ⟨_, rfl, ?_⟩; have n0_ := Aside0.mk (Kd.R_below (by (with_reducible repeat (first | apply Kd.R_alloc | apply Kd.R_drewN | apply Kd.R_drew)); exact HO270.out) hb); have n1_ := Aside0.mk (Kd.N_below (by (with_reducible repeat (first | apply Kd.N_alloc | apply Kd.N_drewN | apply Kd.N_drew)); exact HO273.out) hb); have n2_ := Aside0.mk (Kd.R_below (by (with_reducible repeat (first | apply Kd.R_alloc | apply Kd.R_drewN | apply Kd.R_drew)); exact HO277.out) hb); have n3_ := Aside0.mk (Kd.R_below (by (with_reducible repeat (first | apply Kd.R_alloc | apply Kd.R_drewN | apply Kd.R_drew)); exact HO282.out) hb); have n4_ := Aside0.mk (Kd.R_below (by (with_reducible repeat (first | apply Kd.R_alloc | apply Kd.R_drewN | apply Kd.R_drew)); exact HO287.out) hb); have n5_ := Aside0.mk (below_step (by repeat (first | (with_reducible first | exact HB.out | apply below_alloc | apply pw_below_drewN | apply below_drew1) | exact HB.out)) hb); clear HO270; clear HO273; clear HO277; clear HO282; clear HO287; clear HB; have HO270 := n0_; have HO273 := n1_; have HO277 := n2_; have HO282 := n3_; have HO287 := n4_; have HB := n5_; clear n0_ n1_ n2_ n3_ n4_ n5_; (try clear hb); (try clear hb2); (try clear hk); (try clear hi)))
                go_ret
                exact ⟨by first | rfl | (simp [errW_none, errW_some] <;> rfl) | (simp [*, errW_none, errW_some] <;> rfl), by repeat (first | (with_reducible first | exact HB.out | apply below_alloc | apply pw_below_drewN | apply below_drew1) | exact HB.out)⟩
            · rw [if_neg c14] at H
              have c14b0 : (t283.toList == ([65, 82, 77, 65] : List UInt8)) = false := beq_eq_false_iff_ne.mpr c14
              have c14b1 : (t283.toList != ([65, 82, 77, 65] : List UInt8)) = true := bne_iff_ne.mpr c14
              obtain rfl := Option.some.inj H
              go_enter Try.func17, Try.ntmps17
              go_wp2_with (first | ((with_reducible refine gate_callee (f := 47) rfl ?_); refine goesL_ (some 10) rfl rfl Try.func47 (by kernel_rfl) rfl #[.int .i64 1, .int .i64 1, .bool true] rfl (by (try simp only [List.map_toArray, List.map_cons, List.map_nil]); first | done | rfl | (simp only [List.length_drop, List.length_take]; rfl)) ?_; (with_reducible refine (cippuslaw07_copies.calls 1 1 true t268 _ A1.out).mono ?_); rintro e w54 ⟨v269, rfl, ho0, hb⟩; refine ⟨_, rfl, ?_⟩; have n0_ := Aside0.mk (Kd.R_lower ho0 (below_size (by repeat (first | (with_reducible first | exact HB.out | apply below_alloc | apply pw_below_drewN | apply below_drew1) | exact HB.out)))); have n1_ := Aside0.mk (below_step (by repeat (first | (with_reducible first | exact HB.out | apply below_alloc | apply pw_below_drewN | apply below_drew1) | exact HB.out)) hb); clear HB; have HO270 := n0_; have HB := n1_; clear n0_ n1_; (try clear hb); (try clear hb2); (try clear hk); (try clear hi); (try clear ho0); obtain ⟨Ao55, co55, eo55⟩ := Kd.R_slice HO270.out; subst eo55) | ((with_reducible refine gate_callee (f := 30) rfl ?_); refine goesL_ (some 11) rfl rfl Try.func30 (by kernel_rfl) rfl #[.slice Ao55 t268.length co55] rfl (by (try simp only [List.map_toArray, List.map_cons, List.map_nil]); first | done | rfl | (simp only [List.length_drop, List.length_take]; rfl)) ?_; (with_reducible refine (stemma_Sources.calls k _ _ t268 t271 t274 _ ?side1 ?side2 A2.out).mono ?_); (case side1 => repeat (first | exact (Kd.R_reads' HO270.out).2.2 | (with_reducible refine Kd.C_alloc ?_ _) | (with_reducible refine Kd.C_drewN ?_ _) | (with_reducible refine Kd.C_drew ?_))); (case side2 => exact (Kd.R_reads' HO270.out).2.1); rintro e w56 ⟨v272, rfl, ho0, hb⟩; refine ⟨_, rfl, ?_⟩; have n0_ := Aside0.mk (Kd.R_below (by (with_reducible repeat (first | apply Kd.R_alloc | apply Kd.R_drewN | apply Kd.R_drew)); exact HO270.out) hb); have n1_ := Aside0.mk (Kd.N_lower (Kd.N_mono (ok' := fun k_ => some k_ ≠ (.slice Ao55 t268.length co55 : Value).ownBlock) ho0 (fun k_ hk_ => (Kd.fresh' (Kd.R_lt (by (with_reducible repeat (first | apply Kd.R_alloc | apply Kd.R_drewN | apply Kd.R_drew)); exact HO270.out)) k_ hk_))) (below_size (by repeat (first | (with_reducible first | exact HB.out | apply below_alloc | apply pw_below_drewN | apply below_drew1) | exact HB.out)))); have n2_ := Aside0.mk (below_step (by repeat (first | (with_reducible first | exact HB.out | apply below_alloc | apply pw_below_drewN | apply below_drew1) | exact HB.out)) hb); clear HO270; clear HB; have HO270 := n0_; have HO273 := n1_; have HB := n2_; clear n0_ n1_ n2_; (try clear hb); (try clear hb2); (try clear hk); (try clear hi); (try clear ho0)) | ((with_reducible refine gate_callee (f := 47) rfl ?_); refine goesL_ (some 15) rfl rfl Try.func47 (by kernel_rfl) rfl #[.int .i64 1, .int .i64 0, .bool true] rfl (by (try simp only [List.map_toArray, List.map_cons, List.map_nil]); first | done | rfl | (simp only [List.length_drop, List.length_take]; rfl)) ?_; (with_reducible refine (cippuslaw07_copies.calls 1 0 true t275 _ A3.out).mono ?_); rintro e w57 ⟨v276, rfl, ho0, hb⟩; refine ⟨_, rfl, ?_⟩; have n0_ := Aside0.mk (Kd.R_elder' (by (with_reducible repeat (first | apply Kd.R_alloc | apply Kd.R_drewN | apply Kd.R_drew)); exact HO270.out) (Kd.R_base ho0) hb); have n1_ := Aside0.mk (Kd.N_elder' (by (with_reducible repeat (first | apply Kd.N_alloc | apply Kd.N_drewN | apply Kd.N_drew)); exact HO273.out) (Kd.R_base ho0) hb); have n2_ := Aside0.mk (Kd.R_lower (Kd.R_new' ho0 (Kd.R_lt (by (with_reducible repeat (first | apply Kd.R_alloc | apply Kd.R_drewN | apply Kd.R_drew)); exact HO270.out))) (below_size (by repeat (first | (with_reducible first | exact HB.out | apply below_alloc | apply pw_below_drewN | apply below_drew1) | exact HB.out)))); have n3_ := Aside0.mk (below_step (by repeat (first | (with_reducible first | exact HB.out | apply below_alloc | apply pw_below_drewN | apply below_drew1) | exact HB.out)) hb); clear HO270; clear HO273; clear HB; have HO270 := n0_; have HO273 := n1_; have HO277 := n2_; have HB := n3_; clear n0_ n1_ n2_ n3_; (try clear hb); (try clear hb2); (try clear hk); (try clear hi); (try clear ho0); obtain ⟨Ao58, co58, eo58⟩ := Kd.R_slice HO277.out; subst eo58) | ((with_reducible refine gate_callee (f := 20) rfl ?_); refine goesL_ (some 16) rfl rfl Try.func20 (by kernel_rfl) rfl #[.slice Ao58 t275.length co58] rfl (by (try simp only [List.map_toArray, List.map_cons, List.map_nil]); first | done | rfl | (simp only [List.length_drop, List.length_take]; rfl)) ?_; (with_reducible refine (stemma_Print.calls k _ _ t275 t278 t279 _ ?side1 ?side2 A4.out).mono ?_); (case side1 => repeat (first | exact (Kd.R_reads' HO277.out).2.2 | (with_reducible refine Kd.C_alloc ?_ _) | (with_reducible refine Kd.C_drewN ?_ _) | (with_reducible refine Kd.C_drew ?_))); (case side2 => exact (Kd.R_reads' HO277.out).2.1); rintro e w59 ⟨rfl, hb⟩; refine ⟨_, rfl, ?_⟩; have n0_ := Aside0.mk (Kd.R_below (by (with_reducible repeat (first | apply Kd.R_alloc | apply Kd.R_drewN | apply Kd.R_drew)); exact HO270.out) hb); have n1_ := Aside0.mk (Kd.N_below (by (with_reducible repeat (first | apply Kd.N_alloc | apply Kd.N_drewN | apply Kd.N_drew)); exact HO273.out) hb); have n2_ := Aside0.mk (Kd.R_below (by (with_reducible repeat (first | apply Kd.R_alloc | apply Kd.R_drewN | apply Kd.R_drew)); exact HO277.out) hb); have n3_ := Aside0.mk (below_step (by repeat (first | (with_reducible first | exact HB.out | apply below_alloc | apply pw_below_drewN | apply below_drew1) | exact HB.out)) hb); clear HO270; clear HO273; clear HO277; clear HB; have HO270 := n0_; have HO273 := n1_; have HO277 := n2_; have HB := n3_; clear n0_ n1_ n2_ n3_; (try clear hb); (try clear hb2); (try clear hk); (try clear hi)) | ((with_reducible refine gate_callee (f := 47) rfl ?_); refine goesL_ (some 20) rfl rfl Try.func47 (by kernel_rfl) rfl #[.int .i64 0, .int .i64 1, .bool true] rfl (by (try simp only [List.map_toArray, List.map_cons, List.map_nil]); first | done | rfl | (simp only [List.length_drop, List.length_take]; rfl)) ?_; (with_reducible refine (cippuslaw07_copies.calls 0 1 true t280 _ A5.out).mono ?_); rintro e w60 ⟨v281, rfl, ho0, hb⟩; refine ⟨_, rfl, ?_⟩; have n0_ := Aside0.mk (Kd.R_elder' (by (with_reducible repeat (first | apply Kd.R_alloc | apply Kd.R_drewN | apply Kd.R_drew)); exact HO270.out) (Kd.R_base ho0) hb); have n1_ := Aside0.mk (Kd.N_elder' (by (with_reducible repeat (first | apply Kd.N_alloc | apply Kd.N_drewN | apply Kd.N_drew)); exact HO273.out) (Kd.R_base ho0) hb); have n2_ := Aside0.mk (Kd.R_elder' (by (with_reducible repeat (first | apply Kd.R_alloc | apply Kd.R_drewN | apply Kd.R_drew)); exact HO277.out) (Kd.R_base ho0) hb); have n3_ := Aside0.mk (Kd.R_lower (Kd.R_new' (Kd.R_new' ho0 (Kd.R_lt (by (with_reducible repeat (first | apply Kd.R_alloc | apply Kd.R_drewN | apply Kd.R_drew)); exact HO270.out))) (Kd.R_lt (by (with_reducible repeat (first | apply Kd.R_alloc | apply Kd.R_drewN | apply Kd.R_drew)); exact HO277.out))) (below_size (by repeat (first | (with_reducible first | exact HB.out | apply below_alloc | apply pw_below_drewN | apply below_drew1) | exact HB.out)))); have n4_ := Aside0.mk (below_step (by repeat (first | (with_reducible first | exact HB.out | apply below_alloc | apply pw_below_drewN | apply below_drew1) | exact HB.out)) hb); clear HO270; clear HO273; clear HO277; clear HB; have HO270 := n0_; have HO273 := n1_; have HO277 := n2_; have HO282 := n3_; have HB := n4_; clear n0_ n1_ n2_ n3_ n4_; (try clear hb); (try clear hb2); (try clear hk); (try clear hi); (try clear ho0); obtain ⟨Ao61, co61, eo61⟩ := Kd.R_slice HO282.out; subst eo61) | ((with_reducible refine gate_callee (f := 20) rfl ?_); refine goesL_ (some 21) rfl rfl Try.func20 (by kernel_rfl) rfl #[.slice Ao61 t280.length co61] rfl (by (try simp only [List.map_toArray, List.map_cons, List.map_nil]); first | done | rfl | (simp only [List.length_drop, List.length_take]; rfl)) ?_; (with_reducible refine (stemma_Print.calls k _ _ t280 t283 t284 _ ?side1 ?side2 A6.out).mono ?_); (case side1 => repeat (first | exact (Kd.R_reads' HO282.out).2.2 | (with_reducible refine Kd.C_alloc ?_ _) | (with_reducible refine Kd.C_drewN ?_ _) | (with_reducible refine Kd.C_drew ?_))); (case side2 => exact (Kd.R_reads' HO282.out).2.1); rintro e w62 ⟨rfl, hb⟩; refine ⟨_, rfl, ?_⟩; have n0_ := Aside0.mk (Kd.R_below (by (with_reducible repeat (first | apply Kd.R_alloc | apply Kd.R_drewN | apply Kd.R_drew)); exact HO270.out) hb); have n1_ := Aside0.mk (Kd.N_below (by (with_reducible repeat (first | apply Kd.N_alloc | apply Kd.N_drewN | apply Kd.N_drew)); exact HO273.out) hb); have n2_ := Aside0.mk (Kd.R_below (by (with_reducible repeat (first | apply Kd.R_alloc | apply Kd.R_drewN | apply Kd.R_drew)); exact HO277.out) hb); have n3_ := Aside0.mk (Kd.R_below (by (with_reducible repeat (first | apply Kd.R_alloc | apply Kd.R_drewN | apply Kd.R_drew)); exact HO282.out) hb); have n4_ := Aside0.mk (below_step (by repeat (first | (with_reducible first | exact HB.out | apply below_alloc | apply pw_below_drewN | apply below_drew1) | exact HB.out)) hb); clear HO270; clear HO273; clear HO277; clear HO282; clear HB; have HO270 := n0_; have HO273 := n1_; have HO277 := n2_; have HO282 := n3_; have HB := n4_; clear n0_ n1_ n2_ n3_ n4_; (try clear hb); (try clear hb2); (try clear hk); (try clear hi)) | ((with_reducible refine gate_callee (f := 47) rfl ?_); refine goesL_ (some 25) rfl rfl Try.func47 (by kernel_rfl) rfl #[.int .i64 1, .int .i64 0, .bool true] rfl (by (try simp only [List.map_toArray, List.map_cons, List.map_nil]); first | done | rfl | (simp only [List.length_drop, List.length_take]; rfl)) ?_; (with_reducible refine (cippuslaw07_copies.calls 1 0 true t285 _ A7.out).mono ?_); rintro e w63 ⟨v286, rfl, ho0, hb⟩; refine ⟨_, rfl, ?_⟩; have n0_ := Aside0.mk (Kd.R_elder' (by (with_reducible repeat (first | apply Kd.R_alloc | apply Kd.R_drewN | apply Kd.R_drew)); exact HO270.out) (Kd.R_base ho0) hb); have n1_ := Aside0.mk (Kd.N_elder' (by (with_reducible repeat (first | apply Kd.N_alloc | apply Kd.N_drewN | apply Kd.N_drew)); exact HO273.out) (Kd.R_base ho0) hb); have n2_ := Aside0.mk (Kd.R_elder' (by (with_reducible repeat (first | apply Kd.R_alloc | apply Kd.R_drewN | apply Kd.R_drew)); exact HO277.out) (Kd.R_base ho0) hb); have n3_ := Aside0.mk (Kd.R_elder' (by (with_reducible repeat (first | apply Kd.R_alloc | apply Kd.R_drewN | apply Kd.R_drew)); exact HO282.out) (Kd.R_base ho0) hb); have n4_ := Aside0.mk (Kd.R_lower (Kd.R_new' (Kd.R_new' (Kd.R_new' ho0 (Kd.R_lt (by (with_reducible repeat (first | apply Kd.R_alloc | apply Kd.R_drewN | apply Kd.R_drew)); exact HO270.out))) (Kd.R_lt (by (with_reducible repeat (first | apply Kd.R_alloc | apply Kd.R_drewN | apply Kd.R_drew)); exact HO277.out))) (Kd.R_lt (by (with_reducible repeat (first | apply Kd.R_alloc | apply Kd.R_drewN | apply Kd.R_drew)); exact HO282.out))) (below_size (by repeat (first | (with_reducible first | exact HB.out | apply below_alloc | apply pw_below_drewN | apply below_drew1) | exact HB.out)))); have n5_ := Aside0.mk (below_step (by repeat (first | (with_reducible first | exact HB.out | apply below_alloc | apply pw_below_drewN | apply below_drew1) | exact HB.out)) hb); clear HO270; clear HO273; clear HO277; clear HO282; clear HB; have HO270 := n0_; have HO273 := n1_; have HO277 := n2_; have HO282 := n3_; have HO287 := n4_; have HB := n5_; clear n0_ n1_ n2_ n3_ n4_ n5_; (try clear hb); (try clear hb2); (try clear hk); (try clear hi); (try clear ho0); obtain ⟨Ao64, co64, eo64⟩ := Kd.R_slice HO287.out; subst eo64) | ((with_reducible refine gate_callee (f := 24) rfl ?_); refine goesL_ (some 26) rfl rfl Try.func24 (by kernel_rfl) rfl #[.slice Ao64 t285.length co64] rfl (by (try simp only [List.map_toArray, List.map_cons, List.map_nil]); first | done | rfl | (simp only [List.length_drop, List.length_take]; rfl)) ?_; (with_reducible refine (stemma_Fewest.calls k _ _ t285 t288 t289 _ ?side1 ?side2 A8.out).mono ?_); (case side1 => repeat (first | exact (Kd.R_reads' HO287.out).2.2 | (with_reducible refine Kd.C_alloc ?_ _) | (with_reducible refine Kd.C_drewN ?_ _) | (with_reducible refine Kd.C_drew ?_))); (case side2 => exact (Kd.R_reads' HO287.out).2.1); rintro e w65 ⟨rfl, hb⟩; refine ⟨_, rfl, ?_⟩; have n0_ := Aside0.mk (Kd.R_below (by (with_reducible repeat (first | apply Kd.R_alloc | apply Kd.R_drewN | apply Kd.R_drew)); exact HO270.out) hb); have n1_ := Aside0.mk (Kd.N_below (by (with_reducible repeat (first | apply Kd.N_alloc | apply Kd.N_drewN | apply Kd.N_drew)); exact HO273.out) hb); have n2_ := Aside0.mk (Kd.R_below (by (with_reducible repeat (first | apply Kd.R_alloc | apply Kd.R_drewN | apply Kd.R_drew)); exact HO277.out) hb); have n3_ := Aside0.mk (Kd.R_below (by (with_reducible repeat (first | apply Kd.R_alloc | apply Kd.R_drewN | apply Kd.R_drew)); exact HO282.out) hb); have n4_ := Aside0.mk (Kd.R_below (by (with_reducible repeat (first | apply Kd.R_alloc | apply Kd.R_drewN | apply Kd.R_drew)); exact HO287.out) hb); have n5_ := Aside0.mk (below_step (by repeat (first | (with_reducible first | exact HB.out | apply below_alloc | apply pw_below_drewN | apply below_drew1) | exact HB.out)) hb); clear HO270; clear HO273; clear HO277; clear HO282; clear HO287; clear HB; have HO270 := n0_; have HO273 := n1_; have HO277 := n2_; have HO282 := n3_; have HO287 := n4_; have HB := n5_; clear n0_ n1_ n2_ n3_ n4_ n5_; (try clear hb); (try clear hb2); (try clear hk); (try clear hi)))
              go_ret
              exact ⟨by first | rfl | (simp [errW_none, errW_some] <;> rfl) | (simp [*, errW_none, errW_some] <;> rfl), by repeat (first | (with_reducible first | exact HB.out | apply below_alloc | apply pw_below_drewN | apply below_drew1) | exact HB.out)⟩
          · rw [if_neg c13] at H
            have c13b0 : (t278.toList == ([65, 82, 77, 79] : List UInt8)) = false := beq_eq_false_iff_ne.mpr c13
            have c13b1 : (t278.toList != ([65, 82, 77, 79] : List UInt8)) = true := bne_iff_ne.mpr c13
            obtain rfl := Option.some.inj H
            go_enter Try.func17, Try.ntmps17
            go_wp2_with (first | ((with_reducible refine gate_callee (f := 47) rfl ?_); refine goesL_ (some 10) rfl rfl Try.func47 (by kernel_rfl) rfl #[.int .i64 1, .int .i64 1, .bool true] rfl (by (try simp only [List.map_toArray, List.map_cons, List.map_nil]); first | done | rfl | (simp only [List.length_drop, List.length_take]; rfl)) ?_; (with_reducible refine (cippuslaw07_copies.calls 1 1 true t268 _ A1.out).mono ?_); rintro e w66 ⟨v269, rfl, ho0, hb⟩; refine ⟨_, rfl, ?_⟩; have n0_ := Aside0.mk (Kd.R_lower ho0 (below_size (by repeat (first | (with_reducible first | exact HB.out | apply below_alloc | apply pw_below_drewN | apply below_drew1) | exact HB.out)))); have n1_ := Aside0.mk (below_step (by repeat (first | (with_reducible first | exact HB.out | apply below_alloc | apply pw_below_drewN | apply below_drew1) | exact HB.out)) hb); clear HB; have HO270 := n0_; have HB := n1_; clear n0_ n1_; (try clear hb); (try clear hb2); (try clear hk); (try clear hi); (try clear ho0); obtain ⟨Ao67, co67, eo67⟩ := Kd.R_slice HO270.out; subst eo67) | ((with_reducible refine gate_callee (f := 30) rfl ?_); refine goesL_ (some 11) rfl rfl Try.func30 (by kernel_rfl) rfl #[.slice Ao67 t268.length co67] rfl (by (try simp only [List.map_toArray, List.map_cons, List.map_nil]); first | done | rfl | (simp only [List.length_drop, List.length_take]; rfl)) ?_; (with_reducible refine (stemma_Sources.calls k _ _ t268 t271 t274 _ ?side1 ?side2 A2.out).mono ?_); (case side1 => repeat (first | exact (Kd.R_reads' HO270.out).2.2 | (with_reducible refine Kd.C_alloc ?_ _) | (with_reducible refine Kd.C_drewN ?_ _) | (with_reducible refine Kd.C_drew ?_))); (case side2 => exact (Kd.R_reads' HO270.out).2.1); rintro e w68 ⟨v272, rfl, ho0, hb⟩; refine ⟨_, rfl, ?_⟩; have n0_ := Aside0.mk (Kd.R_below (by (with_reducible repeat (first | apply Kd.R_alloc | apply Kd.R_drewN | apply Kd.R_drew)); exact HO270.out) hb); have n1_ := Aside0.mk (Kd.N_lower (Kd.N_mono (ok' := fun k_ => some k_ ≠ (.slice Ao67 t268.length co67 : Value).ownBlock) ho0 (fun k_ hk_ => (Kd.fresh' (Kd.R_lt (by (with_reducible repeat (first | apply Kd.R_alloc | apply Kd.R_drewN | apply Kd.R_drew)); exact HO270.out)) k_ hk_))) (below_size (by repeat (first | (with_reducible first | exact HB.out | apply below_alloc | apply pw_below_drewN | apply below_drew1) | exact HB.out)))); have n2_ := Aside0.mk (below_step (by repeat (first | (with_reducible first | exact HB.out | apply below_alloc | apply pw_below_drewN | apply below_drew1) | exact HB.out)) hb); clear HO270; clear HB; have HO270 := n0_; have HO273 := n1_; have HB := n2_; clear n0_ n1_ n2_; (try clear hb); (try clear hb2); (try clear hk); (try clear hi); (try clear ho0)) | ((with_reducible refine gate_callee (f := 47) rfl ?_); refine goesL_ (some 15) rfl rfl Try.func47 (by kernel_rfl) rfl #[.int .i64 1, .int .i64 0, .bool true] rfl (by (try simp only [List.map_toArray, List.map_cons, List.map_nil]); first | done | rfl | (simp only [List.length_drop, List.length_take]; rfl)) ?_; (with_reducible refine (cippuslaw07_copies.calls 1 0 true t275 _ A3.out).mono ?_); rintro e w69 ⟨v276, rfl, ho0, hb⟩; refine ⟨_, rfl, ?_⟩; have n0_ := Aside0.mk (Kd.R_elder' (by (with_reducible repeat (first | apply Kd.R_alloc | apply Kd.R_drewN | apply Kd.R_drew)); exact HO270.out) (Kd.R_base ho0) hb); have n1_ := Aside0.mk (Kd.N_elder' (by (with_reducible repeat (first | apply Kd.N_alloc | apply Kd.N_drewN | apply Kd.N_drew)); exact HO273.out) (Kd.R_base ho0) hb); have n2_ := Aside0.mk (Kd.R_lower (Kd.R_new' ho0 (Kd.R_lt (by (with_reducible repeat (first | apply Kd.R_alloc | apply Kd.R_drewN | apply Kd.R_drew)); exact HO270.out))) (below_size (by repeat (first | (with_reducible first | exact HB.out | apply below_alloc | apply pw_below_drewN | apply below_drew1) | exact HB.out)))); have n3_ := Aside0.mk (below_step (by repeat (first | (with_reducible first | exact HB.out | apply below_alloc | apply pw_below_drewN | apply below_drew1) | exact HB.out)) hb); clear HO270; clear HO273; clear HB; have HO270 := n0_; have HO273 := n1_; have HO277 := n2_; have HB := n3_; clear n0_ n1_ n2_ n3_; (try clear hb); (try clear hb2); (try clear hk); (try clear hi); (try clear ho0); obtain ⟨Ao70, co70, eo70⟩ := Kd.R_slice HO277.out; subst eo70) | ((with_reducible refine gate_callee (f := 20) rfl ?_); refine goesL_ (some 16) rfl rfl Try.func20 (by kernel_rfl) rfl #[.slice Ao70 t275.length co70] rfl (by (try simp only [List.map_toArray, List.map_cons, List.map_nil]); first | done | rfl | (simp only [List.length_drop, List.length_take]; rfl)) ?_; (with_reducible refine (stemma_Print.calls k _ _ t275 t278 t279 _ ?side1 ?side2 A4.out).mono ?_); (case side1 => repeat (first | exact (Kd.R_reads' HO277.out).2.2 | (with_reducible refine Kd.C_alloc ?_ _) | (with_reducible refine Kd.C_drewN ?_ _) | (with_reducible refine Kd.C_drew ?_))); (case side2 => exact (Kd.R_reads' HO277.out).2.1); rintro e w71 ⟨rfl, hb⟩; refine ⟨_, rfl, ?_⟩; have n0_ := Aside0.mk (Kd.R_below (by (with_reducible repeat (first | apply Kd.R_alloc | apply Kd.R_drewN | apply Kd.R_drew)); exact HO270.out) hb); have n1_ := Aside0.mk (Kd.N_below (by (with_reducible repeat (first | apply Kd.N_alloc | apply Kd.N_drewN | apply Kd.N_drew)); exact HO273.out) hb); have n2_ := Aside0.mk (Kd.R_below (by (with_reducible repeat (first | apply Kd.R_alloc | apply Kd.R_drewN | apply Kd.R_drew)); exact HO277.out) hb); have n3_ := Aside0.mk (below_step (by repeat (first | (with_reducible first | exact HB.out | apply below_alloc | apply pw_below_drewN | apply below_drew1) | exact HB.out)) hb); clear HO270; clear HO273; clear HO277; clear HB; have HO270 := n0_; have HO273 := n1_; have HO277 := n2_; have HB := n3_; clear n0_ n1_ n2_ n3_; (try clear hb); (try clear hb2); (try clear hk); (try clear hi)) | ((with_reducible refine gate_callee (f := 47) rfl ?_); refine goesL_ (some 20) rfl rfl Try.func47 (by kernel_rfl) rfl #[.int .i64 0, .int .i64 1, .bool true] rfl (by (try simp only [List.map_toArray, List.map_cons, List.map_nil]); first | done | rfl | (simp only [List.length_drop, List.length_take]; rfl)) ?_; (with_reducible refine (cippuslaw07_copies.calls 0 1 true t280 _ A5.out).mono ?_); rintro e w72 ⟨v281, rfl, ho0, hb⟩; refine ⟨_, rfl, ?_⟩; have n0_ := Aside0.mk (Kd.R_elder' (by (with_reducible repeat (first | apply Kd.R_alloc | apply Kd.R_drewN | apply Kd.R_drew)); exact HO270.out) (Kd.R_base ho0) hb); have n1_ := Aside0.mk (Kd.N_elder' (by (with_reducible repeat (first | apply Kd.N_alloc | apply Kd.N_drewN | apply Kd.N_drew)); exact HO273.out) (Kd.R_base ho0) hb); have n2_ := Aside0.mk (Kd.R_elder' (by (with_reducible repeat (first | apply Kd.R_alloc | apply Kd.R_drewN | apply Kd.R_drew)); exact HO277.out) (Kd.R_base ho0) hb); have n3_ := Aside0.mk (Kd.R_lower (Kd.R_new' (Kd.R_new' ho0 (Kd.R_lt (by (with_reducible repeat (first | apply Kd.R_alloc | apply Kd.R_drewN | apply Kd.R_drew)); exact HO270.out))) (Kd.R_lt (by (with_reducible repeat (first | apply Kd.R_alloc | apply Kd.R_drewN | apply Kd.R_drew)); exact HO277.out))) (below_size (by repeat (first | (with_reducible first | exact HB.out | apply below_alloc | apply pw_below_drewN | apply below_drew1) | exact HB.out)))); have n4_ := Aside0.mk (below_step (by repeat (first | (with_reducible first | exact HB.out | apply below_alloc | apply pw_below_drewN | apply below_drew1) | exact HB.out)) hb); clear HO270; clear HO273; clear HO277; clear HB; have HO270 := n0_; have HO273 := n1_; have HO277 := n2_; have HO282 := n3_; have HB := n4_; clear n0_ n1_ n2_ n3_ n4_; (try clear hb); (try clear hb2); (try clear hk); (try clear hi); (try clear ho0); obtain ⟨Ao73, co73, eo73⟩ := Kd.R_slice HO282.out; subst eo73) | ((with_reducible refine gate_callee (f := 20) rfl ?_); refine goesL_ (some 21) rfl rfl Try.func20 (by kernel_rfl) rfl #[.slice Ao73 t280.length co73] rfl (by (try simp only [List.map_toArray, List.map_cons, List.map_nil]); first | done | rfl | (simp only [List.length_drop, List.length_take]; rfl)) ?_; (with_reducible refine (stemma_Print.calls k _ _ t280 t283 t284 _ ?side1 ?side2 A6.out).mono ?_); (case side1 => repeat (first | exact (Kd.R_reads' HO282.out).2.2 | (with_reducible refine Kd.C_alloc ?_ _) | (with_reducible refine Kd.C_drewN ?_ _) | (with_reducible refine Kd.C_drew ?_))); (case side2 => exact (Kd.R_reads' HO282.out).2.1); rintro e w74 ⟨rfl, hb⟩; refine ⟨_, rfl, ?_⟩; have n0_ := Aside0.mk (Kd.R_below (by (with_reducible repeat (first | apply Kd.R_alloc | apply Kd.R_drewN | apply Kd.R_drew)); exact HO270.out) hb); have n1_ := Aside0.mk (Kd.N_below (by (with_reducible repeat (first | apply Kd.N_alloc | apply Kd.N_drewN | apply Kd.N_drew)); exact HO273.out) hb); have n2_ := Aside0.mk (Kd.R_below (by (with_reducible repeat (first | apply Kd.R_alloc | apply Kd.R_drewN | apply Kd.R_drew)); exact HO277.out) hb); have n3_ := Aside0.mk (Kd.R_below (by (with_reducible repeat (first | apply Kd.R_alloc | apply Kd.R_drewN | apply Kd.R_drew)); exact HO282.out) hb); have n4_ := Aside0.mk (below_step (by repeat (first | (with_reducible first | exact HB.out | apply below_alloc | apply pw_below_drewN | apply below_drew1) | exact HB.out)) hb); clear HO270; clear HO273; clear HO277; clear HO282; clear HB; have HO270 := n0_; have HO273 := n1_; have HO277 := n2_; have HO282 := n3_; have HB := n4_; clear n0_ n1_ n2_ n3_ n4_; (try clear hb); (try clear hb2); (try clear hk); (try clear hi)) | ((with_reducible refine gate_callee (f := 47) rfl ?_); refine goesL_ (some 25) rfl rfl Try.func47 (by kernel_rfl) rfl #[.int .i64 1, .int .i64 0, .bool true] rfl (by (try simp only [List.map_toArray, List.map_cons, List.map_nil]); first | done | rfl | (simp only [List.length_drop, List.length_take]; rfl)) ?_; (with_reducible refine (cippuslaw07_copies.calls 1 0 true t285 _ A7.out).mono ?_); rintro e w75 ⟨v286, rfl, ho0, hb⟩; refine ⟨_, rfl, ?_⟩; have n0_ := Aside0.mk (Kd.R_elder' (by (with_reducible repeat (first | apply Kd.R_alloc | apply Kd.R_drewN | apply Kd.R_drew)); exact HO270.out) (Kd.R_base ho0) hb); have n1_ := Aside0.mk (Kd.N_elder' (by (with_reducible repeat (first | apply Kd.N_alloc | apply Kd.N_drewN | apply Kd.N_drew)); exact HO273.out) (Kd.R_base ho0) hb); have n2_ := Aside0.mk (Kd.R_elder' (by (with_reducible repeat (first | apply Kd.R_alloc | apply Kd.R_drewN | apply Kd.R_drew)); exact HO277.out) (Kd.R_base ho0) hb); have n3_ := Aside0.mk (Kd.R_elder' (by (with_reducible repeat (first | apply Kd.R_alloc | apply Kd.R_drewN | apply Kd.R_drew)); exact HO282.out) (Kd.R_base ho0) hb); have n4_ := Aside0.mk (Kd.R_lower (Kd.R_new' (Kd.R_new' (Kd.R_new' ho0 (Kd.R_lt (by (with_reducible repeat (first | apply Kd.R_alloc | apply Kd.R_drewN | apply Kd.R_drew)); exact HO270.out))) (Kd.R_lt (by (with_reducible repeat (first | apply Kd.R_alloc | apply Kd.R_drewN | apply Kd.R_drew)); exact HO277.out))) (Kd.R_lt (by (with_reducible repeat (first | apply Kd.R_alloc | apply Kd.R_drewN | apply Kd.R_drew)); exact HO282.out))) (below_size (by repeat (first | (with_reducible first | exact HB.out | apply below_alloc | apply pw_below_drewN | apply below_drew1) | exact HB.out)))); have n5_ := Aside0.mk (below_step (by repeat (first | (with_reducible first | exact HB.out | apply below_alloc | apply pw_below_drewN | apply below_drew1) | exact HB.out)) hb); clear HO270; clear HO273; clear HO277; clear HO282; clear HB; have HO270 := n0_; have HO273 := n1_; have HO277 := n2_; have HO282 := n3_; have HO287 := n4_; have HB := n5_; clear n0_ n1_ n2_ n3_ n4_ n5_; (try clear hb); (try clear hb2); (try clear hk); (try clear hi); (try clear ho0); obtain ⟨Ao76, co76, eo76⟩ := Kd.R_slice HO287.out; subst eo76) | ((with_reducible refine gate_callee (f := 24) rfl ?_); refine goesL_ (some 26) rfl rfl Try.func24 (by kernel_rfl) rfl #[.slice Ao76 t285.length co76] rfl (by (try simp only [List.map_toArray, List.map_cons, List.map_nil]); first | done | rfl | (simp only [List.length_drop, List.length_take]; rfl)) ?_; (with_reducible refine (stemma_Fewest.calls k _ _ t285 t288 t289 _ ?side1 ?side2 A8.out).mono ?_); (case side1 => repeat (first | exact (Kd.R_reads' HO287.out).2.2 | (with_reducible refine Kd.C_alloc ?_ _) | (with_reducible refine Kd.C_drewN ?_ _) | (with_reducible refine Kd.C_drew ?_))); (case side2 => exact (Kd.R_reads' HO287.out).2.1); rintro e w77 ⟨rfl, hb⟩; refine ⟨_, rfl, ?_⟩; have n0_ := Aside0.mk (Kd.R_below (by (with_reducible repeat (first | apply Kd.R_alloc | apply Kd.R_drewN | apply Kd.R_drew)); exact HO270.out) hb); have n1_ := Aside0.mk (Kd.N_below (by (with_reducible repeat (first | apply Kd.N_alloc | apply Kd.N_drewN | apply Kd.N_drew)); exact HO273.out) hb); have n2_ := Aside0.mk (Kd.R_below (by (with_reducible repeat (first | apply Kd.R_alloc | apply Kd.R_drewN | apply Kd.R_drew)); exact HO277.out) hb); have n3_ := Aside0.mk (Kd.R_below (by (with_reducible repeat (first | apply Kd.R_alloc | apply Kd.R_drewN | apply Kd.R_drew)); exact HO282.out) hb); have n4_ := Aside0.mk (Kd.R_below (by (with_reducible repeat (first | apply Kd.R_alloc | apply Kd.R_drewN | apply Kd.R_drew)); exact HO287.out) hb); have n5_ := Aside0.mk (below_step (by repeat (first | (with_reducible first | exact HB.out | apply below_alloc | apply pw_below_drewN | apply below_drew1) | exact HB.out)) hb); clear HO270; clear HO273; clear HO277; clear HO282; clear HO287; clear HB; have HO270 := n0_; have HO273 := n1_; have HO277 := n2_; have HO282 := n3_; have HO287 := n4_; have HB := n5_; clear n0_ n1_ n2_ n3_ n4_ n5_; (try clear hb); (try clear hb2); (try clear hk); (try clear hi)))
            go_ret
            exact ⟨by first | rfl | (simp [errW_none, errW_some] <;> rfl) | (simp [*, errW_none, errW_some] <;> rfl), by repeat (first | (with_reducible first | exact HB.out | apply below_alloc | apply pw_below_drewN | apply below_drew1) | exact HB.out)⟩
        · rw [if_neg c12] at H
          have c12b0 : (t289 == 0) = false := beq_eq_false_iff_ne.mpr c12
          have c12b1 : (t289 != 0) = true := bne_iff_ne.mpr c12
          obtain rfl := Option.some.inj H
          go_enter Try.func17, Try.ntmps17
          go_wp2_with (first | ((with_reducible refine gate_callee (f := 47) rfl ?_); refine goesL_ (some 10) rfl rfl Try.func47 (by kernel_rfl) rfl #[.int .i64 1, .int .i64 1, .bool true] rfl (by (try simp only [List.map_toArray, List.map_cons, List.map_nil]); first | done | rfl | (simp only [List.length_drop, List.length_take]; rfl)) ?_; (with_reducible refine (cippuslaw07_copies.calls 1 1 true t268 _ A1.out).mono ?_); rintro e w78 ⟨v269, rfl, ho0, hb⟩; refine ⟨_, rfl, ?_⟩; have n0_ := Aside0.mk (Kd.R_lower ho0 (below_size (by repeat (first | (with_reducible first | exact HB.out | apply below_alloc | apply pw_below_drewN | apply below_drew1) | exact HB.out)))); have n1_ := Aside0.mk (below_step (by repeat (first | (with_reducible first | exact HB.out | apply below_alloc | apply pw_below_drewN | apply below_drew1) | exact HB.out)) hb); clear HB; have HO270 := n0_; have HB := n1_; clear n0_ n1_; (try clear hb); (try clear hb2); (try clear hk); (try clear hi); (try clear ho0); obtain ⟨Ao79, co79, eo79⟩ := Kd.R_slice HO270.out; subst eo79) | ((with_reducible refine gate_callee (f := 30) rfl ?_); refine goesL_ (some 11) rfl rfl Try.func30 (by kernel_rfl) rfl #[.slice Ao79 t268.length co79] rfl (by (try simp only [List.map_toArray, List.map_cons, List.map_nil]); first | done | rfl | (simp only [List.length_drop, List.length_take]; rfl)) ?_; (with_reducible refine (stemma_Sources.calls k _ _ t268 t271 t274 _ ?side1 ?side2 A2.out).mono ?_); (case side1 => repeat (first | exact (Kd.R_reads' HO270.out).2.2 | (with_reducible refine Kd.C_alloc ?_ _) | (with_reducible refine Kd.C_drewN ?_ _) | (with_reducible refine Kd.C_drew ?_))); (case side2 => exact (Kd.R_reads' HO270.out).2.1); rintro e w80 ⟨v272, rfl, ho0, hb⟩; refine ⟨_, rfl, ?_⟩; have n0_ := Aside0.mk (Kd.R_below (by (with_reducible repeat (first | apply Kd.R_alloc | apply Kd.R_drewN | apply Kd.R_drew)); exact HO270.out) hb); have n1_ := Aside0.mk (Kd.N_lower (Kd.N_mono (ok' := fun k_ => some k_ ≠ (.slice Ao79 t268.length co79 : Value).ownBlock) ho0 (fun k_ hk_ => (Kd.fresh' (Kd.R_lt (by (with_reducible repeat (first | apply Kd.R_alloc | apply Kd.R_drewN | apply Kd.R_drew)); exact HO270.out)) k_ hk_))) (below_size (by repeat (first | (with_reducible first | exact HB.out | apply below_alloc | apply pw_below_drewN | apply below_drew1) | exact HB.out)))); have n2_ := Aside0.mk (below_step (by repeat (first | (with_reducible first | exact HB.out | apply below_alloc | apply pw_below_drewN | apply below_drew1) | exact HB.out)) hb); clear HO270; clear HB; have HO270 := n0_; have HO273 := n1_; have HB := n2_; clear n0_ n1_ n2_; (try clear hb); (try clear hb2); (try clear hk); (try clear hi); (try clear ho0)) | ((with_reducible refine gate_callee (f := 47) rfl ?_); refine goesL_ (some 15) rfl rfl Try.func47 (by kernel_rfl) rfl #[.int .i64 1, .int .i64 0, .bool true] rfl (by (try simp only [List.map_toArray, List.map_cons, List.map_nil]); first | done | rfl | (simp only [List.length_drop, List.length_take]; rfl)) ?_; (with_reducible refine (cippuslaw07_copies.calls 1 0 true t275 _ A3.out).mono ?_); rintro e w81 ⟨v276, rfl, ho0, hb⟩; refine ⟨_, rfl, ?_⟩; have n0_ := Aside0.mk (Kd.R_elder' (by (with_reducible repeat (first | apply Kd.R_alloc | apply Kd.R_drewN | apply Kd.R_drew)); exact HO270.out) (Kd.R_base ho0) hb); have n1_ := Aside0.mk (Kd.N_elder' (by (with_reducible repeat (first | apply Kd.N_alloc | apply Kd.N_drewN | apply Kd.N_drew)); exact HO273.out) (Kd.R_base ho0) hb); have n2_ := Aside0.mk (Kd.R_lower (Kd.R_new' ho0 (Kd.R_lt (by (with_reducible repeat (first | apply Kd.R_alloc | apply Kd.R_drewN | apply Kd.R_drew)); exact HO270.out))) (below_size (by repeat (first | (with_reducible first | exact HB.out | apply below_alloc | apply pw_below_drewN | apply below_drew1) | exact HB.out)))); have n3_ := Aside0.mk (below_step (by repeat (first | (with_reducible first | exact HB.out | apply below_alloc | apply pw_below_drewN | apply below_drew1) | exact HB.out)) hb); clear HO270; clear HO273; clear HB; have HO270 := n0_; have HO273 := n1_; have HO277 := n2_; have HB := n3_; clear n0_ n1_ n2_ n3_; (try clear hb); (try clear hb2); (try clear hk); (try clear hi); (try clear ho0); obtain ⟨Ao82, co82, eo82⟩ := Kd.R_slice HO277.out; subst eo82) | ((with_reducible refine gate_callee (f := 20) rfl ?_); refine goesL_ (some 16) rfl rfl Try.func20 (by kernel_rfl) rfl #[.slice Ao82 t275.length co82] rfl (by (try simp only [List.map_toArray, List.map_cons, List.map_nil]); first | done | rfl | (simp only [List.length_drop, List.length_take]; rfl)) ?_; (with_reducible refine (stemma_Print.calls k _ _ t275 t278 t279 _ ?side1 ?side2 A4.out).mono ?_); (case side1 => repeat (first | exact (Kd.R_reads' HO277.out).2.2 | (with_reducible refine Kd.C_alloc ?_ _) | (with_reducible refine Kd.C_drewN ?_ _) | (with_reducible refine Kd.C_drew ?_))); (case side2 => exact (Kd.R_reads' HO277.out).2.1); rintro e w83 ⟨rfl, hb⟩; refine ⟨_, rfl, ?_⟩; have n0_ := Aside0.mk (Kd.R_below (by (with_reducible repeat (first | apply Kd.R_alloc | apply Kd.R_drewN | apply Kd.R_drew)); exact HO270.out) hb); have n1_ := Aside0.mk (Kd.N_below (by (with_reducible repeat (first | apply Kd.N_alloc | apply Kd.N_drewN | apply Kd.N_drew)); exact HO273.out) hb); have n2_ := Aside0.mk (Kd.R_below (by (with_reducible repeat (first | apply Kd.R_alloc | apply Kd.R_drewN | apply Kd.R_drew)); exact HO277.out) hb); have n3_ := Aside0.mk (below_step (by repeat (first | (with_reducible first | exact HB.out | apply below_alloc | apply pw_below_drewN | apply below_drew1) | exact HB.out)) hb); clear HO270; clear HO273; clear HO277; clear HB; have HO270 := n0_; have HO273 := n1_; have HO277 := n2_; have HB := n3_; clear n0_ n1_ n2_ n3_; (try clear hb); (try clear hb2); (try clear hk); (try clear hi)) | ((with_reducible refine gate_callee (f := 47) rfl ?_); refine goesL_ (some 20) rfl rfl Try.func47 (by kernel_rfl) rfl #[.int .i64 0, .int .i64 1, .bool true] rfl (by (try simp only [List.map_toArray, List.map_cons, List.map_nil]); first | done | rfl | (simp only [List.length_drop, List.length_take]; rfl)) ?_; (with_reducible refine (cippuslaw07_copies.calls 0 1 true t280 _ A5.out).mono ?_); rintro e w84 ⟨v281, rfl, ho0, hb⟩; refine ⟨_, rfl, ?_⟩; have n0_ := Aside0.mk (Kd.R_elder' (by (with_reducible repeat (first | apply Kd.R_alloc | apply Kd.R_drewN | apply Kd.R_drew)); exact HO270.out) (Kd.R_base ho0) hb); have n1_ := Aside0.mk (Kd.N_elder' (by (with_reducible repeat (first | apply Kd.N_alloc | apply Kd.N_drewN | apply Kd.N_drew)); exact HO273.out) (Kd.R_base ho0) hb); have n2_ := Aside0.mk (Kd.R_elder' (by (with_reducible repeat (first | apply Kd.R_alloc | apply Kd.R_drewN | apply Kd.R_drew)); exact HO277.out) (Kd.R_base ho0) hb); have n3_ := Aside0.mk (Kd.R_lower (Kd.R_new' (Kd.R_new' ho0 (Kd.R_lt (by (with_reducible repeat (first | apply Kd.R_alloc | apply Kd.R_drewN | apply Kd.R_drew)); exact HO270.out))) (Kd.R_lt (by (with_reducible repeat (first | apply Kd.R_alloc | apply Kd.R_drewN | apply Kd.R_drew)); exact HO277.out))) (below_size (by repeat (first | (with_reducible first | exact HB.out | apply below_alloc | apply pw_below_drewN | apply below_drew1) | exact HB.out)))); have n4_ := Aside0.mk (below_step (by repeat (first | (with_reducible first | exact HB.out | apply below_alloc | apply pw_below_drewN | apply below_drew1) | exact HB.out)) hb); clear HO270; clear HO273; clear HO277; clear HB; have HO270 := n0_; have HO273 := n1_; have HO277 := n2_; have HO282 := n3_; have HB := n4_; clear n0_ n1_ n2_ n3_ n4_; (try clear hb); (try clear hb2); (try clear hk); (try clear hi); (try clear ho0); obtain ⟨Ao85, co85, eo85⟩ := Kd.R_slice HO282.out; subst eo85) | ((with_reducible refine gate_callee (f := 20) rfl ?_); refine goesL_ (some 21) rfl rfl Try.func20 (by kernel_rfl) rfl #[.slice Ao85 t280.length co85] rfl (by (try simp only [List.map_toArray, List.map_cons, List.map_nil]); first | done | rfl | (simp only [List.length_drop, List.length_take]; rfl)) ?_; (with_reducible refine (stemma_Print.calls k _ _ t280 t283 t284 _ ?side1 ?side2 A6.out).mono ?_); (case side1 => repeat (first | exact (Kd.R_reads' HO282.out).2.2 | (with_reducible refine Kd.C_alloc ?_ _) | (with_reducible refine Kd.C_drewN ?_ _) | (with_reducible refine Kd.C_drew ?_))); (case side2 => exact (Kd.R_reads' HO282.out).2.1); rintro e w86 ⟨rfl, hb⟩; refine ⟨_, rfl, ?_⟩; have n0_ := Aside0.mk (Kd.R_below (by (with_reducible repeat (first | apply Kd.R_alloc | apply Kd.R_drewN | apply Kd.R_drew)); exact HO270.out) hb); have n1_ := Aside0.mk (Kd.N_below (by (with_reducible repeat (first | apply Kd.N_alloc | apply Kd.N_drewN | apply Kd.N_drew)); exact HO273.out) hb); have n2_ := Aside0.mk (Kd.R_below (by (with_reducible repeat (first | apply Kd.R_alloc | apply Kd.R_drewN | apply Kd.R_drew)); exact HO277.out) hb); have n3_ := Aside0.mk (Kd.R_below (by (with_reducible repeat (first | apply Kd.R_alloc | apply Kd.R_drewN | apply Kd.R_drew)); exact HO282.out) hb); have n4_ := Aside0.mk (below_step (by repeat (first | (with_reducible first | exact HB.out | apply below_alloc | apply pw_below_drewN | apply below_drew1) | exact HB.out)) hb); clear HO270; clear HO273; clear HO277; clear HO282; clear HB; have HO270 := n0_; have HO273 := n1_; have HO277 := n2_; have HO282 := n3_; have HB := n4_; clear n0_ n1_ n2_ n3_ n4_; (try clear hb); (try clear hb2); (try clear hk); (try clear hi)) | ((with_reducible refine gate_callee (f := 47) rfl ?_); refine goesL_ (some 25) rfl rfl Try.func47 (by kernel_rfl) rfl #[.int .i64 1, .int .i64 0, .bool true] rfl (by (try simp only [List.map_toArray, List.map_cons, List.map_nil]); first | done | rfl | (simp only [List.length_drop, List.length_take]; rfl)) ?_; (with_reducible refine (cippuslaw07_copies.calls 1 0 true t285 _ A7.out).mono ?_); rintro e w87 ⟨v286, rfl, ho0, hb⟩; refine ⟨_, rfl, ?_⟩; have n0_ := Aside0.mk (Kd.R_elder' (by (with_reducible repeat (first | apply Kd.R_alloc | apply Kd.R_drewN | apply Kd.R_drew)); exact HO270.out) (Kd.R_base ho0) hb); have n1_ := Aside0.mk (Kd.N_elder' (by (with_reducible repeat (first | apply Kd.N_alloc | apply Kd.N_drewN | apply Kd.N_drew)); exact HO273.out) (Kd.R_base ho0) hb); have n2_ := Aside0.mk (Kd.R_elder' (by (with_reducible repeat (first | apply Kd.R_alloc | apply Kd.R_drewN | apply Kd.R_drew)); exact HO277.out) (Kd.R_base ho0) hb); have n3_ := Aside0.mk (Kd.R_elder' (by (with_reducible repeat (first | apply Kd.R_alloc | apply Kd.R_drewN | apply Kd.R_drew)); exact HO282.out) (Kd.R_base ho0) hb); have n4_ := Aside0.mk (Kd.R_lower (Kd.R_new' (Kd.R_new' (Kd.R_new' ho0 (Kd.R_lt (by (with_reducible repeat (first | apply Kd.R_alloc | apply Kd.R_drewN | apply Kd.R_drew)); exact HO270.out))) (Kd.R_lt (by (with_reducible repeat (first | apply Kd.R_alloc | apply Kd.R_drewN | apply Kd.R_drew)); exact HO277.out))) (Kd.R_lt (by (with_reducible repeat (first | apply Kd.R_alloc | apply Kd.R_drewN | apply Kd.R_drew)); exact HO282.out))) (below_size (by repeat (first | (with_reducible first | exact HB.out | apply below_alloc | apply pw_below_drewN | apply below_drew1) | exact HB.out)))); have n5_ := Aside0.mk (below_step (by repeat (first | (with_reducible first | exact HB.out | apply below_alloc | apply pw_below_drewN | apply below_drew1) | exact HB.out)) hb); clear HO270; clear HO273; clear HO277; clear HO282; clear HB; have HO270 := n0_; have HO273 := n1_; have HO277 := n2_; have HO282 := n3_; have HO287 := n4_; have HB := n5_; clear n0_ n1_ n2_ n3_ n4_ n5_; (try clear hb); (try clear hb2); (try clear hk); (try clear hi); (try clear ho0); obtain ⟨Ao88, co88, eo88⟩ := Kd.R_slice HO287.out; subst eo88) | ((with_reducible refine gate_callee (f := 24) rfl ?_); refine goesL_ (some 26) rfl rfl Try.func24 (by kernel_rfl) rfl #[.slice Ao88 t285.length co88] rfl (by (try simp only [List.map_toArray, List.map_cons, List.map_nil]); first | done | rfl | (simp only [List.length_drop, List.length_take]; rfl)) ?_; (with_reducible refine (stemma_Fewest.calls k _ _ t285 t288 t289 _ ?side1 ?side2 A8.out).mono ?_); (case side1 => repeat (first | exact (Kd.R_reads' HO287.out).2.2 | (with_reducible refine Kd.C_alloc ?_ _) | (with_reducible refine Kd.C_drewN ?_ _) | (with_reducible refine Kd.C_drew ?_))); (case side2 => exact (Kd.R_reads' HO287.out).2.1); rintro e w89 ⟨rfl, hb⟩; refine ⟨_, rfl, ?_⟩; have n0_ := Aside0.mk (Kd.R_below (by (with_reducible repeat (first | apply Kd.R_alloc | apply Kd.R_drewN | apply Kd.R_drew)); exact HO270.out) hb); have n1_ := Aside0.mk (Kd.N_below (by (with_reducible repeat (first | apply Kd.N_alloc | apply Kd.N_drewN | apply Kd.N_drew)); exact HO273.out) hb); have n2_ := Aside0.mk (Kd.R_below (by (with_reducible repeat (first | apply Kd.R_alloc | apply Kd.R_drewN | apply Kd.R_drew)); exact HO277.out) hb); have n3_ := Aside0.mk (Kd.R_below (by (with_reducible repeat (first | apply Kd.R_alloc | apply Kd.R_drewN | apply Kd.R_drew)); exact HO282.out) hb); have n4_ := Aside0.mk (Kd.R_below (by (with_reducible repeat (first | apply Kd.R_alloc | apply Kd.R_drewN | apply Kd.R_drew)); exact HO287.out) hb); have n5_ := Aside0.mk (below_step (by repeat (first | (with_reducible first | exact HB.out | apply below_alloc | apply pw_below_drewN | apply below_drew1) | exact HB.out)) hb); clear HO270; clear HO273; clear HO277; clear HO282; clear HO287; clear HB; have HO270 := n0_; have HO273 := n1_; have HO277 := n2_; have HO282 := n3_; have HO287 := n4_; have HB := n5_; clear n0_ n1_ n2_ n3_ n4_ n5_; (try clear hb); (try clear hb2); (try clear hk); (try clear hi)))
          go_ret
          exact ⟨by first | rfl | (simp [errW_none, errW_some] <;> rfl) | (simp [*, errW_none, errW_some] <;> rfl), by repeat (first | (with_reducible first | exact HB.out | apply below_alloc | apply pw_below_drewN | apply below_drew1) | exact HB.out)⟩
      · rw [if_neg c11] at H
        have c11b0 : (t284 == 0) = false := beq_eq_false_iff_ne.mpr c11
        have c11b1 : (t284 != 0) = true := bne_iff_ne.mpr c11
        obtain rfl := Option.some.inj H
        go_enter Try.func17, Try.ntmps17
        go_wp2_with (first | ((with_reducible refine gate_callee (f := 47) rfl ?_); refine goesL_ (some 10) rfl rfl Try.func47 (by kernel_rfl) rfl #[.int .i64 1, .int .i64 1, .bool true] rfl (by (try simp only [List.map_toArray, List.map_cons, List.map_nil]); first | done | rfl | (simp only [List.length_drop, List.length_take]; rfl)) ?_; (with_reducible refine (cippuslaw07_copies.calls 1 1 true t268 _ A1.out).mono ?_); rintro e w90 ⟨v269, rfl, ho0, hb⟩; refine ⟨_, rfl, ?_⟩; have n0_ := Aside0.mk (Kd.R_lower ho0 (below_size (by repeat (first | (with_reducible first | exact HB.out | apply below_alloc | apply pw_below_drewN | apply below_drew1) | exact HB.out)))); have n1_ := Aside0.mk (below_step (by repeat (first | (with_reducible first | exact HB.out | apply below_alloc | apply pw_below_drewN | apply below_drew1) | exact HB.out)) hb); clear HB; have HO270 := n0_; have HB := n1_; clear n0_ n1_; (try clear hb); (try clear hb2); (try clear hk); (try clear hi); (try clear ho0); obtain ⟨Ao91, co91, eo91⟩ := Kd.R_slice HO270.out; subst eo91) | ((with_reducible refine gate_callee (f := 30) rfl ?_); refine goesL_ (some 11) rfl rfl Try.func30 (by kernel_rfl) rfl #[.slice Ao91 t268.length co91] rfl (by (try simp only [List.map_toArray, List.map_cons, List.map_nil]); first | done | rfl | (simp only [List.length_drop, List.length_take]; rfl)) ?_; (with_reducible refine (stemma_Sources.calls k _ _ t268 t271 t274 _ ?side1 ?side2 A2.out).mono ?_); (case side1 => repeat (first | exact (Kd.R_reads' HO270.out).2.2 | (with_reducible refine Kd.C_alloc ?_ _) | (with_reducible refine Kd.C_drewN ?_ _) | (with_reducible refine Kd.C_drew ?_))); (case side2 => exact (Kd.R_reads' HO270.out).2.1); rintro e w92 ⟨v272, rfl, ho0, hb⟩; refine ⟨_, rfl, ?_⟩; have n0_ := Aside0.mk (Kd.R_below (by (with_reducible repeat (first | apply Kd.R_alloc | apply Kd.R_drewN | apply Kd.R_drew)); exact HO270.out) hb); have n1_ := Aside0.mk (Kd.N_lower (Kd.N_mono (ok' := fun k_ => some k_ ≠ (.slice Ao91 t268.length co91 : Value).ownBlock) ho0 (fun k_ hk_ => (Kd.fresh' (Kd.R_lt (by (with_reducible repeat (first | apply Kd.R_alloc | apply Kd.R_drewN | apply Kd.R_drew)); exact HO270.out)) k_ hk_))) (below_size (by repeat (first | (with_reducible first | exact HB.out | apply below_alloc | apply pw_below_drewN | apply below_drew1) | exact HB.out)))); have n2_ := Aside0.mk (below_step (by repeat (first | (with_reducible first | exact HB.out | apply below_alloc | apply pw_below_drewN | apply below_drew1) | exact HB.out)) hb); clear HO270; clear HB; have HO270 := n0_; have HO273 := n1_; have HB := n2_; clear n0_ n1_ n2_; (try clear hb); (try clear hb2); (try clear hk); (try clear hi); (try clear ho0)) | ((with_reducible refine gate_callee (f := 47) rfl ?_); refine goesL_ (some 15) rfl rfl Try.func47 (by kernel_rfl) rfl #[.int .i64 1, .int .i64 0, .bool true] rfl (by (try simp only [List.map_toArray, List.map_cons, List.map_nil]); first | done | rfl | (simp only [List.length_drop, List.length_take]; rfl)) ?_; (with_reducible refine (cippuslaw07_copies.calls 1 0 true t275 _ A3.out).mono ?_); rintro e w93 ⟨v276, rfl, ho0, hb⟩; refine ⟨_, rfl, ?_⟩; have n0_ := Aside0.mk (Kd.R_elder' (by (with_reducible repeat (first | apply Kd.R_alloc | apply Kd.R_drewN | apply Kd.R_drew)); exact HO270.out) (Kd.R_base ho0) hb); have n1_ := Aside0.mk (Kd.N_elder' (by (with_reducible repeat (first | apply Kd.N_alloc | apply Kd.N_drewN | apply Kd.N_drew)); exact HO273.out) (Kd.R_base ho0) hb); have n2_ := Aside0.mk (Kd.R_lower (Kd.R_new' ho0 (Kd.R_lt (by (with_reducible repeat (first | apply Kd.R_alloc | apply Kd.R_drewN | apply Kd.R_drew)); exact HO270.out))) (below_size (by repeat (first | (with_reducible first | exact HB.out | apply below_alloc | apply pw_below_drewN | apply below_drew1) | exact HB.out)))); have n3_ := Aside0.mk (below_step (by repeat (first | (with_reducible first | exact HB.out | apply below_alloc | apply pw_below_drewN | apply below_drew1) | exact HB.out)) hb); clear HO270; clear HO273; clear HB; have HO270 := n0_; have HO273 := n1_; have HO277 := n2_; have HB := n3_; clear n0_ n1_ n2_ n3_; (try clear hb); (try clear hb2); (try clear hk); (try clear hi); (try clear ho0); obtain ⟨Ao94, co94, eo94⟩ := Kd.R_slice HO277.out; subst eo94) | ((with_reducible refine gate_callee (f := 20) rfl ?_); refine goesL_ (some 16) rfl rfl Try.func20 (by kernel_rfl) rfl #[.slice Ao94 t275.length co94] rfl (by (try simp only [List.map_toArray, List.map_cons, List.map_nil]); first | done | rfl | (simp only [List.length_drop, List.length_take]; rfl)) ?_; (with_reducible refine (stemma_Print.calls k _ _ t275 t278 t279 _ ?side1 ?side2 A4.out).mono ?_); (case side1 => repeat (first | exact (Kd.R_reads' HO277.out).2.2 | (with_reducible refine Kd.C_alloc ?_ _) | (with_reducible refine Kd.C_drewN ?_ _) | (with_reducible refine Kd.C_drew ?_))); (case side2 => exact (Kd.R_reads' HO277.out).2.1); rintro e w95 ⟨rfl, hb⟩; refine ⟨_, rfl, ?_⟩; have n0_ := Aside0.mk (Kd.R_below (by (with_reducible repeat (first | apply Kd.R_alloc | apply Kd.R_drewN | apply Kd.R_drew)); exact HO270.out) hb); have n1_ := Aside0.mk (Kd.N_below (by (with_reducible repeat (first | apply Kd.N_alloc | apply Kd.N_drewN | apply Kd.N_drew)); exact HO273.out) hb); have n2_ := Aside0.mk (Kd.R_below (by (with_reducible repeat (first | apply Kd.R_alloc | apply Kd.R_drewN | apply Kd.R_drew)); exact HO277.out) hb); have n3_ := Aside0.mk (below_step (by repeat (first | (with_reducible first | exact HB.out | apply below_alloc | apply pw_below_drewN | apply below_drew1) | exact HB.out)) hb); clear HO270; clear HO273; clear HO277; clear HB; have HO270 := n0_; have HO273 := n1_; have HO277 := n2_; have HB := n3_; clear n0_ n1_ n2_ n3_; (try clear hb); (try clear hb2); (try clear hk); (try clear hi)) | ((with_reducible refine gate_callee (f := 47) rfl ?_); refine goesL_ (some 20) rfl rfl Try.func47 (by kernel_rfl) rfl #[.int .i64 0, .int .i64 1, .bool true] rfl (by (try simp only [List.map_toArray, List.map_cons, List.map_nil]); first | done | rfl | (simp only [List.length_drop, List.length_take]; rfl)) ?_; (with_reducible refine (cippuslaw07_copies.calls 0 1 true t280 _ A5.out).mono ?_); rintro e w96 ⟨v281, rfl, ho0, hb⟩; refine ⟨_, rfl, ?_⟩; have n0_ := Aside0.mk (Kd.R_elder' (by (with_reducible repeat (first | apply Kd.R_alloc | apply Kd.R_drewN | apply Kd.R_drew)); exact HO270.out) (Kd.R_base ho0) hb); have n1_ := Aside0.mk (Kd.N_elder' (by (with_reducible repeat (first | apply Kd.N_alloc | apply Kd.N_drewN | apply Kd.N_drew)); exact HO273.out) (Kd.R_base ho0) hb); have n2_ := Aside0.mk (Kd.R_elder' (by (with_reducible repeat (first | apply Kd.R_alloc | apply Kd.R_drewN | apply Kd.R_drew)); exact HO277.out) (Kd.R_base ho0) hb); have n3_ := Aside0.mk (Kd.R_lower (Kd.R_new' (Kd.R_new' ho0 (Kd.R_lt (by (with_reducible repeat (first | apply Kd.R_alloc | apply Kd.R_drewN | apply Kd.R_drew)); exact HO270.out))) (Kd.R_lt (by (with_reducible repeat (first | apply Kd.R_alloc | apply Kd.R_drewN | apply Kd.R_drew)); exact HO277.out))) (below_size (by repeat (first | (with_reducible first | exact HB.out | apply below_alloc | apply pw_below_drewN | apply below_drew1) | exact HB.out)))); have n4_ := Aside0.mk (below_step (by repeat (first | (with_reducible first | exact HB.out | apply below_alloc | apply pw_below_drewN | apply below_drew1) | exact HB.out)) hb); clear HO270; clear HO273; clear HO277; clear HB; have HO270 := n0_; have HO273 := n1_; have HO277 := n2_; have HO282 := n3_; have HB := n4_; clear n0_ n1_ n2_ n3_ n4_; (try clear hb); (try clear hb2); (try clear hk); (try clear hi); (try clear ho0); obtain ⟨Ao97, co97, eo97⟩ := Kd.R_slice HO282.out; subst eo97) | ((with_reducible refine gate_callee (f := 20) rfl ?_); refine goesL_ (some 21) rfl rfl Try.func20 (by kernel_rfl) rfl #[.slice Ao97 t280.length co97] rfl (by (try simp only [List.map_toArray, List.map_cons, List.map_nil]); first | done | rfl | (simp only [List.length_drop, List.length_take]; rfl)) ?_; (with_reducible refine (stemma_Print.calls k _ _ t280 t283 t284 _ ?side1 ?side2 A6.out).mono ?_); (case side1 => repeat (first | exact (Kd.R_reads' HO282.out).2.2 | (with_reducible refine Kd.C_alloc ?_ _) | (with_reducible refine Kd.C_drewN ?_ _) | (with_reducible refine Kd.C_drew ?_))); (case side2 => exact (Kd.R_reads' HO282.out).2.1); rintro e w98 ⟨rfl, hb⟩; refine ⟨_, rfl, ?_⟩; have n0_ := Aside0.mk (Kd.R_below (by (with_reducible repeat (first | apply Kd.R_alloc | apply Kd.R_drewN | apply Kd.R_drew)); exact HO270.out) hb); have n1_ := Aside0.mk (Kd.N_below (by (with_reducible repeat (first | apply Kd.N_alloc | apply Kd.N_drewN | apply Kd.N_drew)); exact HO273.out) hb); have n2_ := Aside0.mk (Kd.R_below (by (with_reducible repeat (first | apply Kd.R_alloc | apply Kd.R_drewN | apply Kd.R_drew)); exact HO277.out) hb); have n3_ := Aside0.mk (Kd.R_below (by (with_reducible repeat (first | apply Kd.R_alloc | apply Kd.R_drewN | apply Kd.R_drew)); exact HO282.out) hb); have n4_ := Aside0.mk (below_step (by repeat (first | (with_reducible first | exact HB.out | apply below_alloc | apply pw_below_drewN | apply below_drew1) | exact HB.out)) hb); clear HO270; clear HO273; clear HO277; clear HO282; clear HB; have HO270 := n0_; have HO273 := n1_; have HO277 := n2_; have HO282 := n3_; have HB := n4_; clear n0_ n1_ n2_ n3_ n4_; (try clear hb); (try clear hb2); (try clear hk); (try clear hi)) | ((with_reducible refine gate_callee (f := 47) rfl ?_); refine goesL_ (some 25) rfl rfl Try.func47 (by kernel_rfl) rfl #[.int .i64 1, .int .i64 0, .bool true] rfl (by (try simp only [List.map_toArray, List.map_cons, List.map_nil]); first | done | rfl | (simp only [List.length_drop, List.length_take]; rfl)) ?_; (with_reducible refine (cippuslaw07_copies.calls 1 0 true t285 _ A7.out).mono ?_); rintro e w99 ⟨v286, rfl, ho0, hb⟩; refine ⟨_, rfl, ?_⟩; have n0_ := Aside0.mk (Kd.R_elder' (by (with_reducible repeat (first | apply Kd.R_alloc | apply Kd.R_drewN | apply Kd.R_drew)); exact HO270.out) (Kd.R_base ho0) hb); have n1_ := Aside0.mk (Kd.N_elder' (by (with_reducible repeat (first | apply Kd.N_alloc | apply Kd.N_drewN | apply Kd.N_drew)); exact HO273.out) (Kd.R_base ho0) hb); have n2_ := Aside0.mk (Kd.R_elder' (by (with_reducible repeat (first | apply Kd.R_alloc | apply Kd.R_drewN | apply Kd.R_drew)); exact HO277.out) (Kd.R_base ho0) hb); have n3_ := Aside0.mk (Kd.R_elder' (by (with_reducible repeat (first | apply Kd.R_alloc | apply Kd.R_drewN | apply Kd.R_drew)); exact HO282.out) (Kd.R_base ho0) hb); have n4_ := Aside0.mk (Kd.R_lower (Kd.R_new' (Kd.R_new' (Kd.R_new' ho0 (Kd.R_lt (by (with_reducible repeat (first | apply Kd.R_alloc | apply Kd.R_drewN | apply Kd.R_drew)); exact HO270.out))) (Kd.R_lt (by (with_reducible repeat (first | apply Kd.R_alloc | apply Kd.R_drewN | apply Kd.R_drew)); exact HO277.out))) (Kd.R_lt (by (with_reducible repeat (first | apply Kd.R_alloc | apply Kd.R_drewN | apply Kd.R_drew)); exact HO282.out))) (below_size (by repeat (first | (with_reducible first | exact HB.out | apply below_alloc | apply pw_below_drewN | apply below_drew1) | exact HB.out)))); have n5_ := Aside0.mk (below_step (by repeat (first | (with_reducible first | exact HB.out | apply below_alloc | apply pw_below_drewN | apply below_drew1) | exact HB.out)) hb); clear HO270; clear HO273; clear HO277; clear HO282; clear HB; have HO270 := n0_; have HO273 := n1_; have HO277 := n2_; have HO282 := n3_; have HO287 := n4_; have HB := n5_; clear n0_ n1_ n2_ n3_ n4_ n5_; (try clear hb); (try clear hb2); (try clear hk); (try clear hi); (try clear ho0); obtain ⟨Ao100, co100, eo100⟩ := Kd.R_slice HO287.out; subst eo100) | ((with_reducible refine gate_callee (f := 24) rfl ?_); refine goesL_ (some 26) rfl rfl Try.func24 (by kernel_rfl) rfl #[.slice Ao100 t285.length co100] rfl (by (try simp only [List.map_toArray, List.map_cons, List.map_nil]); first | done | rfl | (simp only [List.length_drop, List.length_take]; rfl)) ?_; (with_reducible refine (stemma_Fewest.calls k _ _ t285 t288 t289 _ ?side1 ?side2 A8.out).mono ?_); (case side1 => repeat (first | exact (Kd.R_reads' HO287.out).2.2 | (with_reducible refine Kd.C_alloc ?_ _) | (with_reducible refine Kd.C_drewN ?_ _) | (with_reducible refine Kd.C_drew ?_))); (case side2 => exact (Kd.R_reads' HO287.out).2.1); rintro e w101 ⟨rfl, hb⟩; refine ⟨_, rfl, ?_⟩; have n0_ := Aside0.mk (Kd.R_below (by (with_reducible repeat (first | apply Kd.R_alloc | apply Kd.R_drewN | apply Kd.R_drew)); exact HO270.out) hb); have n1_ := Aside0.mk (Kd.N_below (by (with_reducible repeat (first | apply Kd.N_alloc | apply Kd.N_drewN | apply Kd.N_drew)); exact HO273.out) hb); have n2_ := Aside0.mk (Kd.R_below (by (with_reducible repeat (first | apply Kd.R_alloc | apply Kd.R_drewN | apply Kd.R_drew)); exact HO277.out) hb); have n3_ := Aside0.mk (Kd.R_below (by (with_reducible repeat (first | apply Kd.R_alloc | apply Kd.R_drewN | apply Kd.R_drew)); exact HO282.out) hb); have n4_ := Aside0.mk (Kd.R_below (by (with_reducible repeat (first | apply Kd.R_alloc | apply Kd.R_drewN | apply Kd.R_drew)); exact HO287.out) hb); have n5_ := Aside0.mk (below_step (by repeat (first | (with_reducible first | exact HB.out | apply below_alloc | apply pw_below_drewN | apply below_drew1) | exact HB.out)) hb); clear HO270; clear HO273; clear HO277; clear HO282; clear HO287; clear HB; have HO270 := n0_; have HO273 := n1_; have HO277 := n2_; have HO282 := n3_; have HO287 := n4_; have HB := n5_; clear n0_ n1_ n2_ n3_ n4_ n5_; (try clear hb); (try clear hb2); (try clear hk); (try clear hi)))
        go_ret
        exact ⟨by first | rfl | (simp [errW_none, errW_some] <;> rfl) | (simp [*, errW_none, errW_some] <;> rfl), by repeat (first | (with_reducible first | exact HB.out | apply below_alloc | apply pw_below_drewN | apply below_drew1) | exact HB.out)⟩
    · rw [if_neg c10] at H
      have c10b0 : (t279 == 0) = false := beq_eq_false_iff_ne.mpr c10
      have c10b1 : (t279 != 0) = true := bne_iff_ne.mpr c10
      obtain rfl := Option.some.inj H
      go_enter Try.func17, Try.ntmps17
      go_wp2_with (first | ((with_reducible refine gate_callee (f := 47) rfl ?_); refine goesL_ (some 10) rfl rfl Try.func47 (by kernel_rfl) rfl #[.int .i64 1, .int .i64 1, .bool true] rfl (by (try simp only [List.map_toArray, List.map_cons, List.map_nil]); first | done | rfl | (simp only [List.length_drop, List.length_take]; rfl)) ?_; (with_reducible refine (cippuslaw07_copies.calls 1 1 true t268 _ A1.out).mono ?_); rintro e w102 ⟨v269, rfl, ho0, hb⟩; refine ⟨_, rfl, ?_⟩; have n0_ := Aside0.mk (Kd.R_lower ho0 (below_size (by repeat (first | (with_reducible first | exact HB.out | apply below_alloc | apply pw_below_drewN | apply below_drew1) | exact HB.out)))); have n1_ := Aside0.mk (below_step (by repeat (first | (with_reducible first | exact HB.out | apply below_alloc | apply pw_below_drewN | apply below_drew1) | exact HB.out)) hb); clear HB; have HO270 := n0_; have HB := n1_; clear n0_ n1_; (try clear hb); (try clear hb2); (try clear hk); (try clear hi); (try clear ho0); obtain ⟨Ao103, co103, eo103⟩ := Kd.R_slice HO270.out; subst eo103) | ((with_reducible refine gate_callee (f := 30) rfl ?_); refine goesL_ (some 11) rfl rfl Try.func30 (by kernel_rfl) rfl #[.slice Ao103 t268.length co103] rfl (by (try simp only [List.map_toArray, List.map_cons, List.map_nil]); first | done | rfl | (simp only [List.length_drop, List.length_take]; rfl)) ?_; (with_reducible refine (stemma_Sources.calls k _ _ t268 t271 t274 _ ?side1 ?side2 A2.out).mono ?_); (case side1 => repeat (first | exact (Kd.R_reads' HO270.out).2.2 | (with_reducible refine Kd.C_alloc ?_ _) | (with_reducible refine Kd.C_drewN ?_ _) | (with_reducible refine Kd.C_drew ?_))); (case side2 => exact (Kd.R_reads' HO270.out).2.1); rintro e w104 ⟨v272, rfl, ho0, hb⟩; refine ⟨_, rfl, ?_⟩; have n0_ := Aside0.mk (Kd.R_below (by (with_reducible repeat (first | apply Kd.R_alloc | apply Kd.R_drewN | apply Kd.R_drew)); exact HO270.out) hb); have n1_ := Aside0.mk (Kd.N_lower (Kd.N_mono (ok' := fun k_ => some k_ ≠ (.slice Ao103 t268.length co103 : Value).ownBlock) ho0 (fun k_ hk_ => (Kd.fresh' (Kd.R_lt (by (with_reducible repeat (first | apply Kd.R_alloc | apply Kd.R_drewN | apply Kd.R_drew)); exact HO270.out)) k_ hk_))) (below_size (by repeat (first | (with_reducible first | exact HB.out | apply below_alloc | apply pw_below_drewN | apply below_drew1) | exact HB.out)))); have n2_ := Aside0.mk (below_step (by repeat (first | (with_reducible first | exact HB.out | apply below_alloc | apply pw_below_drewN | apply below_drew1) | exact HB.out)) hb); clear HO270; clear HB; have HO270 := n0_; have HO273 := n1_; have HB := n2_; clear n0_ n1_ n2_; (try clear hb); (try clear hb2); (try clear hk); (try clear hi); (try clear ho0)) | ((with_reducible refine gate_callee (f := 47) rfl ?_); refine goesL_ (some 15) rfl rfl Try.func47 (by kernel_rfl) rfl #[.int .i64 1, .int .i64 0, .bool true] rfl (by (try simp only [List.map_toArray, List.map_cons, List.map_nil]); first | done | rfl | (simp only [List.length_drop, List.length_take]; rfl)) ?_; (with_reducible refine (cippuslaw07_copies.calls 1 0 true t275 _ A3.out).mono ?_); rintro e w105 ⟨v276, rfl, ho0, hb⟩; refine ⟨_, rfl, ?_⟩; have n0_ := Aside0.mk (Kd.R_elder' (by (with_reducible repeat (first | apply Kd.R_alloc | apply Kd.R_drewN | apply Kd.R_drew)); exact HO270.out) (Kd.R_base ho0) hb); have n1_ := Aside0.mk (Kd.N_elder' (by (with_reducible repeat (first | apply Kd.N_alloc | apply Kd.N_drewN | apply Kd.N_drew)); exact HO273.out) (Kd.R_base ho0) hb); have n2_ := Aside0.mk (Kd.R_lower (Kd.R_new' ho0 (Kd.R_lt (by (with_reducible repeat (first | apply Kd.R_alloc | apply Kd.R_drewN | apply Kd.R_drew)); exact HO270.out))) (below_size (by repeat (first | (with_reducible first | exact HB.out | apply below_alloc | apply pw_below_drewN | apply below_drew1) | exact HB.out)))); have n3_ := Aside0.mk (below_step (by repeat (first | (with_reducible first | exact HB.out | apply below_alloc | apply pw_below_drewN | apply below_drew1) | exact HB.out)) hb); clear HO270; clear HO273; clear HB; have HO270 := n0_; have HO273 := n1_; have HO277 := n2_; have HB := n3_; clear n0_ n1_ n2_ n3_; (try clear hb); (try clear hb2); (try clear hk); (try clear hi); (try clear ho0); obtain ⟨Ao106, co106, eo106⟩ := Kd.R_slice HO277.out; subst eo106) | ((with_reducible refine gate_callee (f := 20) rfl ?_); refine goesL_ (some 16) rfl rfl Try.func20 (by kernel_rfl) rfl #[.slice Ao106 t275.length co106] rfl (by (try simp only [List.map_toArray, List.map_cons, List.map_nil]); first | done | rfl | (simp only [List.length_drop, List.length_take]; rfl)) ?_; (with_reducible refine (stemma_Print.calls k _ _ t275 t278 t279 _ ?side1 ?side2 A4.out).mono ?_); (case side1 => repeat (first | exact (Kd.R_reads' HO277.out).2.2 | (with_reducible refine Kd.C_alloc ?_ _) | (with_reducible refine Kd.C_drewN ?_ _) | (with_reducible refine Kd.C_drew ?_))); (case side2 => exact (Kd.R_reads' HO277.out).2.1); rintro e w107 ⟨rfl, hb⟩; refine ⟨_, rfl, ?_⟩; have n0_ := Aside0.mk (Kd.R_below (by (with_reducible repeat (first | apply Kd.R_alloc | apply Kd.R_drewN | apply Kd.R_drew)); exact HO270.out) hb); have n1_ := Aside0.mk (Kd.N_below (by (with_reducible repeat (first | apply Kd.N_alloc | apply Kd.N_drewN | apply Kd.N_drew)); exact HO273.out) hb); have n2_ := Aside0.mk (Kd.R_below (by (with_reducible repeat (first | apply Kd.R_alloc | apply Kd.R_drewN | apply Kd.R_drew)); exact HO277.out) hb); have n3_ := Aside0.mk (below_step (by repeat (first | (with_reducible first | exact HB.out | apply below_alloc | apply pw_below_drewN | apply below_drew1) | exact HB.out)) hb); clear HO270; clear HO273; clear HO277; clear HB; have HO270 := n0_; have HO273 := n1_; have HO277 := n2_; have HB := n3_; clear n0_ n1_ n2_ n3_; (try clear hb); (try clear hb2); (try clear hk); (try clear hi)) | ((with_reducible refine gate_callee (f := 47) rfl ?_); refine goesL_ (some 20) rfl rfl Try.func47 (by kernel_rfl) rfl #[.int .i64 0, .int .i64 1, .bool true] rfl (by (try simp only [List.map_toArray, List.map_cons, List.map_nil]); first | done | rfl | (simp only [List.length_drop, List.length_take]; rfl)) ?_; (with_reducible refine (cippuslaw07_copies.calls 0 1 true t280 _ A5.out).mono ?_); rintro e w108 ⟨v281, rfl, ho0, hb⟩; refine ⟨_, rfl, ?_⟩; have n0_ := Aside0.mk (Kd.R_elder' (by (with_reducible repeat (first | apply Kd.R_alloc | apply Kd.R_drewN | apply Kd.R_drew)); exact HO270.out) (Kd.R_base ho0) hb); have n1_ := Aside0.mk (Kd.N_elder' (by (with_reducible repeat (first | apply Kd.N_alloc | apply Kd.N_drewN | apply Kd.N_drew)); exact HO273.out) (Kd.R_base ho0) hb); have n2_ := Aside0.mk (Kd.R_elder' (by (with_reducible repeat (first | apply Kd.R_alloc | apply Kd.R_drewN | apply Kd.R_drew)); exact HO277.out) (Kd.R_base ho0) hb); have n3_ := Aside0.mk (Kd.R_lower (Kd.R_new' (Kd.R_new' ho0 (Kd.R_lt (by (with_reducible repeat (first | apply Kd.R_alloc | apply Kd.R_drewN | apply Kd.R_drew)); exact HO270.out))) (Kd.R_lt (by (with_reducible repeat (first | apply Kd.R_alloc | apply Kd.R_drewN | apply Kd.R_drew)); exact HO277.out))) (below_size (by repeat (first | (with_reducible first | exact HB.out | apply below_alloc | apply pw_below_drewN | apply below_drew1) | exact HB.out)))); have n4_ := Aside0.mk (below_step (by repeat (first | (with_reducible first | exact HB.out | apply below_alloc | apply pw_below_drewN | apply below_drew1) | exact HB.out)) hb); clear HO270; clear HO273; clear HO277; clear HB; have HO270 := n0_; have HO273 := n1_; have HO277 := n2_; have HO282 := n3_; have HB := n4_; clear n0_ n1_ n2_ n3_ n4_; (try clear hb); (try clear hb2); (try clear hk); (try clear hi); (try clear ho0); obtain ⟨Ao109, co109, eo109⟩ := Kd.R_slice HO282.out; subst eo109) | ((with_reducible refine gate_callee (f := 20) rfl ?_); refine goesL_ (some 21) rfl rfl Try.func20 (by kernel_rfl) rfl #[.slice Ao109 t280.length co109] rfl (by (try simp only [List.map_toArray, List.map_cons, List.map_nil]); first | done | rfl | (simp only [List.length_drop, List.length_take]; rfl)) ?_; (with_reducible refine (stemma_Print.calls k _ _ t280 t283 t284 _ ?side1 ?side2 A6.out).mono ?_); (case side1 => repeat (first | exact (Kd.R_reads' HO282.out).2.2 | (with_reducible refine Kd.C_alloc ?_ _) | (with_reducible refine Kd.C_drewN ?_ _) | (with_reducible refine Kd.C_drew ?_))); (case side2 => exact (Kd.R_reads' HO282.out).2.1); rintro e w110 ⟨rfl, hb⟩; refine ⟨_, rfl, ?_⟩; have n0_ := Aside0.mk (Kd.R_below (by (with_reducible repeat (first | apply Kd.R_alloc | apply Kd.R_drewN | apply Kd.R_drew)); exact HO270.out) hb); have n1_ := Aside0.mk (Kd.N_below (by (with_reducible repeat (first | apply Kd.N_alloc | apply Kd.N_drewN | apply Kd.N_drew)); exact HO273.out) hb); have n2_ := Aside0.mk (Kd.R_below (by (with_reducible repeat (first | apply Kd.R_alloc | apply Kd.R_drewN | apply Kd.R_drew)); exact HO277.out) hb); have n3_ := Aside0.mk (Kd.R_below (by (with_reducible repeat (first | apply Kd.R_alloc | apply Kd.R_drewN | apply Kd.R_drew)); exact HO282.out) hb); have n4_ := Aside0.mk (below_step (by repeat (first | (with_reducible first | exact HB.out | apply below_alloc | apply pw_below_drewN | apply below_drew1) | exact HB.out)) hb); clear HO270; clear HO273; clear HO277; clear HO282; clear HB; have HO270 := n0_; have HO273 := n1_; have HO277 := n2_; have HO282 := n3_; have HB := n4_; clear n0_ n1_ n2_ n3_ n4_; (try clear hb); (try clear hb2); (try clear hk); (try clear hi)) | ((with_reducible refine gate_callee (f := 47) rfl ?_); refine goesL_ (some 25) rfl rfl Try.func47 (by kernel_rfl) rfl #[.int .i64 1, .int .i64 0, .bool true] rfl (by (try simp only [List.map_toArray, List.map_cons, List.map_nil]); first | done | rfl | (simp only [List.length_drop, List.length_take]; rfl)) ?_; (with_reducible refine (cippuslaw07_copies.calls 1 0 true t285 _ A7.out).mono ?_); rintro e w111 ⟨v286, rfl, ho0, hb⟩; refine ⟨_, rfl, ?_⟩; have n0_ := Aside0.mk (Kd.R_elder' (by (with_reducible repeat (first | apply Kd.R_alloc | apply Kd.R_drewN | apply Kd.R_drew)); exact HO270.out) (Kd.R_base ho0) hb); have n1_ := Aside0.mk (Kd.N_elder' (by (with_reducible repeat (first | apply Kd.N_alloc | apply Kd.N_drewN | apply Kd.N_drew)); exact HO273.out) (Kd.R_base ho0) hb); have n2_ := Aside0.mk (Kd.R_elder' (by (with_reducible repeat (first | apply Kd.R_alloc | apply Kd.R_drewN | apply Kd.R_drew)); exact HO277.out) (Kd.R_base ho0) hb); have n3_ := Aside0.mk (Kd.R_elder' (by (with_reducible repeat (first | apply Kd.R_alloc | apply Kd.R_drewN | apply Kd.R_drew)); exact HO282.out) (Kd.R_base ho0) hb); have n4_ := Aside0.mk (Kd.R_lower (Kd.R_new' (Kd.R_new' (Kd.R_new' ho0 (Kd.R_lt (by (with_reducible repeat (first | apply Kd.R_alloc | apply Kd.R_drewN | apply Kd.R_drew)); exact HO270.out))) (Kd.R_lt (by (with_reducible repeat (first | apply Kd.R_alloc | apply Kd.R_drewN | apply Kd.R_drew)); exact HO277.out))) (Kd.R_lt (by (with_reducible repeat (first | apply Kd.R_alloc | apply Kd.R_drewN | apply Kd.R_drew)); exact HO282.out))) (below_size (by repeat (first | (with_reducible first | exact HB.out | apply below_alloc | apply pw_below_drewN | apply below_drew1) | exact HB.out)))); have n5_ := Aside0.mk (below_step (by repeat (first | (with_reducible first | exact HB.out | apply below_alloc | apply pw_below_drewN | apply below_drew1) | exact HB.out)) hb); clear HO270; clear HO273; clear HO277; clear HO282; clear HB; have HO270 := n0_; have HO273 := n1_; have HO277 := n2_; have HO282 := n3_; have HO287 := n4_; have HB := n5_; clear n0_ n1_ n2_ n3_ n4_ n5_; (try clear hb); (try clear hb2); (try clear hk); (try clear hi); (try clear ho0); obtain ⟨Ao112, co112, eo112⟩ := Kd.R_slice HO287.out; subst eo112) | ((with_reducible refine gate_callee (f := 24) rfl ?_); refine goesL_ (some 26) rfl rfl Try.func24 (by kernel_rfl) rfl #[.slice Ao112 t285.length co112] rfl (by (try simp only [List.map_toArray, List.map_cons, List.map_nil]); first | done | rfl | (simp only [List.length_drop, List.length_take]; rfl)) ?_; (with_reducible refine (stemma_Fewest.calls k _ _ t285 t288 t289 _ ?side1 ?side2 A8.out).mono ?_); (case side1 => repeat (first | exact (Kd.R_reads' HO287.out).2.2 | (with_reducible refine Kd.C_alloc ?_ _) | (with_reducible refine Kd.C_drewN ?_ _) | (with_reducible refine Kd.C_drew ?_))); (case side2 => exact (Kd.R_reads' HO287.out).2.1); rintro e w113 ⟨rfl, hb⟩; refine ⟨_, rfl, ?_⟩; have n0_ := Aside0.mk (Kd.R_below (by (with_reducible repeat (first | apply Kd.R_alloc | apply Kd.R_drewN | apply Kd.R_drew)); exact HO270.out) hb); have n1_ := Aside0.mk (Kd.N_below (by (with_reducible repeat (first | apply Kd.N_alloc | apply Kd.N_drewN | apply Kd.N_drew)); exact HO273.out) hb); have n2_ := Aside0.mk (Kd.R_below (by (with_reducible repeat (first | apply Kd.R_alloc | apply Kd.R_drewN | apply Kd.R_drew)); exact HO277.out) hb); have n3_ := Aside0.mk (Kd.R_below (by (with_reducible repeat (first | apply Kd.R_alloc | apply Kd.R_drewN | apply Kd.R_drew)); exact HO282.out) hb); have n4_ := Aside0.mk (Kd.R_below (by (with_reducible repeat (first | apply Kd.R_alloc | apply Kd.R_drewN | apply Kd.R_drew)); exact HO287.out) hb); have n5_ := Aside0.mk (below_step (by repeat (first | (with_reducible first | exact HB.out | apply below_alloc | apply pw_below_drewN | apply below_drew1) | exact HB.out)) hb); clear HO270; clear HO273; clear HO277; clear HO282; clear HO287; clear HB; have HO270 := n0_; have HO273 := n1_; have HO277 := n2_; have HO282 := n3_; have HO287 := n4_; have HB := n5_; clear n0_ n1_ n2_ n3_ n4_ n5_; (try clear hb); (try clear hb2); (try clear hk); (try clear hi)))
      go_ret
      exact ⟨by first | rfl | (simp [errW_none, errW_some] <;> rfl) | (simp [*, errW_none, errW_some] <;> rfl), by repeat (first | (with_reducible first | exact HB.out | apply below_alloc | apply pw_below_drewN | apply below_drew1) | exact HB.out)⟩
  · rw [if_neg c9] at H
    have c9b0 : (t274 == 0) = false := beq_eq_false_iff_ne.mpr c9
    have c9b1 : (t274 != 0) = true := bne_iff_ne.mpr c9
    obtain rfl := Option.some.inj H
    go_enter Try.func17, Try.ntmps17
    go_wp2_with (first | ((with_reducible refine gate_callee (f := 47) rfl ?_); refine goesL_ (some 10) rfl rfl Try.func47 (by kernel_rfl) rfl #[.int .i64 1, .int .i64 1, .bool true] rfl (by (try simp only [List.map_toArray, List.map_cons, List.map_nil]); first | done | rfl | (simp only [List.length_drop, List.length_take]; rfl)) ?_; (with_reducible refine (cippuslaw07_copies.calls 1 1 true t268 _ A1.out).mono ?_); rintro e w114 ⟨v269, rfl, ho0, hb⟩; refine ⟨_, rfl, ?_⟩; have n0_ := Aside0.mk (Kd.R_lower ho0 (below_size (by repeat (first | (with_reducible first | exact HB.out | apply below_alloc | apply pw_below_drewN | apply below_drew1) | exact HB.out)))); have n1_ := Aside0.mk (below_step (by repeat (first | (with_reducible first | exact HB.out | apply below_alloc | apply pw_below_drewN | apply below_drew1) | exact HB.out)) hb); clear HB; have HO270 := n0_; have HB := n1_; clear n0_ n1_; (try clear hb); (try clear hb2); (try clear hk); (try clear hi); (try clear ho0); obtain ⟨Ao115, co115, eo115⟩ := Kd.R_slice HO270.out; subst eo115) | ((with_reducible refine gate_callee (f := 30) rfl ?_); refine goesL_ (some 11) rfl rfl Try.func30 (by kernel_rfl) rfl #[.slice Ao115 t268.length co115] rfl (by (try simp only [List.map_toArray, List.map_cons, List.map_nil]); first | done | rfl | (simp only [List.length_drop, List.length_take]; rfl)) ?_; (with_reducible refine (stemma_Sources.calls k _ _ t268 t271 t274 _ ?side1 ?side2 A2.out).mono ?_); (case side1 => repeat (first | exact (Kd.R_reads' HO270.out).2.2 | (with_reducible refine Kd.C_alloc ?_ _) | (with_reducible refine Kd.C_drewN ?_ _) | (with_reducible refine Kd.C_drew ?_))); (case side2 => exact (Kd.R_reads' HO270.out).2.1); rintro e w116 ⟨v272, rfl, ho0, hb⟩; refine ⟨_, rfl, ?_⟩; have n0_ := Aside0.mk (Kd.R_below (by (with_reducible repeat (first | apply Kd.R_alloc | apply Kd.R_drewN | apply Kd.R_drew)); exact HO270.out) hb); have n1_ := Aside0.mk (Kd.N_lower (Kd.N_mono (ok' := fun k_ => some k_ ≠ (.slice Ao115 t268.length co115 : Value).ownBlock) ho0 (fun k_ hk_ => (Kd.fresh' (Kd.R_lt (by (with_reducible repeat (first | apply Kd.R_alloc | apply Kd.R_drewN | apply Kd.R_drew)); exact HO270.out)) k_ hk_))) (below_size (by repeat (first | (with_reducible first | exact HB.out | apply below_alloc | apply pw_below_drewN | apply below_drew1) | exact HB.out)))); have n2_ := Aside0.mk (below_step (by repeat (first | (with_reducible first | exact HB.out | apply below_alloc | apply pw_below_drewN | apply below_drew1) | exact HB.out)) hb); clear HO270; clear HB; have HO270 := n0_; have HO273 := n1_; have HB := n2_; clear n0_ n1_ n2_; (try clear hb); (try clear hb2); (try clear hk); (try clear hi); (try clear ho0)) | ((with_reducible refine gate_callee (f := 47) rfl ?_); refine goesL_ (some 15) rfl rfl Try.func47 (by kernel_rfl) rfl #[.int .i64 1, .int .i64 0, .bool true] rfl (by (try simp only [List.map_toArray, List.map_cons, List.map_nil]); first | done | rfl | (simp only [List.length_drop, List.length_take]; rfl)) ?_; (with_reducible refine (cippuslaw07_copies.calls 1 0 true t275 _ A3.out).mono ?_); rintro e w117 ⟨v276, rfl, ho0, hb⟩; refine ⟨_, rfl, ?_⟩; have n0_ := Aside0.mk (Kd.R_elder' (by (with_reducible repeat (first | apply Kd.R_alloc | apply Kd.R_drewN | apply Kd.R_drew)); exact HO270.out) (Kd.R_base ho0) hb); have n1_ := Aside0.mk (Kd.N_elder' (by (with_reducible repeat (first | apply Kd.N_alloc | apply Kd.N_drewN | apply Kd.N_drew)); exact HO273.out) (Kd.R_base ho0) hb); have n2_ := Aside0.mk (Kd.R_lower (Kd.R_new' ho0 (Kd.R_lt (by (with_reducible repeat (first | apply Kd.R_alloc | apply Kd.R_drewN | apply Kd.R_drew)); exact HO270.out))) (below_size (by repeat (first | (with_reducible first | exact HB.out | apply below_alloc | apply pw_below_drewN | apply below_drew1) | exact HB.out)))); have n3_ := Aside0.mk (below_step (by repeat (first | (with_reducible first | exact HB.out | apply below_alloc | apply pw_below_drewN | apply below_drew1) | exact HB.out)) hb); clear HO270; clear HO273; clear HB; have HO270 := n0_; have HO273 := n1_; have HO277 := n2_; have HB := n3_; clear n0_ n1_ n2_ n3_; (try clear hb); (try clear hb2); (try clear hk); (try clear hi); (try clear ho0); obtain ⟨Ao118, co118, eo118⟩ := Kd.R_slice HO277.out; subst eo118) | ((with_reducible refine gate_callee (f := 20) rfl ?_); refine goesL_ (some 16) rfl rfl Try.func20 (by kernel_rfl) rfl #[.slice Ao118 t275.length co118] rfl (by (try simp only [List.map_toArray, List.map_cons, List.map_nil]); first | done | rfl | (simp only [List.length_drop, List.length_take]; rfl)) ?_; (with_reducible refine (stemma_Print.calls k _ _ t275 t278 t279 _ ?side1 ?side2 A4.out).mono ?_); (case side1 => repeat (first | exact (Kd.R_reads' HO277.out).2.2 | (with_reducible refine Kd.C_alloc ?_ _) | (with_reducible refine Kd.C_drewN ?_ _) | (with_reducible refine Kd.C_drew ?_))); (case side2 => exact (Kd.R_reads' HO277.out).2.1); rintro e w119 ⟨rfl, hb⟩; refine ⟨_, rfl, ?_⟩; have n0_ := Aside0.mk (Kd.R_below (by (with_reducible repeat (first | apply Kd.R_alloc | apply Kd.R_drewN | apply Kd.R_drew)); exact HO270.out) hb); have n1_ := Aside0.mk (Kd.N_below (by (with_reducible repeat (first | apply Kd.N_alloc | apply Kd.N_drewN | apply Kd.N_drew)); exact HO273.out) hb); have n2_ := Aside0.mk (Kd.R_below (by (with_reducible repeat (first | apply Kd.R_alloc | apply Kd.R_drewN | apply Kd.R_drew)); exact HO277.out) hb); have n3_ := Aside0.mk (below_step (by repeat (first | (with_reducible first | exact HB.out | apply below_alloc | apply pw_below_drewN | apply below_drew1) | exact HB.out)) hb); clear HO270; clear HO273; clear HO277; clear HB; have HO270 := n0_; have HO273 := n1_; have HO277 := n2_; have HB := n3_; clear n0_ n1_ n2_ n3_; (try clear hb); (try clear hb2); (try clear hk); (try clear hi)) | ((with_reducible refine gate_callee (f := 47) rfl ?_); refine goesL_ (some 20) rfl rfl Try.func47 (by kernel_rfl) rfl #[.int .i64 0, .int .i64 1, .bool true] rfl (by (try simp only [List.map_toArray, List.map_cons, List.map_nil]); first | done | rfl | (simp only [List.length_drop, List.length_take]; rfl)) ?_; (with_reducible refine (cippuslaw07_copies.calls 0 1 true t280 _ A5.out).mono ?_); rintro e w120 ⟨v281, rfl, ho0, hb⟩; refine ⟨_, rfl, ?_⟩; have n0_ := Aside0.mk (Kd.R_elder' (by (with_reducible repeat (first | apply Kd.R_alloc | apply Kd.R_drewN | apply Kd.R_drew)); exact HO270.out) (Kd.R_base ho0) hb); have n1_ := Aside0.mk (Kd.N_elder' (by (with_reducible repeat (first | apply Kd.N_alloc | apply Kd.N_drewN | apply Kd.N_drew)); exact HO273.out) (Kd.R_base ho0) hb); have n2_ := Aside0.mk (Kd.R_elder' (by (with_reducible repeat (first | apply Kd.R_alloc | apply Kd.R_drewN | apply Kd.R_drew)); exact HO277.out) (Kd.R_base ho0) hb); have n3_ := Aside0.mk (Kd.R_lower (Kd.R_new' (Kd.R_new' ho0 (Kd.R_lt (by (with_reducible repeat (first | apply Kd.R_alloc | apply Kd.R_drewN | apply Kd.R_drew)); exact HO270.out))) (Kd.R_lt (by (with_reducible repeat (first | apply Kd.R_alloc | apply Kd.R_drewN | apply Kd.R_drew)); exact HO277.out))) (below_size (by repeat (first | (with_reducible first | exact HB.out | apply below_alloc | apply pw_below_drewN | apply below_drew1) | exact HB.out)))); have n4_ := Aside0.mk (below_step (by repeat (first | (with_reducible first | exact HB.out | apply below_alloc | apply pw_below_drewN | apply below_drew1) | exact HB.out)) hb); clear HO270; clear HO273; clear HO277; clear HB; have HO270 := n0_; have HO273 := n1_; have HO277 := n2_; have HO282 := n3_; have HB := n4_; clear n0_ n1_ n2_ n3_ n4_; (try clear hb); (try clear hb2); (try clear hk); (try clear hi); (try clear ho0); obtain ⟨Ao121, co121, eo121⟩ := Kd.R_slice HO282.out; subst eo121) | ((with_reducible refine gate_callee (f := 20) rfl ?_); refine goesL_ (some 21) rfl rfl Try.func20 (by kernel_rfl) rfl #[.slice Ao121 t280.length co121] rfl (by (try simp only [List.map_toArray, List.map_cons, List.map_nil]); first | done | rfl | (simp only [List.length_drop, List.length_take]; rfl)) ?_; (with_reducible refine (stemma_Print.calls k _ _ t280 t283 t284 _ ?side1 ?side2 A6.out).mono ?_); (case side1 => repeat (first | exact (Kd.R_reads' HO282.out).2.2 | (with_reducible refine Kd.C_alloc ?_ _) | (with_reducible refine Kd.C_drewN ?_ _) | (with_reducible refine Kd.C_drew ?_))); (case side2 => exact (Kd.R_reads' HO282.out).2.1); rintro e w122 ⟨rfl, hb⟩; refine ⟨_, rfl, ?_⟩; have n0_ := Aside0.mk (Kd.R_below (by (with_reducible repeat (first | apply Kd.R_alloc | apply Kd.R_drewN | apply Kd.R_drew)); exact HO270.out) hb); have n1_ := Aside0.mk (Kd.N_below (by (with_reducible repeat (first | apply Kd.N_alloc | apply Kd.N_drewN | apply Kd.N_drew)); exact HO273.out) hb); have n2_ := Aside0.mk (Kd.R_below (by (with_reducible repeat (first | apply Kd.R_alloc | apply Kd.R_drewN | apply Kd.R_drew)); exact HO277.out) hb); have n3_ := Aside0.mk (Kd.R_below (by (with_reducible repeat (first | apply Kd.R_alloc | apply Kd.R_drewN | apply Kd.R_drew)); exact HO282.out) hb); have n4_ := Aside0.mk (below_step (by repeat (first | (with_reducible first | exact HB.out | apply below_alloc | apply pw_below_drewN | apply below_drew1) | exact HB.out)) hb); clear HO270; clear HO273; clear HO277; clear HO282; clear HB; have HO270 := n0_; have HO273 := n1_; have HO277 := n2_; have HO282 := n3_; have HB := n4_; clear n0_ n1_ n2_ n3_ n4_; (try clear hb); (try clear hb2); (try clear hk); (try clear hi)) | ((with_reducible refine gate_callee (f := 47) rfl ?_); refine goesL_ (some 25) rfl rfl Try.func47 (by kernel_rfl) rfl #[.int .i64 1, .int .i64 0, .bool true] rfl (by (try simp only [List.map_toArray, List.map_cons, List.map_nil]); first | done | rfl | (simp only [List.length_drop, List.length_take]; rfl)) ?_; (with_reducible refine (cippuslaw07_copies.calls 1 0 true t285 _ A7.out).mono ?_); rintro e w123 ⟨v286, rfl, ho0, hb⟩; refine ⟨_, rfl, ?_⟩; have n0_ := Aside0.mk (Kd.R_elder' (by (with_reducible repeat (first | apply Kd.R_alloc | apply Kd.R_drewN | apply Kd.R_drew)); exact HO270.out) (Kd.R_base ho0) hb); have n1_ := Aside0.mk (Kd.N_elder' (by (with_reducible repeat (first | apply Kd.N_alloc | apply Kd.N_drewN | apply Kd.N_drew)); exact HO273.out) (Kd.R_base ho0) hb); have n2_ := Aside0.mk (Kd.R_elder' (by (with_reducible repeat (first | apply Kd.R_alloc | apply Kd.R_drewN | apply Kd.R_drew)); exact HO277.out) (Kd.R_base ho0) hb); have n3_ := Aside0.mk (Kd.R_elder' (by (with_reducible repeat (first | apply Kd.R_alloc | apply Kd.R_drewN | apply Kd.R_drew)); exact HO282.out) (Kd.R_base ho0) hb); have n4_ := Aside0.mk (Kd.R_lower (Kd.R_new' (Kd.R_new' (Kd.R_new' ho0 (Kd.R_lt (by (with_reducible repeat (first | apply Kd.R_alloc | apply Kd.R_drewN | apply Kd.R_drew)); exact HO270.out))) (Kd.R_lt (by (with_reducible repeat (first | apply Kd.R_alloc | apply Kd.R_drewN | apply Kd.R_drew)); exact HO277.out))) (Kd.R_lt (by (with_reducible repeat (first | apply Kd.R_alloc | apply Kd.R_drewN | apply Kd.R_drew)); exact HO282.out))) (below_size (by repeat (first | (with_reducible first | exact HB.out | apply below_alloc | apply pw_below_drewN | apply below_drew1) | exact HB.out)))); have n5_ := Aside0.mk (below_step (by repeat (first | (with_reducible first | exact HB.out | apply below_alloc | apply pw_below_drewN | apply below_drew1) | exact HB.out)) hb); clear HO270; clear HO273; clear HO277; clear HO282; clear HB; have HO270 := n0_; have HO273 := n1_; have HO277 := n2_; have HO282 := n3_; have HO287 := n4_; have HB := n5_; clear n0_ n1_ n2_ n3_ n4_ n5_; (try clear hb); (try clear hb2); (try clear hk); (try clear hi); (try clear ho0); obtain ⟨Ao124, co124, eo124⟩ := Kd.R_slice HO287.out; subst eo124) | ((with_reducible refine gate_callee (f := 24) rfl ?_); refine goesL_ (some 26) rfl rfl Try.func24 (by kernel_rfl) rfl #[.slice Ao124 t285.length co124] rfl (by (try simp only [List.map_toArray, List.map_cons, List.map_nil]); first | done | rfl | (simp only [List.length_drop, List.length_take]; rfl)) ?_; (with_reducible refine (stemma_Fewest.calls k _ _ t285 t288 t289 _ ?side1 ?side2 A8.out).mono ?_); (case side1 => repeat (first | exact (Kd.R_reads' HO287.out).2.2 | (with_reducible refine Kd.C_alloc ?_ _) | (with_reducible refine Kd.C_drewN ?_ _) | (with_reducible refine Kd.C_drew ?_))); (case side2 => exact (Kd.R_reads' HO287.out).2.1); rintro e w125 ⟨rfl, hb⟩; refine ⟨_, rfl, ?_⟩; have n0_ := Aside0.mk (Kd.R_below (by (with_reducible repeat (first | apply Kd.R_alloc | apply Kd.R_drewN | apply Kd.R_drew)); exact HO270.out) hb); have n1_ := Aside0.mk (Kd.N_below (by (with_reducible repeat (first | apply Kd.N_alloc | apply Kd.N_drewN | apply Kd.N_drew)); exact HO273.out) hb); have n2_ := Aside0.mk (Kd.R_below (by (with_reducible repeat (first | apply Kd.R_alloc | apply Kd.R_drewN | apply Kd.R_drew)); exact HO277.out) hb); have n3_ := Aside0.mk (Kd.R_below (by (with_reducible repeat (first | apply Kd.R_alloc | apply Kd.R_drewN | apply Kd.R_drew)); exact HO282.out) hb); have n4_ := Aside0.mk (Kd.R_below (by (with_reducible repeat (first | apply Kd.R_alloc | apply Kd.R_drewN | apply Kd.R_drew)); exact HO287.out) hb); have n5_ := Aside0.mk (below_step (by repeat (first | (with_reducible first | exact HB.out | apply below_alloc | apply pw_below_drewN | apply below_drew1) | exact HB.out)) hb); clear HO270; clear HO273; clear HO277; clear HO282; clear HO287; clear HB; have HO270 := n0_; have HO273 := n1_; have HO277 := n2_; have HO282 := n3_; have HO287 := n4_; have HB := n5_; clear n0_ n1_ n2_ n3_ n4_ n5_; (try clear hb); (try clear hb2); (try clear hk); (try clear hi)))
    go_ret
    exact ⟨by first | rfl | (simp [errW_none, errW_some] <;> rfl) | (simp [*, errW_none, errW_some] <;> rfl), by repeat (first | (with_reducible first | exact HB.out | apply below_alloc | apply pw_below_drewN | apply below_drew1) | exact HB.out)⟩
end Go.Proofs.Ytegjollhajgcdaa.P
namespace Go.Proofs.Ytegjollhajgcdaa.P
open Go.RowKit Go.Proofs.YtegjollhajgcdaaW.PrintWords Go.Proofs.YtegjollhajgcdaaW.PrintLast Go.Proofs.YtegjollhajgcdaaW.PrintMore
attribute [local go_sem] max2_int min2_int max_two min_two max_three min_three max_four min_four   -- for this text's walks alone
set_option linter.unusedVariables false
set_option linter.unusedSimpArgs false
theorem eqA24 (d : Nat) (w : World) (x0 y0 : ByteArray) (x1 y1 : Int) (x2 y2 : Bool) :
    (Op.equalIn (d + 2) 24 (.agg #[.string x0, .int .i64 x1, .bool x2]) (.agg #[.string y0, .int .i64 y1, .bool y2])).run Try.prog w = .ok (x0.toList == y0.toList && (x1 == y1 && (x2 == y2))) w := by
  refine eqA_of Try.underlying24 (by kernel_rfl) ?_
  refine eqf_cons (by rfl) (by go_simp; rfl) (by go_simp; rfl) (by go_simp) ?_
  refine eqf_cons (by rfl) (by go_simp; rfl) (by go_simp; rfl) (by go_simp) ?_
  exact eqf_last (by rfl) (by go_simp; rfl) (by go_simp; rfl) (by go_simp)
end Go.Proofs.Ytegjollhajgcdaa.P
namespace Go.Proofs.Ytegjollhajgcdaa.P
open Go.RowKit Go.Proofs.YtegjollhajgcdaaW.PrintWords Go.Proofs.YtegjollhajgcdaaW.PrintLast Go.Proofs.YtegjollhajgcdaaW.PrintMore
attribute [local go_sem] max2_int min2_int max_two min_two max_three min_three max_four min_four   -- for this text's walks alone
set_option linter.unusedVariables false
set_option linter.unusedSimpArgs false
attribute [local go_sem high] eqA24
def cippuskit_SameCopies.l0 : Nat → List (S24) → List (S24) → Bool → Int → Option (Bool)
  | 0, _, _, _, _ => none
  | k + 1, x0, x1, x5, x6 => if x5 = true then (if x6 < (x0.length : Int) then (if 0 ≤ x6 then (if x6 < (x1.length : Int) then (cippuskit_SameCopies.l0 k x0 x1 ((((rd_T24 x0 x6).f0).toList) == (((rd_T24 x1 x6).f0).toList) && (((rd_T24 x0 x6).f1) == ((rd_T24 x1 x6).f1) && (((rd_T24 x0 x6).f2) == ((rd_T24 x1 x6).f2)))) (wrap64 (x6 + 1))) else (none)) else (none)) else (some x5)) else (some x5)
def cippuskit_SameCopies.f (k : Nat) (l0 : List (S24)) (l1 : List (S24)) : Option (Bool) := cippuskit_SameCopies.l0 k l0 l1 ((l0.length : Int) == (l1.length : Int)) 0
set_option maxHeartbeats 8000000 in
set_option maxRecDepth 100000 in
theorem cippuskit_SameCopies.calls (k : Nat) (A0 : Option Addr) (c0 : Nat) (l0 : List (S24)) (A1 : Option Addr) (c1 : Nat) (l1 : List (S24)) (r : Bool) (w : World) (hr0 : Kd.C k24 w A0 l0.length l0) (hc0 : l0.length ≤ c0) (hr1 : Kd.C k24 w A1 l1.length l1) (hc1 : l1.length ≤ c1) (h : cippuskit_SameCopies.f k l0 l1 = some r) :
    Calls Try.prog 23 #[.slice A0 l0.length c0, .slice A1 l1.length c1] w fun e w' => e = .returned (.bool r) ∧ Drawn0 w w' := by
  have hu24 := Try.underlying24
  have HR0 := Aside0.mk hr0
  have HC0 := Aside0.mk hc0
  clear hr0 hc0
  have HR1 := Aside0.mk hr1
  have HC1 := Aside0.mk hc1
  clear hr1 hc1
  have H : (cippuskit_SameCopies.l0 k l0 l1 ((l0.length : Int) == (l1.length : Int)) 0) = some r := h
  clear h
  have H' := Aside0.mk H
  clear H
  go_enter Try.func23, Try.ntmps23
  go_wp2
  repeat (go_quiet (fail); try go_wp2)
  go_loopg [5, 6] k (fun kq v5 v6 w' => ∃ (x5_1 : Bool) (x6_1 : Int), v5 = .bool x5_1 ∧ v6 = .int .i64 x6_1 ∧ Aside0 (cippuskit_SameCopies.l0 kq l0 l1 x5_1 x6_1 = some r) ∧ Aside0 (kq ≤ k) ∧ Drawn0 w w')
  case atStart => exact ⟨(((l0.length : Int) == (l1.length : Int))), (0), (by first | rfl | (simp; done) | (simp [*]; done)), (by first | rfl | (simp; done) | (simp [*]; done)), H', ⟨Nat.le_refl _⟩, by repeat (first | exact Drawn0.refl _ | apply Drawn0.step)⟩
  case round =>
    clear H'
    try clear c1
    try clear c2
    try clear p2
    obtain ⟨x5_1, x6_1, rfl, rfl, HA, HK1, ⟨m1, rfl⟩⟩ := hrel
    cases gk with
    | zero => exact absurd HA.out (by simp [cippuskit_SameCopies.l0])
    | succ k1 =>
      have H := HA.out
      clear HA
      simp only [cippuskit_SameCopies.l0] at H
      by_cases c3 : x5_1 = true
      · subst c3
        have H1 : (if x6_1 < (l0.length : Int) then (if 0 ≤ x6_1 then (if x6_1 < (l1.length : Int) then (cippuskit_SameCopies.l0 k1 l0 l1 ((((rd_T24 l0 x6_1).f0).toList) == (((rd_T24 l1 x6_1).f0).toList) && (((rd_T24 l0 x6_1).f1) == ((rd_T24 l1 x6_1).f1) && (((rd_T24 l0 x6_1).f2) == ((rd_T24 l1 x6_1).f2)))) (wrap64 (x6_1 + 1))) else (none)) else (none)) else (some true)) = some r := by rw [if_pos rfl] at H; exact H
        clear H
        have H := H1
        clear H1
        by_cases c4 : x6_1 < (l0.length : Int)
        · rw [if_pos c4] at H
          have c4b0 : decide (x6_1 < (l0.length : Int)) = true := decide_eq_true c4
          clear c4
          by_cases c5 : 0 ≤ x6_1
          · rw [if_pos c5] at H
            have c5b0 : decide (0 ≤ x6_1) = true := decide_eq_true c5
            clear c5
            by_cases c6 : x6_1 < (l1.length : Int)
            · rw [if_pos c6] at H
              have c6b0 : decide (x6_1 < (l1.length : Int)) = true := decide_eq_true c6
              clear c6
              have H' := Aside0.mk H
              clear H
              have p311 : 0 ≤ (x6_1 : Int) := of_decide_eq_true (by first | (with_reducible assumption) | assumption)
              have q311 : x6_1 < (l0.length : Int) := of_decide_eq_true (by first | (with_reducible assumption) | assumption)
              obtain ⟨ad311, e311, hx311_0, hx311_1, hx311_2⟩ := at_T24 HR0.out x6_1 p311 q311
              cases e311
              replace p311 := eq_true p311
              replace q311 := eq_true q311
              have p312 : 0 ≤ (x6_1 : Int) := of_decide_eq_true (by first | (with_reducible assumption) | assumption)
              have q312 : x6_1 < (l1.length : Int) := of_decide_eq_true (by first | (with_reducible assumption) | assumption)
              obtain ⟨ad312, e312, hx312_0, hx312_1, hx312_2⟩ := at_T24 HR1.out x6_1 p312 q312
              cases e312
              replace p312 := eq_true p312
              replace q312 := eq_true q312
              go_wp2
              repeat (go_quiet (fail); try go_wp2)
              go_roundg k1
              case measure => have := HK1.out; omega
              case rel => exact ⟨(((((rd_T24 l0 x6_1).f0).toList) == (((rd_T24 l1 x6_1).f0).toList) && (((rd_T24 l0 x6_1).f1) == ((rd_T24 l1 x6_1).f1) && (((rd_T24 l0 x6_1).f2) == ((rd_T24 l1 x6_1).f2))))), (wrap64 (x6_1 + 1)), (by first | rfl | (simp; done) | (simp [*]; done)), (by first | rfl | (simp; done) | (simp [*]; done)), H', ⟨by have := HK1.out; omega⟩, by repeat (first | exact Drawn0.refl _ | apply Drawn0.step)⟩
            · rw [if_neg c6] at H
              exact absurd H (by simp)
          · rw [if_neg c5] at H
            exact absurd H (by simp)
        · rw [if_neg c4] at H
          have c4b0 : decide (x6_1 < (l0.length : Int)) = false := decide_eq_false c4
          clear c4
          obtain rfl := Option.some.inj H
          go_wp2
          repeat (go_quiet (fail); try go_wp2)
          go_ret
          exact ⟨by first | rfl | (simp; done) | (simp [*]; done), by repeat (first | exact Drawn0.refl _ | apply Drawn0.step)⟩
      · replace c3 := Bool.eq_false_iff.mpr c3
        subst c3
        have H1 : (some false) = some r := by rw [if_neg (show ¬ (false = true) by decide)] at H; exact H
        clear H
        have H := H1
        clear H1
        obtain rfl := Option.some.inj H
        go_wp2
        repeat (go_quiet (fail); try go_wp2)
        go_ret
        exact ⟨by first | rfl | (simp; done) | (simp [*]; done), by repeat (first | exact Drawn0.refl _ | apply Drawn0.step)⟩
end Go.Proofs.Ytegjollhajgcdaa.P
namespace Go.Proofs.Ytegjollhajgcdaa.P
open Go.RowKit Go.Proofs.YtegjollhajgcdaaW.PrintWords Go.Proofs.YtegjollhajgcdaaW.PrintLast Go.Proofs.YtegjollhajgcdaaW.PrintMore
attribute [local go_sem] max2_int min2_int max_two min_two max_three min_three max_four min_four   -- for this text's walks alone
set_option linter.unusedVariables false
set_option linter.unusedSimpArgs false
def cippusref07_Below.l0 : Nat → List Int → Int → Int → Option (Bool)
  | 0, _, _, _ => none
  | k + 1, x0, x1, x2 => if x1 = (-1) then (some false) else (if x1 = x2 then (some true) else (if 0 ≤ x1 then (if x1 < (x0.length : Int) then (cippusref07_Below.l0 k x0 (rd x0 x1) x2) else (none)) else (none)))
def cippusref07_Below.f (k : Nat) (l0 : List Int) (a1 : Int) (a2 : Int) : Option (Bool) := if 0 ≤ a1 then (if a1 < (l0.length : Int) then (cippusref07_Below.l0 k l0 (rd l0 a1) a2) else (none)) else (none)
set_option maxHeartbeats 8000000 in
set_option maxRecDepth 100000 in
theorem cippusref07_Below.calls (k : Nat) (A0 : Option Addr) (c0 : Nat) (l0 : List Int) (a1 : Int) (a2 : Int) (r : Bool) (w : World) (hr0 : Kd.C (Kd.int .i64) w A0 l0.length l0) (hc0 : l0.length ≤ c0) (h : cippusref07_Below.f k l0 a1 a2 = some r) :
    Calls Try.prog 42 #[.slice A0 l0.length c0, .int .i64 a1, .int .i64 a2] w fun e w' => e = .returned (.bool r) ∧ Drawn0 w w' := by
  have HR0 := Aside0.mk hr0
  have HC0 := Aside0.mk hc0
  clear hr0 hc0
  have H : (if 0 ≤ a1 then (if a1 < (l0.length : Int) then (cippusref07_Below.l0 k l0 (rd l0 a1) a2) else (none)) else (none)) = some r := h
  clear h
  by_cases c4 : 0 ≤ a1
  · rw [if_pos c4] at H
    have c4b0 : decide (0 ≤ a1) = true := decide_eq_true c4
    clear c4
    by_cases c5 : a1 < (l0.length : Int)
    · rw [if_pos c5] at H
      have c5b0 : decide (a1 < (l0.length : Int)) = true := decide_eq_true c5
      clear c5
      have H' := Aside0.mk H
      clear H
      have p605 : 0 ≤ (a1 : Int) := of_decide_eq_true (by first | (with_reducible assumption) | assumption)
      have q605 : a1 < (l0.length : Int) := of_decide_eq_true (by first | (with_reducible assumption) | assumption)
      obtain ⟨ad605, e605, hx605_0⟩ := Kd.at_int HR0.out a1 p605 q605
      cases e605
      replace p605 := eq_true p605
      replace q605 := eq_true q605
      go_enter Try.func42, Try.ntmps42
      go_wp2
      go_loopg [1] k (fun kq v1 w' => ∃ (x1_1 : Int), v1 = .int .i64 x1_1 ∧ Aside0 (cippusref07_Below.l0 kq l0 x1_1 a2 = some r) ∧ Aside0 (kq ≤ k) ∧ Drawn0 w w')
      case atStart => exact ⟨(rd l0 a1), (by first | rfl | (simp; done) | (simp [*]; done)), H', ⟨Nat.le_refl _⟩, by repeat (first | exact Drawn0.refl _ | apply Drawn0.step)⟩
      case round =>
        clear H'
        try clear p2
        try clear c4
        try clear c4b0
        try clear c5
        try clear c5b0
        try clear hx605_0
        try clear p605
        try clear q605
        obtain ⟨x1_1, rfl, HA, HK1, ⟨m1, rfl⟩⟩ := hrel
        cases gk with
        | zero => exact absurd HA.out (by simp [cippusref07_Below.l0])
        | succ k1 =>
          have H := HA.out
          clear HA
          simp only [cippusref07_Below.l0] at H
          by_cases c6 : x1_1 = (-1)
          · rw [if_pos c6] at H
            have c6b0 : (x1_1 == (-1)) = true := beq_iff_eq.mpr c6
            have c6b1 : (x1_1 != (-1)) = false := bne_eq_false_iff_eq.mpr c6
            clear c6
            obtain rfl := Option.some.inj H
            go_wp2
            go_ret
            exact ⟨by first | rfl | (simp; done) | (simp [*]; done), by repeat (first | exact Drawn0.refl _ | apply Drawn0.step)⟩
          · rw [if_neg c6] at H
            have c6b0 : (x1_1 == (-1)) = false := beq_eq_false_iff_ne.mpr c6
            have c6b1 : (x1_1 != (-1)) = true := bne_iff_ne.mpr c6
            by_cases c7 : x1_1 = a2
            · rw [if_pos c7] at H
              have c7b0 : (x1_1 == a2) = true := beq_iff_eq.mpr c7
              have c7b1 : (x1_1 != a2) = false := bne_eq_false_iff_eq.mpr c7
              clear c7
              obtain rfl := Option.some.inj H
              go_wp2
              go_ret
              exact ⟨by first | rfl | (simp; done) | (simp [*]; done), by repeat (first | exact Drawn0.refl _ | apply Drawn0.step)⟩
            · rw [if_neg c7] at H
              have c7b0 : (x1_1 == a2) = false := beq_eq_false_iff_ne.mpr c7
              have c7b1 : (x1_1 != a2) = true := bne_iff_ne.mpr c7
              by_cases c8 : 0 ≤ x1_1
              · rw [if_pos c8] at H
                have c8b0 : decide (0 ≤ x1_1) = true := decide_eq_true c8
                clear c8
                by_cases c9 : x1_1 < (l0.length : Int)
                · rw [if_pos c9] at H
                  have c9b0 : decide (x1_1 < (l0.length : Int)) = true := decide_eq_true c9
                  clear c9
                  have H' := Aside0.mk H
                  clear H
                  have p606 : 0 ≤ (x1_1 : Int) := of_decide_eq_true (by first | (with_reducible assumption) | assumption)
                  have q606 : x1_1 < (l0.length : Int) := of_decide_eq_true (by first | (with_reducible assumption) | assumption)
                  obtain ⟨ad606, e606, hx606_0⟩ := Kd.at_int HR0.out x1_1 p606 q606
                  obtain rfl : ad605 = ad606 := (by injection e606)
                  replace p606 := eq_true p606
                  replace q606 := eq_true q606
                  go_wp2
                  go_roundg k1
                  case measure => have := HK1.out; omega
                  case rel => exact ⟨(rd l0 x1_1), (by first | rfl | (simp; done) | (simp [*]; done)), H', ⟨by have := HK1.out; omega⟩, by repeat (first | exact Drawn0.refl _ | apply Drawn0.step)⟩
                · rw [if_neg c9] at H
                  exact absurd H (by simp)
              · rw [if_neg c8] at H
                exact absurd H (by simp)
    · rw [if_neg c5] at H
      exact absurd H (by simp)
  · rw [if_neg c4] at H
    exact absurd H (by simp)
end Go.Proofs.Ytegjollhajgcdaa.P
namespace Go.Proofs.Ytegjollhajgcdaa.P
open Go.RowKit Go.Proofs.YtegjollhajgcdaaW.PrintWords Go.Proofs.YtegjollhajgcdaaW.PrintLast Go.Proofs.YtegjollhajgcdaaW.PrintMore
attribute [local go_sem] max2_int min2_int max_two min_two max_three min_three max_four min_four   -- for this text's walks alone
set_option linter.unusedVariables false
set_option linter.unusedSimpArgs false
mutual
def cippusref07_Depends.j0 : Nat → List (S24) → Int → Int → Bool → Option (Int × Int)
  | 0, _, _, _, _ => none
  | k + 1, x0, x1, x2, x35 => if x35 = true then (some (0, 3)) else ((cippusref07_known.f k x0).bind fun bt608 => (if bt608.2 = 0 then (cippusref07_Depends.l0 k x1 x2 bt608.1 0 0) else (some (0, bt608.2))))
def cippusref07_Depends.l0 : Nat → Int → Int → List (S95) → Int → Int → Option (Int × Int)
  | 0, _, _, _, _, _ => none
  | k + 1, x1, x2, x9, x11, x12 => if x12 < (x9.length : Int) then (if 0 ≤ x12 then ((cippusref07_Below.f k ((rd_T95 x9 x12).f0) x1 x2).bind fun t613 => (if t613 = true then (cippusref07_Depends.l0 k x1 x2 x9 (wrap64 (x11 + 1)) (wrap64 (x12 + 1))) else (cippusref07_Depends.l0 k x1 x2 x9 x11 (wrap64 (x12 + 1))))) else (none)) else ((cippusref07_verdict.f x11 (x9.length : Int)).bind fun t614 => (some (t614, 0)))
end
def cippusref07_Depends.f (k : Nat) (l0 : List (S24)) (a1 : Int) (a2 : Int) : Option (Int × Int) := (cippusref07_Check.f k l0).bind fun t607 => (if t607 = 0 then (if a1 < 0 then (cippusref07_Depends.j0 k l0 a1 a2 true) else (if a1 ≥ (l0.length : Int) then (cippusref07_Depends.j0 k l0 a1 a2 true) else (if a2 < 0 then (cippusref07_Depends.j0 k l0 a1 a2 true) else (cippusref07_Depends.j0 k l0 a1 a2 (decide (a2 ≥ (l0.length : Int))))))) else (some (0, t607)))
set_option maxHeartbeats 8000000 in
set_option maxRecDepth 100000 in
theorem cippusref07_Depends.calls (k : Nat) (A0 : Option Addr) (c0 : Nat) (l0 : List (S24)) (a1 : Int) (a2 : Int) (r1 : Int) (r2 : Int) (w : World) (hr0 : Kd.C k24 w A0 l0.length l0) (hc0 : l0.length ≤ c0) (h : cippusref07_Depends.f k l0 a1 a2 = some (r1, r2)) :
    Calls Try.prog 38 #[.slice A0 l0.length c0, .int .i64 a1, .int .i64 a2] w fun e w' => e = .returned (.tuple #[.int .i64 r1, .int .i64 r2]) ∧ Below w.heap.size w w' := by
  have HR0 := Aside0.mk hr0
  have HC0 := Aside0.mk hc0
  clear hr0 hc0
  have HB := Aside0.mk (Below.refl w.heap.size w)
  have H : ((cippusref07_Check.f k l0).bind fun t607 => (if t607 = 0 then (if a1 < 0 then (cippusref07_Depends.j0 k l0 a1 a2 true) else (if a1 ≥ (l0.length : Int) then (cippusref07_Depends.j0 k l0 a1 a2 true) else (if a2 < 0 then (cippusref07_Depends.j0 k l0 a1 a2 true) else (cippusref07_Depends.j0 k l0 a1 a2 (decide (a2 ≥ (l0.length : Int))))))) else (some (0, t607)))) = some (r1, r2) := h
  clear h
  replace H := Option.bind_eq_some_iff.mp H
  obtain ⟨t607, A40, H⟩ := H
  replace H : (if t607 = 0 then (if a1 < 0 then (cippusref07_Depends.j0 k l0 a1 a2 true) else (if a1 ≥ (l0.length : Int) then (cippusref07_Depends.j0 k l0 a1 a2 true) else (if a2 < 0 then (cippusref07_Depends.j0 k l0 a1 a2 true) else (cippusref07_Depends.j0 k l0 a1 a2 (decide (a2 ≥ (l0.length : Int))))))) else (some (0, t607))) = some (r1, r2) := H
  have A4 := Aside0.mk A40
  clear A40
  by_cases c5 : t607 = 0
  · rw [if_pos c5] at H
    have c5b0 : (t607 == 0) = true := beq_iff_eq.mpr c5
    have c5b1 : (t607 != 0) = false := bne_eq_false_iff_eq.mpr c5
    clear c5
    have HC6 := Aside0.mk H
    clear H
    go_enter Try.func38, Try.ntmps38
    go_upto_region 4 with (first | ((with_reducible refine gate_callee (f := 40) rfl ?_); refine goesL_ (some 14) rfl rfl Try.func40 (by kernel_rfl) rfl #[.slice A0 l0.length c0] rfl (by (try simp only [List.map_toArray, List.map_cons, List.map_nil]); first | done | rfl | (simp only [List.length_drop, List.length_take]; rfl)) ?_; (with_reducible refine (cippusref07_Check.calls k _ _ l0 t607 _ ?side1 ?side2 A4.out).mono ?_); (case side1 => repeat (first | exact HR0.out | (with_reducible refine Kd.C_alloc ?_ _) | (with_reducible refine Kd.C_drewN ?_ _) | (with_reducible refine Kd.C_drew ?_))); (case side2 => exact HC0.out); rintro e w' ⟨rfl, ⟨nd, rfl⟩⟩; refine ⟨_, rfl, ?_⟩))
    (try simp only [Act.put, List.setIfInBounds_toArray, List.set_cons_zero, List.set_cons_succ])
    go_cut [35] (fun v35 wc => ∃ (kq : Nat) (x35_5 : Bool), v35 = .bool x35_5 ∧ Aside0 (cippusref07_Depends.j0 kq l0 a1 a2 x35_5 = some (r1, r2)) ∧ Aside0 (kq ≤ k) ∧ Aside0 (Below w.heap.size w wc))
    case first =>
      have H := HC6.out
      clear HC6
      by_cases c7 : a1 < 0
      · rw [if_pos c7] at H
        have c7b0 : decide (a1 < 0) = true := decide_eq_true c7
        clear c7
        (first | rw [c7b0] | (simp only [i64_w, i32_w]; rw [c7b0]) | skip)
        have H' := Aside0.mk H
        clear H
        go_wp2
        go_meet
        case rel => exact ⟨_, (true), (by first | rfl | (simp; done) | (simp [*]; done)), H', ⟨by first | omega | exact Nat.le_refl _⟩, ⟨by repeat (first | (with_reducible first | exact HB.out | apply below_alloc | apply pw_below_drewN | apply below_drew1) | exact HB.out)⟩⟩
      · rw [if_neg c7] at H
        have c7b0 : decide (a1 < 0) = false := decide_eq_false c7
        clear c7
        (first | rw [c7b0] | (simp only [i64_w, i32_w]; rw [c7b0]) | skip)
        by_cases c8 : a1 ≥ (l0.length : Int)
        · rw [if_pos c8] at H
          have c8b0 : decide ((l0.length : Int) ≤ a1) = true := decide_eq_true c8
          clear c8
          have H' := Aside0.mk H
          clear H
          go_wp2
          go_meet
          case rel => exact ⟨_, (true), (by first | rfl | (simp; done) | (simp [*]; done)), H', ⟨by first | omega | exact Nat.le_refl _⟩, ⟨by repeat (first | (with_reducible first | exact HB.out | apply below_alloc | apply pw_below_drewN | apply below_drew1) | exact HB.out)⟩⟩
        · rw [if_neg c8] at H
          have c8b0 : decide ((l0.length : Int) ≤ a1) = false := decide_eq_false c8
          clear c8
          by_cases c9 : a2 < 0
          · rw [if_pos c9] at H
            have c9b0 : decide (a2 < 0) = true := decide_eq_true c9
            clear c9
            have H' := Aside0.mk H
            clear H
            go_wp2
            go_meet
            case rel => exact ⟨_, (true), (by first | rfl | (simp; done) | (simp [*]; done)), H', ⟨by first | omega | exact Nat.le_refl _⟩, ⟨by repeat (first | (with_reducible first | exact HB.out | apply below_alloc | apply pw_below_drewN | apply below_drew1) | exact HB.out)⟩⟩
          · rw [if_neg c9] at H
            have c9b0 : decide (a2 < 0) = false := decide_eq_false c9
            clear c9
            have H' := Aside0.mk H
            clear H
            go_wp2
            go_meet
            case rel => exact ⟨_, (decide (a2 ≥ (l0.length : Int))), (by first | rfl | (simp; done) | (simp [*]; done)), H', ⟨by first | omega | exact Nat.le_refl _⟩, ⟨by repeat (first | (with_reducible first | exact HB.out | apply below_alloc | apply pw_below_drewN | apply below_drew1) | exact HB.out)⟩⟩
    case rest =>
      clear HC6
      try clear p2
      try clear c3
      try clear c4
      try clear c5
      try clear c5b0
      try clear c5b1
      try clear c7
      try clear c7b0
      try clear c8
      try clear c8b0
      try clear c9
      try clear c9b0
      obtain ⟨kq, x35_5, rfl, HA, HJ5, HB⟩ := hcut
      cases kq with
      | zero => exact absurd HA.out (by simp [cippusref07_Depends.j0])
      | succ kj5 =>
        have H := HA.out
        clear HA
        simp only [cippusref07_Depends.j0] at H
        by_cases c10 : x35_5 = true
        · subst c10
          have H1 : (some (0, 3)) = some (r1, r2) := by rw [if_pos rfl] at H; exact H
          clear H
          have H := H1
          clear H1
          simp only [Option.some.injEq, Prod.mk.injEq] at H
          obtain ⟨rfl, rfl⟩ := H
          go_wp2
          go_ret2
          exact ⟨by first | rfl | (simp [errW_none, errW_some] <;> rfl) | (simp [*, errW_none, errW_some] <;> rfl), by repeat (first | (with_reducible first | exact HB.out | apply below_alloc | apply pw_below_drewN | apply below_drew1) | exact HB.out)⟩
        · replace c10 := Bool.eq_false_iff.mpr c10
          subst c10
          have H1 : ((cippusref07_known.f kj5 l0).bind fun bt608 => (if bt608.2 = 0 then (cippusref07_Depends.l0 kj5 a1 a2 bt608.1 0 0) else (some (0, bt608.2)))) = some (r1, r2) := by rw [if_neg (show ¬ (false = true) by decide)] at H; exact H
          clear H
          have H := H1
          clear H1
          replace H := Option.bind_eq_some_iff.mp H
          obtain ⟨⟨t608, t611⟩, A110, H⟩ := H
          replace H : (if t611 = 0 then (cippusref07_Depends.l0 kj5 a1 a2 t608 0 0) else (some (0, t611))) = some (r1, r2) := H
          have A11 := Aside0.mk A110
          clear A110
          by_cases c12 : t611 = 0
          · rw [if_pos c12] at H
            have c12b0 : (t611 == 0) = true := beq_iff_eq.mpr c12
            have c12b1 : (t611 != 0) = false := bne_eq_false_iff_eq.mpr c12
            clear c12
            have H' := Aside0.mk H
            clear H
            go_wp2_with (first | ((with_reducible refine gate_callee (f := 54) rfl ?_); refine goesL_ (some 38) rfl rfl Try.func54 (by kernel_rfl) rfl #[.slice A0 l0.length c0] rfl (by (try simp only [List.map_toArray, List.map_cons, List.map_nil]); first | done | rfl | (simp only [List.length_drop, List.length_take]; rfl)) ?_; (with_reducible refine (cippusref07_known.calls kj5 _ _ l0 t608 t611 _ ?side1 ?side2 A11.out).mono ?_); (case side1 => repeat (first | exact (Kd.C_below HR0.out HB.out) | (with_reducible refine Kd.C_alloc ?_ _) | (with_reducible refine Kd.C_drewN ?_ _) | (with_reducible refine Kd.C_drew ?_))); (case side2 => exact HC0.out); rintro e w13 ⟨v609, rfl, ho0, hb⟩; refine ⟨_, rfl, ?_⟩; have n0_ := Aside0.mk (Kd.N_lower (Kd.N_mono (ok' := fun k_ => True) ho0 (fun k_ hk_ => trivial)) (below_size (by repeat (first | (with_reducible first | exact HB.out | apply below_alloc | apply pw_below_drewN | apply below_drew1) | exact HB.out)))); have n1_ := Aside0.mk (below_step (by repeat (first | (with_reducible first | exact HB.out | apply below_alloc | apply pw_below_drewN | apply below_drew1) | exact HB.out)) hb); clear HB; have HO610 := n0_; have HB := n1_; clear n0_ n1_; (try clear hb); (try clear hb2); (try clear hk); (try clear hi); (try clear ho0)))
            go_loopg [11, 12] kj5 (fun kq v11 v12 w' => ∃ (x11_2 : Int) (x12_2 : Int), v11 = .int .i64 x11_2 ∧ v12 = .int .i64 x12_2 ∧ Aside0 (cippusref07_Depends.l0 kq a1 a2 t608 x11_2 x12_2 = some (r1, r2)) ∧ Aside0 (kq ≤ kj5) ∧ Aside0 (Kd.N k95 95 w' w.heap.size (fun _ => True) v609 t608) ∧ Aside0 (Below w.heap.size w w'))
            case atStart => exact ⟨(0), (0), (by first | rfl | (simp; done) | (simp [*]; done)), (by first | rfl | (simp; done) | (simp [*]; done)), H', ⟨Nat.le_refl _⟩, ⟨by (with_reducible repeat (first | apply Kd.N_alloc | apply Kd.N_drewN | apply Kd.N_drew)); exact HO610.out⟩, ⟨by repeat (first | (with_reducible first | exact HB.out | apply below_alloc | apply pw_below_drewN | apply below_drew1) | exact HB.out)⟩⟩
            case round =>
              clear H'
              try clear c1
              try clear p2
              try clear c3
              try clear c4
              try clear c5
              try clear c5b0
              try clear c5b1
              try clear c7
              try clear c7b0
              try clear c8
              try clear c8b0
              try clear c9
              try clear c9b0
              try clear c10
              try clear c12
              try clear c12b0
              try clear c12b1
              try clear p2
              obtain ⟨x11_2, x12_2, rfl, rfl, HA, HK2, HO_9, HB⟩ := hrel
              cases gk with
              | zero => exact absurd HA.out (by simp [cippusref07_Depends.l0])
              | succ k2 =>
                have H := HA.out
                clear HA
                simp only [cippusref07_Depends.l0] at H
                by_cases c14 : x12_2 < (t608.length : Int)
                · rw [if_pos c14] at H
                  have c14b0 : decide (x12_2 < (t608.length : Int)) = true := decide_eq_true c14
                  clear c14
                  by_cases c15 : 0 ≤ x12_2
                  · rw [if_pos c15] at H
                    have c15b0 : decide (0 ≤ x12_2) = true := decide_eq_true c15
                    clear c15
                    replace H := Option.bind_eq_some_iff.mp H
                    obtain ⟨t613, A160, H⟩ := H
                    replace H : (if t613 = true then (cippusref07_Depends.l0 k2 a1 a2 t608 (wrap64 (x11_2 + 1)) (wrap64 (x12_2 + 1))) else (cippusref07_Depends.l0 k2 a1 a2 t608 x11_2 (wrap64 (x12_2 + 1)))) = some (r1, r2) := H
                    have A16 := Aside0.mk A160
                    clear A160
                    by_cases c17 : t613 = true
                    · subst c17
                      have H1 : (cippusref07_Depends.l0 k2 a1 a2 t608 (wrap64 (x11_2 + 1)) (wrap64 (x12_2 + 1))) = some (r1, r2) := by rw [if_pos rfl] at H; exact H
                      clear H
                      have H := H1
                      clear H1
                      have H' := Aside0.mk H
                      clear H
                      obtain ⟨Ao18, co18, eo18⟩ := Kd.N_slice HO_9.out
                      subst eo18
                      have p612 : 0 ≤ (x12_2 : Int) := of_decide_eq_true (by first | (with_reducible assumption) | assumption)
                      have q612 : x12_2 < (t608.length : Int) := of_decide_eq_true (by first | (with_reducible assumption) | assumption)
                      obtain ⟨ad612, A612_0, c612_0, A612_1, c612_1, e612, hx612_0, hx612_1, hl612_0, hi612_0, hl612_1, hi612_1⟩ := at_T95 (Kd.N_reads' HO_9.out).2.2 x12_2 p612 q612
                      cases e612
                      obtain ⟨ce612, hce612, hMe612, hcc612⟩ := Kd.N_get HO_9.out z95 x12_2 p612 (by first | exact q612 | exact of_decide_eq_true (by first | (with_reducible assumption) | assumption) | (have e_ := (Kd.N_reads' HO_9.out).1; omega))
                      obtain ⟨ua612_0, uc612_0, ua612_1, uc612_1, rfl, ul612_0, ge612_0, ul612_1, ge612_1⟩ := k95_openF hMe612
                      have hv612_0 := hcc612 0 _ rfl
                      rw [Nat.add_zero] at hv612_0
                      replace hv612_0 := Option.some.inj (hv612_0.symm.trans hx612_0)
                      injection hv612_0 with hva_ hvn_ hvc_
                      rw [hva_] at ge612_0
                      rw [hvc_] at ul612_0
                      have HL612_0 := Aside0.mk (show Kd.V (Kd.int .i64) 3 _ w.heap.size _ _ ((rd_T95 t608 x12_2).f0) from Kd.V_mk ul612_0 ge612_0)
                      clear hva_ hvn_ hvc_ ge612_0 ul612_0
                      have hv612_1 := hcc612 1 _ rfl
                      rw [add_field _ _ 1 (by omega)] at hv612_1
                      replace hv612_1 := Option.some.inj (hv612_1.symm.trans hx612_1)
                      injection hv612_1 with hva_ hvn_ hvc_
                      rw [hva_] at ge612_1
                      rw [hvc_] at ul612_1
                      have HL612_1 := Aside0.mk (show Kd.V Kd.string 9 _ w.heap.size _ _ ((rd_T95 t608 x12_2).f1) from Kd.V_mk ul612_1 ge612_1)
                      clear hva_ hvn_ hvc_ ge612_1 ul612_1
                      clear hcc612 hce612
                      have HR612_0 := Aside0.mk hi612_0
                      have HC612_0 := Aside0.mk hl612_0
                      clear hi612_0 hl612_0
                      have HR612_1 := Aside0.mk hi612_1
                      have HC612_1 := Aside0.mk hl612_1
                      clear hi612_1 hl612_1
                      replace p612 := eq_true p612
                      replace q612 := eq_true q612
                      go_wp2_with (first | ((with_reducible refine gate_callee (f := 42) rfl ?_); refine goesL_ (some 57) rfl rfl Try.func42 (by kernel_rfl) rfl #[.slice A612_0 ((rd_T95 t608 x12_2).f0).length c612_0, .int .i64 a1, .int .i64 a2] rfl (by (try simp only [List.map_toArray, List.map_cons, List.map_nil]); first | done | rfl | (simp only [List.length_drop, List.length_take]; rfl)) ?_; (with_reducible refine (cippusref07_Below.calls k2 _ _ ((rd_T95 t608 x12_2).f0) a1 a2 true _ ?side1 ?side2 A16.out).mono ?_); (case side1 => repeat (first | exact (by repeat (first | (with_reducible exact HR612_0.out) | (with_reducible refine Kd.C_alloc ?_ _) | (with_reducible refine Kd.C_drewN ?_ _) | (with_reducible refine Kd.C_drew ?_) | exact HR612_0.out)) | (with_reducible refine Kd.C_alloc ?_ _) | (with_reducible refine Kd.C_drewN ?_ _) | (with_reducible refine Kd.C_drew ?_))); (case side2 => exact HC612_0.out); rintro e w' ⟨rfl, ⟨nd, rfl⟩⟩; refine ⟨_, rfl, ?_⟩))
                      go_roundg k2
                      case measure => have := HJ5.out; have := HK2.out; omega
                      case rel => exact ⟨(wrap64 (x11_2 + 1)), (wrap64 (x12_2 + 1)), (by first | rfl | (simp; done) | (simp [*]; done)), (by first | rfl | (simp; done) | (simp [*]; done)), H', ⟨by have := HJ5.out; have := HK2.out; omega⟩, ⟨by (with_reducible repeat (first | apply Kd.N_alloc | apply Kd.N_drewN | apply Kd.N_drew)); exact HO_9.out⟩, ⟨by repeat (first | (with_reducible first | exact HB.out | apply below_alloc | apply pw_below_drewN | apply below_drew1) | exact HB.out)⟩⟩
                    · replace c17 := Bool.eq_false_iff.mpr c17
                      subst c17
                      have H1 : (cippusref07_Depends.l0 k2 a1 a2 t608 x11_2 (wrap64 (x12_2 + 1))) = some (r1, r2) := by rw [if_neg (show ¬ (false = true) by decide)] at H; exact H
                      clear H
                      have H := H1
                      clear H1
                      have H' := Aside0.mk H
                      clear H
                      obtain ⟨Ao19, co19, eo19⟩ := Kd.N_slice HO_9.out
                      subst eo19
                      have p612 : 0 ≤ (x12_2 : Int) := of_decide_eq_true (by first | (with_reducible assumption) | assumption)
                      have q612 : x12_2 < (t608.length : Int) := of_decide_eq_true (by first | (with_reducible assumption) | assumption)
                      obtain ⟨ad612, A612_0, c612_0, A612_1, c612_1, e612, hx612_0, hx612_1, hl612_0, hi612_0, hl612_1, hi612_1⟩ := at_T95 (Kd.N_reads' HO_9.out).2.2 x12_2 p612 q612
                      cases e612
                      obtain ⟨ce612, hce612, hMe612, hcc612⟩ := Kd.N_get HO_9.out z95 x12_2 p612 (by first | exact q612 | exact of_decide_eq_true (by first | (with_reducible assumption) | assumption) | (have e_ := (Kd.N_reads' HO_9.out).1; omega))
                      obtain ⟨ua612_0, uc612_0, ua612_1, uc612_1, rfl, ul612_0, ge612_0, ul612_1, ge612_1⟩ := k95_openF hMe612
                      have hv612_0 := hcc612 0 _ rfl
                      rw [Nat.add_zero] at hv612_0
                      replace hv612_0 := Option.some.inj (hv612_0.symm.trans hx612_0)
                      injection hv612_0 with hva_ hvn_ hvc_
                      rw [hva_] at ge612_0
                      rw [hvc_] at ul612_0
                      have HL612_0 := Aside0.mk (show Kd.V (Kd.int .i64) 3 _ w.heap.size _ _ ((rd_T95 t608 x12_2).f0) from Kd.V_mk ul612_0 ge612_0)
                      clear hva_ hvn_ hvc_ ge612_0 ul612_0
                      have hv612_1 := hcc612 1 _ rfl
                      rw [add_field _ _ 1 (by omega)] at hv612_1
                      replace hv612_1 := Option.some.inj (hv612_1.symm.trans hx612_1)
                      injection hv612_1 with hva_ hvn_ hvc_
                      rw [hva_] at ge612_1
                      rw [hvc_] at ul612_1
                      have HL612_1 := Aside0.mk (show Kd.V Kd.string 9 _ w.heap.size _ _ ((rd_T95 t608 x12_2).f1) from Kd.V_mk ul612_1 ge612_1)
                      clear hva_ hvn_ hvc_ ge612_1 ul612_1
                      clear hcc612 hce612
                      have HR612_0 := Aside0.mk hi612_0
                      have HC612_0 := Aside0.mk hl612_0
                      clear hi612_0 hl612_0
                      have HR612_1 := Aside0.mk hi612_1
                      have HC612_1 := Aside0.mk hl612_1
                      clear hi612_1 hl612_1
                      replace p612 := eq_true p612
                      replace q612 := eq_true q612
                      go_wp2_with (first | ((with_reducible refine gate_callee (f := 42) rfl ?_); refine goesL_ (some 57) rfl rfl Try.func42 (by kernel_rfl) rfl #[.slice A612_0 ((rd_T95 t608 x12_2).f0).length c612_0, .int .i64 a1, .int .i64 a2] rfl (by (try simp only [List.map_toArray, List.map_cons, List.map_nil]); first | done | rfl | (simp only [List.length_drop, List.length_take]; rfl)) ?_; (with_reducible refine (cippusref07_Below.calls k2 _ _ ((rd_T95 t608 x12_2).f0) a1 a2 false _ ?side1 ?side2 A16.out).mono ?_); (case side1 => repeat (first | exact (by repeat (first | (with_reducible exact HR612_0.out) | (with_reducible refine Kd.C_alloc ?_ _) | (with_reducible refine Kd.C_drewN ?_ _) | (with_reducible refine Kd.C_drew ?_) | exact HR612_0.out)) | (with_reducible refine Kd.C_alloc ?_ _) | (with_reducible refine Kd.C_drewN ?_ _) | (with_reducible refine Kd.C_drew ?_))); (case side2 => exact HC612_0.out); rintro e w' ⟨rfl, ⟨nd, rfl⟩⟩; refine ⟨_, rfl, ?_⟩))
                      go_roundg k2
                      case measure => have := HJ5.out; have := HK2.out; omega
                      case rel => exact ⟨(x11_2), (wrap64 (x12_2 + 1)), (by first | rfl | (simp; done) | (simp [*]; done)), (by first | rfl | (simp; done) | (simp [*]; done)), H', ⟨by have := HJ5.out; have := HK2.out; omega⟩, ⟨by (with_reducible repeat (first | apply Kd.N_alloc | apply Kd.N_drewN | apply Kd.N_drew)); exact HO_9.out⟩, ⟨by repeat (first | (with_reducible first | exact HB.out | apply below_alloc | apply pw_below_drewN | apply below_drew1) | exact HB.out)⟩⟩
                  · rw [if_neg c15] at H
                    exact absurd H (by simp)
                · rw [if_neg c14] at H
                  have c14b0 : decide (x12_2 < (t608.length : Int)) = false := decide_eq_false c14
                  clear c14
                  replace H := Option.bind_eq_some_iff.mp H
                  obtain ⟨t614, A200, H⟩ := H
                  replace H : (some (t614, 0)) = some (r1, r2) := H
                  have A20 := Aside0.mk A200
                  clear A200
                  simp only [Option.some.injEq, Prod.mk.injEq] at H
                  obtain ⟨rfl, rfl⟩ := H
                  obtain ⟨Ao21, co21, eo21⟩ := Kd.N_slice HO_9.out
                  subst eo21
                  go_wp2_with (first | ((with_reducible refine gate_callee (f := 63) rfl ?_); refine goesL_ (some 63) rfl rfl Try.func63 (by kernel_rfl) rfl #[.int .i64 x11_2, .int .i64 (t608.length : Int)] rfl (by (try simp only [List.map_toArray, List.map_cons, List.map_nil]); first | done | rfl | (simp only [List.length_drop, List.length_take]; rfl)) ?_; (with_reducible refine (cippusref07_verdict.calls x11_2 (t608.length : Int) t614 _ A20.out).mono ?_); rintro e w' ⟨rfl, ⟨nd, rfl⟩⟩; refine ⟨_, rfl, ?_⟩))
                  go_ret2
                  exact ⟨by first | rfl | (simp [errW_none, errW_some] <;> rfl) | (simp [*, errW_none, errW_some] <;> rfl), by repeat (first | (with_reducible first | exact HB.out | apply below_alloc | apply pw_below_drewN | apply below_drew1) | exact HB.out)⟩
          · rw [if_neg c12] at H
            have c12b0 : (t611 == 0) = false := beq_eq_false_iff_ne.mpr c12
            have c12b1 : (t611 != 0) = true := bne_iff_ne.mpr c12
            simp only [Option.some.injEq, Prod.mk.injEq] at H
            obtain ⟨rfl, rfl⟩ := H
            go_wp2_with (first | ((with_reducible refine gate_callee (f := 54) rfl ?_); refine goesL_ (some 38) rfl rfl Try.func54 (by kernel_rfl) rfl #[.slice A0 l0.length c0] rfl (by (try simp only [List.map_toArray, List.map_cons, List.map_nil]); first | done | rfl | (simp only [List.length_drop, List.length_take]; rfl)) ?_; (with_reducible refine (cippusref07_known.calls kj5 _ _ l0 t608 t611 _ ?side1 ?side2 A11.out).mono ?_); (case side1 => repeat (first | exact (Kd.C_below HR0.out HB.out) | (with_reducible refine Kd.C_alloc ?_ _) | (with_reducible refine Kd.C_drewN ?_ _) | (with_reducible refine Kd.C_drew ?_))); (case side2 => exact HC0.out); rintro e w22 ⟨v609, rfl, ho0, hb⟩; refine ⟨_, rfl, ?_⟩; have n0_ := Aside0.mk (Kd.N_lower (Kd.N_mono (ok' := fun k_ => True) ho0 (fun k_ hk_ => trivial)) (below_size (by repeat (first | (with_reducible first | exact HB.out | apply below_alloc | apply pw_below_drewN | apply below_drew1) | exact HB.out)))); have n1_ := Aside0.mk (below_step (by repeat (first | (with_reducible first | exact HB.out | apply below_alloc | apply pw_below_drewN | apply below_drew1) | exact HB.out)) hb); clear HB; have HO610 := n0_; have HB := n1_; clear n0_ n1_; (try clear hb); (try clear hb2); (try clear hk); (try clear hi); (try clear ho0)))
            go_ret2
            exact ⟨by first | rfl | (simp [errW_none, errW_some] <;> rfl) | (simp [*, errW_none, errW_some] <;> rfl), by repeat (first | (with_reducible first | exact HB.out | apply below_alloc | apply pw_below_drewN | apply below_drew1) | exact HB.out)⟩
  · rw [if_neg c5] at H
    have c5b0 : (t607 == 0) = false := beq_eq_false_iff_ne.mpr c5
    have c5b1 : (t607 != 0) = true := bne_iff_ne.mpr c5
    simp only [Option.some.injEq, Prod.mk.injEq] at H
    obtain ⟨rfl, rfl⟩ := H
    go_enter Try.func38, Try.ntmps38
    go_wp2_with (first | ((with_reducible refine gate_callee (f := 40) rfl ?_); refine goesL_ (some 14) rfl rfl Try.func40 (by kernel_rfl) rfl #[.slice A0 l0.length c0] rfl (by (try simp only [List.map_toArray, List.map_cons, List.map_nil]); first | done | rfl | (simp only [List.length_drop, List.length_take]; rfl)) ?_; (with_reducible refine (cippusref07_Check.calls k _ _ l0 t607 _ ?side1 ?side2 A4.out).mono ?_); (case side1 => repeat (first | exact HR0.out | (with_reducible refine Kd.C_alloc ?_ _) | (with_reducible refine Kd.C_drewN ?_ _) | (with_reducible refine Kd.C_drew ?_))); (case side2 => exact HC0.out); rintro e w' ⟨rfl, ⟨nd, rfl⟩⟩; refine ⟨_, rfl, ?_⟩))
    go_ret2
    exact ⟨by first | rfl | (simp [errW_none, errW_some] <;> rfl) | (simp [*, errW_none, errW_some] <;> rfl), by repeat (first | (with_reducible first | exact HB.out | apply below_alloc | apply pw_below_drewN | apply below_drew1) | exact HB.out)⟩
end Go.Proofs.Ytegjollhajgcdaa.P
namespace Go.Proofs.Ytegjollhajgcdaa.P
open Go.RowKit Go.Proofs.YtegjollhajgcdaaW.PrintWords Go.Proofs.YtegjollhajgcdaaW.PrintLast Go.Proofs.YtegjollhajgcdaaW.PrintMore
attribute [local go_sem] max2_int min2_int max_two min_two max_three min_three max_four min_four   -- for this text's walks alone
set_option linter.unusedVariables false
set_option linter.unusedSimpArgs false
def stemma_Depends.f (k : Nat) (l0 : List (S24)) (a1 : Int) (a2 : Int) : Option (Int × Int) := some (OwnSt.dependsV l0 a1 a2)
theorem stemma_Depends.calls (k : Nat) (A0 : Option Addr) (c0 : Nat) (l0 : List (S24)) (a1 : Int) (a2 : Int) (r1 : Int) (r2 : Int) (w : World) (hr0 : Kd.C k24 w A0 l0.length l0) (hc0 : l0.length ≤ c0) (h : stemma_Depends.f k l0 a1 a2 = some (r1, r2)) :
    Calls Try.prog 37 #[.slice A0 l0.length c0, .int .i64 a1, .int .i64 a2] w fun e w' => e = .returned (.tuple #[.int .i64 r1, .int .i64 r2]) ∧ Below w.heap.size w w' := by
  have h2 := OwnSt.depends_calls A0 c0 l0 a1 a2 w hr0 hc0; rw [show OwnSt.dependsV l0 a1 a2 = (r1, r2) from Option.some.inj h] at h2; exact h2
end Go.Proofs.Ytegjollhajgcdaa.P
namespace Go.Proofs.Ytegjollhajgcdaa.P
open Go.RowKit Go.Proofs.YtegjollhajgcdaaW.PrintWords Go.Proofs.YtegjollhajgcdaaW.PrintLast Go.Proofs.YtegjollhajgcdaaW.PrintMore
attribute [local go_sem] max2_int min2_int max_two min_two max_three min_three max_four min_four   -- for this text's walks alone
set_option linter.unusedVariables false
set_option linter.unusedSimpArgs false
def cippuskit_Urn_Odds.f (s0_0 : Int) (s0_1 : Int) (a1 : Int) (a2 : Int) : Option (Bool × Int × Int) := (cippuskit_Urn_Up.f s0_0 s0_1 a2).bind fun bt104 => (some (decide (bt104.1 < a1), bt104.2.1, bt104.2.2))
set_option maxHeartbeats 8000000 in
set_option maxRecDepth 100000 in
theorem cippuskit_Urn_Odds.calls (g : Nat) (s0_0 : Int) (s0_1 : Int) (a1 : Int) (a2 : Int) (r1 : Bool) (r2 : Int) (r3 : Int) (w0 w : World) (hI : IsS72 w0 w g s0_0 s0_1) (hB : Below w0.heap.size w0 w) (h : cippuskit_Urn_Odds.f s0_0 s0_1 a1 a2 = some (r1, r2, r3)) :
    Calls Try.prog 27 #[.pointer (some ⟨g, 0, none⟩), .int .i64 a1, .int .i64 a2] w fun e w' => e = .returned (.bool r1) ∧ IsS72 w0 w' g r2 r3 ∧ Below w0.heap.size w0 w' ∧ KeepBut w w' g none := by
  have HI0 := Aside0.mk hI
  have HK := Aside0.mk (KeepBut.refl w g none)
  have HL := Aside0.mk hB.size
  clear hI
  have HW0 := Aside0.mk hB.size
  have HB := Aside0.mk hB
  clear hB
  have H : ((cippuskit_Urn_Up.f s0_0 s0_1 a2).bind fun bt104 => (some (decide (bt104.1 < a1), bt104.2.1, bt104.2.2))) = some (r1, r2, r3) := h
  clear h
  replace H := Option.bind_eq_some_iff.mp H
  obtain ⟨⟨t104, t105, t106⟩, A40, H⟩ := H
  replace H : (some (decide (t104 < a1), t105, t106)) = some (r1, r2, r3) := H
  have A4 := Aside0.mk A40
  clear A40
  simp only [Option.some.injEq, Prod.mk.injEq] at H
  obtain ⟨rfl, rfl, rfl⟩ := H
  go_enter Try.func27, Try.ntmps27
  go_wp2_with (first | ((with_reducible refine gate_callee (f := 28) rfl ?_); refine goesL_ (some 9) rfl rfl Try.func28 (by kernel_rfl) rfl #[.pointer (some ⟨g, 0, none⟩), .int .i64 a2] rfl (by (try simp only [List.map_toArray, List.map_cons, List.map_nil]); first | done | rfl | (simp only [List.length_drop, List.length_take]; rfl)) ?_; (with_reducible refine (cippuskit_Urn_Up.calls g s0_0 s0_1 a2 t104 t105 t106 w0 _ ?side1 ?side2 A4.out).mono ?_); (case side1 => repeat (first | (with_reducible first | exact HI0.out | apply IsS72.alloc | apply IsS72.drewN | apply IsS72.drew | apply IsS72.set_0 | apply IsS72.set_1) | exact HI0.out)); (case side2 => repeat (first | (with_reducible first | exact HB.out | apply below_alloc | apply pw_below_drewN | apply below_drew1 | refine below_set ?_ (IsS72.ge HI0.out)) | exact HB.out)); rintro e w5 ⟨rfl, hi, hb, hk⟩; refine ⟨_, rfl, ?_⟩; have n0_ := Aside0.mk (KeepBut.trans (by repeat (first | (with_reducible first | exact HK.out | apply KeepBut.set_ | apply keep_drewN | apply keep_drew | apply keep_alloc) | exact HK.out)) hk (.inl rfl)); have n1_ := Aside0.mk (hb); have n2_ := Aside0.mk (hi); clear HK; clear HB; clear HI0; have HK := n0_; have HB := n1_; have HI0 := n2_; clear n0_ n1_ n2_; (try clear hb); (try clear hb2); (try clear hk); (try clear hi)))
  go_ret
  exact ⟨by first | rfl | (simp [errW_none, errW_some] <;> rfl) | (simp [*, errW_none, errW_some] <;> rfl), by repeat (first | (with_reducible first | exact HI0.out | apply IsS72.alloc | apply IsS72.drewN | apply IsS72.drew | apply IsS72.set_0 | apply IsS72.set_1) | exact HI0.out), by repeat (first | (with_reducible first | exact HB.out | apply below_alloc | apply pw_below_drewN | apply below_drew1 | refine below_set ?_ (IsS72.ge HI0.out)) | exact HB.out), by repeat (first | (with_reducible first | exact HK.out | apply KeepBut.set_ | apply keep_drewN | apply keep_drew | apply keep_alloc) | exact HK.out)⟩
end Go.Proofs.Ytegjollhajgcdaa.P
namespace Go.Proofs.Ytegjollhajgcdaa.P
open Go.RowKit Go.Proofs.YtegjollhajgcdaaW.PrintWords Go.Proofs.YtegjollhajgcdaaW.PrintLast Go.Proofs.YtegjollhajgcdaaW.PrintMore
attribute [local go_sem] max2_int min2_int max_two min_two max_three min_three max_four min_four   -- for this text's walks alone
set_option linter.unusedVariables false
set_option linter.unusedSimpArgs false
def cippuskit_Urn_From.f (s0_0 : Int) (s0_1 : Int) (a1 : Int) (a2 : Int) : Option (Int × Int × Int) := (cippuskit_Urn_Up.f s0_0 s0_1 (wrap64 ((wrap64 (a2 - a1)) + 1))).bind fun bt107 => (some (wrap64 (a1 + bt107.1), bt107.2.1, bt107.2.2))
set_option maxHeartbeats 8000000 in
set_option maxRecDepth 100000 in
theorem cippuskit_Urn_From.calls (g : Nat) (s0_0 : Int) (s0_1 : Int) (a1 : Int) (a2 : Int) (r1 : Int) (r2 : Int) (r3 : Int) (w0 w : World) (hI : IsS72 w0 w g s0_0 s0_1) (hB : Below w0.heap.size w0 w) (h : cippuskit_Urn_From.f s0_0 s0_1 a1 a2 = some (r1, r2, r3)) :
    Calls Try.prog 44 #[.pointer (some ⟨g, 0, none⟩), .int .i64 a1, .int .i64 a2] w fun e w' => e = .returned (.int .i64 r1) ∧ IsS72 w0 w' g r2 r3 ∧ Below w0.heap.size w0 w' ∧ KeepBut w w' g none := by
  have HI0 := Aside0.mk hI
  have HK := Aside0.mk (KeepBut.refl w g none)
  have HL := Aside0.mk hB.size
  clear hI
  have HW0 := Aside0.mk hB.size
  have HB := Aside0.mk hB
  clear hB
  have H : ((cippuskit_Urn_Up.f s0_0 s0_1 (wrap64 ((wrap64 (a2 - a1)) + 1))).bind fun bt107 => (some (wrap64 (a1 + bt107.1), bt107.2.1, bt107.2.2))) = some (r1, r2, r3) := h
  clear h
  replace H := Option.bind_eq_some_iff.mp H
  obtain ⟨⟨t107, t108, t109⟩, A40, H⟩ := H
  replace H : (some (wrap64 (a1 + t107), t108, t109)) = some (r1, r2, r3) := H
  have A4 := Aside0.mk A40
  clear A40
  simp only [Option.some.injEq, Prod.mk.injEq] at H
  obtain ⟨rfl, rfl, rfl⟩ := H
  go_enter Try.func44, Try.ntmps44
  go_wp2_with (first | ((with_reducible refine gate_callee (f := 28) rfl ?_); refine goesL_ (some 13) rfl rfl Try.func28 (by kernel_rfl) rfl #[.pointer (some ⟨g, 0, none⟩), .int .i64 (wrap64 ((wrap64 (a2 - a1)) + 1))] rfl (by (try simp only [List.map_toArray, List.map_cons, List.map_nil]); first | done | rfl | (simp only [List.length_drop, List.length_take]; rfl)) ?_; (with_reducible refine (cippuskit_Urn_Up.calls g s0_0 s0_1 (wrap64 ((wrap64 (a2 - a1)) + 1)) t107 t108 t109 w0 _ ?side1 ?side2 A4.out).mono ?_); (case side1 => repeat (first | (with_reducible first | exact HI0.out | apply IsS72.alloc | apply IsS72.drewN | apply IsS72.drew | apply IsS72.set_0 | apply IsS72.set_1) | exact HI0.out)); (case side2 => repeat (first | (with_reducible first | exact HB.out | apply below_alloc | apply pw_below_drewN | apply below_drew1 | refine below_set ?_ (IsS72.ge HI0.out)) | exact HB.out)); rintro e w5 ⟨rfl, hi, hb, hk⟩; refine ⟨_, rfl, ?_⟩; have n0_ := Aside0.mk (KeepBut.trans (by repeat (first | (with_reducible first | exact HK.out | apply KeepBut.set_ | apply keep_drewN | apply keep_drew | apply keep_alloc) | exact HK.out)) hk (.inl rfl)); have n1_ := Aside0.mk (hb); have n2_ := Aside0.mk (hi); clear HK; clear HB; clear HI0; have HK := n0_; have HB := n1_; have HI0 := n2_; clear n0_ n1_ n2_; (try clear hb); (try clear hb2); (try clear hk); (try clear hi)))
  go_ret
  exact ⟨by first | rfl | (simp [errW_none, errW_some] <;> rfl) | (simp [*, errW_none, errW_some] <;> rfl), by repeat (first | (with_reducible first | exact HI0.out | apply IsS72.alloc | apply IsS72.drewN | apply IsS72.drew | apply IsS72.set_0 | apply IsS72.set_1) | exact HI0.out), by repeat (first | (with_reducible first | exact HB.out | apply below_alloc | apply pw_below_drewN | apply below_drew1 | refine below_set ?_ (IsS72.ge HI0.out)) | exact HB.out), by repeat (first | (with_reducible first | exact HK.out | apply KeepBut.set_ | apply keep_drewN | apply keep_drew | apply keep_alloc) | exact HK.out)⟩
end Go.Proofs.Ytegjollhajgcdaa.P
namespace Go.Proofs.Ytegjollhajgcdaa.P.OwnUrn
open Go.RowKit Go.Proofs.YtegjollhajgcdaaW.PrintWords Go.Proofs.YtegjollhajgcdaaW.PrintLast Go.Proofs.YtegjollhajgcdaaW.PrintMore
def urnGo : List Int → Int → Int → Option (Int × Int)
  | [], a, b => some (a, b)
  | x :: xs, a, b => (cippuskit_Urn_turn.f a (IntKind.u64.wrap (b + IntKind.u64.wrap x))).bind fun t => (cippuskit_Urn_turn.f t.2.1 t.2.2).bind fun t2 => urnGo xs t2.2.1 t2.2.2
def newUrn (l : List Int) : Option (Int × Int) := if l.length < 4611686018427387904 then urnGo l 11400714819323198485 14029467366897019727 else none
def erredGo : Nat → List Int → Int → Int → Option (List Int × Int × Int)
  | 0, b, s0, s1 => some (b, s0, s1)
  | n + 1, b, s0, s1 => (cippuskit_Urn_Up.f s0 s1 (b.length : Int)).bind fun t => (cippuskit_Urn_Up.f t.2.1 t.2.2 3).bind fun u =>
    if 0 ≤ t.1 ∧ t.1 < (b.length : Int) then erredGo n (b.set t.1.toNat ((wrap64 (65 + u.1)) % 256)) u.2.1 u.2.2 else none
def erred (s0 s1 : Int) (a1 : ByteArray) (a2 : Int) : Option (ByteArray × Int × Int) :=
  if a1.size ≤ 9223372036854775807 ∧ a2 ≤ 9223372036854775807 then (erredGo a2.toNat (bytesOf a1) s0 s1).map fun r => (strOfNums r.1, r.2.1, r.2.2) else none
def stoneGo : Nat → Int → Int → ByteArray → Option (ByteArray × Int × Int)
  | 0, a, b, s => some (s, a, b)
  | n + 1, a, b, s => (cippuskit_Urn_Up.f a b 3).bind fun t => if s.size + 1 ≤ 9223372036854775807 then stoneGo n t.2.1 t.2.2 (s ++ strOfNums [(wrap64 (65 + t.1)) % 256]) else none
def copyGo : Nat → Int → ByteArray → List S24 → List Int → Int → Int → Option (List S24 × List Int × Int × Int)
  | 0, _, _, l, src, a, b => some (l, src, a, b)
  | n + 1, er, st, l, src, a, b => (cippuskit_Urn_From.f a b (-1) (wrap64 ((l.length : Int) - 1))).bind fun t => (cippuskit_Urn_Up.f t.2.1 t.2.2 (wrap64 (er + 1))).bind fun u =>
    (if t.1 < 0 then some (true, u.2.1, u.2.2) else cippuskit_Urn_Odds.f u.2.1 u.2.2 1 2).bind fun o =>
    (if 0 ≤ t.1 then (if t.1 < (l.length : Int) then some (rd_T24 l t.1).f0 else none) else some st).bind fun fr =>
    (erred o.2.1 o.2.2 fr u.1).bind fun e =>
    if l.length + 1 < 4398046511104 ∧ src.length + 1 < 17592186044416 then copyGo n er st (l ++ [⟨e.1, u.1, o.1⟩]) (src ++ [t.1]) e.2.1 e.2.2 else none
def copiesOf (s0 s1 copies places errors : Int) : Option (List S24 × ByteArray × List Int × Int × Int) :=
  (cippuskit_Urn_From.f s0 s1 1 places).bind fun t => (stoneGo t.1.toNat t.2.1 t.2.2 ⟨#[]⟩).bind fun s => (cippuskit_Urn_From.f s.2.1 s.2.2 1 copies).bind fun t =>
    (copyGo t.1.toNat errors s.1 [] [] t.2.1 t.2.2).map fun r => (r.1, s.1, r.2.1, r.2.2.1, r.2.2.2)
end Go.Proofs.Ytegjollhajgcdaa.P.OwnUrn
namespace Go.Proofs.Ytegjollhajgcdaa.P.OwnUrn
open Go.RowKit Go.Proofs.YtegjollhajgcdaaW.PrintWords Go.Proofs.YtegjollhajgcdaaW.PrintLast Go.Proofs.YtegjollhajgcdaaW.PrintMore
set_option linter.unusedVariables false
theorem below_of_keep {w0 w W W' : World} {g : Nat} (h0 : Below w0.heap.size w0 w) (h1 : Below w0.heap.size w0 W') (hw : Below w.heap.size w W) (hk : KeepBut W W' g none) (hg : w.heap.size ≤ g) : Below w.heap.size w W' :=
  ⟨h1.os.trans h0.os.symm, h1.tape.trans h0.tape.symm, h1.output.trans h0.output.symm, Nat.le_trans hw.size hk.1, fun k hk' => (hk.2 k (Nat.lt_of_lt_of_le hk' hw.size) (by omega) (by simp)).trans (hw.block k hk')⟩
def RelNew (w0 w : World) (l0 : List Int) (r1 r2 : Int) (k : Nat) (wr : World) : Prop :=
  ∃ a b : Int, IsS72 w0 wr w.heap.size a b ∧ Below w0.heap.size w0 wr ∧ Below w.heap.size w wr ∧ urnGo (l0.drop k) a b = some (r1, r2)
set_option maxHeartbeats 4000000 in
set_option maxRecDepth 100000 in
theorem newUrn_calls (A0 : Option Addr) (c0 : Nat) (l0 : List Int) (r1 : Int) (r2 : Int) (w0 w : World) (hB : Below w0.heap.size w0 w) (hr0 : Kd.C (Kd.int .i64) w0 A0 l0.length l0) (hc0 : l0.length ≤ c0) (h : newUrn l0 = some (r1, r2)) :
    Calls Try.prog 14 #[.slice A0 l0.length c0] w fun e w' => ∃ g_ : Nat, e = .returned (.pointer (some ⟨g_, 0, none⟩)) ∧ IsS72 w0 w' g_ r1 r2 ∧ Below w0.heap.size w0 w' ∧ Below w.heap.size w w' := by
  have hlen : l0.length < 4611686018427387904 := by
    unfold newUrn at h
    split at h
    · assumption
    · cases h
  rw [newUrn, if_pos hlen] at h
  have H := Lib.hid h; clear h
  have HB := Aside0.mk hB; clear hB
  have HR := Aside0.mk hr0; clear hr0
  go_enter Try.func14, Try.ntmps14
  go_wp2
  go_loopw [4] (fun v wr => ∃ k : Nat, v = .int .i64 k ∧ k ≤ l0.length ∧ RelNew w0 w l0 r1 r2 k wr) (fun v _ => l0.length - (intOf v).toNat)
  case atStart =>
    refine ⟨0, rfl, Nat.zero_le _, _, _, IsS72.new w0 w _ _ HB.out, ?_, ?_, H.out⟩
    · exact HB.out.alloc HB.out.size _
    · exact (Below.refl _ _).alloc (Nat.le_refl _) _
  case round =>
    obtain ⟨k, rfl, hk, a, b, hI, hb0, hb1, hg⟩ := hrel
    by_cases hlt : k < l0.length
    · obtain ⟨ad, e, hx⟩ := Kd.at_int HR.out (k : Int) (by omega) (by omega)
      subst e
      simp only [Int.toNat_natCast] at hx
      replace hx := (hb0.cell (World.block_lt_of_cell? w0 _ hx)).trans hx
      obtain ⟨HG, hg0⟩ := id hI
      have hc0 := cellS72_0 HG
      have hc1 := cellS72_1 HG
      have hf0 := blk_frozen HG 0
      have hf1 := blk_frozen HG 1
      have hlt' : (k : Int) < (l0.length : Int) := by omega
      have hd : l0.drop k = rd l0 k :: l0.drop (k + 1) := by rw [List.drop_eq_getElem_cons hlt]; simp [rd, List.getD_eq_getElem?_getD, hlt]
      rw [hd, urnGo, Option.bind_eq_some_iff] at hg
      obtain ⟨⟨t1, t2, t3⟩, ht, hg⟩ := hg
      rw [Option.bind_eq_some_iff] at hg
      obtain ⟨⟨u1, u2, u3⟩, hu, hg⟩ := hg
      dsimp only at hu hg
      have HT := Aside0.mk ht; clear ht
      have HU := Aside0.mk hu; clear hu
      have HG2 := Aside0.mk hg; clear hg hd
      go_wp2_with fail
      go_region
      go_wp2_with fail
      refine (cippuskit_Urn_turn.calls _ _ _ _ _ _ w0 _ ((hI.set_1 _).drew) (below_drew (below_set hb0 hg0)) HT.out).mono ?_
      rintro e w1 ⟨rfl, hI1, hB1, hK1⟩
      go_wp2_with fail
      refine (cippuskit_Urn_turn.calls _ _ _ _ _ _ w0 _ hI1 hB1 HU.out).mono ?_
      rintro e w2 ⟨rfl, hI2, hB2, hK2⟩
      go_wp2_with fail
      go_roundw
      case rel =>
        refine ⟨k + 1, by go_num, by omega, _, _, hI2, hB2, ?_, HG2.out⟩
        exact below_of_keep HB.out hB2 (below_of_keep HB.out hB1 (below_drew (below_set hb1 (Nat.le_refl _))) hK1 (Nat.le_refl _)) hK2 (Nat.le_refl _)
      case measure => simp [intOf]; omega
    · go_wp2
      go_ret
      refine ⟨_, rfl, ?_, hb0, hb1⟩
      rw [List.drop_of_length_le (by omega)] at hg
      simp only [urnGo, Option.some.injEq, Prod.mk.injEq] at hg
      obtain ⟨rfl, rfl⟩ := hg
      exact hI
def Buf (W : World) (gb : Nat) (xs : List Int) : Prop := (∀ i, i < xs.length → W.cell? ⟨gb, i, none⟩ = some (.int .u8 (rd xs i)) ∧ W.frozen? ⟨gb, i, none⟩ = false) ∧ gb < W.heap.size
theorem Buf.keep {W W' : World} {gb : Nat} {xs : List Int} (h : Buf W gb xs) (hb : W'.heap[gb]? = W.heap[gb]?) (hs : W.heap.size ≤ W'.heap.size) : Buf W' gb xs :=
  ⟨fun i hi => ⟨(World.cell?_of_block (a := ⟨gb, i, none⟩) hb).trans (h.1 i hi).1, (World.frozen?_of_block (a := ⟨gb, i, none⟩) hb).trans (h.1 i hi).2⟩, Nat.lt_of_lt_of_le h.2 hs⟩
theorem Buf.set {W : World} {gb : Nat} {xs : List Int} (h : Buf W gb xs) (i : Nat) (hi : i < xs.length) (x : Int) : Buf (W.setCell ⟨gb, i, none⟩ (.int .u8 x)) gb (xs.set i x) := by
  refine ⟨fun j hj => ?_, by simpa using h.2⟩
  rw [List.length_set] at hj
  refine ⟨?_, by rw [World.frozen?_setCell]; exact (h.1 j hj).2⟩
  by_cases e : j = i
  · subst e
    rw [World.cell?_setCell_same' _ _ _ (by rw [(h.1 j hj).1]; rfl)]
    simp [rd, List.getD_eq_getElem?_getD, hj]
  · rw [World.cell?_setCell_other W _ (a := ⟨gb, i, none⟩) (b := ⟨gb, j, none⟩) (fun e_ => e (by injection e_ with _ h2; exact h2.symm)), (h.1 j hj).1]
    simp [rd, List.getD_eq_getElem?_getD, List.getElem?_set, Ne.symm e]
theorem Buf.reads {W : World} {gb : Nat} {xs : List Int} (h : Buf W gb xs) (hm : xs.length ≤ 9223372036854775807) : ReadsInt W .u8 (some ⟨gb, 0, none⟩) xs.length xs :=
  ⟨rfl, hm, fun _ => ⟨_, rfl, fun j hj => by
    have := (h.1 j hj).1
    rw [add_plain]
    rw [this]
    simp [rd, List.getD_eq_getElem?_getD]⟩⟩
theorem Buf.new (W : World) (s : ByteArray) : Buf (Lib.bytesWorld W 5 s) W.heap.size (bytesOf s) := by
  refine ⟨fun i hi => ?_, by rw [Lib.bytesWorld_size]; omega⟩
  rw [bytesOf_length] at hi
  refine ⟨?_, ?_⟩
  · rw [Lib.bytesWorld_cell _ _ _ _ hi]
    simp [rd, bytesOf, List.getD_eq_getElem?_getD, hi]
  · unfold World.frozen?
    rw [Lib.bytesWorld_at_new]
    have hz : s.size ≤ (Lib.bytesCells W 5 s).size := by
      unfold Lib.bytesCells; rw [Array.size_append, Array.size_map]; exact Nat.le_add_right _ _
    simp
    omega
def RelErr (w0 w : World) (g : Nat) (n m : Nat) (L : List Int) (r2 r3 : Int) (k : Nat) (wr : World) : Prop :=
  ∃ (xs : List Int) (a b : Int), IsS72 w0 wr g a b ∧ Below w0.heap.size w0 wr ∧ KeepBut w wr g none ∧ Buf wr w.heap.size xs ∧ xs.length = m ∧ erredGo (n - k) xs a b = some (L, r2, r3)
set_option maxHeartbeats 4000000 in
set_option maxRecDepth 100000 in
theorem erred_calls (g : Nat) (s0_0 : Int) (s0_1 : Int) (a1 : ByteArray) (a2 : Int) (r1 : ByteArray) (r2 : Int) (r3 : Int) (w0 w : World) (hI : IsS72 w0 w g s0_0 s0_1) (hB : Below w0.heap.size w0 w) (h : erred s0_0 s0_1 a1 a2 = some (r1, r2, r3)) :
    Calls Try.prog 45 #[.pointer (some ⟨g, 0, none⟩), .string a1, .int .i64 a2] w fun e w' => e = .returned (.string r1) ∧ IsS72 w0 w' g r2 r3 ∧ Below w0.heap.size w0 w' ∧ KeepBut w w' g none := by
  unfold erred at h
  split at h
  case isFalse => cases h
  case isTrue hsz =>
  obtain ⟨hs1, hs2⟩ := hsz
  rw [Option.map_eq_some_iff] at h
  obtain ⟨⟨L, p, q⟩, he, hr⟩ := h
  simp only [Prod.mk.injEq] at hr
  obtain ⟨rfl, rfl, rfl⟩ := hr
  have HE := Lib.hid he; clear he
  have HI := Aside0.mk hI
  have HB := Aside0.mk hB
  have hgw : g < w.heap.size := hI.lt
  clear hI hB
  have kc := fun W => print_bytes (P := Try.prog) 9 61 5 Try.underlying9 Try.underlying61 Try.underlying5 a1 W
  go_enter Try.func45, Try.ntmps45
  go_wp2
  clear kc
  go_loopw [8] (fun v wr => ∃ k : Nat, v = .int .i64 k ∧ (k : Int) ≤ max a2 0 ∧ RelErr w0 w g a2.toNat a1.size L p q k wr) (fun v _ => a2.toNat - (intOf v).toNat)
  case atStart =>
    refine ⟨0, rfl, by omega, bytesOf a1, s0_0, s0_1, ?_, ?_, ?_, Buf.new w a1, bytesOf_length _, HE.out⟩
    · exact ⟨(Lib.bytesWorld_at_old w 5 a1 g hgw).trans HI.out.1, HI.out.2⟩
    · exact bytes_below HB.out HB.out.size _ _
    · exact ⟨by rw [Lib.bytesWorld_size]; omega, fun i hi _ _ => Lib.bytesWorld_at_old w 5 a1 i hi⟩
  case round =>
    obtain ⟨k, rfl, hk, xs, a, b, hI, hb0, hK, hbuf, hxl, hg⟩ := hrel
    have HI2 := Aside0.mk hI
    have HB2 := Aside0.mk hb0
    have HK := Aside0.mk hK
    have HBuf := Aside0.mk hbuf
    have HG := Aside0.mk hg
    clear hI hb0 hK hbuf hg
    by_cases hlt : (k : Int) < a2
    · obtain ⟨n, hn⟩ : ∃ n, a2.toNat - k = n + 1 := ⟨a2.toNat - k - 1, by omega⟩
      have hg := HG.out
      rw [hn, erredGo, Option.bind_eq_some_iff] at hg
      obtain ⟨⟨t1, t2, t3⟩, ht, hg⟩ := hg
      rw [Option.bind_eq_some_iff] at hg
      obtain ⟨⟨u1, u2, u3⟩, hu, hg⟩ := hg
      dsimp only at hu hg
      split at hg
      case isFalse => cases hg
      case isTrue hix =>
      obtain ⟨hi0, hi1⟩ := hix
      obtain ⟨j, rfl⟩ := Int.eq_ofNat_of_zero_le hi0
      simp only [Int.toNat_natCast] at hg
      rw [hxl] at ht
      have HT := Aside0.mk ht; clear ht
      have HU := Aside0.mk hu; clear hu
      have hn' : n = a2.toNat - (k + 1) := by omega
      subst hn'
      have HG2 := Aside0.mk hg; clear hg hn
      go_wp2_with fail
      refine (cippuskit_Urn_Up.calls _ _ _ _ _ _ _ w0 _ HI2.out HB2.out HT.out).mono ?_
      rintro e w1 ⟨rfl, hI1, hB1, hK1⟩
      go_wp2_with fail
      refine (cippuskit_Urn_Up.calls _ _ _ _ _ _ _ w0 _ hI1 hB1 HU.out).mono ?_
      rintro e w2 ⟨rfl, hI2, hB2, hK2⟩
      have hbuf2 : Buf w2 w.heap.size xs := (HBuf.out.keep (hK1.2 _ HBuf.out.2 (by omega) (by simp)) hK1.1).keep (hK2.2 _ (Nat.lt_of_lt_of_le HBuf.out.2 hK1.1) (by omega) (by simp)) hK2.1
      have hj : j < xs.length := by omega
      obtain ⟨hcj, hfj⟩ := hbuf2.1 j hj
      have hj2 : (j : Int) < (a1.size : Int) := by omega
      have HBuf2 := Aside0.mk hbuf2
      have HIa := Aside0.mk hI2
      have HBa := Aside0.mk hB2
      have HKa := Aside0.mk hK2
      have HKb := Aside0.mk hK1
      clear hbuf2 hI2 hB2 hK2 hK1 hI1 hB1
      go_wp2_with fail
      go_roundw
      case rel =>
        refine ⟨k + 1, by go_num, by omega, xs.set j _, u2, u3, ?_, ?_, ?_, HBuf2.out.set j hj _, by rw [List.length_set]; exact hxl, HG2.out⟩
        · exact HIa.out.far (by simp; omega) _
        · exact HBa.out.setCell (Nat.le_trans HB.out.size (by simp)) _
        · exact keep_far (((HK.out).trans HKb.out (.inl rfl)).trans HKa.out (.inl rfl)) (by simp) _
      case measure => simp [intOf]; omega
    · have hk0 : a2.toNat - k = 0 := by omega
      have hg := HG.out
      rw [hk0, erredGo] at hg
      simp only [Option.some.injEq, Prod.mk.injEq] at hg
      obtain ⟨rfl, rfl, rfl⟩ := hg
      have kc := string_of_reads (src := 61) (dst := 9) (c := grownCap w a1.size 0 5) Try.underlying61 Try.underlying5 Try.underlying9 (HBuf.out.reads (by omega))
      rw [hxl] at kc
      go_wp2
      go_ret
      exact ⟨rfl, HI2.out, HB2.out, HK.out⟩
end Go.Proofs.Ytegjollhajgcdaa.P.OwnUrn
namespace Go.Proofs.Ytegjollhajgcdaa.OLies
open Go.RowKit Go.Proofs.YtegjollhajgcdaaW.PrintWords Go.Proofs.YtegjollhajgcdaaW.PrintLast Go.Proofs.YtegjollhajgcdaaW.PrintMore
section
variable {P : Program} {ops : Array Oper} {o : Oper} {a : Act} {Q : Exit → Act → World → Prop} {Kc : Act → World → Prop} {α : Type}
theorem R_append_lies (d : Kd α) {w0 W : World} (base : Nat) (s x : Operand) (t e : TypeId) (z : Value) (bytes : Nat)
    (ho : o.op = .call { callee := .builtin .append, args := #[s, x], argTypes := #[t, t] })
    (ht : P.underlying t = some (.slice e)) (hinfo : (P.info? e).map (fun i => (i.zero, i.size, i.bytes)) = some (some z, d.sz, bytes)) (hz : z.cells.size = d.sz) (hs0 : 0 < d.sz) (hb0 : 0 < bytes)
    (v : Value) (xs : List α) (p : α) (cs : List Value) (ok okp : Nat → Prop) (B : Nat) (fr : Nat × Nat) (hs : a.eval s = v) (hx : a.eval x = .slice (some ⟨B, 0, none⟩) 1 1) (hblk : W.heap[B]? = some (.cells cs.toArray e fr))
    (hp : d.M W base okp p cs) (hokp : ∀ k, okp k → ok k ∧ some k ≠ v.ownBlock) (hfresh : ∀ k, W.heap.size ≤ k → ok k)
    (HO : d.R e W base ok v xs) (HB : Below base w0 W) (hbase : base ≤ W.heap.size) (hl : (xs.length + 1) * bytes ≤ 140737488355328)
    (h : ∀ v1 w1, d.R e w1 base ok v1 (xs ++ [p]) → Below base w0 w1 → W.grownBy w1 v.ownBlock → (v1.ownBlock = v.ownBlock ∨ ∃ b, v1.ownBlock = some b ∧ W.heap.size ≤ b) → Kc (a.put o.dst v1) w1) :
    Oper.wp P o a W Kc Q := by
  obtain ⟨h0, inner, hown, hr⟩ := HO
  obtain ⟨i0, hi, hzz⟩ := Option.map_eq_some_iff.1 hinfo
  simp only [Prod.mk.injEq] at hzz
  obtain ⟨hz0, hz1, hz2⟩ := hzz
  have hlen : xs.length + 1 ≤ 140737488355328 := Nat.le_trans (Nat.le_mul_of_pos_right _ hb0) hl
  have hcl := d.K_len (d.K_of_M hp)
  refine wp_append_lies W s x t ho base e i0 z d.sz bytes ht hi hz0 hz1 hz2 hz hs0 v xs.length inner hs hown ⟨B, 0, none⟩ 1 1 cs hx (by rw [hcl]; simp)
    (by simpa using World.news_of_block (cs := cs.toArray) hblk) (d.K_one (d.K_of_M hp)) (by decide) (by simp only [maxLen]; omega) hl hbase _ rfl ?_
  intro g cap w1 hown1 hg1 hat1 hlt
  have hat : (Value.slice (some ⟨g, 0, none⟩) (xs.length + 1) cap).ownBlock = v.ownBlock ∨ ∃ b, (Value.slice (some ⟨g, 0, none⟩) (xs.length + 1) cap).ownBlock = some b ∧ W.heap.size ≤ b := by
    rcases hat1 with hat1 | hat1
    · exact .inl (by rw [hat1]; rfl)
    · exact .inr ⟨g, rfl, by omega⟩
  exact h _ _ (Kd.R_appended h0 hr hp hokp hfresh hown1 hg1 hat) (HB.grown hg1 hbase (own_base hown)) hg1 hat
theorem R_append_lies_step (d : Kd α) {w0 W : World} {E : Prop} (base : Nat) (hgd : o.guard = none) (s x : Operand) (t e : TypeId) (z : Value) (bytes : Nat)
    (ho : o.op = .call { callee := .builtin .append, args := #[s, x], argTypes := #[t, t] })
    (ht : P.underlying t = some (.slice e)) (hinfo : (P.info? e).map (fun i => (i.zero, i.size, i.bytes)) = some (some z, d.sz, bytes)) (hz : z.cells.size = d.sz) (hs0 : 0 < d.sz) (hb0 : 0 < bytes)
    (v : Value) (xs : List α) (p : α) (cs : List Value) (ok okp : Nat → Prop) (B : Nat) (fr : Nat × Nat) (hs : a.eval s = v) (hx : a.eval x = .slice (some ⟨B, 0, none⟩) 1 1) (hblk : W.heap[B]? = some (.cells cs.toArray e fr))
    (hp : d.M W base okp p cs) (hokp : ∀ k, okp k → ok k ∧ some k ≠ v.ownBlock) (hfresh : ∀ k, W.heap.size ≤ k → ok k)
    (HO : d.R e W base ok v xs) (HB : Below base w0 W) (hbase : base ≤ W.heap.size) (hl : (xs.length + 1) * bytes ≤ 140737488355328)
    (h : ∀ v1 w1, d.R e w1 base ok v1 (xs ++ [p]) → Below base w0 w1 → W.grownBy w1 v.ownBlock → (v1.ownBlock = v.ownBlock ∨ ∃ b, v1.ownBlock = some b ∧ W.heap.size ≤ b) → Kc (a.put o.dst v1) w1) :
    if Region.wanted o (yielded ops a.tmps) = true then Oper.wp P o a W Kc Q else E := by
  have hw : Region.wanted o (yielded ops a.tmps) = true := by simp [Region.wanted, hgd]
  rw [if_pos hw]
  exact R_append_lies d base s x t e z bytes ho ht hinfo hz hs0 hb0 v xs p cs ok okp B fr hs hx hblk hp hokp hfresh HO HB hbase hl h
end
end Go.Proofs.Ytegjollhajgcdaa.OLies
namespace Go.Proofs.Ytegjollhajgcdaa.P.OwnUrn
open Go.RowKit Go.Proofs.YtegjollhajgcdaaW.PrintWords Go.Proofs.YtegjollhajgcdaaW.PrintLast Go.Proofs.YtegjollhajgcdaaW.PrintMore
set_option linter.unusedVariables false
def Mades (W : World) (b : Nat) (s : ByteArray) (v : Value) : Prop :=
  W.heap[b]? = some (.cells #[.string ⟨#[]⟩, .slice none 0 0] 27 (0, 0)) ∧ W.heap[b + 1]? = some (.cells #[.string s, v] 27 (0, 0))
theorem keep_mades {w W W' : World} {g : Nat} {s : ByteArray} {v : Value} (hs : w.heap.size ≤ W.heap.size) (h : Mades W w.heap.size s v) (hg : g < w.heap.size) (hk : KeepBut W W' g none) : Mades W' w.heap.size s v :=
  ⟨hk.blk h.1 (by omega) (by simp), hk.blk h.2 (by omega) (by simp)⟩
theorem mades_cell {W : World} {b : Nat} {s : ByteArray} {v : Value} (h : Mades W b s v) : W.cell? ⟨b + 1, 0, none⟩ = some (.string s) := (blk_cell h.2 0).trans rfl
theorem mades_cell1 {W : World} {b : Nat} {s : ByteArray} {v : Value} (h : Mades W b s v) : W.cell? ⟨b + 1, 1, none⟩ = some v := (blk_cell h.2 1).trans rfl
theorem mades_frozen {W : World} {b : Nat} {s : ByteArray} {v : Value} (h : Mades W b s v) : W.frozen? ⟨b + 1, 0, none⟩ = false := blk_frozen h.2 0
theorem mades_frozen1 {W : World} {b : Nat} {s : ByteArray} {v : Value} (h : Mades W b s v) : W.frozen? ⟨b + 1, 1, none⟩ = false := blk_frozen h.2 1
theorem set_mades {W : World} {b : Nat} {s : ByteArray} {v : Value} (h : Mades W b s v) (s' : ByteArray) (o : Obj) : Mades ((W.setCell ⟨b + 1, 0, none⟩ (.string s')).alloc o) b s' v :=
  ⟨blk_alloc (blk_far h.1 (by simp) _) o, blk_alloc (by simpa using blk_set h.2 0 (.string s')) o⟩
theorem from_le {a b c d n p q : Int} (h : cippuskit_Urn_From.f a b c d = some (n, p, q)) : n ≤ 9223372036854775807 := by
  unfold cippuskit_Urn_From.f at h
  rw [Option.bind_eq_some_iff] at h
  obtain ⟨z, _, h⟩ := h
  simp only [Option.some.injEq, Prod.mk.injEq] at h
  rw [← h.1]
  unfold wrap64
  omega
theorem conv_one (W : World) (x : Int) : (Go.convert 61 9 (.slice (some ⟨W.heap.size, 0, none⟩) 1 1)).run Try.prog (W.alloc (.cells #[.int .u8 x] 5)) = .ok (.string (strOfNums [x])) (W.alloc (.cells #[.int .u8 x] 5)) := by
  refine string_of_reads (e := 5) Try.underlying61 Try.underlying5 Try.underlying9 ⟨rfl, by decide, fun _ => ⟨_, rfl, fun j hj => ?_⟩⟩
  obtain rfl : j = 0 := by omega
  rw [add_plain]
  exact (blk_cell (blk_new W _) 0).trans rfl
def RelStone (w0 w : World) (g : Nat) (st : ByteArray) (r4 r5 : Int) (n : Nat) (wr : World) : Prop :=
  ∃ (s : ByteArray) (a b : Int), IsS72 w0 wr g a b ∧ Below w0.heap.size w0 wr ∧ KeepBut w wr g none ∧ Mades wr w.heap.size s (.slice none 0 0) ∧ stoneGo n a b s = some (st, r4, r5)
structure F16 (w0 w : World) (g bx : Nat) (x : S24) (s : ByteArray) (vL v : Value) (L : List S24) (S : List Int) (a b : Int) (W : World) : Prop where
  hI : IsS72 w0 W g a b
  hB : Below w0.heap.size w0 W
  hK : KeepBut w W g none
  hM : Mades W w.heap.size s v
  hbx : W.heap[bx]? = some (.cells #[.string x.f0, .int .i64 x.f1, .bool x.f2] 24 (0, 0))
  hL : Kd.R k24 24 W w.heap.size (fun _ => True) vL L
  hS : Kd.R (Kd.int .i64) 3 W w.heap.size (fun _ => True) v S
  hge : w.heap.size ≤ bx
  hne : some bx ≠ vL.ownBlock
theorem R_keepg {α : Type} {d : Kd α} {e base g : Nat} {v : Value} {xs : List α} {W W' w0 : World} {a b : Int} (h : d.R e W base (fun _ => True) v xs) (hI : IsS72 w0 W g a b) (ht : ∀ q, q ∈ e :: d.E → q ≠ 72) (hk : ∀ k, k < W.heap.size → k ≠ g → W'.heap[k]? = W.heap[k]?) : d.R e W' base (fun _ => True) v xs :=
  Kd.R_mono (Kd.R_step (Kd.R_types h hI.1 ht) (fun k ok hlt => hk k hlt ok.2)) (fun _ _ => trivial)
theorem f16_mk {w0 w wr w6 w7 : World} {g : Nat} {x : S24} {s : ByteArray} {vL v : Value} {L : List S24} {S : List Int} {a b a' b' : Int} (hgw : g < w.heap.size) (hB0 : Below w0.heap.size w0 w)
    (hI : IsS72 w0 wr g a b) (hK : KeepBut w wr g none) (hM : Mades wr w.heap.size s v) (hL : Kd.R k24 24 wr w.heap.size (fun _ => True) vL L) (hS : Kd.R (Kd.int .i64) 3 wr w.heap.size (fun _ => True) v S)
    (h6 : KeepBut wr w6 g none) (h7 : KeepBut (w6.alloc (.cells #[.string ⟨#[]⟩, .int .i64 x.f1, .bool x.f2] 24)) w7 g none) (hI7 : IsS72 w0 w7 g a' b') (hB7 : Below w0.heap.size w0 w7) :
    F16 w0 w g w6.heap.size x s vL v L S a' b' (w7.setCell ⟨w6.heap.size, 0, none⟩ (.string x.f0)) := by
  have hgl : g < wr.heap.size := hI.lt
  have hs6 := h6.1
  have hs7 := h7.1
  simp only [World.size_alloc] at hs7
  have hs0 := hK.1
  have hkeep : ∀ k, k < wr.heap.size → k ≠ g → (w7.setCell ⟨w6.heap.size, 0, none⟩ (.string x.f0)).heap[k]? = wr.heap[k]? := fun k hk hkg => by
    rw [Below.heap_setCell w7 _ _ k (by show k ≠ w6.heap.size; omega), h7.2 k (by simp only [World.size_alloc]; omega) hkg (by simp), Below.heap_alloc w6 _ k (by omega), h6.2 k hk hkg (by simp)]
  have hbx : w7.heap[w6.heap.size]? = some (.cells #[.string ⟨#[]⟩, .int .i64 x.f1, .bool x.f2] 24 (0, 0)) := h7.blk (blk_new w6 _) (by omega) (by simp)
  refine ⟨hI7.far (by show g ≠ w6.heap.size; omega) _, hB7.setCell (by show _ ≤ w6.heap.size; have := hB0.size; omega) _, ?_, ⟨(hkeep _ (blk_lt hM.1) (by omega)).trans hM.1, (hkeep _ (blk_lt hM.2) (by omega)).trans hM.2⟩, by simpa using blk_set hbx 0 (.string x.f0), R_keepg hL hI (by decide) hkeep, R_keepg hS hI (by decide) hkeep, by omega, fun e_ => by
    obtain ⟨_, h2⟩ := Kd.R_typed hL _ e_.symm
    have := blk_lt h2
    omega⟩
  exact ⟨by simp; omega, fun k hk hkg _ => (hkeep k (by omega) hkg).trans (hK.2 k hk hkg (by simp))⟩
structure F17 (w0 w : World) (g : Nat) (s : ByteArray) (vL v : Value) (L : List S24) (S : List Int) (a b : Int) (W : World) : Prop where
  hI : IsS72 w0 W g a b
  hB : Below w0.heap.size w0 W
  hK : KeepBut w W g none
  hM : Mades W w.heap.size s v
  hL : Kd.R k24 24 W w.heap.size (fun _ => True) vL L
  hS : Kd.R (Kd.int .i64) 3 W w.heap.size (fun _ => True) v S
theorem f17_mk {w0 w W wB : World} {g bx : Nat} {x : S24} {s : ByteArray} {vL v vA vB : Value} {L : List S24} {S : List Int} {a b t : Int} (hgw : g < w.heap.size) (hw : Below w0.heap.size w0 w)
    (hF : F16 w0 w g bx x s vL v L S a b W) (hBB : Below w.heap.size W wB) (hMB : Mades wB w.heap.size s v) (hLB : Kd.R k24 24 wB w.heap.size (fun _ => True) vA (L ++ [x])) (hSB : Kd.R (Kd.int .i64) 3 wB w.heap.size (fun _ => True) vB (S ++ [t])) :
    F17 w0 w g s vA vB (L ++ [x]) (S ++ [t]) a b (wB.setCell ⟨w.heap.size + 1, 1, none⟩ vB) := by
  have hkeep : ∀ k, k ≠ w.heap.size + 1 → (wB.setCell ⟨w.heap.size + 1, 1, none⟩ vB).heap[k]? = wB.heap[k]? := fun k hk => Below.heap_setCell wB _ _ k hk
  have hI : IsS72 w0 wB g a b := ⟨(hBB.block g hgw).trans hF.hI.1, hF.hI.2⟩
  have hB : Below w0.heap.size w0 wB := hF.hB.trans (hBB.mono hw.size)
  refine ⟨hI.far (by show g ≠ w.heap.size + 1; omega) _, hB.setCell (by show _ ≤ w.heap.size + 1; have := hw.size; omega) _, ?_, ⟨(hkeep _ (by omega)).trans hMB.1, ?_⟩, ?_, ?_⟩
  · refine keep_far ?_ (by show w.heap.size ≤ w.heap.size + 1; omega) _
    exact ⟨Nat.le_trans hF.hK.1 hBB.size, fun k hk hkg _ => (hBB.block k hk).trans (hF.hK.2 k hk hkg (by simp))⟩
  · simpa using blk_set hMB.2 1 vB
  · exact Kd.R_mono (Kd.R_step (Kd.R_types hLB hMB.2 (by decide)) (fun k ok _ => hkeep k ok.2)) (fun _ _ => trivial)
  · exact Kd.R_mono (Kd.R_step (Kd.R_types hSB hMB.2 (by decide)) (fun k ok _ => hkeep k ok.2)) (fun _ _ => trivial)
theorem blk_new2 (W : World) (o1 o2 : Obj) : ((W.alloc o1).alloc o2).heap[W.heap.size + 1]? = some o2 := by
  have := blk_new (W.alloc o1) o2
  rwa [World.size_alloc] at this
theorem keepA {W wA : World} {row : Option Nat} (hg : W.grownBy wA row) : ∀ (k : Nat) (o : Obj), W.heap[k]? = some o → some k ≠ row → wA.heap[k]? = some o := fun _ _ h1 h2 => blk_grown h1 hg h2
theorem across_mades {W w1 : World} {b : Nat} {s : ByteArray} {v vR : Value} {α : Type} {d : Kd α} {e base : Nat} {ok : Nat → Prop} {xs : List α} (hM : Mades W b s v) (hR : d.R e W base ok vR xs) (hg : W.grownBy w1 vR.ownBlock) (he : e ≠ 27) : Mades w1 b s v :=
  ⟨blk_grown hM.1 hg (Kd.R_ne hR hM.1 he), blk_grown hM.2 hg (Kd.R_ne hR hM.2 he)⟩
theorem across_R {W w1 : World} {vR v : Value} {α β : Type} {d : Kd α} {d' : Kd β} {e e' base : Nat} {xs : List α} {ys : List β} (h : d.R e W base (fun _ => True) v xs) (hR : d'.R e' W base (fun _ => True) vR ys) (hg : W.grownBy w1 vR.ownBlock) (he : ∀ q, q ∈ e :: d.E → q ≠ e') : d.R e w1 base (fun _ => True) v xs :=
  Kd.R_mono (Kd.R_grown (Kd.R_apart' h (Kd.R_typed hR) he) hg (fun k ok => ok.2)) (fun _ _ => trivial)
def RelCopy (w0 w : World) (g : Nat) (er : Int) (st : ByteArray) (z1 : List S24) (z2 : List Int) (z3 z4 : Int) (n : Nat) (v12 : Value) (wr : World) : Prop :=
  ∃ (L : List S24) (S : List Int) (a b : Int) (v : Value), IsS72 w0 wr g a b ∧ Below w0.heap.size w0 wr ∧ KeepBut w wr g none ∧ Mades wr w.heap.size st v ∧ Kd.R k24 24 wr w.heap.size (fun _ => True) v12 L ∧ Kd.R (Kd.int .i64) 3 wr w.heap.size (fun _ => True) v S ∧ copyGo n er st L S a b = some (z1, z2, z3, z4)
set_option maxHeartbeats 4000000 in
set_option maxRecDepth 100000 in
theorem copiesOf_calls (g : Nat) (s0_0 : Int) (s0_1 : Int) (a1 : Int) (a2 : Int) (a3 : Int) (r1 : List (S24)) (r2 : ByteArray) (r3 : List Int) (r4 : Int) (r5 : Int) (w0 w : World) (hI : IsS72 w0 w g s0_0 s0_1) (hB : Below w0.heap.size w0 w) (h : copiesOf s0_0 s0_1 a1 a2 a3 = some (r1, r2, r3, r4, r5)) :
    Calls Try.prog 13 #[.pointer (some ⟨g, 0, none⟩), .int .i64 a1, .int .i64 a2, .int .i64 a3] w fun e w' => ∃ v0_ v2_ : Value, e = .returned (.tuple #[v0_, .agg #[.string r2, v2_]]) ∧ Kd.R k24 24 w' w.heap.size (fun _ => True) v0_ r1 ∧ Kd.R (Kd.int .i64) 3 w' w.heap.size (fun _ => True) v2_ r3 ∧ IsS72 w0 w' g r4 r5 ∧ Below w0.heap.size w0 w' ∧ KeepBut w w' g none := by
  unfold copiesOf at h
  rw [Option.bind_eq_some_iff] at h
  obtain ⟨⟨n1, p1, q1⟩, h1, h⟩ := h
  rw [Option.bind_eq_some_iff] at h
  obtain ⟨⟨st, p2, q2⟩, h2, h⟩ := h
  rw [Option.bind_eq_some_iff] at h
  obtain ⟨⟨n3, p3, q3⟩, h3, h⟩ := h
  rw [Option.map_eq_some_iff] at h
  obtain ⟨⟨z1, z2, z3, z4⟩, h4, hr⟩ := h
  dsimp only at h2 h3 h4 hr
  simp only [Prod.mk.injEq] at hr
  obtain ⟨rfl, rfl, rfl, rfl, rfl⟩ := hr
  have H1 := Aside0.mk h1; have H2 := Aside0.mk h2; have H3 := Aside0.mk h3; have H4 := Aside0.mk h4
  clear h1 h2 h3 h4
  have HI := Aside0.mk hI
  have HB := Aside0.mk hB
  have hgw : g < w.heap.size := hI.lt
  clear hI hB
  go_enter Try.func13, Try.ntmps13
  go_wp2_with fail
  refine (cippuskit_Urn_From.calls _ _ _ _ _ _ _ _ w0 _ ((HI.out.alloc _).alloc _) (below_alloc (below_alloc HB.out _) _) H1.out).mono ?_
  rintro e w1 ⟨rfl, hI1, hB1, hK1⟩
  have hM : Mades w1 w.heap.size ⟨#[]⟩ (.slice none 0 0) := by
    refine ⟨hK1.blk (blk_alloc (blk_new w _) _) (by omega) (by simp), hK1.blk ?_ (by omega) (by simp)⟩
    have := blk_new (w.alloc (.cells #[.string ⟨#[]⟩, .slice none 0 0] 27)) (.cells #[.string ⟨#[]⟩, .slice none 0 0] 27)
    simpa using this
  have hK0 : KeepBut w w1 g none := (keep_alloc (keep_alloc (KeepBut.refl w g none) _) _).trans hK1 (.inl rfl)
  have HI1 := Aside0.mk hI1; have HB1 := Aside0.mk hB1; have HM := Aside0.mk hM; have HK := Aside0.mk hK0
  clear hI1 hB1 hM hK0 hK1
  go_wp2_with fail
  go_loopw [11] (fun v wr => ∃ i : Int, v = .int .i64 i ∧ i ≤ 9223372036854775807 ∧ RelStone w0 w g st p2 q2 i.toNat wr) (fun v _ => (intOf v).toNat)
  case atStart => exact ⟨n1, rfl, from_le H1.out, _, _, _, HI1.out, HB1.out, HK.out, HM.out, H2.out⟩
  case round =>
    obtain ⟨i, rfl, hi, s, a, b, hI, hb0, hK, hM, hs⟩ := hrel
    by_cases hlt : 0 < i
    · obtain ⟨n, hn⟩ : ∃ n, i.toNat = n + 1 := ⟨i.toNat - 1, by omega⟩
      rw [hn, stoneGo, Option.bind_eq_some_iff] at hs
      obtain ⟨⟨t1, t2, t3⟩, ht, hs⟩ := hs
      dsimp only at hs
      split at hs
      case isFalse => cases hs
      case isTrue hz =>
      have HT := Aside0.mk ht; have HS := Aside0.mk hs; have HM2 := Aside0.mk hM; have HI2 := Aside0.mk hI; have HB2 := Aside0.mk hb0; have HK2 := Aside0.mk hK
      have hc := mades_cell hM
      have hf := mades_frozen hM
      clear ht hs hM hI hb0 hK
      go_wp2_with fail
      have kc := conv_one
      have kz : ∀ x : Int, (strOfNums [x]).size = 1 := fun _ => rfl
      have kw : (9223372036854775807 < s.size + 1) = False := eq_false (by omega)
      go_region_with (go_at_call 28; refine (cippuskit_Urn_Up.calls _ _ _ _ _ _ _ w0 _ (by exact HI2.out) (by exact below_drew HB2.out) HT.out).mono ?_; rintro e w2 ⟨rfl, hI3, hB3, hK3⟩; have hM3 := keep_mades HK2.out.1 HM2.out hgw hK3; have hc3 := mades_cell hM3; have hf3 := mades_frozen hM3; have hl3 : w.heap.size + 1 < w2.heap.size := blk_lt hM3.2)
      all_goals
        go_wp2_with fail
        go_roundw
        case rel =>
          refine ⟨i - 1, by go_num, by omega, s ++ strOfNums [(wrap64 (65 + t1)) % 256], t2, t3, ?_, ?_, ?_, ?_, ?_⟩
          rotate_left 4
          · rw [show (i - 1).toNat = n by omega]; exact HS.out
          · exact (hI3.far (by simp; omega) _).alloc _
          · exact below_alloc (hB3.setCell (Nat.le_trans HB.out.size (by simp)) _) _
          · exact keep_alloc (keep_far (HK2.out.trans hK3 (.inl rfl)) (by simp) _) _
          · exact set_mades hM3 _ _
        case measure => simp [intOf]; omega
    · have h0 : i.toNat = 0 := by omega
      rw [h0, stoneGo] at hs
      simp only [Option.some.injEq, Prod.mk.injEq] at hs
      obtain ⟨rfl, rfl, rfl⟩ := hs
      have HI2 := Aside0.mk hI; have HB2 := Aside0.mk hb0; have HK2 := Aside0.mk hK; have HM2 := Aside0.mk hM
      clear hI hb0 hK hM
      go_wp2_with fail
      refine (cippuskit_Urn_From.calls _ _ _ _ _ _ _ _ w0 _ HI2.out HB2.out H3.out).mono ?_
      rintro e w2 ⟨rfl, hI3, hB3, hK3⟩
      have hM3 := keep_mades HK2.out.1 HM2.out hgw hK3
      have HI3 := Aside0.mk hI3; have HB3 := Aside0.mk hB3; have HK3 := Aside0.mk (HK2.out.trans hK3 (.inl rfl)); have HM3 := Aside0.mk hM3
      clear hI3 hB3 hK3 hM3
      go_wp2_with fail
      go_loopw [12, 13] (fun v12 v13 wr => ∃ i : Int, v13 = .int .i64 i ∧ i ≤ 9223372036854775807 ∧ RelCopy w0 w g a3 s z1 z2 z3 z4 i.toNat v12 wr) (fun _ v _ => (intOf v).toNat)
      case atStart => exact ⟨n3, rfl, from_le H3.out, [], [], _, _, _, HI3.out, HB3.out, HK3.out, HM3.out, Kd.R_nil _ _ _ _ _, Kd.R_nil _ _ _ _ _, H4.out⟩
      case round =>
        obtain ⟨i, rfl, hi, L, S, a, b, v, hI, hb0, hK, hM, hL, hS, hc⟩ := hrel
        have HI4 := Aside0.mk hI; have HB4 := Aside0.mk hb0; have HK4 := Aside0.mk hK; have HM4 := Aside0.mk hM; have HL4 := Aside0.mk hL; have HS4 := Aside0.mk hS
        clear hI hb0 hK hM hL hS
        by_cases hlt : 0 < i
        · obtain ⟨n, hn⟩ : ∃ n, i.toNat = n + 1 := ⟨i.toNat - 1, by omega⟩
          rw [hn, copyGo, Option.bind_eq_some_iff] at hc
          obtain ⟨⟨t1, t2, t3⟩, ht, hc⟩ := hc
          rw [Option.bind_eq_some_iff] at hc
          obtain ⟨⟨u1, u2, u3⟩, hu, hc⟩ := hc
          dsimp only at hu hc
          go_upto_block 3 with fail
          go_cut [12] (fun s12 wx => RelCopy w0 w g a3 s z1 z2 z3 z4 n s12 wx)
          case first =>
            obtain ⟨A, c, rfl, hLc, hLr⟩ := Kd.R_reads HL4.out
            have HT := Aside0.mk ht; have HU := Aside0.mk hu
            clear ht hu
            by_cases hneg : t1 < 0
            · rw [if_pos hneg, if_neg (by omega)] at hc
              simp only [Option.bind_some] at hc
              rw [Option.bind_eq_some_iff] at hc
              obtain ⟨⟨e1, e2, e3⟩, he, hc⟩ := hc
              split at hc
              case isFalse => cases hc
              case isTrue hroom =>
              have HE := Aside0.mk he; have HC := Aside0.mk hc
              clear he hc
              have ht := HT.out
              rw [show wrap64 ((L.length : Int) - 1) = (L.length : Int) - 1 by unfold wrap64; omega] at ht
              have HT := Aside0.mk ht
              clear ht
              have hnegb : decide (t1 < 0) = true := decide_eq_true hneg
              have hnegc : decide (0 ≤ t1) = false := decide_eq_false (by omega)
              go_wp2_with fail
              (with_reducible refine (cippuskit_Urn_From.calls _ _ _ _ _ _ _ _ w0 _ HI4.out HB4.out HT.out).mono ?_)
              rintro e w5 ⟨rfl, hI5, hB5, hK5⟩
              go_wp2_with fail
              (with_reducible refine (cippuskit_Urn_Up.calls _ _ _ _ _ _ _ w0 _ hI5 hB5 HU.out).mono ?_)
              rintro e w6 ⟨rfl, hI6, hB6, hK6⟩
              have hM6 := keep_mades (Nat.le_trans HK4.out.1 hK5.1) (keep_mades HK4.out.1 HM4.out hgw hK5) hgw hK6
              have hc6 := mades_cell hM6
              have hl6 : w.heap.size + 1 < w6.heap.size := blk_lt hM6.2
              go_wp2_with fail
              (with_reducible refine (erred_calls _ _ _ _ _ _ _ _ w0 _ (hI6.alloc _) (below_alloc hB6 _) HE.out).mono ?_)
              rintro e w7 ⟨rfl, hI7, hB7, hK7⟩
              have hM7 : Mades w7 w.heap.size s v := keep_mades (by simp; omega) ⟨blk_alloc hM6.1 _, blk_alloc hM6.2 _⟩ hgw hK7
              have hbx7 : w7.heap[w6.heap.size]? = some (.cells #[.string ⟨#[]⟩, .int .i64 u1, .bool true] 24 (0, 0)) := hK7.blk (blk_new w6 _) (by omega) (by simp)
              have hx0 := (blk_cell hbx7 0).trans rfl
              have hf0 := blk_frozen hbx7 0
              go_upto_region 16 with fail
              have hF0 := f16_mk (x := ⟨e1, u1, true⟩) hgw HB.out HI4.out HK4.out HM4.out HL4.out HS4.out (hK5.trans hK6 (.inl rfl)) hK7 hI7 hB7
              generalize (w7.setCell { block := w6.heap.size, off := 0 } (Value.string e1)) = W8 at hF0 ⊢
              obtain ⟨bx, hbx⟩ : ∃ bx, w6.heap.size = bx := ⟨_, rfl⟩
              rw [hbx] at hF0 ⊢
              have hF := Aside0.mk hF0
              clear hF0 hI5 hB5 hK5 hI6 hB6 hK6 hM6 hc6 hl6 hI7 hB7 hK7 hM7 hx0 hf0
              try clear hbx
              clear hLc hLr HI4 HB4 HK4 HM4 HL4 HS4 HI3 HB3 HK3 HM3 HI2 HB2 HK2 HM2 HI1 HB1 HM HK HT HU HE H1 H2 H3 H4
              have hx0 : W8.cell? ⟨bx, 0, none⟩ = some (.string e1) := (blk_cell hF.out.hbx 0).trans rfl
              have hx1 : W8.cell? ⟨bx, 1, none⟩ = some (.int .i64 u1) := (blk_cell hF.out.hbx 1).trans rfl
              have hx2 : W8.cell? ⟨bx, 2, none⟩ = some (.bool true) := (blk_cell hF.out.hbx 2).trans rfl
              have hy1 : W8.cell? ⟨w.heap.size + 1, 1, none⟩ = some v := mades_cell1 hF.out.hM
              have hbxne : w.heap.size + 1 ≠ bx := fun e_ => by
                have h1 := hF.out.hbx
                rw [← e_, hF.out.hM.2] at h1
                simp at h1
              have hbxl : bx < W8.heap.size := blk_lt hF.out.hbx
              have hml : w.heap.size + 1 < W8.heap.size := blk_lt hF.out.hM.2
              have hml1 : w.heap.size < W8.heap.size := by omega
              have hbxl1 : bx < W8.heap.size + 1 := by omega
              have hbxl2 : bx ≤ W8.heap.size := by omega
              have hLen : L.length + 1 < 4398046511104 := hroom.1
              have hSen : S.length + 1 < 17592186044416 := hroom.2
              have hLne : Aside0 (∀ k, W8.heap.size ≤ k → some k ≠ (Value.slice A L.length c).ownBlock) := ⟨fun k hk e => by
                have := Kd.R_typed hF.out.hL k e.symm
                obtain ⟨_, h2⟩ := this
                have := blk_lt h2
                omega⟩
              go_region_law (first
                | (refine OLies.R_append_lies_step k24 (w0 := W8) w.heap.size rfl (.tmp 72) (.tmp 74) 22 24 (.agg #[.string ⟨#[]⟩, .int .i64 0, .bool false]) 32 rfl Try.underlying22 info24 rfl (by decide) (by omega) (.slice A L.length c) L ⟨e1, u1, true⟩ [.string e1, .int .i64 u1, .bool true] (fun _ => True) (fun _ => False) _ (0, 0) rfl rfl ?_ (k24_mkM _ _ _ _) (fun _ h => h.elim) (fun _ _ => trivial) ?_ ?_ ?_ ?_ ?_
                   · first | exact blk_new _ _ | exact blk_alloc (blk_new _ _) _ | exact blk_new2 _ _ _
                   · repeat (first | exact hF.out.hL | apply Kd.R_alloc | apply Kd.R_drew)
                   · repeat (first | exact Below.refl _ _ | apply below_drew | refine Below.alloc ?_ (by first | (simp; done) | (simp; omega) | omega) _)
                   · first | (simp; done) | (simp; omega) | omega
                   · omega
                   intro vA wA hLA hBA hgA hatA
                   have hkeepA := Aside0.mk (keepA hgA)
                   have hMA : Mades wA w.heap.size s v := across_mades (by first | exact ⟨hF.out.hM.1, hF.out.hM.2⟩ | exact ⟨blk_alloc hF.out.hM.1 _, blk_alloc hF.out.hM.2 _⟩ | exact ⟨blk_alloc (blk_alloc hF.out.hM.1 _) _, blk_alloc (blk_alloc hF.out.hM.2 _) _⟩) (by repeat (first | exact hF.out.hL | apply Kd.R_alloc | apply Kd.R_drew)) hgA (by decide)
                   have hSA : Kd.R (Kd.int .i64) 3 wA w.heap.size (fun _ => True) v S := across_R (by repeat (first | exact hF.out.hS | apply Kd.R_alloc | apply Kd.R_drew)) (by repeat (first | exact hF.out.hL | apply Kd.R_alloc | apply Kd.R_drew)) hgA (by decide)
                   have hbxA := keepA hgA bx _ (by first | exact hF.out.hbx | exact blk_alloc hF.out.hbx _ | exact blk_alloc (blk_alloc hF.out.hbx _) _) hF.out.hne
                   have hxA0 := (blk_cell hbxA 0).trans rfl
                   have hxA1 := (blk_cell hbxA 1).trans rfl
                   have hxA2 := (blk_cell hbxA 2).trans rfl
                   have hyA : wA.cell? ⟨w.heap.size + 1, 1, none⟩ = some v := mades_cell1 hMA
                   have hmA : w.heap.size + 1 < wA.heap.size := blk_lt hMA.2
                   have hmA1 : w.heap.size < wA.heap.size := by omega)
                | (refine OLies.R_append_lies_step (Kd.int .i64) (w0 := W8) w.heap.size rfl (.tmp 77) (.tmp 79) 25 3 (.int .i64 0) 8 rfl Try.underlying25 info3 rfl (by decide) (by omega) v S t1 [.int .i64 t1] (fun _ => True) (fun _ => False) _ (0, 0) rfl rfl ?_ rfl (fun _ h => h.elim) (fun _ _ => trivial) ?_ ?_ ?_ ?_ ?_
                   · first | exact blk_new _ _ | exact hkeepA.out _ _ (blk_new2 _ _ _) (hLne.out _ (by omega)) | exact hkeepA.out _ _ (blk_alloc (blk_new _ _) _) (hLne.out _ (by omega)) | exact hkeepA.out _ _ (blk_new _ _) (hLne.out _ (by omega))
                   · repeat (first | exact hSA | apply Kd.R_alloc | apply Kd.R_drew)
                   · repeat (first | exact hBA | apply below_drew | refine Below.alloc ?_ (by first | (simp; done) | (simp; omega) | omega) _)
                   · first | (simp; done) | (simp; omega) | omega
                   · omega
                   intro vB wB hSB hBB hgB hatB
                   obtain ⟨AB, cB, hvB⟩ := Kd.R_slice hSB
                   rw [List.length_append] at hvB
                   simp only [List.length_cons, List.length_nil] at hvB
                   subst hvB
                   have hMB : Mades wB w.heap.size s v := across_mades (by first | exact ⟨hMA.1, hMA.2⟩ | exact ⟨blk_alloc hMA.1 _, blk_alloc hMA.2 _⟩) (by repeat (first | exact hSA | apply Kd.R_alloc | apply Kd.R_drew)) hgB (by decide)
                   have hLB : Kd.R k24 24 wB w.heap.size (fun _ => True) vA (L ++ [⟨e1, u1, true⟩]) := across_R (by repeat (first | exact hLA | apply Kd.R_alloc | apply Kd.R_drew)) (by repeat (first | exact hSA | apply Kd.R_alloc | apply Kd.R_drew)) hgB (by decide)
                   have hbxB := keepA hgB bx _ (by first | exact hbxA | exact blk_alloc hbxA _) (Kd.R_ne hSA hbxA (by decide))
                   have hxB0 := (blk_cell hbxB 0).trans rfl
                   have hxB1 := (blk_cell hbxB 1).trans rfl
                   have hxB2 := (blk_cell hbxB 2).trans rfl
                   have hyB : wB.cell? ⟨w.heap.size + 1, 1, none⟩ = some v := mades_cell1 hMB
                   have hfB : wB.frozen? ⟨w.heap.size + 1, 1, none⟩ = false := mades_frozen1 hMB
                   have HAll := Aside0.mk (f17_mk hgw HB.out hF.out hBB hMB hLB hSB)))
              all_goals
                go_wp2_with fail
                go_meet
                exact ⟨_, _, _, _, _, HAll.out.hI, HAll.out.hB, HAll.out.hK, HAll.out.hM, HAll.out.hL, HAll.out.hS, HC.out⟩
            · rw [if_neg hneg] at hc
              rw [Option.bind_eq_some_iff] at hc
              obtain ⟨⟨o1, o2, o3⟩, ho, hc⟩ := hc
              dsimp only at hc
              rw [if_pos (by omega)] at hc
              split at hc
              case isFalse => simp at hc
              case isTrue hlen =>
              simp only [Option.bind_some] at hc
              rw [Option.bind_eq_some_iff] at hc
              obtain ⟨⟨e1, e2, e3⟩, he, hc⟩ := hc
              split at hc
              case isFalse => cases hc
              case isTrue hroom =>
              have HE := Aside0.mk he; have HC := Aside0.mk hc; have HO := Aside0.mk ho
              clear he hc ho
              have ht := HT.out
              rw [show wrap64 ((L.length : Int) - 1) = (L.length : Int) - 1 by unfold wrap64; omega] at ht
              have HT := Aside0.mk ht
              clear ht
              have hnegb : decide (t1 < 0) = false := decide_eq_false hneg
              have hnegc : decide (0 ≤ t1) = true := decide_eq_true (by omega)
              have hneg0 : 0 ≤ t1 := by omega
              obtain ⟨ad, rfl, hxa, hxb, hxc⟩ := at_T24 hLr t1 hneg0 hlen
              go_wp2_with fail
              (with_reducible refine (cippuskit_Urn_From.calls _ _ _ _ _ _ _ _ w0 _ HI4.out HB4.out HT.out).mono ?_)
              rintro e w5 ⟨rfl, hI5, hB5, hK5⟩
              go_wp2_with fail
              (with_reducible refine (cippuskit_Urn_Up.calls _ _ _ _ _ _ _ w0 _ hI5 hB5 HU.out).mono ?_)
              rintro e w6 ⟨rfl, hI6, hB6, hK6⟩
              go_wp2_with fail
              (with_reducible refine (cippuskit_Urn_Odds.calls _ _ _ _ _ _ _ _ w0 _ hI6 hB6 HO.out).mono ?_)
              rintro e wo ⟨rfl, hIo, hBo, hKo⟩
              have hMo := keep_mades (Nat.le_trans (Nat.le_trans HK4.out.1 hK5.1) hK6.1) (keep_mades (Nat.le_trans HK4.out.1 hK5.1) (keep_mades HK4.out.1 HM4.out hgw hK5) hgw hK6) hgw hKo
              have hco := mades_cell hMo
              have hlo : w.heap.size + 1 < wo.heap.size := blk_lt hMo.2
              have hgne : (ad.add (t1.toNat * 3)).block ≠ g := fun e_ => by
                have h1 : (ad.add (t1.toNat * 3)).block = ad.block := by unfold Addr.add; split <;> rfl
                obtain ⟨cl, h2⟩ := Kd.R_typed HL4.out ad.block rfl
                rw [← h1, e_, HI4.out.1] at h2
                simp at h2
              have hxo : wo.cell? (ad.add (t1.toNat * 3)) = some (.string (rd_T24 L t1).f0) := keep_cell ((hK5.trans hK6 (.inl rfl)).trans hKo (.inl rfl)) hxa hgne
              have hxl : (ad.add (t1.toNat * 3)).block < wo.heap.size := World.block_lt_of_cell? wo _ hxo
              go_wp2_with fail
              (with_reducible refine (erred_calls _ _ _ _ _ _ _ _ w0 _ (hIo.alloc _) (below_alloc hBo _) HE.out).mono ?_)
              rintro e w7 ⟨rfl, hI7, hB7, hK7⟩
              have hM7 : Mades w7 w.heap.size s v := keep_mades (by simp; omega) ⟨blk_alloc hMo.1 _, blk_alloc hMo.2 _⟩ hgw hK7
              have hbx7 : w7.heap[wo.heap.size]? = some (.cells #[.string ⟨#[]⟩, .int .i64 u1, .bool o1] 24 (0, 0)) := hK7.blk (blk_new wo _) (by omega) (by simp)
              have hx0 := (blk_cell hbx7 0).trans rfl
              have hf0 := blk_frozen hbx7 0
              go_upto_region 16 with fail
              have hF0 := f16_mk (x := ⟨e1, u1, o1⟩) hgw HB.out HI4.out HK4.out HM4.out HL4.out HS4.out ((hK5.trans hK6 (.inl rfl)).trans hKo (.inl rfl)) hK7 hI7 hB7
              generalize (w7.setCell { block := wo.heap.size, off := 0 } (Value.string e1)) = W8 at hF0 ⊢
              obtain ⟨bx, hbx⟩ : ∃ bx, wo.heap.size = bx := ⟨_, rfl⟩
              rw [hbx] at hF0 ⊢
              have hF := Aside0.mk hF0
              clear hF0 hI5 hB5 hK5 hI6 hB6 hK6 hIo hBo hKo hMo hco hlo hI7 hB7 hK7 hM7 hx0 hf0
              try clear hbx
              clear hLc hLr HI4 HB4 HK4 HM4 HL4 HS4 HI3 HB3 HK3 HM3 HI2 HB2 HK2 HM2 HI1 HB1 HM HK HT HU HE H1 H2 H3 H4
              have hx0 : W8.cell? ⟨bx, 0, none⟩ = some (.string e1) := (blk_cell hF.out.hbx 0).trans rfl
              have hx1 : W8.cell? ⟨bx, 1, none⟩ = some (.int .i64 u1) := (blk_cell hF.out.hbx 1).trans rfl
              have hx2 : W8.cell? ⟨bx, 2, none⟩ = some (.bool o1) := (blk_cell hF.out.hbx 2).trans rfl
              have hy1 : W8.cell? ⟨w.heap.size + 1, 1, none⟩ = some v := mades_cell1 hF.out.hM
              have hbxne : w.heap.size + 1 ≠ bx := fun e_ => by
                have h1 := hF.out.hbx
                rw [← e_, hF.out.hM.2] at h1
                simp at h1
              have hbxl : bx < W8.heap.size := blk_lt hF.out.hbx
              have hml : w.heap.size + 1 < W8.heap.size := blk_lt hF.out.hM.2
              have hml1 : w.heap.size < W8.heap.size := by omega
              have hbxl1 : bx < W8.heap.size + 1 := by omega
              have hbxl2 : bx ≤ W8.heap.size := by omega
              have hLen : L.length + 1 < 4398046511104 := hroom.1
              have hSen : S.length + 1 < 17592186044416 := hroom.2
              have hLne : Aside0 (∀ k, W8.heap.size ≤ k → some k ≠ (Value.slice (some ad) L.length c).ownBlock) := ⟨fun k hk e => by
                have := Kd.R_typed hF.out.hL k e.symm
                obtain ⟨_, h2⟩ := this
                have := blk_lt h2
                omega⟩
              go_region_law (first
                | (refine OLies.R_append_lies_step k24 (w0 := W8) w.heap.size rfl (.tmp 72) (.tmp 74) 22 24 (.agg #[.string ⟨#[]⟩, .int .i64 0, .bool false]) 32 rfl Try.underlying22 info24 rfl (by decide) (by omega) (.slice (some ad) L.length c) L ⟨e1, u1, o1⟩ [.string e1, .int .i64 u1, .bool o1] (fun _ => True) (fun _ => False) _ (0, 0) rfl rfl ?_ (k24_mkM _ _ _ _) (fun _ h => h.elim) (fun _ _ => trivial) ?_ ?_ ?_ ?_ ?_
                   · first | exact blk_new _ _ | exact blk_alloc (blk_new _ _) _ | exact blk_new2 _ _ _
                   · repeat (first | exact hF.out.hL | apply Kd.R_alloc | apply Kd.R_drew)
                   · repeat (first | exact Below.refl _ _ | apply below_drew | refine Below.alloc ?_ (by first | (simp; done) | (simp; omega) | omega) _)
                   · first | (simp; done) | (simp; omega) | omega
                   · omega
                   intro vA wA hLA hBA hgA hatA
                   have hkeepA := Aside0.mk (keepA hgA)
                   have hMA : Mades wA w.heap.size s v := across_mades (by first | exact ⟨hF.out.hM.1, hF.out.hM.2⟩ | exact ⟨blk_alloc hF.out.hM.1 _, blk_alloc hF.out.hM.2 _⟩ | exact ⟨blk_alloc (blk_alloc hF.out.hM.1 _) _, blk_alloc (blk_alloc hF.out.hM.2 _) _⟩) (by repeat (first | exact hF.out.hL | apply Kd.R_alloc | apply Kd.R_drew)) hgA (by decide)
                   have hSA : Kd.R (Kd.int .i64) 3 wA w.heap.size (fun _ => True) v S := across_R (by repeat (first | exact hF.out.hS | apply Kd.R_alloc | apply Kd.R_drew)) (by repeat (first | exact hF.out.hL | apply Kd.R_alloc | apply Kd.R_drew)) hgA (by decide)
                   have hbxA := keepA hgA bx _ (by first | exact hF.out.hbx | exact blk_alloc hF.out.hbx _ | exact blk_alloc (blk_alloc hF.out.hbx _) _) hF.out.hne
                   have hxA0 := (blk_cell hbxA 0).trans rfl
                   have hxA1 := (blk_cell hbxA 1).trans rfl
                   have hxA2 := (blk_cell hbxA 2).trans rfl
                   have hyA : wA.cell? ⟨w.heap.size + 1, 1, none⟩ = some v := mades_cell1 hMA
                   have hmA : w.heap.size + 1 < wA.heap.size := blk_lt hMA.2
                   have hmA1 : w.heap.size < wA.heap.size := by omega)
                | (refine OLies.R_append_lies_step (Kd.int .i64) (w0 := W8) w.heap.size rfl (.tmp 77) (.tmp 79) 25 3 (.int .i64 0) 8 rfl Try.underlying25 info3 rfl (by decide) (by omega) v S t1 [.int .i64 t1] (fun _ => True) (fun _ => False) _ (0, 0) rfl rfl ?_ rfl (fun _ h => h.elim) (fun _ _ => trivial) ?_ ?_ ?_ ?_ ?_
                   · first | exact blk_new _ _ | exact hkeepA.out _ _ (blk_new2 _ _ _) (hLne.out _ (by omega)) | exact hkeepA.out _ _ (blk_alloc (blk_new _ _) _) (hLne.out _ (by omega)) | exact hkeepA.out _ _ (blk_new _ _) (hLne.out _ (by omega))
                   · repeat (first | exact hSA | apply Kd.R_alloc | apply Kd.R_drew)
                   · repeat (first | exact hBA | apply below_drew | refine Below.alloc ?_ (by first | (simp; done) | (simp; omega) | omega) _)
                   · first | (simp; done) | (simp; omega) | omega
                   · omega
                   intro vB wB hSB hBB hgB hatB
                   obtain ⟨AB, cB, hvB⟩ := Kd.R_slice hSB
                   rw [List.length_append] at hvB
                   simp only [List.length_cons, List.length_nil] at hvB
                   subst hvB
                   have hMB : Mades wB w.heap.size s v := across_mades (by first | exact ⟨hMA.1, hMA.2⟩ | exact ⟨blk_alloc hMA.1 _, blk_alloc hMA.2 _⟩) (by repeat (first | exact hSA | apply Kd.R_alloc | apply Kd.R_drew)) hgB (by decide)
                   have hLB : Kd.R k24 24 wB w.heap.size (fun _ => True) vA (L ++ [⟨e1, u1, o1⟩]) := across_R (by repeat (first | exact hLA | apply Kd.R_alloc | apply Kd.R_drew)) (by repeat (first | exact hSA | apply Kd.R_alloc | apply Kd.R_drew)) hgB (by decide)
                   have hbxB := keepA hgB bx _ (by first | exact hbxA | exact blk_alloc hbxA _) (Kd.R_ne hSA hbxA (by decide))
                   have hxB0 := (blk_cell hbxB 0).trans rfl
                   have hxB1 := (blk_cell hbxB 1).trans rfl
                   have hxB2 := (blk_cell hbxB 2).trans rfl
                   have hyB : wB.cell? ⟨w.heap.size + 1, 1, none⟩ = some v := mades_cell1 hMB
                   have hfB : wB.frozen? ⟨w.heap.size + 1, 1, none⟩ = false := mades_frozen1 hMB
                   have HAll := Aside0.mk (f17_mk hgw HB.out hF.out hBB hMB hLB hSB)))
              all_goals
                go_wp2_with fail
                go_meet
                exact ⟨_, _, _, _, _, HAll.out.hI, HAll.out.hB, HAll.out.hK, HAll.out.hM, HAll.out.hL, HAll.out.hS, HC.out⟩
          case rest =>
            have hcut' := Aside0.mk hcut
            clear hcut
            go_wp2_with fail
            go_roundw
            case rel => exact ⟨i - 1, by go_num, by omega, by rw [show (i - 1).toNat = n by omega]; exact hcut'.out⟩
            case measure => simp [intOf]; omega
        · have h0 : i.toNat = 0 := by omega
          rw [h0, copyGo] at hc
          simp only [Option.some.injEq, Prod.mk.injEq] at hc
          obtain ⟨rfl, rfl, rfl, rfl⟩ := hc
          obtain ⟨A, c, rfl⟩ := Kd.R_slice HL4.out
          obtain ⟨A2, c2, rfl⟩ := Kd.R_slice HS4.out
          have hm0 := mades_cell HM4.out
          have hm1 := mades_cell1 HM4.out
          have hz0 : wr.cell? ⟨w.heap.size, 0, none⟩ = some (.string ⟨#[]⟩) := (blk_cell HM4.out.1 0).trans rfl
          have hz1 : wr.cell? ⟨w.heap.size, 1, none⟩ = some (.slice none 0 0) := (blk_cell HM4.out.1 1).trans rfl
          have hf0 := blk_frozen HM4.out.1 0
          have hf1 := blk_frozen HM4.out.1 1
          go_wp2_with fail
          go_region
          go_wp2_with fail
          have hW : ((wr.setCell ⟨w.heap.size, 0, none⟩ (.string s)).setCell ⟨w.heap.size, 1, none⟩ (.slice A2 S.length c2)).heap[w.heap.size]? = some (.cells #[.string s, .slice A2 S.length c2] 27 (0, 0)) := by
            have h1 := blk_set HM4.out.1 0 (.string s)
            simpa using blk_set h1 1 (.slice A2 S.length c2)
          have hk : ∀ k, k ≠ w.heap.size → ((wr.setCell ⟨w.heap.size, 0, none⟩ (.string s)).setCell ⟨w.heap.size, 1, none⟩ (.slice A2 S.length c2)).heap[k]? = wr.heap[k]? := fun k hk => by rw [Below.heap_setCell _ _ _ k hk, Below.heap_setCell _ _ _ k hk]
          refine bodyPost_ret (results_tc rfl _ _ w.heap.size 27 #[.string s, .slice A2 S.length c2] (0, 0) _ rfl hW Try.underlying27 rfl (by kernel_rfl)) rfl ?_
          refine ⟨_, _, rfl, ?_, ?_, ?_, ?_, ?_⟩
          · exact Kd.R_drew (Kd.R_mono (Kd.R_step (Kd.R_types HL4.out HM4.out.1 (by decide)) (fun k ok _ => hk k ok.2)) (fun _ _ => trivial))
          · exact Kd.R_drew (Kd.R_mono (Kd.R_step (Kd.R_types HS4.out HM4.out.1 (by decide)) (fun k ok _ => hk k ok.2)) (fun _ _ => trivial))
          · exact ((HI4.out.far (by show g ≠ w.heap.size; omega) _).far (by show g ≠ w.heap.size; omega) _).drew
          · exact below_drew ((HB4.out.setCell HB.out.size _).setCell HB.out.size _)
          · exact keep_drew (keep_far (keep_far HK4.out (Nat.le_refl _) _) (Nat.le_refl _) _)
end Go.Proofs.Ytegjollhajgcdaa.P.OwnUrn
namespace Go.Proofs.Ytegjollhajgcdaa.P
open Go.RowKit Go.Proofs.YtegjollhajgcdaaW.PrintWords Go.Proofs.YtegjollhajgcdaaW.PrintLast Go.Proofs.YtegjollhajgcdaaW.PrintMore
attribute [local go_sem] max2_int min2_int max_two min_two max_three min_three max_four min_four   -- for this text's walks alone
set_option linter.unusedVariables false
set_option linter.unusedSimpArgs false
def cippuskit_CopiesOf.f (s0_0 : Int) (s0_1 : Int) (a1 : Int) (a2 : Int) (a3 : Int) : Option ((List (S24)) × ByteArray × List Int × Int × Int) := OwnUrn.copiesOf s0_0 s0_1 a1 a2 a3
theorem cippuskit_CopiesOf.calls (g : Nat) (s0_0 : Int) (s0_1 : Int) (a1 : Int) (a2 : Int) (a3 : Int) (r1 : List (S24)) (r2 : ByteArray) (r3 : List Int) (r4 : Int) (r5 : Int) (w0 w : World) (hI : IsS72 w0 w g s0_0 s0_1) (hB : Below w0.heap.size w0 w) (h : cippuskit_CopiesOf.f s0_0 s0_1 a1 a2 a3 = some (r1, r2, r3, r4, r5)) :
    Calls Try.prog 13 #[.pointer (some ⟨g, 0, none⟩), .int .i64 a1, .int .i64 a2, .int .i64 a3] w fun e w' => ∃ v0_ v2_ : Value, e = .returned (.tuple #[v0_, .agg #[.string r2, v2_]]) ∧ Kd.R k24 24 w' w.heap.size (fun _ => True) v0_ r1 ∧ Kd.R (Kd.int .i64) 3 w' w.heap.size (fun _ => True) v2_ r3 ∧ IsS72 w0 w' g r4 r5 ∧ Below w0.heap.size w0 w' ∧ KeepBut w w' g none := by
  exact OwnUrn.copiesOf_calls g s0_0 s0_1 a1 a2 a3 r1 r2 r3 r4 r5 w0 w hI hB h
end Go.Proofs.Ytegjollhajgcdaa.P
namespace Go.Proofs.Ytegjollhajgcdaa.P
open Go.RowKit Go.Proofs.YtegjollhajgcdaaW.PrintWords Go.Proofs.YtegjollhajgcdaaW.PrintLast Go.Proofs.YtegjollhajgcdaaW.PrintMore
attribute [local go_sem] max2_int min2_int max_two min_two max_three min_three max_four min_four   -- for this text's walks alone
set_option linter.unusedVariables false
set_option linter.unusedSimpArgs false
def cippuskit_NewUrn.f (l0 : List Int) : Option (Int × Int) := OwnUrn.newUrn l0
theorem cippuskit_NewUrn.calls (A0 : Option Addr) (c0 : Nat) (l0 : List Int) (r1 : Int) (r2 : Int) (w0 w : World) (hB : Below w0.heap.size w0 w) (hr0 : Kd.C (Kd.int .i64) w0 A0 l0.length l0) (hc0 : l0.length ≤ c0) (h : cippuskit_NewUrn.f l0 = some (r1, r2)) :
    Calls Try.prog 14 #[.slice A0 l0.length c0] w fun e w' => ∃ g_ : Nat, e = .returned (.pointer (some ⟨g_, 0, none⟩)) ∧ IsS72 w0 w' g_ r1 r2 ∧ Below w0.heap.size w0 w' ∧ Below w.heap.size w w' := by
  exact OwnUrn.newUrn_calls A0 c0 l0 r1 r2 w0 w hB hr0 hc0 h
end Go.Proofs.Ytegjollhajgcdaa.P
namespace Go.Proofs.Ytegjollhajgcdaa.P
open Go.RowKit Go.Proofs.YtegjollhajgcdaaW.PrintWords Go.Proofs.YtegjollhajgcdaaW.PrintLast Go.Proofs.YtegjollhajgcdaaW.PrintMore
attribute [local go_sem] max2_int min2_int max_two min_two max_three min_three max_four min_four   -- for this text's walks alone
set_option linter.unusedVariables false
set_option linter.unusedSimpArgs false
def cippuskit_CopyCopies.f (l0 : List (S24)) : Option ((List (S24))) := (some (([] : List (S24)) : List (S24))).bind fun y110 => (if y110.length + l0.length < 4398046511104 then (some (y110 ++ l0)) else (none))
set_option maxHeartbeats 8000000 in
set_option maxRecDepth 100000 in
theorem cippuskit_CopyCopies.calls (A0 : Option Addr) (c0 : Nat) (l0 : List (S24)) (r : List (S24)) (w : World) (hr0 : Kd.C k24 w A0 l0.length l0) (hc0 : l0.length ≤ c0) (h : cippuskit_CopyCopies.f l0 = some r) :
    Calls Try.prog 15 #[.slice A0 l0.length c0] w fun e w' => ∃ v0_ : Value, e = .returned (v0_) ∧ Kd.R k24 24 w' w.heap.size (fun _ => True) v0_ r ∧ Below w.heap.size w w' := by
  have HR0 := Aside0.mk hr0
  have HC0 := Aside0.mk hc0
  clear hr0 hc0
  have HB := Aside0.mk (Below.refl w.heap.size w)
  have H : ((some (([] : List (S24)) : List (S24))).bind fun y110 => (if y110.length + l0.length < 4398046511104 then (some (y110 ++ l0)) else (none))) = some r := h
  clear h
  obtain ⟨y110, hy110⟩ : ∃ y_ : List (S24), y_ = (([] : List (S24))) := ⟨_, rfl⟩
  replace H : (if y110.length + l0.length < 4398046511104 then (some (y110 ++ l0)) else (none)) = some r := by first | (rw [hy110]; with_reducible exact H) | (have H2_ := (Option.bind_some _ _).symm.trans H; rw [hy110]; with_reducible exact H2_) | (have H2_ := (Option.bind_some _ _).symm.trans H; with_reducible exact H2_) | with_reducible exact H | (rw [hy110]; exact H) | exact H
  have Ny110 := Aside0.mk hy110
  clear hy110
  by_cases c2 : y110.length + l0.length < 4398046511104
  · rw [if_pos c2] at H
    have LMc2 := Aside0.mk c2
    clear c2
    obtain ⟨y113, hy113⟩ : ∃ y_ : List (S24), y_ = (y110 ++ l0) := ⟨_, rfl⟩
    replace H : (some y113) = some r := by first | (rw [hy113]; with_reducible exact H) | (have H2_ := (Option.bind_some _ _).symm.trans H; rw [hy113]; with_reducible exact H2_) | (have H2_ := (Option.bind_some _ _).symm.trans H; with_reducible exact H2_) | with_reducible exact H | (rw [hy113]; exact H) | exact H
    have Ny113 := Aside0.mk hy113
    clear hy113
    obtain rfl := Option.some.inj H
    go_enter Try.func15, Try.ntmps15
    go_wp2_with (first | ((with_reducible refine gate_dst (N := 3) rfl ?_); refine Kd.R_lit k24 _ 24 ?hg (N := 3) ?hd (xs := ([] : List (S24))) (inner := []) (ok := fun _ => True) (okp := fun _ => True) ?hr ?hp (fun _ hk => hk) trivial (Below.refl _ _) (Nat.le_refl _) (by simp) ?_; (case hd => rfl); (case hg => rfl); (case hr => first | (go_simp; done) | (go_simp; rfl)); (case hp => exact (Reps.none _ _)); intro v111 w3 ho4 hb hg_ hnew_; clear hg_ hnew_; (first | rw [← Ny110.out] at ho4 | (simp only [Int.reduceToNat] at ho4; rw [← Ny110.out] at ho4)); have n0_ := Aside0.mk (Kd.R_lower ho4 (below_size (by repeat (first | (with_reducible first | exact HB.out | apply below_alloc | apply pw_below_drewN | apply below_drew1) | exact HB.out)))); have n1_ := Aside0.mk (below_step (by repeat (first | (with_reducible first | exact HB.out | apply below_alloc | apply pw_below_drewN | apply below_drew1) | exact HB.out)) hb); clear HB; have HO112 := n0_; have HB := n1_; clear n0_ n1_; clear hb ho4) | ((with_reducible refine gate_builtin (b := .append) (xs := #[.tmp 3, .tmp 4]) rfl ?_); at_builtin; refine Kd.R_append_rows k24 (w0 := w) w.heap.size rfl (.tmp 3) (.tmp 4) 22 24 (.agg #[(.string ⟨#[]⟩), (.int .i64 0), (.bool false)]) 32 rfl Try.underlying22 info24 rfl (by decide) (by omega) v111 y110 l0 _ _ _ (fun _ => True) (fun _ => False) rfl rfl ?aO ?aR (fun _ _ h => h) (fun _ h => h.elim) ?aF ?aB ?aS ?aL ?_; (case aR => repeat (first | exact (Kd.C_below HR0.out HB.out) | (with_reducible refine Kd.C_alloc ?_ _) | (with_reducible refine Kd.C_drewN ?_ _) | (with_reducible refine Kd.C_drew ?_))); (case aB => exact (by repeat (first | (with_reducible first | exact HB.out | apply below_alloc | apply pw_below_drewN | apply below_drew1) | exact HB.out))); (case aF => exact (fun _ _ => trivial)); (case aO => exact (by (with_reducible repeat (first | apply Kd.R_alloc | apply Kd.R_drewN | apply Kd.R_drew)); exact HO112.out)); (case aS => exact (below_size (by repeat (first | (with_reducible first | exact HB.out | apply below_alloc | apply pw_below_drewN | apply below_drew1) | exact HB.out)))); (case aL => have := LMc2.out; omega); intro v114 w5 ho hb hg hat; rw [← Ny113.out] at ho; have n0_ := Aside0.mk (hb); have n1_ := Aside0.mk (ho); clear HB; clear HO112; have HB := n0_; have HO115 := n1_; clear n0_ n1_; clear ho hb hg hat))
    go_ret
    exact ⟨_, by first | rfl | (simp [errW_none, errW_some] <;> rfl) | (simp [*, errW_none, errW_some] <;> rfl), by (with_reducible repeat (first | apply Kd.R_alloc | apply Kd.R_drewN | apply Kd.R_drew)); exact HO115.out, by repeat (first | (with_reducible first | exact HB.out | apply below_alloc | apply pw_below_drewN | apply below_drew1) | exact HB.out)⟩
  · rw [if_neg c2] at H
    exact absurd H (by simp)
end Go.Proofs.Ytegjollhajgcdaa.P
namespace Go.Proofs.Ytegjollhajgcdaa.P.OwnSt
open Go.RowKit Go.Proofs.YtegjollhajgcdaaW.PrintWords Go.Proofs.YtegjollhajgcdaaW.PrintLast Go.Proofs.YtegjollhajgcdaaW.PrintMore
set_option linter.unusedVariables false
set_option linter.unusedSimpArgs false
section
variable (l : List S24) (fs : Nat → Int) (place letter : Int)
def hsum (t : Nat → Int) (i : Nat) : Nat → Nat → Int
  | 0, _ => 0
  | rem + 1, p => (if hit l fs (p : Int) (t p) i = true then 1 else 0) + hsum t i rem (p + 1)
def cost (t : Nat → Int) : Nat → Nat → Int
  | 0, _ => 0
  | rem + 1, p => errsTo l fs (p : Int) (t p) l.length + cost t rem (p + 1)
def GoodT (t : Nat → Int) : Prop := ∀ p, 65 ≤ t p ∧ t p ≤ 90
def PlaceOk (t : Nat → Int) : Prop := ∀ p : Nat, (p : Int) = place → t p = letter
end
section
variable {l : List S24} {fs : Nat → Int} {place letter : Int}
theorem hsum_nonneg (t : Nat → Int) (i : Nat) : ∀ rem p, 0 ≤ hsum l fs t i rem p := by
  intro rem
  induction rem with
  | zero => intro p; exact Int.le_refl _
  | succ rem ih =>
    intro p
    have := ih (p + 1)
    unfold hsum
    split <;> omega
theorem hsum_congr (t t' : Nat → Int) (i : Nat) : ∀ rem p, (∀ q, p ≤ q → t q = t' q) → hsum l fs t i rem p = hsum l fs t' i rem p := by
  intro rem
  induction rem with
  | zero => intro p _; rfl
  | succ rem ih =>
    intro p h
    unfold hsum
    rw [h p (Nat.le_refl _), ih (p + 1) (fun q hq => h q (by omega))]
theorem cost_congr (t t' : Nat → Int) : ∀ rem p, (∀ q, p ≤ q → t q = t' q) → cost l fs t rem p = cost l fs t' rem p := by
  intro rem
  induction rem with
  | zero => intro p _; rfl
  | succ rem ih =>
    intro p h
    unfold cost
    rw [h p (Nat.le_refl _), ih (p + 1) (fun q hq => h q (by omega))]
theorem hit_other {p c : Int} (h : atB l fs p c = false) (i : Nat) (hi : i < l.length) : hit l fs p c i = (fs i == -1) := by
  unfold atB at h
  rw [← Bool.not_eq_true, List.any_eq_true] at h
  have h2 : atOne l fs p c i = false := by
    rw [← Bool.not_eq_true]
    exact fun hh => h ⟨i, List.mem_range.2 hi, hh⟩
  unfold atOne at h2
  unfold hit
  cases hf : fs i == -1 with
  | false => simp
  | true =>
    rw [hf] at h2
    simp at h2
    simp [h2]
theorem errsTo_eq {p c d : Int} (h : ∀ i, i < l.length → hit l fs p c i = hit l fs p d i) : errsTo l fs p c l.length = errsTo l fs p d l.length := by
  unfold errsTo
  rw [List.filter_congr fun i hi => h i (List.mem_range.1 hi)]
theorem fitsTo_eq {g : Nat → Int} {p c d : Int} (h : ∀ i, i < l.length → hit l fs p c i = hit l fs p d i) : fitsTo l fs g p c l.length = fitsTo l fs g p d l.length := by
  unfold fitsTo
  rw [Bool.eq_iff_iff, List.all_eq_true, List.all_eq_true]
  constructor <;> intro h2 i hi <;> have h3 := h2 i hi
  · rw [← h i (List.mem_range.1 hi)]; exact h3
  · rw [h i (List.mem_range.1 hi)]; exact h3
theorem leftTo_eq {g : Nat → Int} {p c d : Int} (h : ∀ i, i < l.length → hit l fs p c i = hit l fs p d i) : leftTo l fs g p c l.length = leftTo l fs g p d l.length := by
  funext i
  unfold leftTo
  by_cases hi : i < l.length
  · rw [h i hi]
  · simp [hi]
def valC (l : List S24) (fs : Nat → Int) (nx : (Nat → Int) → Int) (p : Int) (g : Nat → Int) (c : Int) : Int := errsTo l fs p c l.length + nx (leftTo l fs g p c l.length)
theorem fold_le (nx : (Nat → Int) → Int) (p : Int) (g : Nat → Int) : ∀ (cl : List Int) (st : Int × Bool), (cl.foldl (stepC l fs place letter nx p g) st).1 ≤ st.1 := by
  intro cl
  induction cl with
  | nil => intro st; exact Int.le_refl _
  | cons x r ih =>
    intro st
    rw [List.foldl_cons]
    refine Int.le_trans (ih _) ?_
    unfold stepC
    split
    · exact Int.le_refl _
    · split
      · show min st.1 _ ≤ st.1
        omega
      · exact Int.le_refl _
theorem fold_hit (nx : (Nat → Int) → Int) (p : Int) (g : Nat → Int) : ∀ (cl : List Int) (st : Int × Bool), (st.2 = true → ∃ d, atB l fs p d = false ∧ (fitsTo l fs g p d l.length = true → st.1 ≤ valC l fs nx p g d)) →
    ∀ c ∈ cl, (p == place && c != letter) = false → fitsTo l fs g p c l.length = true → (cl.foldl (stepC l fs place letter nx p g) st).1 ≤ valC l fs nx p g c := by
  intro cl
  induction cl with
  | nil => intro st _ c hc; simp at hc
  | cons x r ih =>
    intro st hinv c hc hex hfit
    rw [List.foldl_cons]
    rcases List.mem_cons.1 hc with rfl | hc
    · refine Int.le_trans (fold_le nx p g r _) ?_
      unfold stepC
      split
      · rename_i hs
        unfold skipC at hs
        rw [hex, Bool.false_or, Bool.and_eq_true, Bool.and_eq_true] at hs
        obtain ⟨_, h2, h3⟩ := hs
        have h2' : atB l fs p c = false := by simpa using h2
        obtain ⟨d, hd1, hd2⟩ := hinv h3
        have hh : ∀ i, i < l.length → hit l fs p c i = hit l fs p d i := fun i hi => by rw [hit_other h2' i hi, hit_other hd1 i hi]
        have h4 := hd2 (by rw [← fitsTo_eq hh]; exact hfit)
        unfold valC at h4 ⊢
        rw [errsTo_eq hh, leftTo_eq hh]
        exact h4
      · try rw [if_pos hfit]
        show min st.1 _ ≤ _
        unfold valC
        omega
    · refine ih _ ?_ c hc hex hfit
      unfold stepC
      split
      · exact hinv
      · split
        · rename_i hs hf
          intro h2
          rcases Bool.or_eq_true_iff.1 h2 with h2 | h2
          · obtain ⟨d, hd1, hd2⟩ := hinv h2
            refine ⟨d, hd1, fun h3 => ?_⟩
            have := hd2 h3
            show min st.1 _ ≤ _
            omega
          · refine ⟨x, by simpa using h2, fun h3 => ?_⟩
            show min st.1 _ ≤ _
            unfold valC
            omega
        · rename_i hs hf
          intro h2
          rcases Bool.or_eq_true_iff.1 h2 with h2 | h2
          · exact hinv h2
          · exact ⟨x, by simpa using h2, fun h3 => absurd h3 hf⟩
theorem fold_att (nx : (Nat → Int) → Int) (p : Int) (g : Nat → Int) : ∀ (cl : List Int) (st : Int × Bool), (cl.foldl (stepC l fs place letter nx p g) st).1 = st.1 ∨
    ∃ c ∈ cl, (p == place && c != letter) = false ∧ fitsTo l fs g p c l.length = true ∧ (cl.foldl (stepC l fs place letter nx p g) st).1 = valC l fs nx p g c := by
  intro cl
  induction cl with
  | nil => intro st; exact .inl rfl
  | cons x r ih =>
    intro st
    rw [List.foldl_cons]
    rcases ih (stepC l fs place letter nx p g st x) with h | ⟨c, hc, h1, h2, h3⟩
    · rw [h]
      by_cases hs : skipC l fs place letter p x st.2 = true
      · left
        unfold stepC
        rw [if_pos hs]
      · by_cases hf : fitsTo l fs g p x l.length = true
        · unfold stepC
          rw [if_neg hs, if_pos hf]
          by_cases hm : st.1 ≤ valC l fs nx p g x
          · left
            show min st.1 _ = st.1
            unfold valC at hm
            omega
          · right
            refine ⟨x, List.mem_cons_self, ?_, hf, ?_⟩
            · unfold skipC at hs
              simp only [Bool.or_eq_true, not_or] at hs
              simpa using hs.1
            · show min st.1 _ = _
              unfold valC at hm ⊢
              omega
        · left
          unfold stepC
          rw [if_neg hs, if_neg hf]
    · exact .inr ⟨c, List.mem_cons_of_mem _ hc, h1, h2, h3⟩
theorem mem_cs {c : Int} (h : 65 ≤ c ∧ c ≤ 90) : c ∈ cs 26 := by
  unfold cs
  rw [List.mem_map]
  exact ⟨(c - 65).toNat, List.mem_range.2 (by omega), by omega⟩
theorem cs_mem {c : Int} (h : c ∈ cs 26) : 65 ≤ c ∧ c ≤ 90 := by
  unfold cs at h
  rw [List.mem_map] at h
  obtain ⟨j, hj, rfl⟩ := h
  have := List.mem_range.1 hj
  omega
theorem nextS_le : ∀ (rem p : Nat) (g t : Nat → Int), GoodT t → PlaceOk place letter t → (∀ i, i < l.length → hsum l fs t i rem p ≠ 0 → hsum l fs t i rem p ≤ g i) → nextS l fs place letter rem (p : Int) g ≤ cost l fs t rem p := by
  intro rem
  induction rem with
  | zero => intro p g t _ _ _; exact Int.le_refl _
  | succ rem ih =>
    intro p g t hg hp hh
    have hfit : fitsTo l fs g (p : Int) (t p) l.length = true := by
      unfold fitsTo
      rw [List.all_eq_true]
      intro i hi
      have h1 := hh i (List.mem_range.1 hi)
      have h2 := hsum_nonneg (l := l) (fs := fs) t i rem (p + 1)
      unfold hsum at h1
      by_cases hc : hit l fs (p : Int) (t p) i = true
      · rw [if_pos hc] at h1
        have := h1 (by omega)
        rw [hc]
        simp
        omega
      · simp [hc]
    have hex : ((p : Int) == place && t p != letter) = false := by
      by_cases e : (p : Int) = place
      · rw [hp p e]; simp
      · simp [e]
    have h1 := fold_hit (place := place) (letter := letter) (nextS l fs place letter rem ((p : Int) + 1)) (p : Int) g (cs 26) (1048576, false) (fun h => by cases h) (t p) (mem_cs (hg p)) hex hfit
    rw [nextS, cost]
    refine Int.le_trans h1 ?_
    unfold valC
    have h2 := ih (p + 1) (leftTo l fs g (p : Int) (t p) l.length) t hg hp (fun i hi h3 => by
      have h4 := hh i hi
      have h5 := hsum_nonneg (l := l) (fs := fs) t i rem (p + 1)
      unfold hsum at h4
      unfold leftTo
      by_cases hc : hit l fs (p : Int) (t p) i = true
      · rw [if_pos hc] at h4
        rw [if_pos ⟨hi, hc⟩]
        have := h4 (by omega)
        omega
      · rw [if_neg hc] at h4
        rw [if_neg (fun h => hc h.2)]
        have := h4 (by omega)
        omega)
    have e : ((p + 1 : Nat) : Int) = (p : Int) + 1 := by omega
    rw [e] at h2
    omega
theorem nextS_att : ∀ (rem p : Nat) (g : Nat → Int), nextS l fs place letter rem (p : Int) g < 1048576 →
    ∃ t, GoodT t ∧ (∀ q : Nat, p ≤ q → q < p + rem → (q : Int) = place → t q = letter) ∧ (∀ i, i < l.length → hsum l fs t i rem p ≠ 0 → hsum l fs t i rem p ≤ g i) ∧ cost l fs t rem p = nextS l fs place letter rem (p : Int) g := by
  intro rem
  induction rem with
  | zero => intro p g _; exact ⟨fun _ => 65, fun p => ⟨Int.le_refl 65, show (65 : Int) ≤ 90 by decide⟩, fun q h1 h2 => by omega, fun i _ h => absurd rfl h, rfl⟩
  | succ rem ih =>
    intro p g hlt
    rw [nextS] at hlt ⊢
    rcases fold_att (place := place) (letter := letter) (nextS l fs place letter rem ((p : Int) + 1)) (p : Int) g (cs 26) (1048576, false) with h | ⟨c, hc, hex, hfit, hv⟩
    · rw [h] at hlt
      exact absurd hlt (by decide)
    · rw [hv] at hlt ⊢
      unfold valC at hlt ⊢
      have e : ((p + 1 : Nat) : Int) = (p : Int) + 1 := by omega
      have he := (errsTo_bound l fs (p : Int) c l.length).1
      obtain ⟨t, t1, t2, t3, t4⟩ := ih (p + 1) (leftTo l fs g (p : Int) c l.length) (by rw [e]; omega)
      rw [e] at t4
      have hc2 := cs_mem hc
      have hq : ∀ q, p + 1 ≤ q → (fun q => if q = p then c else t q) q = t q := fun q hq => by simp [show q ≠ p by omega]
      refine ⟨fun q => if q = p then c else t q, fun q => ?_, fun q h1 h2 h3 => ?_, fun i hi h0 => ?_, ?_⟩
      · show 65 ≤ (if q = p then c else t q) ∧ (if q = p then c else t q) ≤ 90
        split
        · exact hc2
        · exact t1 q
      · show (if q = p then c else t q) = letter
        by_cases e2 : q = p
        · subst e2
          rw [if_pos rfl]
          rw [h3] at hex
          simp at hex
          exact hex
        · rw [if_neg e2]
          exact t2 q (by omega) (by omega) h3
      · unfold hsum at h0 ⊢
        rw [hsum_congr _ t i rem (p + 1) hq] at h0 ⊢
        simp only [if_true] at h0 ⊢
        have h5 := t3 i hi
        have h6 := hsum_nonneg (l := l) (fs := fs) t i rem (p + 1)
        unfold leftTo at h5
        by_cases hh : hit l fs (p : Int) c i = true
        · rw [if_pos hh]
          rw [if_pos ⟨hi, hh⟩] at h5
          unfold fitsTo at hfit
          rw [List.all_eq_true] at hfit
          have h7 := hfit i (List.mem_range.2 hi)
          rw [hh] at h7
          simp at h7
          by_cases e3 : hsum l fs t i rem (p + 1) = 0
          · rw [e3]; omega
          · have := h5 e3; omega
        · rw [if_neg hh] at h0 ⊢
          rw [if_neg (fun h => hh h.2)] at h5
          have := h5 (by omega)
          omega
      · unfold cost
        rw [cost_congr _ t rem (p + 1) hq]
        simp only [if_true]
        rw [t4]
end
def FitT (l : List S24) (fs t : Nat → Int) : Prop := GoodT t ∧ ∀ i, i < l.length → hsum l fs t i (rd_T24 l 0).f0.size 0 ≠ 0 → hsum l fs t i (rd_T24 l 0).f0.size 0 ≤ (rd_T24 l (i : Int)).f1
def costT (l : List S24) (fs t : Nat → Int) : Int := cost l fs t (rd_T24 l 0).f0.size 0
theorem leastV_le {l : List S24} {fs t : Nat → Int} {place letter : Int} (h : FitT l fs t) (hp : PlaceOk place letter t) : leastV l fs place letter ≤ costT l fs t := by
  unfold leastV costT
  refine nextS_le _ 0 _ t h.1 hp (fun i hi h2 => ?_)
  unfold errV
  rw [if_pos hi]
  exact h.2 i hi h2
theorem leastV_att {l : List S24} {fs : Nat → Int} {place letter : Int} (h : leastV l fs place letter < 1048576) : ∃ t, FitT l fs t ∧ (∀ q : Nat, q < (rd_T24 l 0).f0.size → (q : Int) = place → t q = letter) ∧ costT l fs t = leastV l fs place letter := by
  unfold leastV at h ⊢
  obtain ⟨t, t1, t2, t3, t4⟩ := nextS_att _ 0 _ h
  refine ⟨t, ⟨t1, fun i hi h2 => ?_⟩, fun q hq h2 => t2 q (by omega) (by omega) h2, t4⟩
  have := t3 i hi h2
  unfold errV at this
  rw [if_pos hi] at this
  exact this
end Go.Proofs.Ytegjollhajgcdaa.P.OwnSt
namespace Go.Proofs.Ytegjollhajgcdaa.P.OwnSt
open Go.RowKit Go.Proofs.YtegjollhajgcdaaW.PrintWords Go.Proofs.YtegjollhajgcdaaW.PrintLast Go.Proofs.YtegjollhajgcdaaW.PrintMore
set_option linter.unusedVariables false
set_option linter.unusedSimpArgs false
theorem cost_bound (l : List S24) (fs t : Nat → Int) : ∀ rem p, 0 ≤ cost l fs t rem p ∧ cost l fs t rem p ≤ l.length * rem := by
  intro rem
  induction rem with
  | zero => intro p; simp [cost]
  | succ rem ih =>
    intro p
    have h1 := ih (p + 1)
    have h2 := errsTo_bound l fs (p : Int) (t p) l.length
    unfold cost
    have e : (l.length : Int) * ((rem + 1 : Nat) : Int) = l.length * rem + l.length := by
      rw [Int.natCast_add, Int.mul_add]; simp
    rw [e]
    omega
theorem costT_bound {l : List S24} (hv : Valid l) (fs t : Nat → Int) : 0 ≤ costT l fs t ∧ costT l fs t ≤ 40 := by
  have h := cost_bound l fs t (rd_T24 l 0).f0.size 0
  unfold costT
  have h1 := hv.five
  have h2 := hv.high
  have h3 : l.length * (rd_T24 l 0).f0.size ≤ 5 * 8 := Nat.mul_le_mul h1 h2
  have h4 : (l.length : Int) * ((rd_T24 l 0).f0.size : Int) = ((l.length * (rd_T24 l 0).f0.size : Nat) : Int) := by simp
  rw [h4] at h
  omega
theorem lies_of_fit {l : List S24} (hv : Valid l) {fs t : Nat → Int} (h : FitT l fs t) : liesB l fs = true := by
  unfold liesB
  have h1 := leastV_le (place := -1) (letter := 0) h (fun p hp => by omega)
  have h2 := (costT_bound hv fs t).2
  exact decide_eq_true (by omega)
theorem fit_of_lies {l : List S24} {fs : Nat → Int} (h : liesB l fs = true) : ∃ t, FitT l fs t ∧ costT l fs t = leastV l fs (-1) 0 := by
  unfold liesB at h
  obtain ⟨t, h1, _, h3⟩ := leastV_att (of_decide_eq_true h)
  exact ⟨t, h1, h3⟩
theorem may_of_fit {l : List S24} (hv : Valid l) {fs t : Nat → Int} (h : FitT l fs t) (i j : Nat) (hi : t i = 65 + (j : Int)) : mayC l i j fs = true := by
  unfold mayC
  have h1 := leastV_le (place := (i : Int)) (letter := 65 + (j : Int)) h (fun p hp => by
    have : p = i := by omega
    rw [this]; exact hi)
  have h2 := (costT_bound hv fs t).2
  exact decide_eq_true (by omega)
theorem fit_of_may {l : List S24} {fs : Nat → Int} {i j : Nat} (hi : i < (rd_T24 l 0).f0.size) (h : mayC l i j fs = true) : ∃ t, FitT l fs t ∧ t i = 65 + (j : Int) := by
  unfold mayC at h
  obtain ⟨t, h1, h2, _⟩ := leastV_att (of_decide_eq_true h)
  exact ⟨t, h1, h2 i hi rfl⟩
def TreeOk (l : List S24) (s : Nat → Int) : Prop := (∀ k, k < l.length → -1 ≤ s k ∧ s k < k ∧ canF l k (s k) = true) ∧ ∀ k, l.length ≤ k → s k = 0
theorem known_iff {l : List S24} (hv : Valid l) (s : Nat → Int) : s ∈ knownV l ↔ TreeOk l s ∧ ∃ t, FitT l s t := by
  constructor
  · intro h
    obtain ⟨h1, h2, h3⟩ := knownV_mem h
    obtain ⟨t, ht, _⟩ := fit_of_lies h3
    exact ⟨⟨h1, h2⟩, t, ht⟩
  · rintro ⟨⟨h1, h2⟩, t, ht⟩
    exact mem_knownV h1 h2 (lies_of_fit hv ht)
theorem mayAt_iff {l : List S24} (hv : Valid l) (i j : Nat) (hi : i < (rd_T24 l 0).f0.size) : mayAt l i j = true ↔ ∃ s t, TreeOk l s ∧ FitT l s t ∧ t i = 65 + (j : Int) := by
  unfold mayAt
  rw [List.any_eq_true]
  constructor
  · rintro ⟨s, hs, h⟩
    obtain ⟨t, ht, h2⟩ := fit_of_may hi h
    exact ⟨s, t, ((known_iff hv s).1 hs).1, ht, h2⟩
  · rintro ⟨s, t, hs, ht, h⟩
    exact ⟨s, (known_iff hv s).2 ⟨hs, t, ht⟩, may_of_fit hv ht i j h⟩
theorem numF_le {l : List S24} {s t : Nat → Int} (h : FitT l s t) : numF l s ≤ costT l s t + apTo l s l.length := by
  unfold numF
  have h1 := leastV_le (place := -1) (letter := 0) h (fun p hp => by omega)
  omega
theorem numF_att {l : List S24} {s : Nat → Int} (h : liesB l s = true) : ∃ t, FitT l s t ∧ numF l s = costT l s t + apTo l s l.length := by
  obtain ⟨t, h1, h2⟩ := fit_of_lies h
  exact ⟨t, h1, by unfold numF; omega⟩
theorem fewest_le {l : List S24} (hk : knownE l = 0) {s : Nat → Int} (hs : s ∈ knownV l) : (fewestV l).1 ≤ numF l s := by
  unfold fewestV
  rw [if_pos hk]
  unfold minTo
  rw [List.take_length]
  obtain ⟨x, r, e⟩ : ∃ x r, knownV l = x :: r := by
    cases h : knownV l with
    | nil => rw [h] at hs; simp at hs
    | cons x r => exact ⟨x, r, rfl⟩
  rw [e] at hs ⊢
  simp only [List.drop_succ_cons, List.drop_zero, List.headD_cons]
  have h := minF_le l r x
  rcases List.mem_cons.1 hs with rfl | hs
  · exact h.1
  · exact h.2 s hs
theorem fewest_att {l : List S24} (hk : knownE l = 0) : ∃ s ∈ knownV l, (fewestV l).1 = numF l s := by
  unfold fewestV
  rw [if_pos hk]
  have hne := (knownE_zero hk).2
  refine ⟨minTo l (knownV l) ((knownV l).headD fun _ => 0) (knownV l).length, minTo_mem l _ _ _ ?_, rfl⟩
  cases h : knownV l with
  | nil => exact absurd h hne
  | cons x r => rfl
theorem check_of_valid {l : List S24} (hv : Valid l) : checkV l = 0 := by
  unfold checkV
  rw [if_neg (by have := hv.one; omega), if_neg (by have := hv.five; omega)]
  have h1 : ∀ i : Nat, i < l.length → oneV l (rd_T24 l (i : Int)) = 0 := fun i hi => by
    have hs := hv.size i hi
    have hg : goodText (rd_T24 l (i : Int)).f0 = true := by
      unfold goodText
      rw [List.all_eq_true]
      intro p hp
      have := hv.good i hi p (by have := List.mem_range.1 hp; omega)
      unfold goodAt
      exact decide_eq_true this
    unfold oneV
    rw [if_neg (by have := hv.low; have := hv.high; omega), if_neg (by rw [hg]; simp), if_neg (by simp [hs]), if_neg (by have := hv.err i hi; omega), if_neg (by have := hv.err i hi; omega)]
  have h2 : ∀ rem i, i + rem ≤ l.length → checkF l rem i = 0 := by
    intro rem
    induction rem with
    | zero => intro i _; rfl
    | succ rem ih =>
      intro i hi
      unfold checkF
      rw [if_pos (h1 i (by omega))]
      exact ih (i + 1) (by omega)
  exact h2 l.length 0 (by omega)
theorem knownE_of {l : List S24} (hv : Valid l) {s : Nat → Int} (hs : s ∈ knownV l) : knownE l = 0 := by
  unfold knownE
  rw [if_neg (by rw [check_of_valid hv]; simp), if_neg (fun h => by rw [h] at hs; simp at hs)]
def sumTo (f : Nat → Int) : Nat → Int
  | 0 => 0
  | n + 1 => sumTo f n + f n
theorem sumTo_congr {f g : Nat → Int} : ∀ n, (∀ i, i < n → f i = g i) → sumTo f n = sumTo g n := by
  intro n
  induction n with
  | zero => intro _; rfl
  | succ n ih =>
    intro h
    unfold sumTo
    rw [ih (fun i hi => h i (by omega)), h n (by omega)]
theorem sumTo_add (f g : Nat → Int) : ∀ n, sumTo (fun i => f i + g i) n = sumTo f n + sumTo g n := by
  intro n
  induction n with
  | zero => rfl
  | succ n ih =>
    unfold sumTo
    rw [ih]
    omega
theorem errsTo_sum (l : List S24) (fs : Nat → Int) (p c : Int) : ∀ n, errsTo l fs p c n = sumTo (fun i => if hit l fs p c i = true then 1 else 0) n := by
  intro n
  induction n with
  | zero => simp [errsTo, sumTo]
  | succ n ih => rw [errsTo_succ, ih]; rfl
theorem cost_sum (l : List S24) (fs t : Nat → Int) : ∀ rem p, cost l fs t rem p = sumTo (fun i => hsum l fs t i rem p) l.length := by
  intro rem
  induction rem with
  | zero =>
    intro p
    have : ∀ n, sumTo (fun i => hsum l fs t i 0 p) n = 0 := by
      intro n
      induction n with
      | zero => rfl
      | succ n ih => unfold sumTo; rw [ih]; rfl
    rw [this]
    rfl
  | succ rem ih =>
    intro p
    unfold cost
    rw [ih, errsTo_sum, ← sumTo_add]
    rfl
theorem apTo_sum (l : List S24) (s : Nat → Int) : ∀ n, apTo l s n = sumTo (fun k => if s k = -1 then 0 else apN (rd_T24 l (s k)).f0 (rd_T24 l (k : Int)).f0 (rd_T24 l (s k)).f0.size) n := by
  intro n
  induction n with
  | zero => rfl
  | succ n ih => unfold apTo sumTo; rw [ih]
theorem hsum_none {l : List S24} {fs t : Nat → Int} {i : Nat} (h : fs i ≠ -1) : ∀ rem p, hsum l fs t i rem p = 0 := by
  intro rem
  induction rem with
  | zero => intro p; rfl
  | succ rem ih =>
    intro p
    unfold hsum hit
    rw [ih, beq_false_of_ne h]
    simp
theorem hsum_apN {l : List S24} {fs t : Nat → Int} {i : Nat} (h : fs i = -1) (st : ByteArray) (L : Nat) (ht : ∀ p, p < L → t p = bt st (p : Int)) : ∀ rem p, p + rem ≤ L → apN st (rd_T24 l (i : Int)).f0 p + hsum l fs t i rem p = apN st (rd_T24 l (i : Int)).f0 (p + rem) := by
  intro rem
  induction rem with
  | zero => intro p _; simp [hsum]
  | succ rem ih =>
    intro p hp
    have h1 := ih (p + 1) (by omega)
    rw [show p + 1 + rem = p + (rem + 1) by omega, apN_succ] at h1
    unfold hsum hit
    rw [h, ht p (by omega)]
    rw [← h1]
    by_cases e : bt st (p : Int) = bt (rd_T24 l (i : Int)).f0 (p : Int)
    · rw [if_pos e, e]
      simp
    · rw [if_neg e]
      have e2 : ((-1 : Int) == -1 && bt (rd_T24 l (i : Int)).f0 (p : Int) != bt st (p : Int)) = true := by
        simp
        exact fun h => e h.symm
      rw [if_pos e2]
      omega
end Go.Proofs.Ytegjollhajgcdaa.P.OwnSt
