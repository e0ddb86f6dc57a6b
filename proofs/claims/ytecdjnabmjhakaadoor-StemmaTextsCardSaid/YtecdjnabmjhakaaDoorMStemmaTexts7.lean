/- Lemmas for the statement StemmaTexts of the given program, for every input that its row lets in. Conditions: none beyond those that each lemma tells. -/
import Derived.BigQuiet
import Derived.Deep.CutBlock
import Derived.Deep.Slices
import Derived.Deep.Strs
import Derived.ChangeArms
import Derived.WideShapes
import Derived.SizedLaws
import Derived.ChangeSlices
import Derived.Test.YtecdjnabmjhakaaDoorMStemmaTexts6
set_option linter.unusedVariables false
set_option linter.unusedSimpArgs false
namespace Go.Proofs.YtecdjnabmjhakaaDoor.P
open Go.RowKit Go.Proofs.YtecdjnabmjhakaaDoorW.PrintWords Go.Proofs.YtecdjnabmjhakaaDoorW.PrintLast Go.Proofs.YtecdjnabmjhakaaDoorW.PrintMore
attribute [local go_sem] max2_int min2_int max_two min_two max_three min_three max_four min_four   -- for this text's walks alone
open OwnSt
set_option linter.unusedVariables false
set_option linter.unusedSimpArgs false
set_option maxHeartbeats 8000000 in
set_option maxRecDepth 100000 in
theorem cippuslaw07_StemmaTexts.calls (k : Nat) (A0 : Option Addr) (c0 : Nat) (l0 : List (S25)) (a1 : ByteArray) (A2 : Option Addr) (c2 : Nat) (l2 : List Int) (a3 : Int) (a4 : Int) (a5 : Int) (r : Bool) (w : World) (hr0 : Kd.C k25 w A0 l0.length l0) (hc0 : l0.length ≤ c0) (hr2 : Kd.C (Kd.int .i64) w A2 l2.length l2) (hc2 : l2.length ≤ c2) (h : cippuslaw07_StemmaTexts.f k l0 a1 l2 a3 a4 a5 = some r) :
    Calls Tryd.prog 4 #[.slice A0 l0.length c0, .string a1, .slice A2 l2.length c2, .int .i64 a3, .int .i64 a4, .int .u8 a5] w fun e w' => e = .returned (.bool r) ∧ Below w.heap.size w w' := by
  have hu44 := Tryd.underlying44
  have HR0 := Aside0.mk hr0
  have HC0 := Aside0.mk hc0
  clear hr0 hc0
  have HR2 := Aside0.mk hr2
  have HC2 := Aside0.mk hc2
  clear hr2 hc2
  have HB := Aside0.mk (Below.refl w.heap.size w)
  have H : (cippuslaw07_StemmaTexts.l0 k l0 a1 l2 a3 a4 a5 0) = some r := h
  clear h
  have H' := Aside0.mk H
  clear H
  go_enter Tryd.func4, Tryd.ntmps4
  go_wp2
  go_loopg [13] k (fun kq v13 w' => ∃ (x13_1 : Int), v13 = .int .i64 x13_1 ∧ Aside0 (cippuslaw07_StemmaTexts.l0 kq l0 a1 l2 a3 a4 a5 x13_1 = some r) ∧ Aside0 (kq ≤ k) ∧ Aside0 (Below w.heap.size w w'))
  case atStart => exact ⟨(0), (by first | rfl | (simp; done) | (simp [*]; done)), H', ⟨Nat.le_refl _⟩, ⟨by repeat (first | (with_reducible first | exact HB.out | apply below_alloc | apply pw_below_drewN | apply below_drew1) | exact HB.out)⟩⟩
  case round =>
    clear H'
    try clear c2
    try clear p2
    try clear c4
    obtain ⟨x13_1, rfl, HA, HK1, HB⟩ := hrel
    cases gk with
    | zero => exact absurd HA.out (by simp [cippuslaw07_StemmaTexts.l0])
    | succ k1 =>
      have H := HA.out
      clear HA
      simp only [cippuslaw07_StemmaTexts.l0] at H
      by_cases c7 : x13_1 < (l0.length : Int)
      · rw [if_pos c7] at H
        have c7b0 : decide (x13_1 < (l0.length : Int)) = true := decide_eq_true c7
        clear c7
        by_cases c8 : 0 ≤ x13_1
        · rw [if_pos c8] at H
          have c8b0 : decide (0 ≤ x13_1) = true := decide_eq_true c8
          clear c8
          by_cases c9 : (((rd_T25 l0 x13_1).f0).size : Int) > 40
          · rw [if_pos c9] at H
            have c9b0 : decide (40 < (((rd_T25 l0 x13_1).f0).size : Int)) = true := decide_eq_true c9
            have c9b1 : decide (40 < ((rd_T25 l0 x13_1).f0).size) = true := decide_eq_true (by omega)
            clear c9
            replace H := Option.bind_eq_some_iff.mp H
            obtain ⟨t262, A100, H⟩ := H
            replace H : (some t262) = some r := H
            have A10 := Aside0.mk A100
            clear A100
            obtain rfl := Option.some.inj H
            have p261 : 0 ≤ (x13_1 : Int) := of_decide_eq_true (by first | (with_reducible assumption) | assumption)
            have q261 : x13_1 < (l0.length : Int) := of_decide_eq_true (by first | (with_reducible assumption) | assumption)
            obtain ⟨ad261, e261, hx261_0, hx261_1, hx261_2⟩ := at_T25 HR0.out x13_1 p261 q261
            cases e261
            try replace hx261_0 := (HB.out.cell (World.block_lt_of_cell? w _ hx261_0)).trans hx261_0
            try replace hx261_1 := (HB.out.cell (World.block_lt_of_cell? w _ hx261_1)).trans hx261_1
            try replace hx261_2 := (HB.out.cell (World.block_lt_of_cell? w _ hx261_2)).trans hx261_2
            replace p261 := eq_true p261
            replace q261 := eq_true q261
            go_wp2_with (first | ((with_reducible refine gate_callee (f := 7) rfl ?_); refine goesL_ (some 47) rfl rfl Tryd.func7 (by kernel_rfl) rfl #[] rfl (by (try simp only [List.map_toArray, List.map_cons, List.map_nil]); first | done | rfl | (simp only [List.length_drop, List.length_take]; rfl)) ?_; (with_reducible refine (cippuslaw07_found.calls k1  t262 _ A10.out).mono ?_); rintro e w11 ⟨rfl, hb⟩; refine ⟨_, rfl, ?_⟩; have n0_ := Aside0.mk (below_step (by repeat (first | (with_reducible first | exact HB.out | apply below_alloc | apply pw_below_drewN | apply below_drew1) | exact HB.out)) hb); clear HB; have HB := n0_; clear n0_; (try clear hb); (try clear hb2); (try clear hk); (try clear hi)))
            go_ret
            exact ⟨by first | rfl | (simp [errW_none, errW_some] <;> rfl) | (simp [*, errW_none, errW_some] <;> rfl), by repeat (first | (with_reducible first | exact HB.out | apply below_alloc | apply pw_below_drewN | apply below_drew1) | exact HB.out)⟩
          · rw [if_neg c9] at H
            have c9b0 : decide (40 < (((rd_T25 l0 x13_1).f0).size : Int)) = false := decide_eq_false c9
            have c9b1 : decide (40 < ((rd_T25 l0 x13_1).f0).size) = false := decide_eq_false (by omega)
            clear c9
            by_cases c12 : x13_1 > 19
            · rw [if_pos c12] at H
              have c12b0 : decide (19 < x13_1) = true := decide_eq_true c12
              clear c12
              replace H := Option.bind_eq_some_iff.mp H
              obtain ⟨t263, A130, H⟩ := H
              replace H : (some t263) = some r := H
              have A13 := Aside0.mk A130
              clear A130
              obtain rfl := Option.some.inj H
              have p261 : 0 ≤ (x13_1 : Int) := of_decide_eq_true (by first | (with_reducible assumption) | assumption)
              have q261 : x13_1 < (l0.length : Int) := of_decide_eq_true (by first | (with_reducible assumption) | assumption)
              obtain ⟨ad261, e261, hx261_0, hx261_1, hx261_2⟩ := at_T25 HR0.out x13_1 p261 q261
              cases e261
              try replace hx261_0 := (HB.out.cell (World.block_lt_of_cell? w _ hx261_0)).trans hx261_0
              try replace hx261_1 := (HB.out.cell (World.block_lt_of_cell? w _ hx261_1)).trans hx261_1
              try replace hx261_2 := (HB.out.cell (World.block_lt_of_cell? w _ hx261_2)).trans hx261_2
              replace p261 := eq_true p261
              replace q261 := eq_true q261
              go_wp2_with (first | ((with_reducible refine gate_callee (f := 7) rfl ?_); refine goesL_ (some 47) rfl rfl Tryd.func7 (by kernel_rfl) rfl #[] rfl (by (try simp only [List.map_toArray, List.map_cons, List.map_nil]); first | done | rfl | (simp only [List.length_drop, List.length_take]; rfl)) ?_; (with_reducible refine (cippuslaw07_found.calls k1  t263 _ A13.out).mono ?_); rintro e w14 ⟨rfl, hb⟩; refine ⟨_, rfl, ?_⟩; have n0_ := Aside0.mk (below_step (by repeat (first | (with_reducible first | exact HB.out | apply below_alloc | apply pw_below_drewN | apply below_drew1) | exact HB.out)) hb); clear HB; have HB := n0_; clear n0_; (try clear hb); (try clear hb2); (try clear hk); (try clear hi)))
              go_ret
              exact ⟨by first | rfl | (simp [errW_none, errW_some] <;> rfl) | (simp [*, errW_none, errW_some] <;> rfl), by repeat (first | (with_reducible first | exact HB.out | apply below_alloc | apply pw_below_drewN | apply below_drew1) | exact HB.out)⟩
            · rw [if_neg c12] at H
              have c12b0 : decide (19 < x13_1) = false := decide_eq_false c12
              clear c12
              have H' := Aside0.mk H
              clear H
              have p261 : 0 ≤ (x13_1 : Int) := of_decide_eq_true (by first | (with_reducible assumption) | assumption)
              have q261 : x13_1 < (l0.length : Int) := of_decide_eq_true (by first | (with_reducible assumption) | assumption)
              obtain ⟨ad261, e261, hx261_0, hx261_1, hx261_2⟩ := at_T25 HR0.out x13_1 p261 q261
              cases e261
              try replace hx261_0 := (HB.out.cell (World.block_lt_of_cell? w _ hx261_0)).trans hx261_0
              try replace hx261_1 := (HB.out.cell (World.block_lt_of_cell? w _ hx261_1)).trans hx261_1
              try replace hx261_2 := (HB.out.cell (World.block_lt_of_cell? w _ hx261_2)).trans hx261_2
              replace p261 := eq_true p261
              replace q261 := eq_true q261
              go_wp2
              go_roundg k1
              case measure => have := HK1.out; omega
              case rel => exact ⟨(wrap64 (x13_1 + 1)), (by first | rfl | (simp; done) | (simp [*]; done)), H', ⟨by have := HK1.out; omega⟩, ⟨by repeat (first | (with_reducible first | exact HB.out | apply below_alloc | apply pw_below_drewN | apply below_drew1) | exact HB.out)⟩⟩
        · rw [if_neg c8] at H
          exact absurd H (by simp)
      · rw [if_neg c7] at H
        have c7b0 : decide (x13_1 < (l0.length : Int)) = false := decide_eq_false c7
        clear c7
        have HC15 := Aside0.mk H
        clear H
        go_upto_region 6 with (fail)
        go_cut [55] (fun v55 wc => ∃ (kq : Nat) (x55_14 : Bool), v55 = .bool x55_14 ∧ Aside0 (cippuslaw07_StemmaTexts.j1 kq l0 a1 l2 a3 a4 a5 x55_14 = some r) ∧ Aside0 (kq ≤ k1) ∧ Aside0 (Below w.heap.size w wc))
        case first =>
          have H := HC15.out
          clear HC15
          by_cases c16 : (a1.size : Int) > 150
          · rw [if_pos c16] at H
            have c16b0 : decide (150 < (a1.size : Int)) = true := decide_eq_true c16
            have c16b1 : decide (150 < a1.size) = true := decide_eq_true (by omega)
            clear c16
            (first | rw [c16b0] | (simp only [i64_w, i32_w]; rw [c16b0]) | skip)
            have H' := Aside0.mk H
            clear H
            go_wp2
            go_meet
            case rel => exact ⟨_, (decide ((a1.size : Int) ≤ 200)), (by first | rfl | (simp; done) | (simp [*]; done)), H', ⟨by have := HK1.out; first | omega | exact Nat.le_refl _⟩, ⟨by repeat (first | (with_reducible first | exact HB.out | apply below_alloc | apply pw_below_drewN | apply below_drew1) | exact HB.out)⟩⟩
          · rw [if_neg c16] at H
            have c16b0 : decide (150 < (a1.size : Int)) = false := decide_eq_false c16
            have c16b1 : decide (150 < a1.size) = false := decide_eq_false (by omega)
            clear c16
            (first | rw [c16b0] | (simp only [i64_w, i32_w]; rw [c16b0]) | skip)
            have H' := Aside0.mk H
            clear H
            go_wp2
            go_meet
            case rel => exact ⟨_, (false), (by first | rfl | (simp; done) | (simp [*]; done)), H', ⟨by have := HK1.out; first | omega | exact Nat.le_refl _⟩, ⟨by repeat (first | (with_reducible first | exact HB.out | apply below_alloc | apply pw_below_drewN | apply below_drew1) | exact HB.out)⟩⟩
        case rest =>
          clear HC15
          try clear c1
          try clear c2
          try clear p2
          try clear q2
          try clear hx2
          try clear c4
          try clear p6
          try clear c7
          try clear c7b0
          try clear c8
          try clear c8b0
          try clear c9
          try clear c9b0
          try clear c9b1
          try clear c12
          try clear c12b0
          try clear c16
          try clear c16b0
          try clear c16b1
          try clear hx261_0
          try clear hx261_1
          try clear hx261_2
          try clear p2
          try clear p261
          try clear q261
          obtain ⟨kq, x55_14, rfl, HA, HJ14, HB⟩ := hcut
          cases kq with
          | zero => exact absurd HA.out (by simp [cippuslaw07_StemmaTexts.j1])
          | succ kj14 =>
            have H := HA.out
            clear HA
            simp only [cippuslaw07_StemmaTexts.j1] at H
            by_cases c17 : x55_14 = true
            · subst c17
              have H1 : ((cippuslaw07_found.f kj14).bind fun t264 => (some t264)) = some r := by rw [if_pos rfl] at H; exact H
              clear H
              have H := H1
              clear H1
              replace H := Option.bind_eq_some_iff.mp H
              obtain ⟨t264, A180, H⟩ := H
              replace H : (some t264) = some r := H
              have A18 := Aside0.mk A180
              clear A180
              obtain rfl := Option.some.inj H
              go_wp2_with (first | ((with_reducible refine gate_callee (f := 7) rfl ?_); refine goesL_ (some 56) rfl rfl Tryd.func7 (by kernel_rfl) rfl #[] rfl (by (try simp only [List.map_toArray, List.map_cons, List.map_nil]); first | done | rfl | (simp only [List.length_drop, List.length_take]; rfl)) ?_; (with_reducible refine (cippuslaw07_found.calls kj14  t264 _ A18.out).mono ?_); rintro e w19 ⟨rfl, hb⟩; refine ⟨_, rfl, ?_⟩; have n0_ := Aside0.mk (below_step (by repeat (first | (with_reducible first | exact HB.out | apply below_alloc | apply pw_below_drewN | apply below_drew1) | exact HB.out)) hb); clear HB; have HB := n0_; clear n0_; (try clear hb); (try clear hb2); (try clear hk); (try clear hi)))
              go_ret
              exact ⟨by first | rfl | (simp [errW_none, errW_some] <;> rfl) | (simp [*, errW_none, errW_some] <;> rfl), by repeat (first | (with_reducible first | exact HB.out | apply below_alloc | apply pw_below_drewN | apply below_drew1) | exact HB.out)⟩
            · replace c17 := Bool.eq_false_iff.mpr c17
              subst c17
              have H1 : ((cippuskit_NewUrn.f l2).bind fun bt265 => ((cippuskit_CopiesOf.f bt265.1 bt265.2 5 8 3).bind fun bt268 => ((cippuslaw07_everyT.f l0 bt268.1 a1 a3 a4 a5).bind fun t278 => ((cippuslaw07_found.f kj14).bind fun t279 => (some t279))))) = some r := by rw [if_neg (show ¬ (false = true) by decide)] at H; exact H
              clear H
              have H := H1
              clear H1
              replace H := Option.bind_eq_some_iff.mp H
              obtain ⟨⟨t265, t266⟩, A200, H⟩ := H
              replace H : ((cippuskit_CopiesOf.f t265 t266 5 8 3).bind fun bt268 => ((cippuslaw07_everyT.f l0 bt268.1 a1 a3 a4 a5).bind fun t278 => ((cippuslaw07_found.f kj14).bind fun t279 => (some t279)))) = some r := H
              have A20 := Aside0.mk A200
              clear A200
              replace H := Option.bind_eq_some_iff.mp H
              obtain ⟨⟨t268, t271, t272, t275, t276⟩, A210, H⟩ := H
              replace H : ((cippuslaw07_everyT.f l0 t268 a1 a3 a4 a5).bind fun t278 => ((cippuslaw07_found.f kj14).bind fun t279 => (some t279))) = some r := H
              have A21 := Aside0.mk A210
              clear A210
              replace H := Option.bind_eq_some_iff.mp H
              obtain ⟨t278, A220, H⟩ := H
              replace H : ((cippuslaw07_found.f kj14).bind fun t279 => (some t279)) = some r := H
              have A22 := Aside0.mk A220
              clear A220
              replace H := Option.bind_eq_some_iff.mp H
              obtain ⟨t279, A230, H⟩ := H
              replace H : (some t279) = some r := H
              have A23 := Aside0.mk A230
              clear A230
              obtain rfl := Option.some.inj H
              obtain ⟨hN0, hN1, hr_⟩ := Pure.everyT_some A22.out
              subst hr_
              go_upto_region 9 with (first | ((with_reducible refine gate_callee (f := 18) rfl ?_); refine goesL_ (some 59) rfl rfl Tryd.func18 (by kernel_rfl) rfl #[.slice A2 l2.length c2] rfl (by (try simp only [List.map_toArray, List.map_cons, List.map_nil]); first | done | rfl | (simp only [List.length_drop, List.length_take]; rfl)) ?_; (with_reducible refine (cippuskit_NewUrn.calls _ _ l2 t265 t266 w _ ?side1 ?side2 ?side3 A20.out).mono ?_); (case side1 => repeat (first | (with_reducible first | exact HB.out | apply below_alloc | apply pw_below_drewN | apply below_drew1) | exact HB.out)); (case side2 => exact HR2.out); (case side3 => exact HC2.out); rintro e w24 ⟨g267, rfl, hi, hb, hb2⟩; refine ⟨_, rfl, ?_⟩; have n0_ := Aside0.mk (hb); have n1_ := Aside0.mk (hi); clear HB; have HB := n0_; have HI267 := n1_; clear n0_ n1_; (try clear hb); (try clear hb2); (try clear hk); (try clear hi)) | ((with_reducible refine gate_callee (f := 17) rfl ?_); refine goesL_ (some 60) rfl rfl Tryd.func17 (by kernel_rfl) rfl #[.pointer (some ⟨g267, 0, none⟩), .int .i64 5, .int .i64 8, .int .i64 3] rfl (by (try simp only [List.map_toArray, List.map_cons, List.map_nil]); first | done | rfl | (simp only [List.length_drop, List.length_take]; rfl)) ?_; (with_reducible refine (cippuskit_CopiesOf.calls g267 t265 t266 5 8 3 t268 t271 t272 t275 t276 w _ ?side1 ?side2 A21.out).mono ?_); (case side1 => repeat (first | (with_reducible first | exact HI267.out | apply IsS87.alloc | apply IsS87.drewN | apply IsS87.drew | apply IsS87.set_0 | apply IsS87.set_1) | exact HI267.out)); (case side2 => repeat (first | (with_reducible first | exact HB.out | apply below_alloc | apply pw_below_drewN | apply below_drew1 | refine below_set ?_ (IsS87.ge HI267.out)) | exact HB.out)); rintro e w25 ⟨v269, v273, rfl, ho0, ho1, hi, hb, hk⟩; refine ⟨_, rfl, ?_⟩; have n0_ := Aside0.mk (Kd.R_lower ho0 (below_size (by repeat (first | (with_reducible first | exact HB.out | apply below_alloc | apply pw_below_drewN | apply below_drew1 | refine below_set ?_ (IsS87.ge HI267.out)) | exact HB.out)))); have n1_ := Aside0.mk (Kd.R_lower ho1 (below_size (by repeat (first | (with_reducible first | exact HB.out | apply below_alloc | apply pw_below_drewN | apply below_drew1 | refine below_set ?_ (IsS87.ge HI267.out)) | exact HB.out)))); have n2_ := Aside0.mk (hb); have n3_ := Aside0.mk (hi); clear HB; clear HI267; have HO270 := n0_; have HO274 := n1_; have HB := n2_; have HI267 := n3_; clear n0_ n1_ n2_ n3_; (try clear hb); (try clear hb2); (try clear hk); (try clear hi); (try clear ho0); (try clear ho1)) | ((with_reducible refine gate_dst (N := 15) rfl ?_); (try (refine gate_guard (by rfl) ?_; dsimp only)); refine box_event ?hg (N := 15) ?hd (cs := #[.string (⟨#[]⟩ : ByteArray), .slice none 0 0]) (t := 44) ?hr ?_; (case hd => rfl); (case hg => rfl); (case hr => first | (go_simp; done) | (go_simp; rfl)); intro gb277 hg w26 hbox hb; have n0_ := Aside0.mk (Kd.R_below (by (with_reducible repeat (first | apply Kd.R_alloc | apply Kd.R_drewN | apply Kd.R_drew)); exact HO270.out) hb); have n1_ := Aside0.mk (Kd.R_below (by (with_reducible repeat (first | apply Kd.R_alloc | apply Kd.R_drewN | apply Kd.R_drew)); exact HO274.out) hb); have n2_ := Aside0.mk (IsS87.below (by repeat (first | (with_reducible first | exact HI267.out | apply IsS87.alloc | apply IsS87.drewN | apply IsS87.drew | apply IsS87.set_0 | apply IsS87.set_1) | exact HI267.out)) hb); have n3_ := Aside0.mk (below_step (by repeat (first | (with_reducible first | exact HB.out | apply below_alloc | apply pw_below_drewN | apply below_drew1 | refine below_set ?_ (IsS87.ge HI267.out)) | exact HB.out)) hb); have n4_ := Aside0.mk (hbox); have n5_ := Aside0.mk ((by rw [hg]; exact (below_size (by repeat (first | (with_reducible first | exact HB.out | apply below_alloc | apply pw_below_drewN | apply below_drew1 | refine below_set ?_ (IsS87.ge HI267.out)) | exact HB.out))) : w.heap.size ≤ gb277)); have n6_ := Aside0.mk ((by rw [hg]; exact (below_size (by repeat (first | (with_reducible first | exact HB.out | apply below_alloc | apply pw_below_drewN | apply below_drew1 | refine below_set ?_ (IsS87.ge HI267.out)) | exact HB.out))) : w.heap.size ≤ gb277)); have n7_ := Aside0.mk ((by rw [hg]; exact Nat.ne_of_lt (IsS87.lt (show IsS87 w _ g267 t275 t276 from by repeat (first | (with_reducible first | exact HI267.out | apply IsS87.alloc | apply IsS87.drewN | apply IsS87.drew | apply IsS87.set_0 | apply IsS87.set_1) | exact HI267.out))) : g267 ≠ gb277)); have n8_ := Aside0.mk ((by rw [hg]; exact Nat.ne_of_gt (IsS87.lt (show IsS87 w _ g267 t275 t276 from by repeat (first | (with_reducible first | exact HI267.out | apply IsS87.alloc | apply IsS87.drewN | apply IsS87.drew | apply IsS87.set_0 | apply IsS87.set_1) | exact HI267.out))) : gb277 ≠ g267)); clear HO270; clear HO274; clear HI267; clear HB; have HO270 := n0_; have HO274 := n1_; have HI267 := n2_; have HB := n3_; have BK277 := n4_; have GW277 := n5_; have GE277 := n6_; have NB267_277 := n7_; have NB277_267 := n8_; clear n0_ n1_ n2_ n3_ n4_ n5_ n6_ n7_ n8_; clear hb hbox hg; have hnb27 := NB277_267.out; have hnc27 := NB267_277.out; have hcz28_0 : w26.cell? ⟨gb277, 0, none⟩ = some (.string (⟨#[]⟩ : ByteArray)) := (blk_cell BK277.out 0).trans rfl; have hcz28_1 : w26.cell? ⟨gb277, 1, none⟩ = some (.slice none 0 0) := (blk_cell BK277.out 1).trans rfl; have hfz28_0 := blk_frozen BK277.out 0; have hfz28_1 := blk_frozen BK277.out 1; obtain ⟨Ao29, co29, eo29⟩ := Kd.R_slice HO274.out; subst eo29; obtain ⟨Ao30, co30, eo30⟩ := Kd.R_slice HO270.out; subst eo30))
              obtain ⟨wc, hwc⟩ : ∃ wc, wc = (w26.setCell ⟨gb277, 0, none⟩ (.string t271)).setCell ⟨gb277, 1, none⟩ (.slice Ao29 t272.length co29) := ⟨_, rfl⟩
              have HBw0 : Aside0 (Below w.heap.size w wc) := ⟨by rw [hwc]; repeat (first | (with_reducible first | exact HB.out | apply below_alloc | apply pw_below_drewN | apply below_drew1 | refine below_set ?_ (IsS87.ge HI267.out) | refine below_set ?_ GE277.out) | exact HB.out)⟩
              have HOm : Aside0 (Kd.R k25 25 wc w.heap.size (fun k_ => True) (.slice Ao30 t268.length co30) t268) := ⟨by rw [hwc]; exact (by (with_reducible repeat (first | apply Kd.R_alloc | apply Kd.R_drewN | apply Kd.R_drew)); exact (Kd.R_mono (Kd.R_far (p := ⟨gb277, 1, none⟩) (Kd.R_far (p := ⟨gb277, 0, none⟩) (Kd.R_types HO270.out BK277.out (by decide)) (fun _ hk => hk.2) (.string t271)) (fun _ hk => hk.2) (.slice Ao29 t272.length co29)) (fun _ h_ => h_.1)))⟩
              rw [← hwc]
              clear hwc HB HO270 HO274 HI267 BK277 GW277 GE277 NB267_277 NB277_267
              obtain ⟨y278, hy278⟩ : ∃ y_ : List ByteArray, y_ = (([a1] : List ByteArray)) := ⟨_, rfl⟩
              have Ny278 := Aside0.mk hy278
              clear hy278
              have HBq := Aside0.mk (Below.refl (wc.alloc (.cells #[Value.slice A0 l0.length c0, Value.slice Ao30 t268.length co30] 22)).heap.size (wc.alloc (.cells #[Value.slice A0 l0.length c0, Value.slice Ao30 t268.length co30] 22)))
              go_upto_block 2 with (((with_reducible refine gate_dst (N := 67) rfl ?_); refine Kd.R_lit Kd.string _ 9 ?hg (N := 67) ?hd (xs := ([a1] : List ByteArray)) (inner := [.string a1]) (ok := fun _ => True) (okp := fun _ => True) ?hr ?hp (fun _ hk => hk) trivial (Below.refl _ _) (Nat.le_refl _) (by simp) ?_; (case hd => rfl); (case hg => rfl); (case hr => first | (go_simp; done) | (go_simp; rfl)); (case hp => exact (Reps.one (show Kd.M Kd.string _ _ _ a1 [.string a1] from rfl) (Reps.none _ _))); intro v279 w7 ho8 hb hg_ hnew_; clear hg_ hnew_; (first | rw [← Ny278.out] at ho8 | (simp only [Int.reduceToNat] at ho8; rw [← Ny278.out] at ho8)); have n0_ := Aside0.mk (Kd.R_lower ho8 (below_size (by repeat (first | (with_reducible first | exact HBq.out | apply below_alloc | apply pw_below_drewN | apply below_drew1) | exact HBq.out)))); have n1_ := Aside0.mk (below_step (by repeat (first | (with_reducible first | exact HBq.out | apply below_alloc | apply pw_below_drewN | apply below_drew1) | exact HBq.out)) hb); clear HBq; have HO280 := n0_; have HBq := n1_; clear n0_ n1_; clear hb ho8))
              obtain ⟨ls, hls⟩ : ∃ ls : List (List S25), ls = [l0, t268] := ⟨_, rfl⟩
              have hlen : ls.length = 2 := by rw [hls]; rfl
              have HBw := Aside0.mk (below_alloc HBw0.out (.cells #[Value.slice A0 l0.length c0, Value.slice Ao30 t268.length co30] 22))
              have HRa : Aside0 (Kd.C (Kd.slice 25 k25) (wc.alloc (.cells #[Value.slice A0 l0.length c0, Value.slice Ao30 t268.length co30] 22)) (some ⟨wc.heap.size, 0, none⟩) ls.length ls) := ⟨by
                rw [hls]
                refine all_C (t := 22) (vs := [Value.slice A0 l0.length c0, Value.slice Ao30 t268.length co30]) (blk_new _ _) rfl (by simp) (fun j x hx => ?_)
                rcases j with _ | _ | j
                · have hx : l0 = x := by simpa using hx
                  subst hx
                  exact ⟨_, _, rfl, HC0.out, Kd.C_alloc (Kd.C_below HR0.out HBw0.out) _⟩
                · have hx : t268 = x := by simpa using hx
                  subst hx
                  exact ⟨_, _, rfl, (Kd.R_reads' HOm.out).2.1, Kd.C_alloc (Kd.R_reads' HOm.out).2.2 _⟩
                · simp at hx⟩
              have HCa : Aside0 (ls.length ≤ 2) := ⟨by omega⟩
              obtain ⟨kz, HZ⟩ := (Pure.loopT_ev l0 t268 a1 a3 a4 a5).rounds
              have H : (cippuslaw07_loopT.l0 kz ls a3 a4 a5 y278 0) = some true := by rw [hls, Ny278.out]; exact HZ
              clear HZ hN0 hN1
              have H' := Aside0.mk H
              clear H
              rw [show (Value.slice (some ⟨wc.heap.size, 0, none⟩) 2 2) = Value.slice (some ⟨wc.heap.size, 0, none⟩) ls.length 2 by rw [hlen]]
              obtain ⟨Aa, hAa⟩ : ∃ Aa : Option Addr, Aa = some ⟨wc.heap.size, 0, none⟩ := ⟨_, rfl⟩
              rw [← hAa] at HRa ⊢
              clear hAa hls hlen HBw0 HOm
              generalize wc.alloc (.cells #[Value.slice A0 l0.length c0, Value.slice Ao30 t268.length co30] 22) = wq at HBw HRa HBq HO280 ⊢
              have HB := HBq
              clear HBq
              go_wp2_with fail
              go_loopg [17, 18] kz (fun kq v17 v18 w' => ∃ (x17_1 : List ByteArray) (x18_1 : Int), v18 = .int .i64 x18_1 ∧ Aside0 (cippuslaw07_loopT.l0 kq ls a3 a4 a5 x17_1 x18_1 = some true) ∧ Aside0 (kq ≤ kz) ∧ Aside0 (Kd.R Kd.string 9 w' wq.heap.size (fun _ => True) v17 x17_1) ∧ Aside0 (Below wq.heap.size wq w'))
              case atStart => exact ⟨(y278), (0), (by first | rfl | (simp; done) | (simp [*]; done)), H', ⟨Nat.le_refl _⟩, ⟨by (with_reducible repeat (first | apply Kd.R_alloc | apply Kd.R_drewN | apply Kd.R_drew)); exact HO280.out⟩, ⟨by repeat (first | (with_reducible first | exact HB.out | apply below_alloc | apply pw_below_drewN | apply below_drew1) | exact HB.out)⟩⟩
              case round =>
                clear H'
                try clear c1
                try clear c2
                try clear p2
                obtain ⟨x17_1, x18_1, rfl, HA, HK1, HO_17, HB⟩ := hrel
                cases gk with
                | zero => exact absurd HA.out (by simp [cippuslaw07_loopT.l0])
                | succ k1 =>
                  have H := HA.out
                  clear HA
                  simp only [cippuslaw07_loopT.l0] at H
                  by_cases c9 : x18_1 < (ls.length : Int)
                  · rw [if_pos c9] at H
                    have c9b0 : decide (x18_1 < (ls.length : Int)) = true := decide_eq_true c9
                    clear c9
                    by_cases c10 : 0 ≤ x18_1
                    · rw [if_pos c10] at H
                      have c10b0 : decide (0 ≤ x18_1) = true := decide_eq_true c10
                      clear c10
                      replace H := Option.bind_eq_some_iff.mp H
                      obtain ⟨⟨t282, t283⟩, A110, H⟩ := H
                      replace H : ((cippusref07_Write.f k1 (rd_L6 ls x18_1)).bind fun bt285 => (if t282.toList = bt285.1.toList then (if t283 = bt285.2 then (if x17_1.length < 8796093022208 then (cippuslaw07_loopT.l0 k1 ls a3 a4 a5 (x17_1 ++ [bt285.1]) (wrap64 (x18_1 + 1))) else (none)) else (some false)) else (some false))) = some true := H
                      have A11 := Aside0.mk A110
                      clear A110
                      replace H := Option.bind_eq_some_iff.mp H
                      obtain ⟨⟨t285, t286⟩, A120, H⟩ := H
                      replace H : (if t282.toList = t285.toList then (if t283 = t286 then (if x17_1.length < 8796093022208 then (cippuslaw07_loopT.l0 k1 ls a3 a4 a5 (x17_1 ++ [t285]) (wrap64 (x18_1 + 1))) else (none)) else (some false)) else (some false)) = some true := H
                      have A12 := Aside0.mk A120
                      clear A120
                      by_cases c13 : t282.toList = t285.toList
                      · rw [if_pos c13] at H
                        have c13b0 : (t282.toList == t285.toList) = true := beq_iff_eq.mpr c13
                        have c13b1 : (t282.toList != t285.toList) = false := bne_eq_false_iff_eq.mpr c13
                        clear c13
                        by_cases c14 : t283 = t286
                        · rw [if_pos c14] at H
                          have c14b0 : (t283 == t286) = true := beq_iff_eq.mpr c14
                          have c14b1 : (t283 != t286) = false := bne_eq_false_iff_eq.mpr c14
                          clear c14
                          by_cases c15 : x17_1.length < 8796093022208
                          · rw [if_pos c15] at H
                            have LMc15 := Aside0.mk c15
                            clear c15
                            obtain ⟨y287, hy287⟩ : ∃ y_ : List ByteArray, y_ = (x17_1 ++ [t285]) := ⟨_, rfl⟩
                            replace H : (cippuslaw07_loopT.l0 k1 ls a3 a4 a5 y287 (wrap64 (x18_1 + 1))) = some true := by first | (rw [hy287]; with_reducible exact H) | (have H2_ := (Option.bind_some _ _).symm.trans H; rw [hy287]; with_reducible exact H2_) | (have H2_ := (Option.bind_some _ _).symm.trans H; with_reducible exact H2_) | with_reducible exact H | (rw [hy287]; exact H) | exact H
                            have Ny287 := Aside0.mk hy287
                            clear hy287
                            have H' := Aside0.mk H
                            clear H
                            have p281 : 0 ≤ (x18_1 : Int) := of_decide_eq_true (by first | (with_reducible assumption) | assumption)
                            have q281 : x18_1 < (ls.length : Int) := of_decide_eq_true (by first | (with_reducible assumption) | assumption)
                            obtain ⟨ad281, A281_0, c281_0, e281, hx281_0, hl281_0, hi281_0⟩ := at_L6 HRa.out x18_1 p281 q281
                            cases e281
                            try replace hx281_0 := (HB.out.cell (World.block_lt_of_cell? wq _ hx281_0)).trans hx281_0
                            have HR281_0 := Aside0.mk hi281_0
                            have HC281_0 := Aside0.mk hl281_0
                            clear hi281_0 hl281_0
                            replace p281 := eq_true p281
                            replace q281 := eq_true q281
                            go_wp2_with (first | ((with_reducible refine gate_callee (f := 15) rfl ?_); refine goesL_ (some 79) rfl rfl Tryd.func15 (by kernel_rfl) rfl #[.slice A281_0 (rd_L6 ls x18_1).length c281_0] rfl (by (try simp only [List.map_toArray, List.map_cons, List.map_nil]); first | done | rfl | (simp only [List.length_drop, List.length_take]; rfl)) ?_; (with_reducible refine (stemma_Write.calls k1 _ _ (rd_L6 ls x18_1) t282 t283 _ ?side1 ?side2 A11.out).mono ?_); (case side1 => repeat (first | exact (Kd.C_below HR281_0.out HB.out) | (with_reducible refine Kd.C_alloc ?_ _) | (with_reducible refine Kd.C_drewN ?_ _) | (with_reducible refine Kd.C_drew ?_))); (case side2 => exact HC281_0.out); rintro e w16 ⟨rfl, hb⟩; refine ⟨_, rfl, ?_⟩; have n0_ := Aside0.mk (Kd.R_below (by (with_reducible repeat (first | apply Kd.R_alloc | apply Kd.R_drewN | apply Kd.R_drew)); exact HO_17.out) hb); have n1_ := Aside0.mk (below_step (by repeat (first | (with_reducible first | exact HB.out | apply below_alloc | apply pw_below_drewN | apply below_drew1) | exact HB.out)) hb); clear HO_17; clear HB; have HO_17 := n0_; have HB := n1_; clear n0_ n1_; (try clear hb); (try clear hb2); (try clear hk); (try clear hi); have p284 : 0 ≤ (x18_1 : Int) := of_decide_eq_true (by first | (with_reducible assumption) | assumption); have q284 : x18_1 < (ls.length : Int) := of_decide_eq_true (by first | (with_reducible assumption) | assumption); obtain ⟨ad284, A284_0, c284_0, e284, hx284_0, hl284_0, hi284_0⟩ := at_L6 HRa.out x18_1 p284 q284; obtain rfl : ad281 = ad284 := (by injection e284); replace hx284_0 := (HB.out.cell (World.block_lt_of_cell? wq _ hx284_0)).trans hx284_0; have HR284_0 := Aside0.mk hi284_0; have HC284_0 := Aside0.mk hl284_0; clear hi284_0 hl284_0; replace p284 := eq_true p284; replace q284 := eq_true q284) | ((with_reducible refine gate_callee (f := 19) rfl ?_); refine goesL_ (some 87) rfl rfl Tryd.func19 (by kernel_rfl) rfl #[.slice A284_0 (rd_L6 ls x18_1).length c284_0] rfl (by (try simp only [List.map_toArray, List.map_cons, List.map_nil]); first | done | rfl | (simp only [List.length_drop, List.length_take]; rfl)) ?_; (with_reducible refine (cippusref07_Write.calls k1 _ _ (rd_L6 ls x18_1) t285 t286 _ ?side1 ?side2 A12.out).mono ?_); (case side1 => repeat (first | exact (Kd.C_below HR284_0.out HB.out) | (with_reducible refine Kd.C_alloc ?_ _) | (with_reducible refine Kd.C_drewN ?_ _) | (with_reducible refine Kd.C_drew ?_))); (case side2 => exact HC284_0.out); rintro e w17 ⟨rfl, hb⟩; refine ⟨_, rfl, ?_⟩; have n0_ := Aside0.mk (Kd.R_below (by (with_reducible repeat (first | apply Kd.R_alloc | apply Kd.R_drewN | apply Kd.R_drew)); exact HO_17.out) hb); have n1_ := Aside0.mk (below_step (by repeat (first | (with_reducible first | exact HB.out | apply below_alloc | apply pw_below_drewN | apply below_drew1) | exact HB.out)) hb); clear HO_17; clear HB; have HO_17 := n0_; have HB := n1_; clear n0_ n1_; (try clear hb); (try clear hb2); (try clear hk); (try clear hi)) | ((with_reducible refine gate_builtin (b := .append) (xs := #[.tmp 98, .tmp 100]) rfl ?_); at_builtin; refine Kd.R_append Kd.string (w0 := wq) wq.heap.size rfl (.tmp 98) (.tmp 100) 36 9 (.string ⟨#[]⟩) 16 rfl Tryd.underlying36 info9 rfl (by decide) (by omega) u17 x17_1 t285 [.string t285] (fun _ => True) (fun _ => False) rfl rfl ?aP (fun _ hk => hk.elim) ?aF ?aO ?aB ?aS ?aL ?_; (case aP => exact rfl); (case aB => exact (by repeat (first | (with_reducible first | exact HB.out | apply below_alloc | apply pw_below_drewN | apply below_drew1) | exact HB.out))); (case aF => exact (fun _ _ => trivial)); (case aO => exact (by (with_reducible repeat (first | apply Kd.R_alloc | apply Kd.R_drewN | apply Kd.R_drew)); exact HO_17.out)); (case aS => exact (below_size (by repeat (first | (with_reducible first | exact HB.out | apply below_alloc | apply pw_below_drewN | apply below_drew1) | exact HB.out)))); (case aL => have := LMc15.out; omega); intro v288 w18 ho hb hg hat; rw [← Ny287.out] at ho; have n0_ := Aside0.mk (hb); have n1_ := Aside0.mk (ho); clear HB; clear HO_17; have HB := n0_; have HO289 := n1_; clear n0_ n1_; clear ho hb hg hat))
                            go_roundg k1
                            case measure => have := HK1.out; omega
                            case rel => exact ⟨(y287), (wrap64 (x18_1 + 1)), (by first | rfl | (simp; done) | (simp [*]; done)), H', ⟨by have := HK1.out; omega⟩, ⟨by (with_reducible repeat (first | apply Kd.R_alloc | apply Kd.R_drewN | apply Kd.R_drew)); exact HO289.out⟩, ⟨by repeat (first | (with_reducible first | exact HB.out | apply below_alloc | apply pw_below_drewN | apply below_drew1) | exact HB.out)⟩⟩
                          · rw [if_neg c15] at H
                            exact absurd H (by simp)
                        · rw [if_neg c14] at H
                          have c14b0 : (t283 == t286) = false := beq_eq_false_iff_ne.mpr c14
                          have c14b1 : (t283 != t286) = true := bne_iff_ne.mpr c14
                          exact absurd (Option.some.inj H) (by decide)
                      · rw [if_neg c13] at H
                        have c13b0 : (t282.toList == t285.toList) = false := beq_eq_false_iff_ne.mpr c13
                        have c13b1 : (t282.toList != t285.toList) = true := bne_iff_ne.mpr c13
                        exact absurd (Option.some.inj H) (by decide)
                    · rw [if_neg c10] at H
                      exact absurd H (by simp)
                  · rw [if_neg c9] at H
                    have c9b0 : decide (x18_1 < (ls.length : Int)) = false := decide_eq_false c9
                    clear c9
                    by_cases c23 : 2 < (x17_1.length : Int)
                    · rw [if_pos c23] at H
                      have c23b0 : decide (2 < (x17_1.length : Int)) = true := decide_eq_true c23
                      have c23b1 : decide (2 < x17_1.length) = true := decide_eq_true (by omega)
                      clear c23
                      replace H := Option.bind_eq_some_iff.mp H
                      obtain ⟨t291, A240, H⟩ := H
                      replace H : (if x17_1.length < 8796093022208 then (cippuslaw07_loopT.l1 k1 (x17_1 ++ [t291]) 0) else (none)) = some true := H
                      have A24 := Aside0.mk A240
                      clear A240
                      by_cases c25 : x17_1.length < 8796093022208
                      · rw [if_pos c25] at H
                        have LMc25 := Aside0.mk c25
                        clear c25
                        obtain ⟨y292, hy292⟩ : ∃ y_ : List ByteArray, y_ = (x17_1 ++ [t291]) := ⟨_, rfl⟩
                        replace H : (cippuslaw07_loopT.l1 k1 y292 0) = some true := by first | (rw [hy292]; with_reducible exact H) | (have H2_ := (Option.bind_some _ _).symm.trans H; rw [hy292]; with_reducible exact H2_) | (have H2_ := (Option.bind_some _ _).symm.trans H; with_reducible exact H2_) | with_reducible exact H | (rw [hy292]; exact H) | exact H
                        have Ny292 := Aside0.mk hy292
                        clear hy292
                        have H' := Aside0.mk H
                        clear H
                        obtain ⟨Ao26, co26, eo26⟩ := Kd.R_slice HO_17.out
                        subst eo26
                        have p290 : 0 ≤ (2 : Int) := (by omega)
                        have q290 : 2 < (x17_1.length : Int) := of_decide_eq_true (by first | (with_reducible assumption) | assumption)
                        obtain ⟨ad290, e290, hx290_0⟩ := Kd.at_string (Kd.R_reads' HO_17.out).2.2 2 p290 q290
                        cases e290
                        (try simp only [show (2 : Int).toNat = 2 from rfl, Nat.reduceMul, Nat.reduceEqDiff, Go.Addr.add, ↓reduceIte] at hx290_0)
                        have qi290 : (2 < x17_1.length) = True := eq_true (by omega)
                        (try rw [show ((2 : Int)).toNat = 2 from rfl] at hx290_0)
                        replace p290 := eq_true p290
                        replace q290 := eq_true q290
                        go_wp2_with (first | ((with_reducible refine gate_callee (f := 20) rfl ?_); refine goesL_ (some 109) rfl rfl Tryd.func20 (by kernel_rfl) rfl #[.string (rdOf ByteArray.empty x17_1 2), .int .i64 a3, .int .i64 a4, .int .u8 a5] rfl (by (try simp only [List.map_toArray, List.map_cons, List.map_nil]); first | done | rfl | (simp only [List.length_drop, List.length_take]; rfl)) ?_; (with_reducible refine (cippuskit_Marred.calls (rdOf ByteArray.empty x17_1 2) a3 a4 a5 t291 _ A24.out).mono ?_); rintro e w27 ⟨rfl, hb⟩; refine ⟨_, rfl, ?_⟩; have n0_ := Aside0.mk (Kd.R_below (by (with_reducible repeat (first | apply Kd.R_alloc | apply Kd.R_drewN | apply Kd.R_drew)); exact HO_17.out) hb); have n1_ := Aside0.mk (below_step (by repeat (first | (with_reducible first | exact HB.out | apply below_alloc | apply pw_below_drewN | apply below_drew1) | exact HB.out)) hb); clear HO_17; clear HB; have HO_17 := n0_; have HB := n1_; clear n0_ n1_; (try clear hb); (try clear hb2); (try clear hk); (try clear hi)) | ((with_reducible refine gate_builtin (b := .append) (xs := #[.tmp 102, .tmp 110]) rfl ?_); at_builtin; refine Kd.R_append Kd.string (w0 := wq) wq.heap.size rfl (.tmp 102) (.tmp 110) 36 9 (.string ⟨#[]⟩) 16 rfl Tryd.underlying36 info9 rfl (by decide) (by omega) (.slice (some ad290) x17_1.length co26) x17_1 t291 [.string t291] (fun _ => True) (fun _ => False) rfl rfl ?aP (fun _ hk => hk.elim) ?aF ?aO ?aB ?aS ?aL ?_; (case aP => exact rfl); (case aB => exact (by repeat (first | (with_reducible first | exact HB.out | apply below_alloc | apply pw_below_drewN | apply below_drew1) | exact HB.out))); (case aF => exact (fun _ _ => trivial)); (case aO => exact (by (with_reducible repeat (first | apply Kd.R_alloc | apply Kd.R_drewN | apply Kd.R_drew)); exact HO_17.out)); (case aS => exact (below_size (by repeat (first | (with_reducible first | exact HB.out | apply below_alloc | apply pw_below_drewN | apply below_drew1) | exact HB.out)))); (case aL => have := LMc25.out; omega); intro v293 w28 ho hb hg hat; rw [← Ny292.out] at ho; have n0_ := Aside0.mk (hb); have n1_ := Aside0.mk (ho); clear HB; clear HO_17; have HB := n0_; have HO294 := n1_; clear n0_ n1_; clear ho hb hg hat))
                        go_loopg [23] k1 (fun kq v23 w' => ∃ (x23_2 : Int), v23 = .int .i64 x23_2 ∧ Aside0 (cippuslaw07_loopT.l1 kq y292 x23_2 = some true) ∧ Aside0 (kq ≤ k1) ∧ Aside0 (Kd.R Kd.string 9 w' wq.heap.size (fun _ => True) v293 y292) ∧ Aside0 (Below wq.heap.size wq w'))
                        case atStart => exact ⟨(0), (by first | rfl | (simp; done) | (simp [*]; done)), H', ⟨Nat.le_refl _⟩, ⟨by (with_reducible repeat (first | apply Kd.R_alloc | apply Kd.R_drewN | apply Kd.R_drew)); exact HO294.out⟩, ⟨by repeat (first | (with_reducible first | exact HB.out | apply below_alloc | apply pw_below_drewN | apply below_drew1) | exact HB.out)⟩⟩
                        case round =>
                          clear H'
                          try clear c1
                          try clear c2
                          try clear p2
                          try clear q2
                          try clear hx2
                          try clear qi2
                          try clear p6
                          try clear c9
                          try clear c9b0
                          try clear c10
                          try clear c10b0
                          try clear c11
                          try clear c13
                          try clear c13b0
                          try clear c13b1
                          try clear c14
                          try clear c14b0
                          try clear c14b1
                          try clear c15
                          try clear c19
                          try clear c20
                          try clear c23
                          try clear c23b0
                          try clear c23b1
                          try clear c25
                          try clear c28
                          try clear p28
                          try clear q28
                          try clear hx28
                          try clear hx281_0
                          try clear hx284_0
                          try clear hx290_0
                          try clear p2
                          try clear p281
                          try clear p284
                          try clear p290
                          try clear q281
                          try clear q284
                          try clear q290
                          obtain ⟨x23_2, rfl, HA, HK2, HO_17, HB⟩ := hrel
                          cases gk with
                          | zero => exact absurd HA.out (by simp [cippuslaw07_loopT.l1])
                          | succ k2 =>
                            have H := HA.out
                            clear HA
                            simp only [cippuslaw07_loopT.l1] at H
                            by_cases c29 : x23_2 < (y292.length : Int)
                            · rw [if_pos c29] at H
                              have c29b0 : decide (x23_2 < (y292.length : Int)) = true := decide_eq_true c29
                              clear c29
                              by_cases c30 : 0 ≤ x23_2
                              · rw [if_pos c30] at H
                                have c30b0 : decide (0 ≤ x23_2) = true := decide_eq_true c30
                                clear c30
                                replace H := Option.bind_eq_some_iff.mp H
                                obtain ⟨⟨t296, t297, t298⟩, A310, H⟩ := H
                                replace H : ((cippusref07_Read.f k2 (rdOf ByteArray.empty y292 x23_2)).bind fun bt302 => (if t297 = bt302.2.1 then (if t298 = bt302.2.2 then ((cippuskit_SameCopies.f k2 t296 bt302.1).bind fun t307 => (if t307 = true then (cippuslaw07_loopT.l1 k2 y292 (wrap64 (x23_2 + 1))) else (some false))) else (some false)) else (some false))) = some true := H
                                have A31 := Aside0.mk A310
                                clear A310
                                replace H := Option.bind_eq_some_iff.mp H
                                obtain ⟨⟨t302, t303, t304⟩, A320, H⟩ := H
                                replace H : (if t297 = t303 then (if t298 = t304 then ((cippuskit_SameCopies.f k2 t296 t302).bind fun t307 => (if t307 = true then (cippuslaw07_loopT.l1 k2 y292 (wrap64 (x23_2 + 1))) else (some false))) else (some false)) else (some false)) = some true := H
                                have A32 := Aside0.mk A320
                                clear A320
                                by_cases c33 : t297 = t303
                                · rw [if_pos c33] at H
                                  have c33b0 : (t297 == t303) = true := beq_iff_eq.mpr c33
                                  have c33b1 : (t297 != t303) = false := bne_eq_false_iff_eq.mpr c33
                                  clear c33
                                  by_cases c34 : t298 = t304
                                  · rw [if_pos c34] at H
                                    have c34b0 : (t298 == t304) = true := beq_iff_eq.mpr c34
                                    have c34b1 : (t298 != t304) = false := bne_eq_false_iff_eq.mpr c34
                                    clear c34
                                    replace H := Option.bind_eq_some_iff.mp H
                                    obtain ⟨t307, A350, H⟩ := H
                                    replace H : (if t307 = true then (cippuslaw07_loopT.l1 k2 y292 (wrap64 (x23_2 + 1))) else (some false)) = some true := H
                                    have A35 := Aside0.mk A350
                                    clear A350
                                    by_cases c36 : t307 = true
                                    · subst c36
                                      have H1 : (cippuslaw07_loopT.l1 k2 y292 (wrap64 (x23_2 + 1))) = some true := by rw [if_pos rfl] at H; exact H
                                      clear H
                                      have H := H1
                                      clear H1
                                      have H' := Aside0.mk H
                                      clear H
                                      obtain ⟨Ao37, co37, eo37⟩ := Kd.R_slice HO_17.out
                                      subst eo37
                                      have p295 : 0 ≤ (x23_2 : Int) := of_decide_eq_true (by first | (with_reducible assumption) | assumption)
                                      have q295 : x23_2 < (y292.length : Int) := of_decide_eq_true (by first | (with_reducible assumption) | assumption)
                                      obtain ⟨ad295, e295, hx295_0⟩ := Kd.at_string (Kd.R_reads' HO_17.out).2.2 x23_2 p295 q295
                                      cases e295
                                      replace p295 := eq_true p295
                                      replace q295 := eq_true q295
                                      go_wp2_with (first | ((with_reducible refine gate_callee (f := 21) rfl ?_); refine goesL_ (some 123) rfl rfl Tryd.func21 (by kernel_rfl) rfl #[.string (rdOf ByteArray.empty y292 x23_2)] rfl (by (try simp only [List.map_toArray, List.map_cons, List.map_nil]); first | done | rfl | (simp only [List.length_drop, List.length_take]; rfl)) ?_; (with_reducible refine (stemma_Read.calls k2 (rdOf ByteArray.empty y292 x23_2) t296 t297 t298 _ A31.out).mono ?_); rintro e w38 ⟨v299, rfl, ho0, hb⟩; refine ⟨_, rfl, ?_⟩; have n0_ := Aside0.mk (Kd.R_below (by (with_reducible repeat (first | apply Kd.R_alloc | apply Kd.R_drewN | apply Kd.R_drew)); exact HO_17.out) hb); have n1_ := Aside0.mk (Kd.R_lower ho0 (below_size (by repeat (first | (with_reducible first | exact HB.out | apply below_alloc | apply pw_below_drewN | apply below_drew1) | exact HB.out)))); have n2_ := Aside0.mk (below_step (by repeat (first | (with_reducible first | exact HB.out | apply below_alloc | apply pw_below_drewN | apply below_drew1) | exact HB.out)) hb); clear HO_17; clear HB; have HO_17 := n0_; have HO300 := n1_; have HB := n2_; clear n0_ n1_ n2_; (try clear hb); (try clear hb2); (try clear hk); (try clear hi); (try clear ho0); have p301 : 0 ≤ (x23_2 : Int) := of_decide_eq_true (by first | (with_reducible assumption) | assumption); have q301 : x23_2 < (y292.length : Int) := of_decide_eq_true (by first | (with_reducible assumption) | assumption); obtain ⟨ad301, e301, hx301_0⟩ := Kd.at_string (Kd.R_reads' HO_17.out).2.2 x23_2 p301 q301; obtain rfl : ad295 = ad301 := (by injection e301); replace p301 := eq_true p301; replace q301 := eq_true q301) | ((with_reducible refine gate_callee (f := 22) rfl ?_); refine goesL_ (some 132) rfl rfl Tryd.func22 (by kernel_rfl) rfl #[.string (rdOf ByteArray.empty y292 x23_2)] rfl (by (try simp only [List.map_toArray, List.map_cons, List.map_nil]); first | done | rfl | (simp only [List.length_drop, List.length_take]; rfl)) ?_; (with_reducible refine (cippusref07_Read.calls k2 (rdOf ByteArray.empty y292 x23_2) t302 t303 t304 _ A32.out).mono ?_); rintro e w39 ⟨v305, rfl, ho0, hb⟩; refine ⟨_, rfl, ?_⟩; have n0_ := Aside0.mk (Kd.R_below (by (with_reducible repeat (first | apply Kd.R_alloc | apply Kd.R_drewN | apply Kd.R_drew)); exact HO_17.out) hb); have n1_ := Aside0.mk (Kd.R_elder' (by (with_reducible repeat (first | apply Kd.R_alloc | apply Kd.R_drewN | apply Kd.R_drew)); exact HO300.out) (Kd.R_base ho0) hb); have n2_ := Aside0.mk (Kd.R_lower (Kd.R_new' ho0 (Kd.R_lt (by (with_reducible repeat (first | apply Kd.R_alloc | apply Kd.R_drewN | apply Kd.R_drew)); exact HO300.out))) (below_size (by repeat (first | (with_reducible first | exact HB.out | apply below_alloc | apply pw_below_drewN | apply below_drew1) | exact HB.out)))); have n3_ := Aside0.mk (below_step (by repeat (first | (with_reducible first | exact HB.out | apply below_alloc | apply pw_below_drewN | apply below_drew1) | exact HB.out)) hb); clear HO_17; clear HO300; clear HB; have HO_17 := n0_; have HO300 := n1_; have HO306 := n2_; have HB := n3_; clear n0_ n1_ n2_ n3_; (try clear hb); (try clear hb2); (try clear hk); (try clear hi); (try clear ho0); obtain ⟨Ao40, co40, eo40⟩ := Kd.R_slice HO300.out; subst eo40; obtain ⟨Ao41, co41, eo41⟩ := Kd.R_slice HO306.out; subst eo41) | (go_at_call 23; (with_reducible refine (cippuskit_SameCopies.calls k2 _ _ t296 _ _ t302 true _ ?side1 ?side2 ?side3 ?side4 A35.out).mono ?_); (case side1 => repeat (first | exact (Kd.R_reads' HO300.out).2.2 | (with_reducible refine Kd.C_alloc ?_ _) | (with_reducible refine Kd.C_drewN ?_ _) | (with_reducible refine Kd.C_drew ?_))); (case side2 => exact (Kd.R_reads' HO300.out).2.1); (case side3 => repeat (first | exact (Kd.R_reads' HO306.out).2.2 | (with_reducible refine Kd.C_alloc ?_ _) | (with_reducible refine Kd.C_drewN ?_ _) | (with_reducible refine Kd.C_drew ?_))); (case side4 => exact (Kd.R_reads' HO306.out).2.1); rintro e w' ⟨rfl, ⟨nd, rfl⟩⟩))
                                      go_roundg k2
                                      case measure => have := HK1.out; have := HK2.out; omega
                                      case rel => exact ⟨(wrap64 (x23_2 + 1)), (by first | rfl | (simp; done) | (simp [*]; done)), H', ⟨by have := HK1.out; have := HK2.out; omega⟩, ⟨by (with_reducible repeat (first | apply Kd.R_alloc | apply Kd.R_drewN | apply Kd.R_drew)); exact HO_17.out⟩, ⟨by repeat (first | (with_reducible first | exact HB.out | apply below_alloc | apply pw_below_drewN | apply below_drew1) | exact HB.out)⟩⟩
                                    · replace c36 := Bool.eq_false_iff.mpr c36
                                      subst c36
                                      have H1 : (some false) = some true := by rw [if_neg (show ¬ (false = true) by decide)] at H; exact H
                                      clear H
                                      have H := H1
                                      clear H1
                                      exact absurd (Option.some.inj H) (by decide)
                                  · rw [if_neg c34] at H
                                    have c34b0 : (t298 == t304) = false := beq_eq_false_iff_ne.mpr c34
                                    have c34b1 : (t298 != t304) = true := bne_iff_ne.mpr c34
                                    exact absurd (Option.some.inj H) (by decide)
                                · rw [if_neg c33] at H
                                  have c33b0 : (t297 == t303) = false := beq_eq_false_iff_ne.mpr c33
                                  have c33b1 : (t297 != t303) = true := bne_iff_ne.mpr c33
                                  exact absurd (Option.some.inj H) (by decide)
                              · rw [if_neg c30] at H
                                exact absurd H (by simp)
                            · rw [if_neg c29] at H
                              have c29b0 : decide (x23_2 < (y292.length : Int)) = false := decide_eq_false c29
                              clear c29
                              clear H
                              obtain ⟨Ao53, co53, eo53⟩ := Kd.R_slice HO_17.out
                              subst eo53
                              have HB3 := Aside0.mk (below_step HBw.out (by repeat (first | (with_reducible first | exact HB.out | apply below_alloc | apply pw_below_drewN | apply below_drew1) | exact HB.out)))
                              clear HB
                              have HB := HB3
                              clear HB3
                              go_wp2_with (((with_reducible refine gate_callee (f := 7) rfl ?_); refine goesL_ (some 150) rfl rfl Tryd.func7 (by kernel_rfl) rfl #[] rfl (by (try simp only [List.map_toArray, List.map_cons, List.map_nil]); first | done | rfl | (simp only [List.length_drop, List.length_take]; rfl)) ?_; (with_reducible refine (cippuslaw07_found.calls kj14  t279 _ A23.out).mono ?_); rintro e w32 ⟨rfl, hb⟩; refine ⟨_, rfl, ?_⟩; have n0_ := Aside0.mk (below_step (by repeat (first | (with_reducible first | exact HB.out | apply below_alloc | apply pw_below_drewN | apply below_drew1) | exact HB.out)) hb); clear HB; have HB := n0_; clear n0_ hb))
                              go_ret
                              exact ⟨rfl, by repeat (first | (with_reducible first | exact HB.out | apply below_alloc | apply pw_below_drewN | apply below_drew1) | exact HB.out)⟩
                      · rw [if_neg c25] at H
                        exact absurd H (by simp)
                    · rw [if_neg c23] at H
                      exact absurd H (by simp)
end Go.Proofs.YtecdjnabmjhakaaDoor.P
namespace Go.Proofs.YtecdjnabmjhakaaDoor.P
open Go.RowKit Go.Deep Go.ChangeShapes Go.WideShapes Go.Proofs.YtecdjnabmjhakaaDoorW.PrintWords Go.Proofs.YtecdjnabmjhakaaDoorW.PrintLast Go.Proofs.YtecdjnabmjhakaaDoorW.PrintMore
set_option linter.unusedVariables false
set_option linter.unusedSimpArgs false
section
variable {H : Type} {enc : TypeId × Value → H} {w : World} {base : Nat} {spare : Nat → Bool} {held : Bool}
theorem cells25_ : Tryd.prog.cellsOf 25 = 3 := by kernel_rfl
theorem cells9_ : Tryd.prog.cellsOf 9 = 1 := by kernel_rfl
theorem cells3_ : Tryd.prog.cellsOf 3 = 1 := by kernel_rfl
theorem cells4_ : Tryd.prog.cellsOf 4 = 1 := by kernel_rfl
set_option maxRecDepth 100000 in
theorem open_copy {fuel : Nat} {cs : List Value} {x : DataW H × List MemPlace} (h : DataW.trod enc Tryd.prog w base spare held fuel 25 cs = some x) (hlen : cs.length = 3) : ∃ y : S25, cs = [.string y.f0, .int .i64 y.f1, .bool y.f2] := by
  obtain ⟨y0, y1, y2, k, hxy, _, u0, u1, u2⟩ := trod_struct3 Tryd.underlying25 h
  match cs, hlen with
  | [v0, v1, v2], _ =>
    simp only [cells9_, cells3_, cells4_, List.drop, List.take] at u0 u1 u2
    obtain ⟨s, e0, d0, _⟩ := DataW.trod_string Tryd.underlying9 u0
    obtain ⟨q, e1, d1, _⟩ := DataW.trod_int Tryd.underlying3 u1
    obtain ⟨b, e2, d2⟩ := DataW.trod_bool Tryd.underlying4 u2
    simp only [List.cons.injEq, and_true] at e0 e1 e2
    subst e0; subst e1; subst e2
    exact ⟨⟨s, q, b⟩, rfl⟩
set_option maxRecDepth 100000 in
theorem open_copies {a : Option Addr} {len cap : Nat} {d : DataW H} {ps : List MemPlace} (h : DataW.Trod enc Tryd.prog w base spare held 22 (.slice a len cap) d ps) : ∃ xs : List S25, xs.length = len ∧ len ≤ cap ∧ k25.C w a xs.length xs := by
  obtain ⟨fuel, hf⟩ := h
  rcases open_slice Tryd.underlying22 hf with ⟨hcs, _⟩ | ⟨a', l, c, m, n, D, Pl, hcs, _, hl, hm, hmm, _, hx⟩
  · simp [Value.cells] at hcs
    obtain ⟨rfl, rfl, rfl⟩ := hcs
    exact ⟨[], rfl, Nat.le_refl _, Kd.C_nil _ _⟩
  · simp [Value.cells] at hcs
    obtain ⟨rfl, rfl, rfl⟩ := hcs
    have hlm : len ≤ m := by rw [hmm]; split <;> omega
    have each : ∀ i, i < len → ∃ y : S25, ∀ j u, [Value.string y.f0, .int .i64 y.f1, .bool y.f2][j]? = some u → w.cell? (a'.add (i * 3 + j)) = some u := by
      intro i hi
      obtain ⟨cs', h1, h2⟩ := hx i (by omega)
      rw [cells25_] at h1
      obtain ⟨_, hlen, hcell⟩ := World.cells?_some h1
      obtain ⟨y, rfl⟩ := open_copy h2 hlen
      refine ⟨y, fun j u hu => ?_⟩
      have hj : j < 3 := by
        rw [List.getElem?_eq_some_iff] at hu
        exact hu.1
      have := hcell j hj
      rw [Go.Deep.add_add] at this
      rw [this]
      exact hu
    have hcap : cap ≤ 9223372036854775807 := hm
    haveI : Inhabited S25 := ⟨z25⟩
    obtain ⟨f, hf⟩ := choose_lt each
    have hxl : ((List.range len).map f).length = len := by simp
    refine ⟨(List.range len).map f, hxl, hl, rfl, by omega, fun _ => ⟨a', rfl, fun j p hp => ?_⟩⟩
    have hj : j < len := by
      rw [List.getElem?_eq_some_iff] at hp
      obtain ⟨h1, _⟩ := hp
      simpa using h1
    have e : p = f j := by
      rw [List.getElem?_map, List.getElem?_range hj] at hp
      simpa using hp.symm
    subst e
    exact ⟨_, rfl, k25_mk w (f j), fun i u hu => hf j hj i u hu⟩
end
end Go.Proofs.YtecdjnabmjhakaaDoor.P
namespace Go.Proofs.YtecdjnabmjhakaaDoorW.PrintWords
open Go.ChangeShapes Go.WideShapes
theorem sized_ints {H : Type} {enc : TypeId × Value → H} {P : Program} {W : World} {base : Nat} {spare : Nat → Bool} {held : Bool} {t e : TypeId} {k : IntKind} {a : Option Addr} {len cap : Nat} {d : DataW H} {ps : List MemPlace} {ts : List TypeId} {ds : List (DataW H)} {j : Nat}
    (hsz : (DataW.weightsEach P ts ds).all (· ≤ reachBytes) = true) (ht : ts[j]? = some t) (hd : ds[j]? = some d) (hu : P.underlying t = some (.slice e)) (he : P.underlying e = some (.int k)) (hc : P.cellsOf e = 1) {B : Nat} (hB : P.bytesOf e = B)
    (h : DataW.Trod enc P W base spare held t (.slice a len cap) d ps) : len * B ≤ 140737488351232 := by
  obtain ⟨fuel, hf⟩ := h
  rcases open_ints hu he hc hf with ⟨hcs, _⟩ | ⟨x, l, c, zs, hcs, _, hl, _, hz, hx, _, _⟩
  · simp [Value.cells] at hcs
    obtain ⟨rfl, rfl, rfl⟩ := hcs
    simp
  · simp [Value.cells] at hcs
    obtain ⟨rfl, rfl, rfl⟩ := hcs
    obtain ⟨hx, _⟩ := Prod.mk.inj hx
    subst hx
    have z := sized_slice hsz ht hd hu
    rw [hB] at z
    have hl2 : len ≤ zs.length := by
      rw [hz]
      split
      · exact hl
      · exact Nat.le_refl _
    have h1 : (lits (H := H) k (zs.take len)).length + (lits (H := H) k (zs.drop len)).length = zs.length := by
      simp [lits]
      omega
    rw [h1] at z
    exact Nat.le_trans (Nat.mul_le_mul_right _ hl2) z
end Go.Proofs.YtecdjnabmjhakaaDoorW.PrintWords
