/- Lemmas for the statement StemmaTexts of the given program, for every input that its row lets in. Conditions: none beyond those that each lemma tells. -/
import Derived.Lib.SplitLaws
import Derived.Test.YtecdjnabmjhakaaDoorMStemmaTexts5
set_option linter.unusedVariables false
set_option linter.unusedSimpArgs false
namespace Go.Proofs.YtecdjnabmjhakaaDoor.P
open Go.RowKit Go.Proofs.YtecdjnabmjhakaaDoorW.PrintWords Go.Proofs.YtecdjnabmjhakaaDoorW.PrintLast Go.Proofs.YtecdjnabmjhakaaDoorW.PrintMore
attribute [local go_sem] max2_int min2_int max_two min_two max_three min_three max_four min_four   -- for this text's walks alone
set_option linter.unusedVariables false
set_option linter.unusedSimpArgs false
mutual
def cippusref07_Read.l0 : Nat → List ByteArray → List (S25) → Int → Bool → Int → Option ((List (S25)) × Int × Int)
  | 0, _, _, _, _, _ => none
  | k + 1, x5, x6, x7, x8, x9 => if x9 < (wrap64 ((x5.length : Int) - 1)) then (if 0 ≤ x9 then (if x9 < (x5.length : Int) then ((cippusref07_split.f k (rdOf ByteArray.empty x5 x9) 32).bind fun t342 => (if 0 ≤ (wrap64 ((t342.length : Int) - 1)) then (if (wrap64 ((t342.length : Int) - 1)) < (t342.length : Int) then ((cippusref07_number.f (rdOf ByteArray.empty t342 (wrap64 ((t342.length : Int) - 1)))).bind fun bt346 => (if bt346.2 = true then (if x8 = true then (cippusref07_Read.j1 k x5 x6 x7 x8 x9 t342 bt346.1 true) else (if 0 < (t342.length : Int) then (cippusref07_Read.j1 k x5 x6 x7 x8 x9 t342 bt346.1 (((rdOf ByteArray.empty t342 0).toList == ([112, 108, 97, 99, 101, 115] : List UInt8)) != (x9 == 0))) else (none))) else (cippusref07_Read.j1 k x5 x6 x7 x8 x9 t342 bt346.1 true))) else (none)) else (none))) else (none)) else (none)) else (if x8 = true then (if 0 ≤ (wrap64 ((x5.length : Int) - 1)) then (if (wrap64 ((x5.length : Int) - 1)) < (x5.length : Int) then (cippusref07_Read.j4 k x5 x6 ((rdOf ByteArray.empty x5 (wrap64 ((x5.length : Int) - 1))).toList != ([] : List UInt8))) else (none)) else (none)) else (cippusref07_Read.j4 k x5 x6 true))
def cippusref07_Read.j1 : Nat → List ByteArray → List (S25) → Int → Bool → Int → List ByteArray → Int → Bool → Option ((List (S25)) × Int × Int)
  | 0, _, _, _, _, _, _, _, _ => none
  | k + 1, x5, x6, x7, x8, x9, x10, x11, x77 => if x77 = true then (some (([] : List (S25)), wrap64 (x9 + 1), 2)) else (if 0 < (x10.length : Int) then (if (rdOf ByteArray.empty x10 0).toList = ([112, 108, 97, 99, 101, 115] : List UInt8) then (if ((x10.length : Int) = 2) then (cippusref07_Read.l0 k x5 x6 x11 x8 (wrap64 (x9 + 1))) else (some (([] : List (S25)), wrap64 (x9 + 1), 2))) else (if (rdOf ByteArray.empty x10 0).toList = ([99, 111, 112, 105, 101, 115] : List UInt8) then (cippusref07_Read.j2 k x5 x6 x7 x8 x9 x10 x11 ((x10.length : Int) == 2)) else (cippusref07_Read.j2 k x5 x6 x7 x8 x9 x10 x11 false))) else (none))
def cippusref07_Read.j2 : Nat → List ByteArray → List (S25) → Int → Bool → Int → List ByteArray → Int → Bool → Option ((List (S25)) × Int × Int)
  | 0, _, _, _, _, _, _, _, _ => none
  | k + 1, x5, x6, x7, x8, x9, x10, x11, x101 => if x101 = true then (if (x11 = (x6.length : Int)) then (cippusref07_Read.l0 k x5 x6 x7 true (wrap64 (x9 + 1))) else (some (([] : List (S25)), wrap64 (x9 + 1), 2))) else (if (x10.length : Int) = 3 then (if 0 < (x10.length : Int) then (if (rdOf ByteArray.empty x10 0).toList = ([115, 97, 119] : List UInt8) then (if 1 < (x10.length : Int) then (cippusref07_Read.j3 k x5 x6 x7 x8 x9 x10 x11 (((rdOf ByteArray.empty x10 1).size : Int) == x7)) else (none)) else (if (rdOf ByteArray.empty x10 0).toList = ([104, 97, 100] : List UInt8) then (if 1 < (x10.length : Int) then (cippusref07_Read.j3 k x5 x6 x7 x8 x9 x10 x11 (((rdOf ByteArray.empty x10 1).size : Int) == x7)) else (none)) else (cippusref07_Read.j3 k x5 x6 x7 x8 x9 x10 x11 false))) else (none)) else (cippusref07_Read.j3 k x5 x6 x7 x8 x9 x10 x11 false))
def cippusref07_Read.j3 : Nat → List ByteArray → List (S25) → Int → Bool → Int → List ByteArray → Int → Bool → Option ((List (S25)) × Int × Int)
  | 0, _, _, _, _, _, _, _, _ => none
  | k + 1, x5, x6, x7, x8, x9, x10, x11, x12 => if x12 = true then (if 1 < (x10.length : Int) then (if 0 < (x10.length : Int) then (if x6.length < 4398046511104 then (cippusref07_Read.l0 k x5 (x6 ++ [(⟨rdOf ByteArray.empty x10 1, x11, ((rdOf ByteArray.empty x10 0).toList == ([115, 97, 119] : List UInt8))⟩ : S25)]) x7 x8 (wrap64 (x9 + 1))) else (none)) else (none)) else (none)) else (some (([] : List (S25)), wrap64 (x9 + 1), 2))
def cippusref07_Read.j4 : Nat → List ByteArray → List (S25) → Bool → Option ((List (S25)) × Int × Int)
  | 0, _, _, _ => none
  | k + 1, x5, x6, x129 => if x129 = true then (some (([] : List (S25)), (x5.length : Int), 2)) else ((cippusref07_Check.f k x6).bind fun t361 => (if t361 = 0 then (some (x6, 0, 0)) else (some (([] : List (S25)), 0, t361))))
end
def cippusref07_Read.f (k : Nat) (a0 : ByteArray) : Option ((List (S25)) × Int × Int) := if (a0.size : Int) > 200 then (some (([] : List (S25)), 0, 10)) else ((cippusref07_split.f k a0 10).bind fun t338 => (cippusref07_Read.l0 k t338 ([] : List (S25)) 0 false 0))
def cippusref07_Read.T13 : Bool × List (List Nat × List Nat) := (true, [([], []), ([], []), ([1], [1]), ([2], [2]), ([], []), ([], []), ([5], [5]), ([6], [6]), ([7], [7]), ([3, 4, 8], [3, 4, 8]), ([9], [9]), ([0, 10], [0, 10]), ([11, 11, 0, 1, 2, 3, 4, 5, 6, 7, 8, 9, 10, 11], [0, 11])])
def cippusref07_Read.B13 : List Nat := [0, 0, 2, 6, 0, 0, 32, 96, 224, 510, 1022, 2047, 4095]
theorem cippusref07_Read.tab13 : rtab .any (opsOf Tryd.f22 13) = cippusref07_Read.T13 := by kernel_rfl
theorem cippusref07_Read.bits13 : waitsOk cippusref07_Read.T13.2 cippusref07_Read.B13 = true := by kernel_rfl
set_option maxHeartbeats 8000000 in
set_option maxRecDepth 100000 in
theorem cippusref07_Read.calls (k : Nat) (a0 : ByteArray) (r1 : List (S25)) (r2 : Int) (r3 : Int) (w : World) (h : cippusref07_Read.f k a0 = some (r1, r2, r3)) :
    Calls Tryd.prog 22 #[.string a0] w fun e w' => ∃ v0_ : Value, e = .returned (.tuple #[v0_, .int .i64 r2, .int .i64 r3]) ∧ Kd.R k25 25 w' w.heap.size (fun _ => True) v0_ r1 ∧ Below w.heap.size w w' := by
  have hu25 := Tryd.underlying25
  have HB := Aside0.mk (Below.refl w.heap.size w)
  have H : (if (a0.size : Int) > 200 then (some (([] : List (S25)), 0, 10)) else ((cippusref07_split.f k a0 10).bind fun t338 => (cippusref07_Read.l0 k t338 ([] : List (S25)) 0 false 0))) = some (r1, r2, r3) := h
  clear h
  by_cases c2 : (a0.size : Int) > 200
  · rw [if_pos c2] at H
    have c2b0 : decide (200 < (a0.size : Int)) = true := decide_eq_true c2
    have c2b1 : decide (200 < a0.size) = true := decide_eq_true (by omega)
    clear c2
    simp only [Option.some.injEq, Prod.mk.injEq] at H
    obtain ⟨rfl, rfl, rfl⟩ := H
    go_enter Tryd.func22, Tryd.ntmps22
    go_wp2
    go_ret3
    exact ⟨_, by first | rfl | (simp [errW_none, errW_some] <;> rfl) | (simp [*, errW_none, errW_some] <;> rfl), by first | exact Kd.R_nil _ _ _ _ _ | exact Kd.N_nil _ _ _ _ _ | exact Kd.V_nil _ _ _ _ _ | exact Kd.Q_nil _ _ _ _ _ | exact Kd.S_nil _ _ _ _ _, by repeat (first | (with_reducible first | exact HB.out | apply below_alloc | apply pw_below_drewN | apply below_drew1) | exact HB.out)⟩
  · rw [if_neg c2] at H
    have c2b0 : decide (200 < (a0.size : Int)) = false := decide_eq_false c2
    have c2b1 : decide (200 < a0.size) = false := decide_eq_false (by omega)
    clear c2
    replace H := Option.bind_eq_some_iff.mp H
    obtain ⟨t338, A30, H⟩ := H
    replace H : (cippusref07_Read.l0 k t338 ([] : List (S25)) 0 false 0) = some (r1, r2, r3) := H
    have A3 := Aside0.mk A30
    clear A30
    have H' := Aside0.mk H
    clear H
    go_enter Tryd.func22, Tryd.ntmps22
    go_wp2_with (first | ((with_reducible refine gate_callee (f := 48) rfl ?_); refine goesL_ (some 18) rfl rfl Tryd.func48 (by kernel_rfl) rfl #[.string a0, .int .u8 10] rfl (by (try simp only [List.map_toArray, List.map_cons, List.map_nil]); first | done | rfl | (simp only [List.length_drop, List.length_take]; rfl)) ?_; (with_reducible refine (cippusref07_split.calls k a0 10 t338 _ A3.out).mono ?_); rintro e w4 ⟨v339, rfl, ho0, hb⟩; refine ⟨_, rfl, ?_⟩; have n0_ := Aside0.mk (Kd.R_lower ho0 (below_size (by repeat (first | (with_reducible first | exact HB.out | apply below_alloc | apply pw_below_drewN | apply below_drew1) | exact HB.out)))); have n1_ := Aside0.mk (below_step (by repeat (first | (with_reducible first | exact HB.out | apply below_alloc | apply pw_below_drewN | apply below_drew1) | exact HB.out)) hb); clear HB; have HO340 := n0_; have HB := n1_; clear n0_ n1_; (try clear hb); (try clear hb2); (try clear hk); (try clear hi); (try clear ho0)))
    go_loopg [6, 7, 8, 9] k (fun kq v6 v7 v8 v9 w' => ∃ (x6_1 : List (S25)) (x7_1 : Int) (x8_1 : Bool) (x9_1 : Int), v7 = .int .i64 x7_1 ∧ v8 = .bool x8_1 ∧ v9 = .int .i64 x9_1 ∧ Aside0 (cippusref07_Read.l0 kq t338 x6_1 x7_1 x8_1 x9_1 = some (r1, r2, r3)) ∧ Aside0 (kq ≤ k) ∧ Aside0 (Kd.R Kd.string 9 w' w.heap.size (fun _ => True) v339 t338) ∧ Aside0 (Kd.R k25 25 w' w.heap.size (fun _ => True) v6 x6_1) ∧ Aside0 (Below w.heap.size w w'))
    case atStart => exact ⟨(([] : List (S25))), (0), (false), (0), (by first | rfl | (simp; done) | (simp [*]; done)), (by first | rfl | (simp; done) | (simp [*]; done)), (by first | rfl | (simp; done) | (simp [*]; done)), H', ⟨Nat.le_refl _⟩, ⟨by (with_reducible repeat (first | apply Kd.R_alloc | apply Kd.R_drewN | apply Kd.R_drew)); exact HO340.out⟩, ⟨by first | exact Kd.R_nil _ _ _ _ _ | exact Kd.N_nil _ _ _ _ _ | exact Kd.V_nil _ _ _ _ _ | exact Kd.Q_nil _ _ _ _ _ | exact Kd.S_nil _ _ _ _ _⟩, ⟨by repeat (first | (with_reducible first | exact HB.out | apply below_alloc | apply pw_below_drewN | apply below_drew1) | exact HB.out)⟩⟩
    case round =>
      clear H'
      try clear c2
      try clear c2b0
      try clear c2b1
      try clear p2
      try clear c4
      obtain ⟨x6_1, x7_1, x8_1, x9_1, rfl, rfl, rfl, HA, HK1, HO_5, HO_6, HB⟩ := hrel
      cases gk with
      | zero => exact absurd HA.out (by simp [cippusref07_Read.l0])
      | succ k1 =>
        have H := HA.out
        clear HA
        simp only [cippusref07_Read.l0] at H
        by_cases c5 : x9_1 < (wrap64 ((t338.length : Int) - 1))
        · rw [if_pos c5] at H
          have c5b0 : decide (x9_1 < (wrap64 ((t338.length : Int) - 1))) = true := decide_eq_true c5
          clear c5
          by_cases c6 : 0 ≤ x9_1
          · rw [if_pos c6] at H
            have c6b0 : decide (0 ≤ x9_1) = true := decide_eq_true c6
            clear c6
            by_cases c7 : x9_1 < (t338.length : Int)
            · rw [if_pos c7] at H
              have c7b0 : decide (x9_1 < (t338.length : Int)) = true := decide_eq_true c7
              clear c7
              replace H := Option.bind_eq_some_iff.mp H
              obtain ⟨t342, A80, H⟩ := H
              replace H : (if 0 ≤ (wrap64 ((t342.length : Int) - 1)) then (if (wrap64 ((t342.length : Int) - 1)) < (t342.length : Int) then ((cippusref07_number.f (rdOf ByteArray.empty t342 (wrap64 ((t342.length : Int) - 1)))).bind fun bt346 => (if bt346.2 = true then (if x8_1 = true then (cippusref07_Read.j1 k1 t338 x6_1 x7_1 x8_1 x9_1 t342 bt346.1 true) else (if 0 < (t342.length : Int) then (cippusref07_Read.j1 k1 t338 x6_1 x7_1 x8_1 x9_1 t342 bt346.1 (((rdOf ByteArray.empty t342 0).toList == ([112, 108, 97, 99, 101, 115] : List UInt8)) != (x9_1 == 0))) else (none))) else (cippusref07_Read.j1 k1 t338 x6_1 x7_1 x8_1 x9_1 t342 bt346.1 true))) else (none)) else (none)) = some (r1, r2, r3) := H
              have A8 := Aside0.mk A80
              clear A80
              obtain ⟨ji9, hji9⟩ : ∃ j_ : Int, (wrap64 ((t342.length : Int) - 1)) = j_ := ⟨_, rfl⟩
              replace H : (if 0 ≤ (ji9) then (if (ji9) < (t342.length : Int) then ((cippusref07_number.f (rdOf ByteArray.empty t342 (ji9))).bind fun bt346 => (if bt346.2 = true then (if x8_1 = true then (cippusref07_Read.j1 k1 t338 x6_1 x7_1 x8_1 x9_1 t342 bt346.1 true) else (if 0 < (t342.length : Int) then (cippusref07_Read.j1 k1 t338 x6_1 x7_1 x8_1 x9_1 t342 bt346.1 (((rdOf ByteArray.empty t342 0).toList == ([112, 108, 97, 99, 101, 115] : List UInt8)) != (x9_1 == 0))) else (none))) else (cippusref07_Read.j1 k1 t338 x6_1 x7_1 x8_1 x9_1 t342 bt346.1 true))) else (none)) else (none)) = some (r1, r2, r3) := by first | (rw [hji9] at H; exact H) | (simp only [hji9] at H ⊢; exact H)
              (try rw [hji9] at A8)
              have hji9w : (IntKind.i64.wrap ((t342.length : Int) - 1)) = ji9 := (i64_w _).trans hji9
              by_cases c10 : 0 ≤ (ji9)
              · rw [if_pos c10] at H
                have c10b0 : decide (0 ≤ (ji9)) = true := decide_eq_true c10
                clear c10
                by_cases c11 : (ji9) < (t342.length : Int)
                · rw [if_pos c11] at H
                  have c11b0 : decide ((ji9) < (t342.length : Int)) = true := decide_eq_true c11
                  clear c11
                  replace H := Option.bind_eq_some_iff.mp H
                  obtain ⟨⟨t346, t347⟩, A120, H⟩ := H
                  replace H : (if t347 = true then (if x8_1 = true then (cippusref07_Read.j1 k1 t338 x6_1 x7_1 x8_1 x9_1 t342 t346 true) else (if 0 < (t342.length : Int) then (cippusref07_Read.j1 k1 t338 x6_1 x7_1 x8_1 x9_1 t342 t346 (((rdOf ByteArray.empty t342 0).toList == ([112, 108, 97, 99, 101, 115] : List UInt8)) != (x9_1 == 0))) else (none))) else (cippusref07_Read.j1 k1 t338 x6_1 x7_1 x8_1 x9_1 t342 t346 true)) = some (r1, r2, r3) := H
                  have A12 := Aside0.mk A120
                  clear A120
                  have HC13 := Aside0.mk H
                  clear H
                  obtain ⟨Ao14, co14, eo14⟩ := Kd.R_slice HO_5.out
                  subst eo14
                  have p341 : 0 ≤ (x9_1 : Int) := of_decide_eq_true (by first | (with_reducible assumption) | assumption)
                  have q341 : x9_1 < (t338.length : Int) := of_decide_eq_true (by first | (with_reducible assumption) | assumption)
                  obtain ⟨ad341, e341, hx341_0⟩ := Kd.at_string (Kd.R_reads' HO_5.out).2.2 x9_1 p341 q341
                  cases e341
                  replace p341 := eq_true p341
                  replace q341 := eq_true q341
                  go_upto_region 14 with (first | ((with_reducible refine gate_callee (f := 48) rfl ?_); refine goesL_ (some 30) rfl rfl Tryd.func48 (by kernel_rfl) rfl #[.string (rdOf ByteArray.empty t338 x9_1), .int .u8 32] rfl (by (try simp only [List.map_toArray, List.map_cons, List.map_nil]); first | done | rfl | (simp only [List.length_drop, List.length_take]; rfl)) ?_; (with_reducible refine (cippusref07_split.calls k1 (rdOf ByteArray.empty t338 x9_1) 32 t342 _ A8.out).mono ?_); rintro e w15 ⟨v343, rfl, ho0, hb⟩; refine ⟨_, rfl, ?_⟩; have n0_ := Aside0.mk (Kd.R_elder' (by (with_reducible repeat (first | apply Kd.R_alloc | apply Kd.R_drewN | apply Kd.R_drew)); exact HO_5.out) (Kd.R_base ho0) hb); have n1_ := Aside0.mk (Kd.R_below (by (with_reducible repeat (first | apply Kd.R_alloc | apply Kd.R_drewN | apply Kd.R_drew)); exact HO_6.out) hb); have n2_ := Aside0.mk (Kd.R_lower (Kd.R_new' ho0 (Kd.R_lt (by (with_reducible repeat (first | apply Kd.R_alloc | apply Kd.R_drewN | apply Kd.R_drew)); exact HO_5.out))) (below_size (by repeat (first | (with_reducible first | exact HB.out | apply below_alloc | apply pw_below_drewN | apply below_drew1) | exact HB.out)))); have n3_ := Aside0.mk (below_step (by repeat (first | (with_reducible first | exact HB.out | apply below_alloc | apply pw_below_drewN | apply below_drew1) | exact HB.out)) hb); clear HO_5; clear HO_6; clear HB; have HO_5 := n0_; have HO_6 := n1_; have HO344 := n2_; have HB := n3_; clear n0_ n1_ n2_ n3_; (try clear hb); (try clear hb2); (try clear hk); (try clear hi); (try clear ho0); obtain ⟨Ao16, co16, eo16⟩ := Kd.R_slice HO344.out; subst eo16; have p345 : 0 ≤ ((ji9) : Int) := of_decide_eq_true (by first | (with_reducible assumption) | assumption); have q345 : (ji9) < (t342.length : Int) := of_decide_eq_true (by first | (with_reducible assumption) | assumption); obtain ⟨ad345, e345, hx345_0⟩ := Kd.at_string (Kd.R_reads' HO344.out).2.2 (ji9) p345 q345; cases e345; replace p345 := eq_true p345; replace q345 := eq_true q345) | ((with_reducible refine gate_callee (f := 49) rfl ?_); refine goesL_ (some 38) rfl rfl Tryd.func49 (by kernel_rfl) rfl #[.string (rdOf ByteArray.empty t342 (ji9))] rfl (by (try simp only [List.map_toArray, List.map_cons, List.map_nil]); first | done | (simp only [hji9]; rfl) | rfl | (simp only [List.length_drop, List.length_take]; rfl)) ?_; (with_reducible refine (cippusref07_number.calls (rdOf ByteArray.empty t342 (ji9)) t346 t347 _ A12.out).mono ?_); rintro e w' ⟨rfl, ⟨nd, rfl⟩⟩; refine ⟨_, rfl, ?_⟩))
                  (try simp only [Act.put, List.setIfInBounds_toArray, List.set_cons_zero, List.set_cons_succ])
                  go_cut [77] (fun v77 wc => ∃ (kq : Nat) (x77_12 : Bool), v77 = .bool x77_12 ∧ Aside0 (cippusref07_Read.j1 kq t338 x6_1 x7_1 x8_1 x9_1 t342 t346 x77_12 = some (r1, r2, r3)) ∧ Aside0 (kq ≤ k1) ∧ Aside0 (Kd.R Kd.string 9 wc w.heap.size (fun k_ => some k_ ≠ ((.slice (some ad345) t342.length co16) : Value).ownBlock) (.slice (some ad341) t338.length co14) t338) ∧ Aside0 (Kd.R k25 25 wc w.heap.size (fun _ => True) u6 x6_1) ∧ Aside0 (Kd.R Kd.string 9 wc w.heap.size (fun k_ => some k_ ≠ ((.slice (some ad341) t338.length co14) : Value).ownBlock) (.slice (some ad345) t342.length co16) t342) ∧ Aside0 (Below w.heap.size w wc))
                  case first =>
                    have H := HC13.out
                    clear HC13
                    by_cases c17 : t347 = true
                    · subst c17
                      have H1 : (if x8_1 = true then (cippusref07_Read.j1 k1 t338 x6_1 x7_1 x8_1 x9_1 t342 t346 true) else (if 0 < (t342.length : Int) then (cippusref07_Read.j1 k1 t338 x6_1 x7_1 x8_1 x9_1 t342 t346 (((rdOf ByteArray.empty t342 0).toList == ([112, 108, 97, 99, 101, 115] : List UInt8)) != (x9_1 == 0))) else (none))) = some (r1, r2, r3) := by rw [if_pos rfl] at H; exact H
                      clear H
                      have H := H1
                      clear H1
                      by_cases c18 : x8_1 = true
                      · subst c18
                        have H1 : (cippusref07_Read.j1 k1 t338 x6_1 x7_1 true x9_1 t342 t346 true) = some (r1, r2, r3) := by rw [if_pos rfl] at H; exact H
                        clear H
                        have H := H1
                        clear H1
                        have H' := Aside0.mk H
                        clear H
                        go_wp2
                        go_meet
                        case rel => exact ⟨_, (true), (by first | rfl | (simp; done) | (simp [*]; done)), H', ⟨by have := HK1.out; first | omega | exact Nat.le_refl _⟩, ⟨by (with_reducible repeat (first | apply Kd.R_alloc | apply Kd.R_drewN | apply Kd.R_drew)); exact Kd.R_mono HO_5.out (fun _ hk => hk.2)⟩, ⟨by (with_reducible repeat (first | apply Kd.R_alloc | apply Kd.R_drewN | apply Kd.R_drew)); exact HO_6.out⟩, ⟨by (with_reducible repeat (first | apply Kd.R_alloc | apply Kd.R_drewN | apply Kd.R_drew)); exact Kd.R_mono HO344.out (fun _ hk => hk.2)⟩, ⟨by repeat (first | (with_reducible first | exact HB.out | apply below_alloc | apply pw_below_drewN | apply below_drew1) | exact HB.out)⟩⟩
                      · replace c18 := Bool.eq_false_iff.mpr c18
                        subst c18
                        have H1 : (if 0 < (t342.length : Int) then (cippusref07_Read.j1 k1 t338 x6_1 x7_1 false x9_1 t342 t346 (((rdOf ByteArray.empty t342 0).toList == ([112, 108, 97, 99, 101, 115] : List UInt8)) != (x9_1 == 0))) else (none)) = some (r1, r2, r3) := by rw [if_neg (show ¬ (false = true) by decide)] at H; exact H
                        clear H
                        have H := H1
                        clear H1
                        by_cases c19 : 0 < (t342.length : Int)
                        · rw [if_pos c19] at H
                          have c19b0 : decide (0 < (t342.length : Int)) = true := decide_eq_true c19
                          have c19b1 : decide (0 < t342.length) = true := decide_eq_true (by omega)
                          clear c19
                          (first | rw [c19b0] | (simp only [i64_w, i32_w]; rw [c19b0]) | skip)
                          have H' := Aside0.mk H
                          clear H
                          have p348 : 0 ≤ (0 : Int) := (by omega)
                          have q348 : 0 < (t342.length : Int) := of_decide_eq_true (by first | (with_reducible assumption) | assumption)
                          obtain ⟨ad348, e348, hx348_0⟩ := Kd.at_string (Kd.R_reads' HO344.out).2.2 0 p348 q348
                          obtain rfl : ad345 = ad348 := (by injection e348)
                          have qi348 : (0 < t342.length) = True := eq_true (by omega)
                          (try rw [show ((0 : Int)).toNat = 0 from rfl] at hx348_0)
                          (try rw [Addr.add_zero'] at hx348_0)
                          replace p348 := eq_true p348
                          replace q348 := eq_true q348
                          go_wp2
                          go_meet
                          case rel => exact ⟨_, ((((rdOf ByteArray.empty t342 0).toList == ([112, 108, 97, 99, 101, 115] : List UInt8)) != (x9_1 == 0))), (by first | rfl | (simp; done) | (simp [*]; done)), H', ⟨by have := HK1.out; first | omega | exact Nat.le_refl _⟩, ⟨by (with_reducible repeat (first | apply Kd.R_alloc | apply Kd.R_drewN | apply Kd.R_drew)); exact Kd.R_mono HO_5.out (fun _ hk => hk.2)⟩, ⟨by (with_reducible repeat (first | apply Kd.R_alloc | apply Kd.R_drewN | apply Kd.R_drew)); exact HO_6.out⟩, ⟨by (with_reducible repeat (first | apply Kd.R_alloc | apply Kd.R_drewN | apply Kd.R_drew)); exact Kd.R_mono HO344.out (fun _ hk => hk.2)⟩, ⟨by repeat (first | (with_reducible first | exact HB.out | apply below_alloc | apply pw_below_drewN | apply below_drew1) | exact HB.out)⟩⟩
                        · rw [if_neg c19] at H
                          exact absurd H (by simp)
                    · replace c17 := Bool.eq_false_iff.mpr c17
                      subst c17
                      have H1 : (cippusref07_Read.j1 k1 t338 x6_1 x7_1 x8_1 x9_1 t342 t346 true) = some (r1, r2, r3) := by rw [if_neg (show ¬ (false = true) by decide)] at H; exact H
                      clear H
                      have H := H1
                      clear H1
                      have H' := Aside0.mk H
                      clear H
                      go_wp2
                      go_meet
                      case rel => exact ⟨_, (true), (by first | rfl | (simp; done) | (simp [*]; done)), H', ⟨by have := HK1.out; first | omega | exact Nat.le_refl _⟩, ⟨by (with_reducible repeat (first | apply Kd.R_alloc | apply Kd.R_drewN | apply Kd.R_drew)); exact Kd.R_mono HO_5.out (fun _ hk => hk.2)⟩, ⟨by (with_reducible repeat (first | apply Kd.R_alloc | apply Kd.R_drewN | apply Kd.R_drew)); exact HO_6.out⟩, ⟨by (with_reducible repeat (first | apply Kd.R_alloc | apply Kd.R_drewN | apply Kd.R_drew)); exact Kd.R_mono HO344.out (fun _ hk => hk.2)⟩, ⟨by repeat (first | (with_reducible first | exact HB.out | apply below_alloc | apply pw_below_drewN | apply below_drew1) | exact HB.out)⟩⟩
                  case rest =>
                    clear HC13
                    try clear c1
                    try clear c2
                    try clear c2b0
                    try clear c2b1
                    try clear p2
                    try clear p3
                    try clear q3
                    try clear hx3
                    try clear qi3
                    try clear c4
                    try clear c5
                    try clear c5b0
                    try clear c6
                    try clear c6b0
                    try clear p6
                    try clear c7
                    try clear c7b0
                    try clear c10
                    try clear c10b0
                    try clear c11
                    try clear c11b0
                    try clear c17
                    try clear c18
                    try clear c19
                    try clear c19b0
                    try clear c19b1
                    try clear hx341_0
                    try clear hx345_0
                    try clear hx348_0
                    try clear p2
                    try clear p341
                    try clear p345
                    try clear p348
                    try clear q341
                    try clear q345
                    try clear q348
                    obtain ⟨kq, x77_12, rfl, HA, HJ12, HO_5, HO_6, HO_10, HB⟩ := hcut
                    cases kq with
                    | zero => exact absurd HA.out (by simp [cippusref07_Read.j1])
                    | succ kj12 =>
                      have H := HA.out
                      clear HA
                      simp only [cippusref07_Read.j1] at H
                      by_cases c20 : x77_12 = true
                      · subst c20
                        have H1 : (some (([] : List (S25)), wrap64 (x9_1 + 1), 2)) = some (r1, r2, r3) := by rw [if_pos rfl] at H; exact H
                        clear H
                        have H := H1
                        clear H1
                        simp only [Option.some.injEq, Prod.mk.injEq] at H
                        obtain ⟨rfl, rfl, rfl⟩ := H
                        go_wp2
                        go_ret3
                        exact ⟨_, by first | rfl | (simp [errW_none, errW_some] <;> rfl) | (simp only [← hji9]; first | rfl | (simp [errW_none, errW_some] <;> rfl)) | (simp [*, errW_none, errW_some] <;> rfl), by first | exact Kd.R_nil _ _ _ _ _ | exact Kd.N_nil _ _ _ _ _ | exact Kd.V_nil _ _ _ _ _ | exact Kd.Q_nil _ _ _ _ _ | exact Kd.S_nil _ _ _ _ _, by repeat (first | (with_reducible first | exact HB.out | apply below_alloc | apply pw_below_drewN | apply below_drew1) | exact HB.out)⟩
                      · replace c20 := Bool.eq_false_iff.mpr c20
                        subst c20
                        have H1 : (if 0 < (t342.length : Int) then (if (rdOf ByteArray.empty t342 0).toList = ([112, 108, 97, 99, 101, 115] : List UInt8) then (if ((t342.length : Int) = 2) then (cippusref07_Read.l0 kj12 t338 x6_1 t346 x8_1 (wrap64 (x9_1 + 1))) else (some (([] : List (S25)), wrap64 (x9_1 + 1), 2))) else (if (rdOf ByteArray.empty t342 0).toList = ([99, 111, 112, 105, 101, 115] : List UInt8) then (cippusref07_Read.j2 kj12 t338 x6_1 x7_1 x8_1 x9_1 t342 t346 ((t342.length : Int) == 2)) else (cippusref07_Read.j2 kj12 t338 x6_1 x7_1 x8_1 x9_1 t342 t346 false))) else (none)) = some (r1, r2, r3) := by rw [if_neg (show ¬ (false = true) by decide)] at H; exact H
                        clear H
                        have H := H1
                        clear H1
                        by_cases c21 : 0 < (t342.length : Int)
                        · rw [if_pos c21] at H
                          have c21b0 : decide (0 < (t342.length : Int)) = true := decide_eq_true c21
                          have c21b1 : decide (0 < t342.length) = true := decide_eq_true (by omega)
                          clear c21
                          by_cases c22 : (rdOf ByteArray.empty t342 0).toList = ([112, 108, 97, 99, 101, 115] : List UInt8)
                          · rw [if_pos c22] at H
                            have c22b0 : ((rdOf ByteArray.empty t342 0).toList == ([112, 108, 97, 99, 101, 115] : List UInt8)) = true := beq_iff_eq.mpr c22
                            have c22b1 : ((rdOf ByteArray.empty t342 0).toList != ([112, 108, 97, 99, 101, 115] : List UInt8)) = false := bne_eq_false_iff_eq.mpr c22
                            clear c22
                            by_cases c23 : ((t342.length : Int) = 2)
                            · rw [if_pos c23] at H
                              have c23b0 : ((t342.length : Int) == 2) = true := beq_iff_eq.mpr c23
                              have c23b1 : ((t342.length : Int) != 2) = false := bne_eq_false_iff_eq.mpr c23
                              clear c23
                              have H' := Aside0.mk H
                              clear H
                              have p349 : 0 ≤ (0 : Int) := (by omega)
                              have q349 : 0 < (t342.length : Int) := of_decide_eq_true (by first | (with_reducible assumption) | assumption)
                              obtain ⟨ad349, e349, hx349_0⟩ := Kd.at_string (Kd.R_reads' HO_10.out).2.2 0 p349 q349
                              obtain rfl : ad345 = ad349 := (by injection e349)
                              have qi349 : (0 < t342.length) = True := eq_true (by omega)
                              (try rw [show ((0 : Int)).toNat = 0 from rfl] at hx349_0)
                              (try rw [Addr.add_zero'] at hx349_0)
                              replace p349 := eq_true p349
                              replace q349 := eq_true q349
                              go_wp2
                              go_roundg kj12
                              case measure => have := HK1.out; have := HJ12.out; omega
                              case rel => exact ⟨(x6_1), (t346), (x8_1), (wrap64 (x9_1 + 1)), (by first | rfl | (simp; done) | (simp [*]; done)), (by first | rfl | (simp; done) | (simp [*]; done)), (by first | rfl | (simp; done) | (simp [*]; done)), H', ⟨by have := HK1.out; have := HJ12.out; omega⟩, ⟨by (with_reducible repeat (first | apply Kd.R_alloc | apply Kd.R_drewN | apply Kd.R_drew)); exact Kd.R_mono HO_5.out (fun _ hk => trivial)⟩, ⟨by (with_reducible repeat (first | apply Kd.R_alloc | apply Kd.R_drewN | apply Kd.R_drew)); exact HO_6.out⟩, ⟨by repeat (first | (with_reducible first | exact HB.out | apply below_alloc | apply pw_below_drewN | apply below_drew1) | exact HB.out)⟩⟩
                            · rw [if_neg c23] at H
                              have c23b0 : ((t342.length : Int) == 2) = false := beq_eq_false_iff_ne.mpr c23
                              have c23b1 : ((t342.length : Int) != 2) = true := bne_iff_ne.mpr c23
                              simp only [Option.some.injEq, Prod.mk.injEq] at H
                              obtain ⟨rfl, rfl, rfl⟩ := H
                              have p349 : 0 ≤ (0 : Int) := (by omega)
                              have q349 : 0 < (t342.length : Int) := of_decide_eq_true (by first | (with_reducible assumption) | assumption)
                              obtain ⟨ad349, e349, hx349_0⟩ := Kd.at_string (Kd.R_reads' HO_10.out).2.2 0 p349 q349
                              obtain rfl : ad345 = ad349 := (by injection e349)
                              have qi349 : (0 < t342.length) = True := eq_true (by omega)
                              (try rw [show ((0 : Int)).toNat = 0 from rfl] at hx349_0)
                              (try rw [Addr.add_zero'] at hx349_0)
                              replace p349 := eq_true p349
                              replace q349 := eq_true q349
                              go_wp2
                              go_ret3
                              exact ⟨_, by first | rfl | (simp [errW_none, errW_some] <;> rfl) | (simp only [← hji9]; first | rfl | (simp [errW_none, errW_some] <;> rfl)) | (simp [*, errW_none, errW_some] <;> rfl), by first | exact Kd.R_nil _ _ _ _ _ | exact Kd.N_nil _ _ _ _ _ | exact Kd.V_nil _ _ _ _ _ | exact Kd.Q_nil _ _ _ _ _ | exact Kd.S_nil _ _ _ _ _, by repeat (first | (with_reducible first | exact HB.out | apply below_alloc | apply pw_below_drewN | apply below_drew1) | exact HB.out)⟩
                          · rw [if_neg c22] at H
                            have c22b0 : ((rdOf ByteArray.empty t342 0).toList == ([112, 108, 97, 99, 101, 115] : List UInt8)) = false := beq_eq_false_iff_ne.mpr c22
                            have c22b1 : ((rdOf ByteArray.empty t342 0).toList != ([112, 108, 97, 99, 101, 115] : List UInt8)) = true := bne_iff_ne.mpr c22
                            have HC24 := Aside0.mk H
                            clear H
                            have p349 : 0 ≤ (0 : Int) := (by omega)
                            have q349 : 0 < (t342.length : Int) := of_decide_eq_true (by first | (with_reducible assumption) | assumption)
                            obtain ⟨ad349, e349, hx349_0⟩ := Kd.at_string (Kd.R_reads' HO_10.out).2.2 0 p349 q349
                            obtain rfl : ad345 = ad349 := (by injection e349)
                            have qi349 : (0 < t342.length) = True := eq_true (by omega)
                            (try rw [show ((0 : Int)).toNat = 0 from rfl] at hx349_0)
                            (try rw [Addr.add_zero'] at hx349_0)
                            replace p349 := eq_true p349
                            replace q349 := eq_true q349
                            go_upto_region 18 with (fail)
                            go_cut [101] (fun v101 wc => ∃ (kq : Nat) (x101_23 : Bool), v101 = .bool x101_23 ∧ Aside0 (cippusref07_Read.j2 kq t338 x6_1 x7_1 x8_1 x9_1 t342 t346 x101_23 = some (r1, r2, r3)) ∧ Aside0 (kq ≤ kj12) ∧ Aside0 (Kd.R Kd.string 9 wc w.heap.size (fun k_ => some k_ ≠ ((.slice (some ad345) t342.length co16) : Value).ownBlock) (.slice (some ad341) t338.length co14) t338) ∧ Aside0 (Kd.R k25 25 wc w.heap.size (fun _ => True) u6 x6_1) ∧ Aside0 (Kd.R Kd.string 9 wc w.heap.size (fun k_ => some k_ ≠ ((.slice (some ad341) t338.length co14) : Value).ownBlock) (.slice (some ad345) t342.length co16) t342) ∧ Aside0 (Below w.heap.size w wc))
                            case first =>
                              have H := HC24.out
                              clear HC24
                              by_cases c25 : (rdOf ByteArray.empty t342 0).toList = ([99, 111, 112, 105, 101, 115] : List UInt8)
                              · rw [if_pos c25] at H
                                have c25b0 : ((rdOf ByteArray.empty t342 0).toList == ([99, 111, 112, 105, 101, 115] : List UInt8)) = true := beq_iff_eq.mpr c25
                                have c25b1 : ((rdOf ByteArray.empty t342 0).toList != ([99, 111, 112, 105, 101, 115] : List UInt8)) = false := bne_eq_false_iff_eq.mpr c25
                                clear c25
                                (first | rw [c25b0] | (simp only [i64_w, i32_w]; rw [c25b0]) | skip)
                                have H' := Aside0.mk H
                                clear H
                                have p350 : 0 ≤ (0 : Int) := (by omega)
                                have q350 : 0 < (t342.length : Int) := of_decide_eq_true (by first | (with_reducible assumption) | assumption)
                                obtain ⟨ad350, e350, hx350_0⟩ := Kd.at_string (Kd.R_reads' HO_10.out).2.2 0 p350 q350
                                obtain rfl : ad345 = ad350 := (by injection e350)
                                have qi350 : (0 < t342.length) = True := eq_true (by omega)
                                (try rw [show ((0 : Int)).toNat = 0 from rfl] at hx350_0)
                                (try rw [Addr.add_zero'] at hx350_0)
                                replace p350 := eq_true p350
                                replace q350 := eq_true q350
                                go_wp2
                                go_meet
                                case rel => exact ⟨_, (((t342.length : Int) == 2)), (by first | rfl | (simp; done) | (simp [*]; done)), H', ⟨by have := HK1.out; have := HJ12.out; first | omega | exact Nat.le_refl _⟩, ⟨by (with_reducible repeat (first | apply Kd.R_alloc | apply Kd.R_drewN | apply Kd.R_drew)); exact HO_5.out⟩, ⟨by (with_reducible repeat (first | apply Kd.R_alloc | apply Kd.R_drewN | apply Kd.R_drew)); exact HO_6.out⟩, ⟨by (with_reducible repeat (first | apply Kd.R_alloc | apply Kd.R_drewN | apply Kd.R_drew)); exact HO_10.out⟩, ⟨by repeat (first | (with_reducible first | exact HB.out | apply below_alloc | apply pw_below_drewN | apply below_drew1) | exact HB.out)⟩⟩
                              · rw [if_neg c25] at H
                                have c25b0 : ((rdOf ByteArray.empty t342 0).toList == ([99, 111, 112, 105, 101, 115] : List UInt8)) = false := beq_eq_false_iff_ne.mpr c25
                                have c25b1 : ((rdOf ByteArray.empty t342 0).toList != ([99, 111, 112, 105, 101, 115] : List UInt8)) = true := bne_iff_ne.mpr c25
                                (first | rw [c25b0] | (simp only [i64_w, i32_w]; rw [c25b0]) | skip)
                                have H' := Aside0.mk H
                                clear H
                                have p350 : 0 ≤ (0 : Int) := (by omega)
                                have q350 : 0 < (t342.length : Int) := of_decide_eq_true (by first | (with_reducible assumption) | assumption)
                                obtain ⟨ad350, e350, hx350_0⟩ := Kd.at_string (Kd.R_reads' HO_10.out).2.2 0 p350 q350
                                obtain rfl : ad345 = ad350 := (by injection e350)
                                have qi350 : (0 < t342.length) = True := eq_true (by omega)
                                (try rw [show ((0 : Int)).toNat = 0 from rfl] at hx350_0)
                                (try rw [Addr.add_zero'] at hx350_0)
                                replace p350 := eq_true p350
                                replace q350 := eq_true q350
                                go_wp2
                                go_meet
                                case rel => exact ⟨_, (false), (by first | rfl | (simp; done) | (simp [*]; done)), H', ⟨by have := HK1.out; have := HJ12.out; first | omega | exact Nat.le_refl _⟩, ⟨by (with_reducible repeat (first | apply Kd.R_alloc | apply Kd.R_drewN | apply Kd.R_drew)); exact HO_5.out⟩, ⟨by (with_reducible repeat (first | apply Kd.R_alloc | apply Kd.R_drewN | apply Kd.R_drew)); exact HO_6.out⟩, ⟨by (with_reducible repeat (first | apply Kd.R_alloc | apply Kd.R_drewN | apply Kd.R_drew)); exact HO_10.out⟩, ⟨by repeat (first | (with_reducible first | exact HB.out | apply below_alloc | apply pw_below_drewN | apply below_drew1) | exact HB.out)⟩⟩
                            case rest =>
                              clear HC24
                              try clear c1
                              try clear c2
                              try clear c2b0
                              try clear c2b1
                              try clear p2
                              try clear p3
                              try clear q3
                              try clear hx3
                              try clear qi3
                              try clear c4
                              try clear c5
                              try clear c5b0
                              try clear c6
                              try clear c6b0
                              try clear p6
                              try clear c7
                              try clear c7b0
                              try clear c10
                              try clear c10b0
                              try clear c11
                              try clear c11b0
                              try clear c17
                              try clear c18
                              try clear c19
                              try clear c19b0
                              try clear c19b1
                              try clear c20
                              try clear c21
                              try clear c21b0
                              try clear c21b1
                              try clear c22
                              try clear c22b0
                              try clear c22b1
                              try clear c23
                              try clear c23b0
                              try clear c23b1
                              try clear c25
                              try clear c25b0
                              try clear c25b1
                              try clear hx341_0
                              try clear hx345_0
                              try clear hx348_0
                              try clear hx349_0
                              try clear hx350_0
                              try clear p2
                              try clear p3
                              try clear p341
                              try clear p345
                              try clear p348
                              try clear p349
                              try clear p350
                              try clear p6
                              try clear q3
                              try clear q341
                              try clear q345
                              try clear q348
                              try clear q349
                              try clear q350
                              obtain ⟨kq, x101_23, rfl, HA, HJ23, HO_5, HO_6, HO_10, HB⟩ := hcut
                              cases kq with
                              | zero => exact absurd HA.out (by simp [cippusref07_Read.j2])
                              | succ kj23 =>
                                have H := HA.out
                                clear HA
                                simp only [cippusref07_Read.j2] at H
                                by_cases c26 : x101_23 = true
                                · subst c26
                                  have H1 : (if (t346 = (x6_1.length : Int)) then (cippusref07_Read.l0 kj23 t338 x6_1 x7_1 true (wrap64 (x9_1 + 1))) else (some (([] : List (S25)), wrap64 (x9_1 + 1), 2))) = some (r1, r2, r3) := by rw [if_pos rfl] at H; exact H
                                  clear H
                                  have H := H1
                                  clear H1
                                  by_cases c27 : (t346 = (x6_1.length : Int))
                                  · rw [if_pos c27] at H
                                    have c27b0 : (t346 == (x6_1.length : Int)) = true := beq_iff_eq.mpr c27
                                    have c27b1 : (t346 != (x6_1.length : Int)) = false := bne_eq_false_iff_eq.mpr c27
                                    clear c27
                                    have H' := Aside0.mk H
                                    clear H
                                    obtain ⟨Ao28, co28, eo28⟩ := Kd.R_slice HO_6.out
                                    subst eo28
                                    go_wp2
                                    go_roundg kj23
                                    case measure => have := HK1.out; have := HJ12.out; have := HJ23.out; omega
                                    case rel => exact ⟨(x6_1), (x7_1), (true), (wrap64 (x9_1 + 1)), (by first | rfl | (simp; done) | (simp [*]; done)), (by first | rfl | (simp; done) | (simp [*]; done)), (by first | rfl | (simp; done) | (simp [*]; done)), H', ⟨by have := HK1.out; have := HJ12.out; have := HJ23.out; omega⟩, ⟨by (with_reducible repeat (first | apply Kd.R_alloc | apply Kd.R_drewN | apply Kd.R_drew)); exact Kd.R_mono HO_5.out (fun _ hk => trivial)⟩, ⟨by (with_reducible repeat (first | apply Kd.R_alloc | apply Kd.R_drewN | apply Kd.R_drew)); exact HO_6.out⟩, ⟨by repeat (first | (with_reducible first | exact HB.out | apply below_alloc | apply pw_below_drewN | apply below_drew1) | exact HB.out)⟩⟩
                                  · rw [if_neg c27] at H
                                    have c27b0 : (t346 == (x6_1.length : Int)) = false := beq_eq_false_iff_ne.mpr c27
                                    have c27b1 : (t346 != (x6_1.length : Int)) = true := bne_iff_ne.mpr c27
                                    simp only [Option.some.injEq, Prod.mk.injEq] at H
                                    obtain ⟨rfl, rfl, rfl⟩ := H
                                    obtain ⟨Ao29, co29, eo29⟩ := Kd.R_slice HO_6.out
                                    subst eo29
                                    go_wp2
                                    go_ret3
                                    exact ⟨_, by first | rfl | (simp [errW_none, errW_some] <;> rfl) | (simp only [← hji9]; first | rfl | (simp [errW_none, errW_some] <;> rfl)) | (simp [*, errW_none, errW_some] <;> rfl), by first | exact Kd.R_nil _ _ _ _ _ | exact Kd.N_nil _ _ _ _ _ | exact Kd.V_nil _ _ _ _ _ | exact Kd.Q_nil _ _ _ _ _ | exact Kd.S_nil _ _ _ _ _, by repeat (first | (with_reducible first | exact HB.out | apply below_alloc | apply pw_below_drewN | apply below_drew1) | exact HB.out)⟩
                                · replace c26 := Bool.eq_false_iff.mpr c26
                                  subst c26
                                  have H1 : (if (t342.length : Int) = 3 then (if 0 < (t342.length : Int) then (if (rdOf ByteArray.empty t342 0).toList = ([115, 97, 119] : List UInt8) then (if 1 < (t342.length : Int) then (cippusref07_Read.j3 kj23 t338 x6_1 x7_1 x8_1 x9_1 t342 t346 (((rdOf ByteArray.empty t342 1).size : Int) == x7_1)) else (none)) else (if (rdOf ByteArray.empty t342 0).toList = ([104, 97, 100] : List UInt8) then (if 1 < (t342.length : Int) then (cippusref07_Read.j3 kj23 t338 x6_1 x7_1 x8_1 x9_1 t342 t346 (((rdOf ByteArray.empty t342 1).size : Int) == x7_1)) else (none)) else (cippusref07_Read.j3 kj23 t338 x6_1 x7_1 x8_1 x9_1 t342 t346 false))) else (none)) else (cippusref07_Read.j3 kj23 t338 x6_1 x7_1 x8_1 x9_1 t342 t346 false)) = some (r1, r2, r3) := by rw [if_neg (show ¬ (false = true) by decide)] at H; exact H
                                  clear H
                                  have H := H1
                                  clear H1
                                  have HC30 := Aside0.mk H
                                  clear H
                                  go_upto_region 11 with (fail)
                                  go_cut [12] (fun v12 wc => ∃ (kq : Nat) (x12_29 : Bool), v12 = .bool x12_29 ∧ Aside0 (cippusref07_Read.j3 kq t338 x6_1 x7_1 x8_1 x9_1 t342 t346 x12_29 = some (r1, r2, r3)) ∧ Aside0 (kq ≤ kj23) ∧ Aside0 (Kd.R Kd.string 9 wc w.heap.size (fun k_ => some k_ ≠ ((.slice (some ad345) t342.length co16) : Value).ownBlock) (.slice (some ad341) t338.length co14) t338) ∧ Aside0 (Kd.R k25 25 wc w.heap.size (fun _ => True) u6 x6_1) ∧ Aside0 (Kd.R Kd.string 9 wc w.heap.size (fun k_ => some k_ ≠ ((.slice (some ad341) t338.length co14) : Value).ownBlock) (.slice (some ad345) t342.length co16) t342) ∧ Aside0 (Below w.heap.size w wc))
                                  case first =>
                                    have H := HC30.out
                                    clear HC30
                                    by_cases c31 : (t342.length : Int) = 3
                                    · rw [if_pos c31] at H
                                      have c31b0 : ((t342.length : Int) == 3) = true := beq_iff_eq.mpr c31
                                      have c31b1 : ((t342.length : Int) != 3) = false := bne_eq_false_iff_eq.mpr c31
                                      clear c31
                                      (first | rw [c31b0] | (simp only [i64_w, i32_w]; rw [c31b0]) | skip)
                                      by_cases c32 : 0 < (t342.length : Int)
                                      · rw [if_pos c32] at H
                                        have c32b0 : decide (0 < (t342.length : Int)) = true := decide_eq_true c32
                                        have c32b1 : decide (0 < t342.length) = true := decide_eq_true (by omega)
                                        clear c32
                                        by_cases c33 : (rdOf ByteArray.empty t342 0).toList = ([115, 97, 119] : List UInt8)
                                        · rw [if_pos c33] at H
                                          have c33b0 : ((rdOf ByteArray.empty t342 0).toList == ([115, 97, 119] : List UInt8)) = true := beq_iff_eq.mpr c33
                                          have c33b1 : ((rdOf ByteArray.empty t342 0).toList != ([115, 97, 119] : List UInt8)) = false := bne_eq_false_iff_eq.mpr c33
                                          clear c33
                                          by_cases c34 : 1 < (t342.length : Int)
                                          · rw [if_pos c34] at H
                                            have c34b0 : decide (1 < (t342.length : Int)) = true := decide_eq_true c34
                                            have c34b1 : decide (1 < t342.length) = true := decide_eq_true (by omega)
                                            clear c34
                                            have H' := Aside0.mk H
                                            clear H
                                            have p351 : 0 ≤ (0 : Int) := (by omega)
                                            have q351 : 0 < (t342.length : Int) := of_decide_eq_true (by first | (with_reducible assumption) | assumption)
                                            obtain ⟨ad351, e351, hx351_0⟩ := Kd.at_string (Kd.R_reads' HO_10.out).2.2 0 p351 q351
                                            obtain rfl : ad345 = ad351 := (by injection e351)
                                            have qi351 : (0 < t342.length) = True := eq_true (by omega)
                                            (try rw [show ((0 : Int)).toNat = 0 from rfl] at hx351_0)
                                            (try rw [Addr.add_zero'] at hx351_0)
                                            replace p351 := eq_true p351
                                            replace q351 := eq_true q351
                                            have p352 : 0 ≤ (1 : Int) := (by omega)
                                            have q352 : 1 < (t342.length : Int) := of_decide_eq_true (by first | (with_reducible assumption) | assumption)
                                            obtain ⟨ad352, e352, hx352_0⟩ := Kd.at_string (Kd.R_reads' HO_10.out).2.2 1 p352 q352
                                            obtain rfl : ad345 = ad352 := (by injection e352)
                                            (try simp only [show (1 : Int).toNat = 1 from rfl, Nat.reduceMul, Nat.reduceEqDiff, Go.Addr.add, ↓reduceIte] at hx352_0)
                                            have qi352 : (1 < t342.length) = True := eq_true (by omega)
                                            (try rw [show ((1 : Int)).toNat = 1 from rfl] at hx352_0)
                                            replace p352 := eq_true p352
                                            replace q352 := eq_true q352
                                            go_wp2
                                            go_meet
                                            case rel => exact ⟨_, ((((rdOf ByteArray.empty t342 1).size : Int) == x7_1)), (by first | rfl | (simp; done) | (simp [*]; done)), H', ⟨by have := HK1.out; have := HJ12.out; have := HJ23.out; first | omega | exact Nat.le_refl _⟩, ⟨by (with_reducible repeat (first | apply Kd.R_alloc | apply Kd.R_drewN | apply Kd.R_drew)); exact HO_5.out⟩, ⟨by (with_reducible repeat (first | apply Kd.R_alloc | apply Kd.R_drewN | apply Kd.R_drew)); exact HO_6.out⟩, ⟨by (with_reducible repeat (first | apply Kd.R_alloc | apply Kd.R_drewN | apply Kd.R_drew)); exact HO_10.out⟩, ⟨by repeat (first | (with_reducible first | exact HB.out | apply below_alloc | apply pw_below_drewN | apply below_drew1) | exact HB.out)⟩⟩
                                          · rw [if_neg c34] at H
                                            exact absurd H (by simp)
                                        · rw [if_neg c33] at H
                                          have c33b0 : ((rdOf ByteArray.empty t342 0).toList == ([115, 97, 119] : List UInt8)) = false := beq_eq_false_iff_ne.mpr c33
                                          have c33b1 : ((rdOf ByteArray.empty t342 0).toList != ([115, 97, 119] : List UInt8)) = true := bne_iff_ne.mpr c33
                                          by_cases c35 : (rdOf ByteArray.empty t342 0).toList = ([104, 97, 100] : List UInt8)
                                          · rw [if_pos c35] at H
                                            have c35b0 : ((rdOf ByteArray.empty t342 0).toList == ([104, 97, 100] : List UInt8)) = true := beq_iff_eq.mpr c35
                                            have c35b1 : ((rdOf ByteArray.empty t342 0).toList != ([104, 97, 100] : List UInt8)) = false := bne_eq_false_iff_eq.mpr c35
                                            clear c35
                                            by_cases c36 : 1 < (t342.length : Int)
                                            · rw [if_pos c36] at H
                                              have c36b0 : decide (1 < (t342.length : Int)) = true := decide_eq_true c36
                                              have c36b1 : decide (1 < t342.length) = true := decide_eq_true (by omega)
                                              clear c36
                                              have H' := Aside0.mk H
                                              clear H
                                              have p351 : 0 ≤ (0 : Int) := (by omega)
                                              have q351 : 0 < (t342.length : Int) := of_decide_eq_true (by first | (with_reducible assumption) | assumption)
                                              obtain ⟨ad351, e351, hx351_0⟩ := Kd.at_string (Kd.R_reads' HO_10.out).2.2 0 p351 q351
                                              obtain rfl : ad345 = ad351 := (by injection e351)
                                              have qi351 : (0 < t342.length) = True := eq_true (by omega)
                                              (try rw [show ((0 : Int)).toNat = 0 from rfl] at hx351_0)
                                              (try rw [Addr.add_zero'] at hx351_0)
                                              replace p351 := eq_true p351
                                              replace q351 := eq_true q351
                                              have p353 : 0 ≤ (0 : Int) := (by omega)
                                              have q353 : 0 < (t342.length : Int) := of_decide_eq_true (by first | (with_reducible assumption) | assumption)
                                              obtain ⟨ad353, e353, hx353_0⟩ := Kd.at_string (Kd.R_reads' HO_10.out).2.2 0 p353 q353
                                              obtain rfl : ad345 = ad353 := (by injection e353)
                                              have qi353 : (0 < t342.length) = True := eq_true (by omega)
                                              (try rw [show ((0 : Int)).toNat = 0 from rfl] at hx353_0)
                                              (try rw [Addr.add_zero'] at hx353_0)
                                              replace p353 := eq_true p353
                                              replace q353 := eq_true q353
                                              have p354 : 0 ≤ (1 : Int) := (by omega)
                                              have q354 : 1 < (t342.length : Int) := of_decide_eq_true (by first | (with_reducible assumption) | assumption)
                                              obtain ⟨ad354, e354, hx354_0⟩ := Kd.at_string (Kd.R_reads' HO_10.out).2.2 1 p354 q354
                                              obtain rfl : ad345 = ad354 := (by injection e354)
                                              (try simp only [show (1 : Int).toNat = 1 from rfl, Nat.reduceMul, Nat.reduceEqDiff, Go.Addr.add, ↓reduceIte] at hx354_0)
                                              have qi354 : (1 < t342.length) = True := eq_true (by omega)
                                              (try rw [show ((1 : Int)).toNat = 1 from rfl] at hx354_0)
                                              replace p354 := eq_true p354
                                              replace q354 := eq_true q354
                                              go_wp2
                                              go_meet
                                              case rel => exact ⟨_, ((((rdOf ByteArray.empty t342 1).size : Int) == x7_1)), (by first | rfl | (simp; done) | (simp [*]; done)), H', ⟨by have := HK1.out; have := HJ12.out; have := HJ23.out; first | omega | exact Nat.le_refl _⟩, ⟨by (with_reducible repeat (first | apply Kd.R_alloc | apply Kd.R_drewN | apply Kd.R_drew)); exact HO_5.out⟩, ⟨by (with_reducible repeat (first | apply Kd.R_alloc | apply Kd.R_drewN | apply Kd.R_drew)); exact HO_6.out⟩, ⟨by (with_reducible repeat (first | apply Kd.R_alloc | apply Kd.R_drewN | apply Kd.R_drew)); exact HO_10.out⟩, ⟨by repeat (first | (with_reducible first | exact HB.out | apply below_alloc | apply pw_below_drewN | apply below_drew1) | exact HB.out)⟩⟩
                                            · rw [if_neg c36] at H
                                              exact absurd H (by simp)
                                          · rw [if_neg c35] at H
                                            have c35b0 : ((rdOf ByteArray.empty t342 0).toList == ([104, 97, 100] : List UInt8)) = false := beq_eq_false_iff_ne.mpr c35
                                            have c35b1 : ((rdOf ByteArray.empty t342 0).toList != ([104, 97, 100] : List UInt8)) = true := bne_iff_ne.mpr c35
                                            have H' := Aside0.mk H
                                            clear H
                                            have p351 : 0 ≤ (0 : Int) := (by omega)
                                            have q351 : 0 < (t342.length : Int) := of_decide_eq_true (by first | (with_reducible assumption) | assumption)
                                            obtain ⟨ad351, e351, hx351_0⟩ := Kd.at_string (Kd.R_reads' HO_10.out).2.2 0 p351 q351
                                            obtain rfl : ad345 = ad351 := (by injection e351)
                                            have qi351 : (0 < t342.length) = True := eq_true (by omega)
                                            (try rw [show ((0 : Int)).toNat = 0 from rfl] at hx351_0)
                                            (try rw [Addr.add_zero'] at hx351_0)
                                            replace p351 := eq_true p351
                                            replace q351 := eq_true q351
                                            have p353 : 0 ≤ (0 : Int) := (by omega)
                                            have q353 : 0 < (t342.length : Int) := of_decide_eq_true (by first | (with_reducible assumption) | assumption)
                                            obtain ⟨ad353, e353, hx353_0⟩ := Kd.at_string (Kd.R_reads' HO_10.out).2.2 0 p353 q353
                                            obtain rfl : ad345 = ad353 := (by injection e353)
                                            have qi353 : (0 < t342.length) = True := eq_true (by omega)
                                            (try rw [show ((0 : Int)).toNat = 0 from rfl] at hx353_0)
                                            (try rw [Addr.add_zero'] at hx353_0)
                                            replace p353 := eq_true p353
                                            replace q353 := eq_true q353
                                            go_wp2
                                            go_meet
                                            case rel => exact ⟨_, (false), (by first | rfl | (simp; done) | (simp [*]; done)), H', ⟨by have := HK1.out; have := HJ12.out; have := HJ23.out; first | omega | exact Nat.le_refl _⟩, ⟨by (with_reducible repeat (first | apply Kd.R_alloc | apply Kd.R_drewN | apply Kd.R_drew)); exact HO_5.out⟩, ⟨by (with_reducible repeat (first | apply Kd.R_alloc | apply Kd.R_drewN | apply Kd.R_drew)); exact HO_6.out⟩, ⟨by (with_reducible repeat (first | apply Kd.R_alloc | apply Kd.R_drewN | apply Kd.R_drew)); exact HO_10.out⟩, ⟨by repeat (first | (with_reducible first | exact HB.out | apply below_alloc | apply pw_below_drewN | apply below_drew1) | exact HB.out)⟩⟩
                                      · rw [if_neg c32] at H
                                        exact absurd H (by simp)
                                    · rw [if_neg c31] at H
                                      have c31b0 : ((t342.length : Int) == 3) = false := beq_eq_false_iff_ne.mpr c31
                                      have c31b1 : ((t342.length : Int) != 3) = true := bne_iff_ne.mpr c31
                                      (first | rw [c31b0] | (simp only [i64_w, i32_w]; rw [c31b0]) | skip)
                                      have H' := Aside0.mk H
                                      clear H
                                      go_wp2
                                      go_meet
                                      case rel => exact ⟨_, (false), (by first | rfl | (simp; done) | (simp [*]; done)), H', ⟨by have := HK1.out; have := HJ12.out; have := HJ23.out; first | omega | exact Nat.le_refl _⟩, ⟨by (with_reducible repeat (first | apply Kd.R_alloc | apply Kd.R_drewN | apply Kd.R_drew)); exact HO_5.out⟩, ⟨by (with_reducible repeat (first | apply Kd.R_alloc | apply Kd.R_drewN | apply Kd.R_drew)); exact HO_6.out⟩, ⟨by (with_reducible repeat (first | apply Kd.R_alloc | apply Kd.R_drewN | apply Kd.R_drew)); exact HO_10.out⟩, ⟨by repeat (first | (with_reducible first | exact HB.out | apply below_alloc | apply pw_below_drewN | apply below_drew1) | exact HB.out)⟩⟩
                                  case rest =>
                                    clear HC30
                                    try clear c1
                                    try clear c2
                                    try clear c2b0
                                    try clear c2b1
                                    try clear p2
                                    try clear c3
                                    try clear p3
                                    try clear q3
                                    try clear hx3
                                    try clear qi3
                                    try clear c4
                                    try clear c5
                                    try clear c5b0
                                    try clear c6
                                    try clear c6b0
                                    try clear p6
                                    try clear c7
                                    try clear c7b0
                                    try clear c10
                                    try clear c10b0
                                    try clear c11
                                    try clear c11b0
                                    try clear c17
                                    try clear c18
                                    try clear c19
                                    try clear c19b0
                                    try clear c19b1
                                    try clear c20
                                    try clear c21
                                    try clear c21b0
                                    try clear c21b1
                                    try clear c22
                                    try clear c22b0
                                    try clear c22b1
                                    try clear c23
                                    try clear c23b0
                                    try clear c23b1
                                    try clear c25
                                    try clear c25b0
                                    try clear c25b1
                                    try clear c26
                                    try clear c27
                                    try clear c27b0
                                    try clear c27b1
                                    try clear c31
                                    try clear c31b0
                                    try clear c31b1
                                    try clear c32
                                    try clear c32b0
                                    try clear c32b1
                                    try clear c33
                                    try clear c33b0
                                    try clear c33b1
                                    try clear c34
                                    try clear c34b0
                                    try clear c34b1
                                    try clear p34
                                    try clear q34
                                    try clear hx34
                                    try clear qi34
                                    try clear c35
                                    try clear c35b0
                                    try clear c35b1
                                    try clear p35
                                    try clear q35
                                    try clear hx35
                                    try clear qi35
                                    try clear c36
                                    try clear c36b0
                                    try clear c36b1
                                    try clear hx341_0
                                    try clear hx345_0
                                    try clear hx348_0
                                    try clear hx349_0
                                    try clear hx350_0
                                    try clear hx351_0
                                    try clear hx352_0
                                    try clear hx353_0
                                    try clear hx354_0
                                    try clear p2
                                    try clear p3
                                    try clear p341
                                    try clear p345
                                    try clear p348
                                    try clear p349
                                    try clear p350
                                    try clear p351
                                    try clear p352
                                    try clear p353
                                    try clear p354
                                    try clear p6
                                    try clear q3
                                    try clear q341
                                    try clear q345
                                    try clear q348
                                    try clear q349
                                    try clear q350
                                    try clear q351
                                    try clear q352
                                    try clear q353
                                    try clear q354
                                    obtain ⟨kq, x12_29, rfl, HA, HJ29, HO_5, HO_6, HO_10, HB⟩ := hcut
                                    cases kq with
                                    | zero => exact absurd HA.out (by simp [cippusref07_Read.j3])
                                    | succ kj29 =>
                                      have H := HA.out
                                      clear HA
                                      simp only [cippusref07_Read.j3] at H
                                      by_cases c37 : x12_29 = true
                                      · subst c37
                                        have H1 : (if 1 < (t342.length : Int) then (if 0 < (t342.length : Int) then (if x6_1.length < 4398046511104 then (cippusref07_Read.l0 kj29 t338 (x6_1 ++ [(⟨rdOf ByteArray.empty t342 1, t346, ((rdOf ByteArray.empty t342 0).toList == ([115, 97, 119] : List UInt8))⟩ : S25)]) x7_1 x8_1 (wrap64 (x9_1 + 1))) else (none)) else (none)) else (none)) = some (r1, r2, r3) := by rw [if_pos rfl] at H; exact H
                                        clear H
                                        have H := H1
                                        clear H1
                                        by_cases c38 : 1 < (t342.length : Int)
                                        · rw [if_pos c38] at H
                                          have c38b0 : decide (1 < (t342.length : Int)) = true := decide_eq_true c38
                                          have c38b1 : decide (1 < t342.length) = true := decide_eq_true (by omega)
                                          clear c38
                                          by_cases c39 : 0 < (t342.length : Int)
                                          · rw [if_pos c39] at H
                                            have c39b0 : decide (0 < (t342.length : Int)) = true := decide_eq_true c39
                                            have c39b1 : decide (0 < t342.length) = true := decide_eq_true (by omega)
                                            clear c39
                                            by_cases c40 : x6_1.length < 4398046511104
                                            · rw [if_pos c40] at H
                                              have LMc40 := Aside0.mk c40
                                              clear c40
                                              obtain ⟨y357, hy357⟩ : ∃ y_ : List (S25), y_ = (x6_1 ++ [(⟨rdOf ByteArray.empty t342 1, t346, ((rdOf ByteArray.empty t342 0).toList == ([115, 97, 119] : List UInt8))⟩ : S25)]) := ⟨_, rfl⟩
                                              replace H : (cippusref07_Read.l0 kj29 t338 y357 x7_1 x8_1 (wrap64 (x9_1 + 1))) = some (r1, r2, r3) := by first | (rw [hy357]; with_reducible exact H) | (have H2_ := (Option.bind_some _ _).symm.trans H; rw [hy357]; with_reducible exact H2_) | (have H2_ := (Option.bind_some _ _).symm.trans H; with_reducible exact H2_) | with_reducible exact H | (rw [hy357]; exact H) | exact H
                                              have Ny357 := Aside0.mk hy357
                                              clear hy357
                                              have H' := Aside0.mk H
                                              clear H
                                              try go_wp2
                                              have n0_ := Aside0.mk (Kd.R_drew HO_5.out)
                                              have n1_ := Aside0.mk (Kd.R_drew HO_6.out)
                                              have n2_ := Aside0.mk (Kd.R_drew HO_10.out)
                                              have n3_ := Aside0.mk (below_drew1 HB.out)
                                              clear HO_5
                                              clear HO_6
                                              clear HO_10
                                              clear HB
                                              have HO_5 := n0_
                                              have HO_6 := n1_
                                              have HO_10 := n2_
                                              have HB := n3_
                                              clear n0_ n1_ n2_ n3_
                                              have p355 : 0 ≤ (1 : Int) := (by omega)
                                              have q355 : 1 < (t342.length : Int) := of_decide_eq_true (by first | (with_reducible assumption) | assumption)
                                              obtain ⟨ad355, e355, hx355_0⟩ := Kd.at_string (Kd.R_reads' HO_10.out).2.2 1 p355 q355
                                              obtain rfl : ad345 = ad355 := (by injection e355)
                                              (try simp only [show (1 : Int).toNat = 1 from rfl, Nat.reduceMul, Nat.reduceEqDiff, Go.Addr.add, ↓reduceIte] at hx355_0)
                                              have qi355 : (1 < t342.length) = True := eq_true (by omega)
                                              (try rw [show ((1 : Int)).toNat = 1 from rfl] at hx355_0)
                                              replace p355 := eq_true p355
                                              replace q355 := eq_true q355
                                              have p356 : 0 ≤ (0 : Int) := (by omega)
                                              have q356 : 0 < (t342.length : Int) := of_decide_eq_true (by first | (with_reducible assumption) | assumption)
                                              obtain ⟨ad356, e356, hx356_0⟩ := Kd.at_string (Kd.R_reads' HO_10.out).2.2 0 p356 q356
                                              obtain rfl : ad345 = ad356 := (by injection e356)
                                              have qi356 : (0 < t342.length) = True := eq_true (by omega)
                                              (try rw [show ((0 : Int)).toNat = 0 from rfl] at hx356_0)
                                              (try rw [Addr.add_zero'] at hx356_0)
                                              replace p356 := eq_true p356
                                              replace q356 := eq_true q356
                                              refine start_ (n := 13) (S := fun w' => w'.cell? ⟨ad345.block, ad345.off + 1, none⟩ = some (.string (rdOf ByteArray.empty t342 1)) ∧ w'.cell? ad345 = some (.string (rdOf ByteArray.empty t342 0))) (ds := [10, 11]) #[false, false, false, false, false, false, false, false, false, false, false, false, false] (by kernel_rfl) rfl rfl ⟨hx355_0, hx356_0⟩ (fun hHeld => ?_); refine with_tabW cippusref07_Read.tab13 cippusref07_Read.bits13 (fun HT_ HW_ => ?_)
                                              generalize wc.drew = w41 at HO_5 HO_6 HO_10 HB hx355_0 hx356_0 hHeld ⊢
                                              refine pure_ (i := 0) (N := some 65) (v := ?_) (a' := ?_) #[true, false, false, false, false, false, false, false, false, false, false, false, false] rfl rfl (any_of HT_.out (by kernel_rfl)) (fun _ _ _ h => h) (Or.inl ⟨by rfl, ?_⟩) ?_ ?_
                                              rotate_left
                                              · intro w'
                                                go_simp
                                                with_reducible rfl
                                              rotate_left
                                              · simp only [Act.put, List.setIfInBounds_toArray, List.set_cons_zero, List.set_cons_succ, i64_w, i32_w]
                                                rfl
                                              refine pure_ (i := 1) (N := some 66) (v := ?_) (a' := ?_) #[true, true, false, false, false, false, false, false, false, false, false, false, false] rfl rfl (any_of HT_.out (by kernel_rfl)) (fun _ _ _ h => h) (Or.inl ⟨by rfl, ?_⟩) ?_ ?_
                                              rotate_left
                                              · intro w'
                                                go_simp
                                                with_reducible rfl
                                              rotate_left
                                              · simp only [Act.put, List.setIfInBounds_toArray, List.set_cons_zero, List.set_cons_succ, i64_w, i32_w]
                                                rfl
                                              refine pure_ (i := 2) (N := some 67) (v := ?_) (a' := ?_) #[true, true, true, false, false, false, false, false, false, false, false, false, false] rfl rfl (any_of HT_.out (by kernel_rfl)) (fun _ _ _ h => h) (Or.inl ⟨by rfl, ?_⟩) ?_ ?_
                                              rotate_left
                                              · intro w'
                                                go_simp
                                                with_reducible rfl
                                              rotate_left
                                              · simp only [Act.put, List.setIfInBounds_toArray, List.set_cons_zero, List.set_cons_succ, i64_w, i32_w]
                                                rfl
                                              refine pure_ (i := 4) (N := some 69) (v := ?_) (a' := ?_) #[true, true, true, false, true, false, false, false, false, false, false, false, false] rfl rfl (any_of HT_.out (by kernel_rfl)) (fun _ _ _ h => h) (Or.inl ⟨by rfl, ?_⟩) ?_ ?_
                                              rotate_left
                                              · intro w'
                                                go_simp
                                                with_reducible rfl
                                              rotate_left
                                              · simp only [Act.put, List.setIfInBounds_toArray, List.set_cons_zero, List.set_cons_succ, i64_w, i32_w]
                                                rfl
                                              refine pure_ (i := 5) (N := some 70) (v := ?_) (a' := ?_) #[true, true, true, false, true, true, false, false, false, false, false, false, false] rfl rfl (any_of HT_.out (by kernel_rfl)) (fun _ _ _ h => h) (Or.inl ⟨by rfl, ?_⟩) ?_ ?_
                                              rotate_left
                                              · intro w'
                                                go_simp
                                                with_reducible rfl
                                              rotate_left
                                              · simp only [Act.put, List.setIfInBounds_toArray, List.set_cons_zero, List.set_cons_succ, i64_w, i32_w]
                                                rfl
                                              refine pure_ (i := 6) (N := some 71) (v := ?_) (a' := ?_) #[true, true, true, false, true, true, true, false, false, false, false, false, false] rfl rfl (any_of HT_.out (by kernel_rfl)) (fun _ _ _ h => h) (Or.inl ⟨by rfl, ?_⟩) ?_ ?_
                                              rotate_left
                                              · intro w'
                                                go_simp
                                                with_reducible rfl
                                              rotate_left
                                              · simp only [Act.put, List.setIfInBounds_toArray, List.set_cons_zero, List.set_cons_succ, i64_w, i32_w]
                                                rfl
                                              refine take_ (i := 3) (N := some 68) (v := ?_) (a' := ?_) #[true, true, true, true, true, true, true, false, false, false, false, false, false] rfl rfl (take_ofW HT_.out HW_.out (by kernel_rfl)) (fun _ _ _ h => h) (Or.inl ⟨by rfl, ?_⟩) hHeld ?_ ?_
                                              rotate_left
                                              · rintro w' ⟨s0, s1⟩
                                                go_simp
                                                with_reducible rfl
                                              rotate_left
                                              · simp only [Act.put, List.setIfInBounds_toArray, List.set_cons_zero, List.set_cons_succ, i64_w, i32_w]
                                                rfl
                                              refine take_ (i := 7) (N := some 72) (v := ?_) (a' := ?_) #[true, true, true, true, true, true, true, true, false, false, false, false, false] rfl rfl (take_ofW HT_.out HW_.out (by kernel_rfl)) (fun _ _ _ h => h) (Or.inl ⟨by rfl, ?_⟩) hHeld ?_ ?_
                                              rotate_left
                                              · rintro w' ⟨s0, s1⟩
                                                go_simp
                                                with_reducible rfl
                                              rotate_left
                                              · simp only [Act.put, List.setIfInBounds_toArray, List.set_cons_zero, List.set_cons_succ, i64_w, i32_w]
                                                rfl
                                              refine pure_ (i := 8) (N := some 73) (v := ?_) (a' := ?_) #[true, true, true, true, true, true, true, true, true, false, false, false, false] rfl rfl (any_of HT_.out (by kernel_rfl)) (fun _ _ _ h => h) (Or.inl ⟨by rfl, ?_⟩) ?_ ?_
                                              rotate_left
                                              · intro w'
                                                go_simp
                                                with_reducible rfl
                                              rotate_left
                                              · simp only [Act.put, List.setIfInBounds_toArray, List.set_cons_zero, List.set_cons_succ, i64_w, i32_w]
                                                rfl
                                              refine pure_ (i := 9) (N := some 74) (v := ?_) (a' := ?_) #[true, true, true, true, true, true, true, true, true, true, false, false, false] rfl rfl (any_of HT_.out (by kernel_rfl)) (fun _ _ _ h => h) (Or.inl ⟨by rfl, ?_⟩) ?_ ?_
                                              rotate_left
                                              · intro w'
                                                go_simp
                                                with_reducible rfl
                                              rotate_left
                                              · simp only [Act.put, List.setIfInBounds_toArray, List.set_cons_zero, List.set_cons_succ, i64_w, i32_w]
                                                rfl
                                              refine last_ (i := 10) (N := some 75) #[true, true, true, true, true, true, true, true, true, true, true, false, false] rfl rfl (one_of HT_.out (by kernel_rfl)) (by decide) (fun K hK => ?_)
                                              refine value_ (w1 := ?_) (v := ?_) (by rfl) rfl ?_ ?_
                                              rotate_left 2
                                              · go_simp
                                                constructor
                                                · rfl
                                                · rfl
                                              refine hK.out _ _ ?_
                                              clear hK K
                                              refine norm_ (a' := ?_) ?_ ?_
                                              rotate_left
                                              · show Act.put _ (some 75) _ = _
                                                simp only [Act.put, List.setIfInBounds_toArray, List.set_cons_zero, List.set_cons_succ, i64_w, i32_w]
                                                rfl
                                              refine last_ (i := 11) (N := some 76) #[true, true, true, true, true, true, true, true, true, true, true, true, false] rfl rfl (one_of HT_.out (by kernel_rfl)) (by decide) (fun K hK => ?_)
                                              refine Kd.R_append_step k25 (w0 := w) w.heap.size (by rfl) (.tmp 65) (.tmp 75) 22 25 (.agg #[(.string ⟨#[]⟩), (.int .i64 0), (.bool false)]) 32 rfl Tryd.underlying22 info25 rfl (by decide) (by omega) u6 x6_1 (⟨rdOf ByteArray.empty t342 1, t346, ((rdOf ByteArray.empty t342 0).toList == ([115, 97, 119] : List UInt8))⟩ : S25) [.string (rdOf ByteArray.empty t342 1), .int .i64 t346, .bool ((rdOf ByteArray.empty t342 0).toList == ([115, 97, 119] : List UInt8))] (fun _ => True) (fun _ => False) rfl rfl ?aP (fun _ hk => hk.elim) ?aF ?aO ?aB ?aS ?aL ?_
                                              (case aP => exact k25_mkM _ _ _ (⟨rdOf ByteArray.empty t342 1, t346, ((rdOf ByteArray.empty t342 0).toList == ([115, 97, 119] : List UInt8))⟩ : S25))
                                              (case aB => exact (by repeat (first | (with_reducible first | exact HB.out | apply below_alloc | apply pw_below_drewN | apply below_drew1) | exact HB.out)))
                                              (case aF => exact (fun _ _ => trivial))
                                              (case aO => exact (by (with_reducible repeat (first | apply Kd.R_alloc | apply Kd.R_drewN | apply Kd.R_drew)); exact HO_6.out))
                                              (case aS => exact (below_size (by repeat (first | (with_reducible first | exact HB.out | apply below_alloc | apply pw_below_drewN | apply below_drew1) | exact HB.out))))
                                              (case aL => have := LMc40.out; omega)
                                              intro v358 w42 ho hb hg hat
                                              rw [← Ny357.out] at ho
                                              have n0_ := Aside0.mk (Kd.R_over' (by (with_reducible repeat (first | apply Kd.R_alloc | apply Kd.R_drewN | apply Kd.R_drew)); exact HO_5.out) (Kd.R_typed (by (with_reducible repeat (first | apply Kd.R_alloc | apply Kd.R_drewN | apply Kd.R_drew)); exact HO_6.out)) (by decide) hg)
                                              have n1_ := Aside0.mk (Kd.R_over' (by (with_reducible repeat (first | apply Kd.R_alloc | apply Kd.R_drewN | apply Kd.R_drew)); exact HO_10.out) (Kd.R_typed (by (with_reducible repeat (first | apply Kd.R_alloc | apply Kd.R_drewN | apply Kd.R_drew)); exact HO_6.out)) (by decide) hg)
                                              have n2_ := Aside0.mk (hb)
                                              have n3_ := Aside0.mk (ho)
                                              clear HO_5
                                              clear HO_10
                                              clear HB
                                              clear HO_6
                                              have HO_5 := n0_
                                              have HO_10 := n1_
                                              have HB := n2_
                                              have HO359 := n3_
                                              clear n0_ n1_ n2_ n3_
                                              clear ho hb hg hat
                                              refine hK.out _ _ ?_
                                              clear hK K
                                              refine norm_ (a' := ?_) ?_ ?_
                                              rotate_left
                                              · show Act.put _ (some 76) _ = _
                                                simp only [Act.put, List.setIfInBounds_toArray, List.set_cons_zero, List.set_cons_succ, i64_w, i32_w]
                                                rfl
                                              refine pure_ (i := 12) (N := some 6) (v := ?_) (a' := ?_) #[true, true, true, true, true, true, true, true, true, true, true, true, true] rfl rfl (any_of HT_.out (by kernel_rfl)) (fun _ _ _ h => h) (Or.inl ⟨by rfl, ?_⟩) ?_ ?_
                                              rotate_left
                                              · intro w'
                                                go_simp
                                                with_reducible rfl
                                              rotate_left
                                              · simp only [Act.put, List.setIfInBounds_toArray, List.set_cons_zero, List.set_cons_succ, i64_w, i32_w]
                                                rfl
                                              refine done_ (done_of HT_.out (by kernel_rfl)) ?_
                                              try go_wp2
                                              go_roundg kj29
                                              case measure => have := HK1.out; have := HJ12.out; have := HJ23.out; have := HJ29.out; omega
                                              case rel => exact ⟨(y357), (x7_1), (x8_1), (wrap64 (x9_1 + 1)), (by first | rfl | (simp; done) | (simp [*]; done)), (by first | rfl | (simp; done) | (simp [*]; done)), (by first | rfl | (simp; done) | (simp [*]; done)), H', ⟨by have := HK1.out; have := HJ12.out; have := HJ23.out; have := HJ29.out; omega⟩, ⟨by (with_reducible repeat (first | apply Kd.R_alloc | apply Kd.R_drewN | apply Kd.R_drew)); exact Kd.R_mono HO_5.out (fun _ hk => trivial)⟩, ⟨by (with_reducible repeat (first | apply Kd.R_alloc | apply Kd.R_drewN | apply Kd.R_drew)); exact HO359.out⟩, ⟨by repeat (first | (with_reducible first | exact HB.out | apply below_alloc | apply pw_below_drewN | apply below_drew1) | exact HB.out)⟩⟩
                                            · rw [if_neg c40] at H
                                              exact absurd H (by simp)
                                          · rw [if_neg c39] at H
                                            exact absurd H (by simp)
                                        · rw [if_neg c38] at H
                                          exact absurd H (by simp)
                                      · replace c37 := Bool.eq_false_iff.mpr c37
                                        subst c37
                                        have H1 : (some (([] : List (S25)), wrap64 (x9_1 + 1), 2)) = some (r1, r2, r3) := by rw [if_neg (show ¬ (false = true) by decide)] at H; exact H
                                        clear H
                                        have H := H1
                                        clear H1
                                        simp only [Option.some.injEq, Prod.mk.injEq] at H
                                        obtain ⟨rfl, rfl, rfl⟩ := H
                                        go_wp2
                                        go_ret3
                                        exact ⟨_, by first | rfl | (simp [errW_none, errW_some] <;> rfl) | (simp only [← hji9]; first | rfl | (simp [errW_none, errW_some] <;> rfl)) | (simp [*, errW_none, errW_some] <;> rfl), by first | exact Kd.R_nil _ _ _ _ _ | exact Kd.N_nil _ _ _ _ _ | exact Kd.V_nil _ _ _ _ _ | exact Kd.Q_nil _ _ _ _ _ | exact Kd.S_nil _ _ _ _ _, by repeat (first | (with_reducible first | exact HB.out | apply below_alloc | apply pw_below_drewN | apply below_drew1) | exact HB.out)⟩
                        · rw [if_neg c21] at H
                          exact absurd H (by simp)
                · rw [if_neg c11] at H
                  exact absurd H (by simp)
              · rw [if_neg c10] at H
                exact absurd H (by simp)
            · rw [if_neg c7] at H
              exact absurd H (by simp)
          · rw [if_neg c6] at H
            exact absurd H (by simp)
        · rw [if_neg c5] at H
          have c5b0 : decide (x9_1 < (wrap64 ((t338.length : Int) - 1))) = false := decide_eq_false c5
          clear c5
          have HC43 := Aside0.mk H
          clear H
          obtain ⟨Ao44, co44, eo44⟩ := Kd.R_slice HO_5.out
          subst eo44
          go_upto_region 22 with (fail)
          go_cut [129] (fun v129 wc => ∃ (kq : Nat) (x129_42 : Bool), v129 = .bool x129_42 ∧ Aside0 (cippusref07_Read.j4 kq t338 x6_1 x129_42 = some (r1, r2, r3)) ∧ Aside0 (kq ≤ k1) ∧ Aside0 (Kd.R Kd.string 9 wc w.heap.size (fun _ => True) (.slice Ao44 t338.length co44) t338) ∧ Aside0 (Kd.R k25 25 wc w.heap.size (fun _ => True) u6 x6_1) ∧ Aside0 (Below w.heap.size w wc))
          case first =>
            have H := HC43.out
            clear HC43
            by_cases c45 : x8_1 = true
            · subst c45
              have H1 : (if 0 ≤ (wrap64 ((t338.length : Int) - 1)) then (if (wrap64 ((t338.length : Int) - 1)) < (t338.length : Int) then (cippusref07_Read.j4 k1 t338 x6_1 ((rdOf ByteArray.empty t338 (wrap64 ((t338.length : Int) - 1))).toList != ([] : List UInt8))) else (none)) else (none)) = some (r1, r2, r3) := by rw [if_pos rfl] at H; exact H
              clear H
              have H := H1
              clear H1
              obtain ⟨ji46, hji46⟩ : ∃ j_ : Int, (wrap64 ((t338.length : Int) - 1)) = j_ := ⟨_, rfl⟩
              replace H : (if 0 ≤ (ji46) then (if (ji46) < (t338.length : Int) then (cippusref07_Read.j4 k1 t338 x6_1 ((rdOf ByteArray.empty t338 (ji46)).toList != ([] : List UInt8))) else (none)) else (none)) = some (r1, r2, r3) := by first | (rw [hji46] at H; exact H) | (simp only [hji46] at H ⊢; exact H)
              (try rw [hji46] at c5b0)
              have hji46w : (IntKind.i64.wrap ((t338.length : Int) - 1)) = ji46 := (i64_w _).trans hji46
              by_cases c47 : 0 ≤ (ji46)
              · rw [if_pos c47] at H
                have c47b0 : decide (0 ≤ (ji46)) = true := decide_eq_true c47
                clear c47
                (first | rw [c47b0] | (simp only [i64_w, i32_w]; rw [c47b0]) | skip)
                by_cases c48 : (ji46) < (t338.length : Int)
                · rw [if_pos c48] at H
                  have c48b0 : decide ((ji46) < (t338.length : Int)) = true := decide_eq_true c48
                  clear c48
                  have H' := Aside0.mk H
                  clear H
                  have p360 : 0 ≤ ((ji46) : Int) := of_decide_eq_true (by first | (with_reducible assumption) | assumption)
                  have q360 : (ji46) < (t338.length : Int) := of_decide_eq_true (by first | (with_reducible assumption) | assumption)
                  obtain ⟨ad360, e360, hx360_0⟩ := Kd.at_string (Kd.R_reads' HO_5.out).2.2 (ji46) p360 q360
                  cases e360
                  replace p360 := eq_true p360
                  replace q360 := eq_true q360
                  go_wp2
                  go_meet
                  case rel => exact ⟨_, (((rdOf ByteArray.empty t338 (ji46)).toList != ([] : List UInt8))), (by first | rfl | (simp; done) | (simp only [OFix.ne_nil_b]; done) | (simp only [← hji46, OFix.ne_nil_b]; done) | (simp only [← hji46] <;> (first | rfl | simp)) | (simp [*]; done)), H', ⟨by have := HK1.out; first | omega | exact Nat.le_refl _⟩, ⟨by (with_reducible repeat (first | apply Kd.R_alloc | apply Kd.R_drewN | apply Kd.R_drew)); exact HO_5.out⟩, ⟨by (with_reducible repeat (first | apply Kd.R_alloc | apply Kd.R_drewN | apply Kd.R_drew)); exact HO_6.out⟩, ⟨by repeat (first | (with_reducible first | exact HB.out | apply below_alloc | apply pw_below_drewN | apply below_drew1) | exact HB.out)⟩⟩
                · rw [if_neg c48] at H
                  exact absurd H (by simp)
              · rw [if_neg c47] at H
                exact absurd H (by simp)
            · replace c45 := Bool.eq_false_iff.mpr c45
              subst c45
              have H1 : (cippusref07_Read.j4 k1 t338 x6_1 true) = some (r1, r2, r3) := by rw [if_neg (show ¬ (false = true) by decide)] at H; exact H
              clear H
              have H := H1
              clear H1
              have H' := Aside0.mk H
              clear H
              go_wp2
              go_meet
              case rel => exact ⟨_, (true), (by first | rfl | (simp; done) | (simp [*]; done)), H', ⟨by have := HK1.out; first | omega | exact Nat.le_refl _⟩, ⟨by (with_reducible repeat (first | apply Kd.R_alloc | apply Kd.R_drewN | apply Kd.R_drew)); exact HO_5.out⟩, ⟨by (with_reducible repeat (first | apply Kd.R_alloc | apply Kd.R_drewN | apply Kd.R_drew)); exact HO_6.out⟩, ⟨by repeat (first | (with_reducible first | exact HB.out | apply below_alloc | apply pw_below_drewN | apply below_drew1) | exact HB.out)⟩⟩
          case rest =>
            clear HC43
            try clear c1
            try clear c2
            try clear c2b0
            try clear c2b1
            try clear p2
            try clear c3
            try clear p3
            try clear q3
            try clear hx3
            try clear qi3
            try clear c4
            try clear c5
            try clear c5b0
            try clear c6
            try clear c6b0
            try clear p6
            try clear c7
            try clear c7b0
            try clear c10
            try clear c10b0
            try clear c11
            try clear c11b0
            try clear c17
            try clear c18
            try clear c19
            try clear c19b0
            try clear c19b1
            try clear c20
            try clear c21
            try clear c21b0
            try clear c21b1
            try clear c22
            try clear c22b0
            try clear c22b1
            try clear c23
            try clear c23b0
            try clear c23b1
            try clear c25
            try clear c25b0
            try clear c25b1
            try clear c26
            try clear c27
            try clear c27b0
            try clear c27b1
            try clear c31
            try clear c31b0
            try clear c31b1
            try clear c32
            try clear c32b0
            try clear c32b1
            try clear c33
            try clear c33b0
            try clear c33b1
            try clear c34
            try clear c34b0
            try clear c34b1
            try clear p34
            try clear q34
            try clear hx34
            try clear qi34
            try clear c35
            try clear c35b0
            try clear c35b1
            try clear p35
            try clear q35
            try clear hx35
            try clear qi35
            try clear c36
            try clear c36b0
            try clear c36b1
            try clear p36
            try clear q36
            try clear hx36
            try clear c37
            try clear c38
            try clear c38b0
            try clear c38b1
            try clear c39
            try clear c39b0
            try clear c39b1
            try clear c40
            try clear c45
            try clear c47
            try clear c47b0
            try clear c48
            try clear c48b0
            try clear hx341_0
            try clear hx345_0
            try clear hx348_0
            try clear hx349_0
            try clear hx350_0
            try clear hx351_0
            try clear hx352_0
            try clear hx353_0
            try clear hx354_0
            try clear hx355_0
            try clear hx356_0
            try clear hx360_0
            try clear p2
            try clear p3
            try clear p34
            try clear p341
            try clear p345
            try clear p348
            try clear p349
            try clear p35
            try clear p350
            try clear p351
            try clear p352
            try clear p353
            try clear p354
            try clear p355
            try clear p356
            try clear p360
            try clear p6
            try clear q3
            try clear q34
            try clear q341
            try clear q345
            try clear q348
            try clear q349
            try clear q35
            try clear q350
            try clear q351
            try clear q352
            try clear q353
            try clear q354
            try clear q355
            try clear q356
            try clear q360
            obtain ⟨kq, x129_42, rfl, HA, HJ42, HO_5, HO_6, HB⟩ := hcut
            cases kq with
            | zero => exact absurd HA.out (by simp [cippusref07_Read.j4])
            | succ kj42 =>
              have H := HA.out
              clear HA
              simp only [cippusref07_Read.j4] at H
              by_cases c49 : x129_42 = true
              · subst c49
                have H1 : (some (([] : List (S25)), (t338.length : Int), 2)) = some (r1, r2, r3) := by rw [if_pos rfl] at H; exact H
                clear H
                have H := H1
                clear H1
                simp only [Option.some.injEq, Prod.mk.injEq] at H
                obtain ⟨rfl, rfl, rfl⟩ := H
                go_wp2
                go_ret3
                exact ⟨_, by first | rfl | (simp [errW_none, errW_some] <;> rfl) | (simp [*, errW_none, errW_some] <;> rfl), by first | exact Kd.R_nil _ _ _ _ _ | exact Kd.N_nil _ _ _ _ _ | exact Kd.V_nil _ _ _ _ _ | exact Kd.Q_nil _ _ _ _ _ | exact Kd.S_nil _ _ _ _ _, by repeat (first | (with_reducible first | exact HB.out | apply below_alloc | apply pw_below_drewN | apply below_drew1) | exact HB.out)⟩
              · replace c49 := Bool.eq_false_iff.mpr c49
                subst c49
                have H1 : ((cippusref07_Check.f kj42 x6_1).bind fun t361 => (if t361 = 0 then (some (x6_1, 0, 0)) else (some (([] : List (S25)), 0, t361)))) = some (r1, r2, r3) := by rw [if_neg (show ¬ (false = true) by decide)] at H; exact H
                clear H
                have H := H1
                clear H1
                replace H := Option.bind_eq_some_iff.mp H
                obtain ⟨t361, A500, H⟩ := H
                replace H : (if t361 = 0 then (some (x6_1, 0, 0)) else (some (([] : List (S25)), 0, t361))) = some (r1, r2, r3) := H
                have A50 := Aside0.mk A500
                clear A500
                by_cases c51 : t361 = 0
                · rw [if_pos c51] at H
                  have c51b0 : (t361 == 0) = true := beq_iff_eq.mpr c51
                  have c51b1 : (t361 != 0) = false := bne_eq_false_iff_eq.mpr c51
                  clear c51
                  simp only [Option.some.injEq, Prod.mk.injEq] at H
                  obtain ⟨rfl, rfl, rfl⟩ := H
                  obtain ⟨Ao52, co52, eo52⟩ := Kd.R_slice HO_6.out
                  subst eo52
                  go_wp2_with (first | ((with_reducible refine gate_callee (f := 43) rfl ?_); refine goesL_ (some 133) rfl rfl Tryd.func43 (by kernel_rfl) rfl #[.slice Ao52 x6_1.length co52] rfl (by (try simp only [List.map_toArray, List.map_cons, List.map_nil]); first | done | rfl | (simp only [List.length_drop, List.length_take]; rfl)) ?_; (with_reducible refine (cippusref07_Check.calls kj42 _ _ x6_1 t361 _ ?side1 ?side2 A50.out).mono ?_); (case side1 => repeat (first | exact (Kd.R_reads' HO_6.out).2.2 | (with_reducible refine Kd.C_alloc ?_ _) | (with_reducible refine Kd.C_drewN ?_ _) | (with_reducible refine Kd.C_drew ?_))); (case side2 => exact (Kd.R_reads' HO_6.out).2.1); rintro e w' ⟨rfl, ⟨nd, rfl⟩⟩; refine ⟨_, rfl, ?_⟩))
                  go_ret3
                  exact ⟨_, by first | rfl | (simp [errW_none, errW_some] <;> rfl) | (simp [*, errW_none, errW_some] <;> rfl), by (with_reducible repeat (first | apply Kd.R_alloc | apply Kd.R_drewN | apply Kd.R_drew)); exact HO_6.out, by repeat (first | (with_reducible first | exact HB.out | apply below_alloc | apply pw_below_drewN | apply below_drew1) | exact HB.out)⟩
                · rw [if_neg c51] at H
                  have c51b0 : (t361 == 0) = false := beq_eq_false_iff_ne.mpr c51
                  have c51b1 : (t361 != 0) = true := bne_iff_ne.mpr c51
                  simp only [Option.some.injEq, Prod.mk.injEq] at H
                  obtain ⟨rfl, rfl, rfl⟩ := H
                  obtain ⟨Ao53, co53, eo53⟩ := Kd.R_slice HO_6.out
                  subst eo53
                  go_wp2_with (first | ((with_reducible refine gate_callee (f := 43) rfl ?_); refine goesL_ (some 133) rfl rfl Tryd.func43 (by kernel_rfl) rfl #[.slice Ao53 x6_1.length co53] rfl (by (try simp only [List.map_toArray, List.map_cons, List.map_nil]); first | done | rfl | (simp only [List.length_drop, List.length_take]; rfl)) ?_; (with_reducible refine (cippusref07_Check.calls kj42 _ _ x6_1 t361 _ ?side1 ?side2 A50.out).mono ?_); (case side1 => repeat (first | exact (Kd.R_reads' HO_6.out).2.2 | (with_reducible refine Kd.C_alloc ?_ _) | (with_reducible refine Kd.C_drewN ?_ _) | (with_reducible refine Kd.C_drew ?_))); (case side2 => exact (Kd.R_reads' HO_6.out).2.1); rintro e w' ⟨rfl, ⟨nd, rfl⟩⟩; refine ⟨_, rfl, ?_⟩))
                  go_ret3
                  exact ⟨_, by first | rfl | (simp [errW_none, errW_some] <;> rfl) | (simp [*, errW_none, errW_some] <;> rfl), by first | exact Kd.R_nil _ _ _ _ _ | exact Kd.N_nil _ _ _ _ _ | exact Kd.V_nil _ _ _ _ _ | exact Kd.Q_nil _ _ _ _ _ | exact Kd.S_nil _ _ _ _ _, by repeat (first | (with_reducible first | exact HB.out | apply below_alloc | apply pw_below_drewN | apply below_drew1) | exact HB.out)⟩
end Go.Proofs.YtecdjnabmjhakaaDoor.P
namespace Go.Proofs.YtecdjnabmjhakaaDoor.P
open Go.RowKit Go.Proofs.YtecdjnabmjhakaaDoorW.PrintWords Go.Proofs.YtecdjnabmjhakaaDoorW.PrintLast Go.Proofs.YtecdjnabmjhakaaDoorW.PrintMore
attribute [local go_sem] max2_int min2_int max_two min_two max_three min_three max_four min_four   -- for this text's walks alone
set_option linter.unusedVariables false
set_option linter.unusedSimpArgs false
theorem eqA25 (d : Nat) (w : World) (x0 y0 : ByteArray) (x1 y1 : Int) (x2 y2 : Bool) :
    (Op.equalIn (d + 2) 25 (.agg #[.string x0, .int .i64 x1, .bool x2]) (.agg #[.string y0, .int .i64 y1, .bool y2])).run Tryd.prog w = .ok (x0.toList == y0.toList && (x1 == y1 && (x2 == y2))) w := by
  refine eqA_of Tryd.underlying25 (by kernel_rfl) ?_
  refine eqf_cons (by rfl) (by go_simp; rfl) (by go_simp; rfl) (by go_simp) ?_
  refine eqf_cons (by rfl) (by go_simp; rfl) (by go_simp; rfl) (by go_simp) ?_
  exact eqf_last (by rfl) (by go_simp; rfl) (by go_simp; rfl) (by go_simp)
end Go.Proofs.YtecdjnabmjhakaaDoor.P
namespace Go.Proofs.YtecdjnabmjhakaaDoor.P
open Go.RowKit Go.Proofs.YtecdjnabmjhakaaDoorW.PrintWords Go.Proofs.YtecdjnabmjhakaaDoorW.PrintLast Go.Proofs.YtecdjnabmjhakaaDoorW.PrintMore
attribute [local go_sem] max2_int min2_int max_two min_two max_three min_three max_four min_four   -- for this text's walks alone
set_option linter.unusedVariables false
set_option linter.unusedSimpArgs false
attribute [local go_sem high] eqA25
def cippuskit_SameCopies.l0 : Nat → List (S25) → List (S25) → Bool → Int → Option (Bool)
  | 0, _, _, _, _ => none
  | k + 1, x0, x1, x5, x6 => if x5 = true then (if x6 < (x0.length : Int) then (if 0 ≤ x6 then (if x6 < (x1.length : Int) then (cippuskit_SameCopies.l0 k x0 x1 ((((rd_T25 x0 x6).f0).toList) == (((rd_T25 x1 x6).f0).toList) && (((rd_T25 x0 x6).f1) == ((rd_T25 x1 x6).f1) && (((rd_T25 x0 x6).f2) == ((rd_T25 x1 x6).f2)))) (wrap64 (x6 + 1))) else (none)) else (none)) else (some x5)) else (some x5)
def cippuskit_SameCopies.f (k : Nat) (l0 : List (S25)) (l1 : List (S25)) : Option (Bool) := cippuskit_SameCopies.l0 k l0 l1 ((l0.length : Int) == (l1.length : Int)) 0
set_option maxHeartbeats 8000000 in
set_option maxRecDepth 100000 in
theorem cippuskit_SameCopies.calls (k : Nat) (A0 : Option Addr) (c0 : Nat) (l0 : List (S25)) (A1 : Option Addr) (c1 : Nat) (l1 : List (S25)) (r : Bool) (w : World) (hr0 : Kd.C k25 w A0 l0.length l0) (hc0 : l0.length ≤ c0) (hr1 : Kd.C k25 w A1 l1.length l1) (hc1 : l1.length ≤ c1) (h : cippuskit_SameCopies.f k l0 l1 = some r) :
    Calls Tryd.prog 23 #[.slice A0 l0.length c0, .slice A1 l1.length c1] w fun e w' => e = .returned (.bool r) ∧ Drawn0 w w' := by
  have hu25 := Tryd.underlying25
  have HR0 := Aside0.mk hr0
  have HC0 := Aside0.mk hc0
  clear hr0 hc0
  have HR1 := Aside0.mk hr1
  have HC1 := Aside0.mk hc1
  clear hr1 hc1
  have H : (cippuskit_SameCopies.l0 k l0 l1 ((l0.length : Int) == (l1.length : Int)) 0) = some r := h
  clear h
  have H' := Aside0.mk H
  clear H
  go_enter Tryd.func23, Tryd.ntmps23
  go_wp2
  repeat (go_quiet (fail); try go_wp2)
  go_loopg [5, 6] k (fun kq v5 v6 w' => ∃ (x5_1 : Bool) (x6_1 : Int), v5 = .bool x5_1 ∧ v6 = .int .i64 x6_1 ∧ Aside0 (cippuskit_SameCopies.l0 kq l0 l1 x5_1 x6_1 = some r) ∧ Aside0 (kq ≤ k) ∧ Drawn0 w w')
  case atStart => exact ⟨(((l0.length : Int) == (l1.length : Int))), (0), (by first | rfl | (simp; done) | (simp [*]; done)), (by first | rfl | (simp; done) | (simp [*]; done)), H', ⟨Nat.le_refl _⟩, by repeat (first | exact Drawn0.refl _ | apply Drawn0.step)⟩
  case round =>
    clear H'
    try clear c1
    try clear c2
    try clear p2
    obtain ⟨x5_1, x6_1, rfl, rfl, HA, HK1, ⟨m1, rfl⟩⟩ := hrel
    cases gk with
    | zero => exact absurd HA.out (by simp [cippuskit_SameCopies.l0])
    | succ k1 =>
      have H := HA.out
      clear HA
      simp only [cippuskit_SameCopies.l0] at H
      by_cases c3 : x5_1 = true
      · subst c3
        have H1 : (if x6_1 < (l0.length : Int) then (if 0 ≤ x6_1 then (if x6_1 < (l1.length : Int) then (cippuskit_SameCopies.l0 k1 l0 l1 ((((rd_T25 l0 x6_1).f0).toList) == (((rd_T25 l1 x6_1).f0).toList) && (((rd_T25 l0 x6_1).f1) == ((rd_T25 l1 x6_1).f1) && (((rd_T25 l0 x6_1).f2) == ((rd_T25 l1 x6_1).f2)))) (wrap64 (x6_1 + 1))) else (none)) else (none)) else (some true)) = some r := by rw [if_pos rfl] at H; exact H
        clear H
        have H := H1
        clear H1
        by_cases c4 : x6_1 < (l0.length : Int)
        · rw [if_pos c4] at H
          have c4b0 : decide (x6_1 < (l0.length : Int)) = true := decide_eq_true c4
          clear c4
          by_cases c5 : 0 ≤ x6_1
          · rw [if_pos c5] at H
            have c5b0 : decide (0 ≤ x6_1) = true := decide_eq_true c5
            clear c5
            by_cases c6 : x6_1 < (l1.length : Int)
            · rw [if_pos c6] at H
              have c6b0 : decide (x6_1 < (l1.length : Int)) = true := decide_eq_true c6
              clear c6
              have H' := Aside0.mk H
              clear H
              have p362 : 0 ≤ (x6_1 : Int) := of_decide_eq_true (by first | (with_reducible assumption) | assumption)
              have q362 : x6_1 < (l0.length : Int) := of_decide_eq_true (by first | (with_reducible assumption) | assumption)
              obtain ⟨ad362, e362, hx362_0, hx362_1, hx362_2⟩ := at_T25 HR0.out x6_1 p362 q362
              cases e362
              replace p362 := eq_true p362
              replace q362 := eq_true q362
              have p363 : 0 ≤ (x6_1 : Int) := of_decide_eq_true (by first | (with_reducible assumption) | assumption)
              have q363 : x6_1 < (l1.length : Int) := of_decide_eq_true (by first | (with_reducible assumption) | assumption)
              obtain ⟨ad363, e363, hx363_0, hx363_1, hx363_2⟩ := at_T25 HR1.out x6_1 p363 q363
              cases e363
              replace p363 := eq_true p363
              replace q363 := eq_true q363
              go_wp2
              repeat (go_quiet (fail); try go_wp2)
              go_roundg k1
              case measure => have := HK1.out; omega
              case rel => exact ⟨(((((rd_T25 l0 x6_1).f0).toList) == (((rd_T25 l1 x6_1).f0).toList) && (((rd_T25 l0 x6_1).f1) == ((rd_T25 l1 x6_1).f1) && (((rd_T25 l0 x6_1).f2) == ((rd_T25 l1 x6_1).f2))))), (wrap64 (x6_1 + 1)), (by first | rfl | (simp; done) | (simp [*]; done)), (by first | rfl | (simp; done) | (simp [*]; done)), H', ⟨by have := HK1.out; omega⟩, by repeat (first | exact Drawn0.refl _ | apply Drawn0.step)⟩
            · rw [if_neg c6] at H
              exact absurd H (by simp)
          · rw [if_neg c5] at H
            exact absurd H (by simp)
        · rw [if_neg c4] at H
          have c4b0 : decide (x6_1 < (l0.length : Int)) = false := decide_eq_false c4
          clear c4
          obtain rfl := Option.some.inj H
          go_wp2
          repeat (go_quiet (fail); try go_wp2)
          go_ret
          exact ⟨by first | rfl | (simp; done) | (simp [*]; done), by repeat (first | exact Drawn0.refl _ | apply Drawn0.step)⟩
      · replace c3 := Bool.eq_false_iff.mpr c3
        subst c3
        have H1 : (some false) = some r := by rw [if_neg (show ¬ (false = true) by decide)] at H; exact H
        clear H
        have H := H1
        clear H1
        obtain rfl := Option.some.inj H
        go_wp2
        repeat (go_quiet (fail); try go_wp2)
        go_ret
        exact ⟨by first | rfl | (simp; done) | (simp [*]; done), by repeat (first | exact Drawn0.refl _ | apply Drawn0.step)⟩
end Go.Proofs.YtecdjnabmjhakaaDoor.P
namespace Go.Proofs.YtecdjnabmjhakaaDoor.P
open Go.RowKit Go.Proofs.YtecdjnabmjhakaaDoorW.PrintWords Go.Proofs.YtecdjnabmjhakaaDoorW.PrintLast Go.Proofs.YtecdjnabmjhakaaDoorW.PrintMore
set_option linter.unusedVariables false
set_option linter.unusedSimpArgs false
def rd_L6 (xs : List (List S25)) (i : Int) : (List S25) := xs.getD i.toNat ([] : List S25)
theorem at_L6 {w : World} {A : Option Addr} {n : Nat} {xs : List (List S25)} (h : Kd.C (Kd.slice 25 k25) w A n xs) (i : Int) (h0 : 0 ≤ i) (h1 : i < n) : ∃ ad A0 c0, A = some ad ∧ w.cell? (ad.add i.toNat) = some (.slice A0 (rd_L6 xs i).length c0) ∧ (rd_L6 xs i).length ≤ c0 ∧ k25.C w A0 (rd_L6 xs i).length (rd_L6 xs i) := by
  obtain ⟨ad, c, e, _, hK, hc0⟩ := Kd.C_get h ([] : List S25) i h0 h1
  have hc : ∀ j u, c[j]? = some u → w.cell? (ad.add (i.toNat * 1 + j)) = some u := hc0
  obtain ⟨A0, c0, rfl, l0, g0⟩ := hK
  exact ⟨ad, A0, c0, e, by have hq := hc 0 _ rfl; rwa [Nat.mul_one, Nat.add_zero] at hq, l0, g0⟩
theorem all_C {w : World} {g t : Nat} {vs : List Value} {xs : List (List S25)} (hb : w.heap[g]? = some (.cells vs.toArray t (0, 0))) (hl : vs.length = xs.length) (hn : xs.length ≤ 1000)
    (h : ∀ (j : Nat) (x : List S25), xs[j]? = some x → ∃ A c, vs[j]? = some (Value.slice A x.length c) ∧ x.length ≤ c ∧ k25.C w A x.length x) : Kd.C (Kd.slice 25 k25) w (some ⟨g, 0, none⟩) xs.length xs := by
  refine ⟨rfl, by omega, fun _ => ⟨_, rfl, fun j x hx => ?_⟩⟩
  obtain ⟨A, c, e, hc, hC⟩ := h j x hx
  refine ⟨[.slice A x.length c], rfl, ⟨A, c, rfl, hc, hC⟩, fun i u hu => ?_⟩
  have hi : i = 0 := by
    rcases i with _ | i
    · rfl
    · simp at hu
  subst hi
  have hu : Value.slice A x.length c = u := by simpa using hu
  subst hu
  have h2 := blk_cell hb j
  have e2 : ((⟨g, 0, none⟩ : Addr).add (j * 1 + 0)) = ⟨g, j, none⟩ := by simp [Addr.add]; intro h0; omega
  show w.cell? ((⟨g, 0, none⟩ : Addr).add (j * (Kd.slice 25 k25).sz + 0)) = _
  rw [show (Kd.slice 25 k25).sz = 1 from rfl, e2, h2]
  simpa using e
end Go.Proofs.YtecdjnabmjhakaaDoor.P
namespace Go.Proofs.YtecdjnabmjhakaaDoor.P
open Go.RowKit Go.Proofs.YtecdjnabmjhakaaDoorW.PrintWords Go.Proofs.YtecdjnabmjhakaaDoorW.PrintLast Go.Proofs.YtecdjnabmjhakaaDoorW.PrintMore
set_option linter.unusedVariables false
set_option linter.unusedSimpArgs false
mutual
def cippuslaw07_loopT.l0 : Nat → List (List (S25)) → Int → Int → Int → List ByteArray → Int → Option (Bool)
  | 0, _, _, _, _, _, _ => none
  | k + 1, x0, x3, x4, x5, x17, x18 => if x18 < (x0.length : Int) then (if 0 ≤ x18 then ((stemma_Write.f k (rd_L6 x0 x18)).bind fun bt282 => ((cippusref07_Write.f k (rd_L6 x0 x18)).bind fun bt285 => (if bt282.1.toList = bt285.1.toList then (if bt282.2 = bt285.2 then (if x17.length < 8796093022208 then (cippuslaw07_loopT.l0 k x0 x3 x4 x5 (x17 ++ [bt285.1]) (wrap64 (x18 + 1))) else (none)) else (some false)) else (some false)))) else (none)) else (if 2 < (x17.length : Int) then ((cippuskit_Marred.f (rdOf ByteArray.empty x17 2) x3 x4 x5).bind fun t291 => (if x17.length < 8796093022208 then (cippuslaw07_loopT.l1 k (x17 ++ [t291]) 0) else (none))) else (none))
def cippuslaw07_loopT.l1 : Nat → List ByteArray → Int → Option (Bool)
  | 0, _, _ => none
  | k + 1, x17, x23 => if x23 < (x17.length : Int) then (if 0 ≤ x23 then ((stemma_Read.f k (rdOf ByteArray.empty x17 x23)).bind fun bt296 => ((cippusref07_Read.f k (rdOf ByteArray.empty x17 x23)).bind fun bt302 => (if bt296.2.1 = bt302.2.1 then (if bt296.2.2 = bt302.2.2 then ((cippuskit_SameCopies.f k bt296.1 bt302.1).bind fun t307 => (if t307 = true then (cippuslaw07_loopT.l1 k x17 (wrap64 (x23 + 1))) else (some false))) else (some false)) else (some false)))) else (none)) else (some true)
end
def cippuslaw07_everyT.f (l0 l1 : List (S25)) (a2 : ByteArray) (a3 a4 a5 : Int) : Option Bool := if l0.length ≤ 20 ∧ l1.length ≤ 20 then some true else none
mutual
def cippuslaw07_StemmaTexts.l0 : Nat → List (S25) → ByteArray → List Int → Int → Int → Int → Int → Option (Bool)
  | 0, _, _, _, _, _, _, _ => none
  | k + 1, x0, x1, x2, x3, x4, x5, x13 => if x13 < (x0.length : Int) then (if 0 ≤ x13 then (if (((rd_T25 x0 x13).f0).size : Int) > 40 then ((cippuslaw07_found.f k).bind fun t262 => (some t262)) else (if x13 > 19 then ((cippuslaw07_found.f k).bind fun t263 => (some t263)) else (cippuslaw07_StemmaTexts.l0 k x0 x1 x2 x3 x4 x5 (wrap64 (x13 + 1))))) else (none)) else (if (x1.size : Int) > 150 then (cippuslaw07_StemmaTexts.j1 k x0 x1 x2 x3 x4 x5 (decide ((x1.size : Int) ≤ 200))) else (cippuslaw07_StemmaTexts.j1 k x0 x1 x2 x3 x4 x5 false))
def cippuslaw07_StemmaTexts.j1 : Nat → List (S25) → ByteArray → List Int → Int → Int → Int → Bool → Option (Bool)
  | 0, _, _, _, _, _, _, _ => none
  | k + 1, x0, x1, x2, x3, x4, x5, x55 => if x55 = true then ((cippuslaw07_found.f k).bind fun t264 => (some t264)) else ((cippuskit_NewUrn.f x2).bind fun bt265 => ((cippuskit_CopiesOf.f bt265.1 bt265.2 5 8 3).bind fun bt268 => ((cippuslaw07_everyT.f x0 bt268.1 x1 x3 x4 x5).bind fun t278 => ((cippuslaw07_found.f k).bind fun t279 => (some t279)))))
end
def cippuslaw07_StemmaTexts.f (k : Nat) (l0 : List (S25)) (a1 : ByteArray) (l2 : List Int) (a3 : Int) (a4 : Int) (a5 : Int) : Option (Bool) := cippuslaw07_StemmaTexts.l0 k l0 a1 l2 a3 a4 a5 0
end Go.Proofs.YtecdjnabmjhakaaDoor.P
namespace Go.Proofs.YtecdjnabmjhakaaDoor.OwnTx
def cut (c : UInt8) : List UInt8 → List (List UInt8)
  | [] => [[]]
  | x :: xs => if x = c then [] :: cut c xs else match cut c xs with
    | [] => [[x]]
    | h :: t => (x :: h) :: t
theorem cut_ne_nil (c : UInt8) (s : List UInt8) : cut c s ≠ [] := by
  cases s with
  | nil => simp [cut]
  | cons x xs =>
    unfold cut
    split
    · simp
    · split <;> simp
theorem cut_cons_eq (c : UInt8) (s : List UInt8) : cut c (c :: s) = [] :: cut c s := by rw [cut, if_pos rfl]
theorem cut_cons_ne {c x : UInt8} (h : x ≠ c) (s : List UInt8) : ∃ a t, cut c s = a :: t ∧ cut c (x :: s) = (x :: a) :: t := by
  rcases e : cut c s with _ | ⟨a, t⟩
  · exact absurd e (cut_ne_nil c s)
  · exact ⟨a, t, rfl, by rw [cut, if_neg h, e]⟩
theorem cut_plain {c : UInt8} : ∀ {s : List UInt8}, (∀ x ∈ s, x ≠ c) → cut c s = [s]
  | [], _ => rfl
  | x :: s, h => by
    obtain ⟨a, t, e, e2⟩ := cut_cons_ne (h x (by simp)) s
    rw [cut_plain (fun y hy => h y (by simp [hy]))] at e
    injection e with e3 e4
    subst e3 e4
    exact e2
theorem cut_app {c : UInt8} (t : List UInt8) : ∀ {s : List UInt8}, (∀ x ∈ s, x ≠ c) → cut c (s ++ c :: t) = s :: cut c t
  | [], _ => cut_cons_eq c t
  | x :: s, h => by
    obtain ⟨a, u, e, e2⟩ := cut_cons_ne (h x (by simp)) (s ++ c :: t)
    rw [cut_app t (fun y hy => h y (by simp [hy]))] at e
    injection e with e3 e4
    subst e3 e4
    exact e2
theorem cut_len (c : UInt8) : ∀ s : List UInt8, (cut c s).length ≤ s.length + 1
  | [] => by simp [cut]
  | x :: s => by
    have := cut_len c s
    by_cases h : x = c
    · subst h
      rw [cut_cons_eq]
      simp; omega
    · obtain ⟨a, t, e, e2⟩ := cut_cons_ne h s
      rw [e2]
      rw [e] at this
      simp at this ⊢
      omega
open Go.Lib in
theorem splitK_cut (c : UInt8) : ∀ s : List UInt8, splitK [c] 0 (count s [c]) s = cut c s
  | [] => by rw [count_miss (by simp [index])]; rfl
  | b :: l => by
    by_cases h : b = c
    · subst h
      have hix : index (b :: l) [b] = ((0 : Nat) : Int) := by rw [index]; simp [List.isPrefixOf]
      rw [count_cons_eq, Nat.add_comm, splitK, if_neg (by rw [hix]; decide), hix, cut_cons_eq]
      simp
      exact splitK_cut b l
    · obtain ⟨a, t, e, e2⟩ := cut_cons_ne h l
      have ih := splitK_cut c l
      rw [e2, count_cons_ne b c l h]
      rw [e] at ih
      have hp : ([c] : List UInt8).isPrefixOf (b :: l) = false := by simp [List.isPrefixOf, Ne.symm h]
      have hix : index (b :: l) [c] = if index l [c] == -1 then -1 else index l [c] + 1 := by rw [index, hp]; simp
      have hge := index_ge l [c]
      cases k : count l [c] with
      | zero =>
        rw [k] at ih
        simp only [splitK] at ih ⊢
        injection ih with i1 i2
        subst i1 i2
        rfl
      | succ m =>
        rw [k] at ih
        rw [splitK] at ih ⊢
        by_cases hm : index l [c] = -1
        · rw [hix, hm]
          rw [hm] at ih
          simp at ih ⊢
          exact ⟨ih.1, ih.2⟩
        · have hm2 : (index l [c] == -1) = false := by simpa using hm
          rw [hix, hm2]
          rw [hm2] at ih
          obtain ⟨j, hj⟩ : ∃ j : Nat, index l [c] = j := ⟨(index l [c]).toNat, by omega⟩
          rw [hj] at ih ⊢
          have e1 : ((j : Int) + 1 == -1) = false := by simp; omega
          simp only [Bool.false_eq_true, if_false, e1, Nat.add_zero, List.length_singleton, Int.toNat_natCast] at ih ⊢
          have e3 : ((j : Int) + 1).toNat = j + 1 := by omega
          rw [e3, List.take_succ_cons, List.drop_succ_cons]
          injection ih with i1 i2
          rw [i1, i2]
def bA (l : List UInt8) : ByteArray := ⟨l.toArray⟩
theorem bA_data (s : ByteArray) : bA s.data.toList = s := by
  cases s; simp [bA]
theorem bA_size (l : List UInt8) : (bA l).size = l.length := by simp [bA, ByteArray.size]
theorem bA_append (l m : List UInt8) : bA l ++ bA m = bA (l ++ m) := by
  apply ByteArray.ext
  simp [bA]
def cutB (c : UInt8) (s : ByteArray) : List ByteArray := (cut c s.data.toList).map bA
theorem splitB_cut (c : UInt8) (s : ByteArray) : Lib.splitB ⟨#[c]⟩ 0 (Lib.countB s ⟨#[c]⟩) s = cutB c s := by
  have h := Lib.splitB_data ⟨#[c]⟩ 0 (Lib.countB s ⟨#[c]⟩) s
  have h2 := splitK_cut c s.data.toList
  have e : Lib.countB s ⟨#[c]⟩ = Lib.count s.data.toList [c] := rfl
  rw [e] at h ⊢
  rw [h2] at h
  unfold cutB
  rw [← h, List.map_map]
  refine (List.map_id'' (fun x => bA_data x) _).symm.trans ?_
  rfl
end Go.Proofs.YtecdjnabmjhakaaDoor.OwnTx
namespace Go.Proofs.YtecdjnabmjhakaaDoor.P.OwnSt
open Go.RowKit Go.Proofs.YtecdjnabmjhakaaDoorW.PrintWords Go.Proofs.YtecdjnabmjhakaaDoorW.PrintLast Go.Proofs.YtecdjnabmjhakaaDoorW.PrintMore
set_option linter.unusedVariables false
set_option linter.unusedSimpArgs false
theorem rcheck_l1 (l : List S25) (i : Nat) (hi : i < l.length) (hl : l.length ≤ 5) (x : S25) (hx : x = rd_T25 l (i : Int)) (h8 : x.f0.size ≤ 8) (R : Int)
    (hR : Ev (fun k => cippusref07_Check.l0 k l ((i + 1 : Nat) : Int)) R) : ∀ (rem p : Nat), p + rem = x.f0.size → (∀ j, j < p → goodAt x.f0 j = true) →
    Ev (fun k => cippusref07_Check.l1 k l (i : Int) x.f0 (p : Int)) (if goodText x.f0 = false then 2 else if x.f1 < 0 then 1 else if 3 < x.f1 then 1 else R) := by
  intro rem
  induction rem with
  | zero =>
    intro p hp hg
    have hgt : goodText x.f0 = true := goodText_from p hg (by omega)
    refine Ev.step (fun k => by rw [cippusref07_Check.l1]) ?_
    refine Ev.if_neg' (by omega) (Ev.if_pos' (by omega) (Ev.if_pos' (by omega) ?_))
    rw [if_neg (by rw [hgt]; simp), ← hx]
    by_cases h0 : x.f1 < 0
    · rw [if_pos h0]
      exact Ev.if_pos' h0 (Ev.now _)
    · rw [if_neg h0]
      refine Ev.if_neg' h0 ?_
      by_cases h3 : 3 < x.f1
      · rw [if_pos h3]
        exact Ev.if_pos' h3 (Ev.now _)
      · rw [if_neg h3]
        refine Ev.if_neg' h3 ?_
        rw [wrap64_small (by omega) (by omega)]
        exact hR
  | succ rem ih =>
    intro p hp hg
    refine Ev.step (fun k => by rw [cippusref07_Check.l1]) ?_
    refine Ev.if_pos' (by omega) (Ev.if_pos' (by omega) ?_)
    by_cases h1 : bt x.f0 p < 65
    · rw [if_pos (goodText_bad p (by omega) (by simp [goodAt]; omega))]
      exact Ev.if_pos' h1 (Ev.now _)
    · refine Ev.if_neg' h1 ?_
      by_cases h2 : bt x.f0 p > 90
      · rw [if_pos (goodText_bad p (by omega) (by simp [goodAt]; omega))]
        exact Ev.if_pos' h2 (Ev.now _)
      · refine Ev.if_neg' h2 ?_
        rw [wrap64_small (by omega) (by omega)]
        have := ih (p + 1) (by omega) (fun j hj => by
          by_cases e : j = p
          · subst e
            simp [goodAt]
            omega
          · exact hg j (by omega))
        simpa using this
theorem rcheck_l0 (l : List S25) (hl : l.length ≤ 5) : ∀ (rem i : Nat), i + rem = l.length → Ev (fun k => cippusref07_Check.l0 k l (i : Int)) (checkF l rem i) := by
  intro rem
  induction rem with
  | zero =>
    intro i hi
    refine Ev.step (fun k => by rw [cippusref07_Check.l0]) ?_
    exact Ev.if_neg' (by omega) (Ev.now _)
  | succ rem ih =>
    intro i hi
    have hR := ih (i + 1) (by omega)
    refine Ev.step (fun k => by rw [cippusref07_Check.l0]) ?_
    refine Ev.if_pos' (by omega) (Ev.if_pos' (by omega) ?_)
    obtain ⟨x, hx⟩ : ∃ x, x = rd_T25 l (i : Int) := ⟨_, rfl⟩
    rw [← hx]
    unfold checkF
    rw [← hx]
    by_cases h1 : (x.f0.size : Int) < 1
    · refine Ev.if_pos' h1 ?_
      have : oneV l x = 2 := by unfold oneV; rw [if_pos (.inl (by omega))]
      rw [this, if_neg (by decide)]
      exact Ev.step (fun k => by rw [cippusref07_Check.j1]) (Ev.if_pos' rfl (Ev.now _))
    · refine Ev.if_neg' h1 ?_
      by_cases h8 : (x.f0.size : Int) > 8
      · refine Ev.if_pos' h8 ?_
        have : oneV l x = 2 := by unfold oneV; rw [if_pos (.inr (by omega))]
        rw [this, if_neg (by decide)]
        exact Ev.step (fun k => by rw [cippusref07_Check.j1]) (Ev.if_pos' rfl (Ev.now _))
      · refine Ev.if_neg' h8 (Ev.if_pos' (by omega) ?_)
        by_cases hs : x.f0.size = (rd_T25 l 0).f0.size
        · rw [show ((x.f0.size : Int) != ((rd_T25 l 0).f0.size : Int)) = false from by rw [hs]; simp]
          refine Ev.step (fun k => by rw [cippusref07_Check.j1]) (Ev.if_neg' (by decide) ?_)
          have h := rcheck_l1 l i (by omega) hl x hx (by omega) _ hR x.f0.size 0 (by omega) (fun j hj => by omega)
          have e : (if oneV l x = 0 then checkF l rem (i + 1) else oneV l x) = (if goodText x.f0 = false then 2 else if x.f1 < 0 then 1 else if 3 < x.f1 then 1 else checkF l rem (i + 1)) := by
            unfold oneV
            rw [if_neg (show ¬ (x.f0.size < 1 ∨ 8 < x.f0.size) by omega)]
            split
            · simp
            · rw [if_neg (show ¬ (x.f0.size ≠ (rd_T25 l 0).f0.size) by simp [hs])]
              split
              · simp
              · split <;> simp
          rw [e]
          simpa using h
        · have : oneV l x = 2 := by
            unfold oneV
            rw [if_neg (show ¬ (x.f0.size < 1 ∨ 8 < x.f0.size) by omega)]
            split
            · rfl
            · first | rfl | rw [if_pos hs]
          rw [this, if_neg (by decide), show ((x.f0.size : Int) != ((rd_T25 l 0).f0.size : Int)) = true from bne_iff_ne.2 (by omega)]
          exact Ev.step (fun k => by rw [cippusref07_Check.j1]) (Ev.if_pos' rfl (Ev.now _))
theorem rcheck_ev (l : List S25) : Ev (fun k => cippusref07_Check.f k l) (checkV l) := by
  unfold cippusref07_Check.f checkV
  by_cases h0 : l.length = 0
  · rw [if_pos h0]
    exact Ev.if_pos' (by omega) (Ev.now _)
  · rw [if_neg h0]
    refine Ev.if_neg' (by omega) ?_
    by_cases h5 : 5 < l.length
    · rw [if_pos h5]
      exact Ev.if_pos' (by omega) (Ev.now _)
    · rw [if_neg h5]
      refine Ev.if_neg' (by omega) ?_
      simpa using rcheck_l0 l (by omega) l.length 0 (by omega)
end Go.Proofs.YtecdjnabmjhakaaDoor.P.OwnSt
namespace Go.Proofs.YtecdjnabmjhakaaDoor.P.OwnSt
open Go.RowKit Go.Proofs.YtecdjnabmjhakaaDoorW.PrintWords Go.Proofs.YtecdjnabmjhakaaDoorW.PrintLast Go.Proofs.YtecdjnabmjhakaaDoorW.PrintMore
open Go.Proofs.YtecdjnabmjhakaaDoor.OwnTx
set_option linter.unusedVariables false
set_option linter.unusedSimpArgs false
abbrev sPlaces : List UInt8 := [112, 108, 97, 99, 101, 115]
abbrev sCopies : List UInt8 := [99, 111, 112, 105, 101, 115]
abbrev sSaw : List UInt8 := [115, 97, 119]
abbrev sHad : List UInt8 := [104, 97, 100]
def dig (w : ByteArray) : Int × Bool := if w.size = 1 ∧ 48 ≤ bt w 0 ∧ bt w 0 ≤ 57 then (bt w 0 - 48, true) else (0, false)
theorem digit_f (w : ByteArray) : stemma_digit.f w = some (dig w) := by
  unfold stemma_digit.f dig
  by_cases h : w.size = 1
  · rw [if_pos (by omega), if_pos (by omega)]
    by_cases h1 : bt w 0 < 48
    · rw [if_pos h1, if_neg (by omega)]
    · rw [if_neg h1]
      by_cases h2 : bt w 0 > 57
      · rw [if_pos h2, if_neg (by omega)]
      · rw [if_neg h2, if_pos (by omega), show (bt w 0 - 48) % 256 = bt w 0 - 48 by omega]
  · rw [if_neg (by omega), if_neg (by omega)]
theorem number_f (w : ByteArray) : cippusref07_number.f w = some (dig w) := digit_f w
def rdB (l : List ByteArray) (i : Nat) : ByteArray := rdOf ByteArray.empty l (i : Int)
def stepV (i : Nat) (w : List ByteArray) (l : List S25) (pl : Int) (en : Bool) : Option (List S25 × Int × Bool) :=
  if (dig (rdB w (w.length - 1))).2 = false ∨ en = true ∨ (((rdB w 0).toList == sPlaces) != (i == 0)) = true then none
  else if i = 0 then (if w.length = 2 then some (l, (dig (rdB w (w.length - 1))).1, en) else none)
  else if (rdB w 0).toList = sCopies then (if w.length = 2 ∧ (dig (rdB w (w.length - 1))).1 = l.length then some (l, pl, true) else none)
  else if ((rdB w 0).toList = sSaw ∨ (rdB w 0).toList = sHad) ∧ w.length = 3 ∧ ((rdB w 1).size : Int) = pl then some (l ++ [⟨rdB w 1, (dig (rdB w (w.length - 1))).1, (rdB w 0).toList == sSaw⟩], pl, en)
  else none
def goV (R : List ByteArray) : Nat → Nat → List S25 → Int → Bool → List S25 × Int × Int
  | 0, i, l, pl, en => if en = true ∧ (rdB R i).toList = [] then (if checkV l = 0 then (l, 0, 0) else ([], 0, checkV l)) else ([], i + 1, 2)
  | rem + 1, i, l, pl, en => match stepV i (cutB 32 (rdB R i)) l pl en with
    | none => ([], i + 1, 2)
    | some (l', pl', en') => goV R rem (i + 1) l' pl' en'
def readV (s : ByteArray) : List S25 × Int × Int := if 200 < s.size then ([], 0, 10) else goV (cutB 10 s) ((cutB 10 s).length - 1) 0 [] 0 false
theorem cutB_len (c : UInt8) (s : ByteArray) : 1 ≤ (cutB c s).length ∧ (cutB c s).length ≤ s.size + 1 := by
  unfold cutB
  have h := cut_len c s.data.toList
  have h2 := cut_ne_nil c s.data.toList
  have : 1 ≤ (cut c s.data.toList).length := by
    rcases e : cut c s.data.toList with _ | ⟨a, t⟩
    · exact absurd e h2
    · simp
  have hs : s.data.toList.length = s.size := by simp
  rw [List.length_map]
  omega
theorem cutB_piece {c : UInt8} {s : ByteArray} (i : Nat) : (rdB (cutB c s) i).size ≤ s.size := by
  have hmem : ∀ (t : List UInt8) (x : List UInt8), x ∈ cut c t → x.length ≤ t.length := by
    intro t
    induction t with
    | nil => intro x hx; simp [cut] at hx; subst hx; simp
    | cons b t ih =>
      intro x hx
      by_cases e : b = c
      · subst e
        rw [cut_cons_eq] at hx
        rcases List.mem_cons.1 hx with rfl | hx
        · simp
        · have := ih x hx; simp; omega
      · obtain ⟨a, u, e1, e2⟩ := cut_cons_ne e t
        rw [e2] at hx
        rcases List.mem_cons.1 hx with rfl | hx
        · have := ih a (by rw [e1]; simp); simp; omega
        · have := ih x (by rw [e1]; simp [hx]); simp; omega
  unfold rdB rdOf
  by_cases h : i < (cutB c s).length
  · have hm : (cutB c s)[i] ∈ cutB c s := List.getElem_mem h
    have e : (cutB c s).getD ((i : Int)).toNat ByteArray.empty = (cutB c s)[i] := by simp [List.getD, h]
    rw [e]
    unfold cutB at hm
    rw [List.mem_map] at hm
    obtain ⟨x, hx, hx2⟩ := hm
    have := hmem _ x hx
    have e3 : (cutB c s)[i] = bA x := by unfold cutB; exact hx2.symm
    rw [e3, bA_size]
    simpa using this
  · have e : (cutB c s).getD ((i : Int)).toNat ByteArray.empty = ByteArray.empty := by simp [List.getD, h]
    rw [e]; simp
theorem split_f (c : UInt8) (s : ByteArray) (h : s.size < 4294967281) : strings_Split.f s ⟨#[c]⟩ = some (cutB c s) := by
  unfold strings_Split.f
  rw [if_pos ⟨h, rfl⟩, splitB_cut]
section
variable (R : List ByteArray) (a : ByteArray)
theorem read_l0 (hR : 1 ≤ R.length) (hR2 : R.length ≤ 1000) (hp : ∀ i, (rdB R i).size ≤ 1000) : ∀ (rem i : Nat) (l : List S25) (pl : Int) (en : Bool), i + rem = R.length - 1 → l.length ≤ i →
    Ev (fun k => stemma_Read.l0 k l R ((R.length - 1 : Nat) : Int) pl en (R.take (R.length - 1)) (((R.take (R.length - 1)).length : Nat) : Int) (i : Int)) (goV R rem i l pl en) := by
  have hl : (R.take (R.length - 1)).length = R.length - 1 := by simp
  intro rem
  induction rem with
  | zero =>
    intro i l pl en hi hli
    refine Ev.step (fun k => by rw [stemma_Read.l0]) ?_
    refine Ev.if_neg' (by omega) ?_
    unfold goV
    obtain rfl : i = R.length - 1 := by omega
    by_cases he : en = true
    · refine Ev.if_pos' he (Ev.if_pos' (by omega) (Ev.if_pos' (by omega) ?_))
      by_cases hr : (rdB R (R.length - 1)).toList = []
      · rw [if_pos ⟨he, hr⟩]
        refine Ev.step (fun k => by rw [stemma_Read.j3]) (Ev.if_neg' ?_ ?_)
        · show ¬ ((rdB R (R.length - 1)).toList != []) = true
          rw [hr]; decide
        · refine Ev.bind (check_ev l) ?_
          by_cases hc : checkV l = 0
          · rw [if_pos hc, if_pos hc]; exact Ev.now _
          · rw [if_neg hc, if_neg hc]; exact Ev.now _
      · rw [if_neg (fun h => hr h.2)]
        refine Ev.step (fun k => by rw [stemma_Read.j3]) (Ev.if_pos' ?_ ?_)
        · show ((rdB R (R.length - 1)).toList != []) = true
          simpa using hr
        · rw [wrap64_small (by omega) (by omega)]; exact Ev.now _
    · refine Ev.if_neg' he ?_
      rw [if_neg (fun h => he h.1)]
      refine Ev.step (fun k => by rw [stemma_Read.j3]) (Ev.if_pos' rfl ?_)
      rw [wrap64_small (by omega) (by omega)]; exact Ev.now _
  | succ rem ih =>
    intro i l pl en hi hli
    refine Ev.step (fun k => by rw [stemma_Read.l0]) ?_
    refine Ev.if_pos' (by omega) (Ev.if_pos' (by omega) (Ev.if_pos' (by omega) ?_))
    have e1 : rdOf ByteArray.empty (R.take (R.length - 1)) (i : Int) = rdB R i := by
      show (R.take (R.length - 1)).getD ((i : Int)).toNat _ = R.getD ((i : Int)).toNat _
      rw [Int.toNat_natCast, List.getD_eq_getElem?_getD, List.getD_eq_getElem?_getD, List.getElem?_take, if_pos (by omega)]
    have e2 : strings_Split.f (rdOf ByteArray.empty (R.take (R.length - 1)) (i : Int)) ⟨#[32]⟩ = some (cutB 32 (rdB R i)) := by
      rw [e1]; exact split_f 32 _ (by have := hp i; omega)
    simp only [e2, Option.bind_some]
    have hw := cutB_len 32 (rdB R i)
    have hpi := hp i
    obtain ⟨W, hW⟩ : ∃ W, W = cutB 32 (rdB R i) := ⟨_, rfl⟩
    unfold goV
    rw [← hW] at hw ⊢
    have e3 : wrap64 ((W.length : Int) - 1) = ((W.length - 1 : Nat) : Int) := by rw [wrap64_small (by omega) (by omega)]; omega
    rw [e3]
    clear e3
    refine Ev.if_pos' (by omega) (Ev.if_pos' (by omega) ?_)
    have e4 : rdOf ByteArray.empty W ((W.length - 1 : Nat) : Int) = rdB W (W.length - 1) := rfl
    have e5 : rdOf ByteArray.empty W 0 = rdB W 0 := rfl
    have e6 : rdOf ByteArray.empty W 1 = rdB W 1 := rfl
    simp only [e4, e5, digit_f, Option.bind_some]
    have e7 : wrap64 ((i : Int) + 1) = ((i + 1 : Nat) : Int) := by rw [wrap64_small (by omega) (by omega)]; omega
    have hi0 : ((i : Int) == 0) = (i == 0) := by rw [Bool.eq_iff_iff]; simp
    have fail : ∀ (d : Int) (b : Bool), b = true → Ev (fun k => stemma_Read.j1 k l R ((R.length - 1 : Nat) : Int) pl en (i : Int) W d (R.take (R.length - 1)) (((R.take (R.length - 1)).length : Nat) : Int) (i : Int) b) (([], (i : Int) + 1, 2) : List S25 × Int × Int) := by
      intro d b hb
      refine Ev.step (fun k => by rw [stemma_Read.j1]) (Ev.if_pos' hb ?_)
      rw [e7, show ((i + 1 : Nat) : Int) = (i : Int) + 1 by omega]
      exact Ev.now _
    by_cases hd : (dig (rdB W (W.length - 1))).2 = true
    · refine Ev.if_pos' hd ?_
      by_cases he : en = true
      · refine Ev.if_pos' he ?_
        rw [show stepV i W l pl en = none from if_pos (.inr (.inl he))]
        exact fail _ _ rfl
      · refine Ev.if_neg' he (Ev.if_pos' (by omega) ?_)
        rw [hi0]
        by_cases hb : (((rdB W 0).toList == sPlaces) != (i == 0)) = true
        · rw [show stepV i W l pl en = none from if_pos (.inr (.inr hb))]
          exact fail _ _ hb
        · refine Ev.step (fun k => by rw [stemma_Read.j1]) (Ev.if_neg' hb ?_)
          have hn : ¬ ((dig (rdB W (W.length - 1))).2 = false ∨ en = true ∨ (((rdB W 0).toList == sPlaces) != (i == 0)) = true) := by
            rintro (h | h | h)
            · rw [hd] at h; cases h
            · exact he h
            · exact hb h
          unfold stepV
          rw [if_neg hn]
          have fail2 : Ev (fun _ : Nat => some (([], wrap64 ((i : Int) + 1), 2) : List S25 × Int × Int)) (([], (i : Int) + 1, 2) : List S25 × Int × Int) := by
            rw [e7, show ((i + 1 : Nat) : Int) = (i : Int) + 1 by omega]
            exact Ev.now _
          by_cases h0 : i = 0
          · refine Ev.if_pos' (by omega) ?_
            rw [if_pos h0]
            by_cases h2 : W.length = 2
            · rw [if_pos h2]
              refine Ev.if_pos' (by omega) ?_
              rw [e7]
              exact ih (i + 1) l _ en (by omega) (by omega)
            · rw [if_neg h2]
              exact Ev.if_neg' (by omega) fail2
          · refine Ev.if_neg' (by omega) (Ev.if_pos' (by omega) ?_)
            rw [if_neg h0, e5]
            by_cases hc : (rdB W 0).toList = sCopies
            · rw [if_pos hc]
              refine Ev.if_pos' hc ?_
              by_cases h2 : W.length = 2
              · refine Ev.if_pos' (by omega) ?_
                by_cases h3 : (dig (rdB W (W.length - 1))).1 = l.length
                · rw [if_pos ⟨h2, h3⟩]
                  refine Ev.if_pos' h3 ?_
                  rw [e7]
                  exact ih (i + 1) l pl true (by omega) (by omega)
                · rw [if_neg (fun h => h3 h.2)]
                  exact Ev.if_neg' h3 fail2
              · rw [if_neg (fun h => h2 h.1)]
                exact Ev.if_neg' (by omega) fail2
            · rw [if_neg hc]
              refine Ev.if_neg' hc ?_
              have hj2 : ∀ b : Bool, (b = true → (rdB W 0).toList = sSaw ∨ (rdB W 0).toList = sHad) → (b = true → W.length = 3) →
                  (b = true ↔ (((rdB W 0).toList = sSaw ∨ (rdB W 0).toList = sHad) ∧ W.length = 3 ∧ ((rdB W 1).size : Int) = pl)) →
                  Ev (fun k => stemma_Read.j2 k l R ((R.length - 1 : Nat) : Int) pl en (i : Int) W (dig (rdB W (W.length - 1))).1 b (R.take (R.length - 1)) (((R.take (R.length - 1)).length : Nat) : Int) (i : Int))
                    (match (if ((rdB W 0).toList = sSaw ∨ (rdB W 0).toList = sHad) ∧ W.length = 3 ∧ ((rdB W 1).size : Int) = pl then some (l ++ [⟨rdB W 1, (dig (rdB W (W.length - 1))).1, (rdB W 0).toList == sSaw⟩], pl, en) else none : Option (List S25 × Int × Bool)) with
                    | none => ([], (i : Int) + 1, 2)
                    | some (l', pl', en') => goV R rem (i + 1) l' pl' en') := by
                intro b _ _ hb2
                refine Ev.step (fun k => by rw [stemma_Read.j2]) ?_
                by_cases hbt : b = true
                · have hg := hb2.1 hbt
                  rw [if_pos hg]
                  refine Ev.if_pos' hbt (Ev.if_pos' (by omega) (Ev.if_pos' (by omega) (Ev.if_pos' (by omega) ?_)))
                  rw [e7, e5, e6]
                  exact ih (i + 1) _ pl en (by omega) (by simp; omega)
                · rw [if_neg (fun h => hbt (hb2.2 h))]
                  exact Ev.if_neg' hbt fail2
              by_cases hs : (rdB W 0).toList = sSaw
              · refine Ev.if_pos' hs ?_
                by_cases h3 : W.length = 3
                · refine Ev.if_pos' (by omega) (Ev.if_pos' (by omega) ?_)
                  rw [e6]
                  exact hj2 _ (fun _ => .inl hs) (fun _ => h3) (by simp [hs, h3])
                · refine Ev.if_neg' (by omega) ?_
                  exact hj2 false (fun h => by cases h) (fun h => by cases h) (by simp [h3])
              · refine Ev.if_neg' hs ?_
                by_cases hh : (rdB W 0).toList = sHad
                · refine Ev.if_pos' hh ?_
                  by_cases h3 : W.length = 3
                  · refine Ev.if_pos' (by omega) (Ev.if_pos' (by omega) ?_)
                    rw [e6]
                    exact hj2 _ (fun _ => .inr hh) (fun _ => h3) (by simp [hh, h3])
                  · refine Ev.if_neg' (by omega) ?_
                    exact hj2 false (fun h => by cases h) (fun h => by cases h) (by simp [h3])
                · refine Ev.if_neg' hh ?_
                  exact hj2 false (fun h => by cases h) (fun h => by cases h) (by simp [hs, hh])
    · refine Ev.if_neg' hd ?_
      rw [show stepV i W l pl en = none from if_pos (.inl (by simpa using hd))]
      exact fail _ _ rfl
end
theorem read_ev (s : ByteArray) : Ev (fun k => stemma_Read.f k s) (readV s) := by
  unfold stemma_Read.f readV
  by_cases h : 200 < s.size
  · rw [if_pos h]; exact Ev.if_pos' (by omega) (Ev.now _)
  · rw [if_neg h]
    refine Ev.if_neg' (by omega) ?_
    have hw := cutB_len 10 s
    obtain ⟨R, hR⟩ : ∃ R, R = cutB 10 s := ⟨_, rfl⟩
    have hp : ∀ i, (rdB R i).size ≤ 1000 := fun i => by rw [hR]; exact Nat.le_trans (cutB_piece i) (by omega)
    simp only [split_f 10 s (by omega), Option.bind_some]
    rw [← hR] at hw ⊢
    have e : wrap64 ((R.length : Int) - 1) = ((R.length - 1 : Nat) : Int) := by rw [wrap64_small (by omega) (by omega)]; omega
    rw [e]
    refine Ev.if_pos' (by omega) (Ev.if_pos' (by omega) ?_)
    exact read_l0 R (by omega) (by omega) hp (R.length - 1) 0 [] 0 false (by omega) (by simp)
end Go.Proofs.YtecdjnabmjhakaaDoor.P.OwnSt
namespace Go.Proofs.YtecdjnabmjhakaaDoor.P.OwnSt
open Go.RowKit Go.Proofs.YtecdjnabmjhakaaDoorW.PrintWords Go.Proofs.YtecdjnabmjhakaaDoorW.PrintLast Go.Proofs.YtecdjnabmjhakaaDoorW.PrintMore
open Go.Proofs.YtecdjnabmjhakaaDoor.OwnTx
set_option linter.unusedVariables false
set_option linter.unusedSimpArgs false
def dgt (n : Int) : UInt8 := UInt8.ofNat (48 + n.toNat)
def rowL (x : S25) : List UInt8 := (if x.f2 = true then sSaw else sHad) ++ 32 :: x.f0.data.toList ++ [32, dgt x.f1]
def wrL (l : List S25) : List UInt8 := sPlaces ++ [32, dgt ((rd_T25 l 0).f0.size : Int), 10] ++ (l.flatMap fun x => rowL x ++ [10]) ++ sCopies ++ [32, dgt (l.length : Int), 10]
def writeV (l : List S25) : ByteArray × Int := if checkV l = 0 then (bA (wrL l), 0) else (⟨#[]⟩, checkV l)
theorem itoa_f (n : Int) (h0 : 0 ≤ n) (h9 : n ≤ 9) : strconv_Itoa.f n = some (bA [dgt n]) := by
  unfold strconv_Itoa.f
  rw [if_pos (by omega), Lib.decDigits, dif_pos (by omega)]
  rfl
theorem rdigit_f (n : Int) (h0 : 0 ≤ n) (h9 : n ≤ 9) : cippusref07_digit.f n = some (bA [dgt n]) := by
  unfold cippusref07_digit.f
  rw [show (48 + n % 256) % 256 = ((48 + n.toNat : Nat) : Int) by omega]
  congr 1
theorem rows_size (l : List S25) (h : ∀ x ∈ l, x.f0.size ≤ 8) : (l.flatMap fun x => rowL x ++ [10]).length ≤ 15 * l.length := by
  induction l with
  | nil => simp
  | cons x l ih =>
    have h1 := ih (fun y hy => h y (by simp [hy]))
    have h2 := h x (by simp)
    have e : (rowL x).length = 6 + x.f0.size := by
      unfold rowL
      split <;> simp <;> omega
    rw [List.flatMap_cons, List.length_append, List.length_append, e]
    simp at h1 ⊢
    omega
theorem write_l0 (l : List S25) (hv : Valid l) : ∀ (rem i : Nat) (acc : List UInt8), i + rem = l.length → acc.length ≤ 1000 + 20 * i →
    Ev (fun k => stemma_Write.l0 k l (bA acc) l (l.length : Int) (i : Int)) (bA (acc ++ ((l.drop i).flatMap fun x => rowL x ++ [10]) ++ sCopies ++ [32, dgt (l.length : Int), 10]), 0) := by
  have h5 := hv.five
  have h1 := hv.one
  intro rem
  induction rem with
  | zero =>
    intro i acc hi ha
    refine Ev.step (fun k => by rw [stemma_Write.l0]) ?_
    refine Ev.if_neg' (by omega) ?_
    rw [itoa_f (l.length : Int) (by omega) (by omega)]
    simp only [Option.bind_some]
    refine Ev.if_pos' (by rw [bA_size]; omega) ?_
    have e1 : bA acc ++ (⟨#[99, 111, 112, 105, 101, 115, 32]⟩ : ByteArray) = bA (acc ++ sCopies ++ [32]) := by
      rw [show (⟨#[99, 111, 112, 105, 101, 115, 32]⟩ : ByteArray) = bA (sCopies ++ [32]) from rfl, bA_append]; simp
    rw [e1, bA_append]
    refine Ev.if_pos' (by rw [bA_size, bA_size]; simp; omega) (Ev.if_pos' (by rw [bA_size]; simp; omega) ?_)
    rw [show (⟨#[10]⟩ : ByteArray) = bA [10] from rfl, bA_append, List.drop_of_length_le (by omega)]
    simp
    exact Ev.now _
  | succ rem ih =>
    intro i acc hi ha
    refine Ev.step (fun k => by rw [stemma_Write.l0]) ?_
    refine Ev.if_pos' (by omega) (Ev.if_pos' (by omega) (Ev.if_pos' (by omega) ?_))
    have hi' : i < l.length := by omega
    have e0 : rd_T25 l (i : Int) = l[i] := by unfold rd_T25; simp [List.getD_eq_getElem?_getD, hi']
    have hs := hv.size i hi'
    have hh := hv.high
    have he := hv.err i hi'
    rw [e0] at hs he ⊢
    obtain ⟨x, hx⟩ : ∃ x, x = l[i] := ⟨_, rfl⟩
    rw [← hx] at hs he ⊢
    have hd : (l.drop i).flatMap (fun x => rowL x ++ [10]) = rowL x ++ [10] ++ (l.drop (i + 1)).flatMap (fun x => rowL x ++ [10]) := by
      rw [List.drop_eq_getElem_cons hi', List.flatMap_cons, ← hx]
    have e7 : wrap64 ((i : Int) + 1) = ((i + 1 : Nat) : Int) := by rw [wrap64_small (by omega) (by omega)]; omega
    have hsz : x.f0.size ≤ 8 := by omega
    have hd2 := itoa_f x.f1 (by omega) (by omega)
    have IH := ih (i + 1) (acc ++ (rowL x ++ [10])) (by omega) (by
      have e : (rowL x).length = 6 + x.f0.size := by
        unfold rowL
        split <;> simp <;> omega
      simp [e]; omega)
    have eR : (acc ++ ((l.drop i).flatMap fun x => rowL x ++ [10]) ++ sCopies ++ [32, dgt (l.length : Int), 10]) = (acc ++ (rowL x ++ [10]) ++ ((l.drop (i + 1)).flatMap fun x => rowL x ++ [10]) ++ sCopies ++ [32, dgt (l.length : Int), 10]) := by
      rw [hd]; simp
    rw [eR]
    rw [hd2]
    simp only [Option.bind_some, e7]
    have hb : bA x.f0.data.toList = x.f0 := bA_data _
    by_cases hf : x.f2 = true
    · refine Ev.if_pos' hf ?_
      have e2 : ((((((⟨#[115, 97, 119]⟩ : ByteArray) ++ (⟨#[32]⟩ : ByteArray)) ++ x.f0) ++ (⟨#[32]⟩ : ByteArray)) ++ bA [dgt x.f1]) ++ (⟨#[10]⟩ : ByteArray)) = bA (rowL x ++ [10]) := by
        rw [← hb, show (⟨#[115, 97, 119]⟩ : ByteArray) = bA sSaw from rfl, show (⟨#[32]⟩ : ByteArray) = bA [32] from rfl, show (⟨#[10]⟩ : ByteArray) = bA [10] from rfl]
        simp only [bA_append]
        unfold rowL
        rw [hf]
        simp
      refine Ev.if_pos' (by omega) (Ev.if_pos' (by omega) (Ev.if_pos' ?_ (Ev.if_pos' ?_ (Ev.if_pos' ?_ (Ev.if_pos' ?_ ?_)))))
      · simp only [ByteArray.size_append]; show 3 + 1 + x.f0.size + 1 ≤ _; omega
      · simp only [ByteArray.size_append, bA_size]; show 3 + 1 + x.f0.size + 1 + 1 ≤ _; omega
      · simp only [ByteArray.size_append, bA_size]; show 3 + 1 + x.f0.size + 1 + 1 + 1 ≤ _; omega
      · simp only [ByteArray.size_append, bA_size]; show acc.length + (3 + 1 + x.f0.size + 1 + 1 + 1) ≤ _; omega
      · rw [e2, bA_append]
        exact IH
    · refine Ev.if_neg' hf ?_
      have e2 : ((((((⟨#[104, 97, 100]⟩ : ByteArray) ++ (⟨#[32]⟩ : ByteArray)) ++ x.f0) ++ (⟨#[32]⟩ : ByteArray)) ++ bA [dgt x.f1]) ++ (⟨#[10]⟩ : ByteArray)) = bA (rowL x ++ [10]) := by
        rw [← hb, show (⟨#[104, 97, 100]⟩ : ByteArray) = bA sHad from rfl, show (⟨#[32]⟩ : ByteArray) = bA [32] from rfl, show (⟨#[10]⟩ : ByteArray) = bA [10] from rfl]
        simp only [bA_append]
        unfold rowL
        rw [if_neg hf]
        simp
      refine Ev.if_pos' (by omega) (Ev.if_pos' (by omega) (Ev.if_pos' ?_ (Ev.if_pos' ?_ (Ev.if_pos' ?_ (Ev.if_pos' ?_ ?_)))))
      · simp only [ByteArray.size_append]; show 3 + 1 + x.f0.size + 1 ≤ _; omega
      · simp only [ByteArray.size_append, bA_size]; show 3 + 1 + x.f0.size + 1 + 1 ≤ _; omega
      · simp only [ByteArray.size_append, bA_size]; show 3 + 1 + x.f0.size + 1 + 1 + 1 ≤ _; omega
      · simp only [ByteArray.size_append, bA_size]; show acc.length + (3 + 1 + x.f0.size + 1 + 1 + 1) ≤ _; omega
      · rw [e2, bA_append]
        exact IH
theorem write_ev (l : List S25) : Ev (fun k => stemma_Write.f k l) (writeV l) := by
  unfold stemma_Write.f writeV
  refine Ev.bind (check_ev l) ?_
  by_cases hc : checkV l = 0
  · have hv := valid_of_check hc
    rw [if_pos hc]
    refine Ev.if_pos' hc (Ev.if_pos' (by have := hv.one; omega) ?_)
    rw [itoa_f _ (by omega) (by have := hv.high; omega)]
    simp only [Option.bind_some]
    have e1 : (⟨#[112, 108, 97, 99, 101, 115, 32]⟩ : ByteArray) = bA (sPlaces ++ [32]) := rfl
    rw [e1, bA_append, show (⟨#[10]⟩ : ByteArray) = bA [10] from rfl, bA_append]
    refine Ev.if_pos' (by rw [bA_size]; simp) (Ev.if_pos' (by rw [bA_size]; simp) ?_)
    have := write_l0 l hv l.length 0 (sPlaces ++ [32] ++ [dgt ((rd_T25 l 0).f0.size : Int)] ++ [10]) (by omega) (by simp)
    unfold wrL
    simpa using this
  · rw [if_neg hc]; exact Ev.if_neg' hc (Ev.now _)
theorem rwrite_l0 (l : List S25) (hv : Valid l) : ∀ (rem i : Nat) (acc : List UInt8), i + rem = l.length → acc.length ≤ 1000 + 20 * i →
    Ev (fun k => cippusref07_Write.l0 k l (bA acc) (i : Int)) (bA (acc ++ ((l.drop i).flatMap fun x => rowL x ++ [10]) ++ sCopies ++ [32, dgt (l.length : Int), 10]), 0) := by
  have h5 := hv.five
  have h1 := hv.one
  intro rem
  induction rem with
  | zero =>
    intro i acc hi ha
    refine Ev.step (fun k => by rw [cippusref07_Write.l0]) ?_
    refine Ev.if_neg' (by omega) ?_
    rw [rdigit_f (l.length : Int) (by omega) (by omega)]
    simp only [Option.bind_some]
    refine Ev.if_pos' (by rw [bA_size]; omega) ?_
    have e1 : bA acc ++ (⟨#[99, 111, 112, 105, 101, 115, 32]⟩ : ByteArray) = bA (acc ++ sCopies ++ [32]) := by
      rw [show (⟨#[99, 111, 112, 105, 101, 115, 32]⟩ : ByteArray) = bA (sCopies ++ [32]) from rfl, bA_append]; simp
    rw [e1, bA_append]
    refine Ev.if_pos' (by rw [bA_size, bA_size]; simp; omega) (Ev.if_pos' (by rw [bA_size]; simp; omega) ?_)
    rw [show (⟨#[10]⟩ : ByteArray) = bA [10] from rfl, bA_append, List.drop_of_length_le (by omega)]
    simp
    exact Ev.now _
  | succ rem ih =>
    intro i acc hi ha
    refine Ev.step (fun k => by rw [cippusref07_Write.l0]) ?_
    refine Ev.if_pos' (by omega) (Ev.if_pos' (by omega) ?_)
    have hi' : i < l.length := by omega
    have e0 : rd_T25 l (i : Int) = l[i] := by unfold rd_T25; simp [List.getD_eq_getElem?_getD, hi']
    have hs := hv.size i hi'
    have hh := hv.high
    have he := hv.err i hi'
    rw [e0] at hs he ⊢
    obtain ⟨x, hx⟩ : ∃ x, x = l[i] := ⟨_, rfl⟩
    rw [← hx] at hs he ⊢
    have hd : (l.drop i).flatMap (fun x => rowL x ++ [10]) = rowL x ++ [10] ++ (l.drop (i + 1)).flatMap (fun x => rowL x ++ [10]) := by
      rw [List.drop_eq_getElem_cons hi', List.flatMap_cons, ← hx]
    have e7 : wrap64 ((i : Int) + 1) = ((i + 1 : Nat) : Int) := by rw [wrap64_small (by omega) (by omega)]; omega
    have hsz : x.f0.size ≤ 8 := by omega
    have hd2 := rdigit_f x.f1 (by omega) (by omega)
    have IH := ih (i + 1) (acc ++ (rowL x ++ [10])) (by omega) (by
      have e : (rowL x).length = 6 + x.f0.size := by
        unfold rowL
        split <;> simp <;> omega
      simp [e]; omega)
    have eR : (acc ++ ((l.drop i).flatMap fun x => rowL x ++ [10]) ++ sCopies ++ [32, dgt (l.length : Int), 10]) = (acc ++ (rowL x ++ [10]) ++ ((l.drop (i + 1)).flatMap fun x => rowL x ++ [10]) ++ sCopies ++ [32, dgt (l.length : Int), 10]) := by
      rw [hd]; simp
    rw [eR]
    rw [hd2]
    simp only [Option.bind_some, e7]
    have hb : bA x.f0.data.toList = x.f0 := bA_data _
    by_cases hf : x.f2 = true
    · refine Ev.if_pos' hf ?_
      have e2 : (((((bA acc ++ (⟨#[115, 97, 119, 32]⟩ : ByteArray)) ++ x.f0) ++ (⟨#[32]⟩ : ByteArray)) ++ bA [dgt x.f1]) ++ (⟨#[10]⟩ : ByteArray)) = bA (acc ++ (rowL x ++ [10])) := by
        rw [← hb, show (⟨#[115, 97, 119, 32]⟩ : ByteArray) = bA (sSaw ++ [32]) from rfl, show (⟨#[32]⟩ : ByteArray) = bA [32] from rfl, show (⟨#[10]⟩ : ByteArray) = bA [10] from rfl]
        simp only [bA_append]
        unfold rowL
        rw [hf]
        simp
      refine Ev.if_pos' ?_ (Ev.if_pos' ?_ (Ev.if_pos' ?_ (Ev.if_pos' ?_ (Ev.if_pos' ?_ ?_))))
      · simp only [ByteArray.size_append, bA_size]; omega
      · simp only [ByteArray.size_append, bA_size]; show acc.length + 4 + x.f0.size ≤ _; omega
      · simp only [ByteArray.size_append, bA_size]; show acc.length + 4 + x.f0.size + 1 ≤ _; omega
      · simp only [ByteArray.size_append, bA_size]; show acc.length + 4 + x.f0.size + 1 + 1 ≤ _; omega
      · simp only [ByteArray.size_append, bA_size]; show acc.length + 4 + x.f0.size + 1 + 1 + 1 ≤ _; omega
      · rw [e2]
        exact IH
    · refine Ev.if_neg' hf ?_
      have e2 : (((((bA acc ++ (⟨#[104, 97, 100, 32]⟩ : ByteArray)) ++ x.f0) ++ (⟨#[32]⟩ : ByteArray)) ++ bA [dgt x.f1]) ++ (⟨#[10]⟩ : ByteArray)) = bA (acc ++ (rowL x ++ [10])) := by
        rw [← hb, show (⟨#[104, 97, 100, 32]⟩ : ByteArray) = bA (sHad ++ [32]) from rfl, show (⟨#[32]⟩ : ByteArray) = bA [32] from rfl, show (⟨#[10]⟩ : ByteArray) = bA [10] from rfl]
        simp only [bA_append]
        unfold rowL
        rw [if_neg hf]
        simp
      refine Ev.if_pos' ?_ (Ev.if_pos' ?_ (Ev.if_pos' ?_ (Ev.if_pos' ?_ (Ev.if_pos' ?_ ?_))))
      · simp only [ByteArray.size_append, bA_size]; omega
      · simp only [ByteArray.size_append, bA_size]; show acc.length + 4 + x.f0.size ≤ _; omega
      · simp only [ByteArray.size_append, bA_size]; show acc.length + 4 + x.f0.size + 1 ≤ _; omega
      · simp only [ByteArray.size_append, bA_size]; show acc.length + 4 + x.f0.size + 1 + 1 ≤ _; omega
      · simp only [ByteArray.size_append, bA_size]; show acc.length + 4 + x.f0.size + 1 + 1 + 1 ≤ _; omega
      · rw [e2]
        exact IH
theorem rwrite_ev (l : List S25) : Ev (fun k => cippusref07_Write.f k l) (writeV l) := by
  unfold cippusref07_Write.f writeV
  refine Ev.bind (rcheck_ev l) ?_
  by_cases hc : checkV l = 0
  · have hv := valid_of_check hc
    rw [if_pos hc]
    refine Ev.if_pos' hc (Ev.if_pos' (by have := hv.one; omega) ?_)
    rw [rdigit_f _ (by omega) (by have := hv.high; omega)]
    simp only [Option.bind_some]
    have e1 : (⟨#[112, 108, 97, 99, 101, 115, 32]⟩ : ByteArray) = bA (sPlaces ++ [32]) := rfl
    rw [e1, bA_append, show (⟨#[10]⟩ : ByteArray) = bA [10] from rfl, bA_append]
    refine Ev.if_pos' (by rw [bA_size]; simp) (Ev.if_pos' (by rw [bA_size]; simp) ?_)
    have := rwrite_l0 l hv l.length 0 (sPlaces ++ [32] ++ [dgt ((rd_T25 l 0).f0.size : Int)] ++ [10]) (by omega) (by simp)
    unfold wrL
    simpa using this
  · rw [if_neg hc]; exact Ev.if_neg' hc (Ev.now _)
theorem bt_get (s : ByteArray) (i : Nat) (h : i < s.size) : bt s (i : Int) = ((s.data.toList.getD i 0).toNat : Int) := by
  unfold bt
  rw [dif_pos (by simpa using h)]
  have h' : i < s.data.toList.length := by simpa using h
  rw [List.getD_eq_getElem?_getD, List.getElem?_eq_getElem h']
  simp
  rfl
theorem split_l0 (c : UInt8) (s : ByteArray) (hs : s.size ≤ 100000) : ∀ (rem i fr : Nat) (L : List ByteArray), i + rem = s.size → fr ≤ i → L.length ≤ i → (∀ j, fr ≤ j → j < i → s.data.toList.getD j 0 ≠ c) →
    Ev (fun k => cippusref07_split.l0 k s (c.toNat : Int) L (fr : Int) (i : Int)) (L ++ (cut c (s.data.toList.drop fr)).map bA) := by
  have hd : s.data.toList.length = s.size := by simp
  have ext : ∀ a b : Nat, s.extract a b = bA ((s.data.toList.take b).drop a) := by
    intro a b
    apply ByteArray.ext
    apply Array.toList_inj.1
    simp [bA, List.drop_take, List.extract_eq_take_drop]
  intro rem
  induction rem with
  | zero =>
    intro i fr L hi hfr hL hno
    refine Ev.step (fun k => by rw [cippusref07_split.l0]) ?_
    have e7 : wrap64 ((i : Int) + 1) = ((i + 1 : Nat) : Int) := by rw [wrap64_small (by omega) (by omega)]; omega
    refine Ev.if_pos' (by omega) (Ev.if_pos' (by omega) (Ev.if_pos' (by omega) (Ev.if_pos' (by omega) (Ev.if_pos' (by omega) ?_))))
    rw [e7]
    refine Ev.step (fun k => by rw [cippusref07_split.l0]) (Ev.if_neg' (by omega) ?_)
    rw [cut_plain (fun x hx => ?_)]
    · simp only [Int.toNat_natCast, List.map_cons, List.map_nil]
      rw [ext, List.take_of_length_le (by omega)]
      exact Ev.now _
    · obtain ⟨j, hj, rfl⟩ := List.getElem_of_mem hx
      have := hno (fr + j) (by omega) (by simp at hj; omega)
      rw [List.getElem_drop]
      rw [List.getD_eq_getElem?_getD, List.getElem?_eq_getElem (by simp at hj; omega)] at this
      exact this
  | succ rem ih =>
    intro i fr L hi hfr hL hno
    refine Ev.step (fun k => by rw [cippusref07_split.l0]) ?_
    have e7 : wrap64 ((i : Int) + 1) = ((i + 1 : Nat) : Int) := by rw [wrap64_small (by omega) (by omega)]; omega
    refine Ev.if_pos' (by omega) (Ev.if_neg' (by omega) (Ev.if_pos' (by omega) (Ev.if_pos' (by omega) ?_)))
    rw [bt_get s i (by omega), e7]
    have hil : i < s.data.toList.length := by omega
    have hget : s.data.toList.getD i 0 = s.data.toList[i] := by rw [List.getD_eq_getElem?_getD, List.getElem?_eq_getElem hil]; rfl
    by_cases hc : s.data.toList.getD i 0 = c
    · refine Ev.if_pos' (by rw [hc]) (Ev.if_pos' (by omega) (Ev.if_pos' (by omega) (Ev.if_pos' (by omega) ?_)))
      have h := ih (i + 1) (i + 1) (L ++ [s.extract fr i]) (by omega) (by omega) (by simp; omega) (fun j h1 h2 => by omega)
      have e : s.data.toList.drop fr = (s.data.toList.take i).drop fr ++ c :: s.data.toList.drop (i + 1) := by
        have e1 : s.data.toList.drop i = c :: s.data.toList.drop (i + 1) := by rw [List.drop_eq_getElem_cons hil, ← hget, hc]
        rw [← e1]
        conv => lhs; rw [← List.take_append_drop i s.data.toList]
        rw [List.drop_append_of_le_length (by simp; omega)]
      rw [e, cut_app]
      · simp only [Int.toNat_natCast]
        rw [List.map_cons, ← ext]
        simpa using h
      · intro x hx
        obtain ⟨j, hj, rfl⟩ := List.getElem_of_mem hx
        simp at hj
        have := hno (fr + j) (by omega) (by omega)
        rw [List.getD_eq_getElem?_getD, List.getElem?_eq_getElem (by omega)] at this
        simpa using this
    · refine Ev.if_neg' (fun h => hc (UInt8.toNat.inj (by omega))) ?_
      exact ih (i + 1) fr L (by omega) (by omega) (by omega) (fun j h1 h2 => by
        by_cases e : j = i
        · subst e; exact hc
        · exact hno j h1 (by omega))
theorem split_ev (c : UInt8) (s : ByteArray) (hs : s.size ≤ 100000) : Ev (fun k => cippusref07_split.f k s (c.toNat : Int)) (cutB c s) := by
  unfold cippusref07_split.f
  have := split_l0 c s hs s.size 0 0 [] (by omega) (by omega) (by simp) (fun j h1 h2 => by omega)
  simpa [cutB] using this
end Go.Proofs.YtecdjnabmjhakaaDoor.P.OwnSt
namespace Go.Proofs.YtecdjnabmjhakaaDoor.P.OwnSt
open Go.RowKit Go.Proofs.YtecdjnabmjhakaaDoorW.PrintWords Go.Proofs.YtecdjnabmjhakaaDoorW.PrintLast Go.Proofs.YtecdjnabmjhakaaDoorW.PrintMore
open Go.Proofs.YtecdjnabmjhakaaDoor.OwnTx
set_option linter.unusedVariables false
set_option linter.unusedSimpArgs false
section
variable (R : List ByteArray)
theorem rread_l0 (hR : 1 ≤ R.length) (hR2 : R.length ≤ 1000) (hp : ∀ i, (rdB R i).size ≤ 1000) : ∀ (rem i : Nat) (l : List S25) (pl : Int) (en : Bool), i + rem = R.length - 1 → l.length ≤ i →
    Ev (fun k => cippusref07_Read.l0 k R l pl en (i : Int)) (goV R rem i l pl en) := by
  have eR : wrap64 ((R.length : Int) - 1) = ((R.length - 1 : Nat) : Int) := by rw [wrap64_small (by omega) (by omega)]; omega
  intro rem
  induction rem with
  | zero =>
    intro i l pl en hi hli
    refine Ev.step (fun k => by rw [cippusref07_Read.l0, eR]) ?_
    refine Ev.if_neg' (by omega) ?_
    unfold goV
    obtain rfl : i = R.length - 1 := by omega
    by_cases he : en = true
    · refine Ev.if_pos' he (Ev.if_pos' (by omega) (Ev.if_pos' (by omega) ?_))
      by_cases hr : (rdB R (R.length - 1)).toList = []
      · rw [if_pos ⟨he, hr⟩]
        refine Ev.step (fun k => by rw [cippusref07_Read.j4]) (Ev.if_neg' ?_ ?_)
        · show ¬ ((rdB R (R.length - 1)).toList != []) = true
          rw [hr]; decide
        · refine Ev.bind (rcheck_ev l) ?_
          by_cases hc : checkV l = 0
          · rw [if_pos hc, if_pos hc]; exact Ev.now _
          · rw [if_neg hc, if_neg hc]; exact Ev.now _
      · rw [if_neg (fun h => hr h.2)]
        refine Ev.step (fun k => by rw [cippusref07_Read.j4]) (Ev.if_pos' ?_ ?_)
        · show ((rdB R (R.length - 1)).toList != []) = true
          simpa using hr
        · rw [show ((R.length - 1 : Nat) : Int) + 1 = (R.length : Int) by omega]; exact Ev.now _
    · refine Ev.if_neg' he ?_
      rw [if_neg (fun h => he h.1)]
      refine Ev.step (fun k => by rw [cippusref07_Read.j4]) (Ev.if_pos' rfl ?_)
      rw [show ((R.length - 1 : Nat) : Int) + 1 = (R.length : Int) by omega]; exact Ev.now _
  | succ rem ih =>
    intro i l pl en hi hli
    refine Ev.step (fun k => by rw [cippusref07_Read.l0, eR]) ?_
    clear eR
    refine Ev.if_pos' (by omega) (Ev.if_pos' (by omega) (Ev.if_pos' (by omega) ?_))
    have hpi := hp i
    have e1 : rdOf ByteArray.empty R (i : Int) = rdB R i := rfl
    rw [e1]
    refine Ev.bind (split_ev 32 (rdB R i) (by omega)) ?_
    have hw := cutB_len 32 (rdB R i)
    obtain ⟨W, hW⟩ : ∃ W, W = cutB 32 (rdB R i) := ⟨_, rfl⟩
    unfold goV
    rw [← hW] at hw ⊢
    have e3 : wrap64 ((W.length : Int) - 1) = ((W.length - 1 : Nat) : Int) := by rw [wrap64_small (by omega) (by omega)]; omega
    rw [e3]
    clear e3
    refine Ev.if_pos' (by omega) (Ev.if_pos' (by omega) ?_)
    have e4 : rdOf ByteArray.empty W ((W.length - 1 : Nat) : Int) = rdB W (W.length - 1) := rfl
    have e5 : rdOf ByteArray.empty W 0 = rdB W 0 := rfl
    have e6 : rdOf ByteArray.empty W 1 = rdB W 1 := rfl
    simp only [e4, e5, number_f, Option.bind_some]
    have e7 : wrap64 ((i : Int) + 1) = ((i + 1 : Nat) : Int) := by rw [wrap64_small (by omega) (by omega)]; omega
    have hi0 : ((i : Int) == 0) = (i == 0) := by rw [Bool.eq_iff_iff]; simp
    have fail : ∀ (d : Int) (b : Bool), b = true → Ev (fun k => cippusref07_Read.j1 k R l pl en (i : Int) W d b) (([], (i : Int) + 1, 2) : List S25 × Int × Int) := by
      intro d b hb
      refine Ev.step (fun k => by rw [cippusref07_Read.j1]) (Ev.if_pos' hb ?_)
      rw [e7, show ((i + 1 : Nat) : Int) = (i : Int) + 1 by omega]
      exact Ev.now _
    by_cases hd : (dig (rdB W (W.length - 1))).2 = true
    · refine Ev.if_pos' hd ?_
      by_cases he : en = true
      · refine Ev.if_pos' he ?_
        rw [show stepV i W l pl en = none from if_pos (.inr (.inl he))]
        exact fail _ _ rfl
      · refine Ev.if_neg' he (Ev.if_pos' (by omega) ?_)
        rw [hi0]
        by_cases hb : (((rdB W 0).toList == sPlaces) != (i == 0)) = true
        · rw [show stepV i W l pl en = none from if_pos (.inr (.inr hb))]
          exact fail _ _ hb
        · refine Ev.step (fun k => by rw [cippusref07_Read.j1]) (Ev.if_neg' hb (Ev.if_pos' (by omega) ?_))
          have hn : ¬ ((dig (rdB W (W.length - 1))).2 = false ∨ en = true ∨ (((rdB W 0).toList == sPlaces) != (i == 0)) = true) := by
            rintro (h | h | h)
            · rw [hd] at h; cases h
            · exact he h
            · exact hb h
          have hpi : (rdB W 0).toList = sPlaces ↔ i = 0 := by
            have : ((rdB W 0).toList == sPlaces) = (i == 0) := by
              generalize ((rdB W 0).toList == sPlaces) = u at hb
              generalize (i == 0) = v at hb
              cases u <;> cases v <;> simp at hb ⊢
            rw [Bool.eq_iff_iff] at this
            simpa using this
          unfold stepV
          rw [if_neg hn]
          clear hn hb
          have fail2 : Ev (fun _ : Nat => some (([], wrap64 ((i : Int) + 1), 2) : List S25 × Int × Int)) (([], (i : Int) + 1, 2) : List S25 × Int × Int) := by
            rw [e7, show ((i + 1 : Nat) : Int) = (i : Int) + 1 by omega]
            exact Ev.now _
          rw [e5]
          by_cases h0 : i = 0
          · refine Ev.if_pos' (hpi.2 h0) ?_
            rw [if_pos h0]
            by_cases h2 : W.length = 2
            · rw [if_pos h2]
              refine Ev.if_pos' (by omega) ?_
              rw [e7]
              exact ih (i + 1) l _ en (by omega) (by omega)
            · rw [if_neg h2]
              exact Ev.if_neg' (by omega) fail2
          · refine Ev.if_neg' (fun h => h0 (hpi.1 h)) ?_
            rw [if_neg h0]
            have hj3 : ∀ b : Bool, (b = true ↔ (((rdB W 0).toList = sSaw ∨ (rdB W 0).toList = sHad) ∧ W.length = 3 ∧ ((rdB W 1).size : Int) = pl)) →
                Ev (fun k => cippusref07_Read.j3 k R l pl en (i : Int) W (dig (rdB W (W.length - 1))).1 b)
                  (match (if ((rdB W 0).toList = sSaw ∨ (rdB W 0).toList = sHad) ∧ W.length = 3 ∧ ((rdB W 1).size : Int) = pl then some (l ++ [⟨rdB W 1, (dig (rdB W (W.length - 1))).1, (rdB W 0).toList == sSaw⟩], pl, en) else none : Option (List S25 × Int × Bool)) with
                  | none => ([], (i : Int) + 1, 2)
                  | some (l', pl', en') => goV R rem (i + 1) l' pl' en') := by
              intro b hb2
              refine Ev.step (fun k => by rw [cippusref07_Read.j3]) ?_
              by_cases hbt : b = true
              · have hg := hb2.1 hbt
                rw [if_pos hg]
                refine Ev.if_pos' hbt (Ev.if_pos' (by omega) (Ev.if_pos' (by omega) (Ev.if_pos' (by omega) ?_)))
                rw [e7, e5, e6]
                exact ih (i + 1) _ pl en (by omega) (by simp; omega)
              · rw [if_neg (fun h => hbt (hb2.2 h))]
                exact Ev.if_neg' hbt fail2
            have hj2f : (rdB W 0).toList ≠ sCopies → Ev (fun k => cippusref07_Read.j2 k R l pl en (i : Int) W (dig (rdB W (W.length - 1))).1 false)
                  (match (if ((rdB W 0).toList = sSaw ∨ (rdB W 0).toList = sHad) ∧ W.length = 3 ∧ ((rdB W 1).size : Int) = pl then some (l ++ [⟨rdB W 1, (dig (rdB W (W.length - 1))).1, (rdB W 0).toList == sSaw⟩], pl, en) else none : Option (List S25 × Int × Bool)) with
                  | none => ([], (i : Int) + 1, 2)
                  | some (l', pl', en') => goV R rem (i + 1) l' pl' en') := by
              intro hc
              refine Ev.step (fun k => by rw [cippusref07_Read.j2]) (Ev.if_neg' (by decide) ?_)
              rw [e5, e6]
              by_cases h3 : W.length = 3
              · refine Ev.if_pos' (by omega) (Ev.if_pos' (by omega) ?_)
                by_cases hs : (rdB W 0).toList = sSaw
                · refine Ev.if_pos' hs (Ev.if_pos' (by omega) ?_)
                  exact hj3 _ (by simp [hs, h3])
                · refine Ev.if_neg' hs ?_
                  by_cases hh : (rdB W 0).toList = sHad
                  · refine Ev.if_pos' hh (Ev.if_pos' (by omega) ?_)
                    exact hj3 _ (by simp [hh, h3])
                  · refine Ev.if_neg' hh ?_
                    exact hj3 false (by simp [hs, hh])
              · refine Ev.if_neg' (by omega) ?_
                exact hj3 false (by simp [h3])
            by_cases hc : (rdB W 0).toList = sCopies
            · rw [if_pos hc]
              refine Ev.if_pos' hc ?_
              by_cases h2 : W.length = 2
              · rw [show ((W.length : Int) == 2) = true by simp; omega]
                refine Ev.step (fun k => by rw [cippusref07_Read.j2]) (Ev.if_pos' rfl ?_)
                by_cases h3 : (dig (rdB W (W.length - 1))).1 = l.length
                · rw [if_pos ⟨h2, h3⟩]
                  refine Ev.if_pos' h3 ?_
                  rw [e7]
                  exact ih (i + 1) l pl true (by omega) (by omega)
                · rw [if_neg (fun h => h3 h.2)]
                  exact Ev.if_neg' h3 fail2
              · rw [if_neg (fun h => h2 h.1), show ((W.length : Int) == 2) = false by simp; omega]
                refine Ev.step (fun k => by rw [cippusref07_Read.j2]) (Ev.if_neg' (by decide) ?_)
                have fail3 : Ev (fun k => cippusref07_Read.j3 k R l pl en (i : Int) W (dig (rdB W (W.length - 1))).1 false) (([], (i : Int) + 1, 2) : List S25 × Int × Int) := by
                  refine Ev.step (fun k => by rw [cippusref07_Read.j3]) (Ev.if_neg' (by decide) ?_)
                  exact fail2
                rw [e5]
                by_cases h3 : W.length = 3
                · refine Ev.if_pos' (by omega) (Ev.if_pos' (by omega) (Ev.if_neg' (by rw [hc]; decide) (Ev.if_neg' (by rw [hc]; decide) fail3)))
                · exact Ev.if_neg' (by omega) fail3
            · rw [if_neg hc]
              exact Ev.if_neg' hc (hj2f hc)
    · refine Ev.if_neg' hd ?_
      rw [show stepV i W l pl en = none from if_pos (.inl (by simpa using hd))]
      exact fail _ _ rfl
end
theorem rread_ev (s : ByteArray) : Ev (fun k => cippusref07_Read.f k s) (readV s) := by
  unfold cippusref07_Read.f readV
  by_cases h : 200 < s.size
  · rw [if_pos h]; exact Ev.if_pos' (by omega) (Ev.now _)
  · rw [if_neg h]
    refine Ev.if_neg' (by omega) ?_
    refine Ev.bind (split_ev 10 s (by omega)) ?_
    have hw := cutB_len 10 s
    obtain ⟨R, hR⟩ : ∃ R, R = cutB 10 s := ⟨_, rfl⟩
    have hp : ∀ i, (rdB R i).size ≤ 1000 := fun i => by rw [hR]; exact Nat.le_trans (cutB_piece i) (by omega)
    rw [← hR] at hw ⊢
    exact rread_l0 R (by omega) (by omega) hp (R.length - 1) 0 [] 0 false (by omega) (by simp)
end Go.Proofs.YtecdjnabmjhakaaDoor.P.OwnSt
namespace Go.Proofs.YtecdjnabmjhakaaDoor.P.OwnSt
open Go.RowKit Go.Proofs.YtecdjnabmjhakaaDoorW.PrintWords Go.Proofs.YtecdjnabmjhakaaDoorW.PrintLast Go.Proofs.YtecdjnabmjhakaaDoorW.PrintMore
open Go.Proofs.YtecdjnabmjhakaaDoor.OwnTx
set_option linter.unusedVariables false
set_option linter.unusedSimpArgs false
def Lets (b : ByteArray) : Prop := ∀ x ∈ b.data.toList, 65 ≤ x.toNat
theorem lets_of {l : List S25} (hv : Valid l) {x : S25} (hx : x ∈ l) : Lets x.f0 ∧ 0 ≤ x.f1 ∧ x.f1 ≤ 3 ∧ x.f0.size = (rd_T25 l 0).f0.size := by
  obtain ⟨i, hi, rfl⟩ := List.getElem_of_mem hx
  have e0 : rd_T25 l (i : Int) = l[i] := by unfold rd_T25; simp [List.getD_eq_getElem?_getD, hi]
  have hs := hv.size i hi
  have he := hv.err i hi
  have hg := hv.good i hi
  rw [e0] at hs he hg
  refine ⟨?_, he.1, he.2, hs⟩
  intro y hy
  obtain ⟨p, hp, rfl⟩ := List.getElem_of_mem hy
  have hp' : p < l[i].f0.size := by simpa using hp
  have h := (hg p (by omega)).1
  rw [bt_get _ p hp', List.getD_eq_getElem?_getD, List.getElem?_eq_getElem hp, Option.getD_some] at h
  omega
theorem len2 {W : List ByteArray} (h : W.length = 2) : W = [rdB W 0, rdB W 1] := by
  match W, h with
  | [a, b], _ => rfl
end Go.Proofs.YtecdjnabmjhakaaDoor.P.OwnSt
namespace Go.Proofs.YtecdjnabmjhakaaDoor.P.OwnSt
open Go.RowKit Go.Proofs.YtecdjnabmjhakaaDoorW.PrintWords Go.Proofs.YtecdjnabmjhakaaDoorW.PrintLast Go.Proofs.YtecdjnabmjhakaaDoorW.PrintMore
set_option linter.unusedVariables false
set_option linter.unusedSimpArgs false
section
variable (l : List S25) (fs : Nat → Int) (place letter : Int)
end
section
variable {l : List S25} {fs : Nat → Int} {place letter : Int}
end
end Go.Proofs.YtecdjnabmjhakaaDoor.P.OwnSt
namespace Go.Proofs.YtecdjnabmjhakaaDoor.P.OwnSt
open Go.RowKit Go.Proofs.YtecdjnabmjhakaaDoorW.PrintWords Go.Proofs.YtecdjnabmjhakaaDoorW.PrintLast Go.Proofs.YtecdjnabmjhakaaDoorW.PrintMore
open OwnUrn
set_option linter.unusedVariables false
set_option linter.unusedSimpArgs false
theorem wrap_u64_range (n : Int) : 0 ≤ IntKind.u64.wrap n ∧ IntKind.u64.wrap n < 18446744073709551616 := by
  have h : IntKind.u64.wrap n = n % 18446744073709551616 := by simp [IntKind.wrap, IntKind.bits, IntKind.signed]
  rw [h]
  omega
theorem wrap_u64_small {n : Int} (h0 : 0 ≤ n) (h1 : n < 18446744073709551616) : IntKind.u64.wrap n = n := by
  have h : IntKind.u64.wrap n = n % 18446744073709551616 := by simp [IntKind.wrap, IntKind.bits, IntKind.signed]
  rw [h]
  omega
theorem turn_ok (a b : Int) : ∃ v a' b', cippuskit_Urn_turn.f a b = some (v, a', b') ∧ 0 ≤ v ∧ v < 18446744073709551616 := by
  unfold cippuskit_Urn_turn.f
  split
  · exact ⟨_, _, _, rfl, wrap_u64_range _⟩
  · exact ⟨_, _, _, rfl, wrap_u64_range _⟩
theorem up_ok (a b n : Int) (hn : n ≤ 1000) : ∃ v a' b', cippuskit_Urn_Up.f a b n = some (v, a', b') ∧ 0 ≤ v ∧ (v < n ∨ v = 0) := by
  unfold cippuskit_Urn_Up.f
  by_cases h : n < 2
  · rw [if_pos h]
    exact ⟨0, a, b, rfl, Int.le_refl _, .inr rfl⟩
  · rw [if_neg h]
    obtain ⟨v, a', b', e, h0, h1⟩ := turn_ok a b
    rw [e, Option.bind_some, wrap_u64_small (by omega) (by omega), if_neg (by omega)]
    have h2 : 0 ≤ v / 2048 := by omega
    have h3 : Int.tmod (v / 2048) n = (v / 2048) % n := Int.tmod_eq_emod_of_nonneg h2
    have h4 := Int.emod_nonneg (v / 2048) (show n ≠ 0 by omega)
    have h5 := Int.emod_lt_of_pos (v / 2048) (show 0 < n by omega)
    refine ⟨_, _, _, rfl, ?_⟩
    show 0 ≤ wrap64 (Int.tmod (v / 2048) n) ∧ (wrap64 (Int.tmod (v / 2048) n) < n ∨ _)
    rw [h3, wrap64_small h4 (by omega)]
    exact ⟨h4, .inl h5⟩
theorem from_ok (a b lo hi : Int) (h0 : -1000 ≤ lo) (h1 : lo ≤ 1000) (h2 : -1000 ≤ hi) (h3 : hi ≤ 900 + lo) : ∃ v a' b', cippuskit_Urn_From.f a b lo hi = some (v, a', b') ∧ lo ≤ v ∧ (v ≤ hi ∨ v = lo) := by
  unfold cippuskit_Urn_From.f
  have e1 : wrap64 (hi - lo) = hi - lo := by simp [wrap64]; omega
  have e2 : wrap64 (hi - lo + 1) = hi - lo + 1 := by simp [wrap64]; omega
  rw [e1, e2]
  obtain ⟨v, a', b', e, h4, h5⟩ := up_ok a b (hi - lo + 1) (by omega)
  rw [e, Option.bind_some]
  refine ⟨_, _, _, rfl, ?_⟩
  have e3 : wrap64 (lo + v) = lo + v := by simp [wrap64]; omega
  show lo ≤ wrap64 (lo + v) ∧ (wrap64 (lo + v) ≤ hi ∨ wrap64 (lo + v) = lo)
  rw [e3]
  omega
theorem odds_ok (a b n m : Int) (hm : m ≤ 1000) : ∃ v a' b', cippuskit_Urn_Odds.f a b n m = some (v, a', b') := by
  unfold cippuskit_Urn_Odds.f
  obtain ⟨v, a', b', e, _⟩ := up_ok a b m hm
  rw [e, Option.bind_some]
  exact ⟨_, _, _, rfl⟩
def diffL (b c : List Int) : Nat → Nat
  | 0 => 0
  | m + 1 => diffL b c m + if b.getD m 0 = c.getD m 0 then 0 else 1
theorem diffL_tri (a b c : List Int) : ∀ m, diffL a c m ≤ diffL a b m + diffL b c m := by
  intro m
  induction m with
  | zero => simp [diffL]
  | succ m ih =>
    unfold diffL
    by_cases h1 : a.getD m 0 = b.getD m 0
    · by_cases h2 : b.getD m 0 = c.getD m 0
      · rw [if_pos h1, if_pos h2, if_pos (h1.trans h2)]; omega
      · rw [if_pos h1, if_neg h2, if_neg (fun h => h2 (h1.symm.trans h))]; omega
    · rw [if_neg h1]
      split <;> split <;> omega
theorem diffL_self (a : List Int) : ∀ m, diffL a a m = 0 := by
  intro m
  induction m with
  | zero => rfl
  | succ m ih => unfold diffL; rw [ih, if_pos rfl]
theorem diffL_set (a : List Int) (i : Nat) (v : Int) : ∀ m, diffL a (a.set i v) m ≤ if i < m then 1 else 0 := by
  intro m
  induction m with
  | zero => simp [diffL]
  | succ m ih =>
    unfold diffL
    by_cases e : m = i
    · subst e
      rw [if_neg (by omega)] at ih
      rw [show (if m < m + 1 then 1 else 0) = 1 from if_pos (by omega)]
      split <;> omega
    · have h : (a.set i v).getD m 0 = a.getD m 0 := by
        rw [List.getD_eq_getElem?_getD, List.getD_eq_getElem?_getD, List.getElem?_set_ne (fun h => e h.symm)]
      rw [h, if_pos rfl]
      split at ih <;> split <;> omega
def letL (b : List Int) : Prop := ∀ x ∈ b, 65 ≤ x ∧ x ≤ 67
theorem erredGo_ok : ∀ (n : Nat) (b : List Int) (s0 s1 : Int), letL b → 1 ≤ b.length → b.length ≤ 100 → ∃ r s0' s1', erredGo n b s0 s1 = some (r, s0', s1') ∧ letL r ∧ r.length = b.length ∧ diffL b r b.length ≤ n := by
  intro n
  induction n with
  | zero => intro b s0 s1 h _ _; exact ⟨b, s0, s1, rfl, h, rfl, by rw [diffL_self]; exact Nat.le_refl _⟩
  | succ n ih =>
    intro b s0 s1 h h1 h2
    unfold erredGo
    obtain ⟨v, a', b', e, h3, h4⟩ := up_ok s0 s1 (b.length : Int) (by omega)
    rw [e, Option.bind_some]
    obtain ⟨u, a2, b2, e2, h5, h6⟩ := up_ok a' b' 3 (by omega)
    rw [e2, Option.bind_some, if_pos ⟨h3, by omega⟩]
    have e3 : wrap64 (65 + u) % 256 = 65 + u := by rw [wrap64_small (by omega) (by omega)]; omega
    rw [e3]
    obtain ⟨r, s0', s1', e4, h7, h8, h9⟩ := ih (b.set v.toNat (65 + u)) a2 b2 (fun x hx => by
      rcases List.mem_or_eq_of_mem_set hx with hx | rfl
      · exact h x hx
      · omega) (by rw [List.length_set]; exact h1) (by rw [List.length_set]; exact h2)
    rw [List.length_set] at h8 h9
    refine ⟨r, s0', s1', e4, h7, h8, ?_⟩
    have t := diffL_tri b (b.set v.toNat (65 + u)) r b.length
    have s := diffL_set b v.toNat (65 + u) b.length
    split at s <;> omega
theorem bt_str (xs : List Int) (p : Nat) (hx : ∀ x ∈ xs, 0 ≤ x ∧ x ≤ 255) (hp : p < xs.length) : bt (strOfNums xs) (p : Int) = xs.getD p 0 := by
  have hs : p < (strOfNums xs).size := by rw [strOfNums_size]; exact hp
  rw [← bt_at (strOfNums xs) (p : Int) (by simpa using hs)]
  have h1 : ((strOfNums xs)[(p : Int).toNat]'(by simpa using hs)) = UInt8.ofNat (xs.getD p 0).toNat := by
    show (strOfNums xs).data[(p : Int).toNat]'_ = _
    simp [strOfNums, List.getD_eq_getElem?_getD, List.getElem?_eq_getElem hp]
  rw [h1]
  have h2 := hx (xs.getD p 0) (by rw [List.getD_eq_getElem?_getD, List.getElem?_eq_getElem hp]; exact List.getElem_mem hp)
  revert h2
  generalize xs.getD p 0 = z
  intro h2
  simp
  omega
theorem bytesOf_get (b : ByteArray) (p : Nat) : (bytesOf b).getD p 0 = bt b (p : Int) := by
  rw [← rd_bytesOf]
  rfl
def letB (b : ByteArray) : Prop := ∀ p : Nat, p < b.size → 65 ≤ bt b (p : Int) ∧ bt b (p : Int) ≤ 67
theorem letB_list {b : ByteArray} (h : letB b) : letL (bytesOf b) := by
  intro x hx
  obtain ⟨p, hp, rfl⟩ := List.getElem_of_mem hx
  have h2 := h p (by rw [← bytesOf_length]; exact hp)
  rw [← bytesOf_get, List.getD_eq_getElem?_getD, List.getElem?_eq_getElem hp] at h2
  exact h2
theorem letL_str {xs : List Int} (h : letL xs) : letB (strOfNums xs) := by
  intro p hp
  rw [strOfNums_size] at hp
  rw [bt_str xs p (fun x hx => by have := h x hx; omega) hp]
  exact h _ (by rw [List.getD_eq_getElem?_getD, List.getElem?_eq_getElem hp]; exact List.getElem_mem hp)
theorem apN_diff (b : ByteArray) (r : List Int) (hr : letL r) : ∀ m, m ≤ r.length → apN b (strOfNums r) m = (diffL (bytesOf b) r m : Int) := by
  intro m
  induction m with
  | zero => intro _; simp [apN, diffL]
  | succ m ih =>
    intro hm
    rw [apN_succ, ih (by omega), diffL, bt_str r m (fun x hx => by have := hr x hx; omega) (by omega), bytesOf_get]
    split <;> simp
theorem erred_ok (s0 s1 : Int) (a : ByteArray) (e : Int) (ha : letB a) (h1 : 1 ≤ a.size) (h2 : a.size ≤ 100) (he : 0 ≤ e) (he2 : e ≤ 1000) : ∃ t s0' s1', erred s0 s1 a e = some (t, s0', s1') ∧ letB t ∧ t.size = a.size ∧ apN a t a.size ≤ e := by
  unfold erred
  rw [if_pos ⟨by omega, by omega⟩]
  obtain ⟨r, s0', s1', e1, h3, h4, h5⟩ := erredGo_ok e.toNat (bytesOf a) s0 s1 (letB_list ha) (by rw [bytesOf_length]; exact h1) (by rw [bytesOf_length]; exact h2)
  rw [e1]
  rw [bytesOf_length] at h4 h5
  refine ⟨_, _, _, rfl, letL_str h3, by rw [strOfNums_size]; exact h4, ?_⟩
  rw [apN_diff a r h3 _ (by omega)]
  omega
theorem stoneGo_ok : ∀ (n : Nat) (a b : Int) (s : ByteArray), letB s → s.size + n ≤ 100 → ∃ t a' b', stoneGo n a b s = some (t, a', b') ∧ letB t ∧ t.size = s.size + n := by
  intro n
  induction n with
  | zero => intro a b s h _; exact ⟨s, a, b, rfl, h, rfl⟩
  | succ n ih =>
    intro a b s h hs
    unfold stoneGo
    obtain ⟨u, a2, b2, e2, h5, h6⟩ := up_ok a b 3 (by omega)
    rw [e2, Option.bind_some, if_pos (by omega)]
    have e3 : wrap64 (65 + u) % 256 = 65 + u := by rw [wrap64_small (by omega) (by omega)]; omega
    show ∃ t a' b', stoneGo n a2 b2 (s ++ strOfNums [wrap64 (65 + u) % 256]) = some (t, a', b') ∧ _
    rw [e3]
    have hsz : (s ++ strOfNums [65 + u]).size = s.size + 1 := by rw [ByteArray.size_append, strOfNums_size]; rfl
    obtain ⟨t, a', b', e4, h7, h8⟩ := ih a2 b2 (s ++ strOfNums [65 + u]) (fun p hp => by
      by_cases hp2 : p < s.size
      · have e5 : bt (s ++ strOfNums [65 + u]) (p : Int) = bt s (p : Int) := by
          rw [← bt_at _ (p : Int) (by simpa using hp), ← bt_at s (p : Int) (by simpa using hp2)]
          simp only [Int.toNat_natCast]
          rw [ByteArray.getElem_append_left hp2]
        rw [e5]
        exact h p hp2
      · have hpe : p = s.size := by omega
        have e5 : bt (s ++ strOfNums [65 + u]) (p : Int) = 65 + u := by
          rw [← bt_at _ (p : Int) (by simpa using hp)]
          simp only [Int.toNat_natCast]
          rw [ByteArray.getElem_append_right (by omega)]
          have h9 := bt_str [65 + u] 0 (fun x hx => by simp at hx; omega) (by simp)
          rw [← bt_at _ ((0 : Nat) : Int) (by rw [strOfNums_size]; simp)] at h9
          simpa [hpe] using h9
        rw [e5]
        omega) (by omega)
    exact ⟨t, a', b', e4, h7, by omega⟩
def fromOf (st : ByteArray) (l : List S25) (f : Int) : ByteArray := if f < 0 then st else (rd_T25 l f).f0
structure MadeOk (er : Int) (st : ByteArray) (l : List S25) (src : List Int) : Prop where
  len : src.length = l.length
  one : ∀ i : Nat, i < l.length → (letB (rd_T25 l (i : Int)).f0 ∧ (rd_T25 l (i : Int)).f0.size = st.size) ∧ (0 ≤ (rd_T25 l (i : Int)).f1 ∧ (rd_T25 l (i : Int)).f1 ≤ er) ∧ (-1 ≤ src.getD i 0 ∧ src.getD i 0 < i) ∧ (src.getD i 0 < 0 → (rd_T25 l (i : Int)).f2 = true) ∧ apN (fromOf st l (src.getD i 0)) (rd_T25 l (i : Int)).f0 st.size ≤ (rd_T25 l (i : Int)).f1
theorem rd_snoc_lt (l : List S25) (x : S25) (i : Int) (h0 : 0 ≤ i) (h : i < l.length) : rd_T25 (l ++ [x]) i = rd_T25 l i := by
  unfold rd_T25
  rw [List.getD_eq_getElem?_getD, List.getD_eq_getElem?_getD, List.getElem?_append_left (by omega)]
theorem rd_snoc_eq (l : List S25) (x : S25) : rd_T25 (l ++ [x]) (l.length : Int) = x := by
  unfold rd_T25
  rw [List.getD_eq_getElem?_getD, Int.toNat_natCast, List.getElem?_append_right (Nat.le_refl _)]
  simp
theorem MadeOk.snoc {er : Int} {st : ByteArray} {l : List S25} {src : List Int} (h : MadeOk er st l src) (x : S25) (f : Int) (hx : letB x.f0 ∧ x.f0.size = st.size) (he : 0 ≤ x.f1 ∧ x.f1 ≤ er) (hf : -1 ≤ f ∧ f < l.length) (hs : f < 0 → x.f2 = true) (ha : apN (fromOf st l f) x.f0 st.size ≤ x.f1) : MadeOk er st (l ++ [x]) (src ++ [f]) := by
  refine ⟨by simp [h.len], fun i hi => ?_⟩
  rw [List.length_append, List.length_singleton] at hi
  by_cases e : i = l.length
  · subst e
    have e1 : (src ++ [f]).getD l.length 0 = f := by
      rw [List.getD_eq_getElem?_getD, List.getElem?_append_right (by rw [h.len]; exact Nat.le_refl _)]
      simp [h.len]
    rw [e1, rd_snoc_eq]
    refine ⟨hx, he, hf, hs, ?_⟩
    have e2 : fromOf st (l ++ [x]) f = fromOf st l f := by
      unfold fromOf
      split
      · rfl
      · rw [rd_snoc_lt l x f (by omega) hf.2]
    rw [e2]
    exact ha
  · have hi2 : i < l.length := by omega
    have e1 : (src ++ [f]).getD i 0 = src.getD i 0 := by
      rw [List.getD_eq_getElem?_getD, List.getD_eq_getElem?_getD, List.getElem?_append_left (by rw [h.len]; exact hi2)]
    have h1 := h.one i hi2
    rw [e1, rd_snoc_lt l x (i : Int) (by omega) (by omega)]
    refine ⟨h1.1, h1.2.1, h1.2.2.1, h1.2.2.2.1, ?_⟩
    have e2 : fromOf st (l ++ [x]) (src.getD i 0) = fromOf st l (src.getD i 0) := by
      unfold fromOf
      split
      · rfl
      · rw [rd_snoc_lt l x _ (by omega) (by have := h1.2.2.1; omega)]
    rw [e2]
    exact h1.2.2.2.2
theorem copyGo_ok (er : Int) (st : ByteArray) (her : 0 ≤ er) (her2 : er ≤ 900) (hst : letB st) (h1 : 1 ≤ st.size) (h2 : st.size ≤ 100) : ∀ (n : Nat) (l : List S25) (src : List Int) (a b : Int), MadeOk er st l src → l.length + n ≤ 100 →
    ∃ l' src' a' b', copyGo n er st l src a b = some (l', src', a', b') ∧ MadeOk er st l' src' ∧ l'.length = l.length + n := by
  intro n
  induction n with
  | zero => intro l src a b h _; exact ⟨l, src, a, b, rfl, h, rfl⟩
  | succ n ih =>
    intro l src a b h hl
    unfold copyGo
    have e0 : wrap64 ((l.length : Int) - 1) = (l.length : Int) - 1 := by simp [wrap64]; omega
    rw [e0]
    obtain ⟨f, a1, b1, e1, f1, f2⟩ := from_ok a b (-1) ((l.length : Int) - 1) (by omega) (by omega) (by omega) (by omega)
    rw [e1, Option.bind_some]
    have e2 : wrap64 (er + 1) = er + 1 := wrap64_small (by omega) (by omega)
    rw [e2]
    obtain ⟨u, a2, b2, e3, u1, u2⟩ := up_ok a1 b1 (er + 1) (by omega)
    show ∃ l' src' a' b', ((cippuskit_Urn_Up.f a1 b1 (er + 1)).bind _) = _ ∧ _
    rw [e3, Option.bind_some]
    obtain ⟨o, a3, b3, e4, o1⟩ : ∃ o a3 b3, (if f < 0 then some (true, a2, b2) else cippuskit_Urn_Odds.f a2 b2 1 2) = some (o, a3, b3) ∧ (f < 0 → o = true) := by
      by_cases hf : f < 0
      · exact ⟨true, a2, b2, if_pos hf, fun _ => rfl⟩
      · obtain ⟨v, a', b', e⟩ := odds_ok a2 b2 1 2 (by omega)
        exact ⟨v, a', b', (if_neg hf).trans e, fun h => absurd h hf⟩
    show ∃ l' src' a' b', ((if f < 0 then some (true, a2, b2) else cippuskit_Urn_Odds.f a2 b2 1 2).bind _) = _ ∧ _
    rw [e4, Option.bind_some]
    have e5 : (if 0 ≤ f then (if f < (l.length : Int) then some (rd_T25 l f).f0 else none) else some st) = some (fromOf st l f) := by
      unfold fromOf
      by_cases hf : f < 0
      · rw [if_neg (by omega), if_pos hf]
      · rw [if_pos (by omega), if_pos (by omega), if_neg hf]
    show ∃ l' src' a' b', ((if 0 ≤ f then (if f < (l.length : Int) then some (rd_T25 l f).f0 else none) else some st).bind _) = _ ∧ _
    rw [e5, Option.bind_some]
    have hfr : letB (fromOf st l f) ∧ (fromOf st l f).size = st.size := by
      unfold fromOf
      split
      · exact ⟨hst, rfl⟩
      · have h3 := h.one f.toNat (by omega)
        rw [show ((f.toNat : Nat) : Int) = f by omega] at h3
        exact h3.1
    obtain ⟨t, a4, b4, e6, t1, t2, t3⟩ := erred_ok a3 b3 (fromOf st l f) u hfr.1 (by rw [hfr.2]; exact h1) (by rw [hfr.2]; exact h2) u1 (by omega)
    show ∃ l' src' a' b', ((erred a3 b3 (fromOf st l f) u).bind _) = _ ∧ _
    rw [e6, Option.bind_some, if_pos (by rw [h.len]; omega)]
    obtain ⟨l', src', a', b', e7, m1, m2⟩ := ih (l ++ [⟨t, u, o⟩]) (src ++ [f]) a4 b4 (h.snoc ⟨t, u, o⟩ f ⟨t1, by rw [t2]; exact hfr.2⟩ ⟨u1, show u ≤ er by omega⟩ ⟨f1, show f < (l.length : Int) by omega⟩ o1 (by rw [hfr.2] at t3; exact t3)) (by simp; omega)
    refine ⟨l', src', a', b', e7, m1, ?_⟩
    rw [m2]
    simp
    omega
theorem copiesOf_ok (s0 s1 copies places er : Int) (h1 : 1 ≤ copies) (h2 : copies ≤ 90) (h3 : 1 ≤ places) (h4 : places ≤ 90) (h5 : 0 ≤ er) (h6 : er ≤ 900) :
    ∃ l st src a b, copiesOf s0 s1 copies places er = some (l, st, src, a, b) ∧ MadeOk er st l src ∧ (1 ≤ l.length ∧ (l.length : Int) ≤ copies) ∧ (1 ≤ st.size ∧ (st.size : Int) ≤ places) ∧ letB st := by
  unfold copiesOf
  obtain ⟨p, a1, b1, e1, p1, p2⟩ := from_ok s0 s1 1 places (by omega) (by omega) (by omega) (by omega)
  rw [e1, Option.bind_some]
  obtain ⟨st, a2, b2, e2, q1, q2⟩ := stoneGo_ok p.toNat a1 b1 ⟨#[]⟩ (fun p hp => by simp [ByteArray.size] at hp) (by simp [ByteArray.size]; omega)
  show ∃ l st src a b, ((stoneGo p.toNat a1 b1 ⟨#[]⟩).bind _) = _ ∧ _
  rw [e2, Option.bind_some]
  obtain ⟨n, a3, b3, e3, n1, n2⟩ := from_ok a2 b2 1 copies (by omega) (by omega) (by omega) (by omega)
  show ∃ l st src a b, ((cippuskit_Urn_From.f a2 b2 1 copies).bind _) = _ ∧ _
  rw [e3, Option.bind_some]
  have hsz : st.size = p.toNat := by rw [q2]; simp [ByteArray.size]
  obtain ⟨l, src, a4, b4, e4, m1, m2⟩ := copyGo_ok er st h5 h6 q1 (by omega) (by omega) n.toNat [] [] a3 b3 ⟨rfl, fun i hi => by simp at hi⟩ (by simp; omega)
  show ∃ l st src a b, ((copyGo n.toNat er _ [] [] a3 b3).map _) = _ ∧ _
  rw [e4]
  refine ⟨l, st, src, a4, b4, rfl, m1, ⟨?_, ?_⟩, ⟨by omega, by omega⟩, q1⟩
  · rw [m2]; simp; omega
  · rw [m2]; simp; omega
theorem newUrn_ok (l : List Int) (h : l.length < 4611686018427387904) : ∃ a b, newUrn l = some (a, b) := by
  unfold newUrn
  rw [if_pos h]
  have : ∀ (l : List Int) (a b : Int), ∃ r, urnGo l a b = some r := by
    intro l
    induction l with
    | nil => intro a b; exact ⟨_, rfl⟩
    | cons x l ih =>
      intro a b
      unfold urnGo
      obtain ⟨v, a', b', e, _⟩ := turn_ok a (IntKind.u64.wrap (b + IntKind.u64.wrap x))
      rw [e, Option.bind_some]
      obtain ⟨v2, a2, b2, e2, _⟩ := turn_ok a' b'
      show ∃ r, ((cippuskit_Urn_turn.f a' b').bind _) = some r
      rw [e2, Option.bind_some]
      exact ih _ _
  obtain ⟨r, hr⟩ := this l 11400714819323198485 14029467366897019727
  exact ⟨r.1, r.2, hr⟩
end Go.Proofs.YtecdjnabmjhakaaDoor.P.OwnSt
namespace Go.Proofs.YtecdjnabmjhakaaDoor.P.OwnSt
open Go.RowKit Go.Proofs.YtecdjnabmjhakaaDoorW.PrintWords Go.Proofs.YtecdjnabmjhakaaDoorW.PrintLast Go.Proofs.YtecdjnabmjhakaaDoorW.PrintMore
open OwnUrn Go.Proofs.YtecdjnabmjhakaaDoor.OwnTx
set_option linter.unusedVariables false
set_option linter.unusedSimpArgs false
theorem same_l0 (l : List S25) (hl : l.length < 4611686018427387904) : ∀ rem i, i + rem = l.length → Ev (fun k => cippuskit_SameCopies.l0 k l l true (i : Int)) true := by
  intro rem
  induction rem with
  | zero =>
    intro i hi
    refine Ev.step (fun k => by rw [cippuskit_SameCopies.l0]) (Ev.if_pos' rfl (Ev.if_neg' (by omega) (Ev.now _)))
  | succ rem ih =>
    intro i hi
    refine Ev.step (fun k => by rw [cippuskit_SameCopies.l0]) (Ev.if_pos' rfl (Ev.if_pos' (by omega) (Ev.if_pos' (by omega) (Ev.if_pos' (by omega) ?_))))
    rw [wrap64_small (by omega) (by omega)]
    simp only [beq_self_eq_true, Bool.and_true]
    exact ih (i + 1) (by omega)
theorem same_ev (l : List S25) (hl : l.length < 4611686018427387904) : Ev (fun k => cippuskit_SameCopies.f k l l) true := by
  unfold cippuskit_SameCopies.f
  rw [show ((l.length : Int) == (l.length : Int)) = true by simp]
  exact same_l0 l hl l.length 0 (by omega)
theorem read_len (s : ByteArray) : (readV s).1.length < 4611686018427387904 := by
  have go : ∀ (R : List ByteArray) rem i l pl en, l.length ≤ i → i + rem ≤ 1000000 → (goV R rem i l pl en).1.length ≤ 1000000 := by
    intro R rem
    induction rem with
    | zero =>
      intro i l pl en h1 h2
      unfold goV
      split
      · split
        · show l.length ≤ _; omega
        · simp
      · simp
    | succ rem ih =>
      intro i l pl en h1 h2
      unfold goV
      split
      · simp
      · rename_i l' pl' en' hs
        refine ih (i + 1) l' pl' en' ?_ (by omega)
        unfold stepV at hs
        split at hs
        · cases hs
        · split at hs
          · split at hs
            · injection hs with hs; injection hs with ha hb; rw [← ha]; omega
            · cases hs
          · split at hs
            · split at hs
              · injection hs with hs; injection hs with ha hb; rw [← ha]; omega
              · cases hs
            · split at hs
              · injection hs with hs; injection hs with ha hb; rw [← ha]; simp; omega
              · cases hs
  unfold readV
  split
  · simp
  · have := cutB_len 10 s
    have := go (cutB 10 s) ((cutB 10 s).length - 1) 0 [] 0 false (by simp) (by omega)
    omega
end Go.Proofs.YtecdjnabmjhakaaDoor.P.OwnSt
namespace Go.Proofs.YtecdjnabmjhakaaDoor.P.OwnSt
open Go.RowKit Go.Proofs.YtecdjnabmjhakaaDoorW.PrintWords Go.Proofs.YtecdjnabmjhakaaDoorW.PrintLast Go.Proofs.YtecdjnabmjhakaaDoorW.PrintMore
set_option maxRecDepth 100000 in
set_option maxHeartbeats 4000000 in
theorem found_40 : cippuslaw07_found.f 40 = some true := by kernel_rfl
theorem found_ev : Ev (fun k => cippuslaw07_found.f k) true := Ev.of cippuslaw07_found.mono found_40
end Go.Proofs.YtecdjnabmjhakaaDoor.P.OwnSt
namespace Go.Proofs.YtecdjnabmjhakaaDoor.Pure
open Go.RowKit Go.Proofs.YtecdjnabmjhakaaDoor.P Go.Proofs.YtecdjnabmjhakaaDoor.P.OwnSt Go.Proofs.YtecdjnabmjhakaaDoor.P.OwnUrn Go.Proofs.YtecdjnabmjhakaaDoorW.PrintWords Go.Proofs.YtecdjnabmjhakaaDoorW.PrintLast
set_option linter.unusedVariables false
set_option linter.unusedSimpArgs false
theorem wrap_ok (a n : Int) (h0 : 0 ≤ n) (h1 : n ≤ 100000) : ∃ i, cippuskit_Wrap.f a n = some i ∧ 0 ≤ i ∧ (i < n ∨ i = 0) := by
  unfold cippuskit_Wrap.f
  by_cases h : n < 2
  · exact ⟨0, by rw [if_pos h], Int.le_refl _, .inr rfl⟩
  · rw [if_neg h, if_neg (by omega)]
    have b1 : -n < Int.tmod a n := by have := Int.lt_tmod_of_pos a (show 0 < n by omega); omega
    have b2 : Int.tmod a n < n := Int.tmod_lt_of_pos a (by omega)
    rw [wrap64_small (by omega) (by omega)]
    refine ⟨_, rfl, Int.tmod_nonneg _ (by omega), .inl (Int.tmod_lt_of_pos _ (by omega))⟩
theorem marred_ok (s : ByteArray) (hs : s.size ≤ 1000) (a b c : Int) : ∃ t, cippuskit_Marred.f s a b c = some t := by
  unfold cippuskit_Marred.f
  by_cases h0 : s.toList = []
  · rw [if_pos h0]; exact ⟨_, rfl⟩
  · rw [if_neg h0]
    have hpos : 0 < s.size := by
      rw [Lib.toList_data] at h0
      have : s.data.toList.length = s.size := by simp
      rcases e : s.data.toList with _ | ⟨x, y⟩
      · exact absurd e h0
      · rw [e] at this; simp at this; omega
    obtain ⟨i, e1, i0, i1⟩ := wrap_ok a (s.size : Int) (by omega) (by omega)
    obtain ⟨j, e2, _, _⟩ := wrap_ok b 3 (by omega) (by omega)
    have hx : ∀ p q : Nat, (s.extract p q).size ≤ s.size := fun p q => by rw [ByteArray.size_extract]; omega
    have hi : i < s.size := by omega
    rw [e1, Option.bind_some, e2, Option.bind_some]
    have hw : wrap64 (i + 1) = i + 1 := wrap64_small (by omega) (by omega)
    have hn : (strOfNums [c]).size = 1 := by rw [strOfNums_size]; rfl
    rw [hw]
    simp only [Option.bind_some]
    have h1 := hx 0 i.toNat
    have h2 := hx (i + 1).toNat s.size
    have h3 := hx i.toNat s.size
    split
    · repeat (rw [if_pos (by first | omega | (rw [ByteArray.size_append]; omega))])
      exact ⟨_, rfl⟩
    · split
      · repeat (rw [if_pos (by first | omega | (rw [ByteArray.size_append]; omega))])
        exact ⟨_, rfl⟩
      · repeat (rw [if_pos (by first | omega | (rw [ByteArray.size_append]; omega))])
        exact ⟨_, rfl⟩
theorem loopT1_ev (T : List ByteArray) (hT : T.length ≤ 1000) : ∀ rem i, i + rem = T.length → Ev (fun k => cippuslaw07_loopT.l1 k T (i : Int)) true := by
  intro rem
  induction rem with
  | zero =>
    intro i hi
    exact Ev.step (fun k => by rw [cippuslaw07_loopT.l1]) (Ev.if_neg' (by omega) (Ev.now _))
  | succ rem ih =>
    intro i hi
    refine Ev.step (fun k => by rw [cippuslaw07_loopT.l1]) (Ev.if_pos' (by omega) (Ev.if_pos' (by omega) ?_))
    refine Ev.bind (read_ev _) (Ev.bind (rread_ev _) (Ev.if_pos' rfl (Ev.if_pos' rfl (Ev.bind (same_ev _ (read_len _)) (Ev.if_pos' rfl ?_)))))
    rw [wrap64_small (by omega) (by omega)]
    exact ih (i + 1) (by omega)
theorem writeV_size (l : List S25) : (writeV l).1.size ≤ 200 := by
  unfold writeV
  split
  · rename_i h
    have hv := valid_of_check h
    have h5 := hv.five
    have hh := hv.high
    have := rows_size l (fun x hx => by have := (lets_of hv hx).2.2.2; omega)
    show (OwnTx.bA (wrL l)).size ≤ 200
    rw [OwnTx.bA_size]
    unfold wrL
    simp at this ⊢
    omega
  · exact Nat.zero_le _
theorem everyT_some {l0 l1 : List S25} {a2 : ByteArray} {a3 a4 a5 : Int} {r : Bool} (h : cippuslaw07_everyT.f l0 l1 a2 a3 a4 a5 = some r) : l0.length ≤ 20 ∧ l1.length ≤ 20 ∧ r = true := by
  unfold cippuslaw07_everyT.f at h
  split at h
  · rename_i c; exact ⟨c.1, c.2, (Option.some.inj h).symm⟩
  · cases h
theorem loopT_ev (x y : List S25) (a1 : ByteArray) (a3 a4 a5 : Int) : Ev (fun k => cippuslaw07_loopT.l0 k [x, y] a3 a4 a5 [a1] 0) true := by
  have e0 : rd_L6 [x, y] 0 = x := rfl
  have e1 : rd_L6 [x, y] 1 = y := rfl
  refine Ev.step (fun k => by rw [cippuslaw07_loopT.l0]) (Ev.if_pos' (by simp) (Ev.if_pos' (by omega) ?_))
  rw [e0]
  refine Ev.bind (write_ev x) (Ev.bind (rwrite_ev x) (Ev.if_pos' rfl (Ev.if_pos' rfl (Ev.if_pos' (by simp) ?_))))
  rw [show wrap64 (0 + 1) = 1 from wrap64_small (x := 0 + 1) (by decide) (by decide)]
  refine Ev.step (fun k => by rw [cippuslaw07_loopT.l0]) (Ev.if_pos' (by simp) (Ev.if_pos' (by omega) ?_))
  rw [e1]
  refine Ev.bind (write_ev y) (Ev.bind (rwrite_ev y) (Ev.if_pos' rfl (Ev.if_pos' rfl (Ev.if_pos' (by simp) ?_))))
  rw [show wrap64 (1 + 1) = 2 from wrap64_small (x := 1 + 1) (by decide) (by decide)]
  refine Ev.step (fun k => by rw [cippuslaw07_loopT.l0]) (Ev.if_neg' (by simp) (Ev.if_pos' (by simp) ?_))
  obtain ⟨t, ht⟩ := marred_ok (writeV y).1 (by have := writeV_size y; omega) a3 a4 a5
  have e2 : rdOf ByteArray.empty ([a1] ++ [(writeV x).1] ++ [(writeV y).1]) 2 = (writeV y).1 := rfl
  rw [e2, ht]
  simp only [Option.bind_some]
  refine Ev.if_pos' (by simp) ?_
  exact loopT1_ev _ (by simp) 4 0 (by simp)
theorem texts_l0 (l0 : List S25) (a1 : ByteArray) (l2 : List Int) (hlen : l2.length * 8 ≤ 140737488351232) (a3 a4 a5 : Int) : ∀ rem i, i + rem = l0.length → i ≤ 20 → Ev (fun k => cippuslaw07_StemmaTexts.l0 k l0 a1 l2 a3 a4 a5 (i : Int)) true := by
  intro rem
  induction rem with
  | zero =>
    intro i hi h20
    refine Ev.step (fun k => by rw [cippuslaw07_StemmaTexts.l0]) (Ev.if_neg' (by omega) ?_)
    have fnd : ∀ b, Ev (fun k => cippuslaw07_StemmaTexts.j1 k l0 a1 l2 a3 a4 a5 b) true := by
      intro b
      refine Ev.step (fun k => by rw [cippuslaw07_StemmaTexts.j1]) ?_
      cases b
      · refine Ev.if_neg' (by decide) ?_
        obtain ⟨u0, u1, hu⟩ := newUrn_ok l2 (by omega)
        have hu2 : cippuskit_NewUrn.f l2 = some (u0, u1) := hu
        obtain ⟨l, st, src, u2, u3, hc, hm, ⟨hl1, hl2⟩, ⟨hs1, hs2⟩, hb⟩ := copiesOf_ok u0 u1 5 8 3 (by omega) (by omega) (by omega) (by omega) (by omega) (by omega)
        have hc2 : cippuskit_CopiesOf.f u0 u1 5 8 3 = some (l, st, src, u2, u3) := hc
        simp only [hu2, hc2, Option.bind_some]
        have he : cippuslaw07_everyT.f l0 l a1 a3 a4 a5 = some true := by
          unfold cippuslaw07_everyT.f
          rw [if_pos ⟨by omega, by omega⟩]
        rw [he, ]
        simp only [Option.bind_some]
        exact Ev.bind found_ev (Ev.now _)
      · exact Ev.if_pos' rfl (Ev.bind found_ev (Ev.now _))
    by_cases h : (a1.size : Int) > 150
    · exact Ev.if_pos' h (fnd _)
    · exact Ev.if_neg' h (fnd _)
  | succ rem ih =>
    intro i hi h20
    refine Ev.step (fun k => by rw [cippuslaw07_StemmaTexts.l0]) (Ev.if_pos' (by omega) (Ev.if_pos' (by omega) ?_))
    by_cases h : (((rd_T25 l0 (i : Int)).f0).size : Int) > 40
    · exact Ev.if_pos' h (Ev.bind found_ev (Ev.now _))
    · refine Ev.if_neg' h ?_
      by_cases h2 : (i : Int) > 19
      · exact Ev.if_pos' h2 (Ev.bind found_ev (Ev.now _))
      · refine Ev.if_neg' h2 ?_
        rw [wrap64_small (by omega) (by omega)]
        exact ih (i + 1) (by omega) (by omega)
theorem texts_pure (l0 : List S25) (a1 : ByteArray) (a3 a4 a5 : Int) (l2 : List Int) (hlen : l2.length * 8 ≤ 140737488351232) : ∃ k, cippuslaw07_StemmaTexts.f k l0 a1 l2 a3 a4 a5 = some true := by
  apply Ev.rounds
  unfold cippuslaw07_StemmaTexts.f
  exact texts_l0 l0 a1 l2 hlen a3 a4 a5 l0.length 0 (by omega) (by omega)
end Go.Proofs.YtecdjnabmjhakaaDoor.Pure
