/- Lemmas for the statement StemmaTurned of the given program, for every input that its row lets in. Conditions: none beyond those that each lemma tells. -/
import Derived.Lib.Hide
import Derived.Deep.AppendLies
import Derived.WalkKit
import Derived.Deep.RegionHeld3
import Derived.Deep.RegionWith
import Derived.Deep.RegionLaw
import Derived.StillTailTactics
import Derived.Deep.DeepCutAuto
import Derived.WalkSpells
import Derived.BigQuiet
import Derived.Test.YtegjollhajgcdaaMStemmaTurned3
set_option linter.unusedVariables false
set_option linter.unusedSimpArgs false
namespace Go.Proofs.Ytegjollhajgcdaa.P
open Go.RowKit Go.Proofs.YtegjollhajgcdaaW.PrintWords Go.Proofs.YtegjollhajgcdaaW.PrintLast Go.Proofs.YtegjollhajgcdaaW.PrintMore
attribute [local go_sem] max2_int min2_int max_two min_two max_three min_three max_four min_four   -- for this text's walks alone
set_option linter.unusedVariables false
set_option linter.unusedSimpArgs false
def cippuskit_Urn_Row.l0 : Nat → Int → List Int → Int → Int → Int → Option (List Int × Int × Int)
  | 0, _, _, _, _, _ => none
  | k + 1, x1, x5, x6, x1000, x1001 => if x6 < x1 then (if x5.length < 17592186044416 then ((some (x5 ++ [x6] : List Int)).bind fun y477 => ((cippuskit_Urn_Up.f x1000 x1001 (wrap64 (x6 + 1))).bind fun bt480 => (if 0 ≤ bt480.1 then (if bt480.1 < (y477.length : Int) then (if 0 ≤ x6 then (if x6 < (y477.length : Int) then (cippuskit_Urn_Row.l0 k x1 ((y477.set (x6 : Int).toNat (rd y477 bt480.1)).set (bt480.1 : Int).toNat (rd y477 x6)) (wrap64 (x6 + 1)) bt480.2.1 bt480.2.2) else (none)) else (none)) else (none)) else (none)))) else (none)) else (some (x5, x1000, x1001))
def cippuskit_Urn_Row.f (k : Nat) (s0_0 : Int) (s0_1 : Int) (a1 : Int) : Option (List Int × Int × Int) := cippuskit_Urn_Row.l0 k a1 ([] : List Int) 0 s0_0 s0_1
theorem cippuskit_Urn_Row.mono_l : ∀ k, (∀ y0 y1 y2 y3 y4, LeO (cippuskit_Urn_Row.l0 k y0 y1 y2 y3 y4) (cippuskit_Urn_Row.l0 (k + 1) y0 y1 y2 y3 y4))
  | 0 => fun _ _ _ _ _ r h => by simp [cippuskit_Urn_Row.l0] at h
  | k + 1 => by
    have ih0 := cippuskit_Urn_Row.mono_l k
    · intro y0 y1 y2 y3 y4
      unfold cippuskit_Urn_Row.l0
      repeat' first
      | (with_reducible exact ih0 _ _ _ _ _)
      | (with_reducible exact LeO.refl _)
      | (with_reducible exact LeO.none _)
      | (with_reducible refine LeO.ite ?_ ?_)
      | (with_reducible refine LeO.bind ?_ (fun _ => ?_))
      | exact ih0 _ _ _ _ _
      | exact LeO.none _
      | refine LeO.ite ?_ ?_
      | refine LeO.bind ?_ (fun _ => ?_)
theorem cippuskit_Urn_Row.mono : ∀ a0 a1 a2 k, LeO (cippuskit_Urn_Row.f k a0 a1 a2) (cippuskit_Urn_Row.f (k + 1) a0 a1 a2) := by
  intro a0 a1 a2 k
  have ih0 := cippuskit_Urn_Row.mono_l k
  unfold cippuskit_Urn_Row.f
  repeat' first
      | (with_reducible exact ih0 _ _ _ _ _)
      | (with_reducible exact LeO.refl _)
      | (with_reducible exact LeO.none _)
      | (with_reducible refine LeO.ite ?_ ?_)
      | (with_reducible refine LeO.bind ?_ (fun _ => ?_))
      | exact ih0 _ _ _ _ _
      | exact LeO.none _
      | refine LeO.ite ?_ ?_
      | refine LeO.bind ?_ (fun _ => ?_)
def cippuskit_Urn_Row.T7 : Bool × List (List Nat × List Nat) := (true, [([], []), ([], []), ([], []), ([], []), ([], []), ([], []), ([4, 5], [4, 5]), ([6], [6]), ([], []), ([], []), ([8, 9], [8, 9]), ([10], [10]), ([0, 1, 0, 1, 4, 5, 6, 7, 11], [0, 1]), ([12, 7, 0, 1, 4, 5, 6, 7, 11], [7, 12]), ([2, 3, 0, 1, 2, 3, 4, 5, 6, 7, 8, 9, 10, 11, 12, 13], [2, 3]), ([14, 11, 13, 0, 1, 2, 3, 4, 5, 6, 7, 8, 9, 10, 11, 12, 13], [11, 14])])
def cippuskit_Urn_Row.B7 : List Nat := [0, 0, 0, 0, 0, 0, 48, 112, 0, 0, 768, 1792, 4083, 8179, 16383, 32767]
theorem cippuskit_Urn_Row.tab7 : rtab .any (opsOf Try.f34 7) = cippuskit_Urn_Row.T7 := by kernel_rfl
theorem cippuskit_Urn_Row.bits7 : waitsOk cippuskit_Urn_Row.T7.2 cippuskit_Urn_Row.B7 = true := by kernel_rfl
set_option maxHeartbeats 8000000 in
set_option maxRecDepth 100000 in
theorem cippuskit_Urn_Row.calls (k : Nat) (g : Nat) (s0_0 : Int) (s0_1 : Int) (a1 : Int) (r1 : List Int) (r2 : Int) (r3 : Int) (w0 w : World) (hI : IsS72 w0 w g s0_0 s0_1) (hB : Below w0.heap.size w0 w) (h : cippuskit_Urn_Row.f k s0_0 s0_1 a1 = some (r1, r2, r3)) :
    Calls Try.prog 34 #[.pointer (some ⟨g, 0, none⟩), .int .i64 a1] w fun e w' => ∃ v0_ : Value, e = .returned (v0_) ∧ Kd.R (Kd.int .i64) 3 w' w.heap.size (fun _ => True) v0_ r1 ∧ IsS72 w0 w' g r2 r3 ∧ Below w0.heap.size w0 w' ∧ KeepBut w w' g none := by
  have HI0 := Aside0.mk hI
  have HK := Aside0.mk (KeepBut.refl w g none)
  have HL := Aside0.mk hB.size
  clear hI
  have HW0 := Aside0.mk hB.size
  have HB := Aside0.mk hB
  clear hB
  have H : (cippuskit_Urn_Row.l0 k a1 ([] : List Int) 0 s0_0 s0_1) = some (r1, r2, r3) := h
  clear h
  have H' := Aside0.mk H
  clear H
  go_enter Try.func34, Try.ntmps34
  go_wp2
  go_loopg [5, 6] k (fun kq v5 v6 w' => ∃ (x5_1 : List Int) (x6_1 : Int) (x1000_1 : Int) (x1001_1 : Int), v6 = .int .i64 x6_1 ∧ Aside0 (cippuskit_Urn_Row.l0 kq a1 x5_1 x6_1 x1000_1 x1001_1 = some (r1, r2, r3)) ∧ Aside0 (kq ≤ k) ∧ Aside0 (Kd.R (Kd.int .i64) 3 w' w.heap.size (fun _ => True) v5 x5_1) ∧ Aside0 (IsS72 w0 w' g x1000_1 x1001_1) ∧ Aside0 (KeepBut w w' g none) ∧ Aside0 (Below w0.heap.size w0 w'))
  case atStart => exact ⟨(([] : List Int)), (0), (s0_0), (s0_1), (by first | rfl | (simp; done) | (simp [*]; done)), H', ⟨Nat.le_refl _⟩, ⟨by first | exact Kd.R_nil _ _ _ _ _ | exact Kd.N_nil _ _ _ _ _ | exact Kd.V_nil _ _ _ _ _ | exact Kd.Q_nil _ _ _ _ _ | exact Kd.S_nil _ _ _ _ _⟩, ⟨by repeat (first | (with_reducible first | exact HI0.out | apply IsS72.alloc | apply IsS72.drewN | apply IsS72.drew | apply IsS72.set_0 | apply IsS72.set_1) | exact HI0.out)⟩, ⟨by repeat (first | (with_reducible first | exact HK.out | apply KeepBut.set_ | apply keep_drewN | apply keep_drew | apply keep_alloc) | exact HK.out)⟩, ⟨by repeat (first | (with_reducible first | exact HB.out | apply below_alloc | apply pw_below_drewN | apply below_drew1 | refine below_set ?_ (IsS72.ge HI0.out)) | exact HB.out)⟩⟩
  case round =>
    clear H'
    try clear p2
    obtain ⟨x5_1, x6_1, x1000_1, x1001_1, rfl, HA, HK1, HO_5, HI0, HK, HB⟩ := hrel
    cases gk with
    | zero => exact absurd HA.out (by simp [cippuskit_Urn_Row.l0])
    | succ k1 =>
      have H := HA.out
      clear HA
      simp only [cippuskit_Urn_Row.l0] at H
      by_cases c3 : x6_1 < a1
      · rw [if_pos c3] at H
        have c3b0 : decide (x6_1 < a1) = true := decide_eq_true c3
        clear c3
        by_cases c4 : x5_1.length < 17592186044416
        · rw [if_pos c4] at H
          have LMc4 := Aside0.mk c4
          clear c4
          obtain ⟨y477, hy477⟩ : ∃ y_ : List Int, y_ = (x5_1 ++ [x6_1]) := ⟨_, rfl⟩
          replace H : ((cippuskit_Urn_Up.f x1000_1 x1001_1 (wrap64 (x6_1 + 1))).bind fun bt480 => (if 0 ≤ bt480.1 then (if bt480.1 < (y477.length : Int) then (if 0 ≤ x6_1 then (if x6_1 < (y477.length : Int) then (cippuskit_Urn_Row.l0 k1 a1 ((y477.set (x6_1 : Int).toNat (rd y477 bt480.1)).set (bt480.1 : Int).toNat (rd y477 x6_1)) (wrap64 (x6_1 + 1)) bt480.2.1 bt480.2.2) else (none)) else (none)) else (none)) else (none))) = some (r1, r2, r3) := by first | (rw [hy477]; with_reducible exact H) | (have H2_ := (Option.bind_some _ _).symm.trans H; rw [hy477]; with_reducible exact H2_) | (have H2_ := (Option.bind_some _ _).symm.trans H; with_reducible exact H2_) | with_reducible exact H | (rw [hy477]; exact H) | exact H
          have Ny477 := Aside0.mk hy477
          clear hy477
          replace H := Option.bind_eq_some_iff.mp H
          obtain ⟨⟨t480, t481, t482⟩, A50, H⟩ := H
          replace H : (if 0 ≤ t480 then (if t480 < (y477.length : Int) then (if 0 ≤ x6_1 then (if x6_1 < (y477.length : Int) then (cippuskit_Urn_Row.l0 k1 a1 ((y477.set (x6_1 : Int).toNat (rd y477 t480)).set (t480 : Int).toNat (rd y477 x6_1)) (wrap64 (x6_1 + 1)) t481 t482) else (none)) else (none)) else (none)) else (none)) = some (r1, r2, r3) := H
          have A5 := Aside0.mk A50
          clear A50
          by_cases c6 : 0 ≤ t480
          · rw [if_pos c6] at H
            have c6b0 : decide (0 ≤ t480) = true := decide_eq_true c6
            clear c6
            by_cases c7 : t480 < (y477.length : Int)
            · rw [if_pos c7] at H
              have c7b0 : decide (t480 < (y477.length : Int)) = true := decide_eq_true c7
              clear c7
              by_cases c8 : 0 ≤ x6_1
              · rw [if_pos c8] at H
                have c8b0 : decide (0 ≤ x6_1) = true := decide_eq_true c8
                clear c8
                by_cases c9 : x6_1 < (y477.length : Int)
                · rw [if_pos c9] at H
                  have c9b0 : decide (x6_1 < (y477.length : Int)) = true := decide_eq_true c9
                  clear c9
                  obtain ⟨y485, hy485⟩ : ∃ y_ : List Int, y_ = (y477.set (x6_1 : Int).toNat (rd y477 t480)) := ⟨_, rfl⟩
                  replace H : (cippuskit_Urn_Row.l0 k1 a1 (y485.set (t480 : Int).toNat (rd y477 x6_1)) (wrap64 (x6_1 + 1)) t481 t482) = some (r1, r2, r3) := by first | (rw [hy485]; with_reducible exact H) | (have H2_ := (Option.bind_some _ _).symm.trans H; rw [hy485]; with_reducible exact H2_) | (have H2_ := (Option.bind_some _ _).symm.trans H; with_reducible exact H2_) | with_reducible exact H | (rw [hy485]; exact H) | exact H
                  have Ny485 := Aside0.mk hy485
                  clear hy485
                  obtain ⟨y486, hy486⟩ : ∃ y_ : List Int, y_ = (y485.set (t480 : Int).toNat (rd y477 x6_1)) := ⟨_, rfl⟩
                  replace H : (cippuskit_Urn_Row.l0 k1 a1 y486 (wrap64 (x6_1 + 1)) t481 t482) = some (r1, r2, r3) := by first | (rw [hy486]; with_reducible exact H) | (have H2_ := (Option.bind_some _ _).symm.trans H; rw [hy486]; with_reducible exact H2_) | (have H2_ := (Option.bind_some _ _).symm.trans H; with_reducible exact H2_) | with_reducible exact H | (rw [hy486]; exact H) | exact H
                  have Ny486 := Aside0.mk hy486
                  clear hy486
                  have H' := Aside0.mk H
                  clear H
                  try go_wp2_with (first | ((with_reducible refine gate_builtin (b := .append) (xs := #[.tmp 13, .tmp 15]) rfl ?_); at_builtin; refine Kd.R_append (Kd.int .i64) w.heap.size rfl (.tmp 13) (.tmp 15) 25 3 (.int .i64 0) 8 rfl Try.underlying25 info3 rfl (by decide) (by omega) u5 x5_1 x6_1 [.int .i64 x6_1] (fun _ => True) (fun _ => False) rfl rfl ?aP (fun _ hk => hk.elim) ?aF ?aO (Below.refl _ _) ?aS ?aL ?_; (case aP => exact rfl); (case aF => exact (fun _ _ => trivial)); (case aO => exact (by (with_reducible repeat (first | apply Kd.R_alloc | apply Kd.R_drewN | apply Kd.R_drew)); exact HO_5.out)); (case aS => exact (keep_size (w := w) (g := g) (row := none) (by repeat (first | (with_reducible first | exact HK.out | apply KeepBut.set_ | apply keep_drewN | apply keep_drew | apply keep_alloc) | exact HK.out)))); (case aL => have := LMc4.out; omega); intro v478 w12 ho hb hg hat; rw [← Ny477.out] at ho; have n0_ := Aside0.mk (IsS72.grown (by repeat (first | (with_reducible first | exact HI0.out | apply IsS72.alloc | apply IsS72.drewN | apply IsS72.drew | apply IsS72.set_0 | apply IsS72.set_1) | exact HI0.out)) hg (IsS72.own_ne HI0.out HO_5.out (by decide))); have n1_ := Aside0.mk (below_weaken (by repeat (first | (with_reducible first | exact HB.out | apply below_alloc | apply pw_below_drewN | apply below_drew1 | refine below_set ?_ (IsS72.ge HI0.out)) | exact HB.out)) HL.out hb); have n2_ := Aside0.mk (KeepBut.trans (by repeat (first | (with_reducible first | exact HK.out | apply KeepBut.set_ | apply keep_drewN | apply keep_drew | apply keep_alloc) | exact HK.out)) (KeepBut.of_grown hg g) (Kd.R_base2 HO_5.out)); have n3_ := Aside0.mk (ho); clear HI0; clear HB; clear HK; clear HO_5; have HI0 := n0_; have HB := n1_; have HK := n2_; have HO479 := n3_; clear n0_ n1_ n2_ n3_; clear ho hb hg hat) | ((with_reducible refine gate_callee (f := 28) rfl ?_); refine goesL_ (some 20) rfl rfl Try.func28 (by kernel_rfl) rfl #[.pointer (some ⟨g, 0, none⟩), .int .i64 (wrap64 (x6_1 + 1))] rfl (by (try simp only [List.map_toArray, List.map_cons, List.map_nil]); first | done | rfl | (simp only [List.length_drop, List.length_take]; rfl)) ?_; (with_reducible refine (cippuskit_Urn_Up.calls g x1000_1 x1001_1 (wrap64 (x6_1 + 1)) t480 t481 t482 w0 _ ?side1 ?side2 A5.out).mono ?_); (case side1 => repeat (first | (with_reducible first | exact HI0.out | apply IsS72.alloc | apply IsS72.drewN | apply IsS72.drew | apply IsS72.set_0 | apply IsS72.set_1) | exact HI0.out)); (case side2 => repeat (first | (with_reducible first | exact HB.out | apply below_alloc | apply pw_below_drewN | apply below_drew1 | refine below_set ?_ (IsS72.ge HI0.out)) | exact HB.out)); rintro e w13 ⟨rfl, hi, hb, hk⟩; refine ⟨_, rfl, ?_⟩; have n0_ := Aside0.mk (Kd.R_mono (Kd.R_keep (IsS72.apart (show IsS72 w0 _ g x1000_1 x1001_1 from by repeat (first | (with_reducible first | exact HI0.out | apply IsS72.alloc | apply IsS72.drewN | apply IsS72.drew | apply IsS72.set_0 | apply IsS72.set_1) | exact HI0.out)) (by (with_reducible repeat (first | apply Kd.R_alloc | apply Kd.R_drewN | apply Kd.R_drew)); exact HO479.out) (by decide)) hk (fun _ h => h.2)) (fun _ h => h.1)); have n1_ := Aside0.mk (KeepBut.trans (by repeat (first | (with_reducible first | exact HK.out | apply KeepBut.set_ | apply keep_drewN | apply keep_drew | apply keep_alloc) | exact HK.out)) hk (.inl rfl)); have n2_ := Aside0.mk (hb); have n3_ := Aside0.mk (hi); clear HO479; clear HK; clear HB; clear HI0; have HO479 := n0_; have HK := n1_; have HB := n2_; have HI0 := n3_; clear n0_ n1_ n2_ n3_; (try clear hb); (try clear hb2); (try clear hk); (try clear hi)))
                  have n0_ := Aside0.mk (Kd.R_drew HO479.out)
                  have n1_ := Aside0.mk (IsS72.drew HI0.out)
                  have n2_ := Aside0.mk (keep_drew HK.out)
                  have n3_ := Aside0.mk (below_drew1 HB.out)
                  clear HO479
                  clear HI0
                  clear HK
                  clear HB
                  have HO479 := n0_
                  have HI0 := n1_
                  have HK := n2_
                  have HB := n3_
                  clear n0_ n1_ n2_ n3_
                  obtain ⟨Ao15, co15, eo15⟩ := Kd.R_slice HO479.out
                  (first | subst eo15 | (injection eo15 with f1_ f2_ f3_; have f4_ := f1_.symm; have f5_ := f3_.symm; clear f1_ f2_ f3_; subst f4_; subst f5_))
                  have p483 : 0 ≤ (t480 : Int) := of_decide_eq_true (by first | (with_reducible assumption) | assumption)
                  have q483 : t480 < (y477.length : Int) := of_decide_eq_true (by first | (with_reducible assumption) | assumption)
                  obtain ⟨ad483, e483, hx483_0⟩ := Kd.at_int (Kd.R_reads' HO479.out).2.2 t480 p483 q483
                  cases e483
                  replace p483 := eq_true p483
                  replace q483 := eq_true q483
                  have p484 : 0 ≤ (x6_1 : Int) := of_decide_eq_true (by first | (with_reducible assumption) | assumption)
                  have q484 : x6_1 < (y477.length : Int) := of_decide_eq_true (by first | (with_reducible assumption) | assumption)
                  obtain ⟨ad484, e484, hx484_0⟩ := Kd.at_int (Kd.R_reads' HO479.out).2.2 x6_1 p484 q484
                  obtain rfl : ad483 = ad484 := (by injection e484)
                  replace p484 := eq_true p484
                  replace q484 := eq_true q484
                  have p10 : 0 ≤ (x6_1 : Int) := of_decide_eq_true (by first | (with_reducible assumption) | assumption)
                  have q10 : (x6_1 : Int) < ((y477.length : Int) : Int) := of_decide_eq_true (by first | (with_reducible assumption) | assumption)
                  obtain ⟨go10, co10, eo10, gb10, gl10, cl10, HG10⟩ := Kd.R_form HO479.out (by omega)
                  (first | cases eo10 | (injection eo10 with ea_ en_ ec_; (first | subst ea_ | (injection ea_ with ea_; subst ea_)); subst ec_; clear en_))
                  have GB10 := Aside0.mk gb10
                  have GG10 := Aside0.mk HG10
                  clear gb10 gl10 HG10
                  (first | simp only [add_plain] at hx483_0 | skip)
                  (first | simp only [add_plain] at hx484_0 | skip)
                  obtain ⟨hx10_0, hf10_0⟩ := Kd.R_celln 0 HO479.out (x6_1 : Int) p10 q10
                  replace p10 := eq_true p10
                  replace q10 := eq_true q10
                  have HN0_go10 := Aside0.mk (show g ≠ go10 from by have h_ := IsS72.own_ne HI0.out HO479.out (by decide); intro e_; exact h_ (by rw [e_]; rfl))
                  have HP16 := Kd.R_putn HO479.out (x6_1 : Int) (rd y477 t480)
                  rw [← Ny485.out] at HP16
                  have HQ16 := Aside0.mk HP16
                  clear HP16
                  have p11 : 0 ≤ (t480 : Int) := of_decide_eq_true (by first | (with_reducible assumption) | assumption)
                  have q11 : (t480 : Int) < ((y477.length : Int) : Int) := of_decide_eq_true (by first | (with_reducible assumption) | assumption)
                  obtain ⟨hx11_0, hf11_0⟩ := Kd.R_celln 0 HQ16.out (t480 : Int) p11 q11
                  replace p11 := eq_true p11
                  replace q11 := eq_true q11
                  have HN0_go10 := Aside0.mk (show g ≠ go10 from by have h_ := IsS72.own_ne HI0.out HO479.out (by decide); intro e_; exact h_ (by rw [e_]; rfl))
                  have HP17 := Kd.R_putn HQ16.out (t480 : Int) (rd y477 x6_1)
                  rw [← Ny486.out] at HP17
                  have HQ17 := Aside0.mk HP17
                  clear HP17
                  refine start_ (n := 16) (S := fun w' => w'.cell? ⟨go10, (t480).toNat, none⟩ = some (.int .i64 (rd y477 t480)) ∧ w'.cell? ⟨go10, (x6_1).toNat, none⟩ = some (.int .i64 (rd y477 x6_1))) (ds := [13, 15]) #[false, false, false, false, false, false, false, false, false, false, false, false, false, false, false, false] (by kernel_rfl) rfl rfl ⟨hx483_0, hx484_0⟩ (fun hHeld => ?_); refine with_tabW cippuskit_Urn_Row.tab7 cippuskit_Urn_Row.bits7 (fun HT_ HW_ => ?_)
                  generalize w13.drew = w14 at HO479 HI0 HK HB GG10 HQ16 HQ17 hf10_0 hf11_0 hx10_0 hx11_0 hx483_0 hx484_0 hHeld ⊢
                  refine pure_ (i := 0) (N := some 21) (v := ?_) (a' := ?_) #[true, false, false, false, false, false, false, false, false, false, false, false, false, false, false, false] rfl rfl (any_of HT_.out (by kernel_rfl)) (fun _ _ _ h => h) (Or.inl ⟨by rfl, ?_⟩) ?_ ?_
                  rotate_left
                  · intro w'
                    go_simp
                    with_reducible rfl
                  rotate_left
                  · simp only [Act.put, List.setIfInBounds_toArray, List.set_cons_zero, List.set_cons_succ, i64_w, i32_w]
                    rfl
                  refine pure_ (i := 1) (N := some 22) (v := ?_) (a' := ?_) #[true, true, false, false, false, false, false, false, false, false, false, false, false, false, false, false] rfl rfl (any_of HT_.out (by kernel_rfl)) (fun _ _ _ h => h) (Or.inl ⟨by rfl, ?_⟩) ?_ ?_
                  rotate_left
                  · intro w'
                    go_simp
                    with_reducible rfl
                  rotate_left
                  · simp only [Act.put, List.setIfInBounds_toArray, List.set_cons_zero, List.set_cons_succ, i64_w, i32_w]
                    rfl
                  refine pure_ (i := 2) (N := some 23) (v := ?_) (a' := ?_) #[true, true, true, false, false, false, false, false, false, false, false, false, false, false, false, false] rfl rfl (any_of HT_.out (by kernel_rfl)) (fun _ _ _ h => h) (Or.inl ⟨by rfl, ?_⟩) ?_ ?_
                  rotate_left
                  · intro w'
                    go_simp
                    with_reducible rfl
                  rotate_left
                  · simp only [Act.put, List.setIfInBounds_toArray, List.set_cons_zero, List.set_cons_succ, i64_w, i32_w]
                    rfl
                  refine pure_ (i := 3) (N := some 24) (v := ?_) (a' := ?_) #[true, true, true, true, false, false, false, false, false, false, false, false, false, false, false, false] rfl rfl (any_of HT_.out (by kernel_rfl)) (fun _ _ _ h => h) (Or.inl ⟨by rfl, ?_⟩) ?_ ?_
                  rotate_left
                  · intro w'
                    go_simp
                    with_reducible rfl
                  rotate_left
                  · simp only [Act.put, List.setIfInBounds_toArray, List.set_cons_zero, List.set_cons_succ, i64_w, i32_w]
                    rfl
                  refine pure_ (i := 4) (N := some 25) (v := ?_) (a' := ?_) #[true, true, true, true, true, false, false, false, false, false, false, false, false, false, false, false] rfl rfl (any_of HT_.out (by kernel_rfl)) (fun _ _ _ h => h) (Or.inl ⟨by rfl, ?_⟩) ?_ ?_
                  rotate_left
                  · intro w'
                    go_simp
                    with_reducible rfl
                  rotate_left
                  · simp only [Act.put, List.setIfInBounds_toArray, List.set_cons_zero, List.set_cons_succ, i64_w, i32_w]
                    rfl
                  refine pure_ (i := 5) (N := some 26) (v := ?_) (a' := ?_) #[true, true, true, true, true, true, false, false, false, false, false, false, false, false, false, false] rfl rfl (any_of HT_.out (by kernel_rfl)) (fun _ _ _ h => h) (Or.inl ⟨by rfl, ?_⟩) ?_ ?_
                  rotate_left
                  · intro w'
                    go_simp
                    with_reducible rfl
                  rotate_left
                  · simp only [Act.put, List.setIfInBounds_toArray, List.set_cons_zero, List.set_cons_succ, i64_w, i32_w]
                    rfl
                  refine pure_ (i := 6) (N := some 27) (v := ?_) (a' := ?_) #[true, true, true, true, true, true, true, false, false, false, false, false, false, false, false, false] rfl rfl (any_of HT_.out (by kernel_rfl)) (fun _ _ _ h => h) (Or.inl ⟨by rfl, ?_⟩) ?_ ?_
                  rotate_left
                  · intro w'
                    go_simp
                    with_reducible rfl
                  rotate_left
                  · simp only [Act.put, List.setIfInBounds_toArray, List.set_cons_zero, List.set_cons_succ, i64_w, i32_w]
                    rfl
                  refine pure_ (i := 8) (N := some 29) (v := ?_) (a' := ?_) #[true, true, true, true, true, true, true, false, true, false, false, false, false, false, false, false] rfl rfl (any_of HT_.out (by kernel_rfl)) (fun _ _ _ h => h) (Or.inl ⟨by rfl, ?_⟩) ?_ ?_
                  rotate_left
                  · intro w'
                    go_simp
                    with_reducible rfl
                  rotate_left
                  · simp only [Act.put, List.setIfInBounds_toArray, List.set_cons_zero, List.set_cons_succ, i64_w, i32_w]
                    rfl
                  refine pure_ (i := 9) (N := some 30) (v := ?_) (a' := ?_) #[true, true, true, true, true, true, true, false, true, true, false, false, false, false, false, false] rfl rfl (any_of HT_.out (by kernel_rfl)) (fun _ _ _ h => h) (Or.inl ⟨by rfl, ?_⟩) ?_ ?_
                  rotate_left
                  · intro w'
                    go_simp
                    with_reducible rfl
                  rotate_left
                  · simp only [Act.put, List.setIfInBounds_toArray, List.set_cons_zero, List.set_cons_succ, i64_w, i32_w]
                    rfl
                  refine pure_ (i := 10) (N := some 31) (v := ?_) (a' := ?_) #[true, true, true, true, true, true, true, false, true, true, true, false, false, false, false, false] rfl rfl (any_of HT_.out (by kernel_rfl)) (fun _ _ _ h => h) (Or.inl ⟨by rfl, ?_⟩) ?_ ?_
                  rotate_left
                  · intro w'
                    go_simp
                    with_reducible rfl
                  rotate_left
                  · simp only [Act.put, List.setIfInBounds_toArray, List.set_cons_zero, List.set_cons_succ, i64_w, i32_w]
                    rfl
                  refine take_ (i := 7) (N := some 28) (v := ?_) (a' := ?_) #[true, true, true, true, true, true, true, true, true, true, true, false, false, false, false, false] rfl rfl (take_ofW HT_.out HW_.out (by kernel_rfl)) (fun _ _ _ h => h) (Or.inl ⟨by rfl, ?_⟩) hHeld ?_ ?_
                  rotate_left
                  · rintro w' ⟨s0, s1⟩
                    go_simp
                    with_reducible rfl
                  rotate_left
                  · simp only [Act.put, List.setIfInBounds_toArray, List.set_cons_zero, List.set_cons_succ, i64_w, i32_w]
                    rfl
                  refine take_ (i := 11) (N := some 32) (v := ?_) (a' := ?_) #[true, true, true, true, true, true, true, true, true, true, true, true, false, false, false, false] rfl rfl (take_ofW HT_.out HW_.out (by kernel_rfl)) (fun _ _ _ h => h) (Or.inl ⟨by rfl, ?_⟩) hHeld ?_ ?_
                  rotate_left
                  · rintro w' ⟨s0, s1⟩
                    go_simp
                    with_reducible rfl
                  rotate_left
                  · simp only [Act.put, List.setIfInBounds_toArray, List.set_cons_zero, List.set_cons_succ, i64_w, i32_w]
                    rfl
                  refine pure_ (i := 12) (N := some 33) (v := ?_) (a' := ?_) #[true, true, true, true, true, true, true, true, true, true, true, true, true, false, false, false] rfl rfl (any_of HT_.out (by kernel_rfl)) (fun _ _ _ h => h) (Or.inl ⟨by rfl, ?_⟩) ?_ ?_
                  rotate_left
                  · intro w'
                    go_simp
                    with_reducible rfl
                  rotate_left
                  · simp only [Act.put, List.setIfInBounds_toArray, List.set_cons_zero, List.set_cons_succ, i64_w, i32_w]
                    rfl
                  refine last_ (i := 13) (N := none) #[true, true, true, true, true, true, true, true, true, true, true, true, true, true, false, false] rfl rfl (one_of HT_.out (by kernel_rfl)) (by decide) (fun K hK => ?_)
                  refine skip_ (w1 := ?_) (by rfl) rfl ?_ ?_
                  rotate_left
                  · go_simp
                    rfl
                  refine hK.out _ _ ?_
                  clear hK K
                  refine pure_ (i := 14) (N := some 34) (v := ?_) (a' := ?_) #[true, true, true, true, true, true, true, true, true, true, true, true, true, true, true, false] rfl rfl (any_of HT_.out (by kernel_rfl)) (fun _ _ _ h => h) (Or.inl ⟨by rfl, ?_⟩) ?_ ?_
                  rotate_left
                  · intro w'
                    go_simp
                    with_reducible rfl
                  rotate_left
                  · simp only [Act.put, List.setIfInBounds_toArray, List.set_cons_zero, List.set_cons_succ, i64_w, i32_w]
                    rfl
                  refine last_ (i := 15) (N := none) #[true, true, true, true, true, true, true, true, true, true, true, true, true, true, true, true] rfl rfl (one_of HT_.out (by kernel_rfl)) (by decide) (fun K hK => ?_)
                  refine skip_ (w1 := ?_) (by rfl) rfl ?_ ?_
                  rotate_left
                  · go_simp
                    rfl
                  refine hK.out _ _ ?_
                  clear hK K
                  refine done_ (done_of HT_.out (by kernel_rfl)) ?_
                  try go_wp2
                  go_roundg k1
                  case measure => have := HK1.out; omega
                  case rel => exact ⟨(y486), (wrap64 (x6_1 + 1)), (t481), (t482), (by first | rfl | (simp; done) | (simp [*]; done)), H', ⟨by have := HK1.out; omega⟩, ⟨by (with_reducible repeat (first | apply Kd.R_alloc | apply Kd.R_drewN | apply Kd.R_drew)); exact HQ17.out⟩, ⟨by repeat (first | (with_reducible first | exact HI0.out | apply IsS72.alloc | apply IsS72.drewN | apply IsS72.drew | apply IsS72.set_0 | apply IsS72.set_1 | refine IsS72.far ?_ HN0_go10.out _ | refine IsS72.far ?_ HN0_go10.out _) | exact HI0.out)⟩, ⟨by repeat (first | (with_reducible first | exact HK.out | apply KeepBut.set_ | apply keep_drewN | apply keep_drew | apply keep_alloc | refine keep_far ?_ GB10.out _ | refine keep_far ?_ GB10.out _) | exact HK.out)⟩, ⟨by repeat (first | (with_reducible first | exact HB.out | apply below_alloc | apply pw_below_drewN | apply below_drew1 | refine below_set ?_ (Nat.le_trans HL.out GB10.out) | refine below_set ?_ (Nat.le_trans HL.out GB10.out) | refine below_set ?_ (IsS72.ge HI0.out)) | exact HB.out)⟩⟩
                · rw [if_neg c9] at H
                  exact absurd H (by simp)
              · rw [if_neg c8] at H
                exact absurd H (by simp)
            · rw [if_neg c7] at H
              exact absurd H (by simp)
          · rw [if_neg c6] at H
            exact absurd H (by simp)
        · rw [if_neg c4] at H
          exact absurd H (by simp)
      · rw [if_neg c3] at H
        have c3b0 : decide (x6_1 < a1) = false := decide_eq_false c3
        clear c3
        simp only [Option.some.injEq, Prod.mk.injEq] at H
        obtain ⟨rfl, rfl, rfl⟩ := H
        go_wp2
        go_ret
        exact ⟨_, by first | rfl | (simp [errW_none, errW_some] <;> rfl) | (simp [*, errW_none, errW_some] <;> rfl), by (with_reducible repeat (first | apply Kd.R_alloc | apply Kd.R_drewN | apply Kd.R_drew)); exact HO_5.out, by repeat (first | (with_reducible first | exact HI0.out | apply IsS72.alloc | apply IsS72.drewN | apply IsS72.drew | apply IsS72.set_0 | apply IsS72.set_1) | exact HI0.out), by repeat (first | (with_reducible first | exact HB.out | apply below_alloc | apply pw_below_drewN | apply below_drew1 | refine below_set ?_ (IsS72.ge HI0.out)) | exact HB.out), by repeat (first | (with_reducible first | exact HK.out | apply KeepBut.set_ | apply keep_drewN | apply keep_drew | apply keep_alloc) | exact HK.out)⟩
end Go.Proofs.Ytegjollhajgcdaa.P
namespace Go.Proofs.Ytegjollhajgcdaa.P
open Go.RowKit Go.Proofs.YtegjollhajgcdaaW.PrintWords Go.Proofs.YtegjollhajgcdaaW.PrintLast Go.Proofs.YtegjollhajgcdaaW.PrintMore
attribute [local go_sem] max2_int min2_int max_two min_two max_three min_three max_four min_four   -- for this text's walks alone
set_option linter.unusedVariables false
set_option linter.unusedSimpArgs false
def cippuskit_Urn_Odds.f (s0_0 : Int) (s0_1 : Int) (a1 : Int) (a2 : Int) : Option (Bool × Int × Int) := (cippuskit_Urn_Up.f s0_0 s0_1 a2).bind fun bt104 => (some (decide (bt104.1 < a1), bt104.2.1, bt104.2.2))
set_option maxHeartbeats 8000000 in
set_option maxRecDepth 100000 in
theorem cippuskit_Urn_Odds.calls (g : Nat) (s0_0 : Int) (s0_1 : Int) (a1 : Int) (a2 : Int) (r1 : Bool) (r2 : Int) (r3 : Int) (w0 w : World) (hI : IsS72 w0 w g s0_0 s0_1) (hB : Below w0.heap.size w0 w) (h : cippuskit_Urn_Odds.f s0_0 s0_1 a1 a2 = some (r1, r2, r3)) :
    Calls Try.prog 27 #[.pointer (some ⟨g, 0, none⟩), .int .i64 a1, .int .i64 a2] w fun e w' => e = .returned (.bool r1) ∧ IsS72 w0 w' g r2 r3 ∧ Below w0.heap.size w0 w' ∧ KeepBut w w' g none := by
  have HI0 := Aside0.mk hI
  have HK := Aside0.mk (KeepBut.refl w g none)
  have HL := Aside0.mk hB.size
  clear hI
  have HW0 := Aside0.mk hB.size
  have HB := Aside0.mk hB
  clear hB
  have H : ((cippuskit_Urn_Up.f s0_0 s0_1 a2).bind fun bt104 => (some (decide (bt104.1 < a1), bt104.2.1, bt104.2.2))) = some (r1, r2, r3) := h
  clear h
  replace H := Option.bind_eq_some_iff.mp H
  obtain ⟨⟨t104, t105, t106⟩, A40, H⟩ := H
  replace H : (some (decide (t104 < a1), t105, t106)) = some (r1, r2, r3) := H
  have A4 := Aside0.mk A40
  clear A40
  simp only [Option.some.injEq, Prod.mk.injEq] at H
  obtain ⟨rfl, rfl, rfl⟩ := H
  go_enter Try.func27, Try.ntmps27
  go_wp2_with (first | ((with_reducible refine gate_callee (f := 28) rfl ?_); refine goesL_ (some 9) rfl rfl Try.func28 (by kernel_rfl) rfl #[.pointer (some ⟨g, 0, none⟩), .int .i64 a2] rfl (by (try simp only [List.map_toArray, List.map_cons, List.map_nil]); first | done | rfl | (simp only [List.length_drop, List.length_take]; rfl)) ?_; (with_reducible refine (cippuskit_Urn_Up.calls g s0_0 s0_1 a2 t104 t105 t106 w0 _ ?side1 ?side2 A4.out).mono ?_); (case side1 => repeat (first | (with_reducible first | exact HI0.out | apply IsS72.alloc | apply IsS72.drewN | apply IsS72.drew | apply IsS72.set_0 | apply IsS72.set_1) | exact HI0.out)); (case side2 => repeat (first | (with_reducible first | exact HB.out | apply below_alloc | apply pw_below_drewN | apply below_drew1 | refine below_set ?_ (IsS72.ge HI0.out)) | exact HB.out)); rintro e w5 ⟨rfl, hi, hb, hk⟩; refine ⟨_, rfl, ?_⟩; have n0_ := Aside0.mk (KeepBut.trans (by repeat (first | (with_reducible first | exact HK.out | apply KeepBut.set_ | apply keep_drewN | apply keep_drew | apply keep_alloc) | exact HK.out)) hk (.inl rfl)); have n1_ := Aside0.mk (hb); have n2_ := Aside0.mk (hi); clear HK; clear HB; clear HI0; have HK := n0_; have HB := n1_; have HI0 := n2_; clear n0_ n1_ n2_; (try clear hb); (try clear hb2); (try clear hk); (try clear hi)))
  go_ret
  exact ⟨by first | rfl | (simp [errW_none, errW_some] <;> rfl) | (simp [*, errW_none, errW_some] <;> rfl), by repeat (first | (with_reducible first | exact HI0.out | apply IsS72.alloc | apply IsS72.drewN | apply IsS72.drew | apply IsS72.set_0 | apply IsS72.set_1) | exact HI0.out), by repeat (first | (with_reducible first | exact HB.out | apply below_alloc | apply pw_below_drewN | apply below_drew1 | refine below_set ?_ (IsS72.ge HI0.out)) | exact HB.out), by repeat (first | (with_reducible first | exact HK.out | apply KeepBut.set_ | apply keep_drewN | apply keep_drew | apply keep_alloc) | exact HK.out)⟩
end Go.Proofs.Ytegjollhajgcdaa.P
namespace Go.Proofs.Ytegjollhajgcdaa.P
open Go.RowKit Go.Proofs.YtegjollhajgcdaaW.PrintWords Go.Proofs.YtegjollhajgcdaaW.PrintLast Go.Proofs.YtegjollhajgcdaaW.PrintMore
attribute [local go_sem] max2_int min2_int max_two min_two max_three min_three max_four min_four   -- for this text's walks alone
set_option linter.unusedVariables false
set_option linter.unusedSimpArgs false
def cippuskit_Urn_From.f (s0_0 : Int) (s0_1 : Int) (a1 : Int) (a2 : Int) : Option (Int × Int × Int) := (cippuskit_Urn_Up.f s0_0 s0_1 (wrap64 ((wrap64 (a2 - a1)) + 1))).bind fun bt107 => (some (wrap64 (a1 + bt107.1), bt107.2.1, bt107.2.2))
set_option maxHeartbeats 8000000 in
set_option maxRecDepth 100000 in
theorem cippuskit_Urn_From.calls (g : Nat) (s0_0 : Int) (s0_1 : Int) (a1 : Int) (a2 : Int) (r1 : Int) (r2 : Int) (r3 : Int) (w0 w : World) (hI : IsS72 w0 w g s0_0 s0_1) (hB : Below w0.heap.size w0 w) (h : cippuskit_Urn_From.f s0_0 s0_1 a1 a2 = some (r1, r2, r3)) :
    Calls Try.prog 44 #[.pointer (some ⟨g, 0, none⟩), .int .i64 a1, .int .i64 a2] w fun e w' => e = .returned (.int .i64 r1) ∧ IsS72 w0 w' g r2 r3 ∧ Below w0.heap.size w0 w' ∧ KeepBut w w' g none := by
  have HI0 := Aside0.mk hI
  have HK := Aside0.mk (KeepBut.refl w g none)
  have HL := Aside0.mk hB.size
  clear hI
  have HW0 := Aside0.mk hB.size
  have HB := Aside0.mk hB
  clear hB
  have H : ((cippuskit_Urn_Up.f s0_0 s0_1 (wrap64 ((wrap64 (a2 - a1)) + 1))).bind fun bt107 => (some (wrap64 (a1 + bt107.1), bt107.2.1, bt107.2.2))) = some (r1, r2, r3) := h
  clear h
  replace H := Option.bind_eq_some_iff.mp H
  obtain ⟨⟨t107, t108, t109⟩, A40, H⟩ := H
  replace H : (some (wrap64 (a1 + t107), t108, t109)) = some (r1, r2, r3) := H
  have A4 := Aside0.mk A40
  clear A40
  simp only [Option.some.injEq, Prod.mk.injEq] at H
  obtain ⟨rfl, rfl, rfl⟩ := H
  go_enter Try.func44, Try.ntmps44
  go_wp2_with (first | ((with_reducible refine gate_callee (f := 28) rfl ?_); refine goesL_ (some 13) rfl rfl Try.func28 (by kernel_rfl) rfl #[.pointer (some ⟨g, 0, none⟩), .int .i64 (wrap64 ((wrap64 (a2 - a1)) + 1))] rfl (by (try simp only [List.map_toArray, List.map_cons, List.map_nil]); first | done | rfl | (simp only [List.length_drop, List.length_take]; rfl)) ?_; (with_reducible refine (cippuskit_Urn_Up.calls g s0_0 s0_1 (wrap64 ((wrap64 (a2 - a1)) + 1)) t107 t108 t109 w0 _ ?side1 ?side2 A4.out).mono ?_); (case side1 => repeat (first | (with_reducible first | exact HI0.out | apply IsS72.alloc | apply IsS72.drewN | apply IsS72.drew | apply IsS72.set_0 | apply IsS72.set_1) | exact HI0.out)); (case side2 => repeat (first | (with_reducible first | exact HB.out | apply below_alloc | apply pw_below_drewN | apply below_drew1 | refine below_set ?_ (IsS72.ge HI0.out)) | exact HB.out)); rintro e w5 ⟨rfl, hi, hb, hk⟩; refine ⟨_, rfl, ?_⟩; have n0_ := Aside0.mk (KeepBut.trans (by repeat (first | (with_reducible first | exact HK.out | apply KeepBut.set_ | apply keep_drewN | apply keep_drew | apply keep_alloc) | exact HK.out)) hk (.inl rfl)); have n1_ := Aside0.mk (hb); have n2_ := Aside0.mk (hi); clear HK; clear HB; clear HI0; have HK := n0_; have HB := n1_; have HI0 := n2_; clear n0_ n1_ n2_; (try clear hb); (try clear hb2); (try clear hk); (try clear hi)))
  go_ret
  exact ⟨by first | rfl | (simp [errW_none, errW_some] <;> rfl) | (simp [*, errW_none, errW_some] <;> rfl), by repeat (first | (with_reducible first | exact HI0.out | apply IsS72.alloc | apply IsS72.drewN | apply IsS72.drew | apply IsS72.set_0 | apply IsS72.set_1) | exact HI0.out), by repeat (first | (with_reducible first | exact HB.out | apply below_alloc | apply pw_below_drewN | apply below_drew1 | refine below_set ?_ (IsS72.ge HI0.out)) | exact HB.out), by repeat (first | (with_reducible first | exact HK.out | apply KeepBut.set_ | apply keep_drewN | apply keep_drew | apply keep_alloc) | exact HK.out)⟩
end Go.Proofs.Ytegjollhajgcdaa.P
namespace Go.Proofs.Ytegjollhajgcdaa.P.OwnUrn
open Go.RowKit Go.Proofs.YtegjollhajgcdaaW.PrintWords Go.Proofs.YtegjollhajgcdaaW.PrintLast Go.Proofs.YtegjollhajgcdaaW.PrintMore
def urnGo : List Int → Int → Int → Option (Int × Int)
  | [], a, b => some (a, b)
  | x :: xs, a, b => (cippuskit_Urn_turn.f a (IntKind.u64.wrap (b + IntKind.u64.wrap x))).bind fun t => (cippuskit_Urn_turn.f t.2.1 t.2.2).bind fun t2 => urnGo xs t2.2.1 t2.2.2
def newUrn (l : List Int) : Option (Int × Int) := if l.length < 4611686018427387904 then urnGo l 11400714819323198485 14029467366897019727 else none
def erredGo : Nat → List Int → Int → Int → Option (List Int × Int × Int)
  | 0, b, s0, s1 => some (b, s0, s1)
  | n + 1, b, s0, s1 => (cippuskit_Urn_Up.f s0 s1 (b.length : Int)).bind fun t => (cippuskit_Urn_Up.f t.2.1 t.2.2 3).bind fun u =>
    if 0 ≤ t.1 ∧ t.1 < (b.length : Int) then erredGo n (b.set t.1.toNat ((wrap64 (65 + u.1)) % 256)) u.2.1 u.2.2 else none
def erred (s0 s1 : Int) (a1 : ByteArray) (a2 : Int) : Option (ByteArray × Int × Int) :=
  if a1.size ≤ 9223372036854775807 ∧ a2 ≤ 9223372036854775807 then (erredGo a2.toNat (bytesOf a1) s0 s1).map fun r => (strOfNums r.1, r.2.1, r.2.2) else none
def stoneGo : Nat → Int → Int → ByteArray → Option (ByteArray × Int × Int)
  | 0, a, b, s => some (s, a, b)
  | n + 1, a, b, s => (cippuskit_Urn_Up.f a b 3).bind fun t => if s.size + 1 ≤ 9223372036854775807 then stoneGo n t.2.1 t.2.2 (s ++ strOfNums [(wrap64 (65 + t.1)) % 256]) else none
def copyGo : Nat → Int → ByteArray → List S24 → List Int → Int → Int → Option (List S24 × List Int × Int × Int)
  | 0, _, _, l, src, a, b => some (l, src, a, b)
  | n + 1, er, st, l, src, a, b => (cippuskit_Urn_From.f a b (-1) (wrap64 ((l.length : Int) - 1))).bind fun t => (cippuskit_Urn_Up.f t.2.1 t.2.2 (wrap64 (er + 1))).bind fun u =>
    (if t.1 < 0 then some (true, u.2.1, u.2.2) else cippuskit_Urn_Odds.f u.2.1 u.2.2 1 2).bind fun o =>
    (if 0 ≤ t.1 then (if t.1 < (l.length : Int) then some (rd_T24 l t.1).f0 else none) else some st).bind fun fr =>
    (erred o.2.1 o.2.2 fr u.1).bind fun e =>
    if l.length + 1 < 4398046511104 ∧ src.length + 1 < 17592186044416 then copyGo n er st (l ++ [⟨e.1, u.1, o.1⟩]) (src ++ [t.1]) e.2.1 e.2.2 else none
def copiesOf (s0 s1 copies places errors : Int) : Option (List S24 × ByteArray × List Int × Int × Int) :=
  (cippuskit_Urn_From.f s0 s1 1 places).bind fun t => (stoneGo t.1.toNat t.2.1 t.2.2 ⟨#[]⟩).bind fun s => (cippuskit_Urn_From.f s.2.1 s.2.2 1 copies).bind fun t =>
    (copyGo t.1.toNat errors s.1 [] [] t.2.1 t.2.2).map fun r => (r.1, s.1, r.2.1, r.2.2.1, r.2.2.2)
end Go.Proofs.Ytegjollhajgcdaa.P.OwnUrn
namespace Go.Proofs.Ytegjollhajgcdaa.P.OwnUrn
open Go.RowKit Go.Proofs.YtegjollhajgcdaaW.PrintWords Go.Proofs.YtegjollhajgcdaaW.PrintLast Go.Proofs.YtegjollhajgcdaaW.PrintMore
set_option linter.unusedVariables false
theorem below_of_keep {w0 w W W' : World} {g : Nat} (h0 : Below w0.heap.size w0 w) (h1 : Below w0.heap.size w0 W') (hw : Below w.heap.size w W) (hk : KeepBut W W' g none) (hg : w.heap.size ≤ g) : Below w.heap.size w W' :=
  ⟨h1.os.trans h0.os.symm, h1.tape.trans h0.tape.symm, h1.output.trans h0.output.symm, Nat.le_trans hw.size hk.1, fun k hk' => (hk.2 k (Nat.lt_of_lt_of_le hk' hw.size) (by omega) (by simp)).trans (hw.block k hk')⟩
def RelNew (w0 w : World) (l0 : List Int) (r1 r2 : Int) (k : Nat) (wr : World) : Prop :=
  ∃ a b : Int, IsS72 w0 wr w.heap.size a b ∧ Below w0.heap.size w0 wr ∧ Below w.heap.size w wr ∧ urnGo (l0.drop k) a b = some (r1, r2)
set_option maxHeartbeats 4000000 in
set_option maxRecDepth 100000 in
theorem newUrn_calls (A0 : Option Addr) (c0 : Nat) (l0 : List Int) (r1 : Int) (r2 : Int) (w0 w : World) (hB : Below w0.heap.size w0 w) (hr0 : Kd.C (Kd.int .i64) w0 A0 l0.length l0) (hc0 : l0.length ≤ c0) (h : newUrn l0 = some (r1, r2)) :
    Calls Try.prog 14 #[.slice A0 l0.length c0] w fun e w' => ∃ g_ : Nat, e = .returned (.pointer (some ⟨g_, 0, none⟩)) ∧ IsS72 w0 w' g_ r1 r2 ∧ Below w0.heap.size w0 w' ∧ Below w.heap.size w w' := by
  have hlen : l0.length < 4611686018427387904 := by
    unfold newUrn at h
    split at h
    · assumption
    · cases h
  rw [newUrn, if_pos hlen] at h
  have H := Lib.hid h; clear h
  have HB := Aside0.mk hB; clear hB
  have HR := Aside0.mk hr0; clear hr0
  go_enter Try.func14, Try.ntmps14
  go_wp2
  go_loopw [4] (fun v wr => ∃ k : Nat, v = .int .i64 k ∧ k ≤ l0.length ∧ RelNew w0 w l0 r1 r2 k wr) (fun v _ => l0.length - (intOf v).toNat)
  case atStart =>
    refine ⟨0, rfl, Nat.zero_le _, _, _, IsS72.new w0 w _ _ HB.out, ?_, ?_, H.out⟩
    · exact HB.out.alloc HB.out.size _
    · exact (Below.refl _ _).alloc (Nat.le_refl _) _
  case round =>
    obtain ⟨k, rfl, hk, a, b, hI, hb0, hb1, hg⟩ := hrel
    by_cases hlt : k < l0.length
    · obtain ⟨ad, e, hx⟩ := Kd.at_int HR.out (k : Int) (by omega) (by omega)
      subst e
      simp only [Int.toNat_natCast] at hx
      replace hx := (hb0.cell (World.block_lt_of_cell? w0 _ hx)).trans hx
      obtain ⟨HG, hg0⟩ := id hI
      have hc0 := cellS72_0 HG
      have hc1 := cellS72_1 HG
      have hf0 := blk_frozen HG 0
      have hf1 := blk_frozen HG 1
      have hlt' : (k : Int) < (l0.length : Int) := by omega
      have hd : l0.drop k = rd l0 k :: l0.drop (k + 1) := by rw [List.drop_eq_getElem_cons hlt]; simp [rd, List.getD_eq_getElem?_getD, hlt]
      rw [hd, urnGo, Option.bind_eq_some_iff] at hg
      obtain ⟨⟨t1, t2, t3⟩, ht, hg⟩ := hg
      rw [Option.bind_eq_some_iff] at hg
      obtain ⟨⟨u1, u2, u3⟩, hu, hg⟩ := hg
      dsimp only at hu hg
      have HT := Aside0.mk ht; clear ht
      have HU := Aside0.mk hu; clear hu
      have HG2 := Aside0.mk hg; clear hg hd
      go_wp2_with fail
      go_region
      go_wp2_with fail
      refine (cippuskit_Urn_turn.calls _ _ _ _ _ _ w0 _ ((hI.set_1 _).drew) (below_drew (below_set hb0 hg0)) HT.out).mono ?_
      rintro e w1 ⟨rfl, hI1, hB1, hK1⟩
      go_wp2_with fail
      refine (cippuskit_Urn_turn.calls _ _ _ _ _ _ w0 _ hI1 hB1 HU.out).mono ?_
      rintro e w2 ⟨rfl, hI2, hB2, hK2⟩
      go_wp2_with fail
      go_roundw
      case rel =>
        refine ⟨k + 1, by go_num, by omega, _, _, hI2, hB2, ?_, HG2.out⟩
        exact below_of_keep HB.out hB2 (below_of_keep HB.out hB1 (below_drew (below_set hb1 (Nat.le_refl _))) hK1 (Nat.le_refl _)) hK2 (Nat.le_refl _)
      case measure => simp [intOf]; omega
    · go_wp2
      go_ret
      refine ⟨_, rfl, ?_, hb0, hb1⟩
      rw [List.drop_of_length_le (by omega)] at hg
      simp only [urnGo, Option.some.injEq, Prod.mk.injEq] at hg
      obtain ⟨rfl, rfl⟩ := hg
      exact hI
def Buf (W : World) (gb : Nat) (xs : List Int) : Prop := (∀ i, i < xs.length → W.cell? ⟨gb, i, none⟩ = some (.int .u8 (rd xs i)) ∧ W.frozen? ⟨gb, i, none⟩ = false) ∧ gb < W.heap.size
theorem Buf.keep {W W' : World} {gb : Nat} {xs : List Int} (h : Buf W gb xs) (hb : W'.heap[gb]? = W.heap[gb]?) (hs : W.heap.size ≤ W'.heap.size) : Buf W' gb xs :=
  ⟨fun i hi => ⟨(World.cell?_of_block (a := ⟨gb, i, none⟩) hb).trans (h.1 i hi).1, (World.frozen?_of_block (a := ⟨gb, i, none⟩) hb).trans (h.1 i hi).2⟩, Nat.lt_of_lt_of_le h.2 hs⟩
theorem Buf.set {W : World} {gb : Nat} {xs : List Int} (h : Buf W gb xs) (i : Nat) (hi : i < xs.length) (x : Int) : Buf (W.setCell ⟨gb, i, none⟩ (.int .u8 x)) gb (xs.set i x) := by
  refine ⟨fun j hj => ?_, by simpa using h.2⟩
  rw [List.length_set] at hj
  refine ⟨?_, by rw [World.frozen?_setCell]; exact (h.1 j hj).2⟩
  by_cases e : j = i
  · subst e
    rw [World.cell?_setCell_same' _ _ _ (by rw [(h.1 j hj).1]; rfl)]
    simp [rd, List.getD_eq_getElem?_getD, hj]
  · rw [World.cell?_setCell_other W _ (a := ⟨gb, i, none⟩) (b := ⟨gb, j, none⟩) (fun e_ => e (by injection e_ with _ h2; exact h2.symm)), (h.1 j hj).1]
    simp [rd, List.getD_eq_getElem?_getD, List.getElem?_set, Ne.symm e]
theorem Buf.reads {W : World} {gb : Nat} {xs : List Int} (h : Buf W gb xs) (hm : xs.length ≤ 9223372036854775807) : ReadsInt W .u8 (some ⟨gb, 0, none⟩) xs.length xs :=
  ⟨rfl, hm, fun _ => ⟨_, rfl, fun j hj => by
    have := (h.1 j hj).1
    rw [add_plain]
    rw [this]
    simp [rd, List.getD_eq_getElem?_getD]⟩⟩
theorem Buf.new (W : World) (s : ByteArray) : Buf (Lib.bytesWorld W 5 s) W.heap.size (bytesOf s) := by
  refine ⟨fun i hi => ?_, by rw [Lib.bytesWorld_size]; omega⟩
  rw [bytesOf_length] at hi
  refine ⟨?_, ?_⟩
  · rw [Lib.bytesWorld_cell _ _ _ _ hi]
    simp [rd, bytesOf, List.getD_eq_getElem?_getD, hi]
  · unfold World.frozen?
    rw [Lib.bytesWorld_at_new]
    have hz : s.size ≤ (Lib.bytesCells W 5 s).size := by
      unfold Lib.bytesCells; rw [Array.size_append, Array.size_map]; exact Nat.le_add_right _ _
    simp
    omega
def RelErr (w0 w : World) (g : Nat) (n m : Nat) (L : List Int) (r2 r3 : Int) (k : Nat) (wr : World) : Prop :=
  ∃ (xs : List Int) (a b : Int), IsS72 w0 wr g a b ∧ Below w0.heap.size w0 wr ∧ KeepBut w wr g none ∧ Buf wr w.heap.size xs ∧ xs.length = m ∧ erredGo (n - k) xs a b = some (L, r2, r3)
set_option maxHeartbeats 4000000 in
set_option maxRecDepth 100000 in
theorem erred_calls (g : Nat) (s0_0 : Int) (s0_1 : Int) (a1 : ByteArray) (a2 : Int) (r1 : ByteArray) (r2 : Int) (r3 : Int) (w0 w : World) (hI : IsS72 w0 w g s0_0 s0_1) (hB : Below w0.heap.size w0 w) (h : erred s0_0 s0_1 a1 a2 = some (r1, r2, r3)) :
    Calls Try.prog 45 #[.pointer (some ⟨g, 0, none⟩), .string a1, .int .i64 a2] w fun e w' => e = .returned (.string r1) ∧ IsS72 w0 w' g r2 r3 ∧ Below w0.heap.size w0 w' ∧ KeepBut w w' g none := by
  unfold erred at h
  split at h
  case isFalse => cases h
  case isTrue hsz =>
  obtain ⟨hs1, hs2⟩ := hsz
  rw [Option.map_eq_some_iff] at h
  obtain ⟨⟨L, p, q⟩, he, hr⟩ := h
  simp only [Prod.mk.injEq] at hr
  obtain ⟨rfl, rfl, rfl⟩ := hr
  have HE := Lib.hid he; clear he
  have HI := Aside0.mk hI
  have HB := Aside0.mk hB
  have hgw : g < w.heap.size := hI.lt
  clear hI hB
  have kc := fun W => print_bytes (P := Try.prog) 9 61 5 Try.underlying9 Try.underlying61 Try.underlying5 a1 W
  go_enter Try.func45, Try.ntmps45
  go_wp2
  clear kc
  go_loopw [8] (fun v wr => ∃ k : Nat, v = .int .i64 k ∧ (k : Int) ≤ max a2 0 ∧ RelErr w0 w g a2.toNat a1.size L p q k wr) (fun v _ => a2.toNat - (intOf v).toNat)
  case atStart =>
    refine ⟨0, rfl, by omega, bytesOf a1, s0_0, s0_1, ?_, ?_, ?_, Buf.new w a1, bytesOf_length _, HE.out⟩
    · exact ⟨(Lib.bytesWorld_at_old w 5 a1 g hgw).trans HI.out.1, HI.out.2⟩
    · exact bytes_below HB.out HB.out.size _ _
    · exact ⟨by rw [Lib.bytesWorld_size]; omega, fun i hi _ _ => Lib.bytesWorld_at_old w 5 a1 i hi⟩
  case round =>
    obtain ⟨k, rfl, hk, xs, a, b, hI, hb0, hK, hbuf, hxl, hg⟩ := hrel
    have HI2 := Aside0.mk hI
    have HB2 := Aside0.mk hb0
    have HK := Aside0.mk hK
    have HBuf := Aside0.mk hbuf
    have HG := Aside0.mk hg
    clear hI hb0 hK hbuf hg
    by_cases hlt : (k : Int) < a2
    · obtain ⟨n, hn⟩ : ∃ n, a2.toNat - k = n + 1 := ⟨a2.toNat - k - 1, by omega⟩
      have hg := HG.out
      rw [hn, erredGo, Option.bind_eq_some_iff] at hg
      obtain ⟨⟨t1, t2, t3⟩, ht, hg⟩ := hg
      rw [Option.bind_eq_some_iff] at hg
      obtain ⟨⟨u1, u2, u3⟩, hu, hg⟩ := hg
      dsimp only at hu hg
      split at hg
      case isFalse => cases hg
      case isTrue hix =>
      obtain ⟨hi0, hi1⟩ := hix
      obtain ⟨j, rfl⟩ := Int.eq_ofNat_of_zero_le hi0
      simp only [Int.toNat_natCast] at hg
      rw [hxl] at ht
      have HT := Aside0.mk ht; clear ht
      have HU := Aside0.mk hu; clear hu
      have hn' : n = a2.toNat - (k + 1) := by omega
      subst hn'
      have HG2 := Aside0.mk hg; clear hg hn
      go_wp2_with fail
      refine (cippuskit_Urn_Up.calls _ _ _ _ _ _ _ w0 _ HI2.out HB2.out HT.out).mono ?_
      rintro e w1 ⟨rfl, hI1, hB1, hK1⟩
      go_wp2_with fail
      refine (cippuskit_Urn_Up.calls _ _ _ _ _ _ _ w0 _ hI1 hB1 HU.out).mono ?_
      rintro e w2 ⟨rfl, hI2, hB2, hK2⟩
      have hbuf2 : Buf w2 w.heap.size xs := (HBuf.out.keep (hK1.2 _ HBuf.out.2 (by omega) (by simp)) hK1.1).keep (hK2.2 _ (Nat.lt_of_lt_of_le HBuf.out.2 hK1.1) (by omega) (by simp)) hK2.1
      have hj : j < xs.length := by omega
      obtain ⟨hcj, hfj⟩ := hbuf2.1 j hj
      have hj2 : (j : Int) < (a1.size : Int) := by omega
      have HBuf2 := Aside0.mk hbuf2
      have HIa := Aside0.mk hI2
      have HBa := Aside0.mk hB2
      have HKa := Aside0.mk hK2
      have HKb := Aside0.mk hK1
      clear hbuf2 hI2 hB2 hK2 hK1 hI1 hB1
      go_wp2_with fail
      go_roundw
      case rel =>
        refine ⟨k + 1, by go_num, by omega, xs.set j _, u2, u3, ?_, ?_, ?_, HBuf2.out.set j hj _, by rw [List.length_set]; exact hxl, HG2.out⟩
        · exact HIa.out.far (by simp; omega) _
        · exact HBa.out.setCell (Nat.le_trans HB.out.size (by simp)) _
        · exact keep_far (((HK.out).trans HKb.out (.inl rfl)).trans HKa.out (.inl rfl)) (by simp) _
      case measure => simp [intOf]; omega
    · have hk0 : a2.toNat - k = 0 := by omega
      have hg := HG.out
      rw [hk0, erredGo] at hg
      simp only [Option.some.injEq, Prod.mk.injEq] at hg
      obtain ⟨rfl, rfl, rfl⟩ := hg
      have kc := string_of_reads (src := 61) (dst := 9) (c := grownCap w a1.size 0 5) Try.underlying61 Try.underlying5 Try.underlying9 (HBuf.out.reads (by omega))
      rw [hxl] at kc
      go_wp2
      go_ret
      exact ⟨rfl, HI2.out, HB2.out, HK.out⟩
end Go.Proofs.Ytegjollhajgcdaa.P.OwnUrn
namespace Go.Proofs.Ytegjollhajgcdaa.OLies
open Go.RowKit Go.Proofs.YtegjollhajgcdaaW.PrintWords Go.Proofs.YtegjollhajgcdaaW.PrintLast Go.Proofs.YtegjollhajgcdaaW.PrintMore
section
variable {P : Program} {ops : Array Oper} {o : Oper} {a : Act} {Q : Exit → Act → World → Prop} {Kc : Act → World → Prop} {α : Type}
theorem R_append_lies (d : Kd α) {w0 W : World} (base : Nat) (s x : Operand) (t e : TypeId) (z : Value) (bytes : Nat)
    (ho : o.op = .call { callee := .builtin .append, args := #[s, x], argTypes := #[t, t] })
    (ht : P.underlying t = some (.slice e)) (hinfo : (P.info? e).map (fun i => (i.zero, i.size, i.bytes)) = some (some z, d.sz, bytes)) (hz : z.cells.size = d.sz) (hs0 : 0 < d.sz) (hb0 : 0 < bytes)
    (v : Value) (xs : List α) (p : α) (cs : List Value) (ok okp : Nat → Prop) (B : Nat) (fr : Nat × Nat) (hs : a.eval s = v) (hx : a.eval x = .slice (some ⟨B, 0, none⟩) 1 1) (hblk : W.heap[B]? = some (.cells cs.toArray e fr))
    (hp : d.M W base okp p cs) (hokp : ∀ k, okp k → ok k ∧ some k ≠ v.ownBlock) (hfresh : ∀ k, W.heap.size ≤ k → ok k)
    (HO : d.R e W base ok v xs) (HB : Below base w0 W) (hbase : base ≤ W.heap.size) (hl : (xs.length + 1) * bytes ≤ 140737488355328)
    (h : ∀ v1 w1, d.R e w1 base ok v1 (xs ++ [p]) → Below base w0 w1 → W.grownBy w1 v.ownBlock → (v1.ownBlock = v.ownBlock ∨ ∃ b, v1.ownBlock = some b ∧ W.heap.size ≤ b) → Kc (a.put o.dst v1) w1) :
    Oper.wp P o a W Kc Q := by
  obtain ⟨h0, inner, hown, hr⟩ := HO
  obtain ⟨i0, hi, hzz⟩ := Option.map_eq_some_iff.1 hinfo
  simp only [Prod.mk.injEq] at hzz
  obtain ⟨hz0, hz1, hz2⟩ := hzz
  have hlen : xs.length + 1 ≤ 140737488355328 := Nat.le_trans (Nat.le_mul_of_pos_right _ hb0) hl
  have hcl := d.K_len (d.K_of_M hp)
  refine wp_append_lies W s x t ho base e i0 z d.sz bytes ht hi hz0 hz1 hz2 hz hs0 v xs.length inner hs hown ⟨B, 0, none⟩ 1 1 cs hx (by rw [hcl]; simp)
    (by simpa using World.news_of_block (cs := cs.toArray) hblk) (d.K_one (d.K_of_M hp)) (by decide) (by simp only [maxLen]; omega) hl hbase _ rfl ?_
  intro g cap w1 hown1 hg1 hat1 hlt
  have hat : (Value.slice (some ⟨g, 0, none⟩) (xs.length + 1) cap).ownBlock = v.ownBlock ∨ ∃ b, (Value.slice (some ⟨g, 0, none⟩) (xs.length + 1) cap).ownBlock = some b ∧ W.heap.size ≤ b := by
    rcases hat1 with hat1 | hat1
    · exact .inl (by rw [hat1]; rfl)
    · exact .inr ⟨g, rfl, by omega⟩
  exact h _ _ (Kd.R_appended h0 hr hp hokp hfresh hown1 hg1 hat) (HB.grown hg1 hbase (own_base hown)) hg1 hat
theorem R_append_lies_step (d : Kd α) {w0 W : World} {E : Prop} (base : Nat) (hgd : o.guard = none) (s x : Operand) (t e : TypeId) (z : Value) (bytes : Nat)
    (ho : o.op = .call { callee := .builtin .append, args := #[s, x], argTypes := #[t, t] })
    (ht : P.underlying t = some (.slice e)) (hinfo : (P.info? e).map (fun i => (i.zero, i.size, i.bytes)) = some (some z, d.sz, bytes)) (hz : z.cells.size = d.sz) (hs0 : 0 < d.sz) (hb0 : 0 < bytes)
    (v : Value) (xs : List α) (p : α) (cs : List Value) (ok okp : Nat → Prop) (B : Nat) (fr : Nat × Nat) (hs : a.eval s = v) (hx : a.eval x = .slice (some ⟨B, 0, none⟩) 1 1) (hblk : W.heap[B]? = some (.cells cs.toArray e fr))
    (hp : d.M W base okp p cs) (hokp : ∀ k, okp k → ok k ∧ some k ≠ v.ownBlock) (hfresh : ∀ k, W.heap.size ≤ k → ok k)
    (HO : d.R e W base ok v xs) (HB : Below base w0 W) (hbase : base ≤ W.heap.size) (hl : (xs.length + 1) * bytes ≤ 140737488355328)
    (h : ∀ v1 w1, d.R e w1 base ok v1 (xs ++ [p]) → Below base w0 w1 → W.grownBy w1 v.ownBlock → (v1.ownBlock = v.ownBlock ∨ ∃ b, v1.ownBlock = some b ∧ W.heap.size ≤ b) → Kc (a.put o.dst v1) w1) :
    if Region.wanted o (yielded ops a.tmps) = true then Oper.wp P o a W Kc Q else E := by
  have hw : Region.wanted o (yielded ops a.tmps) = true := by simp [Region.wanted, hgd]
  rw [if_pos hw]
  exact R_append_lies d base s x t e z bytes ho ht hinfo hz hs0 hb0 v xs p cs ok okp B fr hs hx hblk hp hokp hfresh HO HB hbase hl h
end
end Go.Proofs.Ytegjollhajgcdaa.OLies
namespace Go.Proofs.Ytegjollhajgcdaa.P.OwnUrn
open Go.RowKit Go.Proofs.YtegjollhajgcdaaW.PrintWords Go.Proofs.YtegjollhajgcdaaW.PrintLast Go.Proofs.YtegjollhajgcdaaW.PrintMore
set_option linter.unusedVariables false
def Mades (W : World) (b : Nat) (s : ByteArray) (v : Value) : Prop :=
  W.heap[b]? = some (.cells #[.string ⟨#[]⟩, .slice none 0 0] 27 (0, 0)) ∧ W.heap[b + 1]? = some (.cells #[.string s, v] 27 (0, 0))
theorem keep_mades {w W W' : World} {g : Nat} {s : ByteArray} {v : Value} (hs : w.heap.size ≤ W.heap.size) (h : Mades W w.heap.size s v) (hg : g < w.heap.size) (hk : KeepBut W W' g none) : Mades W' w.heap.size s v :=
  ⟨hk.blk h.1 (by omega) (by simp), hk.blk h.2 (by omega) (by simp)⟩
theorem mades_cell {W : World} {b : Nat} {s : ByteArray} {v : Value} (h : Mades W b s v) : W.cell? ⟨b + 1, 0, none⟩ = some (.string s) := (blk_cell h.2 0).trans rfl
theorem mades_cell1 {W : World} {b : Nat} {s : ByteArray} {v : Value} (h : Mades W b s v) : W.cell? ⟨b + 1, 1, none⟩ = some v := (blk_cell h.2 1).trans rfl
theorem mades_frozen {W : World} {b : Nat} {s : ByteArray} {v : Value} (h : Mades W b s v) : W.frozen? ⟨b + 1, 0, none⟩ = false := blk_frozen h.2 0
theorem mades_frozen1 {W : World} {b : Nat} {s : ByteArray} {v : Value} (h : Mades W b s v) : W.frozen? ⟨b + 1, 1, none⟩ = false := blk_frozen h.2 1
theorem set_mades {W : World} {b : Nat} {s : ByteArray} {v : Value} (h : Mades W b s v) (s' : ByteArray) (o : Obj) : Mades ((W.setCell ⟨b + 1, 0, none⟩ (.string s')).alloc o) b s' v :=
  ⟨blk_alloc (blk_far h.1 (by simp) _) o, blk_alloc (by simpa using blk_set h.2 0 (.string s')) o⟩
theorem from_le {a b c d n p q : Int} (h : cippuskit_Urn_From.f a b c d = some (n, p, q)) : n ≤ 9223372036854775807 := by
  unfold cippuskit_Urn_From.f at h
  rw [Option.bind_eq_some_iff] at h
  obtain ⟨z, _, h⟩ := h
  simp only [Option.some.injEq, Prod.mk.injEq] at h
  rw [← h.1]
  unfold wrap64
  omega
theorem conv_one (W : World) (x : Int) : (Go.convert 61 9 (.slice (some ⟨W.heap.size, 0, none⟩) 1 1)).run Try.prog (W.alloc (.cells #[.int .u8 x] 5)) = .ok (.string (strOfNums [x])) (W.alloc (.cells #[.int .u8 x] 5)) := by
  refine string_of_reads (e := 5) Try.underlying61 Try.underlying5 Try.underlying9 ⟨rfl, by decide, fun _ => ⟨_, rfl, fun j hj => ?_⟩⟩
  obtain rfl : j = 0 := by omega
  rw [add_plain]
  exact (blk_cell (blk_new W _) 0).trans rfl
def RelStone (w0 w : World) (g : Nat) (st : ByteArray) (r4 r5 : Int) (n : Nat) (wr : World) : Prop :=
  ∃ (s : ByteArray) (a b : Int), IsS72 w0 wr g a b ∧ Below w0.heap.size w0 wr ∧ KeepBut w wr g none ∧ Mades wr w.heap.size s (.slice none 0 0) ∧ stoneGo n a b s = some (st, r4, r5)
structure F16 (w0 w : World) (g bx : Nat) (x : S24) (s : ByteArray) (vL v : Value) (L : List S24) (S : List Int) (a b : Int) (W : World) : Prop where
  hI : IsS72 w0 W g a b
  hB : Below w0.heap.size w0 W
  hK : KeepBut w W g none
  hM : Mades W w.heap.size s v
  hbx : W.heap[bx]? = some (.cells #[.string x.f0, .int .i64 x.f1, .bool x.f2] 24 (0, 0))
  hL : Kd.R k24 24 W w.heap.size (fun _ => True) vL L
  hS : Kd.R (Kd.int .i64) 3 W w.heap.size (fun _ => True) v S
  hge : w.heap.size ≤ bx
  hne : some bx ≠ vL.ownBlock
theorem R_keepg {α : Type} {d : Kd α} {e base g : Nat} {v : Value} {xs : List α} {W W' w0 : World} {a b : Int} (h : d.R e W base (fun _ => True) v xs) (hI : IsS72 w0 W g a b) (ht : ∀ q, q ∈ e :: d.E → q ≠ 72) (hk : ∀ k, k < W.heap.size → k ≠ g → W'.heap[k]? = W.heap[k]?) : d.R e W' base (fun _ => True) v xs :=
  Kd.R_mono (Kd.R_step (Kd.R_types h hI.1 ht) (fun k ok hlt => hk k hlt ok.2)) (fun _ _ => trivial)
theorem f16_mk {w0 w wr w6 w7 : World} {g : Nat} {x : S24} {s : ByteArray} {vL v : Value} {L : List S24} {S : List Int} {a b a' b' : Int} (hgw : g < w.heap.size) (hB0 : Below w0.heap.size w0 w)
    (hI : IsS72 w0 wr g a b) (hK : KeepBut w wr g none) (hM : Mades wr w.heap.size s v) (hL : Kd.R k24 24 wr w.heap.size (fun _ => True) vL L) (hS : Kd.R (Kd.int .i64) 3 wr w.heap.size (fun _ => True) v S)
    (h6 : KeepBut wr w6 g none) (h7 : KeepBut (w6.alloc (.cells #[.string ⟨#[]⟩, .int .i64 x.f1, .bool x.f2] 24)) w7 g none) (hI7 : IsS72 w0 w7 g a' b') (hB7 : Below w0.heap.size w0 w7) :
    F16 w0 w g w6.heap.size x s vL v L S a' b' (w7.setCell ⟨w6.heap.size, 0, none⟩ (.string x.f0)) := by
  have hgl : g < wr.heap.size := hI.lt
  have hs6 := h6.1
  have hs7 := h7.1
  simp only [World.size_alloc] at hs7
  have hs0 := hK.1
  have hkeep : ∀ k, k < wr.heap.size → k ≠ g → (w7.setCell ⟨w6.heap.size, 0, none⟩ (.string x.f0)).heap[k]? = wr.heap[k]? := fun k hk hkg => by
    rw [Below.heap_setCell w7 _ _ k (by show k ≠ w6.heap.size; omega), h7.2 k (by simp only [World.size_alloc]; omega) hkg (by simp), Below.heap_alloc w6 _ k (by omega), h6.2 k hk hkg (by simp)]
  have hbx : w7.heap[w6.heap.size]? = some (.cells #[.string ⟨#[]⟩, .int .i64 x.f1, .bool x.f2] 24 (0, 0)) := h7.blk (blk_new w6 _) (by omega) (by simp)
  refine ⟨hI7.far (by show g ≠ w6.heap.size; omega) _, hB7.setCell (by show _ ≤ w6.heap.size; have := hB0.size; omega) _, ?_, ⟨(hkeep _ (blk_lt hM.1) (by omega)).trans hM.1, (hkeep _ (blk_lt hM.2) (by omega)).trans hM.2⟩, by simpa using blk_set hbx 0 (.string x.f0), R_keepg hL hI (by decide) hkeep, R_keepg hS hI (by decide) hkeep, by omega, fun e_ => by
    obtain ⟨_, h2⟩ := Kd.R_typed hL _ e_.symm
    have := blk_lt h2
    omega⟩
  exact ⟨by simp; omega, fun k hk hkg _ => (hkeep k (by omega) hkg).trans (hK.2 k hk hkg (by simp))⟩
structure F17 (w0 w : World) (g : Nat) (s : ByteArray) (vL v : Value) (L : List S24) (S : List Int) (a b : Int) (W : World) : Prop where
  hI : IsS72 w0 W g a b
  hB : Below w0.heap.size w0 W
  hK : KeepBut w W g none
  hM : Mades W w.heap.size s v
  hL : Kd.R k24 24 W w.heap.size (fun _ => True) vL L
  hS : Kd.R (Kd.int .i64) 3 W w.heap.size (fun _ => True) v S
theorem f17_mk {w0 w W wB : World} {g bx : Nat} {x : S24} {s : ByteArray} {vL v vA vB : Value} {L : List S24} {S : List Int} {a b t : Int} (hgw : g < w.heap.size) (hw : Below w0.heap.size w0 w)
    (hF : F16 w0 w g bx x s vL v L S a b W) (hBB : Below w.heap.size W wB) (hMB : Mades wB w.heap.size s v) (hLB : Kd.R k24 24 wB w.heap.size (fun _ => True) vA (L ++ [x])) (hSB : Kd.R (Kd.int .i64) 3 wB w.heap.size (fun _ => True) vB (S ++ [t])) :
    F17 w0 w g s vA vB (L ++ [x]) (S ++ [t]) a b (wB.setCell ⟨w.heap.size + 1, 1, none⟩ vB) := by
  have hkeep : ∀ k, k ≠ w.heap.size + 1 → (wB.setCell ⟨w.heap.size + 1, 1, none⟩ vB).heap[k]? = wB.heap[k]? := fun k hk => Below.heap_setCell wB _ _ k hk
  have hI : IsS72 w0 wB g a b := ⟨(hBB.block g hgw).trans hF.hI.1, hF.hI.2⟩
  have hB : Below w0.heap.size w0 wB := hF.hB.trans (hBB.mono hw.size)
  refine ⟨hI.far (by show g ≠ w.heap.size + 1; omega) _, hB.setCell (by show _ ≤ w.heap.size + 1; have := hw.size; omega) _, ?_, ⟨(hkeep _ (by omega)).trans hMB.1, ?_⟩, ?_, ?_⟩
  · refine keep_far ?_ (by show w.heap.size ≤ w.heap.size + 1; omega) _
    exact ⟨Nat.le_trans hF.hK.1 hBB.size, fun k hk hkg _ => (hBB.block k hk).trans (hF.hK.2 k hk hkg (by simp))⟩
  · simpa using blk_set hMB.2 1 vB
  · exact Kd.R_mono (Kd.R_step (Kd.R_types hLB hMB.2 (by decide)) (fun k ok _ => hkeep k ok.2)) (fun _ _ => trivial)
  · exact Kd.R_mono (Kd.R_step (Kd.R_types hSB hMB.2 (by decide)) (fun k ok _ => hkeep k ok.2)) (fun _ _ => trivial)
theorem blk_new2 (W : World) (o1 o2 : Obj) : ((W.alloc o1).alloc o2).heap[W.heap.size + 1]? = some o2 := by
  have := blk_new (W.alloc o1) o2
  rwa [World.size_alloc] at this
theorem keepA {W wA : World} {row : Option Nat} (hg : W.grownBy wA row) : ∀ (k : Nat) (o : Obj), W.heap[k]? = some o → some k ≠ row → wA.heap[k]? = some o := fun _ _ h1 h2 => blk_grown h1 hg h2
theorem across_mades {W w1 : World} {b : Nat} {s : ByteArray} {v vR : Value} {α : Type} {d : Kd α} {e base : Nat} {ok : Nat → Prop} {xs : List α} (hM : Mades W b s v) (hR : d.R e W base ok vR xs) (hg : W.grownBy w1 vR.ownBlock) (he : e ≠ 27) : Mades w1 b s v :=
  ⟨blk_grown hM.1 hg (Kd.R_ne hR hM.1 he), blk_grown hM.2 hg (Kd.R_ne hR hM.2 he)⟩
theorem across_R {W w1 : World} {vR v : Value} {α β : Type} {d : Kd α} {d' : Kd β} {e e' base : Nat} {xs : List α} {ys : List β} (h : d.R e W base (fun _ => True) v xs) (hR : d'.R e' W base (fun _ => True) vR ys) (hg : W.grownBy w1 vR.ownBlock) (he : ∀ q, q ∈ e :: d.E → q ≠ e') : d.R e w1 base (fun _ => True) v xs :=
  Kd.R_mono (Kd.R_grown (Kd.R_apart' h (Kd.R_typed hR) he) hg (fun k ok => ok.2)) (fun _ _ => trivial)
def RelCopy (w0 w : World) (g : Nat) (er : Int) (st : ByteArray) (z1 : List S24) (z2 : List Int) (z3 z4 : Int) (n : Nat) (v12 : Value) (wr : World) : Prop :=
  ∃ (L : List S24) (S : List Int) (a b : Int) (v : Value), IsS72 w0 wr g a b ∧ Below w0.heap.size w0 wr ∧ KeepBut w wr g none ∧ Mades wr w.heap.size st v ∧ Kd.R k24 24 wr w.heap.size (fun _ => True) v12 L ∧ Kd.R (Kd.int .i64) 3 wr w.heap.size (fun _ => True) v S ∧ copyGo n er st L S a b = some (z1, z2, z3, z4)
set_option maxHeartbeats 4000000 in
set_option maxRecDepth 100000 in
theorem copiesOf_calls (g : Nat) (s0_0 : Int) (s0_1 : Int) (a1 : Int) (a2 : Int) (a3 : Int) (r1 : List (S24)) (r2 : ByteArray) (r3 : List Int) (r4 : Int) (r5 : Int) (w0 w : World) (hI : IsS72 w0 w g s0_0 s0_1) (hB : Below w0.heap.size w0 w) (h : copiesOf s0_0 s0_1 a1 a2 a3 = some (r1, r2, r3, r4, r5)) :
    Calls Try.prog 13 #[.pointer (some ⟨g, 0, none⟩), .int .i64 a1, .int .i64 a2, .int .i64 a3] w fun e w' => ∃ v0_ v2_ : Value, e = .returned (.tuple #[v0_, .agg #[.string r2, v2_]]) ∧ Kd.R k24 24 w' w.heap.size (fun _ => True) v0_ r1 ∧ Kd.R (Kd.int .i64) 3 w' w.heap.size (fun _ => True) v2_ r3 ∧ IsS72 w0 w' g r4 r5 ∧ Below w0.heap.size w0 w' ∧ KeepBut w w' g none := by
  unfold copiesOf at h
  rw [Option.bind_eq_some_iff] at h
  obtain ⟨⟨n1, p1, q1⟩, h1, h⟩ := h
  rw [Option.bind_eq_some_iff] at h
  obtain ⟨⟨st, p2, q2⟩, h2, h⟩ := h
  rw [Option.bind_eq_some_iff] at h
  obtain ⟨⟨n3, p3, q3⟩, h3, h⟩ := h
  rw [Option.map_eq_some_iff] at h
  obtain ⟨⟨z1, z2, z3, z4⟩, h4, hr⟩ := h
  dsimp only at h2 h3 h4 hr
  simp only [Prod.mk.injEq] at hr
  obtain ⟨rfl, rfl, rfl, rfl, rfl⟩ := hr
  have H1 := Aside0.mk h1; have H2 := Aside0.mk h2; have H3 := Aside0.mk h3; have H4 := Aside0.mk h4
  clear h1 h2 h3 h4
  have HI := Aside0.mk hI
  have HB := Aside0.mk hB
  have hgw : g < w.heap.size := hI.lt
  clear hI hB
  go_enter Try.func13, Try.ntmps13
  go_wp2_with fail
  refine (cippuskit_Urn_From.calls _ _ _ _ _ _ _ _ w0 _ ((HI.out.alloc _).alloc _) (below_alloc (below_alloc HB.out _) _) H1.out).mono ?_
  rintro e w1 ⟨rfl, hI1, hB1, hK1⟩
  have hM : Mades w1 w.heap.size ⟨#[]⟩ (.slice none 0 0) := by
    refine ⟨hK1.blk (blk_alloc (blk_new w _) _) (by omega) (by simp), hK1.blk ?_ (by omega) (by simp)⟩
    have := blk_new (w.alloc (.cells #[.string ⟨#[]⟩, .slice none 0 0] 27)) (.cells #[.string ⟨#[]⟩, .slice none 0 0] 27)
    simpa using this
  have hK0 : KeepBut w w1 g none := (keep_alloc (keep_alloc (KeepBut.refl w g none) _) _).trans hK1 (.inl rfl)
  have HI1 := Aside0.mk hI1; have HB1 := Aside0.mk hB1; have HM := Aside0.mk hM; have HK := Aside0.mk hK0
  clear hI1 hB1 hM hK0 hK1
  go_wp2_with fail
  go_loopw [11] (fun v wr => ∃ i : Int, v = .int .i64 i ∧ i ≤ 9223372036854775807 ∧ RelStone w0 w g st p2 q2 i.toNat wr) (fun v _ => (intOf v).toNat)
  case atStart => exact ⟨n1, rfl, from_le H1.out, _, _, _, HI1.out, HB1.out, HK.out, HM.out, H2.out⟩
  case round =>
    obtain ⟨i, rfl, hi, s, a, b, hI, hb0, hK, hM, hs⟩ := hrel
    by_cases hlt : 0 < i
    · obtain ⟨n, hn⟩ : ∃ n, i.toNat = n + 1 := ⟨i.toNat - 1, by omega⟩
      rw [hn, stoneGo, Option.bind_eq_some_iff] at hs
      obtain ⟨⟨t1, t2, t3⟩, ht, hs⟩ := hs
      dsimp only at hs
      split at hs
      case isFalse => cases hs
      case isTrue hz =>
      have HT := Aside0.mk ht; have HS := Aside0.mk hs; have HM2 := Aside0.mk hM; have HI2 := Aside0.mk hI; have HB2 := Aside0.mk hb0; have HK2 := Aside0.mk hK
      have hc := mades_cell hM
      have hf := mades_frozen hM
      clear ht hs hM hI hb0 hK
      go_wp2_with fail
      have kc := conv_one
      have kz : ∀ x : Int, (strOfNums [x]).size = 1 := fun _ => rfl
      have kw : (9223372036854775807 < s.size + 1) = False := eq_false (by omega)
      go_region_with (go_at_call 28; refine (cippuskit_Urn_Up.calls _ _ _ _ _ _ _ w0 _ (by exact HI2.out) (by exact below_drew HB2.out) HT.out).mono ?_; rintro e w2 ⟨rfl, hI3, hB3, hK3⟩; have hM3 := keep_mades HK2.out.1 HM2.out hgw hK3; have hc3 := mades_cell hM3; have hf3 := mades_frozen hM3; have hl3 : w.heap.size + 1 < w2.heap.size := blk_lt hM3.2)
      all_goals
        go_wp2_with fail
        go_roundw
        case rel =>
          refine ⟨i - 1, by go_num, by omega, s ++ strOfNums [(wrap64 (65 + t1)) % 256], t2, t3, ?_, ?_, ?_, ?_, ?_⟩
          rotate_left 4
          · rw [show (i - 1).toNat = n by omega]; exact HS.out
          · exact (hI3.far (by simp; omega) _).alloc _
          · exact below_alloc (hB3.setCell (Nat.le_trans HB.out.size (by simp)) _) _
          · exact keep_alloc (keep_far (HK2.out.trans hK3 (.inl rfl)) (by simp) _) _
          · exact set_mades hM3 _ _
        case measure => simp [intOf]; omega
    · have h0 : i.toNat = 0 := by omega
      rw [h0, stoneGo] at hs
      simp only [Option.some.injEq, Prod.mk.injEq] at hs
      obtain ⟨rfl, rfl, rfl⟩ := hs
      have HI2 := Aside0.mk hI; have HB2 := Aside0.mk hb0; have HK2 := Aside0.mk hK; have HM2 := Aside0.mk hM
      clear hI hb0 hK hM
      go_wp2_with fail
      refine (cippuskit_Urn_From.calls _ _ _ _ _ _ _ _ w0 _ HI2.out HB2.out H3.out).mono ?_
      rintro e w2 ⟨rfl, hI3, hB3, hK3⟩
      have hM3 := keep_mades HK2.out.1 HM2.out hgw hK3
      have HI3 := Aside0.mk hI3; have HB3 := Aside0.mk hB3; have HK3 := Aside0.mk (HK2.out.trans hK3 (.inl rfl)); have HM3 := Aside0.mk hM3
      clear hI3 hB3 hK3 hM3
      go_wp2_with fail
      go_loopw [12, 13] (fun v12 v13 wr => ∃ i : Int, v13 = .int .i64 i ∧ i ≤ 9223372036854775807 ∧ RelCopy w0 w g a3 s z1 z2 z3 z4 i.toNat v12 wr) (fun _ v _ => (intOf v).toNat)
      case atStart => exact ⟨n3, rfl, from_le H3.out, [], [], _, _, _, HI3.out, HB3.out, HK3.out, HM3.out, Kd.R_nil _ _ _ _ _, Kd.R_nil _ _ _ _ _, H4.out⟩
      case round =>
        obtain ⟨i, rfl, hi, L, S, a, b, v, hI, hb0, hK, hM, hL, hS, hc⟩ := hrel
        have HI4 := Aside0.mk hI; have HB4 := Aside0.mk hb0; have HK4 := Aside0.mk hK; have HM4 := Aside0.mk hM; have HL4 := Aside0.mk hL; have HS4 := Aside0.mk hS
        clear hI hb0 hK hM hL hS
        by_cases hlt : 0 < i
        · obtain ⟨n, hn⟩ : ∃ n, i.toNat = n + 1 := ⟨i.toNat - 1, by omega⟩
          rw [hn, copyGo, Option.bind_eq_some_iff] at hc
          obtain ⟨⟨t1, t2, t3⟩, ht, hc⟩ := hc
          rw [Option.bind_eq_some_iff] at hc
          obtain ⟨⟨u1, u2, u3⟩, hu, hc⟩ := hc
          dsimp only at hu hc
          go_upto_block 3 with fail
          go_cut [12] (fun s12 wx => RelCopy w0 w g a3 s z1 z2 z3 z4 n s12 wx)
          case first =>
            obtain ⟨A, c, rfl, hLc, hLr⟩ := Kd.R_reads HL4.out
            have HT := Aside0.mk ht; have HU := Aside0.mk hu
            clear ht hu
            by_cases hneg : t1 < 0
            · rw [if_pos hneg, if_neg (by omega)] at hc
              simp only [Option.bind_some] at hc
              rw [Option.bind_eq_some_iff] at hc
              obtain ⟨⟨e1, e2, e3⟩, he, hc⟩ := hc
              split at hc
              case isFalse => cases hc
              case isTrue hroom =>
              have HE := Aside0.mk he; have HC := Aside0.mk hc
              clear he hc
              have ht := HT.out
              rw [show wrap64 ((L.length : Int) - 1) = (L.length : Int) - 1 by unfold wrap64; omega] at ht
              have HT := Aside0.mk ht
              clear ht
              have hnegb : decide (t1 < 0) = true := decide_eq_true hneg
              have hnegc : decide (0 ≤ t1) = false := decide_eq_false (by omega)
              go_wp2_with fail
              (with_reducible refine (cippuskit_Urn_From.calls _ _ _ _ _ _ _ _ w0 _ HI4.out HB4.out HT.out).mono ?_)
              rintro e w5 ⟨rfl, hI5, hB5, hK5⟩
              go_wp2_with fail
              (with_reducible refine (cippuskit_Urn_Up.calls _ _ _ _ _ _ _ w0 _ hI5 hB5 HU.out).mono ?_)
              rintro e w6 ⟨rfl, hI6, hB6, hK6⟩
              have hM6 := keep_mades (Nat.le_trans HK4.out.1 hK5.1) (keep_mades HK4.out.1 HM4.out hgw hK5) hgw hK6
              have hc6 := mades_cell hM6
              have hl6 : w.heap.size + 1 < w6.heap.size := blk_lt hM6.2
              go_wp2_with fail
              (with_reducible refine (erred_calls _ _ _ _ _ _ _ _ w0 _ (hI6.alloc _) (below_alloc hB6 _) HE.out).mono ?_)
              rintro e w7 ⟨rfl, hI7, hB7, hK7⟩
              have hM7 : Mades w7 w.heap.size s v := keep_mades (by simp; omega) ⟨blk_alloc hM6.1 _, blk_alloc hM6.2 _⟩ hgw hK7
              have hbx7 : w7.heap[w6.heap.size]? = some (.cells #[.string ⟨#[]⟩, .int .i64 u1, .bool true] 24 (0, 0)) := hK7.blk (blk_new w6 _) (by omega) (by simp)
              have hx0 := (blk_cell hbx7 0).trans rfl
              have hf0 := blk_frozen hbx7 0
              go_upto_region 16 with fail
              have hF0 := f16_mk (x := ⟨e1, u1, true⟩) hgw HB.out HI4.out HK4.out HM4.out HL4.out HS4.out (hK5.trans hK6 (.inl rfl)) hK7 hI7 hB7
              generalize (w7.setCell { block := w6.heap.size, off := 0 } (Value.string e1)) = W8 at hF0 ⊢
              obtain ⟨bx, hbx⟩ : ∃ bx, w6.heap.size = bx := ⟨_, rfl⟩
              rw [hbx] at hF0 ⊢
              have hF := Aside0.mk hF0
              clear hF0 hI5 hB5 hK5 hI6 hB6 hK6 hM6 hc6 hl6 hI7 hB7 hK7 hM7 hx0 hf0
              try clear hbx
              clear hLc hLr HI4 HB4 HK4 HM4 HL4 HS4 HI3 HB3 HK3 HM3 HI2 HB2 HK2 HM2 HI1 HB1 HM HK HT HU HE H1 H2 H3 H4
              have hx0 : W8.cell? ⟨bx, 0, none⟩ = some (.string e1) := (blk_cell hF.out.hbx 0).trans rfl
              have hx1 : W8.cell? ⟨bx, 1, none⟩ = some (.int .i64 u1) := (blk_cell hF.out.hbx 1).trans rfl
              have hx2 : W8.cell? ⟨bx, 2, none⟩ = some (.bool true) := (blk_cell hF.out.hbx 2).trans rfl
              have hy1 : W8.cell? ⟨w.heap.size + 1, 1, none⟩ = some v := mades_cell1 hF.out.hM
              have hbxne : w.heap.size + 1 ≠ bx := fun e_ => by
                have h1 := hF.out.hbx
                rw [← e_, hF.out.hM.2] at h1
                simp at h1
              have hbxl : bx < W8.heap.size := blk_lt hF.out.hbx
              have hml : w.heap.size + 1 < W8.heap.size := blk_lt hF.out.hM.2
              have hml1 : w.heap.size < W8.heap.size := by omega
              have hbxl1 : bx < W8.heap.size + 1 := by omega
              have hbxl2 : bx ≤ W8.heap.size := by omega
              have hLen : L.length + 1 < 4398046511104 := hroom.1
              have hSen : S.length + 1 < 17592186044416 := hroom.2
              have hLne : Aside0 (∀ k, W8.heap.size ≤ k → some k ≠ (Value.slice A L.length c).ownBlock) := ⟨fun k hk e => by
                have := Kd.R_typed hF.out.hL k e.symm
                obtain ⟨_, h2⟩ := this
                have := blk_lt h2
                omega⟩
              go_region_law (first
                | (refine OLies.R_append_lies_step k24 (w0 := W8) w.heap.size rfl (.tmp 72) (.tmp 74) 22 24 (.agg #[.string ⟨#[]⟩, .int .i64 0, .bool false]) 32 rfl Try.underlying22 info24 rfl (by decide) (by omega) (.slice A L.length c) L ⟨e1, u1, true⟩ [.string e1, .int .i64 u1, .bool true] (fun _ => True) (fun _ => False) _ (0, 0) rfl rfl ?_ (k24_mkM _ _ _ _) (fun _ h => h.elim) (fun _ _ => trivial) ?_ ?_ ?_ ?_ ?_
                   · first | exact blk_new _ _ | exact blk_alloc (blk_new _ _) _ | exact blk_new2 _ _ _
                   · repeat (first | exact hF.out.hL | apply Kd.R_alloc | apply Kd.R_drew)
                   · repeat (first | exact Below.refl _ _ | apply below_drew | refine Below.alloc ?_ (by first | (simp; done) | (simp; omega) | omega) _)
                   · first | (simp; done) | (simp; omega) | omega
                   · omega
                   intro vA wA hLA hBA hgA hatA
                   have hkeepA := Aside0.mk (keepA hgA)
                   have hMA : Mades wA w.heap.size s v := across_mades (by first | exact ⟨hF.out.hM.1, hF.out.hM.2⟩ | exact ⟨blk_alloc hF.out.hM.1 _, blk_alloc hF.out.hM.2 _⟩ | exact ⟨blk_alloc (blk_alloc hF.out.hM.1 _) _, blk_alloc (blk_alloc hF.out.hM.2 _) _⟩) (by repeat (first | exact hF.out.hL | apply Kd.R_alloc | apply Kd.R_drew)) hgA (by decide)
                   have hSA : Kd.R (Kd.int .i64) 3 wA w.heap.size (fun _ => True) v S := across_R (by repeat (first | exact hF.out.hS | apply Kd.R_alloc | apply Kd.R_drew)) (by repeat (first | exact hF.out.hL | apply Kd.R_alloc | apply Kd.R_drew)) hgA (by decide)
                   have hbxA := keepA hgA bx _ (by first | exact hF.out.hbx | exact blk_alloc hF.out.hbx _ | exact blk_alloc (blk_alloc hF.out.hbx _) _) hF.out.hne
                   have hxA0 := (blk_cell hbxA 0).trans rfl
                   have hxA1 := (blk_cell hbxA 1).trans rfl
                   have hxA2 := (blk_cell hbxA 2).trans rfl
                   have hyA : wA.cell? ⟨w.heap.size + 1, 1, none⟩ = some v := mades_cell1 hMA
                   have hmA : w.heap.size + 1 < wA.heap.size := blk_lt hMA.2
                   have hmA1 : w.heap.size < wA.heap.size := by omega)
                | (refine OLies.R_append_lies_step (Kd.int .i64) (w0 := W8) w.heap.size rfl (.tmp 77) (.tmp 79) 25 3 (.int .i64 0) 8 rfl Try.underlying25 info3 rfl (by decide) (by omega) v S t1 [.int .i64 t1] (fun _ => True) (fun _ => False) _ (0, 0) rfl rfl ?_ rfl (fun _ h => h.elim) (fun _ _ => trivial) ?_ ?_ ?_ ?_ ?_
                   · first | exact blk_new _ _ | exact hkeepA.out _ _ (blk_new2 _ _ _) (hLne.out _ (by omega)) | exact hkeepA.out _ _ (blk_alloc (blk_new _ _) _) (hLne.out _ (by omega)) | exact hkeepA.out _ _ (blk_new _ _) (hLne.out _ (by omega))
                   · repeat (first | exact hSA | apply Kd.R_alloc | apply Kd.R_drew)
                   · repeat (first | exact hBA | apply below_drew | refine Below.alloc ?_ (by first | (simp; done) | (simp; omega) | omega) _)
                   · first | (simp; done) | (simp; omega) | omega
                   · omega
                   intro vB wB hSB hBB hgB hatB
                   obtain ⟨AB, cB, hvB⟩ := Kd.R_slice hSB
                   rw [List.length_append] at hvB
                   simp only [List.length_cons, List.length_nil] at hvB
                   subst hvB
                   have hMB : Mades wB w.heap.size s v := across_mades (by first | exact ⟨hMA.1, hMA.2⟩ | exact ⟨blk_alloc hMA.1 _, blk_alloc hMA.2 _⟩) (by repeat (first | exact hSA | apply Kd.R_alloc | apply Kd.R_drew)) hgB (by decide)
                   have hLB : Kd.R k24 24 wB w.heap.size (fun _ => True) vA (L ++ [⟨e1, u1, true⟩]) := across_R (by repeat (first | exact hLA | apply Kd.R_alloc | apply Kd.R_drew)) (by repeat (first | exact hSA | apply Kd.R_alloc | apply Kd.R_drew)) hgB (by decide)
                   have hbxB := keepA hgB bx _ (by first | exact hbxA | exact blk_alloc hbxA _) (Kd.R_ne hSA hbxA (by decide))
                   have hxB0 := (blk_cell hbxB 0).trans rfl
                   have hxB1 := (blk_cell hbxB 1).trans rfl
                   have hxB2 := (blk_cell hbxB 2).trans rfl
                   have hyB : wB.cell? ⟨w.heap.size + 1, 1, none⟩ = some v := mades_cell1 hMB
                   have hfB : wB.frozen? ⟨w.heap.size + 1, 1, none⟩ = false := mades_frozen1 hMB
                   have HAll := Aside0.mk (f17_mk hgw HB.out hF.out hBB hMB hLB hSB)))
              all_goals
                go_wp2_with fail
                go_meet
                exact ⟨_, _, _, _, _, HAll.out.hI, HAll.out.hB, HAll.out.hK, HAll.out.hM, HAll.out.hL, HAll.out.hS, HC.out⟩
            · rw [if_neg hneg] at hc
              rw [Option.bind_eq_some_iff] at hc
              obtain ⟨⟨o1, o2, o3⟩, ho, hc⟩ := hc
              dsimp only at hc
              rw [if_pos (by omega)] at hc
              split at hc
              case isFalse => simp at hc
              case isTrue hlen =>
              simp only [Option.bind_some] at hc
              rw [Option.bind_eq_some_iff] at hc
              obtain ⟨⟨e1, e2, e3⟩, he, hc⟩ := hc
              split at hc
              case isFalse => cases hc
              case isTrue hroom =>
              have HE := Aside0.mk he; have HC := Aside0.mk hc; have HO := Aside0.mk ho
              clear he hc ho
              have ht := HT.out
              rw [show wrap64 ((L.length : Int) - 1) = (L.length : Int) - 1 by unfold wrap64; omega] at ht
              have HT := Aside0.mk ht
              clear ht
              have hnegb : decide (t1 < 0) = false := decide_eq_false hneg
              have hnegc : decide (0 ≤ t1) = true := decide_eq_true (by omega)
              have hneg0 : 0 ≤ t1 := by omega
              obtain ⟨ad, rfl, hxa, hxb, hxc⟩ := at_T24 hLr t1 hneg0 hlen
              go_wp2_with fail
              (with_reducible refine (cippuskit_Urn_From.calls _ _ _ _ _ _ _ _ w0 _ HI4.out HB4.out HT.out).mono ?_)
              rintro e w5 ⟨rfl, hI5, hB5, hK5⟩
              go_wp2_with fail
              (with_reducible refine (cippuskit_Urn_Up.calls _ _ _ _ _ _ _ w0 _ hI5 hB5 HU.out).mono ?_)
              rintro e w6 ⟨rfl, hI6, hB6, hK6⟩
              go_wp2_with fail
              (with_reducible refine (cippuskit_Urn_Odds.calls _ _ _ _ _ _ _ _ w0 _ hI6 hB6 HO.out).mono ?_)
              rintro e wo ⟨rfl, hIo, hBo, hKo⟩
              have hMo := keep_mades (Nat.le_trans (Nat.le_trans HK4.out.1 hK5.1) hK6.1) (keep_mades (Nat.le_trans HK4.out.1 hK5.1) (keep_mades HK4.out.1 HM4.out hgw hK5) hgw hK6) hgw hKo
              have hco := mades_cell hMo
              have hlo : w.heap.size + 1 < wo.heap.size := blk_lt hMo.2
              have hgne : (ad.add (t1.toNat * 3)).block ≠ g := fun e_ => by
                have h1 : (ad.add (t1.toNat * 3)).block = ad.block := by unfold Addr.add; split <;> rfl
                obtain ⟨cl, h2⟩ := Kd.R_typed HL4.out ad.block rfl
                rw [← h1, e_, HI4.out.1] at h2
                simp at h2
              have hxo : wo.cell? (ad.add (t1.toNat * 3)) = some (.string (rd_T24 L t1).f0) := keep_cell ((hK5.trans hK6 (.inl rfl)).trans hKo (.inl rfl)) hxa hgne
              have hxl : (ad.add (t1.toNat * 3)).block < wo.heap.size := World.block_lt_of_cell? wo _ hxo
              go_wp2_with fail
              (with_reducible refine (erred_calls _ _ _ _ _ _ _ _ w0 _ (hIo.alloc _) (below_alloc hBo _) HE.out).mono ?_)
              rintro e w7 ⟨rfl, hI7, hB7, hK7⟩
              have hM7 : Mades w7 w.heap.size s v := keep_mades (by simp; omega) ⟨blk_alloc hMo.1 _, blk_alloc hMo.2 _⟩ hgw hK7
              have hbx7 : w7.heap[wo.heap.size]? = some (.cells #[.string ⟨#[]⟩, .int .i64 u1, .bool o1] 24 (0, 0)) := hK7.blk (blk_new wo _) (by omega) (by simp)
              have hx0 := (blk_cell hbx7 0).trans rfl
              have hf0 := blk_frozen hbx7 0
              go_upto_region 16 with fail
              have hF0 := f16_mk (x := ⟨e1, u1, o1⟩) hgw HB.out HI4.out HK4.out HM4.out HL4.out HS4.out ((hK5.trans hK6 (.inl rfl)).trans hKo (.inl rfl)) hK7 hI7 hB7
              generalize (w7.setCell { block := wo.heap.size, off := 0 } (Value.string e1)) = W8 at hF0 ⊢
              obtain ⟨bx, hbx⟩ : ∃ bx, wo.heap.size = bx := ⟨_, rfl⟩
              rw [hbx] at hF0 ⊢
              have hF := Aside0.mk hF0
              clear hF0 hI5 hB5 hK5 hI6 hB6 hK6 hIo hBo hKo hMo hco hlo hI7 hB7 hK7 hM7 hx0 hf0
              try clear hbx
              clear hLc hLr HI4 HB4 HK4 HM4 HL4 HS4 HI3 HB3 HK3 HM3 HI2 HB2 HK2 HM2 HI1 HB1 HM HK HT HU HE H1 H2 H3 H4
              have hx0 : W8.cell? ⟨bx, 0, none⟩ = some (.string e1) := (blk_cell hF.out.hbx 0).trans rfl
              have hx1 : W8.cell? ⟨bx, 1, none⟩ = some (.int .i64 u1) := (blk_cell hF.out.hbx 1).trans rfl
              have hx2 : W8.cell? ⟨bx, 2, none⟩ = some (.bool o1) := (blk_cell hF.out.hbx 2).trans rfl
              have hy1 : W8.cell? ⟨w.heap.size + 1, 1, none⟩ = some v := mades_cell1 hF.out.hM
              have hbxne : w.heap.size + 1 ≠ bx := fun e_ => by
                have h1 := hF.out.hbx
                rw [← e_, hF.out.hM.2] at h1
                simp at h1
              have hbxl : bx < W8.heap.size := blk_lt hF.out.hbx
              have hml : w.heap.size + 1 < W8.heap.size := blk_lt hF.out.hM.2
              have hml1 : w.heap.size < W8.heap.size := by omega
              have hbxl1 : bx < W8.heap.size + 1 := by omega
              have hbxl2 : bx ≤ W8.heap.size := by omega
              have hLen : L.length + 1 < 4398046511104 := hroom.1
              have hSen : S.length + 1 < 17592186044416 := hroom.2
              have hLne : Aside0 (∀ k, W8.heap.size ≤ k → some k ≠ (Value.slice (some ad) L.length c).ownBlock) := ⟨fun k hk e => by
                have := Kd.R_typed hF.out.hL k e.symm
                obtain ⟨_, h2⟩ := this
                have := blk_lt h2
                omega⟩
              go_region_law (first
                | (refine OLies.R_append_lies_step k24 (w0 := W8) w.heap.size rfl (.tmp 72) (.tmp 74) 22 24 (.agg #[.string ⟨#[]⟩, .int .i64 0, .bool false]) 32 rfl Try.underlying22 info24 rfl (by decide) (by omega) (.slice (some ad) L.length c) L ⟨e1, u1, o1⟩ [.string e1, .int .i64 u1, .bool o1] (fun _ => True) (fun _ => False) _ (0, 0) rfl rfl ?_ (k24_mkM _ _ _ _) (fun _ h => h.elim) (fun _ _ => trivial) ?_ ?_ ?_ ?_ ?_
                   · first | exact blk_new _ _ | exact blk_alloc (blk_new _ _) _ | exact blk_new2 _ _ _
                   · repeat (first | exact hF.out.hL | apply Kd.R_alloc | apply Kd.R_drew)
                   · repeat (first | exact Below.refl _ _ | apply below_drew | refine Below.alloc ?_ (by first | (simp; done) | (simp; omega) | omega) _)
                   · first | (simp; done) | (simp; omega) | omega
                   · omega
                   intro vA wA hLA hBA hgA hatA
                   have hkeepA := Aside0.mk (keepA hgA)
                   have hMA : Mades wA w.heap.size s v := across_mades (by first | exact ⟨hF.out.hM.1, hF.out.hM.2⟩ | exact ⟨blk_alloc hF.out.hM.1 _, blk_alloc hF.out.hM.2 _⟩ | exact ⟨blk_alloc (blk_alloc hF.out.hM.1 _) _, blk_alloc (blk_alloc hF.out.hM.2 _) _⟩) (by repeat (first | exact hF.out.hL | apply Kd.R_alloc | apply Kd.R_drew)) hgA (by decide)
                   have hSA : Kd.R (Kd.int .i64) 3 wA w.heap.size (fun _ => True) v S := across_R (by repeat (first | exact hF.out.hS | apply Kd.R_alloc | apply Kd.R_drew)) (by repeat (first | exact hF.out.hL | apply Kd.R_alloc | apply Kd.R_drew)) hgA (by decide)
                   have hbxA := keepA hgA bx _ (by first | exact hF.out.hbx | exact blk_alloc hF.out.hbx _ | exact blk_alloc (blk_alloc hF.out.hbx _) _) hF.out.hne
                   have hxA0 := (blk_cell hbxA 0).trans rfl
                   have hxA1 := (blk_cell hbxA 1).trans rfl
                   have hxA2 := (blk_cell hbxA 2).trans rfl
                   have hyA : wA.cell? ⟨w.heap.size + 1, 1, none⟩ = some v := mades_cell1 hMA
                   have hmA : w.heap.size + 1 < wA.heap.size := blk_lt hMA.2
                   have hmA1 : w.heap.size < wA.heap.size := by omega)
                | (refine OLies.R_append_lies_step (Kd.int .i64) (w0 := W8) w.heap.size rfl (.tmp 77) (.tmp 79) 25 3 (.int .i64 0) 8 rfl Try.underlying25 info3 rfl (by decide) (by omega) v S t1 [.int .i64 t1] (fun _ => True) (fun _ => False) _ (0, 0) rfl rfl ?_ rfl (fun _ h => h.elim) (fun _ _ => trivial) ?_ ?_ ?_ ?_ ?_
                   · first | exact blk_new _ _ | exact hkeepA.out _ _ (blk_new2 _ _ _) (hLne.out _ (by omega)) | exact hkeepA.out _ _ (blk_alloc (blk_new _ _) _) (hLne.out _ (by omega)) | exact hkeepA.out _ _ (blk_new _ _) (hLne.out _ (by omega))
                   · repeat (first | exact hSA | apply Kd.R_alloc | apply Kd.R_drew)
                   · repeat (first | exact hBA | apply below_drew | refine Below.alloc ?_ (by first | (simp; done) | (simp; omega) | omega) _)
                   · first | (simp; done) | (simp; omega) | omega
                   · omega
                   intro vB wB hSB hBB hgB hatB
                   obtain ⟨AB, cB, hvB⟩ := Kd.R_slice hSB
                   rw [List.length_append] at hvB
                   simp only [List.length_cons, List.length_nil] at hvB
                   subst hvB
                   have hMB : Mades wB w.heap.size s v := across_mades (by first | exact ⟨hMA.1, hMA.2⟩ | exact ⟨blk_alloc hMA.1 _, blk_alloc hMA.2 _⟩) (by repeat (first | exact hSA | apply Kd.R_alloc | apply Kd.R_drew)) hgB (by decide)
                   have hLB : Kd.R k24 24 wB w.heap.size (fun _ => True) vA (L ++ [⟨e1, u1, o1⟩]) := across_R (by repeat (first | exact hLA | apply Kd.R_alloc | apply Kd.R_drew)) (by repeat (first | exact hSA | apply Kd.R_alloc | apply Kd.R_drew)) hgB (by decide)
                   have hbxB := keepA hgB bx _ (by first | exact hbxA | exact blk_alloc hbxA _) (Kd.R_ne hSA hbxA (by decide))
                   have hxB0 := (blk_cell hbxB 0).trans rfl
                   have hxB1 := (blk_cell hbxB 1).trans rfl
                   have hxB2 := (blk_cell hbxB 2).trans rfl
                   have hyB : wB.cell? ⟨w.heap.size + 1, 1, none⟩ = some v := mades_cell1 hMB
                   have hfB : wB.frozen? ⟨w.heap.size + 1, 1, none⟩ = false := mades_frozen1 hMB
                   have HAll := Aside0.mk (f17_mk hgw HB.out hF.out hBB hMB hLB hSB)))
              all_goals
                go_wp2_with fail
                go_meet
                exact ⟨_, _, _, _, _, HAll.out.hI, HAll.out.hB, HAll.out.hK, HAll.out.hM, HAll.out.hL, HAll.out.hS, HC.out⟩
          case rest =>
            have hcut' := Aside0.mk hcut
            clear hcut
            go_wp2_with fail
            go_roundw
            case rel => exact ⟨i - 1, by go_num, by omega, by rw [show (i - 1).toNat = n by omega]; exact hcut'.out⟩
            case measure => simp [intOf]; omega
        · have h0 : i.toNat = 0 := by omega
          rw [h0, copyGo] at hc
          simp only [Option.some.injEq, Prod.mk.injEq] at hc
          obtain ⟨rfl, rfl, rfl, rfl⟩ := hc
          obtain ⟨A, c, rfl⟩ := Kd.R_slice HL4.out
          obtain ⟨A2, c2, rfl⟩ := Kd.R_slice HS4.out
          have hm0 := mades_cell HM4.out
          have hm1 := mades_cell1 HM4.out
          have hz0 : wr.cell? ⟨w.heap.size, 0, none⟩ = some (.string ⟨#[]⟩) := (blk_cell HM4.out.1 0).trans rfl
          have hz1 : wr.cell? ⟨w.heap.size, 1, none⟩ = some (.slice none 0 0) := (blk_cell HM4.out.1 1).trans rfl
          have hf0 := blk_frozen HM4.out.1 0
          have hf1 := blk_frozen HM4.out.1 1
          go_wp2_with fail
          go_region
          go_wp2_with fail
          have hW : ((wr.setCell ⟨w.heap.size, 0, none⟩ (.string s)).setCell ⟨w.heap.size, 1, none⟩ (.slice A2 S.length c2)).heap[w.heap.size]? = some (.cells #[.string s, .slice A2 S.length c2] 27 (0, 0)) := by
            have h1 := blk_set HM4.out.1 0 (.string s)
            simpa using blk_set h1 1 (.slice A2 S.length c2)
          have hk : ∀ k, k ≠ w.heap.size → ((wr.setCell ⟨w.heap.size, 0, none⟩ (.string s)).setCell ⟨w.heap.size, 1, none⟩ (.slice A2 S.length c2)).heap[k]? = wr.heap[k]? := fun k hk => by rw [Below.heap_setCell _ _ _ k hk, Below.heap_setCell _ _ _ k hk]
          refine bodyPost_ret (results_tc rfl _ _ w.heap.size 27 #[.string s, .slice A2 S.length c2] (0, 0) _ rfl hW Try.underlying27 rfl (by kernel_rfl)) rfl ?_
          refine ⟨_, _, rfl, ?_, ?_, ?_, ?_, ?_⟩
          · exact Kd.R_drew (Kd.R_mono (Kd.R_step (Kd.R_types HL4.out HM4.out.1 (by decide)) (fun k ok _ => hk k ok.2)) (fun _ _ => trivial))
          · exact Kd.R_drew (Kd.R_mono (Kd.R_step (Kd.R_types HS4.out HM4.out.1 (by decide)) (fun k ok _ => hk k ok.2)) (fun _ _ => trivial))
          · exact ((HI4.out.far (by show g ≠ w.heap.size; omega) _).far (by show g ≠ w.heap.size; omega) _).drew
          · exact below_drew ((HB4.out.setCell HB.out.size _).setCell HB.out.size _)
          · exact keep_drew (keep_far (keep_far HK4.out (Nat.le_refl _) _) (Nat.le_refl _) _)
end Go.Proofs.Ytegjollhajgcdaa.P.OwnUrn
namespace Go.Proofs.Ytegjollhajgcdaa.P
open Go.RowKit Go.Proofs.YtegjollhajgcdaaW.PrintWords Go.Proofs.YtegjollhajgcdaaW.PrintLast Go.Proofs.YtegjollhajgcdaaW.PrintMore
attribute [local go_sem] max2_int min2_int max_two min_two max_three min_three max_four min_four   -- for this text's walks alone
set_option linter.unusedVariables false
set_option linter.unusedSimpArgs false
def cippuskit_CopiesOf.f (s0_0 : Int) (s0_1 : Int) (a1 : Int) (a2 : Int) (a3 : Int) : Option ((List (S24)) × ByteArray × List Int × Int × Int) := OwnUrn.copiesOf s0_0 s0_1 a1 a2 a3
theorem cippuskit_CopiesOf.calls (g : Nat) (s0_0 : Int) (s0_1 : Int) (a1 : Int) (a2 : Int) (a3 : Int) (r1 : List (S24)) (r2 : ByteArray) (r3 : List Int) (r4 : Int) (r5 : Int) (w0 w : World) (hI : IsS72 w0 w g s0_0 s0_1) (hB : Below w0.heap.size w0 w) (h : cippuskit_CopiesOf.f s0_0 s0_1 a1 a2 a3 = some (r1, r2, r3, r4, r5)) :
    Calls Try.prog 13 #[.pointer (some ⟨g, 0, none⟩), .int .i64 a1, .int .i64 a2, .int .i64 a3] w fun e w' => ∃ v0_ v2_ : Value, e = .returned (.tuple #[v0_, .agg #[.string r2, v2_]]) ∧ Kd.R k24 24 w' w.heap.size (fun _ => True) v0_ r1 ∧ Kd.R (Kd.int .i64) 3 w' w.heap.size (fun _ => True) v2_ r3 ∧ IsS72 w0 w' g r4 r5 ∧ Below w0.heap.size w0 w' ∧ KeepBut w w' g none := by
  exact OwnUrn.copiesOf_calls g s0_0 s0_1 a1 a2 a3 r1 r2 r3 r4 r5 w0 w hI hB h
end Go.Proofs.Ytegjollhajgcdaa.P
namespace Go.Proofs.Ytegjollhajgcdaa.P
open Go.RowKit Go.Proofs.YtegjollhajgcdaaW.PrintWords Go.Proofs.YtegjollhajgcdaaW.PrintLast Go.Proofs.YtegjollhajgcdaaW.PrintMore
attribute [local go_sem] max2_int min2_int max_two min_two max_three min_three max_four min_four   -- for this text's walks alone
set_option linter.unusedVariables false
set_option linter.unusedSimpArgs false
def cippuskit_NewUrn.f (l0 : List Int) : Option (Int × Int) := OwnUrn.newUrn l0
theorem cippuskit_NewUrn.calls (A0 : Option Addr) (c0 : Nat) (l0 : List Int) (r1 : Int) (r2 : Int) (w0 w : World) (hB : Below w0.heap.size w0 w) (hr0 : Kd.C (Kd.int .i64) w0 A0 l0.length l0) (hc0 : l0.length ≤ c0) (h : cippuskit_NewUrn.f l0 = some (r1, r2)) :
    Calls Try.prog 14 #[.slice A0 l0.length c0] w fun e w' => ∃ g_ : Nat, e = .returned (.pointer (some ⟨g_, 0, none⟩)) ∧ IsS72 w0 w' g_ r1 r2 ∧ Below w0.heap.size w0 w' ∧ Below w.heap.size w w' := by
  exact OwnUrn.newUrn_calls A0 c0 l0 r1 r2 w0 w hB hr0 hc0 h
end Go.Proofs.Ytegjollhajgcdaa.P
namespace Go.Proofs.Ytegjollhajgcdaa.P
open Go.RowKit Go.Proofs.YtegjollhajgcdaaW.PrintWords Go.Proofs.YtegjollhajgcdaaW.PrintLast Go.Proofs.YtegjollhajgcdaaW.PrintMore
attribute [local go_sem] max2_int min2_int max_two min_two max_three min_three max_four min_four   -- for this text's walks alone
set_option linter.unusedVariables false
set_option linter.unusedSimpArgs false
def cippuskit_CopyCopies.f (l0 : List (S24)) : Option ((List (S24))) := (some (([] : List (S24)) : List (S24))).bind fun y110 => (if y110.length + l0.length < 4398046511104 then (some (y110 ++ l0)) else (none))
set_option maxHeartbeats 8000000 in
set_option maxRecDepth 100000 in
theorem cippuskit_CopyCopies.calls (A0 : Option Addr) (c0 : Nat) (l0 : List (S24)) (r : List (S24)) (w : World) (hr0 : Kd.C k24 w A0 l0.length l0) (hc0 : l0.length ≤ c0) (h : cippuskit_CopyCopies.f l0 = some r) :
    Calls Try.prog 15 #[.slice A0 l0.length c0] w fun e w' => ∃ v0_ : Value, e = .returned (v0_) ∧ Kd.R k24 24 w' w.heap.size (fun _ => True) v0_ r ∧ Below w.heap.size w w' := by
  have HR0 := Aside0.mk hr0
  have HC0 := Aside0.mk hc0
  clear hr0 hc0
  have HB := Aside0.mk (Below.refl w.heap.size w)
  have H : ((some (([] : List (S24)) : List (S24))).bind fun y110 => (if y110.length + l0.length < 4398046511104 then (some (y110 ++ l0)) else (none))) = some r := h
  clear h
  obtain ⟨y110, hy110⟩ : ∃ y_ : List (S24), y_ = (([] : List (S24))) := ⟨_, rfl⟩
  replace H : (if y110.length + l0.length < 4398046511104 then (some (y110 ++ l0)) else (none)) = some r := by first | (rw [hy110]; with_reducible exact H) | (have H2_ := (Option.bind_some _ _).symm.trans H; rw [hy110]; with_reducible exact H2_) | (have H2_ := (Option.bind_some _ _).symm.trans H; with_reducible exact H2_) | with_reducible exact H | (rw [hy110]; exact H) | exact H
  have Ny110 := Aside0.mk hy110
  clear hy110
  by_cases c2 : y110.length + l0.length < 4398046511104
  · rw [if_pos c2] at H
    have LMc2 := Aside0.mk c2
    clear c2
    obtain ⟨y113, hy113⟩ : ∃ y_ : List (S24), y_ = (y110 ++ l0) := ⟨_, rfl⟩
    replace H : (some y113) = some r := by first | (rw [hy113]; with_reducible exact H) | (have H2_ := (Option.bind_some _ _).symm.trans H; rw [hy113]; with_reducible exact H2_) | (have H2_ := (Option.bind_some _ _).symm.trans H; with_reducible exact H2_) | with_reducible exact H | (rw [hy113]; exact H) | exact H
    have Ny113 := Aside0.mk hy113
    clear hy113
    obtain rfl := Option.some.inj H
    go_enter Try.func15, Try.ntmps15
    go_wp2_with (first | ((with_reducible refine gate_dst (N := 3) rfl ?_); refine Kd.R_lit k24 _ 24 ?hg (N := 3) ?hd (xs := ([] : List (S24))) (inner := []) (ok := fun _ => True) (okp := fun _ => True) ?hr ?hp (fun _ hk => hk) trivial (Below.refl _ _) (Nat.le_refl _) (by simp) ?_; (case hd => rfl); (case hg => rfl); (case hr => first | (go_simp; done) | (go_simp; rfl)); (case hp => exact (Reps.none _ _)); intro v111 w3 ho4 hb hg_ hnew_; clear hg_ hnew_; (first | rw [← Ny110.out] at ho4 | (simp only [Int.reduceToNat] at ho4; rw [← Ny110.out] at ho4)); have n0_ := Aside0.mk (Kd.R_lower ho4 (below_size (by repeat (first | (with_reducible first | exact HB.out | apply below_alloc | apply pw_below_drewN | apply below_drew1) | exact HB.out)))); have n1_ := Aside0.mk (below_step (by repeat (first | (with_reducible first | exact HB.out | apply below_alloc | apply pw_below_drewN | apply below_drew1) | exact HB.out)) hb); clear HB; have HO112 := n0_; have HB := n1_; clear n0_ n1_; clear hb ho4) | ((with_reducible refine gate_builtin (b := .append) (xs := #[.tmp 3, .tmp 4]) rfl ?_); at_builtin; refine Kd.R_append_rows k24 (w0 := w) w.heap.size rfl (.tmp 3) (.tmp 4) 22 24 (.agg #[(.string ⟨#[]⟩), (.int .i64 0), (.bool false)]) 32 rfl Try.underlying22 info24 rfl (by decide) (by omega) v111 y110 l0 _ _ _ (fun _ => True) (fun _ => False) rfl rfl ?aO ?aR (fun _ _ h => h) (fun _ h => h.elim) ?aF ?aB ?aS ?aL ?_; (case aR => repeat (first | exact (Kd.C_below HR0.out HB.out) | (with_reducible refine Kd.C_alloc ?_ _) | (with_reducible refine Kd.C_drewN ?_ _) | (with_reducible refine Kd.C_drew ?_))); (case aB => exact (by repeat (first | (with_reducible first | exact HB.out | apply below_alloc | apply pw_below_drewN | apply below_drew1) | exact HB.out))); (case aF => exact (fun _ _ => trivial)); (case aO => exact (by (with_reducible repeat (first | apply Kd.R_alloc | apply Kd.R_drewN | apply Kd.R_drew)); exact HO112.out)); (case aS => exact (below_size (by repeat (first | (with_reducible first | exact HB.out | apply below_alloc | apply pw_below_drewN | apply below_drew1) | exact HB.out)))); (case aL => have := LMc2.out; omega); intro v114 w5 ho hb hg hat; rw [← Ny113.out] at ho; have n0_ := Aside0.mk (hb); have n1_ := Aside0.mk (ho); clear HB; clear HO112; have HB := n0_; have HO115 := n1_; clear n0_ n1_; clear ho hb hg hat))
    go_ret
    exact ⟨_, by first | rfl | (simp [errW_none, errW_some] <;> rfl) | (simp [*, errW_none, errW_some] <;> rfl), by (with_reducible repeat (first | apply Kd.R_alloc | apply Kd.R_drewN | apply Kd.R_drew)); exact HO115.out, by repeat (first | (with_reducible first | exact HB.out | apply below_alloc | apply pw_below_drewN | apply below_drew1) | exact HB.out)⟩
  · rw [if_neg c2] at H
    exact absurd H (by simp)
end Go.Proofs.Ytegjollhajgcdaa.P
namespace Go.Proofs.Ytegjollhajgcdaa.P.OwnSt
open Go.RowKit Go.Proofs.YtegjollhajgcdaaW.PrintWords Go.Proofs.YtegjollhajgcdaaW.PrintLast Go.Proofs.YtegjollhajgcdaaW.PrintMore
set_option linter.unusedVariables false
set_option linter.unusedSimpArgs false
section
variable (l : List S24) (fs : Nat → Int) (place letter : Int)
def hsum (t : Nat → Int) (i : Nat) : Nat → Nat → Int
  | 0, _ => 0
  | rem + 1, p => (if hit l fs (p : Int) (t p) i = true then 1 else 0) + hsum t i rem (p + 1)
def cost (t : Nat → Int) : Nat → Nat → Int
  | 0, _ => 0
  | rem + 1, p => errsTo l fs (p : Int) (t p) l.length + cost t rem (p + 1)
def GoodT (t : Nat → Int) : Prop := ∀ p, 65 ≤ t p ∧ t p ≤ 90
def PlaceOk (t : Nat → Int) : Prop := ∀ p : Nat, (p : Int) = place → t p = letter
end
section
variable {l : List S24} {fs : Nat → Int} {place letter : Int}
theorem hsum_nonneg (t : Nat → Int) (i : Nat) : ∀ rem p, 0 ≤ hsum l fs t i rem p := by
  intro rem
  induction rem with
  | zero => intro p; exact Int.le_refl _
  | succ rem ih =>
    intro p
    have := ih (p + 1)
    unfold hsum
    split <;> omega
theorem hsum_congr (t t' : Nat → Int) (i : Nat) : ∀ rem p, (∀ q, p ≤ q → t q = t' q) → hsum l fs t i rem p = hsum l fs t' i rem p := by
  intro rem
  induction rem with
  | zero => intro p _; rfl
  | succ rem ih =>
    intro p h
    unfold hsum
    rw [h p (Nat.le_refl _), ih (p + 1) (fun q hq => h q (by omega))]
theorem cost_congr (t t' : Nat → Int) : ∀ rem p, (∀ q, p ≤ q → t q = t' q) → cost l fs t rem p = cost l fs t' rem p := by
  intro rem
  induction rem with
  | zero => intro p _; rfl
  | succ rem ih =>
    intro p h
    unfold cost
    rw [h p (Nat.le_refl _), ih (p + 1) (fun q hq => h q (by omega))]
theorem hit_other {p c : Int} (h : atB l fs p c = false) (i : Nat) (hi : i < l.length) : hit l fs p c i = (fs i == -1) := by
  unfold atB at h
  rw [← Bool.not_eq_true, List.any_eq_true] at h
  have h2 : atOne l fs p c i = false := by
    rw [← Bool.not_eq_true]
    exact fun hh => h ⟨i, List.mem_range.2 hi, hh⟩
  unfold atOne at h2
  unfold hit
  cases hf : fs i == -1 with
  | false => simp
  | true =>
    rw [hf] at h2
    simp at h2
    simp [h2]
theorem errsTo_eq {p c d : Int} (h : ∀ i, i < l.length → hit l fs p c i = hit l fs p d i) : errsTo l fs p c l.length = errsTo l fs p d l.length := by
  unfold errsTo
  rw [List.filter_congr fun i hi => h i (List.mem_range.1 hi)]
theorem fitsTo_eq {g : Nat → Int} {p c d : Int} (h : ∀ i, i < l.length → hit l fs p c i = hit l fs p d i) : fitsTo l fs g p c l.length = fitsTo l fs g p d l.length := by
  unfold fitsTo
  rw [Bool.eq_iff_iff, List.all_eq_true, List.all_eq_true]
  constructor <;> intro h2 i hi <;> have h3 := h2 i hi
  · rw [← h i (List.mem_range.1 hi)]; exact h3
  · rw [h i (List.mem_range.1 hi)]; exact h3
theorem leftTo_eq {g : Nat → Int} {p c d : Int} (h : ∀ i, i < l.length → hit l fs p c i = hit l fs p d i) : leftTo l fs g p c l.length = leftTo l fs g p d l.length := by
  funext i
  unfold leftTo
  by_cases hi : i < l.length
  · rw [h i hi]
  · simp [hi]
def valC (l : List S24) (fs : Nat → Int) (nx : (Nat → Int) → Int) (p : Int) (g : Nat → Int) (c : Int) : Int := errsTo l fs p c l.length + nx (leftTo l fs g p c l.length)
theorem fold_le (nx : (Nat → Int) → Int) (p : Int) (g : Nat → Int) : ∀ (cl : List Int) (st : Int × Bool), (cl.foldl (stepC l fs place letter nx p g) st).1 ≤ st.1 := by
  intro cl
  induction cl with
  | nil => intro st; exact Int.le_refl _
  | cons x r ih =>
    intro st
    rw [List.foldl_cons]
    refine Int.le_trans (ih _) ?_
    unfold stepC
    split
    · exact Int.le_refl _
    · split
      · show min st.1 _ ≤ st.1
        omega
      · exact Int.le_refl _
theorem fold_hit (nx : (Nat → Int) → Int) (p : Int) (g : Nat → Int) : ∀ (cl : List Int) (st : Int × Bool), (st.2 = true → ∃ d, atB l fs p d = false ∧ (fitsTo l fs g p d l.length = true → st.1 ≤ valC l fs nx p g d)) →
    ∀ c ∈ cl, (p == place && c != letter) = false → fitsTo l fs g p c l.length = true → (cl.foldl (stepC l fs place letter nx p g) st).1 ≤ valC l fs nx p g c := by
  intro cl
  induction cl with
  | nil => intro st _ c hc; simp at hc
  | cons x r ih =>
    intro st hinv c hc hex hfit
    rw [List.foldl_cons]
    rcases List.mem_cons.1 hc with rfl | hc
    · refine Int.le_trans (fold_le nx p g r _) ?_
      unfold stepC
      split
      · rename_i hs
        unfold skipC at hs
        rw [hex, Bool.false_or, Bool.and_eq_true, Bool.and_eq_true] at hs
        obtain ⟨_, h2, h3⟩ := hs
        have h2' : atB l fs p c = false := by simpa using h2
        obtain ⟨d, hd1, hd2⟩ := hinv h3
        have hh : ∀ i, i < l.length → hit l fs p c i = hit l fs p d i := fun i hi => by rw [hit_other h2' i hi, hit_other hd1 i hi]
        have h4 := hd2 (by rw [← fitsTo_eq hh]; exact hfit)
        unfold valC at h4 ⊢
        rw [errsTo_eq hh, leftTo_eq hh]
        exact h4
      · try rw [if_pos hfit]
        show min st.1 _ ≤ _
        unfold valC
        omega
    · refine ih _ ?_ c hc hex hfit
      unfold stepC
      split
      · exact hinv
      · split
        · rename_i hs hf
          intro h2
          rcases Bool.or_eq_true_iff.1 h2 with h2 | h2
          · obtain ⟨d, hd1, hd2⟩ := hinv h2
            refine ⟨d, hd1, fun h3 => ?_⟩
            have := hd2 h3
            show min st.1 _ ≤ _
            omega
          · refine ⟨x, by simpa using h2, fun h3 => ?_⟩
            show min st.1 _ ≤ _
            unfold valC
            omega
        · rename_i hs hf
          intro h2
          rcases Bool.or_eq_true_iff.1 h2 with h2 | h2
          · exact hinv h2
          · exact ⟨x, by simpa using h2, fun h3 => absurd h3 hf⟩
theorem fold_att (nx : (Nat → Int) → Int) (p : Int) (g : Nat → Int) : ∀ (cl : List Int) (st : Int × Bool), (cl.foldl (stepC l fs place letter nx p g) st).1 = st.1 ∨
    ∃ c ∈ cl, (p == place && c != letter) = false ∧ fitsTo l fs g p c l.length = true ∧ (cl.foldl (stepC l fs place letter nx p g) st).1 = valC l fs nx p g c := by
  intro cl
  induction cl with
  | nil => intro st; exact .inl rfl
  | cons x r ih =>
    intro st
    rw [List.foldl_cons]
    rcases ih (stepC l fs place letter nx p g st x) with h | ⟨c, hc, h1, h2, h3⟩
    · rw [h]
      by_cases hs : skipC l fs place letter p x st.2 = true
      · left
        unfold stepC
        rw [if_pos hs]
      · by_cases hf : fitsTo l fs g p x l.length = true
        · unfold stepC
          rw [if_neg hs, if_pos hf]
          by_cases hm : st.1 ≤ valC l fs nx p g x
          · left
            show min st.1 _ = st.1
            unfold valC at hm
            omega
          · right
            refine ⟨x, List.mem_cons_self, ?_, hf, ?_⟩
            · unfold skipC at hs
              simp only [Bool.or_eq_true, not_or] at hs
              simpa using hs.1
            · show min st.1 _ = _
              unfold valC at hm ⊢
              omega
        · left
          unfold stepC
          rw [if_neg hs, if_neg hf]
    · exact .inr ⟨c, List.mem_cons_of_mem _ hc, h1, h2, h3⟩
theorem mem_cs {c : Int} (h : 65 ≤ c ∧ c ≤ 90) : c ∈ cs 26 := by
  unfold cs
  rw [List.mem_map]
  exact ⟨(c - 65).toNat, List.mem_range.2 (by omega), by omega⟩
theorem cs_mem {c : Int} (h : c ∈ cs 26) : 65 ≤ c ∧ c ≤ 90 := by
  unfold cs at h
  rw [List.mem_map] at h
  obtain ⟨j, hj, rfl⟩ := h
  have := List.mem_range.1 hj
  omega
theorem nextS_le : ∀ (rem p : Nat) (g t : Nat → Int), GoodT t → PlaceOk place letter t → (∀ i, i < l.length → hsum l fs t i rem p ≠ 0 → hsum l fs t i rem p ≤ g i) → nextS l fs place letter rem (p : Int) g ≤ cost l fs t rem p := by
  intro rem
  induction rem with
  | zero => intro p g t _ _ _; exact Int.le_refl _
  | succ rem ih =>
    intro p g t hg hp hh
    have hfit : fitsTo l fs g (p : Int) (t p) l.length = true := by
      unfold fitsTo
      rw [List.all_eq_true]
      intro i hi
      have h1 := hh i (List.mem_range.1 hi)
      have h2 := hsum_nonneg (l := l) (fs := fs) t i rem (p + 1)
      unfold hsum at h1
      by_cases hc : hit l fs (p : Int) (t p) i = true
      · rw [if_pos hc] at h1
        have := h1 (by omega)
        rw [hc]
        simp
        omega
      · simp [hc]
    have hex : ((p : Int) == place && t p != letter) = false := by
      by_cases e : (p : Int) = place
      · rw [hp p e]; simp
      · simp [e]
    have h1 := fold_hit (place := place) (letter := letter) (nextS l fs place letter rem ((p : Int) + 1)) (p : Int) g (cs 26) (1048576, false) (fun h => by cases h) (t p) (mem_cs (hg p)) hex hfit
    rw [nextS, cost]
    refine Int.le_trans h1 ?_
    unfold valC
    have h2 := ih (p + 1) (leftTo l fs g (p : Int) (t p) l.length) t hg hp (fun i hi h3 => by
      have h4 := hh i hi
      have h5 := hsum_nonneg (l := l) (fs := fs) t i rem (p + 1)
      unfold hsum at h4
      unfold leftTo
      by_cases hc : hit l fs (p : Int) (t p) i = true
      · rw [if_pos hc] at h4
        rw [if_pos ⟨hi, hc⟩]
        have := h4 (by omega)
        omega
      · rw [if_neg hc] at h4
        rw [if_neg (fun h => hc h.2)]
        have := h4 (by omega)
        omega)
    have e : ((p + 1 : Nat) : Int) = (p : Int) + 1 := by omega
    rw [e] at h2
    omega
theorem nextS_att : ∀ (rem p : Nat) (g : Nat → Int), nextS l fs place letter rem (p : Int) g < 1048576 →
    ∃ t, GoodT t ∧ (∀ q : Nat, p ≤ q → q < p + rem → (q : Int) = place → t q = letter) ∧ (∀ i, i < l.length → hsum l fs t i rem p ≠ 0 → hsum l fs t i rem p ≤ g i) ∧ cost l fs t rem p = nextS l fs place letter rem (p : Int) g := by
  intro rem
  induction rem with
  | zero => intro p g _; exact ⟨fun _ => 65, fun p => ⟨Int.le_refl 65, show (65 : Int) ≤ 90 by decide⟩, fun q h1 h2 => by omega, fun i _ h => absurd rfl h, rfl⟩
  | succ rem ih =>
    intro p g hlt
    rw [nextS] at hlt ⊢
    rcases fold_att (place := place) (letter := letter) (nextS l fs place letter rem ((p : Int) + 1)) (p : Int) g (cs 26) (1048576, false) with h | ⟨c, hc, hex, hfit, hv⟩
    · rw [h] at hlt
      exact absurd hlt (by decide)
    · rw [hv] at hlt ⊢
      unfold valC at hlt ⊢
      have e : ((p + 1 : Nat) : Int) = (p : Int) + 1 := by omega
      have he := (errsTo_bound l fs (p : Int) c l.length).1
      obtain ⟨t, t1, t2, t3, t4⟩ := ih (p + 1) (leftTo l fs g (p : Int) c l.length) (by rw [e]; omega)
      rw [e] at t4
      have hc2 := cs_mem hc
      have hq : ∀ q, p + 1 ≤ q → (fun q => if q = p then c else t q) q = t q := fun q hq => by simp [show q ≠ p by omega]
      refine ⟨fun q => if q = p then c else t q, fun q => ?_, fun q h1 h2 h3 => ?_, fun i hi h0 => ?_, ?_⟩
      · show 65 ≤ (if q = p then c else t q) ∧ (if q = p then c else t q) ≤ 90
        split
        · exact hc2
        · exact t1 q
      · show (if q = p then c else t q) = letter
        by_cases e2 : q = p
        · subst e2
          rw [if_pos rfl]
          rw [h3] at hex
          simp at hex
          exact hex
        · rw [if_neg e2]
          exact t2 q (by omega) (by omega) h3
      · unfold hsum at h0 ⊢
        rw [hsum_congr _ t i rem (p + 1) hq] at h0 ⊢
        simp only [if_true] at h0 ⊢
        have h5 := t3 i hi
        have h6 := hsum_nonneg (l := l) (fs := fs) t i rem (p + 1)
        unfold leftTo at h5
        by_cases hh : hit l fs (p : Int) c i = true
        · rw [if_pos hh]
          rw [if_pos ⟨hi, hh⟩] at h5
          unfold fitsTo at hfit
          rw [List.all_eq_true] at hfit
          have h7 := hfit i (List.mem_range.2 hi)
          rw [hh] at h7
          simp at h7
          by_cases e3 : hsum l fs t i rem (p + 1) = 0
          · rw [e3]; omega
          · have := h5 e3; omega
        · rw [if_neg hh] at h0 ⊢
          rw [if_neg (fun h => hh h.2)] at h5
          have := h5 (by omega)
          omega
      · unfold cost
        rw [cost_congr _ t rem (p + 1) hq]
        simp only [if_true]
        rw [t4]
end
def FitT (l : List S24) (fs t : Nat → Int) : Prop := GoodT t ∧ ∀ i, i < l.length → hsum l fs t i (rd_T24 l 0).f0.size 0 ≠ 0 → hsum l fs t i (rd_T24 l 0).f0.size 0 ≤ (rd_T24 l (i : Int)).f1
def costT (l : List S24) (fs t : Nat → Int) : Int := cost l fs t (rd_T24 l 0).f0.size 0
theorem leastV_le {l : List S24} {fs t : Nat → Int} {place letter : Int} (h : FitT l fs t) (hp : PlaceOk place letter t) : leastV l fs place letter ≤ costT l fs t := by
  unfold leastV costT
  refine nextS_le _ 0 _ t h.1 hp (fun i hi h2 => ?_)
  unfold errV
  rw [if_pos hi]
  exact h.2 i hi h2
theorem leastV_att {l : List S24} {fs : Nat → Int} {place letter : Int} (h : leastV l fs place letter < 1048576) : ∃ t, FitT l fs t ∧ (∀ q : Nat, q < (rd_T24 l 0).f0.size → (q : Int) = place → t q = letter) ∧ costT l fs t = leastV l fs place letter := by
  unfold leastV at h ⊢
  obtain ⟨t, t1, t2, t3, t4⟩ := nextS_att _ 0 _ h
  refine ⟨t, ⟨t1, fun i hi h2 => ?_⟩, fun q hq h2 => t2 q (by omega) (by omega) h2, t4⟩
  have := t3 i hi h2
  unfold errV at this
  rw [if_pos hi] at this
  exact this
end Go.Proofs.Ytegjollhajgcdaa.P.OwnSt
namespace Go.Proofs.Ytegjollhajgcdaa.P.OwnSt
open Go.RowKit Go.Proofs.YtegjollhajgcdaaW.PrintWords Go.Proofs.YtegjollhajgcdaaW.PrintLast Go.Proofs.YtegjollhajgcdaaW.PrintMore
set_option linter.unusedVariables false
set_option linter.unusedSimpArgs false
theorem cost_bound (l : List S24) (fs t : Nat → Int) : ∀ rem p, 0 ≤ cost l fs t rem p ∧ cost l fs t rem p ≤ l.length * rem := by
  intro rem
  induction rem with
  | zero => intro p; simp [cost]
  | succ rem ih =>
    intro p
    have h1 := ih (p + 1)
    have h2 := errsTo_bound l fs (p : Int) (t p) l.length
    unfold cost
    have e : (l.length : Int) * ((rem + 1 : Nat) : Int) = l.length * rem + l.length := by
      rw [Int.natCast_add, Int.mul_add]; simp
    rw [e]
    omega
theorem costT_bound {l : List S24} (hv : Valid l) (fs t : Nat → Int) : 0 ≤ costT l fs t ∧ costT l fs t ≤ 40 := by
  have h := cost_bound l fs t (rd_T24 l 0).f0.size 0
  unfold costT
  have h1 := hv.five
  have h2 := hv.high
  have h3 : l.length * (rd_T24 l 0).f0.size ≤ 5 * 8 := Nat.mul_le_mul h1 h2
  have h4 : (l.length : Int) * ((rd_T24 l 0).f0.size : Int) = ((l.length * (rd_T24 l 0).f0.size : Nat) : Int) := by simp
  rw [h4] at h
  omega
theorem lies_of_fit {l : List S24} (hv : Valid l) {fs t : Nat → Int} (h : FitT l fs t) : liesB l fs = true := by
  unfold liesB
  have h1 := leastV_le (place := -1) (letter := 0) h (fun p hp => by omega)
  have h2 := (costT_bound hv fs t).2
  exact decide_eq_true (by omega)
theorem fit_of_lies {l : List S24} {fs : Nat → Int} (h : liesB l fs = true) : ∃ t, FitT l fs t ∧ costT l fs t = leastV l fs (-1) 0 := by
  unfold liesB at h
  obtain ⟨t, h1, _, h3⟩ := leastV_att (of_decide_eq_true h)
  exact ⟨t, h1, h3⟩
theorem may_of_fit {l : List S24} (hv : Valid l) {fs t : Nat → Int} (h : FitT l fs t) (i j : Nat) (hi : t i = 65 + (j : Int)) : mayC l i j fs = true := by
  unfold mayC
  have h1 := leastV_le (place := (i : Int)) (letter := 65 + (j : Int)) h (fun p hp => by
    have : p = i := by omega
    rw [this]; exact hi)
  have h2 := (costT_bound hv fs t).2
  exact decide_eq_true (by omega)
theorem fit_of_may {l : List S24} {fs : Nat → Int} {i j : Nat} (hi : i < (rd_T24 l 0).f0.size) (h : mayC l i j fs = true) : ∃ t, FitT l fs t ∧ t i = 65 + (j : Int) := by
  unfold mayC at h
  obtain ⟨t, h1, h2, _⟩ := leastV_att (of_decide_eq_true h)
  exact ⟨t, h1, h2 i hi rfl⟩
def TreeOk (l : List S24) (s : Nat → Int) : Prop := (∀ k, k < l.length → -1 ≤ s k ∧ s k < k ∧ canF l k (s k) = true) ∧ ∀ k, l.length ≤ k → s k = 0
theorem known_iff {l : List S24} (hv : Valid l) (s : Nat → Int) : s ∈ knownV l ↔ TreeOk l s ∧ ∃ t, FitT l s t := by
  constructor
  · intro h
    obtain ⟨h1, h2, h3⟩ := knownV_mem h
    obtain ⟨t, ht, _⟩ := fit_of_lies h3
    exact ⟨⟨h1, h2⟩, t, ht⟩
  · rintro ⟨⟨h1, h2⟩, t, ht⟩
    exact mem_knownV h1 h2 (lies_of_fit hv ht)
theorem mayAt_iff {l : List S24} (hv : Valid l) (i j : Nat) (hi : i < (rd_T24 l 0).f0.size) : mayAt l i j = true ↔ ∃ s t, TreeOk l s ∧ FitT l s t ∧ t i = 65 + (j : Int) := by
  unfold mayAt
  rw [List.any_eq_true]
  constructor
  · rintro ⟨s, hs, h⟩
    obtain ⟨t, ht, h2⟩ := fit_of_may hi h
    exact ⟨s, t, ((known_iff hv s).1 hs).1, ht, h2⟩
  · rintro ⟨s, t, hs, ht, h⟩
    exact ⟨s, (known_iff hv s).2 ⟨hs, t, ht⟩, may_of_fit hv ht i j h⟩
theorem numF_le {l : List S24} {s t : Nat → Int} (h : FitT l s t) : numF l s ≤ costT l s t + apTo l s l.length := by
  unfold numF
  have h1 := leastV_le (place := -1) (letter := 0) h (fun p hp => by omega)
  omega
theorem numF_att {l : List S24} {s : Nat → Int} (h : liesB l s = true) : ∃ t, FitT l s t ∧ numF l s = costT l s t + apTo l s l.length := by
  obtain ⟨t, h1, h2⟩ := fit_of_lies h
  exact ⟨t, h1, by unfold numF; omega⟩
theorem fewest_le {l : List S24} (hk : knownE l = 0) {s : Nat → Int} (hs : s ∈ knownV l) : (fewestV l).1 ≤ numF l s := by
  unfold fewestV
  rw [if_pos hk]
  unfold minTo
  rw [List.take_length]
  obtain ⟨x, r, e⟩ : ∃ x r, knownV l = x :: r := by
    cases h : knownV l with
    | nil => rw [h] at hs; simp at hs
    | cons x r => exact ⟨x, r, rfl⟩
  rw [e] at hs ⊢
  simp only [List.drop_succ_cons, List.drop_zero, List.headD_cons]
  have h := minF_le l r x
  rcases List.mem_cons.1 hs with rfl | hs
  · exact h.1
  · exact h.2 s hs
theorem fewest_att {l : List S24} (hk : knownE l = 0) : ∃ s ∈ knownV l, (fewestV l).1 = numF l s := by
  unfold fewestV
  rw [if_pos hk]
  have hne := (knownE_zero hk).2
  refine ⟨minTo l (knownV l) ((knownV l).headD fun _ => 0) (knownV l).length, minTo_mem l _ _ _ ?_, rfl⟩
  cases h : knownV l with
  | nil => exact absurd h hne
  | cons x r => rfl
theorem check_of_valid {l : List S24} (hv : Valid l) : checkV l = 0 := by
  unfold checkV
  rw [if_neg (by have := hv.one; omega), if_neg (by have := hv.five; omega)]
  have h1 : ∀ i : Nat, i < l.length → oneV l (rd_T24 l (i : Int)) = 0 := fun i hi => by
    have hs := hv.size i hi
    have hg : goodText (rd_T24 l (i : Int)).f0 = true := by
      unfold goodText
      rw [List.all_eq_true]
      intro p hp
      have := hv.good i hi p (by have := List.mem_range.1 hp; omega)
      unfold goodAt
      exact decide_eq_true this
    unfold oneV
    rw [if_neg (by have := hv.low; have := hv.high; omega), if_neg (by rw [hg]; simp), if_neg (by simp [hs]), if_neg (by have := hv.err i hi; omega), if_neg (by have := hv.err i hi; omega)]
  have h2 : ∀ rem i, i + rem ≤ l.length → checkF l rem i = 0 := by
    intro rem
    induction rem with
    | zero => intro i _; rfl
    | succ rem ih =>
      intro i hi
      unfold checkF
      rw [if_pos (h1 i (by omega))]
      exact ih (i + 1) (by omega)
  exact h2 l.length 0 (by omega)
theorem knownE_of {l : List S24} (hv : Valid l) {s : Nat → Int} (hs : s ∈ knownV l) : knownE l = 0 := by
  unfold knownE
  rw [if_neg (by rw [check_of_valid hv]; simp), if_neg (fun h => by rw [h] at hs; simp at hs)]
def sumTo (f : Nat → Int) : Nat → Int
  | 0 => 0
  | n + 1 => sumTo f n + f n
theorem sumTo_congr {f g : Nat → Int} : ∀ n, (∀ i, i < n → f i = g i) → sumTo f n = sumTo g n := by
  intro n
  induction n with
  | zero => intro _; rfl
  | succ n ih =>
    intro h
    unfold sumTo
    rw [ih (fun i hi => h i (by omega)), h n (by omega)]
theorem sumTo_add (f g : Nat → Int) : ∀ n, sumTo (fun i => f i + g i) n = sumTo f n + sumTo g n := by
  intro n
  induction n with
  | zero => rfl
  | succ n ih =>
    unfold sumTo
    rw [ih]
    omega
theorem errsTo_sum (l : List S24) (fs : Nat → Int) (p c : Int) : ∀ n, errsTo l fs p c n = sumTo (fun i => if hit l fs p c i = true then 1 else 0) n := by
  intro n
  induction n with
  | zero => simp [errsTo, sumTo]
  | succ n ih => rw [errsTo_succ, ih]; rfl
theorem cost_sum (l : List S24) (fs t : Nat → Int) : ∀ rem p, cost l fs t rem p = sumTo (fun i => hsum l fs t i rem p) l.length := by
  intro rem
  induction rem with
  | zero =>
    intro p
    have : ∀ n, sumTo (fun i => hsum l fs t i 0 p) n = 0 := by
      intro n
      induction n with
      | zero => rfl
      | succ n ih => unfold sumTo; rw [ih]; rfl
    rw [this]
    rfl
  | succ rem ih =>
    intro p
    unfold cost
    rw [ih, errsTo_sum, ← sumTo_add]
    rfl
theorem apTo_sum (l : List S24) (s : Nat → Int) : ∀ n, apTo l s n = sumTo (fun k => if s k = -1 then 0 else apN (rd_T24 l (s k)).f0 (rd_T24 l (k : Int)).f0 (rd_T24 l (s k)).f0.size) n := by
  intro n
  induction n with
  | zero => rfl
  | succ n ih => unfold apTo sumTo; rw [ih]
theorem hsum_none {l : List S24} {fs t : Nat → Int} {i : Nat} (h : fs i ≠ -1) : ∀ rem p, hsum l fs t i rem p = 0 := by
  intro rem
  induction rem with
  | zero => intro p; rfl
  | succ rem ih =>
    intro p
    unfold hsum hit
    rw [ih, beq_false_of_ne h]
    simp
theorem hsum_apN {l : List S24} {fs t : Nat → Int} {i : Nat} (h : fs i = -1) (st : ByteArray) (L : Nat) (ht : ∀ p, p < L → t p = bt st (p : Int)) : ∀ rem p, p + rem ≤ L → apN st (rd_T24 l (i : Int)).f0 p + hsum l fs t i rem p = apN st (rd_T24 l (i : Int)).f0 (p + rem) := by
  intro rem
  induction rem with
  | zero => intro p _; simp [hsum]
  | succ rem ih =>
    intro p hp
    have h1 := ih (p + 1) (by omega)
    rw [show p + 1 + rem = p + (rem + 1) by omega, apN_succ] at h1
    unfold hsum hit
    rw [h, ht p (by omega)]
    rw [← h1]
    by_cases e : bt st (p : Int) = bt (rd_T24 l (i : Int)).f0 (p : Int)
    · rw [if_pos e, e]
      simp
    · rw [if_neg e]
      have e2 : ((-1 : Int) == -1 && bt (rd_T24 l (i : Int)).f0 (p : Int) != bt st (p : Int)) = true := by
        simp
        exact fun h => e h.symm
      rw [if_pos e2]
      omega
end Go.Proofs.Ytegjollhajgcdaa.P.OwnSt
namespace Go.Proofs.Ytegjollhajgcdaa.P.OwnSt
open Go.RowKit Go.Proofs.YtegjollhajgcdaaW.PrintWords Go.Proofs.YtegjollhajgcdaaW.PrintLast Go.Proofs.YtegjollhajgcdaaW.PrintMore
open OwnUrn
set_option linter.unusedVariables false
set_option linter.unusedSimpArgs false
theorem wrap_u64_range (n : Int) : 0 ≤ IntKind.u64.wrap n ∧ IntKind.u64.wrap n < 18446744073709551616 := by
  have h : IntKind.u64.wrap n = n % 18446744073709551616 := by simp [IntKind.wrap, IntKind.bits, IntKind.signed]
  rw [h]
  omega
theorem wrap_u64_small {n : Int} (h0 : 0 ≤ n) (h1 : n < 18446744073709551616) : IntKind.u64.wrap n = n := by
  have h : IntKind.u64.wrap n = n % 18446744073709551616 := by simp [IntKind.wrap, IntKind.bits, IntKind.signed]
  rw [h]
  omega
theorem turn_ok (a b : Int) : ∃ v a' b', cippuskit_Urn_turn.f a b = some (v, a', b') ∧ 0 ≤ v ∧ v < 18446744073709551616 := by
  unfold cippuskit_Urn_turn.f
  split
  · exact ⟨_, _, _, rfl, wrap_u64_range _⟩
  · exact ⟨_, _, _, rfl, wrap_u64_range _⟩
theorem up_ok (a b n : Int) (hn : n ≤ 1000) : ∃ v a' b', cippuskit_Urn_Up.f a b n = some (v, a', b') ∧ 0 ≤ v ∧ (v < n ∨ v = 0) := by
  unfold cippuskit_Urn_Up.f
  by_cases h : n < 2
  · rw [if_pos h]
    exact ⟨0, a, b, rfl, Int.le_refl _, .inr rfl⟩
  · rw [if_neg h]
    obtain ⟨v, a', b', e, h0, h1⟩ := turn_ok a b
    rw [e, Option.bind_some, wrap_u64_small (by omega) (by omega), if_neg (by omega)]
    have h2 : 0 ≤ v / 2048 := by omega
    have h3 : Int.tmod (v / 2048) n = (v / 2048) % n := Int.tmod_eq_emod_of_nonneg h2
    have h4 := Int.emod_nonneg (v / 2048) (show n ≠ 0 by omega)
    have h5 := Int.emod_lt_of_pos (v / 2048) (show 0 < n by omega)
    refine ⟨_, _, _, rfl, ?_⟩
    show 0 ≤ wrap64 (Int.tmod (v / 2048) n) ∧ (wrap64 (Int.tmod (v / 2048) n) < n ∨ _)
    rw [h3, wrap64_small h4 (by omega)]
    exact ⟨h4, .inl h5⟩
theorem from_ok (a b lo hi : Int) (h0 : -1000 ≤ lo) (h1 : lo ≤ 1000) (h2 : -1000 ≤ hi) (h3 : hi ≤ 900 + lo) : ∃ v a' b', cippuskit_Urn_From.f a b lo hi = some (v, a', b') ∧ lo ≤ v ∧ (v ≤ hi ∨ v = lo) := by
  unfold cippuskit_Urn_From.f
  have e1 : wrap64 (hi - lo) = hi - lo := by simp [wrap64]; omega
  have e2 : wrap64 (hi - lo + 1) = hi - lo + 1 := by simp [wrap64]; omega
  rw [e1, e2]
  obtain ⟨v, a', b', e, h4, h5⟩ := up_ok a b (hi - lo + 1) (by omega)
  rw [e, Option.bind_some]
  refine ⟨_, _, _, rfl, ?_⟩
  have e3 : wrap64 (lo + v) = lo + v := by simp [wrap64]; omega
  show lo ≤ wrap64 (lo + v) ∧ (wrap64 (lo + v) ≤ hi ∨ wrap64 (lo + v) = lo)
  rw [e3]
  omega
theorem odds_ok (a b n m : Int) (hm : m ≤ 1000) : ∃ v a' b', cippuskit_Urn_Odds.f a b n m = some (v, a', b') := by
  unfold cippuskit_Urn_Odds.f
  obtain ⟨v, a', b', e, _⟩ := up_ok a b m hm
  rw [e, Option.bind_some]
  exact ⟨_, _, _, rfl⟩
def diffL (b c : List Int) : Nat → Nat
  | 0 => 0
  | m + 1 => diffL b c m + if b.getD m 0 = c.getD m 0 then 0 else 1
theorem diffL_tri (a b c : List Int) : ∀ m, diffL a c m ≤ diffL a b m + diffL b c m := by
  intro m
  induction m with
  | zero => simp [diffL]
  | succ m ih =>
    unfold diffL
    by_cases h1 : a.getD m 0 = b.getD m 0
    · by_cases h2 : b.getD m 0 = c.getD m 0
      · rw [if_pos h1, if_pos h2, if_pos (h1.trans h2)]; omega
      · rw [if_pos h1, if_neg h2, if_neg (fun h => h2 (h1.symm.trans h))]; omega
    · rw [if_neg h1]
      split <;> split <;> omega
theorem diffL_self (a : List Int) : ∀ m, diffL a a m = 0 := by
  intro m
  induction m with
  | zero => rfl
  | succ m ih => unfold diffL; rw [ih, if_pos rfl]
theorem diffL_set (a : List Int) (i : Nat) (v : Int) : ∀ m, diffL a (a.set i v) m ≤ if i < m then 1 else 0 := by
  intro m
  induction m with
  | zero => simp [diffL]
  | succ m ih =>
    unfold diffL
    by_cases e : m = i
    · subst e
      rw [if_neg (by omega)] at ih
      rw [show (if m < m + 1 then 1 else 0) = 1 from if_pos (by omega)]
      split <;> omega
    · have h : (a.set i v).getD m 0 = a.getD m 0 := by
        rw [List.getD_eq_getElem?_getD, List.getD_eq_getElem?_getD, List.getElem?_set_ne (fun h => e h.symm)]
      rw [h, if_pos rfl]
      split at ih <;> split <;> omega
def letL (b : List Int) : Prop := ∀ x ∈ b, 65 ≤ x ∧ x ≤ 67
theorem erredGo_ok : ∀ (n : Nat) (b : List Int) (s0 s1 : Int), letL b → 1 ≤ b.length → b.length ≤ 100 → ∃ r s0' s1', erredGo n b s0 s1 = some (r, s0', s1') ∧ letL r ∧ r.length = b.length ∧ diffL b r b.length ≤ n := by
  intro n
  induction n with
  | zero => intro b s0 s1 h _ _; exact ⟨b, s0, s1, rfl, h, rfl, by rw [diffL_self]; exact Nat.le_refl _⟩
  | succ n ih =>
    intro b s0 s1 h h1 h2
    unfold erredGo
    obtain ⟨v, a', b', e, h3, h4⟩ := up_ok s0 s1 (b.length : Int) (by omega)
    rw [e, Option.bind_some]
    obtain ⟨u, a2, b2, e2, h5, h6⟩ := up_ok a' b' 3 (by omega)
    rw [e2, Option.bind_some, if_pos ⟨h3, by omega⟩]
    have e3 : wrap64 (65 + u) % 256 = 65 + u := by rw [wrap64_small (by omega) (by omega)]; omega
    rw [e3]
    obtain ⟨r, s0', s1', e4, h7, h8, h9⟩ := ih (b.set v.toNat (65 + u)) a2 b2 (fun x hx => by
      rcases List.mem_or_eq_of_mem_set hx with hx | rfl
      · exact h x hx
      · omega) (by rw [List.length_set]; exact h1) (by rw [List.length_set]; exact h2)
    rw [List.length_set] at h8 h9
    refine ⟨r, s0', s1', e4, h7, h8, ?_⟩
    have t := diffL_tri b (b.set v.toNat (65 + u)) r b.length
    have s := diffL_set b v.toNat (65 + u) b.length
    split at s <;> omega
theorem bt_str (xs : List Int) (p : Nat) (hx : ∀ x ∈ xs, 0 ≤ x ∧ x ≤ 255) (hp : p < xs.length) : bt (strOfNums xs) (p : Int) = xs.getD p 0 := by
  have hs : p < (strOfNums xs).size := by rw [strOfNums_size]; exact hp
  rw [← bt_at (strOfNums xs) (p : Int) (by simpa using hs)]
  have h1 : ((strOfNums xs)[(p : Int).toNat]'(by simpa using hs)) = UInt8.ofNat (xs.getD p 0).toNat := by
    show (strOfNums xs).data[(p : Int).toNat]'_ = _
    simp [strOfNums, List.getD_eq_getElem?_getD, List.getElem?_eq_getElem hp]
  rw [h1]
  have h2 := hx (xs.getD p 0) (by rw [List.getD_eq_getElem?_getD, List.getElem?_eq_getElem hp]; exact List.getElem_mem hp)
  revert h2
  generalize xs.getD p 0 = z
  intro h2
  simp
  omega
theorem bytesOf_get (b : ByteArray) (p : Nat) : (bytesOf b).getD p 0 = bt b (p : Int) := by
  rw [← rd_bytesOf]
  rfl
def letB (b : ByteArray) : Prop := ∀ p : Nat, p < b.size → 65 ≤ bt b (p : Int) ∧ bt b (p : Int) ≤ 67
theorem letB_list {b : ByteArray} (h : letB b) : letL (bytesOf b) := by
  intro x hx
  obtain ⟨p, hp, rfl⟩ := List.getElem_of_mem hx
  have h2 := h p (by rw [← bytesOf_length]; exact hp)
  rw [← bytesOf_get, List.getD_eq_getElem?_getD, List.getElem?_eq_getElem hp] at h2
  exact h2
theorem letL_str {xs : List Int} (h : letL xs) : letB (strOfNums xs) := by
  intro p hp
  rw [strOfNums_size] at hp
  rw [bt_str xs p (fun x hx => by have := h x hx; omega) hp]
  exact h _ (by rw [List.getD_eq_getElem?_getD, List.getElem?_eq_getElem hp]; exact List.getElem_mem hp)
theorem apN_diff (b : ByteArray) (r : List Int) (hr : letL r) : ∀ m, m ≤ r.length → apN b (strOfNums r) m = (diffL (bytesOf b) r m : Int) := by
  intro m
  induction m with
  | zero => intro _; simp [apN, diffL]
  | succ m ih =>
    intro hm
    rw [apN_succ, ih (by omega), diffL, bt_str r m (fun x hx => by have := hr x hx; omega) (by omega), bytesOf_get]
    split <;> simp
theorem erred_ok (s0 s1 : Int) (a : ByteArray) (e : Int) (ha : letB a) (h1 : 1 ≤ a.size) (h2 : a.size ≤ 100) (he : 0 ≤ e) (he2 : e ≤ 1000) : ∃ t s0' s1', erred s0 s1 a e = some (t, s0', s1') ∧ letB t ∧ t.size = a.size ∧ apN a t a.size ≤ e := by
  unfold erred
  rw [if_pos ⟨by omega, by omega⟩]
  obtain ⟨r, s0', s1', e1, h3, h4, h5⟩ := erredGo_ok e.toNat (bytesOf a) s0 s1 (letB_list ha) (by rw [bytesOf_length]; exact h1) (by rw [bytesOf_length]; exact h2)
  rw [e1]
  rw [bytesOf_length] at h4 h5
  refine ⟨_, _, _, rfl, letL_str h3, by rw [strOfNums_size]; exact h4, ?_⟩
  rw [apN_diff a r h3 _ (by omega)]
  omega
theorem stoneGo_ok : ∀ (n : Nat) (a b : Int) (s : ByteArray), letB s → s.size + n ≤ 100 → ∃ t a' b', stoneGo n a b s = some (t, a', b') ∧ letB t ∧ t.size = s.size + n := by
  intro n
  induction n with
  | zero => intro a b s h _; exact ⟨s, a, b, rfl, h, rfl⟩
  | succ n ih =>
    intro a b s h hs
    unfold stoneGo
    obtain ⟨u, a2, b2, e2, h5, h6⟩ := up_ok a b 3 (by omega)
    rw [e2, Option.bind_some, if_pos (by omega)]
    have e3 : wrap64 (65 + u) % 256 = 65 + u := by rw [wrap64_small (by omega) (by omega)]; omega
    show ∃ t a' b', stoneGo n a2 b2 (s ++ strOfNums [wrap64 (65 + u) % 256]) = some (t, a', b') ∧ _
    rw [e3]
    have hsz : (s ++ strOfNums [65 + u]).size = s.size + 1 := by rw [ByteArray.size_append, strOfNums_size]; rfl
    obtain ⟨t, a', b', e4, h7, h8⟩ := ih a2 b2 (s ++ strOfNums [65 + u]) (fun p hp => by
      by_cases hp2 : p < s.size
      · have e5 : bt (s ++ strOfNums [65 + u]) (p : Int) = bt s (p : Int) := by
          rw [← bt_at _ (p : Int) (by simpa using hp), ← bt_at s (p : Int) (by simpa using hp2)]
          simp only [Int.toNat_natCast]
          rw [ByteArray.getElem_append_left hp2]
        rw [e5]
        exact h p hp2
      · have hpe : p = s.size := by omega
        have e5 : bt (s ++ strOfNums [65 + u]) (p : Int) = 65 + u := by
          rw [← bt_at _ (p : Int) (by simpa using hp)]
          simp only [Int.toNat_natCast]
          rw [ByteArray.getElem_append_right (by omega)]
          have h9 := bt_str [65 + u] 0 (fun x hx => by simp at hx; omega) (by simp)
          rw [← bt_at _ ((0 : Nat) : Int) (by rw [strOfNums_size]; simp)] at h9
          simpa [hpe] using h9
        rw [e5]
        omega) (by omega)
    exact ⟨t, a', b', e4, h7, by omega⟩
def fromOf (st : ByteArray) (l : List S24) (f : Int) : ByteArray := if f < 0 then st else (rd_T24 l f).f0
structure MadeOk (er : Int) (st : ByteArray) (l : List S24) (src : List Int) : Prop where
  len : src.length = l.length
  one : ∀ i : Nat, i < l.length → (letB (rd_T24 l (i : Int)).f0 ∧ (rd_T24 l (i : Int)).f0.size = st.size) ∧ (0 ≤ (rd_T24 l (i : Int)).f1 ∧ (rd_T24 l (i : Int)).f1 ≤ er) ∧ (-1 ≤ src.getD i 0 ∧ src.getD i 0 < i) ∧ (src.getD i 0 < 0 → (rd_T24 l (i : Int)).f2 = true) ∧ apN (fromOf st l (src.getD i 0)) (rd_T24 l (i : Int)).f0 st.size ≤ (rd_T24 l (i : Int)).f1
theorem rd_snoc_lt (l : List S24) (x : S24) (i : Int) (h0 : 0 ≤ i) (h : i < l.length) : rd_T24 (l ++ [x]) i = rd_T24 l i := by
  unfold rd_T24
  rw [List.getD_eq_getElem?_getD, List.getD_eq_getElem?_getD, List.getElem?_append_left (by omega)]
theorem rd_snoc_eq (l : List S24) (x : S24) : rd_T24 (l ++ [x]) (l.length : Int) = x := by
  unfold rd_T24
  rw [List.getD_eq_getElem?_getD, Int.toNat_natCast, List.getElem?_append_right (Nat.le_refl _)]
  simp
theorem MadeOk.snoc {er : Int} {st : ByteArray} {l : List S24} {src : List Int} (h : MadeOk er st l src) (x : S24) (f : Int) (hx : letB x.f0 ∧ x.f0.size = st.size) (he : 0 ≤ x.f1 ∧ x.f1 ≤ er) (hf : -1 ≤ f ∧ f < l.length) (hs : f < 0 → x.f2 = true) (ha : apN (fromOf st l f) x.f0 st.size ≤ x.f1) : MadeOk er st (l ++ [x]) (src ++ [f]) := by
  refine ⟨by simp [h.len], fun i hi => ?_⟩
  rw [List.length_append, List.length_singleton] at hi
  by_cases e : i = l.length
  · subst e
    have e1 : (src ++ [f]).getD l.length 0 = f := by
      rw [List.getD_eq_getElem?_getD, List.getElem?_append_right (by rw [h.len]; exact Nat.le_refl _)]
      simp [h.len]
    rw [e1, rd_snoc_eq]
    refine ⟨hx, he, hf, hs, ?_⟩
    have e2 : fromOf st (l ++ [x]) f = fromOf st l f := by
      unfold fromOf
      split
      · rfl
      · rw [rd_snoc_lt l x f (by omega) hf.2]
    rw [e2]
    exact ha
  · have hi2 : i < l.length := by omega
    have e1 : (src ++ [f]).getD i 0 = src.getD i 0 := by
      rw [List.getD_eq_getElem?_getD, List.getD_eq_getElem?_getD, List.getElem?_append_left (by rw [h.len]; exact hi2)]
    have h1 := h.one i hi2
    rw [e1, rd_snoc_lt l x (i : Int) (by omega) (by omega)]
    refine ⟨h1.1, h1.2.1, h1.2.2.1, h1.2.2.2.1, ?_⟩
    have e2 : fromOf st (l ++ [x]) (src.getD i 0) = fromOf st l (src.getD i 0) := by
      unfold fromOf
      split
      · rfl
      · rw [rd_snoc_lt l x _ (by omega) (by have := h1.2.2.1; omega)]
    rw [e2]
    exact h1.2.2.2.2
theorem copyGo_ok (er : Int) (st : ByteArray) (her : 0 ≤ er) (her2 : er ≤ 900) (hst : letB st) (h1 : 1 ≤ st.size) (h2 : st.size ≤ 100) : ∀ (n : Nat) (l : List S24) (src : List Int) (a b : Int), MadeOk er st l src → l.length + n ≤ 100 →
    ∃ l' src' a' b', copyGo n er st l src a b = some (l', src', a', b') ∧ MadeOk er st l' src' ∧ l'.length = l.length + n := by
  intro n
  induction n with
  | zero => intro l src a b h _; exact ⟨l, src, a, b, rfl, h, rfl⟩
  | succ n ih =>
    intro l src a b h hl
    unfold copyGo
    have e0 : wrap64 ((l.length : Int) - 1) = (l.length : Int) - 1 := by simp [wrap64]; omega
    rw [e0]
    obtain ⟨f, a1, b1, e1, f1, f2⟩ := from_ok a b (-1) ((l.length : Int) - 1) (by omega) (by omega) (by omega) (by omega)
    rw [e1, Option.bind_some]
    have e2 : wrap64 (er + 1) = er + 1 := wrap64_small (by omega) (by omega)
    rw [e2]
    obtain ⟨u, a2, b2, e3, u1, u2⟩ := up_ok a1 b1 (er + 1) (by omega)
    show ∃ l' src' a' b', ((cippuskit_Urn_Up.f a1 b1 (er + 1)).bind _) = _ ∧ _
    rw [e3, Option.bind_some]
    obtain ⟨o, a3, b3, e4, o1⟩ : ∃ o a3 b3, (if f < 0 then some (true, a2, b2) else cippuskit_Urn_Odds.f a2 b2 1 2) = some (o, a3, b3) ∧ (f < 0 → o = true) := by
      by_cases hf : f < 0
      · exact ⟨true, a2, b2, if_pos hf, fun _ => rfl⟩
      · obtain ⟨v, a', b', e⟩ := odds_ok a2 b2 1 2 (by omega)
        exact ⟨v, a', b', (if_neg hf).trans e, fun h => absurd h hf⟩
    show ∃ l' src' a' b', ((if f < 0 then some (true, a2, b2) else cippuskit_Urn_Odds.f a2 b2 1 2).bind _) = _ ∧ _
    rw [e4, Option.bind_some]
    have e5 : (if 0 ≤ f then (if f < (l.length : Int) then some (rd_T24 l f).f0 else none) else some st) = some (fromOf st l f) := by
      unfold fromOf
      by_cases hf : f < 0
      · rw [if_neg (by omega), if_pos hf]
      · rw [if_pos (by omega), if_pos (by omega), if_neg hf]
    show ∃ l' src' a' b', ((if 0 ≤ f then (if f < (l.length : Int) then some (rd_T24 l f).f0 else none) else some st).bind _) = _ ∧ _
    rw [e5, Option.bind_some]
    have hfr : letB (fromOf st l f) ∧ (fromOf st l f).size = st.size := by
      unfold fromOf
      split
      · exact ⟨hst, rfl⟩
      · have h3 := h.one f.toNat (by omega)
        rw [show ((f.toNat : Nat) : Int) = f by omega] at h3
        exact h3.1
    obtain ⟨t, a4, b4, e6, t1, t2, t3⟩ := erred_ok a3 b3 (fromOf st l f) u hfr.1 (by rw [hfr.2]; exact h1) (by rw [hfr.2]; exact h2) u1 (by omega)
    show ∃ l' src' a' b', ((erred a3 b3 (fromOf st l f) u).bind _) = _ ∧ _
    rw [e6, Option.bind_some, if_pos (by rw [h.len]; omega)]
    obtain ⟨l', src', a', b', e7, m1, m2⟩ := ih (l ++ [⟨t, u, o⟩]) (src ++ [f]) a4 b4 (h.snoc ⟨t, u, o⟩ f ⟨t1, by rw [t2]; exact hfr.2⟩ ⟨u1, show u ≤ er by omega⟩ ⟨f1, show f < (l.length : Int) by omega⟩ o1 (by rw [hfr.2] at t3; exact t3)) (by simp; omega)
    refine ⟨l', src', a', b', e7, m1, ?_⟩
    rw [m2]
    simp
    omega
theorem copiesOf_ok (s0 s1 copies places er : Int) (h1 : 1 ≤ copies) (h2 : copies ≤ 90) (h3 : 1 ≤ places) (h4 : places ≤ 90) (h5 : 0 ≤ er) (h6 : er ≤ 900) :
    ∃ l st src a b, copiesOf s0 s1 copies places er = some (l, st, src, a, b) ∧ MadeOk er st l src ∧ (1 ≤ l.length ∧ (l.length : Int) ≤ copies) ∧ (1 ≤ st.size ∧ (st.size : Int) ≤ places) ∧ letB st := by
  unfold copiesOf
  obtain ⟨p, a1, b1, e1, p1, p2⟩ := from_ok s0 s1 1 places (by omega) (by omega) (by omega) (by omega)
  rw [e1, Option.bind_some]
  obtain ⟨st, a2, b2, e2, q1, q2⟩ := stoneGo_ok p.toNat a1 b1 ⟨#[]⟩ (fun p hp => by simp [ByteArray.size] at hp) (by simp [ByteArray.size]; omega)
  show ∃ l st src a b, ((stoneGo p.toNat a1 b1 ⟨#[]⟩).bind _) = _ ∧ _
  rw [e2, Option.bind_some]
  obtain ⟨n, a3, b3, e3, n1, n2⟩ := from_ok a2 b2 1 copies (by omega) (by omega) (by omega) (by omega)
  show ∃ l st src a b, ((cippuskit_Urn_From.f a2 b2 1 copies).bind _) = _ ∧ _
  rw [e3, Option.bind_some]
  have hsz : st.size = p.toNat := by rw [q2]; simp [ByteArray.size]
  obtain ⟨l, src, a4, b4, e4, m1, m2⟩ := copyGo_ok er st h5 h6 q1 (by omega) (by omega) n.toNat [] [] a3 b3 ⟨rfl, fun i hi => by simp at hi⟩ (by simp; omega)
  show ∃ l st src a b, ((copyGo n.toNat er _ [] [] a3 b3).map _) = _ ∧ _
  rw [e4]
  refine ⟨l, st, src, a4, b4, rfl, m1, ⟨?_, ?_⟩, ⟨by omega, by omega⟩, q1⟩
  · rw [m2]; simp; omega
  · rw [m2]; simp; omega
theorem newUrn_ok (l : List Int) (h : l.length < 4611686018427387904) : ∃ a b, newUrn l = some (a, b) := by
  unfold newUrn
  rw [if_pos h]
  have : ∀ (l : List Int) (a b : Int), ∃ r, urnGo l a b = some r := by
    intro l
    induction l with
    | nil => intro a b; exact ⟨_, rfl⟩
    | cons x l ih =>
      intro a b
      unfold urnGo
      obtain ⟨v, a', b', e, _⟩ := turn_ok a (IntKind.u64.wrap (b + IntKind.u64.wrap x))
      rw [e, Option.bind_some]
      obtain ⟨v2, a2, b2, e2, _⟩ := turn_ok a' b'
      show ∃ r, ((cippuskit_Urn_turn.f a' b').bind _) = some r
      rw [e2, Option.bind_some]
      exact ih _ _
  obtain ⟨r, hr⟩ := this l 11400714819323198485 14029467366897019727
  exact ⟨r.1, r.2, hr⟩
end Go.Proofs.Ytegjollhajgcdaa.P.OwnSt
namespace Go.Proofs.Ytegjollhajgcdaa.P.OwnSt
open Go.RowKit Go.Proofs.YtegjollhajgcdaaW.PrintWords Go.Proofs.YtegjollhajgcdaaW.PrintLast Go.Proofs.YtegjollhajgcdaaW.PrintMore
set_option linter.unusedVariables false
set_option linter.unusedSimpArgs false
def srcF (src : List Int) (k : Nat) : Int := src.getD k 0
def letF (st : ByteArray) (p : Nat) : Int := if p < st.size then bt st (p : Int) else 65
structure MadeT (er : Int) (st : ByteArray) (l : List S24) (src : List Int) : Prop where
  made : MadeOk er st l src
  er0 : 0 ≤ er
  er3 : er ≤ 3
  one : 1 ≤ l.length
  five : l.length ≤ 5
  low : 1 ≤ st.size
  high : st.size ≤ 8
  letters : letB st
theorem MadeT.first {er : Int} {st : ByteArray} {l : List S24} {src : List Int} (h : MadeT er st l src) : (rd_T24 l 0).f0.size = st.size := (h.made.one 0 h.one).1.2
theorem MadeT.valid {er : Int} {st : ByteArray} {l : List S24} {src : List Int} (h : MadeT er st l src) : Valid l := by
  have h0 := h.first
  refine ⟨h.one, h.five, fun i hi => ?_, by rw [h0]; exact h.low, by rw [h0]; exact h.high, fun i hi => ?_, fun i hi p hp => ?_⟩
  · rw [h0]; exact (h.made.one i hi).1.2
  · have h1 := (h.made.one i hi).2.1
    have := h.er3
    omega
  · have h1 := (h.made.one i hi).1
    have h2 := h1.1 p (by rw [h1.2, ← h0]; exact hp)
    omega
theorem MadeT.tree {er : Int} {st : ByteArray} {l : List S24} {src : List Int} (h : MadeT er st l src) : TreeOk l (srcF src) := by
  refine ⟨fun k hk => ?_, fun k hk => ?_⟩
  · obtain ⟨h1, h2, h3, h4, h5⟩ := h.made.one k hk
    refine ⟨h3.1, h3.2, ?_⟩
    unfold canF srcF
    by_cases e : src.getD k 0 = -1
    · rw [e]
      simp only [beq_self_eq_true, if_true]
      exact h4 (by omega)
    · rw [if_neg (by simpa using e)]
      unfold fromOf at h5
      rw [if_neg (by omega)] at h5
      have h6 := h.made.one (src.getD k 0).toNat (by omega)
      rw [show (((src.getD k 0).toNat : Nat) : Int) = src.getD k 0 by omega] at h6
      rw [h6.1.2]
      exact decide_eq_true h5
  · unfold srcF
    rw [List.getD_eq_getElem?_getD, List.getElem?_eq_none (by rw [h.made.len]; exact hk)]
    rfl
theorem MadeT.apart {er : Int} {st : ByteArray} {l : List S24} {src : List Int} (h : MadeT er st l src) (i : Nat) (hi : srcF src i = -1) : hsum l (srcF src) (letF st) i (rd_T24 l 0).f0.size 0 = apN st (rd_T24 l (i : Int)).f0 st.size := by
  rw [h.first]
  have := hsum_apN (l := l) (t := letF st) hi st st.size (fun p hp => by unfold letF; rw [if_pos hp]) st.size 0 (by omega)
  simpa [apN] using this
theorem MadeT.fit {er : Int} {st : ByteArray} {l : List S24} {src : List Int} (h : MadeT er st l src) : FitT l (srcF src) (letF st) := by
  refine ⟨fun p => ?_, fun i hi h0 => ?_⟩
  · unfold letF
    split
    · rename_i hp
      have := h.letters p hp
      omega
    · omega
  · by_cases e : srcF src i = -1
    · rw [h.apart i e]
      have h5 := (h.made.one i hi).2.2.2.2
      unfold fromOf at h5
      have e' : src.getD i 0 = -1 := e
      rw [e', if_pos (by omega)] at h5
      exact h5
    · exact absurd (hsum_none e _ _) h0
theorem MadeT.known {er : Int} {st : ByteArray} {l : List S24} {src : List Int} (h : MadeT er st l src) : srcF src ∈ knownV l := (known_iff h.valid _).2 ⟨h.tree, _, h.fit⟩
theorem MadeT.knownE {er : Int} {st : ByteArray} {l : List S24} {src : List Int} (h : MadeT er st l src) : knownE l = 0 := knownE_of h.valid h.known
def errSum (l : List S24) (st : ByteArray) (src : List Int) : Nat → Int := sumTo fun i => apN (fromOf st l (src.getD i 0)) (rd_T24 l (i : Int)).f0 (fromOf st l (src.getD i 0)).size
theorem MadeT.cost {er : Int} {st : ByteArray} {l : List S24} {src : List Int} (h : MadeT er st l src) : costT l (srcF src) (letF st) + apTo l (srcF src) l.length = errSum l st src l.length := by
  unfold costT errSum
  rw [cost_sum, apTo_sum, ← sumTo_add]
  refine sumTo_congr _ fun i hi => ?_
  by_cases e : srcF src i = -1
  · rw [h.apart i e]
    have e' : src.getD i 0 = -1 := e
    show _ + (if srcF src i = -1 then 0 else _) = _
    rw [if_pos e, e']
    unfold fromOf
    rw [if_pos (by omega)]
    omega
  · rw [hsum_none e]
    show 0 + (if srcF src i = -1 then 0 else _) = _
    rw [if_neg e]
    have h3 := (h.made.one i hi).2.2.1
    have e' : ¬ src.getD i 0 = -1 := e
    unfold fromOf
    rw [if_neg (by omega)]
    exact Int.zero_add _
theorem MadeT.fewest {er : Int} {st : ByteArray} {l : List S24} {src : List Int} (h : MadeT er st l src) : (fewestV l).1 ≤ errSum l st src l.length := by
  rw [← h.cost]
  exact Int.le_trans (fewest_le h.knownE h.known) (numF_le h.fit)
theorem copiesOf_made (s0 s1 copies places er : Int) (h1 : 1 ≤ copies) (h2 : copies ≤ 5) (h3 : 1 ≤ places) (h4 : places ≤ 8) (h5 : 0 ≤ er) (h6 : er ≤ 3) :
    ∃ l st src a b, OwnUrn.copiesOf s0 s1 copies places er = some (l, st, src, a, b) ∧ MadeT er st l src ∧ (l.length : Int) ≤ copies ∧ (st.size : Int) ≤ places := by
  obtain ⟨l, st, src, a, b, e, m, n, p, q⟩ := copiesOf_ok s0 s1 copies places er h1 (by omega) h3 (by omega) h5 (by omega)
  exact ⟨l, st, src, a, b, e, ⟨m, h5, h6, n.1, by omega, p.1, by omega, q⟩, n.2, p.2⟩
end Go.Proofs.Ytegjollhajgcdaa.P.OwnSt
namespace Go.Proofs.Ytegjollhajgcdaa.P
open Go.RowKit Go.Proofs.YtegjollhajgcdaaW.PrintWords Go.Proofs.YtegjollhajgcdaaW.PrintLast Go.Proofs.YtegjollhajgcdaaW.PrintMore
attribute [local go_sem] max2_int min2_int max_two min_two max_three min_three max_four min_four   -- for this text's walks alone
set_option linter.unusedVariables false
set_option linter.unusedSimpArgs false
def cippusref07_Apart.l0 : Nat → ByteArray → ByteArray → Int → Int → Option (Int)
  | 0, _, _, _, _ => none
  | k + 1, x0, x1, x5, x6 => if x6 < (x0.size : Int) then (if 0 ≤ x6 then (if x6 < (x1.size : Int) then (if (bt x0 x6) = (bt x1 x6) then (cippusref07_Apart.l0 k x0 x1 x5 (wrap64 (x6 + 1))) else (cippusref07_Apart.l0 k x0 x1 (wrap64 (x5 + 1)) (wrap64 (x6 + 1)))) else (none)) else (none)) else (some x5)
def cippusref07_Apart.f (k : Nat) (a0 : ByteArray) (a1 : ByteArray) : Option (Int) := cippusref07_Apart.l0 k a0 a1 0 0
theorem cippusref07_Apart.mono_l : ∀ k, (∀ y0 y1 y2 y3, LeO (cippusref07_Apart.l0 k y0 y1 y2 y3) (cippusref07_Apart.l0 (k + 1) y0 y1 y2 y3))
  | 0 => fun _ _ _ _ r h => by simp [cippusref07_Apart.l0] at h
  | k + 1 => by
    have ih0 := cippusref07_Apart.mono_l k
    · intro y0 y1 y2 y3
      unfold cippusref07_Apart.l0
      repeat' first
      | (with_reducible exact ih0 _ _ _ _)
      | (with_reducible exact LeO.refl _)
      | (with_reducible exact LeO.none _)
      | (with_reducible refine LeO.ite ?_ ?_)
      | (with_reducible refine LeO.bind ?_ (fun _ => ?_))
      | exact ih0 _ _ _ _
      | exact LeO.none _
      | refine LeO.ite ?_ ?_
      | refine LeO.bind ?_ (fun _ => ?_)
theorem cippusref07_Apart.mono : ∀ a0 a1 k, LeO (cippusref07_Apart.f k a0 a1) (cippusref07_Apart.f (k + 1) a0 a1) := by
  intro a0 a1 k
  have ih0 := cippusref07_Apart.mono_l k
  unfold cippusref07_Apart.f
  repeat' first
      | (with_reducible exact ih0 _ _ _ _)
      | (with_reducible exact LeO.refl _)
      | (with_reducible exact LeO.none _)
      | (with_reducible refine LeO.ite ?_ ?_)
      | (with_reducible refine LeO.bind ?_ (fun _ => ?_))
      | exact ih0 _ _ _ _
      | exact LeO.none _
      | refine LeO.ite ?_ ?_
      | refine LeO.bind ?_ (fun _ => ?_)
set_option maxHeartbeats 8000000 in
set_option maxRecDepth 100000 in
theorem cippusref07_Apart.calls (k : Nat) (a0 : ByteArray) (a1 : ByteArray) (r : Int) (w : World) (h : cippusref07_Apart.f k a0 a1 = some r) :
    Calls Try.prog 43 #[.string a0, .string a1] w fun e w' => e = .returned (.int .i64 r) ∧ Drawn0 w w' := by
  have H : (cippusref07_Apart.l0 k a0 a1 0 0) = some r := h
  clear h
  have H' := Aside0.mk H
  clear H
  go_enter Try.func43, Try.ntmps43
  go_wp2
  repeat (go_quiet (fail); try go_wp2)
  go_loopg [5, 6] k (fun kq v5 v6 w' => ∃ (x5_1 : Int) (x6_1 : Int), v5 = .int .i64 x5_1 ∧ v6 = .int .i64 x6_1 ∧ Aside0 (cippusref07_Apart.l0 kq a0 a1 x5_1 x6_1 = some r) ∧ Aside0 (kq ≤ k) ∧ Drawn0 w w')
  case atStart => exact ⟨(0), (0), (by first | rfl | (simp; done) | (simp [*]; done)), (by first | rfl | (simp; done) | (simp [*]; done)), H', ⟨Nat.le_refl _⟩, by repeat (first | exact Drawn0.refl _ | apply Drawn0.step)⟩
  case round =>
    clear H'
    try clear p2
    obtain ⟨x5_1, x6_1, rfl, rfl, HA, HK1, ⟨m1, rfl⟩⟩ := hrel
    cases gk with
    | zero => exact absurd HA.out (by simp [cippusref07_Apart.l0])
    | succ k1 =>
      have H := HA.out
      clear HA
      simp only [cippusref07_Apart.l0] at H
      by_cases c3 : x6_1 < (a0.size : Int)
      · rw [if_pos c3] at H
        have c3b0 : decide (x6_1 < (a0.size : Int)) = true := decide_eq_true c3
        clear c3
        by_cases c4 : 0 ≤ x6_1
        · rw [if_pos c4] at H
          have c4b0 : decide (0 ≤ x6_1) = true := decide_eq_true c4
          clear c4
          by_cases c6 : x6_1 < (a1.size : Int)
          · rw [if_pos c6] at H
            have c6b0 : decide (x6_1 < (a1.size : Int)) = true := decide_eq_true c6
            clear c6
            by_cases c8 : (bt a0 x6_1) = (bt a1 x6_1)
            · rw [if_pos c8] at H
              have c8b0 : ((bt a0 x6_1) == (bt a1 x6_1)) = true := beq_iff_eq.mpr c8
              have c8b1 : ((bt a0 x6_1) != (bt a1 x6_1)) = false := bne_eq_false_iff_eq.mpr c8
              clear c8
              have H' := Aside0.mk H
              clear H
              have p5 : 0 ≤ (x6_1 : Int) := of_decide_eq_true (by first | (with_reducible assumption) | assumption)
              have q5 : x6_1 < (a0.size : Int) := of_decide_eq_true (by first | (with_reducible assumption) | assumption)
              have hx5 := bt_at a0 x6_1
              replace p5 := eq_true p5
              replace q5 := eq_true q5
              have p7 : 0 ≤ (x6_1 : Int) := of_decide_eq_true (by first | (with_reducible assumption) | assumption)
              have q7 : x6_1 < (a1.size : Int) := of_decide_eq_true (by first | (with_reducible assumption) | assumption)
              have hx7 := bt_at a1 x6_1
              replace p7 := eq_true p7
              replace q7 := eq_true q7
              go_wp2
              repeat (go_quiet (fail); try go_wp2)
              go_roundg k1
              case measure => have := HK1.out; omega
              case rel => exact ⟨(x5_1), (wrap64 (x6_1 + 1)), (by first | rfl | (simp; done) | (simp [*]; done)), (by first | rfl | (simp; done) | (simp [*]; done)), H', ⟨by have := HK1.out; omega⟩, by repeat (first | exact Drawn0.refl _ | apply Drawn0.step)⟩
            · rw [if_neg c8] at H
              have c8b0 : ((bt a0 x6_1) == (bt a1 x6_1)) = false := beq_eq_false_iff_ne.mpr c8
              have c8b1 : ((bt a0 x6_1) != (bt a1 x6_1)) = true := bne_iff_ne.mpr c8
              have H' := Aside0.mk H
              clear H
              have p5 : 0 ≤ (x6_1 : Int) := of_decide_eq_true (by first | (with_reducible assumption) | assumption)
              have q5 : x6_1 < (a0.size : Int) := of_decide_eq_true (by first | (with_reducible assumption) | assumption)
              have hx5 := bt_at a0 x6_1
              replace p5 := eq_true p5
              replace q5 := eq_true q5
              have p7 : 0 ≤ (x6_1 : Int) := of_decide_eq_true (by first | (with_reducible assumption) | assumption)
              have q7 : x6_1 < (a1.size : Int) := of_decide_eq_true (by first | (with_reducible assumption) | assumption)
              have hx7 := bt_at a1 x6_1
              replace p7 := eq_true p7
              replace q7 := eq_true q7
              go_wp2
              repeat (go_quiet (fail); try go_wp2)
              go_roundg k1
              case measure => have := HK1.out; omega
              case rel => exact ⟨(wrap64 (x5_1 + 1)), (wrap64 (x6_1 + 1)), (by first | rfl | (simp; done) | (simp [*]; done)), (by first | rfl | (simp; done) | (simp [*]; done)), H', ⟨by have := HK1.out; omega⟩, by repeat (first | exact Drawn0.refl _ | apply Drawn0.step)⟩
          · rw [if_neg c6] at H
            exact absurd H (by simp)
        · rw [if_neg c4] at H
          exact absurd H (by simp)
      · rw [if_neg c3] at H
        have c3b0 : decide (x6_1 < (a0.size : Int)) = false := decide_eq_false c3
        clear c3
        obtain rfl := Option.some.inj H
        go_wp2
        repeat (go_quiet (fail); try go_wp2)
        go_ret
        exact ⟨by first | rfl | (simp; done) | (simp [*]; done), by repeat (first | exact Drawn0.refl _ | apply Drawn0.step)⟩
end Go.Proofs.Ytegjollhajgcdaa.P
namespace Go.Proofs.Ytegjollhajgcdaa.P
open Go.RowKit Go.Proofs.YtegjollhajgcdaaW.PrintWords Go.Proofs.YtegjollhajgcdaaW.PrintLast Go.Proofs.YtegjollhajgcdaaW.PrintMore
attribute [local go_sem] max2_int min2_int max_two min_two max_three min_three max_four min_four   -- for this text's walks alone
set_option linter.unusedVariables false
set_option linter.unusedSimpArgs false
def cippuslaw07_errors.l0 : Nat → List (S24) → Int → Int → ByteArray → List Int → Option (Int)
  | 0, _, _, _, _, _ => none
  | k + 1, x0, x5, x6, x378000, x378001 => if x6 < (x0.length : Int) then (if 0 ≤ x6 then (if x6 < (x378001.length : Int) then (if (rd x378001 x6) ≥ 0 then (if 0 ≤ (rd x378001 x6) then (if (rd x378001 x6) < (x0.length : Int) then ((cippusref07_Apart.f k ((rd_T24 x0 (rd x378001 x6)).f0) ((rd_T24 x0 x6).f0)).bind fun t382 => (cippuslaw07_errors.l0 k x0 (wrap64 (x5 + t382)) (wrap64 (x6 + 1)) x378000 x378001)) else (none)) else (none)) else ((cippusref07_Apart.f k x378000 ((rd_T24 x0 x6).f0)).bind fun t384 => (cippuslaw07_errors.l0 k x0 (wrap64 (x5 + t384)) (wrap64 (x6 + 1)) x378000 x378001))) else (none)) else (none)) else (some x5)
def cippuslaw07_errors.f (k : Nat) (l0 : List (S24)) (a1_0 : ByteArray) (l1_1 : List Int) : Option (Int) := cippuslaw07_errors.l0 k l0 0 0 a1_0 l1_1
theorem cippuslaw07_errors.mono_l : ∀ k, (∀ y0 y1 y2 y3 y4, LeO (cippuslaw07_errors.l0 k y0 y1 y2 y3 y4) (cippuslaw07_errors.l0 (k + 1) y0 y1 y2 y3 y4))
  | 0 => fun _ _ _ _ _ r h => by simp [cippuslaw07_errors.l0] at h
  | k + 1 => by
    have ih0 := cippuslaw07_errors.mono_l k
    · intro y0 y1 y2 y3 y4
      unfold cippuslaw07_errors.l0
      repeat' first
      | (with_reducible exact ih0 _ _ _ _ _)
      | (with_reducible exact cippusref07_Apart.mono _ _ _)
      | (with_reducible exact LeO.refl _)
      | (with_reducible exact LeO.none _)
      | (with_reducible refine LeO.ite ?_ ?_)
      | (with_reducible refine LeO.bind ?_ (fun _ => ?_))
      | exact ih0 _ _ _ _ _
      | exact cippusref07_Apart.mono _ _ _
      | exact LeO.none _
      | refine LeO.ite ?_ ?_
      | refine LeO.bind ?_ (fun _ => ?_)
theorem cippuslaw07_errors.mono : ∀ a0 a1 a2 k, LeO (cippuslaw07_errors.f k a0 a1 a2) (cippuslaw07_errors.f (k + 1) a0 a1 a2) := by
  intro a0 a1 a2 k
  have ih0 := cippuslaw07_errors.mono_l k
  unfold cippuslaw07_errors.f
  repeat' first
      | (with_reducible exact ih0 _ _ _ _ _)
      | (with_reducible exact cippusref07_Apart.mono _ _ _)
      | (with_reducible exact LeO.refl _)
      | (with_reducible exact LeO.none _)
      | (with_reducible refine LeO.ite ?_ ?_)
      | (with_reducible refine LeO.bind ?_ (fun _ => ?_))
      | exact ih0 _ _ _ _ _
      | exact cippusref07_Apart.mono _ _ _
      | exact LeO.none _
      | refine LeO.ite ?_ ?_
      | refine LeO.bind ?_ (fun _ => ?_)
set_option maxHeartbeats 8000000 in
set_option maxRecDepth 100000 in
theorem cippuslaw07_errors.calls (k : Nat) (A0 : Option Addr) (c0 : Nat) (l0 : List (S24)) (a1_0 : ByteArray) (A1_1 : Option Addr) (c1_1 : Nat) (l1_1 : List Int) (r : Int) (w : World) (hr0 : Kd.C k24 w A0 l0.length l0) (hc0 : l0.length ≤ c0) (hr1_1 : Kd.C (Kd.int .i64) w A1_1 l1_1.length l1_1) (hc1_1 : l1_1.length ≤ c1_1) (h : cippuslaw07_errors.f k l0 a1_0 l1_1 = some r) :
    Calls Try.prog 31 #[.slice A0 l0.length c0, .agg #[.string a1_0, .slice A1_1 l1_1.length c1_1]] w fun e w' => e = .returned (.int .i64 r) ∧ Below w.heap.size w w' := by
  have hu27 := Try.underlying27
  have HR0 := Aside0.mk hr0
  have HC0 := Aside0.mk hc0
  clear hr0 hc0
  have HR1_1 := Aside0.mk hr1_1
  have HC1_1 := Aside0.mk hc1_1
  clear hr1_1 hc1_1
  have HB := Aside0.mk (Below.refl w.heap.size w)
  have H : (cippuslaw07_errors.l0 k l0 0 0 a1_0 l1_1) = some r := h
  clear h
  have H' := Aside0.mk H
  clear H
  go_enter Try.func31, Try.ntmps31
  go_wp2_with (first | ((with_reducible refine gate_dst (N := 3) rfl ?_); refine box_event ?hg (N := 3) ?hd (cs := #[.string a1_0, .slice A1_1 l1_1.length c1_1]) (t := 27) ?hr ?_; (case hd => rfl); (case hg => rfl); (case hr => first | (go_simp; done) | (go_simp; rfl)); intro gb377 hg w3 hbox hb; have n0_ := Aside0.mk (below_step (by repeat (first | (with_reducible first | exact HB.out | apply below_alloc | apply pw_below_drewN | apply below_drew1) | exact HB.out)) hb); have n1_ := Aside0.mk (hbox); have n2_ := Aside0.mk ((by rw [hg]; exact (below_size (by repeat (first | (with_reducible first | exact HB.out | apply below_alloc | apply pw_below_drewN | apply below_drew1) | exact HB.out))) : w.heap.size ≤ gb377)); have n3_ := Aside0.mk ((by rw [hg]; exact (below_size (by repeat (first | (with_reducible first | exact HB.out | apply below_alloc | apply pw_below_drewN | apply below_drew1) | exact HB.out))) : w.heap.size ≤ gb377)); clear HB; have HB := n0_; have BK377 := n1_; have GW377 := n2_; have GE377 := n3_; clear n0_ n1_ n2_ n3_; clear hb hbox hg))
  go_loopg [5, 6] k (fun kq v5 v6 w' => ∃ (x5_1 : Int) (x6_1 : Int), v5 = .int .i64 x5_1 ∧ v6 = .int .i64 x6_1 ∧ Aside0 (cippuslaw07_errors.l0 kq l0 x5_1 x6_1 a1_0 l1_1 = some r) ∧ Aside0 (kq ≤ k) ∧ Aside0 (w'.heap[gb377]? = some (.cells #[.string a1_0, (.slice A1_1 l1_1.length c1_1)] 27 (0, 0))) ∧ Aside0 (Below w.heap.size w w'))
  case atStart => exact ⟨(0), (0), (by first | rfl | (simp; done) | (simp [*]; done)), (by first | rfl | (simp; done) | (simp [*]; done)), H', ⟨Nat.le_refl _⟩, ⟨by (with_reducible repeat (first | refine blk_drewN ?_ _ | refine blk_drew ?_ | refine blk_alloc ?_ _)); exact BK377.out⟩, ⟨by repeat (first | (with_reducible first | exact HB.out | apply below_alloc | apply pw_below_drewN | apply below_drew1 | refine below_set ?_ GE377.out) | exact HB.out)⟩⟩
  case round =>
    clear H'
    try clear c1
    try clear p2
    try clear c3
    obtain ⟨x5_1, x6_1, rfl, rfl, HA, HK1, BK377, HB⟩ := hrel
    cases gk with
    | zero => exact absurd HA.out (by simp [cippuslaw07_errors.l0])
    | succ k1 =>
      have H := HA.out
      clear HA
      simp only [cippuslaw07_errors.l0] at H
      by_cases c4 : x6_1 < (l0.length : Int)
      · rw [if_pos c4] at H
        have c4b0 : decide (x6_1 < (l0.length : Int)) = true := decide_eq_true c4
        clear c4
        by_cases c5 : 0 ≤ x6_1
        · rw [if_pos c5] at H
          have c5b0 : decide (0 ≤ x6_1) = true := decide_eq_true c5
          clear c5
          by_cases c6 : x6_1 < (l1_1.length : Int)
          · rw [if_pos c6] at H
            have c6b0 : decide (x6_1 < (l1_1.length : Int)) = true := decide_eq_true c6
            clear c6
            by_cases c7 : (rd l1_1 x6_1) ≥ 0
            · rw [if_pos c7] at H
              have c7b0 : decide (0 ≤ (rd l1_1 x6_1)) = true := decide_eq_true c7
              clear c7
              by_cases c8 : 0 ≤ (rd l1_1 x6_1)
              · rw [if_pos c8] at H
                have c8b0 : decide (0 ≤ (rd l1_1 x6_1)) = true := decide_eq_true c8
                clear c8
                by_cases c9 : (rd l1_1 x6_1) < (l0.length : Int)
                · rw [if_pos c9] at H
                  have c9b0 : decide ((rd l1_1 x6_1) < (l0.length : Int)) = true := decide_eq_true c9
                  clear c9
                  replace H := Option.bind_eq_some_iff.mp H
                  obtain ⟨t382, A100, H⟩ := H
                  replace H : (cippuslaw07_errors.l0 k1 l0 (wrap64 (x5_1 + t382)) (wrap64 (x6_1 + 1)) a1_0 l1_1) = some r := H
                  have A10 := Aside0.mk A100
                  clear A100
                  have H' := Aside0.mk H
                  clear H
                  have hcz11_0 : wr.cell? ⟨gb377, 0, none⟩ = some (.string a1_0) := (blk_cell BK377.out 0).trans rfl
                  have hcz11_1 : wr.cell? ⟨gb377, 1, none⟩ = some (.slice A1_1 l1_1.length c1_1) := (blk_cell BK377.out 1).trans rfl
                  have hfz11_0 := blk_frozen BK377.out 0
                  have hfz11_1 := blk_frozen BK377.out 1
                  have p378 : 0 ≤ (x6_1 : Int) := of_decide_eq_true (by first | (with_reducible assumption) | assumption)
                  have q378 : x6_1 < (l1_1.length : Int) := of_decide_eq_true (by first | (with_reducible assumption) | assumption)
                  obtain ⟨ad378, e378, hx378_0⟩ := Kd.at_int HR1_1.out x6_1 p378 q378
                  cases e378
                  try replace hx378_0 := (HB.out.cell (World.block_lt_of_cell? w _ hx378_0)).trans hx378_0
                  replace p378 := eq_true p378
                  replace q378 := eq_true q378
                  have p379 : 0 ≤ (x6_1 : Int) := of_decide_eq_true (by first | (with_reducible assumption) | assumption)
                  have q379 : x6_1 < (l1_1.length : Int) := of_decide_eq_true (by first | (with_reducible assumption) | assumption)
                  obtain ⟨ad379, e379, hx379_0⟩ := Kd.at_int HR1_1.out x6_1 p379 q379
                  obtain rfl : ad378 = ad379 := (by injection e379)
                  try replace hx379_0 := (HB.out.cell (World.block_lt_of_cell? w _ hx379_0)).trans hx379_0
                  replace p379 := eq_true p379
                  replace q379 := eq_true q379
                  have p380 : 0 ≤ ((rd l1_1 x6_1) : Int) := of_decide_eq_true (by first | (with_reducible assumption) | assumption)
                  have q380 : (rd l1_1 x6_1) < (l0.length : Int) := of_decide_eq_true (by first | (with_reducible assumption) | assumption)
                  obtain ⟨ad380, e380, hx380_0, hx380_1, hx380_2⟩ := at_T24 HR0.out (rd l1_1 x6_1) p380 q380
                  cases e380
                  try replace hx380_0 := (HB.out.cell (World.block_lt_of_cell? w _ hx380_0)).trans hx380_0
                  try replace hx380_1 := (HB.out.cell (World.block_lt_of_cell? w _ hx380_1)).trans hx380_1
                  try replace hx380_2 := (HB.out.cell (World.block_lt_of_cell? w _ hx380_2)).trans hx380_2
                  replace p380 := eq_true p380
                  replace q380 := eq_true q380
                  have p381 : 0 ≤ (x6_1 : Int) := of_decide_eq_true (by first | (with_reducible assumption) | assumption)
                  have q381 : x6_1 < (l0.length : Int) := of_decide_eq_true (by first | (with_reducible assumption) | assumption)
                  obtain ⟨ad381, e381, hx381_0, hx381_1, hx381_2⟩ := at_T24 HR0.out x6_1 p381 q381
                  obtain rfl : ad380 = ad381 := (by injection e381)
                  try replace hx381_0 := (HB.out.cell (World.block_lt_of_cell? w _ hx381_0)).trans hx381_0
                  try replace hx381_1 := (HB.out.cell (World.block_lt_of_cell? w _ hx381_1)).trans hx381_1
                  try replace hx381_2 := (HB.out.cell (World.block_lt_of_cell? w _ hx381_2)).trans hx381_2
                  replace p381 := eq_true p381
                  replace q381 := eq_true q381
                  go_wp2_with (first | ((with_reducible refine gate_callee (f := 43) rfl ?_); refine goesL_ (some 38) rfl rfl Try.func43 (by kernel_rfl) rfl #[.string ((rd_T24 l0 (rd l1_1 x6_1)).f0), .string ((rd_T24 l0 x6_1).f0)] rfl (by (try simp only [List.map_toArray, List.map_cons, List.map_nil]); first | done | rfl | (simp only [List.length_drop, List.length_take]; rfl)) ?_; (with_reducible refine (cippusref07_Apart.calls k1 ((rd_T24 l0 (rd l1_1 x6_1)).f0) ((rd_T24 l0 x6_1).f0) t382 _ A10.out).mono ?_); rintro e w' ⟨rfl, ⟨nd, rfl⟩⟩; refine ⟨_, rfl, ?_⟩))
                  go_roundg k1
                  case measure => have := HK1.out; omega
                  case rel => exact ⟨(wrap64 (x5_1 + t382)), (wrap64 (x6_1 + 1)), (by first | rfl | (simp; done) | (simp [*]; done)), (by first | rfl | (simp; done) | (simp [*]; done)), H', ⟨by have := HK1.out; omega⟩, ⟨by (with_reducible repeat (first | refine blk_drewN ?_ _ | refine blk_drew ?_ | refine blk_alloc ?_ _)); exact BK377.out⟩, ⟨by repeat (first | (with_reducible first | exact HB.out | apply below_alloc | apply pw_below_drewN | apply below_drew1 | refine below_set ?_ GE377.out) | exact HB.out)⟩⟩
                · rw [if_neg c9] at H
                  exact absurd H (by simp)
              · rw [if_neg c8] at H
                exact absurd H (by simp)
            · rw [if_neg c7] at H
              have c7b0 : decide (0 ≤ (rd l1_1 x6_1)) = false := decide_eq_false c7
              clear c7
              replace H := Option.bind_eq_some_iff.mp H
              obtain ⟨t384, A120, H⟩ := H
              replace H : (cippuslaw07_errors.l0 k1 l0 (wrap64 (x5_1 + t384)) (wrap64 (x6_1 + 1)) a1_0 l1_1) = some r := H
              have A12 := Aside0.mk A120
              clear A120
              have H' := Aside0.mk H
              clear H
              have hcz13_0 : wr.cell? ⟨gb377, 0, none⟩ = some (.string a1_0) := (blk_cell BK377.out 0).trans rfl
              have hcz13_1 : wr.cell? ⟨gb377, 1, none⟩ = some (.slice A1_1 l1_1.length c1_1) := (blk_cell BK377.out 1).trans rfl
              have hfz13_0 := blk_frozen BK377.out 0
              have hfz13_1 := blk_frozen BK377.out 1
              have p378 : 0 ≤ (x6_1 : Int) := of_decide_eq_true (by first | (with_reducible assumption) | assumption)
              have q378 : x6_1 < (l1_1.length : Int) := of_decide_eq_true (by first | (with_reducible assumption) | assumption)
              obtain ⟨ad378, e378, hx378_0⟩ := Kd.at_int HR1_1.out x6_1 p378 q378
              cases e378
              try replace hx378_0 := (HB.out.cell (World.block_lt_of_cell? w _ hx378_0)).trans hx378_0
              replace p378 := eq_true p378
              replace q378 := eq_true q378
              have p383 : 0 ≤ (x6_1 : Int) := of_decide_eq_true (by first | (with_reducible assumption) | assumption)
              have q383 : x6_1 < (l0.length : Int) := of_decide_eq_true (by first | (with_reducible assumption) | assumption)
              obtain ⟨ad383, e383, hx383_0, hx383_1, hx383_2⟩ := at_T24 HR0.out x6_1 p383 q383
              cases e383
              try replace hx383_0 := (HB.out.cell (World.block_lt_of_cell? w _ hx383_0)).trans hx383_0
              try replace hx383_1 := (HB.out.cell (World.block_lt_of_cell? w _ hx383_1)).trans hx383_1
              try replace hx383_2 := (HB.out.cell (World.block_lt_of_cell? w _ hx383_2)).trans hx383_2
              replace p383 := eq_true p383
              replace q383 := eq_true q383
              go_wp2_with (first | ((with_reducible refine gate_callee (f := 43) rfl ?_); refine goesL_ (some 38) rfl rfl Try.func43 (by kernel_rfl) rfl #[.string a1_0, .string ((rd_T24 l0 x6_1).f0)] rfl (by (try simp only [List.map_toArray, List.map_cons, List.map_nil]); first | done | rfl | (simp only [List.length_drop, List.length_take]; rfl)) ?_; (with_reducible refine (cippusref07_Apart.calls k1 a1_0 ((rd_T24 l0 x6_1).f0) t384 _ A12.out).mono ?_); rintro e w' ⟨rfl, ⟨nd, rfl⟩⟩; refine ⟨_, rfl, ?_⟩))
              go_roundg k1
              case measure => have := HK1.out; omega
              case rel => exact ⟨(wrap64 (x5_1 + t384)), (wrap64 (x6_1 + 1)), (by first | rfl | (simp; done) | (simp [*]; done)), (by first | rfl | (simp; done) | (simp [*]; done)), H', ⟨by have := HK1.out; omega⟩, ⟨by (with_reducible repeat (first | refine blk_drewN ?_ _ | refine blk_drew ?_ | refine blk_alloc ?_ _)); exact BK377.out⟩, ⟨by repeat (first | (with_reducible first | exact HB.out | apply below_alloc | apply pw_below_drewN | apply below_drew1 | refine below_set ?_ GE377.out) | exact HB.out)⟩⟩
          · rw [if_neg c6] at H
            exact absurd H (by simp)
        · rw [if_neg c5] at H
          exact absurd H (by simp)
      · rw [if_neg c4] at H
        have c4b0 : decide (x6_1 < (l0.length : Int)) = false := decide_eq_false c4
        clear c4
        obtain rfl := Option.some.inj H
        go_wp2
        go_ret
        exact ⟨by first | rfl | (simp [errW_none, errW_some] <;> rfl) | (simp [*, errW_none, errW_some] <;> rfl), by repeat (first | (with_reducible first | exact HB.out | apply below_alloc | apply pw_below_drewN | apply below_drew1 | refine below_set ?_ GE377.out) | exact HB.out)⟩
end Go.Proofs.Ytegjollhajgcdaa.P
namespace Go.Proofs.Ytegjollhajgcdaa.P
open Go.RowKit Go.Proofs.YtegjollhajgcdaaW.PrintWords Go.Proofs.YtegjollhajgcdaaW.PrintLast Go.Proofs.YtegjollhajgcdaaW.PrintMore
attribute [local go_sem] max2_int min2_int max_two min_two max_three min_three max_four min_four   -- for this text's walks alone
set_option linter.unusedVariables false
set_option linter.unusedSimpArgs false
def cippusref07_Below.l0 : Nat → List Int → Int → Int → Option (Bool)
  | 0, _, _, _ => none
  | k + 1, x0, x1, x2 => if x1 = (-1) then (some false) else (if x1 = x2 then (some true) else (if 0 ≤ x1 then (if x1 < (x0.length : Int) then (cippusref07_Below.l0 k x0 (rd x0 x1) x2) else (none)) else (none)))
def cippusref07_Below.f (k : Nat) (l0 : List Int) (a1 : Int) (a2 : Int) : Option (Bool) := if 0 ≤ a1 then (if a1 < (l0.length : Int) then (cippusref07_Below.l0 k l0 (rd l0 a1) a2) else (none)) else (none)
theorem cippusref07_Below.mono_l : ∀ k, (∀ y0 y1 y2, LeO (cippusref07_Below.l0 k y0 y1 y2) (cippusref07_Below.l0 (k + 1) y0 y1 y2))
  | 0 => fun _ _ _ r h => by simp [cippusref07_Below.l0] at h
  | k + 1 => by
    have ih0 := cippusref07_Below.mono_l k
    · intro y0 y1 y2
      unfold cippusref07_Below.l0
      repeat' first
      | (with_reducible exact ih0 _ _ _)
      | (with_reducible exact LeO.refl _)
      | (with_reducible exact LeO.none _)
      | (with_reducible refine LeO.ite ?_ ?_)
      | (with_reducible refine LeO.bind ?_ (fun _ => ?_))
      | exact ih0 _ _ _
      | exact LeO.none _
      | refine LeO.ite ?_ ?_
      | refine LeO.bind ?_ (fun _ => ?_)
theorem cippusref07_Below.mono : ∀ a0 a1 a2 k, LeO (cippusref07_Below.f k a0 a1 a2) (cippusref07_Below.f (k + 1) a0 a1 a2) := by
  intro a0 a1 a2 k
  have ih0 := cippusref07_Below.mono_l k
  unfold cippusref07_Below.f
  repeat' first
      | (with_reducible exact ih0 _ _ _)
      | (with_reducible exact LeO.refl _)
      | (with_reducible exact LeO.none _)
      | (with_reducible refine LeO.ite ?_ ?_)
      | (with_reducible refine LeO.bind ?_ (fun _ => ?_))
      | exact ih0 _ _ _
      | exact LeO.none _
      | refine LeO.ite ?_ ?_
      | refine LeO.bind ?_ (fun _ => ?_)
set_option maxHeartbeats 8000000 in
set_option maxRecDepth 100000 in
theorem cippusref07_Below.calls (k : Nat) (A0 : Option Addr) (c0 : Nat) (l0 : List Int) (a1 : Int) (a2 : Int) (r : Bool) (w : World) (hr0 : Kd.C (Kd.int .i64) w A0 l0.length l0) (hc0 : l0.length ≤ c0) (h : cippusref07_Below.f k l0 a1 a2 = some r) :
    Calls Try.prog 42 #[.slice A0 l0.length c0, .int .i64 a1, .int .i64 a2] w fun e w' => e = .returned (.bool r) ∧ Drawn0 w w' := by
  have HR0 := Aside0.mk hr0
  have HC0 := Aside0.mk hc0
  clear hr0 hc0
  have H : (if 0 ≤ a1 then (if a1 < (l0.length : Int) then (cippusref07_Below.l0 k l0 (rd l0 a1) a2) else (none)) else (none)) = some r := h
  clear h
  by_cases c4 : 0 ≤ a1
  · rw [if_pos c4] at H
    have c4b0 : decide (0 ≤ a1) = true := decide_eq_true c4
    clear c4
    by_cases c5 : a1 < (l0.length : Int)
    · rw [if_pos c5] at H
      have c5b0 : decide (a1 < (l0.length : Int)) = true := decide_eq_true c5
      clear c5
      have H' := Aside0.mk H
      clear H
      have p605 : 0 ≤ (a1 : Int) := of_decide_eq_true (by first | (with_reducible assumption) | assumption)
      have q605 : a1 < (l0.length : Int) := of_decide_eq_true (by first | (with_reducible assumption) | assumption)
      obtain ⟨ad605, e605, hx605_0⟩ := Kd.at_int HR0.out a1 p605 q605
      cases e605
      replace p605 := eq_true p605
      replace q605 := eq_true q605
      go_enter Try.func42, Try.ntmps42
      go_wp2
      go_loopg [1] k (fun kq v1 w' => ∃ (x1_1 : Int), v1 = .int .i64 x1_1 ∧ Aside0 (cippusref07_Below.l0 kq l0 x1_1 a2 = some r) ∧ Aside0 (kq ≤ k) ∧ Drawn0 w w')
      case atStart => exact ⟨(rd l0 a1), (by first | rfl | (simp; done) | (simp [*]; done)), H', ⟨Nat.le_refl _⟩, by repeat (first | exact Drawn0.refl _ | apply Drawn0.step)⟩
      case round =>
        clear H'
        try clear p2
        try clear c4
        try clear c4b0
        try clear c5
        try clear c5b0
        try clear hx605_0
        try clear p605
        try clear q605
        obtain ⟨x1_1, rfl, HA, HK1, ⟨m1, rfl⟩⟩ := hrel
        cases gk with
        | zero => exact absurd HA.out (by simp [cippusref07_Below.l0])
        | succ k1 =>
          have H := HA.out
          clear HA
          simp only [cippusref07_Below.l0] at H
          by_cases c6 : x1_1 = (-1)
          · rw [if_pos c6] at H
            have c6b0 : (x1_1 == (-1)) = true := beq_iff_eq.mpr c6
            have c6b1 : (x1_1 != (-1)) = false := bne_eq_false_iff_eq.mpr c6
            clear c6
            obtain rfl := Option.some.inj H
            go_wp2
            go_ret
            exact ⟨by first | rfl | (simp; done) | (simp [*]; done), by repeat (first | exact Drawn0.refl _ | apply Drawn0.step)⟩
          · rw [if_neg c6] at H
            have c6b0 : (x1_1 == (-1)) = false := beq_eq_false_iff_ne.mpr c6
            have c6b1 : (x1_1 != (-1)) = true := bne_iff_ne.mpr c6
            by_cases c7 : x1_1 = a2
            · rw [if_pos c7] at H
              have c7b0 : (x1_1 == a2) = true := beq_iff_eq.mpr c7
              have c7b1 : (x1_1 != a2) = false := bne_eq_false_iff_eq.mpr c7
              clear c7
              obtain rfl := Option.some.inj H
              go_wp2
              go_ret
              exact ⟨by first | rfl | (simp; done) | (simp [*]; done), by repeat (first | exact Drawn0.refl _ | apply Drawn0.step)⟩
            · rw [if_neg c7] at H
              have c7b0 : (x1_1 == a2) = false := beq_eq_false_iff_ne.mpr c7
              have c7b1 : (x1_1 != a2) = true := bne_iff_ne.mpr c7
              by_cases c8 : 0 ≤ x1_1
              · rw [if_pos c8] at H
                have c8b0 : decide (0 ≤ x1_1) = true := decide_eq_true c8
                clear c8
                by_cases c9 : x1_1 < (l0.length : Int)
                · rw [if_pos c9] at H
                  have c9b0 : decide (x1_1 < (l0.length : Int)) = true := decide_eq_true c9
                  clear c9
                  have H' := Aside0.mk H
                  clear H
                  have p606 : 0 ≤ (x1_1 : Int) := of_decide_eq_true (by first | (with_reducible assumption) | assumption)
                  have q606 : x1_1 < (l0.length : Int) := of_decide_eq_true (by first | (with_reducible assumption) | assumption)
                  obtain ⟨ad606, e606, hx606_0⟩ := Kd.at_int HR0.out x1_1 p606 q606
                  obtain rfl : ad605 = ad606 := (by injection e606)
                  replace p606 := eq_true p606
                  replace q606 := eq_true q606
                  go_wp2
                  go_roundg k1
                  case measure => have := HK1.out; omega
                  case rel => exact ⟨(rd l0 x1_1), (by first | rfl | (simp; done) | (simp [*]; done)), H', ⟨by have := HK1.out; omega⟩, by repeat (first | exact Drawn0.refl _ | apply Drawn0.step)⟩
                · rw [if_neg c9] at H
                  exact absurd H (by simp)
              · rw [if_neg c8] at H
                exact absurd H (by simp)
    · rw [if_neg c5] at H
      exact absurd H (by simp)
  · rw [if_neg c4] at H
    exact absurd H (by simp)
end Go.Proofs.Ytegjollhajgcdaa.P
namespace Go.Proofs.Ytegjollhajgcdaa.P
open Go.RowKit Go.Proofs.YtegjollhajgcdaaW.PrintWords Go.Proofs.YtegjollhajgcdaaW.PrintLast Go.Proofs.YtegjollhajgcdaaW.PrintMore
attribute [local go_sem] max2_int min2_int max_two min_two max_three min_three max_four min_four   -- for this text's walks alone
set_option linter.unusedVariables false
set_option linter.unusedSimpArgs false
def cippuslaw07_fits.f (a0 : Int) (a1 : Bool) : Option (Bool) := if a0 = 1 then (if a1 = true then (some true) else (if a0 = 2 then (some true) else (some (a0 == 3)))) else (if a0 = 2 then (if a1 = true then (some (a0 == 3)) else (some true)) else (some (a0 == 3)))
set_option maxHeartbeats 8000000 in
set_option maxRecDepth 100000 in
theorem cippuslaw07_fits.calls (a0 : Int) (a1 : Bool) (r : Bool) (w : World) (h : cippuslaw07_fits.f a0 a1 = some r) :
    Calls Try.prog 41 #[.int .i64 a0, .bool a1] w fun e w' => e = .returned (.bool r) ∧ Drawn0 w w' := by
  have H : (if a0 = 1 then (if a1 = true then (some true) else (if a0 = 2 then (some true) else (some (a0 == 3)))) else (if a0 = 2 then (if a1 = true then (some (a0 == 3)) else (some true)) else (some (a0 == 3)))) = some r := h
  clear h
  by_cases c3 : a0 = 1
  · rw [if_pos c3] at H
    have c3b0 : (a0 == 1) = true := beq_iff_eq.mpr c3
    have c3b1 : (a0 != 1) = false := bne_eq_false_iff_eq.mpr c3
    clear c3
    by_cases c4 : a1 = true
    · subst c4
      have H1 : (some true) = some r := by rw [if_pos rfl] at H; exact H
      clear H
      have H := H1
      clear H1
      obtain rfl := Option.some.inj H
      go_enter Try.func41, Try.ntmps41
      go_wp2
      go_ret
      exact ⟨by first | rfl | (simp; done) | (simp [*]; done), by repeat (first | exact Drawn0.refl _ | apply Drawn0.step)⟩
    · replace c4 := Bool.eq_false_iff.mpr c4
      subst c4
      have H1 : (if a0 = 2 then (some true) else (some (a0 == 3))) = some r := by rw [if_neg (show ¬ (false = true) by decide)] at H; exact H
      clear H
      have H := H1
      clear H1
      by_cases c5 : a0 = 2
      · rw [if_pos c5] at H
        have c5b0 : (a0 == 2) = true := beq_iff_eq.mpr c5
        have c5b1 : (a0 != 2) = false := bne_eq_false_iff_eq.mpr c5
        clear c5
        obtain rfl := Option.some.inj H
        go_enter Try.func41, Try.ntmps41
        go_wp2
        go_ret
        exact ⟨by first | rfl | (simp; done) | (simp [*]; done), by repeat (first | exact Drawn0.refl _ | apply Drawn0.step)⟩
      · rw [if_neg c5] at H
        have c5b0 : (a0 == 2) = false := beq_eq_false_iff_ne.mpr c5
        have c5b1 : (a0 != 2) = true := bne_iff_ne.mpr c5
        obtain rfl := Option.some.inj H
        go_enter Try.func41, Try.ntmps41
        go_wp2
        go_ret
        exact ⟨by first | rfl | (simp; done) | (simp [*]; done), by repeat (first | exact Drawn0.refl _ | apply Drawn0.step)⟩
  · rw [if_neg c3] at H
    have c3b0 : (a0 == 1) = false := beq_eq_false_iff_ne.mpr c3
    have c3b1 : (a0 != 1) = true := bne_iff_ne.mpr c3
    by_cases c6 : a0 = 2
    · rw [if_pos c6] at H
      have c6b0 : (a0 == 2) = true := beq_iff_eq.mpr c6
      have c6b1 : (a0 != 2) = false := bne_eq_false_iff_eq.mpr c6
      clear c6
      by_cases c7 : a1 = true
      · subst c7
        have H1 : (some (a0 == 3)) = some r := by rw [if_pos rfl] at H; exact H
        clear H
        have H := H1
        clear H1
        obtain rfl := Option.some.inj H
        go_enter Try.func41, Try.ntmps41
        go_wp2
        go_ret
        exact ⟨by first | rfl | (simp; done) | (simp [*]; done), by repeat (first | exact Drawn0.refl _ | apply Drawn0.step)⟩
      · replace c7 := Bool.eq_false_iff.mpr c7
        subst c7
        have H1 : (some true) = some r := by rw [if_neg (show ¬ (false = true) by decide)] at H; exact H
        clear H
        have H := H1
        clear H1
        obtain rfl := Option.some.inj H
        go_enter Try.func41, Try.ntmps41
        go_wp2
        go_ret
        exact ⟨by first | rfl | (simp; done) | (simp [*]; done), by repeat (first | exact Drawn0.refl _ | apply Drawn0.step)⟩
    · rw [if_neg c6] at H
      have c6b0 : (a0 == 2) = false := beq_eq_false_iff_ne.mpr c6
      have c6b1 : (a0 != 2) = true := bne_iff_ne.mpr c6
      obtain rfl := Option.some.inj H
      go_enter Try.func41, Try.ntmps41
      go_wp2
      go_ret
      exact ⟨by first | rfl | (simp; done) | (simp [*]; done), by repeat (first | exact Drawn0.refl _ | apply Drawn0.step)⟩
end Go.Proofs.Ytegjollhajgcdaa.P
namespace Go.Proofs.Ytegjollhajgcdaa.P.OwnSt
open Go.RowKit Go.Proofs.YtegjollhajgcdaaW.PrintWords Go.Proofs.YtegjollhajgcdaaW.PrintLast Go.Proofs.YtegjollhajgcdaaW.PrintMore
set_option maxRecDepth 100000 in
set_option maxHeartbeats 4000000 in
theorem found_40 : cippuslaw07_found.f 40 = some true := by kernel_rfl
theorem found_ev : Ev (fun k => cippuslaw07_found.f k) true := Ev.of cippuslaw07_found.mono found_40
end Go.Proofs.Ytegjollhajgcdaa.P.OwnSt
namespace Go.Proofs.Ytegjollhajgcdaa.P.OwnSt
open Go.RowKit Go.Proofs.YtegjollhajgcdaaW.PrintWords Go.Proofs.YtegjollhajgcdaaW.PrintLast Go.Proofs.YtegjollhajgcdaaW.PrintMore
set_option linter.unusedVariables false
set_option linter.unusedSimpArgs false
def hasB (b : ByteArray) (c : Int) : Bool := (List.range b.size).any fun (p : Nat) => bt b (p : Int) == c
theorem has_ev (b : ByteArray) (c : Int) (h8 : b.size ≤ 1000) : Ev (fun k => cippuslaw07_has.f k b c) (hasB b c) := by
  have : ∀ rem i, i + rem = b.size → (∀ j, j < i → bt b (j : Int) ≠ c) → Ev (fun k => cippuslaw07_has.l0 k b c (i : Int)) (hasB b c) := by
    intro rem
    induction rem with
    | zero =>
      intro i hi hn
      refine Ev.step (fun k => by rw [cippuslaw07_has.l0]) ?_
      refine Ev.if_neg' (by omega) ?_
      have : hasB b c = false := by
        unfold hasB
        rw [← Bool.not_eq_true, List.any_eq_true]
        rintro ⟨p, hp, h⟩
        exact hn p (by have := List.mem_range.1 hp; omega) (by simpa using h)
      rw [this]
      exact Ev.now _
    | succ rem ih =>
      intro i hi hn
      refine Ev.step (fun k => by rw [cippuslaw07_has.l0]) ?_
      refine Ev.if_pos' (by omega) (Ev.if_pos' (by omega) ?_)
      by_cases e : bt b (i : Int) = c
      · have : hasB b c = true := by
          unfold hasB
          rw [List.any_eq_true]
          exact ⟨i, List.mem_range.2 (by omega), by simpa using e⟩
        rw [this]
        exact Ev.if_pos' e (Ev.now _)
      · refine Ev.if_neg' e ?_
        rw [wrap64_small (by omega) (by omega)]
        have h := ih (i + 1) (by omega) (fun j hj => by
          by_cases ej : j = i
          · subst ej; exact e
          · exact hn j (by omega))
        simpa using h
  have h := this b.size 0 (by omega) (fun j hj => by omega)
  unfold cippuslaw07_has.f
  simpa using h
end Go.Proofs.Ytegjollhajgcdaa.P.OwnSt
namespace Go.Proofs.Ytegjollhajgcdaa.P.OwnSt
open Go.RowKit Go.Proofs.YtegjollhajgcdaaW.PrintWords Go.Proofs.YtegjollhajgcdaaW.PrintLast Go.Proofs.YtegjollhajgcdaaW.PrintMore
set_option linter.unusedVariables false
set_option linter.unusedSimpArgs false
theorem rowsV (l : List S24) (hk : knownE l = 0) (i : Nat) (hi : i < l.length) : rd_L4 (sourcesV l).1 (i : Int) = srcRow l i := by
  unfold sourcesV rd_L4
  rw [if_pos hk]
  simp [List.getD_eq_getElem?_getD, hi]
theorem textsV (l : List S24) (hk : knownE l = 0) (i : Nat) (hi : i < (rd_T24 l 0).f0.size) : rdOf ByteArray.empty (lettersV l).1 (i : Int) = letterRow l i := by
  unfold lettersV rdOf
  rw [if_pos hk]
  simp [List.getD_eq_getElem?_getD, hi]
theorem maskLetters_ok (M : Nat → Bool) : ∀ x ∈ maskLetters M 26, 0 ≤ x ∧ x ≤ 255 := by
  intro x hx
  unfold maskLetters at hx
  rw [List.mem_map] at hx
  obtain ⟨j, hj, rfl⟩ := hx
  have := List.mem_range.1 (List.mem_filter.1 hj).1
  omega
theorem letterRow_size (l : List S24) (i : Nat) : (letterRow l i).size ≤ 26 := by
  unfold letterRow
  rw [strOfNums_size]
  unfold maskLetters
  rw [List.length_map]
  exact Nat.le_trans (List.length_filter_le _ _) (by simp)
theorem mem_mask {M : Nat → Bool} {x : Int} : x ∈ maskLetters M 26 ↔ ∃ j : Nat, j < 26 ∧ M j = true ∧ x = 65 + (j : Int) := by
  unfold maskLetters
  rw [List.mem_map]
  constructor
  · rintro ⟨j, hj, rfl⟩
    rw [List.mem_filter] at hj
    exact ⟨j, List.mem_range.1 hj.1, hj.2, rfl⟩
  · rintro ⟨j, h1, h2, rfl⟩
    exact ⟨j, List.mem_filter.2 ⟨List.mem_range.2 h1, h2⟩, rfl⟩
theorem bt_mask (M : Nat → Bool) (p : Nat) (hp : p < (strOfNums (maskLetters M 26)).size) : ∃ j : Nat, j < 26 ∧ M j = true ∧ bt (strOfNums (maskLetters M 26)) (p : Int) = 65 + (j : Int) := by
  rw [strOfNums_size] at hp
  rw [bt_str _ p (maskLetters_ok M) hp]
  refine mem_mask.1 ?_
  rw [List.getD_eq_getElem?_getD, List.getElem?_eq_getElem hp]
  exact List.getElem_mem hp
theorem hasB_row (M : Nat → Bool) (j : Nat) (hj : j < 26) : hasB (strOfNums (maskLetters M 26)) (65 + (j : Int)) = M j := by
  unfold hasB
  rw [Bool.eq_iff_iff, List.any_eq_true]
  constructor
  · rintro ⟨p, hp, h⟩
    obtain ⟨q, h1, h2, h3⟩ := bt_mask M p (List.mem_range.1 hp)
    rw [h3] at h
    have : q = j := by
      have h4 : (65 + (q : Int)) = 65 + (j : Int) := by simpa using h
      omega
    rw [← this]
    exact h2
  · intro h
    obtain ⟨p, hp, e⟩ := List.getElem_of_mem (mem_mask.2 ⟨j, hj, h, rfl⟩)
    refine ⟨p, List.mem_range.2 (by rw [strOfNums_size]; exact hp), ?_⟩
    rw [bt_str _ p (maskLetters_ok M) hp, List.getD_eq_getElem?_getD, List.getElem?_eq_getElem hp, Option.getD_some, e]
    simp
structure SubT (l l' : List S24) (m : Nat) (r : (Nat → Int) → Nat → Int) : Prop where
  vl : Valid l
  vl' : Valid l'
  same : ∀ s k, k < m → r s k = s k
  truth : ∀ s t, TreeOk l' s → FitT l' s t → TreeOk l (r s) ∧ FitT l (r s) t ∧ costT l (r s) t + apTo l (r s) l.length ≤ costT l' s t + apTo l' s l'.length
section
variable {l l' : List S24} {m : Nat} {r : (Nat → Int) → Nat → Int}
theorem SubT.known (h : SubT l l' m r) {s : Nat → Int} (hs : s ∈ knownV l') : r s ∈ knownV l := by
  obtain ⟨h1, t, h2⟩ := (known_iff h.vl' s).1 hs
  obtain ⟨h3, h4, _⟩ := h.truth s t h1 h2
  exact (known_iff h.vl _).2 ⟨h3, t, h4⟩
theorem SubT.fewest (h : SubT l l' m r) (hk : knownE l = 0) (hk' : knownE l' = 0) : (fewestV l).1 ≤ (fewestV l').1 := by
  obtain ⟨s, hs, e⟩ := fewest_att hk'
  obtain ⟨t, ht, e2⟩ := numF_att (knownV_mem hs).2.2
  obtain ⟨h3, h4, h5⟩ := h.truth s t ((known_iff h.vl' s).1 hs).1 ht
  have h6 := fewest_le hk (h.known hs)
  have h7 := numF_le h4
  omega
theorem SubT.letters (h : SubT l l' m r) (i j : Nat) (hi : i < (rd_T24 l 0).f0.size) (hi' : i < (rd_T24 l' 0).f0.size) (hj : mayAt l' i j = true) : mayAt l i j = true := by
  obtain ⟨s, t, h1, h2, h3⟩ := (mayAt_iff h.vl' i j hi').1 hj
  obtain ⟨h4, h5, _⟩ := h.truth s t h1 h2
  exact (mayAt_iff h.vl i j hi).2 ⟨r s, t, h4, h5, h3⟩
end
theorem rd_take (l : List S24) (m : Nat) (i : Int) (h0 : 0 ≤ i) (hi : i < m) : rd_T24 (l.take m) i = rd_T24 l i := by
  unfold rd_T24
  rw [List.getD_eq_getElem?_getD, List.getD_eq_getElem?_getD, List.getElem?_take, if_pos (by omega)]
theorem MadeOk.take {er : Int} {st : ByteArray} {l : List S24} {src : List Int} (h : MadeOk er st l src) (m : Nat) (hm : m ≤ l.length) : MadeOk er st (l.take m) (src.take m) := by
  refine ⟨by simp [h.len], fun i hi => ?_⟩
  have hi2 : i < m := by rw [List.length_take] at hi; omega
  have h1 := h.one i (by omega)
  have e : (src.take m).getD i 0 = src.getD i 0 := by
    rw [List.getD_eq_getElem?_getD, List.getD_eq_getElem?_getD, List.getElem?_take, if_pos hi2]
  rw [e, rd_take l m (i : Int) (by omega) (by omega)]
  refine ⟨h1.1, h1.2.1, h1.2.2.1, h1.2.2.2.1, ?_⟩
  have e2 : fromOf st (l.take m) (src.getD i 0) = fromOf st l (src.getD i 0) := by
    unfold fromOf
    split
    · rfl
    · rw [rd_take l m _ (by omega) (by have := h1.2.2.1; omega)]
  rw [e2]
  exact h1.2.2.2.2
theorem MadeT.take {er : Int} {st : ByteArray} {l : List S24} {src : List Int} (h : MadeT er st l src) (m : Nat) (h1 : 1 ≤ m) (hm : m ≤ l.length) : MadeT er st (l.take m) (src.take m) :=
  ⟨h.made.take m hm, h.er0, h.er3, by rw [List.length_take]; omega, by rw [List.length_take]; have := h.five; omega, h.low, h.high, h.letters⟩
end Go.Proofs.Ytegjollhajgcdaa.P.OwnSt
namespace Go.Proofs.Ytegjollhajgcdaa.P.OwnSt
open Go.RowKit Go.Shelf Go.Proofs.YtegjollhajgcdaaW.PrintWords Go.Proofs.YtegjollhajgcdaaW.PrintLast Go.Proofs.YtegjollhajgcdaaW.PrintMore
set_option linter.unusedVariables false
set_option linter.unusedSimpArgs false
theorem copyCopies_eq (l : List S24) (h : l.length < 100) : cippuskit_CopyCopies.f l = some l := by
  unfold cippuskit_CopyCopies.f
  simp only [Option.bind_some, List.length_nil, List.nil_append]
  rw [if_pos (by omega)]
theorem rd_set (l : List S24) (i : Nat) (x : S24) (hi : i < l.length) (k : Nat) : rd_T24 (l.set i x) (k : Int) = if k = i then x else rd_T24 l (k : Int) := by
  unfold rd_T24
  rw [List.getD_eq_getElem?_getD, List.getD_eq_getElem?_getD, Int.toNat_natCast]
  by_cases e : k = i
  · subst e
    rw [if_pos rfl, List.getElem?_set_self hi]
    rfl
  · rw [if_neg e, List.getElem?_set_ne (fun h => e h.symm)]
theorem u8_turn (b y : Int) : IntKind.u8.wrap (65 + (IntKind.u8.wrap (IntKind.u8.wrap (b - 65) + IntKind.u8.wrap y)).tmod 26) = 65 + (b - 65 + y) % 256 % 26 := by
  have e : ∀ x : Int, IntKind.u8.wrap x = x % 256 := fun x => by simp [IntKind.wrap, IntKind.bits, IntKind.signed]
  rw [e, e, e, e, Int.tmod_eq_emod_of_nonneg (by omega)]
  omega
def turnC (order by_ : List Int) (b : ByteArray) (p : Int) : Int := 65 + (bt b (rd order p) - 65 + rd by_ p) % 256 % 26
def turnT (order by_ : List Int) (b : ByteArray) : Nat → ByteArray
  | 0 => ⟨#[]⟩
  | p + 1 => turnT order by_ b p ++ strOfNums [turnC order by_ b (p : Int)]
theorem turnT_size (order by_ : List Int) (b : ByteArray) : ∀ p, (turnT order by_ b p).size = p
  | 0 => rfl
  | p + 1 => by rw [turnT, ByteArray.size_append, turnT_size order by_ b p]; rfl
def turnX (order by_ : List Int) (x : S24) : S24 := ⟨turnT order by_ x.f0 order.length, x.f1, x.f2⟩
structure TurnOk (l : List S24) (order by_ : List Int) : Prop where
  one : 1 ≤ l.length
  five : l.length ≤ 5
  eight : order.length ≤ 8
  by_ : order.length ≤ by_.length
  good : ∀ i : Nat, i < l.length → ∀ p : Nat, p < order.length → 0 ≤ rd order (p : Int) ∧ rd order (p : Int) < (rd_T24 l (i : Int)).f0.size
def turnB (l : List S24) (order by_ : List Int) : Bool := decide (1 ≤ l.length) && decide (l.length ≤ 5) && decide (order.length ≤ 8) && decide (order.length ≤ by_.length) &&
  (List.range l.length).all fun i => (List.range order.length).all fun p => decide (0 ≤ rd order (p : Int) ∧ rd order (p : Int) < (rd_T24 l (i : Int)).f0.size)
theorem turnB_iff {l : List S24} {order by_ : List Int} : turnB l order by_ = true ↔ TurnOk l order by_ := by
  unfold turnB
  simp only [Bool.and_eq_true, decide_eq_true_eq, List.all_eq_true, List.mem_range]
  exact ⟨fun h => ⟨h.1.1.1.1, h.1.1.1.2, h.1.1.2, h.1.2, h.2⟩, fun h => ⟨⟨⟨⟨h.one, h.five⟩, h.eight⟩, h.by_⟩, h.good⟩⟩
def turnV (l : List S24) (order by_ : List Int) : Option (List S24) := if turnB l order by_ = true then some (l.map (turnX order by_)) else none
theorem turnV_ok {l : List S24} {order by_ : List Int} (h : TurnOk l order by_) : turnV l order by_ = some (l.map (turnX order by_)) := by
  unfold turnV; rw [if_pos (turnB_iff.2 h)]
theorem turnV_some {l : List S24} {order by_ : List Int} {x : List S24} (h : turnV l order by_ = some x) : TurnOk l order by_ ∧ x = l.map (turnX order by_) := by
  unfold turnV at h
  split at h
  · rename_i h1
    exact ⟨turnB_iff.1 h1, (Option.some.inj h).symm⟩
  · cases h
def turnI (l : List S24) (order by_ : List Int) (i : Nat) : List S24 := (l.take i).map (turnX order by_) ++ l.drop i
theorem turnI_len (l : List S24) (order by_ : List Int) (i : Nat) (hi : i ≤ l.length) : (turnI l order by_ i).length = l.length := by
  unfold turnI
  simp
  omega
theorem turnI_zero (l : List S24) (order by_ : List Int) : turnI l order by_ 0 = l := by simp [turnI]
theorem turnI_all (l : List S24) (order by_ : List Int) : turnI l order by_ l.length = l.map (turnX order by_) := by simp [turnI]
theorem turnI_at (l : List S24) (order by_ : List Int) (i : Nat) (hi : i < l.length) : rd_T24 (turnI l order by_ i) (i : Int) = rd_T24 l (i : Int) := by
  unfold rd_T24 turnI
  rw [List.getD_eq_getElem?_getD, List.getD_eq_getElem?_getD, Int.toNat_natCast, List.getElem?_append_right (by simp; omega)]
  simp
  rw [Nat.min_eq_left (by omega)]
  simp
theorem turnI_succ (l : List S24) (order by_ : List Int) (i : Nat) (hi : i < l.length) : (turnI l order by_ i).set i (turnX order by_ (rd_T24 l (i : Int))) = turnI l order by_ (i + 1) := by
  have e : l.drop i = rd_T24 l (i : Int) :: l.drop (i + 1) := by
    rw [List.drop_eq_getElem_cons hi]
    unfold rd_T24
    rw [List.getD_eq_getElem?_getD, Int.toNat_natCast, List.getElem?_eq_getElem hi]
    rfl
  have e2 : l.take (i + 1) = l.take i ++ [rd_T24 l (i : Int)] := by
    rw [List.take_add_one, List.getElem?_eq_getElem hi]
    unfold rd_T24
    rw [List.getD_eq_getElem?_getD, Int.toNat_natCast, List.getElem?_eq_getElem hi]
    rfl
  unfold turnI
  rw [e, e2, List.map_append, List.append_assoc, List.set_append_right _ _ (by simp; omega)]
  simp
  rw [Nat.min_eq_left (by omega)]
  simp
end Go.Proofs.Ytegjollhajgcdaa.P.OwnSt
namespace Go.Proofs.Ytegjollhajgcdaa.P
open Go.RowKit Go.Proofs.YtegjollhajgcdaaW.PrintWords Go.Proofs.YtegjollhajgcdaaW.PrintLast Go.Proofs.YtegjollhajgcdaaW.PrintMore
set_option linter.unusedVariables false
set_option linter.unusedSimpArgs false
mutual
def cippuslaw07_turned.l0 : Nat → List (S24) → List Int → List Int → List (S24) → Int → Option ((List (S24)))
  | 0, _, _, _, _, _ => none
  | k + 1, x0, x1, x2, x9, x10 => if x10 < (x9.length : Int) then (if 0 ≤ x10 then (cippuslaw07_turned.l1 k x0 x1 x2 (x9.set (x10 : Int).toNat (⟨(⟨#[]⟩ : ByteArray), (rd_T24 x9 x10).f1, (rd_T24 x9 x10).f2⟩ : S24)) x10 0) else (none)) else (some x9)
def cippuslaw07_turned.l1 : Nat → List (S24) → List Int → List Int → List (S24) → Int → Int → Option ((List (S24)))
  | 0, _, _, _, _, _, _ => none
  | k + 1, x0, x1, x2, x9, x10, x11 => if x11 < (x1.length : Int) then (if 0 ≤ x10 then (if x10 < (x9.length : Int) then (if x10 < (x0.length : Int) then (if 0 ≤ x11 then (if 0 ≤ (rd x1 x11) then (if (rd x1 x11) < (((rd_T24 x0 x10).f0).size : Int) then (if x11 < (x2.length : Int) then ((some (([65 + (bt ((rd_T24 x0 x10).f0) (rd x1 x11) - 65 + rd x2 x11) % 256 % 26] : List Int) : List Int)).bind fun y363 => (if ((rd_T24 x9 x10).f0).size + (strOfNums y363).size ≤ 9223372036854775807 then (cippuslaw07_turned.l1 k x0 x1 x2 (x9.set (x10 : Int).toNat (⟨((rd_T24 x9 x10).f0) ++ (strOfNums y363), (rd_T24 x9 x10).f1, (rd_T24 x9 x10).f2⟩ : S24)) x10 (wrap64 (x11 + 1))) else (none))) else (none)) else (none)) else (none)) else (none)) else (none)) else (none)) else (none)) else (cippuslaw07_turned.l0 k x0 x1 x2 x9 (wrap64 (x10 + 1)))
end
def cippuslaw07_turned.f (l0 : List (S24)) (l1 : List Int) (l2 : List Int) : Option (List (S24)) := OwnSt.turnV l0 l1 l2
mutual
def cippuslaw07_StemmaTurned.l0 : Nat → List (S24) → List Int → List Int → Int → Int → Int → Option (Bool)
  | 0, _, _, _, _, _, _ => none
  | k + 1, x4, x6, x7, x8, x368000, x368001 => if x8 < (x6.length : Int) then ((cippuskit_Urn_Up.f x368000 x368001 26).bind fun bt384 => (if x7.length < 17592186044416 then (cippuslaw07_StemmaTurned.l0 k x4 x6 (x7 ++ [bt384.1]) (wrap64 (x8 + 1)) bt384.2.1 bt384.2.2) else (none))) else ((cippuslaw07_turned.f x4 x6 x7).bind fun t390 => ((stemma_Sources.f k x4).bind fun bt393 => ((stemma_Sources.f k t390).bind fun bt397 => ((stemma_Letters.f k x4).bind fun bt401 => ((stemma_Letters.f k t390).bind fun bt405 => ((stemma_Fewest.f k x4).bind fun bt409 => ((stemma_Fewest.f k t390).bind fun bt411 => (if bt393.2 = 0 then (if bt397.2 = 0 then (if bt401.2 = 0 then (if bt405.2 = 0 then (if bt409.2 = 0 then (if bt411.2 = 0 then (if bt409.1 = bt411.1 then (if (bt401.1.length : Int) = (x6.length : Int) then (if (bt405.1.length : Int) = (x6.length : Int) then ((cippuskit_SameGrids.f k bt393.1 bt397.1).bind fun t413 => (cippuslaw07_StemmaTurned.j1 k x6 x7 bt401.1 bt405.1 (!t413))) else (cippuslaw07_StemmaTurned.j1 k x6 x7 bt401.1 bt405.1 true)) else (cippuslaw07_StemmaTurned.j1 k x6 x7 bt401.1 bt405.1 true)) else (cippuslaw07_StemmaTurned.j1 k x6 x7 bt401.1 bt405.1 true)) else (cippuslaw07_StemmaTurned.j1 k x6 x7 bt401.1 bt405.1 true)) else (cippuslaw07_StemmaTurned.j1 k x6 x7 bt401.1 bt405.1 true)) else (cippuslaw07_StemmaTurned.j1 k x6 x7 bt401.1 bt405.1 true)) else (cippuslaw07_StemmaTurned.j1 k x6 x7 bt401.1 bt405.1 true)) else (cippuslaw07_StemmaTurned.j1 k x6 x7 bt401.1 bt405.1 true)) else (cippuslaw07_StemmaTurned.j1 k x6 x7 bt401.1 bt405.1 true)))))))))
def cippuslaw07_StemmaTurned.j1 : Nat → List Int → List Int → List ByteArray → List ByteArray → Bool → Option (Bool)
  | 0, _, _, _, _, _ => none
  | k + 1, x6, x7, x16, x18, x177 => if x177 = true then (some false) else (cippuslaw07_StemmaTurned.l1 k x6 x7 x16 x18 0)
def cippuslaw07_StemmaTurned.l1 : Nat → List Int → List Int → List ByteArray → List ByteArray → Int → Option (Bool)
  | 0, _, _, _, _, _ => none
  | k + 1, x6, x7, x16, x18, x24 => if x24 < (x6.length : Int) then (if 0 ≤ x24 then (if 0 ≤ (rd x6 x24) then (if (rd x6 x24) < (x16.length : Int) then (if x24 < (x18.length : Int) then (if ((rdOf ByteArray.empty x18 x24).size : Int) = ((rdOf ByteArray.empty x16 (rd x6 x24)).size : Int) then (cippuslaw07_StemmaTurned.l2 k x6 x7 x16 x18 x24 (rdOf ByteArray.empty x16 (rd x6 x24)) 0) else (some false)) else (none)) else (none)) else (none)) else (none)) else ((cippuslaw07_found.f k).bind fun t414 => (some t414))
def cippuslaw07_StemmaTurned.l2 : Nat → List Int → List Int → List ByteArray → List ByteArray → Int → ByteArray → Int → Option (Bool)
  | 0, _, _, _, _, _, _, _ => none
  | k + 1, x6, x7, x16, x18, x24, x25, x26 => if x26 < (x25.size : Int) then (if 0 ≤ x24 then (if x24 < (x18.length : Int) then (if 0 ≤ x26 then (if x24 < (x7.length : Int) then ((cippuslaw07_has.f k (rdOf ByteArray.empty x18 x24) (65 + (bt x25 x26 - 65 + rd x7 x24) % 256 % 26)).bind fun t420 => (if t420 = true then (cippuslaw07_StemmaTurned.l2 k x6 x7 x16 x18 x24 x25 (wrap64 (x26 + 1))) else (some false))) else (none)) else (none)) else (none)) else (none)) else (cippuslaw07_StemmaTurned.l1 k x6 x7 x16 x18 (wrap64 (x24 + 1)))
end
def cippuslaw07_StemmaTurned.f (k : Nat) (l0 : List Int) : Option (Bool) := (cippuskit_NewUrn.f l0).bind fun bt365 => ((cippuskit_CopiesOf.f bt365.1 bt365.2 4 6 1).bind fun bt368 => (if 0 < (bt368.1.length : Int) then ((cippuskit_Urn_Row.f k bt368.2.2.2.1 bt368.2.2.2.2 (((rd_T24 bt368.1 0).f0).size : Int)).bind fun bt379 => (cippuslaw07_StemmaTurned.l0 k bt368.1 bt379.1 ([] : List Int) 0 bt379.2.1 bt379.2.2)) else (none)))
end Go.Proofs.Ytegjollhajgcdaa.P
namespace Go.Proofs.Ytegjollhajgcdaa.P.OwnSt
open Go.RowKit Go.Proofs.YtegjollhajgcdaaW.PrintWords Go.Proofs.YtegjollhajgcdaaW.PrintLast Go.Proofs.YtegjollhajgcdaaW.PrintMore
set_option linter.unusedVariables false
set_option linter.unusedSimpArgs false
theorem sumTo_zero : ∀ n, sumTo (fun _ => 0) n = 0 := by
  intro n
  induction n with
  | zero => rfl
  | succ n ih => unfold sumTo; rw [ih]; rfl
theorem sumTo_one (a : Nat) (v : Int) : ∀ n, sumTo (fun q => if q = a then v else 0) n = if a < n then v else 0 := by
  intro n
  induction n with
  | zero => rfl
  | succ n ih =>
    unfold sumTo
    rw [ih]
    by_cases e : n = a
    · subst e
      rw [if_neg (by omega), if_pos rfl, if_pos (by omega)]
      omega
    · rw [if_neg e]
      by_cases h : a < n
      · rw [if_pos h, if_pos (by omega)]; omega
      · rw [if_neg h, if_neg (by omega)]; omega
theorem sumTo_swap (f : Nat → Nat → Int) (m : Nat) : ∀ n, sumTo (fun i => sumTo (f i) m) n = sumTo (fun j => sumTo (fun i => f i j) n) m := by
  intro n
  induction n with
  | zero => show 0 = sumTo (fun _ => 0) m; rw [sumTo_zero]
  | succ n ih =>
    show sumTo (fun i => sumTo (f i) m) n + sumTo (f n) m = _
    rw [ih, ← sumTo_add]
    rfl
theorem sumTo_perm (h : Nat → Int) (o oi : Nat → Nat) (n : Nat) (h1 : ∀ p, p < n → o p < n ∧ oi (o p) = p) (h2 : ∀ q, q < n → oi q < n ∧ o (oi q) = q) : sumTo (fun p => h (o p)) n = sumTo h n := by
  have e1 : sumTo (fun p => h (o p)) n = sumTo (fun p => sumTo (fun q => if q = o p then h (o p) else 0) n) n := sumTo_congr _ fun p hp => by
    rw [sumTo_one, if_pos (h1 p hp).1]
  have e2 : sumTo h n = sumTo (fun q => sumTo (fun p => if q = o p then h (o p) else 0) n) n := sumTo_congr _ fun q hq => by
    have : sumTo (fun p => if q = o p then h (o p) else 0) n = sumTo (fun p => if p = oi q then h q else 0) n := sumTo_congr _ fun p hp => by
      show (if q = o p then h (o p) else 0) = (if p = oi q then h q else 0)
      by_cases e : q = o p
      · have e3 : p = oi q := by rw [e]; exact (h1 p hp).2.symm
        rw [if_pos e, if_pos e3, ← e]
      · have e3 : ¬ p = oi q := fun h => e (by rw [h]; exact (h2 q hq).2.symm)
        rw [if_neg e, if_neg e3]
    rw [this, sumTo_one, if_pos (h2 q hq).1]
  rw [e1, e2, sumTo_swap]
theorem apN_sum (a b : ByteArray) : ∀ n, apN a b n = sumTo (fun p => if bt a (p : Int) = bt b (p : Int) then 0 else 1) n := by
  intro n
  induction n with
  | zero => rfl
  | succ n ih => rw [apN_succ, ih]; rfl
theorem hsum_sum (l : List S24) (s t : Nat → Int) (i : Nat) : ∀ rem p, hsum l s t i rem p = sumTo (fun k => if hit l s ((p + k : Nat) : Int) (t (p + k)) i = true then 1 else 0) rem := by
  intro rem
  induction rem with
  | zero => intro p; rfl
  | succ rem ih =>
    intro p
    have h2 : ∀ (f : Nat → Int) n, sumTo f (n + 1) = f 0 + sumTo (fun k => f (k + 1)) n := by
      intro f n
      induction n with
      | zero => simp [sumTo]
      | succ n ih => rw [sumTo, ih, sumTo]; omega
    rw [h2]
    show (if hit l s (p : Int) (t p) i = true then 1 else 0) + hsum l s t i rem (p + 1) = _
    rw [ih]
    have : (fun k => if hit l s ((p + 1 + k : Nat) : Int) (t (p + 1 + k)) i = true then (1 : Int) else 0) = fun k => if hit l s ((p + (k + 1) : Nat) : Int) (t (p + (k + 1))) i = true then 1 else 0 := by
      funext k
      rw [show p + 1 + k = p + (k + 1) by omega]
    rw [this]
    rfl
theorem hsum_all (l : List S24) (s t : Nat → Int) (i n : Nat) : hsum l s t i n 0 = sumTo (fun (k : Nat) => if hit l s (k : Int) (t k) i = true then 1 else 0) n := by
  rw [hsum_sum]
  have : (fun k => if hit l s ((0 + k : Nat) : Int) (t (0 + k)) i = true then (1 : Int) else 0) = fun (k : Nat) => if hit l s (k : Int) (t k) i = true then 1 else 0 := by
    funext k
    rw [Nat.zero_add]
  rw [this]
def phi (y c : Int) : Int := 65 + (c - 65 + y) % 26
theorem phi_ok (y c : Int) : 65 ≤ phi y c ∧ phi y c ≤ 90 := by unfold phi; omega
theorem phi_back {y c : Int} (h : 65 ≤ c ∧ c ≤ 90) : phi (-y) (phi y c) = c := by unfold phi; omega
theorem phi_inj {y c d : Int} (hc : 65 ≤ c ∧ c ≤ 90) (hd : 65 ≤ d ∧ d ≤ 90) : (phi y c = phi y d) ↔ c = d := ⟨fun h => by rw [← phi_back hc (y := y), h, phi_back hd], fun h => by rw [h]⟩
structure TurnR (l l' : List S24) (o oi : Nat → Nat) (y : Nat → Int) : Prop where
  vl : Valid l
  vl' : Valid l'
  len : l'.length = l.length
  size : (rd_T24 l' 0).f0.size = (rd_T24 l 0).f0.size
  o1 : ∀ p, p < (rd_T24 l 0).f0.size → o p < (rd_T24 l 0).f0.size ∧ oi (o p) = p
  o2 : ∀ q, q < (rd_T24 l 0).f0.size → oi q < (rd_T24 l 0).f0.size ∧ o (oi q) = q
  text : ∀ i : Nat, i < l.length → ∀ p : Nat, p < (rd_T24 l 0).f0.size → bt (rd_T24 l' (i : Int)).f0 (p : Int) = phi (y p) (bt (rd_T24 l (i : Int)).f0 ((o p : Nat) : Int))
  err : ∀ i : Nat, i < l.length → (rd_T24 l' (i : Int)).f1 = (rd_T24 l (i : Int)).f1
  saw : ∀ i : Nat, i < l.length → (rd_T24 l' (i : Int)).f2 = (rd_T24 l (i : Int)).f2
section
variable {l l' : List S24} {o oi : Nat → Nat} {y : Nat → Int}
theorem TurnR.symm (h : TurnR l l' o oi y) : TurnR l' l oi o (fun q => - y (oi q)) := by
  refine ⟨h.vl', h.vl, h.len.symm, h.size.symm, fun p hp => ?_, fun q hq => ?_, fun i hi p hp => ?_, fun i hi => (h.err i (by rw [← h.len]; exact hi)).symm, fun i hi => (h.saw i (by rw [← h.len]; exact hi)).symm⟩
  · rw [h.size] at hp ⊢; exact h.o2 p hp
  · rw [h.size] at hq ⊢; exact h.o1 q hq
  · rw [h.size] at hp
    rw [h.len] at hi
    rw [h.text i hi (oi p) (h.o2 p hp).1, (h.o2 p hp).2, phi_back (h.vl.good i hi p hp)]
theorem TurnR.ap (h : TurnR l l' o oi y) (i j : Nat) (hi : i < l.length) (hj : j < l.length) : apN (rd_T24 l' (i : Int)).f0 (rd_T24 l' (j : Int)).f0 (rd_T24 l 0).f0.size = apN (rd_T24 l (i : Int)).f0 (rd_T24 l (j : Int)).f0 (rd_T24 l 0).f0.size := by
  rw [apN_sum, apN_sum, ← sumTo_perm (fun (p : Nat) => if bt (rd_T24 l (i : Int)).f0 (p : Int) = bt (rd_T24 l (j : Int)).f0 (p : Int) then 0 else 1) o oi _ h.o1 h.o2]
  refine sumTo_congr _ fun p hp => ?_
  show (if bt (rd_T24 l' (i : Int)).f0 (p : Int) = bt (rd_T24 l' (j : Int)).f0 (p : Int) then (0 : Int) else 1) = (if bt (rd_T24 l (i : Int)).f0 ((o p : Nat) : Int) = bt (rd_T24 l (j : Int)).f0 ((o p : Nat) : Int) then 0 else 1)
  rw [h.text i hi p hp, h.text j hj p hp]
  have hp2 := (h.o1 p hp).1
  have h3 := phi_inj (y := y p) (h.vl.good i hi _ hp2) (h.vl.good j hj _ hp2)
  by_cases e : bt (rd_T24 l (i : Int)).f0 ((o p : Nat) : Int) = bt (rd_T24 l (j : Int)).f0 ((o p : Nat) : Int)
  · rw [if_pos e, if_pos (h3.2 e)]
  · rw [if_neg e, if_neg (fun h4 => e (h3.1 h4))]
theorem TurnR.can (h : TurnR l l' o oi y) (i : Nat) (f : Int) (hi : i < l.length) (h0 : -1 ≤ f) (hf : f < i) : canF l' i f = canF l i f := by
  unfold canF
  rw [h.saw i hi, h.err i hi]
  by_cases e : f = -1
  · subst e
    rfl
  · rw [if_neg (by simpa using e), if_neg (by simpa using e)]
    obtain ⟨j, rfl⟩ : ∃ j : Nat, f = (j : Int) := ⟨f.toNat, by omega⟩
    have hj : j < l.length := by omega
    rw [h.vl'.size j (by rw [h.len]; exact hj), h.size, h.vl.size j hj, h.ap j i hj hi]
theorem treesG_same (h : ∀ (i : Nat) (f : Int), i < l.length → -1 ≤ f → f < i → canF l' i f = canF l i f) : ∀ rem i s, i + rem = l.length → treesG l' rem i s = treesG l rem i s := by
  intro rem
  induction rem with
  | zero => intro i s _; rfl
  | succ rem ih =>
    intro i s hi
    unfold treesG
    rw [List.flatMap_def, List.flatMap_def]
    congr 1
    refine List.map_congr_left fun f hf => ?_
    have hf := List.mem_range.1 hf
    rw [h i ((f : Int) - 1) (by omega) (by omega) (by omega), ih (i + 1) _ (by omega)]
def trT (L : Nat) (o : Nat → Nat) (y : Nat → Int) (t : Nat → Int) (p : Nat) : Int := if p < L then phi (y p) (t (o p)) else 65
theorem TurnR.hits (h : TurnR l l' o oi y) {t : Nat → Int} (ht : GoodT t) (s : Nat → Int) (i p : Nat) (hi : i < l.length) (hp : p < (rd_T24 l 0).f0.size) : hit l' s (p : Int) (trT (rd_T24 l 0).f0.size o y t p) i = hit l s ((o p : Nat) : Int) (t (o p)) i := by
  unfold hit trT
  rw [if_pos hp, h.text i hi p hp]
  congr 1
  have h2 := phi_inj (y := y p) (h.vl.good i hi _ (h.o1 p hp).1) (ht (o p))
  rw [Bool.eq_iff_iff, bne_iff_ne, bne_iff_ne]
  exact not_congr h2
theorem TurnR.hsums (h : TurnR l l' o oi y) {t : Nat → Int} (ht : GoodT t) (s : Nat → Int) (i : Nat) (hi : i < l.length) : hsum l' s (trT (rd_T24 l 0).f0.size o y t) i (rd_T24 l' 0).f0.size 0 = hsum l s t i (rd_T24 l 0).f0.size 0 := by
  rw [h.size, hsum_all, hsum_all, ← sumTo_perm (fun (p : Nat) => if hit l s (p : Int) (t p) i = true then 1 else 0) o oi _ h.o1 h.o2]
  refine sumTo_congr _ fun p hp => ?_
  show (if hit l' s (p : Int) (trT (rd_T24 l 0).f0.size o y t p) i = true then (1 : Int) else 0) = (if hit l s ((o p : Nat) : Int) (t (o p)) i = true then 1 else 0)
  rw [h.hits ht s i p hi hp]
theorem TurnR.fit (h : TurnR l l' o oi y) {s t : Nat → Int} (ht : FitT l s t) : FitT l' s (trT (rd_T24 l 0).f0.size o y t) ∧ costT l' s (trT (rd_T24 l 0).f0.size o y t) = costT l s t := by
  refine ⟨⟨fun p => ?_, fun i hi h2 => ?_⟩, ?_⟩
  · unfold trT
    split
    · exact phi_ok _ _
    · omega
  · rw [h.len] at hi
    rw [h.hsums ht.1 s i hi] at h2 ⊢
    rw [h.err i hi]
    exact ht.2 i hi h2
  · unfold costT
    rw [cost_sum, cost_sum, h.len]
    exact sumTo_congr _ fun i hi => h.hsums ht.1 s i hi
theorem TurnR.lies (h : TurnR l l' o oi y) (s : Nat → Int) : liesB l' s = liesB l s := by
  rw [Bool.eq_iff_iff]
  constructor
  · intro h1
    obtain ⟨t, ht, _⟩ := fit_of_lies h1
    exact lies_of_fit h.vl (h.symm.fit ht).1
  · intro h1
    obtain ⟨t, ht, _⟩ := fit_of_lies h1
    exact lies_of_fit h.vl' (h.fit ht).1
theorem TurnR.known (h : TurnR l l' o oi y) : knownV l' = knownV l := by
  unfold knownV
  rw [h.len, treesG_same h.can _ _ _ (by omega)]
  exact List.filter_congr fun s _ => h.lies s
theorem TurnR.knownE (h : TurnR l l' o oi y) : knownE l' = knownE l := by
  unfold OwnSt.knownE
  rw [h.known, check_of_valid h.vl, check_of_valid h.vl']
theorem TurnR.sources (h : TurnR l l' o oi y) : (sourcesV l').1 = (sourcesV l).1 := by
  unfold sourcesV
  rw [h.knownE]
  split
  · show (List.range l'.length).map (srcRow l') = (List.range l.length).map (srcRow l)
    rw [h.len]
    refine List.map_congr_left fun i hi => ?_
    unfold srcRow
    rw [h.known]
  · rfl
theorem TurnR.apTo (h : TurnR l l' o oi y) {s : Nat → Int} (hs : TreeOk l s) : apTo l' s l.length = apTo l s l.length := by
  rw [apTo_sum, apTo_sum]
  refine sumTo_congr _ fun k hk => ?_
  show (if s k = -1 then (0 : Int) else _) = (if s k = -1 then 0 else _)
  by_cases e : s k = -1
  · rw [if_pos e, if_pos e]
  · rw [if_neg e, if_neg e]
    have h3 := hs.1 k hk
    obtain ⟨j, hj⟩ : ∃ j : Nat, s k = (j : Int) := ⟨(s k).toNat, by omega⟩
    have hj2 : j < l.length := by omega
    rw [hj, h.vl'.size j (by rw [h.len]; exact hj2), h.size, h.vl.size j hj2, h.ap j k hj2 hk]
theorem TurnR.fewest_le (h : TurnR l l' o oi y) (hk : OwnSt.knownE l = 0) : (fewestV l').1 ≤ (fewestV l).1 := by
  obtain ⟨s, hs, e⟩ := fewest_att hk
  obtain ⟨t, ht, e2⟩ := numF_att (knownV_mem hs).2.2
  have h1 := OwnSt.fewest_le (by rw [h.knownE]; exact hk) (show s ∈ knownV l' by rw [h.known]; exact hs)
  obtain ⟨h2, h3⟩ := h.fit ht
  have h4 := numF_le h2
  have h5 := h.apTo ((known_iff h.vl s).1 hs).1
  rw [h.len] at h4
  omega
theorem TurnR.fewest (h : TurnR l l' o oi y) (hk : OwnSt.knownE l = 0) : (fewestV l').1 = (fewestV l).1 := by
  have h1 := h.fewest_le hk
  have h2 := h.symm.fewest_le (by rw [h.knownE]; exact hk)
  omega
theorem TurnR.may (h : TurnR l l' o oi y) (p j : Nat) (hp : p < (rd_T24 l 0).f0.size) (hm : mayAt l (o p) j = true) : mayAt l' p (phi (y p) (65 + (j : Int)) - 65).toNat = true := by
  have hp2 := (h.o1 p hp).1
  obtain ⟨s, t, h1, h2, h3⟩ := (mayAt_iff h.vl (o p) j hp2).1 hm
  refine (mayAt_iff h.vl' p _ (by rw [h.size]; exact hp)).2 ⟨s, _, ?_, (h.fit h2).1, ?_⟩
  · refine ⟨fun k hk => ?_, fun k hk => ?_⟩
    · rw [h.len] at hk
      have h4 := h1.1 k hk
      refine ⟨h4.1, h4.2.1, ?_⟩
      rw [h.can k (s k) hk h4.1 h4.2.1]
      exact h4.2.2
    · exact h1.2 k (by rw [h.len] at hk; exact hk)
  · unfold trT
    rw [if_pos hp, h3]
    have := phi_ok (y p) (65 + (j : Int))
    omega
def turnJ (y : Int) (j : Nat) : Nat := (phi y (65 + (j : Int)) - 65).toNat
theorem turnJ_lt (y : Int) (j : Nat) : turnJ y j < 26 := by unfold turnJ; have := phi_ok y (65 + (j : Int)); omega
theorem turnJ_back (y : Int) (j : Nat) (hj : j < 26) : turnJ (-y) (turnJ y j) = j := by
  unfold turnJ
  have h := phi_ok y (65 + (j : Int))
  rw [show (65 : Int) + ((phi y (65 + (j : Int)) - 65).toNat : Int) = phi y (65 + (j : Int)) by omega, phi_back (by omega)]
  omega
theorem TurnR.may_iff (h : TurnR l l' o oi y) (p j : Nat) (hp : p < (rd_T24 l 0).f0.size) (hj : j < 26) : mayAt l' p (turnJ (y p) j) = mayAt l (o p) j := by
  rw [Bool.eq_iff_iff]
  constructor
  · intro hm
    have hp2 := h.o1 p hp
    have h2 := h.symm.may (o p) (turnJ (y p) j) (by rw [h.size]; exact hp2.1) (by rw [hp2.2]; exact hm)
    rw [hp2.2] at h2
    have e : (phi (-(y p)) (65 + (turnJ (y p) j : Int)) - 65).toNat = j := turnJ_back (y p) j hj
    rw [e] at h2
    exact h2
  · exact h.may p j hp
theorem mask_count (M : Nat → Bool) : ∀ n, ((maskLetters M n).length : Int) = sumTo (fun j => if M j = true then 1 else 0) n := by
  intro n
  unfold maskLetters
  rw [List.length_map]
  induction n with
  | zero => rfl
  | succ n ih =>
    rw [List.range_succ, List.filter_append, List.length_append, Int.natCast_add, ih]
    show _ = sumTo _ n + _
    congr 1
    by_cases e : M n = true
    · simp [e]
    · simp [e]
theorem TurnR.row_size (h : TurnR l l' o oi y) (p : Nat) (hp : p < (rd_T24 l 0).f0.size) : (letterRow l' p).size = (letterRow l (o p)).size := by
  unfold letterRow
  rw [strOfNums_size, strOfNums_size]
  have h1 := mask_count (mayAt l' p) 26
  have h2 := mask_count (mayAt l (o p)) 26
  have h3 := sumTo_perm (fun j => if mayAt l' p j = true then 1 else 0) (turnJ (y p)) (turnJ (-(y p))) 26 (fun j hj => ⟨turnJ_lt _ _, turnJ_back _ _ hj⟩) (fun j hj => ⟨turnJ_lt _ _, by have := turnJ_back (-(y p)) j hj; rw [Int.neg_neg] at this; exact this⟩)
  have h4 : sumTo (fun j => if mayAt l' p (turnJ (y p) j) = true then 1 else 0) 26 = sumTo (fun j => if mayAt l (o p) j = true then 1 else 0) 26 := sumTo_congr _ fun j hj => by
    show (if mayAt l' p (turnJ (y p) j) = true then (1 : Int) else 0) = (if mayAt l (o p) j = true then 1 else 0)
    rw [h.may_iff p j hp hj]
  omega
theorem TurnR.row_has (h : TurnR l l' o oi y) (p q : Nat) (hp : p < (rd_T24 l 0).f0.size) (hq : q < (letterRow l (o p)).size) (h0 : 0 ≤ y p) (h26 : y p < 26) : hasB (letterRow l' p) (65 + (bt (letterRow l (o p)) (q : Int) - 65 + y p) % 256 % 26) = true := by
  obtain ⟨j, h1, h2, h3⟩ := bt_mask (mayAt l (o p)) q (show q < (letterRow l (o p)).size by omega)
  rw [show bt (letterRow l (o p)) (q : Int) = 65 + (j : Int) from h3]
  have e : (65 + (65 + (j : Int) - 65 + y p) % 256 % 26) = 65 + (turnJ (y p) j : Int) := by
    have e1 : (65 + (j : Int) - 65 + y p) % 256 = 65 + (j : Int) - 65 + y p := Int.emod_eq_of_lt (by omega) (by omega)
    have e2 := phi_ok (y p) (65 + (j : Int))
    unfold turnJ
    rw [e1, show (65 : Int) + ((phi (y p) (65 + (j : Int)) - 65).toNat : Int) = phi (y p) (65 + (j : Int)) by omega]
    rfl
  rw [e]
  unfold letterRow
  rw [hasB_row _ _ (turnJ_lt _ _), h.may_iff p j hp h1]
  exact h2
end
end Go.Proofs.Ytegjollhajgcdaa.P.OwnSt
namespace Go.Proofs.Ytegjollhajgcdaa.Pure
open Go.RowKit Go.Proofs.Ytegjollhajgcdaa.P Go.Proofs.Ytegjollhajgcdaa.P.OwnSt Go.Proofs.YtegjollhajgcdaaW.PrintWords Go.Proofs.YtegjollhajgcdaaW.PrintLast
set_option linter.unusedVariables false
set_option linter.unusedSimpArgs false
theorem sameInts_ev (a : List Int) (h8 : a.length < 1000000) : Ev (fun k => cippuskit_SameInts.f k a a) true := by
  have : ∀ rem i, i + rem = a.length → Ev (fun k => cippuskit_SameInts.l0 k a a true (i : Int)) true := by
    intro rem
    induction rem with
    | zero =>
      intro i hi
      refine Ev.step (fun k => by rw [cippuskit_SameInts.l0]) ?_
      exact Ev.if_pos' rfl (Ev.if_neg' (by omega) (Ev.now _))
    | succ rem ih =>
      intro i hi
      refine Ev.step (fun k => by rw [cippuskit_SameInts.l0]) ?_
      refine Ev.if_pos' rfl (Ev.if_pos' (by omega) (Ev.if_pos' (by omega) (Ev.if_pos' (by omega) ?_)))
      rw [beq_self_eq_true, show wrap64 ((i : Int) + 1) = ((i + 1 : Nat) : Int) by rw [wrap64_small (by omega) (by omega)]; omega]
      exact ih (i + 1) (by omega)
  have h := this a.length 0 (by omega)
  unfold cippuskit_SameInts.f
  rw [beq_self_eq_true]
  exact h
theorem sameGrids_ev (a : List (List Int)) (h8 : a.length < 1000000) (h9 : ∀ i : Nat, i < a.length → (rd_L4 a (i : Int)).length < 1000000) : Ev (fun k => cippuskit_SameGrids.f k a a) true := by
  have : ∀ rem i, i + rem = a.length → Ev (fun k => cippuskit_SameGrids.l0 k a a true (i : Int)) true := by
    intro rem
    induction rem with
    | zero =>
      intro i hi
      refine Ev.step (fun k => by rw [cippuskit_SameGrids.l0]) ?_
      exact Ev.if_pos' rfl (Ev.if_neg' (by omega) (Ev.now _))
    | succ rem ih =>
      intro i hi
      refine Ev.step (fun k => by rw [cippuskit_SameGrids.l0]) ?_
      refine Ev.if_pos' rfl (Ev.if_pos' (by omega) (Ev.if_pos' (by omega) (Ev.if_pos' (by omega) (Ev.bind (sameInts_ev _ (h9 i (by omega))) ?_))))
      rw [show wrap64 ((i : Int) + 1) = ((i + 1 : Nat) : Int) by rw [wrap64_small (by omega) (by omega)]; omega]
      exact ih (i + 1) (by omega)
  have h := this a.length 0 (by omega)
  unfold cippuskit_SameGrids.f
  rw [beq_self_eq_true]
  exact h
def rangeI (n : Nat) : List Int := (List.range n).map fun (p : Nat) => (p : Int)
theorem rd_get (y : List Int) (i : Nat) (h : i < y.length) : rd y (i : Int) = y[i] := by
  unfold rd
  rw [List.getD_eq_getElem?_getD, Int.toNat_natCast, List.getElem?_eq_getElem h]
  rfl
theorem row_swap (x : List Int) (i v : Nat) (hx : x.Perm (rangeI i)) (hv : v < i + 1) : (((x ++ [(i : Int)]).set i (rd (x ++ [(i : Int)]) (v : Int))).set v (rd (x ++ [(i : Int)]) (i : Int))).Perm (rangeI (i + 1)) := by
  have hlen : x.length = i := by rw [hx.length_eq]; simp [rangeI]
  have hy : (x ++ [(i : Int)]).length = i + 1 := by simp [hlen]
  rw [rd_get _ v (by omega), rd_get _ i (by omega)]
  refine (List.set_set_perm (by omega) (by omega)).trans ?_
  unfold rangeI
  rw [List.range_succ, List.map_append]
  exact hx.append_right _
theorem row_step (k n i v : Nat) (x : List Int) (a b a' b' : Int) (h8 : n ≤ 900) (hi : i < n) (hlen : x.length = i) (e : cippuskit_Urn_Up.f a b ((i : Int) + 1) = some ((v : Int), a', b')) (hv : v < i + 1) : cippuskit_Urn_Row.l0 (k + 1) (n : Int) x (i : Int) a b = cippuskit_Urn_Row.l0 k (n : Int) (((x ++ [(i : Int)]).set i (rd (x ++ [(i : Int)]) (v : Int))).set v (rd (x ++ [(i : Int)]) (i : Int))) ((i + 1 : Nat) : Int) a' b' := by
  have hy : (x ++ [(i : Int)]).length = i + 1 := by simp [hlen]
  have hw : wrap64 ((i : Int) + 1) = (i : Int) + 1 := wrap64_small (by omega) (by omega)
  have hc : ((i + 1 : Nat) : Int) = (i : Int) + 1 := by omega
  rw [cippuskit_Urn_Row.l0, if_pos (by omega), if_pos (by omega), Option.bind_some, hw, e, Option.bind_some, hc]
  generalize (x ++ [(i : Int)]) = y at hy ⊢
  show (if 0 ≤ (v : Int) then (if (v : Int) < (y.length : Int) then _ else none) else none) = _
  rw [if_pos (by omega), if_pos (by omega), if_pos (by omega), if_pos (by omega), Int.toNat_natCast]
  show cippuskit_Urn_Row.l0 k (n : Int) ((y.set i (rd y (v : Int))).set ((v : Int).toNat) (rd y (i : Int))) ((i : Int) + 1) a' b' = _
  rw [Int.toNat_natCast]
theorem row_l0 (n : Nat) (h8 : n ≤ 900) : ∀ rem i x a b, i + rem = n → x.Perm (rangeI i) → ∃ x' a' b', Ev (fun k => cippuskit_Urn_Row.l0 k (n : Int) x (i : Int) a b) (x', a', b') ∧ x'.Perm (rangeI n) := by
  intro rem
  induction rem with
  | zero =>
    intro i x a b hi hx
    have : i = n := by omega
    subst this
    refine ⟨x, a, b, Ev.step (fun k => by rw [cippuskit_Urn_Row.l0]) (Ev.if_neg' (by omega) (Ev.now _)), hx⟩
  | succ rem ih =>
    intro i x a b hi hx
    have hlen : x.length = i := by rw [hx.length_eq]; simp [rangeI]
    obtain ⟨v, a', b', e, h0, h1⟩ := up_ok a b ((i : Int) + 1) (by omega)
    obtain ⟨v, rfl⟩ : ∃ u : Nat, v = (u : Int) := ⟨v.toNat, by omega⟩
    have hv : v < i + 1 := by omega
    obtain ⟨x', a2, b2, h2, h3⟩ := ih (i + 1) _ a' b' (by omega) (row_swap x i v hx hv)
    exact ⟨x', a2, b2, Ev.step (fun k => row_step k n i v x a b a' b' h8 (by omega) hlen e hv) h2, h3⟩
theorem row_ev (n : Nat) (a b : Int) (h8 : n ≤ 900) : ∃ x a' b', Ev (fun k => cippuskit_Urn_Row.f k a b (n : Int)) (x, a', b') ∧ x.Perm (rangeI n) := by
  unfold cippuskit_Urn_Row.f
  exact row_l0 n h8 n 0 [] a b (by omega) (List.Perm.refl _)
section
variable {x : List Int} {n : Nat}
theorem perm_len (h : x.Perm (rangeI n)) : x.length = n := by rw [h.length_eq]; simp [rangeI]
theorem perm_rng (h : x.Perm (rangeI n)) (p : Nat) (hp : p < n) : 0 ≤ rd x (p : Int) ∧ rd x (p : Int) < n := by
  rw [rd_get x p (by rw [perm_len h]; exact hp)]
  have h1 := (h.mem_iff).1 (List.getElem_mem (by rw [perm_len h]; exact hp : p < x.length))
  unfold rangeI at h1
  rw [List.mem_map] at h1
  obtain ⟨q, h2, h3⟩ := h1
  have := List.mem_range.1 h2
  omega
theorem perm_inv (h : x.Perm (rangeI n)) : ∃ oi : Nat → Nat, (∀ p, p < n → (rd x (p : Int)).toNat < n ∧ oi (rd x (p : Int)).toNat = p) ∧ ∀ q, q < n → oi q < n ∧ (rd x ((oi q : Nat) : Int)).toNat = q := by
  have hlen := perm_len h
  have hnd : x.Nodup := by
    rw [h.nodup_iff]
    unfold rangeI
    refine List.Pairwise.map _ (fun a b hab => ?_) (List.nodup_range (n := n))
    omega
  have hsur : ∀ q, ∃ p, q < n → p < n ∧ (rd x (p : Int)).toNat = q := by
    intro q
    by_cases hq : q < n
    · have h1 : (q : Int) ∈ x := (h.mem_iff).2 (by unfold rangeI; exact List.mem_map.2 ⟨q, List.mem_range.2 hq, rfl⟩)
      obtain ⟨p, hp, e⟩ := List.getElem_of_mem h1
      exact ⟨p, fun _ => ⟨by omega, by rw [rd_get x p hp, e]; simp⟩⟩
    · exact ⟨0, fun h => absurd h hq⟩
  obtain ⟨oi, hoi⟩ := Classical.axiomOfChoice hsur
  refine ⟨oi, fun p hp => ?_, fun q hq => hoi q hq⟩
  have h1 := perm_rng h p hp
  refine ⟨by omega, ?_⟩
  obtain ⟨h2, h3⟩ := hoi (rd x (p : Int)).toNat (by omega)
  have h4 := perm_rng h _ h2
  have h5 : rd x ((oi (rd x (p : Int)).toNat : Nat) : Int) = rd x (p : Int) := by omega
  generalize oi (rd x (p : Int)).toNat = q at h2 h5 ⊢
  rw [rd_get x q (by omega), rd_get x p (by omega)] at h5
  exact (List.getElem_inj hnd).1 h5
end
theorem btT_left (a b : ByteArray) (p : Nat) (hp : p < a.size) : bt (a ++ b) (p : Int) = bt a (p : Int) := by
  rw [← bt_at (a ++ b) (p : Int) (by rw [ByteArray.size_append, Int.toNat_natCast]; omega), ← bt_at a (p : Int) (by simpa using hp)]
  simp only [Int.toNat_natCast]
  rw [ByteArray.getElem_append_left hp]
theorem btT_right (a b : ByteArray) (hb : b.size = 1) : bt (a ++ b) (a.size : Int) = bt b 0 := by
  rw [← bt_at (a ++ b) (a.size : Int) (by rw [ByteArray.size_append, Int.toNat_natCast]; omega), ← bt_at b 0 (by rw [hb]; decide)]
  simp only [Int.toNat_natCast, Int.toNat_zero]
  rw [ByteArray.getElem_append_right (Nat.le_refl _)]
  simp
theorem bt_turnT (order by_ : List Int) (b : ByteArray) (hb : ∀ p : Nat, p < order.length → 0 ≤ turnC order by_ b (p : Int) ∧ turnC order by_ b (p : Int) ≤ 255) : ∀ n, n ≤ order.length → ∀ p : Nat, p < n → bt (turnT order by_ b n) (p : Int) = turnC order by_ b (p : Int) := by
  intro n
  induction n with
  | zero => intro _ p hp; omega
  | succ n ih =>
    intro hn p hp
    have e1 := turnT_size order by_ b n
    by_cases e : p < n
    · have h1 := ih (by omega) p e
      rw [← h1, turnT]
      exact btT_left _ _ p (by omega)
    · have e2 : p = n := by omega
      subst e2
      rw [turnT]
      have h2 := btT_right (turnT order by_ b p) (strOfNums [turnC order by_ b (p : Int)]) rfl
      rw [e1] at h2
      have h3 := bt_str [turnC order by_ b (p : Int)] 0 (fun x hx => by rw [List.mem_singleton] at hx; rw [hx]; exact hb p (by omega)) (by simp)
      rw [h2]
      exact h3
theorem rd_map (l : List S24) (f : S24 → S24) (i : Nat) (hi : i < l.length) : rd_T24 (l.map f) (i : Int) = f (rd_T24 l (i : Int)) := by
  unfold rd_T24
  rw [List.getD_eq_getElem?_getD, List.getD_eq_getElem?_getD, Int.toNat_natCast, List.getElem?_map, List.getElem?_eq_getElem hi]
  rfl
theorem turnR_of {l : List S24} {order by_ : List Int} (hv : Valid l) (ho : order.Perm (rangeI (rd_T24 l 0).f0.size)) (hb : ∀ p : Nat, p < order.length → 0 ≤ rd by_ (p : Int) ∧ rd by_ (p : Int) < 26) :
    ∃ oi, TurnR l (l.map (turnX order by_)) (fun p => (rd order (p : Int)).toNat) oi (fun p => rd by_ (p : Int)) := by
  obtain ⟨oi, h1, h2⟩ := perm_inv ho
  have hlen := perm_len ho
  have h0 := hv.one
  have hm : ∀ i : Nat, i < l.length → rd_T24 (l.map (turnX order by_)) (i : Int) = turnX order by_ (rd_T24 l (i : Int)) := fun i hi => rd_map l _ i hi
  have hs : ∀ i : Nat, i < l.length → (rd_T24 (l.map (turnX order by_)) (i : Int)).f0.size = (rd_T24 l 0).f0.size := fun i hi => by
    rw [hm i hi, ← hlen]
    exact turnT_size order by_ _ _
  have hs0 := hs 0 (by omega)
  have htext : ∀ i : Nat, i < l.length → ∀ p : Nat, p < (rd_T24 l 0).f0.size → bt (rd_T24 (l.map (turnX order by_)) (i : Int)).f0 (p : Int) = phi (rd by_ (p : Int)) (bt (rd_T24 l (i : Int)).f0 (((rd order (p : Int)).toNat : Nat) : Int)) := fun i hi p hp => by
    rw [hm i hi]
    have hC : ∀ p : Nat, p < order.length → turnC order by_ (rd_T24 l (i : Int)).f0 (p : Int) = phi (rd by_ (p : Int)) (bt (rd_T24 l (i : Int)).f0 (((rd order (p : Int)).toNat : Nat) : Int)) := fun p hp => by
      have h3 := perm_rng ho p (by omega)
      have h4 := hv.good i hi (rd order (p : Int)).toNat (by omega)
      have h5 := hb p hp
      rw [show (((rd order (p : Int)).toNat : Nat) : Int) = rd order (p : Int) by omega] at h4 ⊢
      unfold turnC phi
      omega
    rw [← hC p (by omega)]
    exact bt_turnT order by_ _ (fun p hp => by rw [hC p hp]; have := phi_ok (rd by_ (p : Int)) (bt (rd_T24 l (i : Int)).f0 (((rd order (p : Int)).toNat : Nat) : Int)); omega) _ (Nat.le_refl _) p (by omega)
  have hl : (l.map (turnX order by_)).length = l.length := by simp
  refine ⟨oi, hv, ⟨by omega, by have := hv.five; omega, fun i hi => ?_, ?_, ?_, fun i hi => ?_, fun i hi p hp => ?_⟩, hl, hs0, h1, h2, htext, fun i hi => by rw [hm i hi]; rfl, fun i hi => by rw [hm i hi]; rfl⟩
  · rw [hl] at hi; rw [hs i hi]; exact hs0.symm
  · exact hs0 ▸ hv.low
  · exact hs0 ▸ hv.high
  · rw [hl] at hi; rw [hm i hi]; exact hv.err i hi
  · rw [hl] at hi
    have hp2 : p < (rd_T24 l 0).f0.size := by have h := hp; rw [show ((0 : Nat) : Int) = 0 from rfl] at hs0; omega
    rw [htext i hi p hp2]
    exact phi_ok _ _
section
variable {l l' : List S24} {x by_ : List Int} {oi : Nat → Nat}
theorem turned_l2 (h : TurnR l l' (fun p => (rd x (p : Int)).toNat) oi (fun p => rd by_ (p : Int))) (hk : knownE l = 0) (hx : x.length = (rd_T24 l 0).f0.size) (hy : by_.length = x.length) (hb : ∀ p : Nat, p < by_.length → 0 ≤ rd by_ (p : Int) ∧ rd by_ (p : Int) < 26) (p : Nat) (hp : p < x.length)
    (hR : Ev (fun k => cippuslaw07_StemmaTurned.l1 k x by_ (lettersV l).1 (lettersV l').1 ((p + 1 : Nat) : Int)) true) : ∀ rem q, q + rem = (letterRow l (rd x (p : Int)).toNat).size →
    Ev (fun k => cippuslaw07_StemmaTurned.l2 k x by_ (lettersV l).1 (lettersV l').1 (p : Int) (letterRow l (rd x (p : Int)).toNat) (q : Int)) true := by
  intro rem
  have h8 := h.vl.high
  have hk' : knownE l' = 0 := by rw [h.knownE]; exact hk
  have hs := letterRow_size l (rd x (p : Int)).toNat
  have hs' := letterRow_size l' p
  have hsz := h.size
  have hl' : (lettersV l').1.length = (rd_T24 l' 0).f0.size := by unfold lettersV; rw [if_pos hk']; simp
  induction rem with
  | zero =>
    intro q hq
    refine Ev.step (fun k => by rw [cippuslaw07_StemmaTurned.l2]) ?_
    refine Ev.if_neg' (by omega) ?_
    rw [show wrap64 ((p : Int) + 1) = ((p + 1 : Nat) : Int) by rw [wrap64_small (by omega) (by omega)]; omega]
    exact hR
  | succ rem ih =>
    intro q hq
    refine Ev.step (fun k => by rw [cippuslaw07_StemmaTurned.l2]) ?_
    rw [textsV l' hk' p (by omega)]
    refine Ev.if_pos' (by omega) (Ev.if_pos' (by omega) (Ev.if_pos' (by omega) (Ev.if_pos' (by omega) (Ev.if_pos' (by omega) ?_))))
    have h4 := has_ev (letterRow l' p) (65 + (bt (letterRow l (rd x (p : Int)).toNat) (q : Int) - 65 + rd by_ (p : Int)) % 256 % 26) (by omega)
    rw [h.row_has p q (by omega) (by omega) (hb p (by omega)).1 (hb p (by omega)).2] at h4
    refine Ev.bind h4 (Ev.if_pos' (by trivial) ?_)
    rw [show wrap64 ((q : Int) + 1) = ((q + 1 : Nat) : Int) by rw [wrap64_small (by omega) (by omega)]; omega]
    exact ih (q + 1) (by omega)
theorem turned_l1 (h : TurnR l l' (fun p => (rd x (p : Int)).toNat) oi (fun p => rd by_ (p : Int))) (hk : knownE l = 0) (hx : x.length = (rd_T24 l 0).f0.size) (hr : ∀ p : Nat, p < x.length → 0 ≤ rd x (p : Int) ∧ rd x (p : Int) < x.length) (hy : by_.length = x.length) (hb : ∀ p : Nat, p < by_.length → 0 ≤ rd by_ (p : Int) ∧ rd by_ (p : Int) < 26) : ∀ rem p, p + rem = x.length →
    Ev (fun k => cippuslaw07_StemmaTurned.l1 k x by_ (lettersV l).1 (lettersV l').1 (p : Int)) true := by
  intro rem
  have hk' : knownE l' = 0 := by rw [h.knownE]; exact hk
  have hsz := h.size
  have hl : (lettersV l).1.length = (rd_T24 l 0).f0.size := by unfold lettersV; rw [if_pos hk]; simp
  have hl' : (lettersV l').1.length = (rd_T24 l' 0).f0.size := by unfold lettersV; rw [if_pos hk']; simp
  induction rem with
  | zero =>
    intro p hp
    refine Ev.step (fun k => by rw [cippuslaw07_StemmaTurned.l1]) ?_
    exact Ev.if_neg' (by omega) (Ev.bind found_ev (Ev.now _))
  | succ rem ih =>
    intro p hp
    have h1 := hr p (by omega)
    refine Ev.step (fun k => by rw [cippuslaw07_StemmaTurned.l1]) ?_
    have e : rdOf ByteArray.empty (lettersV l).1 (rd x (p : Int)) = letterRow l (rd x (p : Int)).toNat := by
      have := textsV l hk (rd x (p : Int)).toNat (by omega)
      rw [show (((rd x (p : Int)).toNat : Nat) : Int) = rd x (p : Int) by omega] at this
      exact this
    rw [textsV l' hk' p (by omega), e]
    refine Ev.if_pos' (by omega) (Ev.if_pos' (by omega) (Ev.if_pos' (by omega) (Ev.if_pos' (by omega) (Ev.if_pos' (by omega) (Ev.if_pos' ?_ ?_)))))
    · have := h.row_size p (by omega)
      show ((letterRow l' p).size : Int) = ((letterRow l (rd x (p : Int)).toNat).size : Int)
      omega
    · simpa using turned_l2 h hk hx hy hb p (by omega) (ih (p + 1) (by omega)) (letterRow l (rd x (p : Int)).toNat).size 0 (by omega)
end
theorem turned_l0 {l : List S24} {st : ByteArray} {src : List Int} (h : MadeT 1 st l src) {x : List Int} (hx : x.Perm (rangeI (rd_T24 l 0).f0.size)) : ∀ rem i (by_ : List Int) a b, i + rem = x.length → by_.length = i → (∀ p : Nat, p < by_.length → 0 ≤ rd by_ (p : Int) ∧ rd by_ (p : Int) < 26) →
    Ev (fun k => cippuslaw07_StemmaTurned.l0 k l x by_ (i : Int) a b) true := by
  intro rem
  have hv := h.valid
  have hk := h.knownE
  have h8 := hv.high
  have h5 := hv.five
  have hlen := perm_len hx
  induction rem with
  | zero =>
    intro i by_ a b hi hy hb
    obtain ⟨oi, hT⟩ := turnR_of hv hx (by_ := by_) (fun p hp => hb p (by omega))
    have hok : TurnOk l x by_ := ⟨hv.one, h5, by omega, by omega, fun i hi p hp => by
      rw [hv.size i hi]
      exact perm_rng hx p (by omega)⟩
    have hk' := hT.knownE
    rw [hk] at hk'
    have hm : (l.map (turnX x by_)).length = l.length := by simp
    have s1 : (sourcesV l).2 = 0 := by unfold sourcesV; rw [if_pos hk]
    have s2 : (lettersV l).2 = 0 := by unfold lettersV; rw [if_pos hk]
    have s3 : (fewestV l).2 = 0 := by unfold fewestV; rw [if_pos hk]
    have s4 : (sourcesV l).1.length = l.length := by unfold sourcesV; rw [if_pos hk]; simp
    have s5 : (lettersV l).1.length = (rd_T24 l 0).f0.size := by unfold lettersV; rw [if_pos hk]; simp
    have t1 : (sourcesV (l.map (turnX x by_))).2 = 0 := by unfold sourcesV; rw [if_pos hk']
    have t2 : (lettersV (l.map (turnX x by_))).2 = 0 := by unfold lettersV; rw [if_pos hk']
    have t3 : (fewestV (l.map (turnX x by_))).2 = 0 := by unfold fewestV; rw [if_pos hk']
    have t5 : (lettersV (l.map (turnX x by_))).1.length = (rd_T24 (l.map (turnX x by_)) 0).f0.size := by unfold lettersV; rw [if_pos hk']; simp
    have hf := hT.fewest hk
    have hsz := hT.size
    refine Ev.step (fun k => by rw [cippuslaw07_StemmaTurned.l0]) ?_
    refine Ev.if_neg' (by omega) ?_
    unfold cippuslaw07_turned.f stemma_Sources.f stemma_Letters.f stemma_Fewest.f
    rw [turnV_ok hok]
    simp only [Option.bind_some]
    refine Ev.if_pos' s1 (Ev.if_pos' t1 (Ev.if_pos' s2 (Ev.if_pos' t2 (Ev.if_pos' s3 (Ev.if_pos' t3 (Ev.if_pos' hf.symm (Ev.if_pos' (by omega) (Ev.if_pos' (by omega) ?_))))))))
    rw [hT.sources]
    refine Ev.bind (sameGrids_ev _ (by omega) (fun i hi => ?_)) ?_
    · rw [rowsV l hk i (by omega)]
      simp [srcRow]
      omega
    · refine Ev.step (fun k => by rw [cippuslaw07_StemmaTurned.j1]) ?_
      refine Ev.if_neg' (by decide) ?_
      simpa using turned_l1 hT hk hlen (fun p hp => by rw [hlen]; exact perm_rng hx p (by omega)) (by omega) hb x.length 0 (by omega)
  | succ rem ih =>
    intro i by_ a b hi hy hb
    obtain ⟨v, a', b', e, h0, h1⟩ := up_ok a b 26 (by omega)
    refine Ev.step (fun k => by rw [cippuslaw07_StemmaTurned.l0]) ?_
    refine Ev.if_pos' (by omega) ?_
    rw [e]
    simp only [Option.bind_some]
    refine Ev.if_pos' (by omega) ?_
    rw [show wrap64 ((i : Int) + 1) = ((i + 1 : Nat) : Int) by rw [wrap64_small (by omega) (by omega)]; omega]
    refine ih (i + 1) _ a' b' (by omega) (by simp [hy]) (fun p hp => ?_)
    have hlen2 : (by_ ++ [v]).length = i + 1 := by simp [hy]
    rw [rd_get _ p hp]
    by_cases ep : p < i
    · rw [List.getElem_append_left (by omega), ← rd_get by_ p (by omega)]
      exact hb p (by omega)
    · have : p = i := by omega
      subst this
      rw [List.getElem_append_right (by omega)]
      simp [hy]
      omega
theorem turned_pure (l0 : List Int) (hl : l0.length < 4611686018427387904) : ∃ k, cippuslaw07_StemmaTurned.f k l0 = some true := by
  obtain ⟨a, b, e1⟩ := newUrn_ok l0 (by have : maxLen = 9223372036854775807 := rfl; omega)
  obtain ⟨l, st, src, a2, b2, e2, h, hn, hp⟩ := copiesOf_made a b 4 6 1 (by omega) (by omega) (by omega) (by omega) (by omega) (by omega)
  have hv := h.valid
  obtain ⟨x, a3, b3, hE, hx⟩ := row_ev (rd_T24 l 0).f0.size a2 b2 (by have := hv.high; omega)
  refine Ev.rounds ?_
  unfold cippuslaw07_StemmaTurned.f cippuskit_NewUrn.f cippuskit_CopiesOf.f
  rw [e1]
  simp only [Option.bind_some, e2]
  refine Ev.if_pos' (by have := h.one; omega) (Ev.bind hE ?_)
  exact turned_l0 h hx x.length 0 [] a3 b3 (by omega) rfl (fun p hp => by simp at hp)
end Go.Proofs.Ytegjollhajgcdaa.Pure
namespace Go.Proofs.Ytegjollhajgcdaa.P
abbrev tt : Bool := true
abbrev ff : Bool := false
theorem sA {α : Type} (l : List α) (i : Nat) (a : α) : l.toArray.setIfInBounds i a = (l.set i a).toArray := by simp
theorem sB {α : Type} (a b : α) (l : List α) : (a :: l).set 0 b = b :: l := rfl
theorem sC {α : Type} (a b : α) (n : Nat) (l : List α) : (a :: l).set (n + 1) b = a :: l.set n b := rfl
end Go.Proofs.Ytegjollhajgcdaa.P
namespace Go.Proofs.Ytegjollhajgcdaa.P.OwnSt
open Go.RowKit Go.Proofs.YtegjollhajgcdaaW.PrintWords Go.Proofs.YtegjollhajgcdaaW.PrintLast Go.Proofs.YtegjollhajgcdaaW.PrintMore
set_option linter.unusedVariables false
set_option linter.unusedSimpArgs false
section
variable {l : List S24} {order by_ : List Int}
theorem turn_l1 (h : TurnOk l order by_) (i : Nat) (hi : i < l.length) (R : List S24) (hR : Ev (fun k => cippuslaw07_turned.l0 k l order by_ (turnI l order by_ (i + 1)) ((i + 1 : Nat) : Int)) R) :
    ∀ rem p, p + rem = order.length → Ev (fun k => cippuslaw07_turned.l1 k l order by_ ((turnI l order by_ i).set i ⟨turnT order by_ (rd_T24 l (i : Int)).f0 p, (rd_T24 l (i : Int)).f1, (rd_T24 l (i : Int)).f2⟩) (i : Int) (p : Int)) R := by
  intro rem
  have h5 := h.five
  have h8 := h.eight
  have hL := turnI_len l order by_ i (by omega)
  induction rem with
  | zero =>
    intro p hp
    refine Ev.step (fun k => by rw [cippuslaw07_turned.l1]) ?_
    refine Ev.if_neg' (by omega) ?_
    rw [show p = order.length by omega]
    have e := turnI_succ l order by_ i hi
    unfold turnX at e
    rw [e, show wrap64 ((i : Int) + 1) = ((i + 1 : Nat) : Int) by rw [wrap64_small (by omega) (by omega)]; omega]
    exact hR
  | succ rem ih =>
    intro p hp
    have hg := h.good i hi p (by omega)
    have hb := h.by_
    refine Ev.step (fun k => by rw [cippuslaw07_turned.l1]) ?_
    rw [rd_set _ _ _ (by omega) i, if_pos rfl]
    simp only [Option.bind_some, List.set_set, Int.toNat_natCast, List.length_set, hL]
    refine Ev.if_pos' (by omega) (Ev.if_pos' (by omega) (Ev.if_pos' (by omega) (Ev.if_pos' (by omega) (Ev.if_pos' (by omega) (Ev.if_pos' hg.1 (Ev.if_pos' hg.2 (Ev.if_pos' (by omega) (Ev.if_pos' ?_ ?_))))))))
    · rw [turnT_size, strOfNums_size]
      show p + 1 ≤ _
      omega
    · rw [show wrap64 ((p : Int) + 1) = ((p + 1 : Nat) : Int) by rw [wrap64_small (by omega) (by omega)]; omega]
      exact ih (p + 1) (by omega)
theorem turn_l0 (h : TurnOk l order by_) : ∀ rem i, i + rem = l.length → Ev (fun k => cippuslaw07_turned.l0 k l order by_ (turnI l order by_ i) (i : Int)) (l.map (turnX order by_)) := by
  intro rem
  have h5 := h.five
  induction rem with
  | zero =>
    intro i hi
    have hL := turnI_len l order by_ i (by omega)
    refine Ev.step (fun k => by rw [cippuslaw07_turned.l0]) ?_
    rw [hL]
    refine Ev.if_neg' (by omega) ?_
    rw [show i = l.length by omega, turnI_all]
    exact Ev.now _
  | succ rem ih =>
    intro i hi
    have hL := turnI_len l order by_ i (by omega)
    refine Ev.step (fun k => by rw [cippuslaw07_turned.l0]) ?_
    rw [hL, turnI_at _ _ _ i (by omega)]
    refine Ev.if_pos' (by omega) (Ev.if_pos' (by omega) ?_)
    simpa [turnT] using turn_l1 h i (by omega) _ (ih (i + 1) (by omega)) order.length 0 (by omega)
end
theorem turned_run {l : List S24} {order by_ : List Int} {x : List S24} (h : cippuslaw07_turned.f l order by_ = some x) : ∃ k, cippuslaw07_turned.l0 k l order by_ l 0 = some x := by
  obtain ⟨h1, rfl⟩ := turnV_some (show turnV l order by_ = some x from h)
  obtain ⟨K, hK⟩ := turn_l0 h1 l.length 0 (by omega)
  have := hK K (Nat.le_refl _)
  rw [turnI_zero] at this
  exact ⟨K, this⟩
end Go.Proofs.Ytegjollhajgcdaa.P.OwnSt
