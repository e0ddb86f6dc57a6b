/- Lemmas for the statement StemmaKnown of the given program, for every input that its row lets in. Conditions: none beyond those that each lemma tells. -/
import Derived.Shelf.Strconv.Itoa3
import Derived.KernelRfl
import Derived.Test.YtecdjnabmjhakaaDoorProg
import Derived.Test.YtecdjnabmjhakaaDoorMStemmaKnown2
set_option linter.unusedVariables false
set_option linter.unusedSimpArgs false
namespace Go.Proofs.YtecdjnabmjhakaaDoor.P
open Go.RowKit Go.Proofs.YtecdjnabmjhakaaDoorW.PrintWords Go.Proofs.YtecdjnabmjhakaaDoorW.PrintLast Go.Proofs.YtecdjnabmjhakaaDoorW.PrintMore
attribute [local go_sem] max2_int min2_int max_two min_two max_three min_three max_four min_four   -- for this text's walks alone
set_option linter.unusedVariables false
set_option linter.unusedSimpArgs false
def stemma_Print.l0 : Nat → ByteArray → List ByteArray → Int → Int → Option (ByteArray × Int)
  | 0, _, _, _, _ => none
  | k + 1, x6, x17, x18, x19 => if x19 < x18 then (if 0 ≤ x19 then (if x19 < (x17.length : Int) then (if ((rdOf ByteArray.empty x17 x19).size : Int) > 1 then (if x6.size + 1 ≤ 9223372036854775807 then (stemma_Print.l0 k (x6 ++ (⟨#[45]⟩ : ByteArray)) x17 x18 (wrap64 (x19 + 1))) else (none)) else (if x6.size + (rdOf ByteArray.empty x17 x19).size ≤ 9223372036854775807 then (stemma_Print.l0 k (x6 ++ (rdOf ByteArray.empty x17 x19)) x17 x18 (wrap64 (x19 + 1))) else (none))) else (none)) else (none)) else (some (x6, 0))
def stemma_Print.f (k : Nat) (l0 : List (S25)) : Option (ByteArray × Int) := (stemma_Letters.f k l0).bind fun bt116 => (if bt116.2 = 0 then (stemma_Print.l0 k (⟨#[]⟩ : ByteArray) bt116.1 (bt116.1.length : Int) 0) else (some ((⟨#[]⟩ : ByteArray), bt116.2)))
set_option maxHeartbeats 8000000 in
set_option maxRecDepth 100000 in
theorem stemma_Print.calls (k : Nat) (A0 : Option Addr) (c0 : Nat) (l0 : List (S25)) (r1 : ByteArray) (r2 : Int) (w : World) (hr0 : Kd.C k25 w A0 l0.length l0) (hc0 : l0.length ≤ c0) (h : stemma_Print.f k l0 = some (r1, r2)) :
    Calls Tryd.prog 13 #[.slice A0 l0.length c0] w fun e w' => e = .returned (.tuple #[.string r1, .int .i64 r2]) ∧ Below w.heap.size w w' := by
  have HR0 := Aside0.mk hr0
  have HC0 := Aside0.mk hc0
  clear hr0 hc0
  have HB := Aside0.mk (Below.refl w.heap.size w)
  have H : ((stemma_Letters.f k l0).bind fun bt116 => (if bt116.2 = 0 then (stemma_Print.l0 k (⟨#[]⟩ : ByteArray) bt116.1 (bt116.1.length : Int) 0) else (some ((⟨#[]⟩ : ByteArray), bt116.2)))) = some (r1, r2) := h
  clear h
  replace H := Option.bind_eq_some_iff.mp H
  obtain ⟨⟨t116, t117⟩, A20, H⟩ := H
  replace H : (if t117 = 0 then (stemma_Print.l0 k (⟨#[]⟩ : ByteArray) t116 (t116.length : Int) 0) else (some ((⟨#[]⟩ : ByteArray), t117))) = some (r1, r2) := H
  have A2 := Aside0.mk A20
  clear A20
  by_cases c3 : t117 = 0
  · rw [if_pos c3] at H
    have c3b0 : (t117 == 0) = true := beq_iff_eq.mpr c3
    have c3b1 : (t117 != 0) = false := bne_eq_false_iff_eq.mpr c3
    clear c3
    have H' := Aside0.mk H
    clear H
    go_enter Tryd.func13, Tryd.ntmps13
    go_wp2_with (first | ((with_reducible refine gate_callee (f := 12) rfl ?_); refine goesL_ (some 11) rfl rfl Tryd.func12 (by kernel_rfl) rfl #[.slice A0 l0.length c0] rfl (by (try simp only [List.map_toArray, List.map_cons, List.map_nil]); first | done | rfl | (simp only [List.length_drop, List.length_take]; rfl)) ?_; (with_reducible refine (stemma_Letters.calls k _ _ l0 t116 t117 _ ?side1 ?side2 A2.out).mono ?_); (case side1 => repeat (first | exact HR0.out | (with_reducible refine Kd.C_alloc ?_ _) | (with_reducible refine Kd.C_drewN ?_ _) | (with_reducible refine Kd.C_drew ?_))); (case side2 => exact HC0.out); rintro e w4 ⟨v118, rfl, ho0, hb⟩; refine ⟨_, rfl, ?_⟩; have n0_ := Aside0.mk (Kd.R_lower ho0 (below_size (by repeat (first | (with_reducible first | exact HB.out | apply below_alloc | apply pw_below_drewN | apply below_drew1) | exact HB.out)))); have n1_ := Aside0.mk (below_step (by repeat (first | (with_reducible first | exact HB.out | apply below_alloc | apply pw_below_drewN | apply below_drew1) | exact HB.out)) hb); clear HB; have HO119 := n0_; have HB := n1_; clear n0_ n1_; (try clear hb); (try clear hb2); (try clear hk); (try clear hi); (try clear ho0); obtain ⟨Ao5, co5, eo5⟩ := Kd.R_slice HO119.out; subst eo5))
    go_loopg [6, 19] k (fun kq v6 v19 w' => ∃ (x6_1 : ByteArray) (x19_1 : Int), v6 = .string x6_1 ∧ v19 = .int .i64 x19_1 ∧ Aside0 (stemma_Print.l0 kq x6_1 t116 (t116.length : Int) x19_1 = some (r1, r2)) ∧ Aside0 (kq ≤ k) ∧ Aside0 (Kd.R Kd.string 9 w' w.heap.size (fun _ => True) (.slice Ao5 t116.length co5) t116) ∧ Aside0 (Below w.heap.size w w'))
    case atStart => exact ⟨((⟨#[]⟩ : ByteArray)), (0), (by first | rfl | (simp; done) | (simp [*]; done)), (by first | rfl | (simp; done) | (simp [*]; done)), H', ⟨Nat.le_refl _⟩, ⟨by (with_reducible repeat (first | apply Kd.R_alloc | apply Kd.R_drewN | apply Kd.R_drew)); exact HO119.out⟩, ⟨by repeat (first | (with_reducible first | exact HB.out | apply below_alloc | apply pw_below_drewN | apply below_drew1) | exact HB.out)⟩⟩
    case round =>
      clear H'
      try clear c1
      try clear p2
      try clear c3
      try clear c3b0
      try clear c3b1
      obtain ⟨x6_1, x19_1, rfl, rfl, HA, HK1, HO_17, HB⟩ := hrel
      cases gk with
      | zero => exact absurd HA.out (by simp [stemma_Print.l0])
      | succ k1 =>
        have H := HA.out
        clear HA
        simp only [stemma_Print.l0] at H
        by_cases c6 : x19_1 < (t116.length : Int)
        · rw [if_pos c6] at H
          have c6b0 : decide (x19_1 < (t116.length : Int)) = true := decide_eq_true c6
          clear c6
          by_cases c7 : 0 ≤ x19_1
          · rw [if_pos c7] at H
            have c7b0 : decide (0 ≤ x19_1) = true := decide_eq_true c7
            clear c7
            by_cases c8 : x19_1 < (t116.length : Int)
            · rw [if_pos c8] at H
              have c8b0 : decide (x19_1 < (t116.length : Int)) = true := decide_eq_true c8
              clear c8
              by_cases c9 : ((rdOf ByteArray.empty t116 x19_1).size : Int) > 1
              · rw [if_pos c9] at H
                have c9b0 : decide (1 < ((rdOf ByteArray.empty t116 x19_1).size : Int)) = true := decide_eq_true c9
                have c9b1 : decide (1 < (rdOf ByteArray.empty t116 x19_1).size) = true := decide_eq_true (by omega)
                clear c9
                by_cases c10 : x6_1.size + 1 ≤ 9223372036854775807
                · rw [if_pos c10] at H
                  have c10b0 := eq_true c10
                  have c10b1 : decide (x6_1.size + 1 ≤ 9223372036854775807) = true := decide_eq_true c10
                  try have c10b2 : (9223372036854775807 < x6_1.size + 1) = False := eq_false (Nat.not_lt.2 c10)
                  have H' := Aside0.mk H
                  clear H
                  have p120 : 0 ≤ (x19_1 : Int) := of_decide_eq_true (by first | (with_reducible assumption) | assumption)
                  have q120 : x19_1 < (t116.length : Int) := of_decide_eq_true (by first | (with_reducible assumption) | assumption)
                  obtain ⟨ad120, e120, hx120_0⟩ := Kd.at_string (Kd.R_reads' HO_17.out).2.2 x19_1 p120 q120
                  cases e120
                  replace p120 := eq_true p120
                  replace q120 := eq_true q120
                  go_wp2
                  go_roundg k1
                  case measure => have := HK1.out; omega
                  case rel => exact ⟨(x6_1 ++ (⟨#[45]⟩ : ByteArray)), (wrap64 (x19_1 + 1)), (by first | rfl | (simp; done) | (simp [*]; done)), (by first | rfl | (simp; done) | (simp [*]; done)), H', ⟨by have := HK1.out; omega⟩, ⟨by (with_reducible repeat (first | apply Kd.R_alloc | apply Kd.R_drewN | apply Kd.R_drew)); exact HO_17.out⟩, ⟨by repeat (first | (with_reducible first | exact HB.out | apply below_alloc | apply pw_below_drewN | apply below_drew1) | exact HB.out)⟩⟩
                · rw [if_neg c10] at H
                  exact absurd H (by simp)
              · rw [if_neg c9] at H
                have c9b0 : decide (1 < ((rdOf ByteArray.empty t116 x19_1).size : Int)) = false := decide_eq_false c9
                have c9b1 : decide (1 < (rdOf ByteArray.empty t116 x19_1).size) = false := decide_eq_false (by omega)
                clear c9
                by_cases c11 : x6_1.size + (rdOf ByteArray.empty t116 x19_1).size ≤ 9223372036854775807
                · rw [if_pos c11] at H
                  have c11b0 := eq_true c11
                  have c11b1 : decide (x6_1.size + (rdOf ByteArray.empty t116 x19_1).size ≤ 9223372036854775807) = true := decide_eq_true c11
                  try have c11b2 : (9223372036854775807 < x6_1.size + (rdOf ByteArray.empty t116 x19_1).size) = False := eq_false (Nat.not_lt.2 c11)
                  have H' := Aside0.mk H
                  clear H
                  have p120 : 0 ≤ (x19_1 : Int) := of_decide_eq_true (by first | (with_reducible assumption) | assumption)
                  have q120 : x19_1 < (t116.length : Int) := of_decide_eq_true (by first | (with_reducible assumption) | assumption)
                  obtain ⟨ad120, e120, hx120_0⟩ := Kd.at_string (Kd.R_reads' HO_17.out).2.2 x19_1 p120 q120
                  cases e120
                  replace p120 := eq_true p120
                  replace q120 := eq_true q120
                  go_wp2
                  go_roundg k1
                  case measure => have := HK1.out; omega
                  case rel => exact ⟨(x6_1 ++ (rdOf ByteArray.empty t116 x19_1)), (wrap64 (x19_1 + 1)), (by first | rfl | (simp; done) | (simp [*]; done)), (by first | rfl | (simp; done) | (simp [*]; done)), H', ⟨by have := HK1.out; omega⟩, ⟨by (with_reducible repeat (first | apply Kd.R_alloc | apply Kd.R_drewN | apply Kd.R_drew)); exact HO_17.out⟩, ⟨by repeat (first | (with_reducible first | exact HB.out | apply below_alloc | apply pw_below_drewN | apply below_drew1) | exact HB.out)⟩⟩
                · rw [if_neg c11] at H
                  exact absurd H (by simp)
            · rw [if_neg c8] at H
              exact absurd H (by simp)
          · rw [if_neg c7] at H
            exact absurd H (by simp)
        · rw [if_neg c6] at H
          have c6b0 : decide (x19_1 < (t116.length : Int)) = false := decide_eq_false c6
          clear c6
          simp only [Option.some.injEq, Prod.mk.injEq] at H
          obtain ⟨rfl, rfl⟩ := H
          go_wp2
          go_ret2
          exact ⟨by first | rfl | (simp [errW_none, errW_some] <;> rfl) | (simp [*, errW_none, errW_some] <;> rfl), by repeat (first | (with_reducible first | exact HB.out | apply below_alloc | apply pw_below_drewN | apply below_drew1) | exact HB.out)⟩
  · rw [if_neg c3] at H
    have c3b0 : (t117 == 0) = false := beq_eq_false_iff_ne.mpr c3
    have c3b1 : (t117 != 0) = true := bne_iff_ne.mpr c3
    simp only [Option.some.injEq, Prod.mk.injEq] at H
    obtain ⟨rfl, rfl⟩ := H
    go_enter Tryd.func13, Tryd.ntmps13
    go_wp2_with (first | ((with_reducible refine gate_callee (f := 12) rfl ?_); refine goesL_ (some 11) rfl rfl Tryd.func12 (by kernel_rfl) rfl #[.slice A0 l0.length c0] rfl (by (try simp only [List.map_toArray, List.map_cons, List.map_nil]); first | done | rfl | (simp only [List.length_drop, List.length_take]; rfl)) ?_; (with_reducible refine (stemma_Letters.calls k _ _ l0 t116 t117 _ ?side1 ?side2 A2.out).mono ?_); (case side1 => repeat (first | exact HR0.out | (with_reducible refine Kd.C_alloc ?_ _) | (with_reducible refine Kd.C_drewN ?_ _) | (with_reducible refine Kd.C_drew ?_))); (case side2 => exact HC0.out); rintro e w12 ⟨v118, rfl, ho0, hb⟩; refine ⟨_, rfl, ?_⟩; have n0_ := Aside0.mk (Kd.R_lower ho0 (below_size (by repeat (first | (with_reducible first | exact HB.out | apply below_alloc | apply pw_below_drewN | apply below_drew1) | exact HB.out)))); have n1_ := Aside0.mk (below_step (by repeat (first | (with_reducible first | exact HB.out | apply below_alloc | apply pw_below_drewN | apply below_drew1) | exact HB.out)) hb); clear HB; have HO119 := n0_; have HB := n1_; clear n0_ n1_; (try clear hb); (try clear hb2); (try clear hk); (try clear hi); (try clear ho0)))
    go_ret2
    exact ⟨by first | rfl | (simp [errW_none, errW_some] <;> rfl) | (simp [*, errW_none, errW_some] <;> rfl), by repeat (first | (with_reducible first | exact HB.out | apply below_alloc | apply pw_below_drewN | apply below_drew1) | exact HB.out)⟩
end Go.Proofs.YtecdjnabmjhakaaDoor.P
namespace Go.Proofs.YtecdjnabmjhakaaDoor.P.OwnSt
open Go.RowKit Go.Shelf Go.Proofs.YtecdjnabmjhakaaDoorW.PrintWords Go.Proofs.YtecdjnabmjhakaaDoorW.PrintLast Go.Proofs.YtecdjnabmjhakaaDoorW.PrintMore
set_option linter.unusedVariables false
set_option linter.unusedSimpArgs false
theorem treesG_of_mem (l : List S25) : ∀ (rem i : Nat) (s t : Nat → Int), t ∈ treesG l rem i s → (∀ k, k < i → t k = s k) ∧ (∀ k, i + rem ≤ k → t k = s k) ∧ ∀ k, i ≤ k → k < i + rem → -1 ≤ t k ∧ t k < k ∧ canF l k (t k) = true := by
  intro rem
  induction rem with
  | zero =>
    intro i s t h
    simp [treesG] at h
    subst h
    exact ⟨fun _ _ => rfl, fun _ _ => rfl, fun k h1 h2 => by omega⟩
  | succ rem ih =>
    intro i s t h
    simp only [treesG, List.mem_flatMap, List.mem_range] at h
    obtain ⟨f, hf, h⟩ := h
    split at h
    · rename_i hc
      obtain ⟨h1, h2, h3⟩ := ih (i + 1) _ t h
      have hi : t i = (f : Int) - 1 := by rw [h1 i (by omega)]; simp [upd]
      refine ⟨fun k hk => ?_, fun k hk => ?_, fun k h4 h5 => ?_⟩
      · rw [h1 k (by omega)]; simp [upd, show k ≠ i by omega]
      · rw [h2 k (by omega)]; simp [upd, show k ≠ i by omega]
      · by_cases e : k = i
        · subst e
          rw [hi]
          exact ⟨by omega, by omega, hc⟩
        · exact h3 k (by omega) (by omega)
    · simp at h
theorem knownV_mem {l : List S25} {s : Nat → Int} (h : s ∈ knownV l) : (∀ k, k < l.length → -1 ≤ s k ∧ s k < k ∧ canF l k (s k) = true) ∧ (∀ k, l.length ≤ k → s k = 0) ∧ liesB l s = true := by
  unfold knownV at h
  rw [List.mem_filter] at h
  obtain ⟨_, h2, h3⟩ := treesG_of_mem l l.length 0 _ s h.1
  exact ⟨fun k hk => h3 k (by omega) (by omega), fun k hk => h2 k (by omega), h.2⟩
def dependsV (l : List S25) (a b : Int) : Int × Int :=
  if checkV l ≠ 0 then (0, checkV l) else if min a b < 0 ∨ (l.length : Int) ≤ max a b then (0, 3) else if knownE l ≠ 0 then (0, knownE l) else (verdictI ((knownV l).countP fun s => dependB s a.toNat b.toNat) (knownV l).length, 0)
set_option maxHeartbeats 2000000 in
set_option maxRecDepth 100000 in
theorem depends_calls (A : Option Addr) (c : Nat) (l : List S25) (a b : Int) (w : World) (hr : Kd.C k25 w A l.length l) (hc : l.length ≤ c) :
    Calls Tryd.prog 11 #[.slice A l.length c, .int .i64 a, .int .i64 b] w fun e w' => e = .returned (.tuple #[.int .i64 (dependsV l a b).1, .int .i64 (dependsV l a b).2]) ∧ Below w.heap.size w w' := by
  obtain ⟨k, hk⟩ := (check_ev l).rounds
  have HR := Aside0.mk hr
  have HK := Aside0.mk hk
  clear hr hk
  obtain ⟨ba, hba⟩ : ∃ ba, ba = w.heap.size := ⟨_, rfl⟩
  by_cases h1 : checkV l = 0
  · have hv := valid_of_check h1
    have h5 := hv.five
    have H1 := Aside0.mk h1
    rw [h1] at HK
    clear h1 hv
    obtain ⟨dv, hdv⟩ : ∃ dv, dv = dependsV l a b := ⟨_, rfl⟩
    rw [← hdv]
    have HDV := Aside0.mk hdv
    clear hdv
    go_enter Tryd.func11, Tryd.ntmps11
    go_upto_region 4 with (first | (go_at_call 8; refine (stemma_Check.calls k A c l 0 _ (Kd.C_below HR.out (((Below.refl _ _).alloc (Nat.le_refl _) _).alloc (by simp) _)) hc HK.out).mono ?_; rintro e w2 ⟨rfl, hd2⟩; have HD := Aside0.mk hd2; clear hd2))
    rw [← hba]
    refine wp_gen (fun wx => Aside0 (Below w.heap.size w wx) ∧ Aside0 (wx.heap[ba]? = some (.cells #[.int .i64 a] 3 (0, 0)) ∧ wx.heap[ba + 1]? = some (.cells #[.int .i64 b] 3 (0, 0)))) ?_ ?_
    · refine ⟨⟨(((Below.refl w.heap.size w).alloc (Nat.le_refl _) _).alloc (by simp) _).trans (HD.out.mono (by simp; omega))⟩, ⟨blk_below (blk_alloc (by rw [hba]; exact blk_new w _) _) HD.out, blk_below ?_ HD.out⟩⟩
      rw [hba]
      have := blk_new (w.alloc (.cells #[.int .i64 a] 3)) (.cells #[.int .i64 b] 3)
      rwa [World.size_alloc] at this
    clear HD hba w2
    rintro W1 ⟨HB, HX⟩
    have c1 := (blk_cell HX.out.1 0).trans (show (#[Value.int .i64 a] : Array Value)[0]? = some _ from rfl)
    have c2 := (blk_cell HX.out.2 0).trans (show (#[Value.int .i64 b] : Array Value)[0]? = some _ from rfl)
    by_cases h3 : min a b < 0
    · have hV : dv = (0, 3) := by rw [HDV.out]; unfold dependsV; rw [if_neg (by simpa using H1.out), if_pos (.inl h3)]
      subst hV
      go_wp2_with fail
      all_goals exact bodyPost_ret (results_tmp2 rfl _ _ _) rfl ⟨rfl, HB.out⟩
    · by_cases h4 : (l.length : Int) ≤ max a b
      · have hV : dv = (0, 3) := by rw [HDV.out]; unfold dependsV; rw [if_neg (by simpa using H1.out), if_pos (.inr h4)]
        subst hV
        go_wp2_with fail
        all_goals exact bodyPost_ret (results_tmp2 rfl _ _ _) rfl ⟨rfl, HB.out⟩
      · obtain ⟨an, rfl⟩ : ∃ an : Nat, a = (an : Int) := ⟨a.toNat, by omega⟩
        obtain ⟨bn, rfl⟩ : ∃ bn : Nat, b = (bn : Int) := ⟨b.toNat, by omega⟩
        have ha : an < l.length := by omega
        have hb : bn < l.length := by omega
        have g1 : ¬ ((an : Int) < 0) := by omega
        have g2 : ¬ ((bn : Int) < 0) := by omega
        have g3 : ¬ ((l.length : Int) ≤ (an : Int)) := by omega
        have g4 : ¬ ((l.length : Int) ≤ (bn : Int)) := by omega
        have HHH := Aside0.mk (And.intro h3 h4)
        have m1 : min (an : Int) (bn : Int) = ((min an bn : Nat) : Int) := by omega
        have m2 : max (an : Int) (bn : Int) = ((max an bn : Nat) : Int) := by omega
        have m3 : max an bn < l.length := by omega
        clear h3 h4
        by_cases hk : knownE l = 0
        · have HKE := Aside0.mk hk
          have HKL := Aside0.mk (known_len l h5)
          have hV : dv = (verdictI ((knownV l).countP fun s => dependB s an bn) (knownV l).length, 0) := by
            rw [HDV.out]; unfold dependsV; rw [if_neg (by simpa using H1.out), if_neg (by have := HHH.out; omega), if_neg (by simpa using hk)]; rfl
          subst hV
          clear hk
          go_upto_region 9 with (first | (go_at_call 24; refine (known_ok A c l W1 (Kd.C_below HR.out HB.out) hc HKE.out).mono ?_; rintro e w2 ⟨gv, cv, rfl, hB, hown⟩; have HB2 := Aside0.mk hB; have HOWN := Aside0.mk hown; clear hB hown))
          all_goals
            have hvc := verdicts_calls 28 (enters_of Tryd.func28 (by kernel_rfl) rfl) A l.length c (knownV l) gv cv W1.heap.size w2.heap.size 1 w2.heap.size [#[.pointer (some ⟨ba, 0, none⟩), .pointer (some ⟨ba + 1, 0, none⟩)]] [fun s => dependB s an bn]
              (w2.alloc (.cells #[.func (.func 28) #[] #[.pointer (some ⟨ba, 0, none⟩), .pointer (some ⟨ba + 1, 0, none⟩)]] 64)) (own_move HOWN.out (fun k hk => by
                obtain ⟨_, h2⟩ := own_typed HOWN.out k hk
                exact Below.heap_alloc _ _ _ (blk_lt h2)))
              ⟨rfl, .inr ⟨w2.heap.size, 1, #[.func (.func 28) #[] #[.pointer (some ⟨ba, 0, none⟩), .pointer (some ⟨ba + 1, 0, none⟩)]], rfl, Nat.le_refl _, blk_new w2 _, Nat.le_refl _, by decide, rfl, rfl⟩⟩ rfl (by
                intro j lb p hlb hp s hs W' hW'
                cases j with
                | succ j => simp at hlb
                | zero =>
                  simp at hlb hp
                  subst hlb
                  subst hp
                  have hm := knownV_mem hs
                  have h64 := ask64_calls A l.length c s ba (ba + 1) an bn W' (by omega) (fun i hi => by
                    by_cases e : i < l.length
                    · exact ⟨(hm.1 i e).1, .inl (hm.1 i e).2.1⟩
                    · rw [hm.2.1 i (by omega)]; exact ⟨by decide, .inr rfl⟩) (hm.1 an ha).2.1
                    (blk_below (blk_alloc (blk_below HX.out.1 HB2.out) _) hW') (blk_below (blk_alloc (blk_below HX.out.2 HB2.out) _) hW')
                  simpa using h64) HKL.out (by simp)
            have HVC := Aside0.mk hvc
            clear hvc
            go_wp2_with (first
              | (go_at_call 26; refine HVC.out.mono ?_; rintro e w7 ⟨v7, rfl, hR7, hB7⟩; obtain ⟨A7, c7, rfl⟩ := Kd.R_slice hR7; obtain ⟨ad, cc, rfl, _, hK7, hc7⟩ := Kd.C_get (Kd.R_reads' hR7).2.2 0 0 (by decide) (by simp); have HB7 := Aside0.mk hB7; have hcell : w7.cell? ad = some (.int .i64 (verdictI ((knownV l).countP fun s => dependB s an bn) (knownV l).length)) := (by have h9 := hc7 0 (.int .i64 (verdictI ((knownV l).countP fun s => dependB s an bn) (knownV l).length)) (by rw [show cc = [_] from hK7]; rfl); simpa only [Int.toNat_zero, Nat.zero_mul, Nat.add_zero, Addr.add_zero'] using h9); clear hR7 hB7 hc7 hK7))
            all_goals exact bodyPost_ret (results_tmp2 rfl _ _ _) rfl ⟨rfl, HB.out.trans ((HB2.out.trans (((Below.refl _ _).alloc (Nat.le_refl _) _).mono HB2.out.size |>.trans (HB7.out.mono (by have := HB2.out.size; simp; omega)))).mono HB.out.size)⟩
        · have HKE := Aside0.mk hk
          obtain ⟨e0, he0⟩ : ∃ e0, e0 = knownE l := ⟨_, rfl⟩
          have hV : dv = (0, e0) := by
            rw [HDV.out, he0]; unfold dependsV; rw [if_neg (by simpa using H1.out), if_neg (by have := HHH.out; omega), if_pos hk]
          have b1 : (e0 != 0) = true := bne_iff_ne.2 (by rw [he0]; exact hk)
          have HE := Aside0.mk he0
          subst hV
          clear hk he0
          go_wp2_with (first | (go_at_call 24; refine (known_err A c l W1 (Kd.C_below HR.out HB.out) hc HKE.out).mono ?_; rintro e w2 ⟨rfl, hB⟩; rw [← HE.out]; have HB2 := Aside0.mk hB; clear hB))
          all_goals exact bodyPost_ret (results_tmp2 rfl _ _ _) rfl ⟨rfl, HB.out.trans (HB2.out.mono HB.out.size)⟩
  · have hV : dependsV l a b = (0, checkV l) := by unfold dependsV; rw [if_pos h1]
    obtain ⟨e0, he0⟩ : ∃ e0, e0 = checkV l := ⟨_, rfl⟩
    rw [hV, ← he0]
    have HE := Aside0.mk he0
    have b1 : (e0 != 0) = true := bne_iff_ne.2 (by rw [he0]; exact h1)
    clear h1 hV he0
    go_enter Tryd.func11, Tryd.ntmps11
    go_wp2_with (first | (go_at_call 8; refine (stemma_Check.calls k A c l (checkV l) _ (Kd.C_below HR.out (((Below.refl _ _).alloc (Nat.le_refl _) _).alloc (by simp) _)) hc HK.out).mono ?_; rintro e w2 ⟨rfl, hd2⟩; rw [← HE.out]; have HD := Aside0.mk ((((Below.refl w.heap.size w).alloc (Nat.le_refl _) _).alloc (by simp) _).trans (hd2.mono (by simp; omega))); clear hd2))
    exact bodyPost_ret (results_tmp2 rfl _ _ _) rfl ⟨rfl, HD.out⟩
end Go.Proofs.YtecdjnabmjhakaaDoor.P.OwnSt
namespace Go.Proofs.YtecdjnabmjhakaaDoor.P.OwnSt
open Go.RowKit Go.Shelf Go.Proofs.YtecdjnabmjhakaaDoorW.PrintWords Go.Proofs.YtecdjnabmjhakaaDoorW.PrintLast Go.Proofs.YtecdjnabmjhakaaDoorW.PrintMore
set_option linter.unusedVariables false
set_option linter.unusedSimpArgs false
def apTo (l : List S25) (s : Nat → Int) : Nat → Int
  | 0 => 0
  | k + 1 => apTo l s k + if s k = -1 then 0 else apN (rd_T25 l (s k)).f0 (rd_T25 l (k : Int)).f0 (rd_T25 l (s k)).f0.size
def numF (l : List S25) (s : Nat → Int) : Int := leastV l s (-1) 0 + apTo l s l.length
theorem apTo_bound (l : List S25) (s : Nat → Int) (hv : Valid l) (hs : ∀ k, k < l.length → -1 ≤ s k ∧ s k < k) : ∀ k, k ≤ l.length → 0 ≤ apTo l s k ∧ apTo l s k ≤ 8 * k := by
  intro k
  induction k with
  | zero => intro _; simp [apTo]
  | succ k ih =>
    intro hk
    have h1 := ih (by omega)
    unfold apTo
    split
    · omega
    · have h2 := apN_bound (rd_T25 l (s k)).f0 (rd_T25 l (k : Int)).f0 (rd_T25 l (s k)).f0.size
      have h3 := hs k (by omega)
      obtain ⟨sn, hsn⟩ : ∃ sn : Nat, s k = (sn : Int) := ⟨(s k).toNat, by omega⟩
      rw [hsn] at h2 ⊢
      have h4 := hv.size sn (by omega)
      have := hv.high
      omega
set_option maxHeartbeats 2000000 in
set_option maxRecDepth 100000 in
theorem ask57_calls (A : Option Addr) (c : Nat) (l : List S25) (s : Nat → Int) (bl : Nat) (w : World) (hr : Kd.C k25 w A l.length l) (hc : l.length ≤ c) (hv : Valid l) (hs : ∀ k, k < l.length → -1 ≤ s k ∧ s k < k) (hbl : w.heap[bl]? = some (.cells #[.slice A l.length c] 22 (0, 0))) :
    Calls Tryd.prog 35 #[lostV A l.length c s, .pointer (some ⟨bl, 0, none⟩)] w fun e w' => e = .returned (.int .i64 (numF l s)) ∧ Below w.heap.size w w' := by
  have HR := Aside0.mk hr
  have HV := Aside0.mk hv
  have HS := Aside0.mk hs
  have h1 := hv.one
  have h5 := hv.five
  have HX0 := Aside0.mk (show LostAt (w.alloc (.cells #[.slice A l.length c, .int .i64 (s 0), .int .i64 (s 1), .int .i64 (s 2), .int .i64 (s 3), .int .i64 (s 4)] 63)) w.heap.size A l.length c s from blk_new w _)
  have HL0 := Aside0.mk (blk_alloc hbl (.cells #[.slice A l.length c, .int .i64 (s 0), .int .i64 (s 1), .int .i64 (s 2), .int .i64 (s 3), .int .i64 (s 4)] 63))
  have HB0 := Aside0.mk ((Below.refl w.heap.size w).alloc (Nat.le_refl _) (.cells #[.slice A l.length c, .int .i64 (s 0), .int .i64 (s 1), .int .i64 (s 2), .int .i64 (s 3), .int .i64 (s 4)] 63))
  clear hr hv hs hbl
  have hmix : Tryd.prog.follows Departure.mixedOrders = true := by kernel_rfl
  unfold lostV
  go_enter Tryd.func35, Tryd.ntmps35
  go_upto_region 1 with fail
  obtain ⟨bx, hbx⟩ : ∃ bx, bx = w.heap.size := ⟨_, rfl⟩
  rw [← hbx] at HX0 ⊢
  refine wp_gen (fun wx => Aside0 (LostAt wx bx A l.length c s) ∧ Aside0 (wx.heap[bl]? = some (.cells #[.slice A l.length c] 22 (0, 0))) ∧ Aside0 (Below w.heap.size w wx)) ⟨HX0, HL0, HB0⟩ ?_
  clear hbx HX0 HL0 HB0
  rintro W1 ⟨HX, HL, HB⟩
  obtain ⟨x0, x1, x2, x3, x4, x5⟩ := HX.out.cells
  have hxl := blk_lt HX.out
  obtain ⟨nl, hnl⟩ : ∃ nl, nl = leastV l s (-1) 0 := ⟨_, rfl⟩
  have HNL := Aside0.mk hnl
  clear hnl
  go_upto_region 2 with (first | (go_at_call 31; refine (least_calls A c l s (-1) 0 _ (Kd.C_below HR.out HB.out) hc h1 h5 HV.out.size HV.out.high (fun i hi => ⟨(HV.out.err i hi).1, by have := (HV.out.err i hi).2; omega⟩)).mono ?_; rintro e w5 ⟨rfl, hB5⟩; rw [← HNL.out]; have HB5 := Aside0.mk hB5; clear hB5))
  refine wp_gen (fun wx => Aside0 (LostAt wx bx A l.length c s) ∧ Aside0 (wx.heap[bl]? = some (.cells #[.slice A l.length c] 22 (0, 0))) ∧ Aside0 (Below w.heap.size w wx)) ⟨⟨HX.out.below HB5.out⟩, ⟨blk_below HL.out HB5.out⟩, ⟨HB.out.trans (HB5.out.mono HB.out.size)⟩⟩ ?_
  clear HX HL HB HB5 w5 W1 x0 x1 x2 x3 x4 x5 hxl
  rintro W1 ⟨HX, HL, HB⟩
  obtain ⟨x0, x1, x2, x3, x4, x5⟩ := HX.out.cells
  have hxl := blk_lt HX.out
  have hl0 := (blk_cell HL.out 0).trans (show (#[Value.slice A l.length c] : Array Value)[0]? = some _ from rfl)
  have hsl : (Instr.sliceAt 61 (.pointer (some ⟨bx, 1, none⟩)) none (some (.int .i64 (l.length : Int))) none).run Tryd.prog W1 = .ok (.slice (some ⟨bx, 1, none⟩) l.length 5) W1 := by
    have h82 : Tryd.prog.underlying 61 = some (.array 5 3) := by kernel_rfl
    have hal : Tryd.prog.arrayLen 61 = 5 := by simp [Program.arrayLen, h82]
    have hel : Tryd.prog.elem 61 = 3 := by simp [Program.elem, h82]
    rw [run_sliceAt_array_h W1 61 ⟨bx, 1, none⟩ (by rw [hal, hel]; exact h82) .i64 (l.length : Int) (by omega) (by rw [hal]; omega), hal, hel]
    go_simp
  go_wp2_with fail
  have hnb := leastV_bound l s (-1) 0
  rw [← HNL.out] at hnb
  have HNB := Aside0.mk hnb
  clear hnb hsl x0 x1 x2 x3 x4 x5 hxl hl0
  go_loopg [4, 14] l.length (fun k s4 s14 wr => ∃ i : Nat, i + k = l.length ∧ s14 = .int .i64 (i : Int) ∧ s4 = .int .i64 (nl + apTo l s i) ∧ Aside0 (LostAt wr bx A l.length c s) ∧ Aside0 (wr.heap[bl]? = some (.cells #[.slice A l.length c] 22 (0, 0))) ∧ Aside0 (Below w.heap.size w wr))
  case atStart => exact ⟨0, by omega, rfl, by simp [apTo], HX, HL, HB⟩
  case round =>
    clear HX HL HB
    obtain ⟨i, hik, rfl, rfl, HX, HL, HB⟩ := hrel
    have HIK := Aside0.mk hik
    clear hik
    have hab := apTo_bound l s HV.out HS.out i (by have := HIK.out; omega)
    obtain ⟨acc, hacc⟩ : ∃ acc, acc = nl + apTo l s i := ⟨_, rfl⟩
    rw [← hacc]
    have ha0 : 0 ≤ acc := by have := HNB.out; omega
    have ha1 : acc ≤ 2000000 := by have := HNB.out; have := HIK.out; omega
    have HAC := Aside0.mk hacc
    clear hab hacc
    by_cases hi : i < l.length
    · have hx := HX.out.src i (by omega)
      have hxl := blk_lt HX.out
      have hl0 := (blk_cell HL.out 0).trans (show (#[Value.slice A l.length c] : Array Value)[0]? = some _ from rfl)
      by_cases hsi : s i = -1
      · have HSI := Aside0.mk hsi
        have b1 : (s i != -1) = false := by rw [hsi]; rfl
        clear hsi
        go_wp2_with fail
        go_roundg (gk - 1)
        case measure => have := HIK.out; omega
        case rel =>
          refine ⟨i + 1, by have := HIK.out; omega, by go_num, ?_, HX, HL, HB⟩
          rw [apTo, if_pos HSI.out, Int.add_zero, HAC.out]
      · have HSI := Aside0.mk hsi
        have b1 : (s i != -1) = true := bne_iff_ne.2 hsi
        have hsb := HS.out i hi
        obtain ⟨sn, hsn⟩ : ∃ sn : Nat, s i = (sn : Int) := ⟨(s i).toNat, by omega⟩
        have HSN := Aside0.mk hsn
        rw [hsn] at hx b1 hsb
        have hsn5 : sn < l.length := by omega
        obtain ⟨ad, hA, y0, _⟩ := at_T25 (Kd.C_below HR.out HB.out) (sn : Int) (by omega) (by omega)
        subst hA
        obtain ⟨ad', hA', z0, _⟩ := at_T25 (Kd.C_below HR.out HB.out) (i : Int) (by omega) (by omega)
        injection hA' with hA'
        subst hA'
        have hap := apart_f (rd_T25 l (sn : Int)).f0 (rd_T25 l (i : Int)).f0 (by rw [HV.out.size sn hsn5, HV.out.size i hi]; exact Nat.le_refl _) (by rw [HV.out.size sn hsn5]; have := HV.out.high; omega)
        have hapb := apN_bound (rd_T25 l (sn : Int)).f0 (rd_T25 l (i : Int)).f0 (rd_T25 l (sn : Int)).f0.size
        have hsz := HV.out.size sn hsn5
        have h8 := HV.out.high
        obtain ⟨ap, hapE⟩ : ∃ ap, ap = apN (rd_T25 l (sn : Int)).f0 (rd_T25 l (i : Int)).f0 (rd_T25 l (sn : Int)).f0.size := ⟨_, rfl⟩
        rw [← hapE] at hap hapb
        have hap0 : 0 ≤ ap := hapb.1
        have hap8 : ap ≤ 8 := by omega
        have HAP := Aside0.mk hap
        have HAE := Aside0.mk hapE
        clear hap hapb hapE hsz h8 hsn hsi hsb
        simp only [Int.toNat_natCast] at y0 z0
        have hadl := World.block_lt_of_cell? wr _ y0
        have hi1 : (sn : Int) < (l.length : Int) := by omega
        have hi2 : (i : Int) < (l.length : Int) := by omega
        go_upto_region 6 with fail
        go_quiet (first | (go_at_call 36; exact Calls.quiet_of ((stemma_apart.calls _ _ _ ap _ HAP.out).mono (fun e w' h => ⟨h.1, h.2.out⟩))))
        go_wp2_with fail
        go_roundg (gk - 1)
        case measure => have := HIK.out; omega
        case rel =>
          refine ⟨i + 1, by have := HIK.out; omega, by go_num, ?_, ⟨HX.out.below (pw_below_drewN (Below.refl _ _) nq)⟩, ⟨blk_below HL.out (pw_below_drewN (Below.refl _ _) nq)⟩, ⟨HB.out.trans ((pw_below_drewN (Below.refl _ _) nq).mono HB.out.size)⟩⟩
          rw [apTo, if_neg HSI.out, HSN.out, ← HAE.out, ← Int.add_assoc, ← HAC.out]
    · have hii : i = l.length := by have := HIK.out; omega
      have HII := Aside0.mk hii
      clear hii
      go_wp2_with fail
      refine bodyPost_ret (results_tmp rfl _ _ _) rfl ⟨?_, HB.out⟩
      unfold numF
      rw [← HNL.out, ← HII.out, ← HAC.out]
      rfl
theorem ask57_calls' (A : Option Addr) (c : Nat) (l : List S25) (s : Nat → Int) (bl : Nat) (w : World) (hr : Kd.C k25 w A l.length l) (hc : l.length ≤ c) (hv : Valid l) (hs : ∀ k, k < l.length → -1 ≤ s k ∧ s k < k) (hbl : w.heap[bl]? = some (.cells #[.slice A l.length c] 22 (0, 0))) :
    Calls Tryd.prog 35 #[.agg #[.slice A l.length c, .int .i64 (s 0), .int .i64 (s 1), .int .i64 (s 2), .int .i64 (s 3), .int .i64 (s 4)], .pointer (some ⟨bl, 0, none⟩)] w fun e w' => e = .returned (.int .i64 (numF l s)) ∧ Below w.heap.size w w' := ask57_calls A c l s bl w hr hc hv hs hbl
theorem isNaN_calls (x : Int) (w : World) : Calls Tryd.prog 62 #[.int .i64 x] w fun e w' => e = .returned (.bool false) ∧ w' = w := by
  go_enter Tryd.func62, Tryd.ntmps62
  go_wp2_with fail
  exact bodyPost_ret (results_tmp rfl _ _ _) rfl ⟨rfl, rfl⟩
def cmpI (x y : Int) : Int := if x < y then -1 else if y < x then 1 else 0
theorem compare_calls (x y : Int) (w : World) : Calls Tryd.prog 57 #[.int .i64 x, .int .i64 y] w fun e w' => e = .returned (.int .i64 (cmpI x y)) ∧ w' = w := by
  by_cases h1 : x < y
  · have h : cmpI x y = -1 := by unfold cmpI; rw [if_pos h1]
    rw [h]
    go_enter Tryd.func57, Tryd.ntmps57
    go_wp2_with (first | (go_at_call 62; refine (isNaN_calls _ _).mono ?_; rintro e w2 ⟨rfl, rfl⟩))
    exact bodyPost_ret (results_tmp rfl _ _ _) rfl ⟨rfl, rfl⟩
  · by_cases h2 : y < x
    · have h : cmpI x y = 1 := by unfold cmpI; rw [if_neg h1, if_pos h2]
      rw [h]
      have b1 : decide (x < y) = false := decide_eq_false h1
      have b2 : decide (y < x) = true := decide_eq_true h2
      clear h
      go_enter Tryd.func57, Tryd.ntmps57
      go_wp2_with (first | (go_at_call 62; refine (isNaN_calls _ _).mono ?_; rintro e w2 ⟨rfl, rfl⟩))
      exact bodyPost_ret (results_tmp rfl _ _ _) rfl ⟨rfl, rfl⟩
    · have h : cmpI x y = 0 := by unfold cmpI; rw [if_neg h1, if_neg h2]
      rw [h]
      have b1 : decide (x < y) = false := decide_eq_false h1
      have b2 : decide (y < x) = false := decide_eq_false h2
      clear h
      go_enter Tryd.func57, Tryd.ntmps57
      go_wp2_with (first | (go_at_call 62; refine (isNaN_calls _ _).mono ?_; rintro e w2 ⟨rfl, rfl⟩))
      exact bodyPost_ret (results_tmp rfl _ _ _) rfl ⟨rfl, rfl⟩
structure TrAt (A : Option Addr) (c : Nat) (l : List S25) (bl : Nat) (W : World) : Prop where
  list : Kd.C k25 W A l.length l
  box : W.heap[bl]? = some (.cells #[.slice A l.length c] 22 (0, 0))
theorem TrAt.below {A : Option Addr} {c : Nat} {l : List S25} {bl : Nat} {W W' : World} (h : TrAt A c l bl W) (hb : Below W.heap.size W W') : TrAt A c l bl W' := ⟨Kd.C_below h.list hb, blk_below h.box hb⟩
def numV (bl : Nat) : Value := .func (.func 35) #[] #[.pointer (some ⟨bl, 0, none⟩)]
def SrcOk (l : List S25) (s : Nat → Int) : Prop := ∀ k, k < l.length → -1 ≤ s k ∧ s k < k
set_option maxHeartbeats 2000000 in
set_option maxRecDepth 100000 in
theorem ask70_calls (A : Option Addr) (c : Nat) (l : List S25) (s t : Nat → Int) (bl bn : Nat) (w : World) (hr : TrAt A c l bl w) (hc : l.length ≤ c) (hv : Valid l) (hs : SrcOk l s) (ht : SrcOk l t) (hbn : w.heap[bn]? = some (.cells #[numV bl] 78 (0, 0))) :
    Calls Tryd.prog 56 #[lostV A l.length c s, lostV A l.length c t, .pointer (some ⟨bn, 0, none⟩)] w fun e w' => e = .returned (.int .i64 (cmpI (numF l s) (numF l t))) ∧ Below w.heap.size w w' := by
  have HR := Aside0.mk hr
  have HV := Aside0.mk hv
  have HS := Aside0.mk hs
  have HT := Aside0.mk ht
  have HN := Aside0.mk hbn
  clear hr hv hs ht hbn
  have hmix : Tryd.prog.follows Departure.mixedOrders = true := by kernel_rfl
  obtain ⟨ns, hns⟩ : ∃ ns, ns = numF l s := ⟨_, rfl⟩
  obtain ⟨nt, hnt⟩ : ∃ nt, nt = numF l t := ⟨_, rfl⟩
  rw [← hns, ← hnt]
  have HNS := Aside0.mk hns
  have HNT := Aside0.mk hnt
  clear hns hnt
  unfold lostV
  go_enter Tryd.func56, Tryd.ntmps56
  go_upto_region 1 with fail
  obtain ⟨ba, hba⟩ : ∃ ba, ba = w.heap.size := ⟨_, rfl⟩
  rw [← hba]
  refine wp_gen (fun wx => Aside0 (LostAt wx ba A l.length c s) ∧ Aside0 (LostAt wx (ba + 1) A l.length c t) ∧ Aside0 (TrAt A c l bl wx) ∧ Aside0 (wx.heap[bn]? = some (.cells #[numV bl] 78 (0, 0))) ∧ Aside0 (Below w.heap.size w wx)) ?_ ?_
  · subst hba
    refine ⟨⟨blk_alloc (blk_new w _) _⟩, ⟨?_⟩, ⟨HR.out.below (((Below.refl _ _).alloc (Nat.le_refl _) _).alloc (by simp) _)⟩, ⟨blk_alloc (blk_alloc HN.out _) _⟩, ⟨((Below.refl _ _).alloc (Nat.le_refl _) _).alloc (by simp) _⟩⟩
    have := blk_new (w.alloc (.cells #[.slice A l.length c, .int .i64 (s 0), .int .i64 (s 1), .int .i64 (s 2), .int .i64 (s 3), .int .i64 (s 4)] 63)) (.cells #[.slice A l.length c, .int .i64 (t 0), .int .i64 (t 1), .int .i64 (t 2), .int .i64 (t 3), .int .i64 (t 4)] 63)
    rwa [World.size_alloc] at this
  clear hba HR HN
  rintro W1 ⟨HX, HY, HR, HN, HB⟩
  obtain ⟨x0, x1, x2, x3, x4, x5⟩ := HX.out.cells
  obtain ⟨y0, y1, y2, y3, y4, y5⟩ := HY.out.cells
  have hxl := blk_lt HX.out
  have hyl := blk_lt HY.out
  have hnl := blk_lt HN.out
  have hn0 := (blk_cell HN.out 0).trans (show (#[numV bl] : Array Value)[0]? = some (.func (.func 35) #[] #[.pointer (some ⟨bl, 0, none⟩)]) from rfl)
  have HRd := HR.out.below (below_drew (Below.refl _ _))
  have HC57 := Aside0.mk (ask57_calls' A c l s bl W1.drew HRd.list hc HV.out HS.out HRd.box)
  clear HRd
  go_region_held3 (fun w' => (w'.cell? ⟨bn, 0, none⟩ = some (.func (.func 35) #[] #[.pointer (some ⟨bl, 0, none⟩)]) ∧ (w'.cell? ⟨ba, 0, none⟩ = some (.slice A l.length c) ∧ w'.cell? ⟨ba, 1, none⟩ = some (.int .i64 (s 0)) ∧ w'.cell? ⟨ba, 2, none⟩ = some (.int .i64 (s 1)) ∧ w'.cell? ⟨ba, 3, none⟩ = some (.int .i64 (s 2)) ∧ w'.cell? ⟨ba, 4, none⟩ = some (.int .i64 (s 3)) ∧ w'.cell? ⟨ba, 5, none⟩ = some (.int .i64 (s 4))) ∧ (w'.cell? ⟨ba + 1, 0, none⟩ = some (.slice A l.length c) ∧ w'.cell? ⟨ba + 1, 1, none⟩ = some (.int .i64 (t 0)) ∧ w'.cell? ⟨ba + 1, 2, none⟩ = some (.int .i64 (t 1)) ∧ w'.cell? ⟨ba + 1, 3, none⟩ = some (.int .i64 (t 2)) ∧ w'.cell? ⟨ba + 1, 4, none⟩ = some (.int .i64 (t 3)) ∧ w'.cell? ⟨ba + 1, 5, none⟩ = some (.int .i64 (t 4)))))
    (first | exact ⟨hn0, ⟨x0, x1, x2, x3, x4, x5⟩, ⟨y0, y1, y2, y3, y4, y5⟩⟩ | exact ⟨hn3, HX3.out.cells, HY3.out.cells⟩ | exact ⟨hn4, HX4.out.cells, HY4.out.cells⟩)
    (first
      | (go_at_call 35; (with_reducible refine HC57.out.mono ?_); rintro e w3 ⟨rfl, hB3⟩; rw [← HNS.out]; have HB3 := Aside0.mk ((below_drew (Below.refl W1.heap.size W1)).trans hB3); have HX3 := Aside0.mk (HX.out.below HB3.out); have HY3 := Aside0.mk (HY.out.below HB3.out); have HR3 := Aside0.mk (HR.out.below HB3.out); have hn3 := (HB3.out.cell (p := ⟨bn, 0, none⟩) hnl).trans hn0; clear hB3)
      | (go_at_call 35; have hct := ask57_calls' A c l t bl w3 HR3.out.list hc HV.out HT.out HR3.out.box; (with_reducible refine hct.mono ?_); clear hct; rintro e w4 ⟨rfl, hB4⟩; rw [← HNT.out]; have HB4 := Aside0.mk hB4; have HX4 := Aside0.mk (HX3.out.below hB4); have HY4 := Aside0.mk (HY3.out.below hB4); have hn4 := (hB4.cell (p := ⟨bn, 0, none⟩) (Nat.lt_of_lt_of_le hnl HB3.out.size)).trans hn3; clear hB4)
      | (go_at_call 57; refine (compare_calls ns nt _).mono ?_; rintro e w5 ⟨rfl, rfl⟩))
  go_wp2_with fail
  exact bodyPost_ret (results_tmp rfl _ _ _) rfl ⟨rfl, HB.out.trans ((HB3.out.trans (HB4.out.mono HB3.out.size)).mono HB.out.size)⟩
end Go.Proofs.YtecdjnabmjhakaaDoor.P.OwnSt
namespace Go.Proofs.YtecdjnabmjhakaaDoor.P.OwnSt
open Go.RowKit Go.Shelf Go.Proofs.YtecdjnabmjhakaaDoorW.PrintWords Go.Proofs.YtecdjnabmjhakaaDoorW.PrintLast Go.Proofs.YtecdjnabmjhakaaDoorW.PrintMore
set_option linter.unusedVariables false
set_option linter.unusedSimpArgs false
def minF (l : List S25) : List (Nat → Int) → (Nat → Int) → (Nat → Int)
  | [], m => m
  | s :: r, m => minF l r (if numF l s < numF l m then s else m)
theorem minF_snoc (l : List S25) (s : Nat → Int) : ∀ (r : List (Nat → Int)) (m : Nat → Int), minF l (r ++ [s]) m = if numF l s < numF l (minF l r m) then s else minF l r m := by
  intro r
  induction r with
  | nil => intro m; rfl
  | cons x r ih => intro m; exact ih _
def minTo (l : List S25) (ss : List (Nat → Int)) (m : Nat → Int) (k : Nat) : Nat → Int := minF l ((ss.take k).drop 1) m
theorem minTo_one (l : List S25) (ss : List (Nat → Int)) (m : Nat → Int) : minTo l ss m 1 = m := by
  unfold minTo
  rw [show (ss.take 1).drop 1 = [] from List.eq_nil_of_length_eq_zero (by simp <;> omega)]
  rfl
theorem minTo_succ (l : List S25) (ss : List (Nat → Int)) (m : Nat → Int) (k : Nat) (h1 : 1 ≤ k) (s : Nat → Int) (hs : ss[k]? = some s) : minTo l ss m (k + 1) = if numF l s < numF l (minTo l ss m k) then s else minTo l ss m k := by
  unfold minTo
  have hk : k < ss.length := (List.getElem?_eq_some_iff.1 hs).1
  rw [List.take_add_one, hs, Option.toList_some, List.drop_append_of_le_length (by simp; omega), minF_snoc]
theorem minF_mem (l : List S25) : ∀ (r : List (Nat → Int)) (m : Nat → Int), minF l r m = m ∨ minF l r m ∈ r := by
  intro r
  induction r with
  | nil => intro m; exact .inl rfl
  | cons x r ih =>
    intro m
    unfold minF
    rcases ih (if numF l x < numF l m then x else m) with h | h
    · rw [h]
      split
      · exact .inr List.mem_cons_self
      · exact .inl rfl
    · exact .inr (List.mem_cons_of_mem _ h)
theorem minTo_mem (l : List S25) (ss : List (Nat → Int)) (m : Nat → Int) (k : Nat) (hm : ss[0]? = some m) : minTo l ss m k ∈ ss := by
  unfold minTo
  rcases minF_mem l ((ss.take k).drop 1) m with h | h
  · rw [h]; exact List.mem_of_getElem? hm
  · exact List.mem_of_mem_take (List.mem_of_mem_drop h)
def Z84 (W : World) (b : Nat) : Prop := W.heap[b]? = some (.cells #[.slice none 0 0, .int .i64 0, .int .i64 0, .int .i64 0, .int .i64 0, .int .i64 0] 63 (0, 0))
set_option maxHeartbeats 2000000 in
set_option maxRecDepth 100000 in
theorem minFunc_calls (A : Option Addr) (c : Nat) (l : List S25) (ss : List (Nat → Int)) (m : Nat → Int) (gv cv bl bn bb : Nat) (w : World) (hr : TrAt A c l bl w) (hc : l.length ≤ c) (hv : Valid l) (hss : ∀ s ∈ ss, SrcOk l s) (hm : ss[0]? = some m) (hlen : ss.length < 10000)
    (hown : w.ownsRow bb 63 6 (.slice (some ⟨gv, 0, none⟩) ss.length cv) ss.length (lostRow A l.length c ss)) (hbn : w.heap[bn]? = some (.cells #[numV bl] 78 (0, 0))) :
    Calls Tryd.prog 55 #[.slice (some ⟨gv, 0, none⟩) ss.length cv, .func (.func 56) #[] #[.pointer (some ⟨bn, 0, none⟩)]] w fun e w' => e = .returned (lostV A l.length c (minTo l ss m ss.length)) ∧ Below w.heap.size w w' := by
  have HR := Aside0.mk hr
  have HV := Aside0.mk hv
  have HSS := Aside0.mk hss
  have HM := Aside0.mk hm
  have HOWN := Aside0.mk hown
  have HN := Aside0.mk hbn
  have hl1 : 1 ≤ ss.length := by
    have := (List.getElem?_eq_some_iff.1 hm).1
    omega
  obtain ⟨mn, hmn⟩ : ∃ mn, mn = minTo l ss m ss.length := ⟨_, rfl⟩
  rw [← hmn]
  have HMN := Aside0.mk hmn
  have hmix : Tryd.prog.follows Departure.mixedOrders = true := by kernel_rfl
  clear hr hv hss hm hown hbn hmn
  go_enter Tryd.func55, Tryd.ntmps55
  go_upto_region 1 with fail
  obtain ⟨b4, hb4⟩ : ∃ b4, b4 = w.heap.size := ⟨_, rfl⟩
  rw [← hb4]
  refine wp_gen (fun wx => Aside0 (Z84 wx b4) ∧ Aside0 (Below w.heap.size w wx) ∧ Aside0 (w.heap.size ≤ b4)) ?_ ?_
  · subst hb4
    exact ⟨⟨blk_new w _⟩, ⟨(Below.refl _ _).alloc (Nat.le_refl _) _⟩, ⟨Nat.le_refl _⟩⟩
  clear hb4
  rintro W1 ⟨HZ, HB, H4⟩
  obtain ⟨⟨y0, y1, y2, y3, y4, y5⟩, ygl⟩ := lost_cells HOWN.out HB.out 0 m HM.out
  simp only [Nat.zero_mul, Nat.zero_add] at y0 y1 y2 y3 y4 y5
  go_upto_region 4 with fail
  obtain ⟨b5, hb5⟩ : ∃ b5, b5 = W1.heap.size := ⟨_, rfl⟩
  rw [← hb5]
  refine wp_gen (fun wx => Aside0 (Z84 wx b4) ∧ Aside0 (LostAt wx b5 A l.length c (minTo l ss m 1)) ∧ Aside0 (Below w.heap.size w wx) ∧ Aside0 (b4 < b5)) ?_ ?_
  · rw [minTo_one]
    refine ⟨⟨blk_alloc HZ.out _⟩, ⟨?_⟩, ⟨HB.out.alloc HB.out.size _⟩, ⟨by rw [hb5]; exact blk_lt HZ.out⟩⟩
    rw [hb5]
    exact blk_new W1 _
  clear hb5 HZ HB y0 y1 y2 y3 y4 y5 ygl W1
  rintro W1 ⟨HZ, HX, HB, H45⟩
  go_wp2_with fail
  go_loopg [6] ss.length (fun k s6 wr => ∃ i : Nat, i + k = ss.length + 1 ∧ (1 ≤ i ∧ i ≤ ss.length) ∧ s6 = .int .i64 (i : Int) ∧ Aside0 (Z84 wr b4) ∧ Aside0 (LostAt wr b5 A l.length c (minTo l ss m i)) ∧ Aside0 (Below w.heap.size w wr))
  case atStart => exact ⟨1, by omega, ⟨by omega, by omega⟩, rfl, HZ, HX, HB⟩
  case round =>
    clear HZ HX HB
    obtain ⟨i, hik, ⟨hi1, hi2⟩, rfl, HZ, HX, HB⟩ := hrel
    have HIK := Aside0.mk hik
    clear hik
    by_cases hi : i < ss.length
    · obtain ⟨s, hs⟩ : ∃ s, ss[i]? = some s := ⟨_, List.getElem?_eq_getElem hi⟩
      obtain ⟨⟨y0, y1, y2, y3, y4, y5⟩, ygl⟩ := lost_cells HOWN.out HB.out i s hs
      have HS := Aside0.mk hs
      obtain ⟨mm, hmm⟩ : ∃ mm, mm = minTo l ss m i := ⟨_, rfl⟩
      rw [← hmm] at HX
      have HMM := Aside0.mk hmm
      obtain ⟨x0, x1, x2, x3, x4, x5⟩ := HX.out.cells
      have hxl := blk_lt HX.out
      obtain ⟨cp, hcp⟩ : ∃ cp, cp = cmpI (numF l s) (numF l mm) := ⟨_, rfl⟩
      have HCP := Aside0.mk hcp
      clear hs hmm hcp
      go_upto_region 7 with fail
      have HRd := Aside0.mk ((HR.out.below HB.out))
      go_cut [27] from 20 to 31 (fun s27 wy => s27 = .bool (decide (cp < 0)) ∧ Aside0 (Z84 wy b4 ∧ LostAt wy b5 A l.length c mm ∧ Below w.heap.size w wy))
      case first =>
        go_region_with (first
          | (go_at_call 56; refine (ask70_calls A c l s mm bl bn wr.drew (HRd.out.below (below_drew (Below.refl _ _))) hc HV.out (HSS.out s (List.mem_of_getElem? HS.out)) (by rw [HMM.out]; exact HSS.out _ (minTo_mem l ss m i HM.out)) (blk_below HN.out (below_drew HB.out))).mono ?_; rintro e w7 ⟨rfl, hB7⟩; rw [← HCP.out]; have HB7 := Aside0.mk ((below_drew (Below.refl wr.heap.size wr)).trans hB7); have HX7 := Aside0.mk (HX.out.below HB7.out); have HZ7 := Aside0.mk (show Z84 w7 b4 from blk_below HZ.out HB7.out); clear hB7))
        all_goals go_wp2_with fail
        all_goals
          refine Met.intro ?_
          go_step
          (repeat apply Exists.intro)
          exact ⟨⟨rfl, ⟨HZ7.out, HX7.out, HB.out.trans (HB7.out.mono HB.out.size)⟩⟩, rfl⟩
      case rest =>
        obtain ⟨rfl, HW⟩ := hcut
        clear HZ HX HB HRd y0 y1 y2 y3 y4 y5 ygl x0 x1 x2 x3 x4 x5 hxl
        by_cases hlt : cp < 0
        · have b1 : decide (cp < 0) = true := decide_eq_true hlt
          have HLT := Aside0.mk hlt
          rw [b1]
          clear hlt b1
          obtain ⟨⟨y0, y1, y2, y3, y4, y5⟩, ygl⟩ := lost_cells HOWN.out HW.out.2.2 i s HS.out
          obtain ⟨x0, x1, x2, x3, x4, x5⟩ := HW.out.2.1.cells
          have hxl := blk_lt HW.out.2.1
          have f0 := blk_frozen HW.out.2.1 0
          have f1 := blk_frozen HW.out.2.1 1
          have f2 := blk_frozen HW.out.2.1 2
          have f3 := blk_frozen HW.out.2.1 3
          have f4 := blk_frozen HW.out.2.1 4
          have f5 := blk_frozen HW.out.2.1 5
          go_wp2_with fail
          go_roundg (gk - 1)
          case measure => have := HIK.out; omega
          case rel =>
            refine ⟨i + 1, by have := HIK.out; omega, ⟨by omega, by omega⟩, by go_num, ⟨?_⟩, ⟨?_⟩, ⟨?_⟩⟩
            · have hz := HW.out.1
              have hne : b4 ≠ b5 := by have := H45.out; omega
              exact blk_far (blk_far (blk_far (blk_far (blk_far (blk_far hz hne _) hne _) hne _) hne _) hne _) hne _
            · rw [minTo_succ l ss m i hi1 s HS.out, ← HMM.out, if_pos (show numF l s < numF l mm from by
                have h := HLT.out
                rw [HCP.out] at h
                unfold cmpI at h
                split at h
                · assumption
                · split at h <;> omega)]
              have s0 := blk_set HW.out.2.1 0 (.slice A l.length c)
              have s1 := blk_set s0 1 (.int .i64 (s 0))
              have s2 := blk_set s1 2 (.int .i64 (s 1))
              have s3 := blk_set s2 3 (.int .i64 (s 2))
              have s4 := blk_set s3 4 (.int .i64 (s 3))
              have s5 := blk_set s4 5 (.int .i64 (s 4))
              simp only [List.setIfInBounds_toArray, List.set_cons_zero, List.set_cons_succ] at s5
              exact s5
            · have h45 : w.heap.size ≤ b5 := by have := H4.out; have := H45.out; omega
              exact ((((((HW.out.2.2).setCell h45 _).setCell h45 _).setCell h45 _).setCell h45 _).setCell h45 _).setCell h45 _
        · have b1 : decide (cp < 0) = false := decide_eq_false hlt
          have HLT := Aside0.mk hlt
          rw [b1]
          clear hlt b1
          go_wp2_with fail
          go_roundg (gk - 1)
          case measure => have := HIK.out; omega
          case rel =>
            refine ⟨i + 1, by have := HIK.out; omega, ⟨by omega, by omega⟩, by go_num, ⟨HW.out.1⟩, ⟨?_⟩, ⟨HW.out.2.2⟩⟩
            rw [minTo_succ l ss m i hi1 s HS.out, ← HMM.out, if_neg (fun h => by have h2 := HLT.out; rw [HCP.out] at h2; unfold cmpI at h2; rw [if_pos h] at h2; omega)]
            exact HW.out.2.1
    · have hii : i = ss.length := by omega
      have HII := Aside0.mk hii
      clear hii
      rw [HII.out, ← HMN.out] at HX
      obtain ⟨x0, x1, x2, x3, x4, x5⟩ := HX.out.cells
      have hxl := blk_lt HX.out
      have hzl := blk_lt HZ.out
      have z0 := (blk_cell HZ.out 0).trans rfl
      have z1 := (blk_cell HZ.out 1).trans rfl
      have z2 := (blk_cell HZ.out 2).trans rfl
      have z3 := (blk_cell HZ.out 3).trans rfl
      have z4 := (blk_cell HZ.out 4).trans rfl
      have z5 := (blk_cell HZ.out 5).trans rfl
      have f0 := blk_frozen HZ.out 0
      have f1 := blk_frozen HZ.out 1
      have f2 := blk_frozen HZ.out 2
      have f3 := blk_frozen HZ.out 3
      have f4 := blk_frozen HZ.out 4
      have f5 := blk_frozen HZ.out 5
      go_wp2_with fail
      have s0 := blk_set HZ.out 0 (.slice A l.length c)
      have s1 := blk_set s0 1 (.int .i64 (mn 0))
      have s2 := blk_set s1 2 (.int .i64 (mn 1))
      have s3 := blk_set s2 3 (.int .i64 (mn 2))
      have s4 := blk_set s3 4 (.int .i64 (mn 3))
      have s5 := blk_set s4 5 (.int .i64 (mn 4))
      simp only [List.setIfInBounds_toArray, List.set_cons_zero, List.set_cons_succ] at s5
      refine bodyPost_ret (results_cell_row rfl _ _ b4 63 _ (0, 0) _ rfl s5 Tryd.underlying63 rfl (by kernel_rfl)) rfl ⟨rfl, ?_⟩
      exact (((((((HB.out).setCell H4.out _).setCell H4.out _).setCell H4.out _).setCell H4.out _).setCell H4.out _).setCell H4.out _)
end Go.Proofs.YtecdjnabmjhakaaDoor.P.OwnSt
namespace Go.Proofs.YtecdjnabmjhakaaDoor.P.OwnSt
open Go.RowKit Go.Shelf Go.Proofs.YtecdjnabmjhakaaDoorW.PrintWords Go.Proofs.YtecdjnabmjhakaaDoorW.PrintLast Go.Proofs.YtecdjnabmjhakaaDoorW.PrintMore
set_option linter.unusedVariables false
set_option linter.unusedSimpArgs false
set_option maxHeartbeats 2000000 in
set_option maxRecDepth 100000 in
theorem smallest_calls (A : Option Addr) (c : Nat) (l : List S25) (ss : List (Nat → Int)) (m : Nat → Int) (gv cv bl bb : Nat) (w : World) (hr : TrAt A c l bl w) (hc : l.length ≤ c) (hv : Valid l) (hss : ∀ s ∈ ss, SrcOk l s) (hm : ss[0]? = some m) (hlen : ss.length < 10000)
    (hown : w.ownsRow bb 63 6 (.slice (some ⟨gv, 0, none⟩) ss.length cv) ss.length (lostRow A l.length c ss)) :
    Calls Tryd.prog 34 #[.slice (some ⟨gv, 0, none⟩) ss.length cv, numV bl] w fun e w' => e = .returned (.int .i64 (numF l (minTo l ss m ss.length))) ∧ Below w.heap.size w w' := by
  have HR := Aside0.mk hr
  have HV := Aside0.mk hv
  have HSS := Aside0.mk hss
  have HM := Aside0.mk hm
  have HOWN := Aside0.mk hown
  obtain ⟨mn, hmn⟩ : ∃ mn, mn = minTo l ss m ss.length := ⟨_, rfl⟩
  obtain ⟨nn, hnn⟩ : ∃ nn, nn = numF l mn := ⟨_, rfl⟩
  rw [← hmn, ← hnn]
  have HMN := Aside0.mk hmn
  have HNN := Aside0.mk hnn
  have HSM := Aside0.mk (show SrcOk l mn by rw [hmn]; exact hss _ (minTo_mem l ss m _ hm))
  have hmix : Tryd.prog.follows Departure.mixedOrders = true := by kernel_rfl
  clear hr hv hss hm hown hmn hnn
  unfold numV
  go_enter Tryd.func34, Tryd.ntmps34
  go_upto_region 1 with fail
  obtain ⟨bn, hbn⟩ : ∃ bn, bn = w.heap.size := ⟨_, rfl⟩
  rw [← hbn]
  refine wp_gen (fun wx => Aside0 (wx.heap[bn]? = some (.cells #[numV bl] 78 (0, 0))) ∧ Aside0 (Below w.heap.size w wx) ∧ Aside0 (TrAt A c l bl wx) ∧ Aside0 (wx.ownsRow bb 63 6 (.slice (some ⟨gv, 0, none⟩) ss.length cv) ss.length (lostRow A l.length c ss))) ?_ ?_
  · subst hbn
    exact ⟨⟨blk_new w _⟩, ⟨(Below.refl _ _).alloc (Nat.le_refl _) _⟩, ⟨HR.out.below ((Below.refl _ _).alloc (Nat.le_refl _) _)⟩, ⟨HOWN.out.alloc _⟩⟩
  clear hbn HR HOWN
  rintro W1 ⟨HN, HB, HR, HOWN⟩
  have hnl := blk_lt HN.out
  have hn0 := (blk_cell HN.out 0).trans (show (#[numV bl] : Array Value)[0]? = some (.func (.func 35) #[] #[.pointer (some ⟨bl, 0, none⟩)]) from rfl)
  have HRd := HR.out.below (below_drew (Below.refl _ _))
  have HC69 := Aside0.mk (minFunc_calls A c l ss m gv cv bl bn bb W1.drew HRd hc HV.out HSS.out HM.out hlen (own_move HOWN.out (fun _ _ => rfl)) (blk_below HN.out (below_drew (Below.refl _ _))))
  clear HRd
  go_region_with (first
    | (go_at_call 55; refine HC69.out.mono ?_; rintro e w3 ⟨rfl, hB3⟩; rw [← HMN.out]; unfold lostV; have HB3 := Aside0.mk ((below_drew (Below.refl W1.heap.size W1)).trans hB3); have hn3 := (HB3.out.cell (p := ⟨bn, 0, none⟩) hnl).trans hn0; have HR3 := Aside0.mk (HR.out.below HB3.out); clear hB3)
    | (go_at_call 35; refine (ask57_calls' A c l mn bl w3 HR3.out.list hc HV.out HSM.out HR3.out.box).mono ?_; rintro e w4 ⟨rfl, hB4⟩; rw [← HNN.out]; have HB4 := Aside0.mk hB4; clear hB4))
  all_goals go_wp2_with fail
  all_goals exact bodyPost_ret (results_tmp rfl _ _ _) rfl ⟨rfl, HB.out.trans ((HB3.out.trans (HB4.out.mono HB3.out.size)).mono HB.out.size)⟩
def fewestV (l : List S25) : Int × Int := if knownE l = 0 then (numF l (minTo l (knownV l) ((knownV l).headD fun _ => 0) (knownV l).length), 0) else (0, knownE l)
set_option maxHeartbeats 2000000 in
set_option maxRecDepth 100000 in
theorem fewest_calls (A : Option Addr) (c : Nat) (l : List S25) (w : World) (hr : Kd.C k25 w A l.length l) (hc : l.length ≤ c) :
    Calls Tryd.prog 14 #[.slice A l.length c] w fun e w' => e = .returned (.tuple #[.int .i64 (fewestV l).1, .int .i64 (fewestV l).2]) ∧ Below w.heap.size w w' := by
  have HL0 := Aside0.mk (show (w.alloc (.cells #[.slice A l.length c] 22)).heap[w.heap.size]? = some (.cells #[.slice A l.length c] 22 (0, 0)) from blk_new w _)
  by_cases hk : knownE l = 0
  · obtain ⟨nn, hnn⟩ : ∃ nn, nn = numF l (minTo l (knownV l) ((knownV l).headD fun _ => 0) (knownV l).length) := ⟨_, rfl⟩
    have hV : fewestV l = (nn, 0) := by unfold fewestV; rw [if_pos hk, hnn]
    rw [hV]
    have HNN := Aside0.mk hnn
    have HR := Aside0.mk hr
    have HK := Aside0.mk hk
    have HVA := Aside0.mk (valid_of_check (knownE_zero hk).1)
    have HNE := Aside0.mk (knownE_zero hk).2
    have hkL := known_len l HVA.out.five
    clear hr hk hV hnn
    go_enter Tryd.func14, Tryd.ntmps14
    go_upto_region 1 with fail
    obtain ⟨bl, hbl⟩ : ∃ bl, bl = w.heap.size := ⟨_, rfl⟩
    rw [← hbl] at HL0 ⊢
    refine wp_gen (fun wx => Aside0 (Below w.heap.size w wx) ∧ Aside0 (TrAt A c l bl wx)) ⟨⟨(Below.refl _ _).alloc (Nat.le_refl _) _⟩, ⟨Kd.C_below HR.out ((Below.refl _ _).alloc (Nat.le_refl _) _), HL0.out⟩⟩ ?_
    clear hbl HL0 HR
    rintro W1 ⟨HB, HR⟩
    have hl0 := (blk_cell HR.out.box 0).trans (show (#[Value.slice A l.length c] : Array Value)[0]? = some _ from rfl)
    go_wp2_with (first
      | (go_at_call 24; refine (known_ok A c l W1 HR.out.list hc HK.out).mono ?_; rintro e w2 ⟨gv, cv, rfl, hB2, hown⟩; have HB2 := Aside0.mk hB2; have HOWN := Aside0.mk hown; clear hB2 hown)
      | (go_at_call 34; refine (smallest_calls A c l (knownV l) ((knownV l).headD fun _ => 0) gv cv bl W1.heap.size w2 (HR.out.below HB2.out) hc HVA.out (fun s hs k hk => ⟨((knownV_mem hs).1 k hk).1, ((knownV_mem hs).1 k hk).2.1⟩) ?hd hkL HOWN.out).mono ?_; (case hd => (have hne := HNE.out; revert hne; cases knownV l with | nil => (intro h; exact absurd rfl h) | cons x r => (intro _; rfl))); rintro e w5 ⟨rfl, hB5⟩; rw [← HNN.out]; have HB5 := Aside0.mk hB5; clear hB5))
    exact bodyPost_ret (results_tmp2 rfl _ _ _) rfl ⟨rfl, HB.out.trans ((HB2.out.trans (HB5.out.mono HB2.out.size)).mono HB.out.size)⟩
  · have hV : fewestV l = (0, knownE l) := by unfold fewestV; rw [if_neg hk]
    rw [hV]
    obtain ⟨e0, he0⟩ : ∃ e0, e0 = knownE l := ⟨_, rfl⟩
    have HR := Aside0.mk hr
    have HK := Aside0.mk hk
    have HE := Aside0.mk he0
    have b1 : (e0 != 0) = true := bne_iff_ne.2 (by rw [he0]; exact hk)
    rw [← he0]
    clear hr hk hV he0
    have hl0 := (blk_cell HL0.out 0).trans (show (#[Value.slice A l.length c] : Array Value)[0]? = some _ from rfl)
    go_enter Tryd.func14, Tryd.ntmps14
    go_wp2_with (first | (go_at_call 24; refine (known_err A c l _ (Kd.C_below HR.out ((Below.refl _ _).alloc (Nat.le_refl _) _)) hc HK.out).mono ?_; rintro e w2 ⟨rfl, hB⟩; rw [← HE.out]; have HB := Aside0.mk (((Below.refl w.heap.size w).alloc (Nat.le_refl _) (.cells #[.slice A l.length c] 22)).trans (hB.mono (by simp))); clear hB))
    exact bodyPost_ret (results_tmp2 rfl _ _ _) rfl ⟨rfl, HB.out⟩
end Go.Proofs.YtecdjnabmjhakaaDoor.P.OwnSt
namespace Go.Proofs.YtecdjnabmjhakaaDoor.P
open Go.RowKit Go.Proofs.YtecdjnabmjhakaaDoorW.PrintWords Go.Proofs.YtecdjnabmjhakaaDoorW.PrintLast Go.Proofs.YtecdjnabmjhakaaDoorW.PrintMore
attribute [local go_sem] max2_int min2_int max_two min_two max_three min_three max_four min_four   -- for this text's walks alone
set_option linter.unusedVariables false
set_option linter.unusedSimpArgs false
def stemma_Fewest.f (k : Nat) (l0 : List (S25)) : Option (Int × Int) := some (OwnSt.fewestV l0)
theorem stemma_Fewest.calls (k : Nat) (A0 : Option Addr) (c0 : Nat) (l0 : List (S25)) (r1 : Int) (r2 : Int) (w : World) (hr0 : Kd.C k25 w A0 l0.length l0) (hc0 : l0.length ≤ c0) (h : stemma_Fewest.f k l0 = some (r1, r2)) :
    Calls Tryd.prog 14 #[.slice A0 l0.length c0] w fun e w' => e = .returned (.tuple #[.int .i64 r1, .int .i64 r2]) ∧ Below w.heap.size w w' := by
  have h2 := OwnSt.fewest_calls A0 c0 l0 w hr0 hc0; rw [show OwnSt.fewestV l0 = (r1, r2) from Option.some.inj h] at h2; exact h2
end Go.Proofs.YtecdjnabmjhakaaDoor.P
namespace Go.Proofs.YtecdjnabmjhakaaDoor.P
open Go.RowKit Go.Proofs.YtecdjnabmjhakaaDoorW.PrintWords Go.Proofs.YtecdjnabmjhakaaDoorW.PrintLast Go.Proofs.YtecdjnabmjhakaaDoorW.PrintMore
attribute [local go_sem] max2_int min2_int max_two min_two max_three min_three max_four min_four   -- for this text's walks alone
set_option linter.unusedVariables false
set_option linter.unusedSimpArgs false
def cippuslaw07_copies.f (a0 : Int) (a1 : Int) (a2 : Bool) : Option ((List (S25))) := some (([(⟨(⟨#[65, 82, 77, 65]⟩ : ByteArray), a0, true⟩ : S25), (⟨(⟨#[65, 82, 77, 79]⟩ : ByteArray), a1, a2⟩ : S25), (⟨(⟨#[69, 82, 77, 79]⟩ : ByteArray), 1, false⟩ : S25)] : List (S25)))
set_option maxHeartbeats 8000000 in
set_option maxRecDepth 100000 in
theorem cippuslaw07_copies.calls (a0 : Int) (a1 : Int) (a2 : Bool) (r : List (S25)) (w : World) (h : cippuslaw07_copies.f a0 a1 a2 = some r) :
    Calls Tryd.prog 6 #[.int .i64 a0, .int .i64 a1, .bool a2] w fun e w' => ∃ v0_ : Value, e = .returned (v0_) ∧ Kd.R k25 25 w' w.heap.size (fun _ => True) v0_ r ∧ Below w.heap.size w w' := by
  have hu25 := Tryd.underlying25
  have HB := Aside0.mk (Below.refl w.heap.size w)
  have H : (some (([(⟨(⟨#[65, 82, 77, 65]⟩ : ByteArray), a0, true⟩ : S25), (⟨(⟨#[65, 82, 77, 79]⟩ : ByteArray), a1, a2⟩ : S25), (⟨(⟨#[69, 82, 77, 79]⟩ : ByteArray), 1, false⟩ : S25)] : List (S25)))) = some r := h
  clear h
  obtain ⟨y101, hy101⟩ : ∃ y_ : List (S25), y_ = (([(⟨(⟨#[65, 82, 77, 65]⟩ : ByteArray), a0, true⟩ : S25), (⟨(⟨#[65, 82, 77, 79]⟩ : ByteArray), a1, a2⟩ : S25), (⟨(⟨#[69, 82, 77, 79]⟩ : ByteArray), 1, false⟩ : S25)] : List (S25))) := ⟨_, rfl⟩
  replace H : (some y101) = some r := by first | (rw [hy101]; with_reducible exact H) | (have H2_ := (Option.bind_some _ _).symm.trans H; rw [hy101]; with_reducible exact H2_) | (have H2_ := (Option.bind_some _ _).symm.trans H; with_reducible exact H2_) | with_reducible exact H | (rw [hy101]; exact H) | exact H
  have Ny101 := Aside0.mk hy101
  clear hy101
  obtain rfl := Option.some.inj H
  go_enter Tryd.func6, Tryd.ntmps6
  go_wp2_with (first | ((with_reducible refine gate_dst (N := 13) rfl ?_); refine Kd.R_lit k25 _ 25 ?hg (N := 13) ?hd (xs := ([(⟨(⟨#[65, 82, 77, 65]⟩ : ByteArray), a0, true⟩ : S25), (⟨(⟨#[65, 82, 77, 79]⟩ : ByteArray), a1, a2⟩ : S25), (⟨(⟨#[69, 82, 77, 79]⟩ : ByteArray), 1, false⟩ : S25)] : List (S25))) (inner := [.string (⟨#[65, 82, 77, 65]⟩ : ByteArray), .int .i64 a0, .bool true, .string (⟨#[65, 82, 77, 79]⟩ : ByteArray), .int .i64 a1, .bool a2, .string (⟨#[69, 82, 77, 79]⟩ : ByteArray), .int .i64 1, .bool false]) (ok := fun _ => True) (okp := fun _ => True) ?hr ?hp (fun _ hk => hk) trivial (Below.refl _ _) (Nat.le_refl _) (by simp) ?_; (case hd => rfl); (case hg => rfl); (case hr => first | (go_simp; done) | (go_simp; rfl)); (case hp => exact (Reps.c3 (show Kd.M k25 _ _ _ (⟨(⟨#[65, 82, 77, 65]⟩ : ByteArray), a0, true⟩ : S25) [.string (⟨#[65, 82, 77, 65]⟩ : ByteArray), .int .i64 a0, .bool true] from (k25_mkM _ _ _ (⟨(⟨#[65, 82, 77, 65]⟩ : ByteArray), a0, true⟩ : S25) )) (Reps.c3 (show Kd.M k25 _ _ _ (⟨(⟨#[65, 82, 77, 79]⟩ : ByteArray), a1, a2⟩ : S25) [.string (⟨#[65, 82, 77, 79]⟩ : ByteArray), .int .i64 a1, .bool a2] from (k25_mkM _ _ _ (⟨(⟨#[65, 82, 77, 79]⟩ : ByteArray), a1, a2⟩ : S25) )) (Reps.c3 (show Kd.M k25 _ _ _ (⟨(⟨#[69, 82, 77, 79]⟩ : ByteArray), 1, false⟩ : S25) [.string (⟨#[69, 82, 77, 79]⟩ : ByteArray), .int .i64 1, .bool false] from (k25_mkM _ _ _ (⟨(⟨#[69, 82, 77, 79]⟩ : ByteArray), 1, false⟩ : S25) )) (Reps.none _ _))))); intro v102 w4 ho5 hb hg_ hnew_; clear hg_ hnew_; (first | rw [← Ny101.out] at ho5 | (simp only [Int.reduceToNat] at ho5; rw [← Ny101.out] at ho5)); have n0_ := Aside0.mk (Kd.R_lower ho5 (below_size (by repeat (first | (with_reducible first | exact HB.out | apply below_alloc | apply pw_below_drewN | apply below_drew1) | exact HB.out)))); have n1_ := Aside0.mk (below_step (by repeat (first | (with_reducible first | exact HB.out | apply below_alloc | apply pw_below_drewN | apply below_drew1) | exact HB.out)) hb); clear HB; have HO103 := n0_; have HB := n1_; clear n0_ n1_; clear hb ho5))
  go_ret
  exact ⟨_, by first | rfl | (simp [errW_none, errW_some] <;> rfl) | (simp [*, errW_none, errW_some] <;> rfl), by (with_reducible repeat (first | apply Kd.R_alloc | apply Kd.R_drewN | apply Kd.R_drew)); exact HO103.out, by repeat (first | (with_reducible first | exact HB.out | apply below_alloc | apply pw_below_drewN | apply below_drew1) | exact HB.out)⟩
end Go.Proofs.YtecdjnabmjhakaaDoor.P
namespace Go.Proofs.YtecdjnabmjhakaaDoor.P.OwnSt
open Go.RowKit Go.Shelf Go.Proofs.YtecdjnabmjhakaaDoorW.PrintWords Go.Proofs.YtecdjnabmjhakaaDoorW.PrintLast Go.Proofs.YtecdjnabmjhakaaDoorW.PrintMore
set_option linter.unusedVariables false
set_option linter.unusedSimpArgs false
def srcP (i j : Nat) (s : Nat → Int) : Bool := s i == (j : Int) - 1
def srcRow (l : List S25) (i : Nat) : List Int := (List.range (i + 1)).map fun j => verdictI ((knownV l).countP (srcP i j)) (knownV l).length
def sourcesV (l : List S25) : List (List Int) × Int := if knownE l = 0 then ((List.range l.length).map (srcRow l), 0) else ([], knownE l)
theorem inf101 : ∃ inf, Tryd.prog.info? 64 = some inf ∧ inf.zero = some .nilFunc ∧ inf.size = 1 ∧ inf.bytes = 8 := by
  have hinf : (Tryd.prog.info? 64).map (fun i => (i.zero, i.size, i.bytes)) = some (some .nilFunc, 1, 8) := by kernel_rfl
  rw [Option.map_eq_some_iff] at hinf
  obtain ⟨inf, e1, e2⟩ := hinf
  injection e2 with e2 e3
  injection e3 with e3 e4
  exact ⟨inf, e1, e2, e3, e4⟩
def askV (bi b : Nat) : Value := .func (.func 25) #[] #[.pointer (some ⟨bi, 0, none⟩), .pointer (some ⟨b, 0, none⟩)]
structure SQ (l : List S25) (W1 : World) (i bi : Nat) (out asks : Value) (bs : List Nat) (bf : Nat) (W : World) : Prop where
  box : W.heap[bf]? = some (.cells #[.int .i64 ((bs.length : Int) - 1)] 3 (0, 0))
  own : W.heap[bi]? = some (.cells #[.int .i64 (i : Int)] 3 (0, 0))
  boxes : ∀ (q b : Nat), bs[q]? = some b → W.heap[b]? = some (.cells #[.int .i64 ((q : Int) - 1)] 3 (0, 0))
  arow : W.ownsRow W1.heap.size 64 1 asks bs.length (bs.map (askV bi))
  orow : Kd.N (Kd.slice 3 (Kd.int .i64)) 33 W W1.heap.size (fun k => W1.heap.size ≤ k ∧ some k ≠ asks.ownBlock) out ((List.range i).map (srcRow l))
  below : Below W1.heap.size W1 W
theorem SQ.step {l : List S25} {W1 : World} {i bi : Nat} {out asks : Value} {bs : List Nat} {bf : Nat} {W W' : World} (h : SQ l W1 i bi out asks bs bf W) (hb : Below W.heap.size W W') : SQ l W1 i bi out asks bs bf W' :=
  ⟨blk_below h.box hb, blk_below h.own hb, fun q b hq => blk_below (h.boxes q b hq) hb, own_move h.arow (fun k hk => by
    obtain ⟨cells, hc⟩ := own_typed h.arow k hk
    exact hb.block k (blk_lt hc)), Kd.N_below h.orow hb, h.below.trans (hb.mono h.below.size)⟩
theorem SQ.add {l : List S25} {W1 : World} {i bi : Nat} {out asks asks' : Value} {bs : List Nat} {bf : Nat} {W W' : World} (h : SQ l W1 i bi out asks bs bf W) (ho : W'.ownsRow W1.heap.size 64 1 asks' (bs.length + 1) (bs.map (askV bi) ++ [askV bi bf])) (hg : W.grownBy W' asks.ownBlock) (hat : asks'.ownBlock = asks.ownBlock ∨ asks'.ownBlock = some W.heap.size) {b' : Nat} (hb' : W'.heap.size = b') :
    SQ l W1 i bi out asks' (bs ++ [bf]) b' (W'.alloc (.cells #[.int .i64 (bs.length : Int)] 3)) := by
  have hk : ∀ {b : Nat} {v : Value}, W.heap[b]? = some (.cells #[v] 3 (0, 0)) → W'.heap[b]? = some (.cells #[v] 3 (0, 0)) := fun {b} {v} hb => blk_grown hb hg (fun e => by
    obtain ⟨_, h2⟩ := own_typed h.arow b e.symm
    exact blk_ne hb h2 (by decide) rfl)
  subst hb'
  refine ⟨?_, blk_alloc (hk h.own) _, fun q b hq => ?_, ?_, Kd.N_alloc (Kd.N_afterv h.orow hg (hat.imp id fun e => ⟨_, e, Nat.le_refl _⟩)) _, ?_⟩
  · rw [List.length_append, List.length_singleton, show (((bs.length + 1 : Nat) : Int) - 1) = (bs.length : Int) by omega]
    exact blk_new W' _
  · by_cases hq' : q < bs.length
    · rw [List.getElem?_append_left hq'] at hq
      exact blk_alloc (hk (h.boxes q b hq)) _
    · rw [List.getElem?_append_right (by omega)] at hq
      have : q - bs.length = 0 := by
        by_cases e : q - bs.length = 0
        · exact e
        · rw [List.getElem?_eq_none (by simp; omega)] at hq
          cases hq
      rw [this] at hq
      simp at hq
      subst hq
      have hqq : q = bs.length := by omega
      subst hqq
      exact blk_alloc (hk h.box) _
  · rw [List.length_append, List.map_append]
    exact ho.alloc _
  · exact (h.below.grown hg h.below.size (fun k e => own_base h.arow k e)).alloc (Nat.le_trans h.below.size hg.size) _
theorem SQ.far {l : List S25} {W1 : World} {i bi : Nat} {out asks : Value} {bs : List Nat} {bf : Nat} {W W' : World} (h : SQ l W1 i bi out asks bs bf W) (hg : W.grownBy W' asks.ownBlock) : W'.heap[bf]? = some (.cells #[.int .i64 ((bs.length : Int) - 1)] 3 (0, 0)) :=
  blk_grown h.box hg (fun e => by
    obtain ⟨_, h2⟩ := own_typed h.arow bf e.symm
    exact blk_ne h.box h2 (by decide) rfl)
theorem askV_cells (bi bf : Nat) (w : World) : ∀ (j : Nat) (u : Value), [askV bi bf][j]? = some u → (w.alloc (.cells #[.func (.func 25) #[] #[.pointer (some ⟨bi, 0, none⟩), .pointer (some ⟨bf, 0, none⟩)]] 64)).cell? ((⟨w.heap.size, 0, none⟩ : Addr).add j) = some u := by
  intro j u hj
  rw [show ((⟨w.heap.size, 0, none⟩ : Addr).add j) = ⟨w.heap.size, j, none⟩ from by simp [Addr.add]; intro h; exact h.symm, blk_cell (blk_new w _)]
  rw [← hj]
  simp only [askV, List.getElem?_toArray]
theorem fk_row {W : World} {b m n c7 : Nat} {ok okp : Nat → Prop} {A7 : Option Addr} {row : List Int} (hn : n = row.length) (h : Kd.R (Kd.int .i64) 3 W b ok (.slice A7 m c7) row) (hok : ∀ k, ok k → okp k) : (Kd.slice 3 (Kd.int .i64)).FK W okp row [.slice A7 n c7] := by
  have h1 := Kd.R_reads' h
  subst hn
  have h2 := h1.1
  subst h2
  exact Kd.FK_slice_mk h1.2.1 (Kd.R_F (Kd.R_mono h hok))
set_option maxHeartbeats 2000000 in
set_option maxRecDepth 100000 in
theorem sources_calls (A : Option Addr) (c : Nat) (l : List S25) (w : World) (hr : Kd.C k25 w A l.length l) (hc : l.length ≤ c) :
    Calls Tryd.prog 9 #[.slice A l.length c] w fun e w' => ∃ v, e = .returned (.tuple #[v, .int .i64 (sourcesV l).2]) ∧ Kd.N (Kd.slice 3 (Kd.int .i64)) 33 w' w.heap.size (fun k => w.heap.size ≤ k) v (sourcesV l).1 ∧ Below w.heap.size w w' := by
  by_cases hk : knownE l = 0
  · have hV : sourcesV l = ((List.range l.length).map (srcRow l), 0) := by unfold sourcesV; rw [if_pos hk]
    rw [hV]
    have HR := Aside0.mk hr
    have HK := Aside0.mk hk
    have h5 := (valid_of_check (knownE_zero hk).1).five
    have HKL := Aside0.mk (known_len l h5)
    clear hr hk hV
    go_enter Tryd.func9, Tryd.ntmps9
    go_upto_region 4 with (first | (go_at_call 24; refine (known_ok A c l w HR.out hc HK.out).mono ?_; rintro e w2 ⟨gv, cv, rfl, hB, hown⟩; have HB := Aside0.mk hB; have HOWN := Aside0.mk hown; clear hB hown))
    obtain ⟨W1, hW1⟩ : ∃ W1, W1 = w2 := ⟨_, rfl⟩
    rw [← hW1] at HB HOWN ⊢
    clear hW1 w2
    go_wp2_with fail
    go_loopg [6, 20] l.length (fun k s6 s20 wr => ∃ i : Nat, i + k = l.length ∧ s20 = .int .i64 (i : Int) ∧ Aside0 (Kd.N (Kd.slice 3 (Kd.int .i64)) 33 wr W1.heap.size (fun k => W1.heap.size ≤ k) s6 ((List.range i).map (srcRow l))) ∧ Aside0 (Below W1.heap.size W1 wr))
    case atStart => exact ⟨0, by omega, rfl, ⟨Kd.N_nil _ _ _ _ _⟩, ⟨Below.refl _ _⟩⟩
    case round =>
      obtain ⟨gj, rfl⟩ : ∃ gj, gj = gk := ⟨_, rfl⟩
      obtain ⟨i, hik, rfl, HN, HB1⟩ := hrel
      have HIK := Aside0.mk hik
      clear hik
      by_cases hi : i < l.length
      · go_upto_region 8 with fail
        obtain ⟨bi, hbi⟩ : ∃ bi, bi = wr.heap.size := ⟨_, rfl⟩
        rw [← hbi]
        refine wp_gen (fun wx => Aside0 (Kd.N (Kd.slice 3 (Kd.int .i64)) 33 wx W1.heap.size (fun k => W1.heap.size ≤ k) u6 ((List.range i).map (srcRow l)) ∧ Below W1.heap.size W1 wx ∧ wx.heap[bi]? = some (.cells #[.int .i64 (i : Int)] 3 (0, 0))) ∧ wx.heap.size = bi + 1) ?_ ?_
        · subst hbi
          exact ⟨⟨Kd.N_alloc HN.out _, HB1.out.alloc HB1.out.size _, blk_new wr _⟩, by simp⟩
        clear hbi HN HB1
        rintro W2 ⟨HH, hsz⟩
        go_upto_block 2 with fail
        obtain ⟨bf0, hbf0⟩ : ∃ bf0, bf0 = bi + 1 := ⟨_, rfl⟩
        rw [← hbf0]
        refine wp_gen (fun wx => Aside0 (SQ l W1 i bi u6 (.slice none 0 0) [] bf0 wx)) ?_ ?_
        · refine ⟨⟨?_, blk_alloc HH.out.2.2 _, fun q b hq => by simp at hq, World.ownsRow_nil _ _ _ _, Kd.N_apart_nil (Kd.N_alloc HH.out.1 _), HH.out.2.1.alloc HH.out.2.1.size _⟩⟩
          rw [hbf0, ← hsz]
          exact blk_new W2 _
        clear HH hsz hbf0 W2
        intro W2 HQ
        go_wp2_with fail
        go_loopg [8, 9] (i + 1) (fun k s8 s9 wr => ∃ (bs : List Nat) (bf : Nat), bs.length + k = i + 1 ∧ s9 = .pointer (some ⟨bf, 0, none⟩) ∧ Aside0 (SQ l W1 i bi u6 s8 bs bf wr))
        case atStart => exact ⟨[], bf0, by simp, rfl, HQ⟩
        case round =>
          clear HQ
          obtain ⟨bs, bf, hbk, rfl, HQ⟩ := hrel
          obtain ⟨j, hj⟩ : ∃ j, j = bs.length := ⟨_, rfl⟩
          have HBK := Aside0.mk hbk
          have HJ := Aside0.mk hj
          have c1 := (blk_cell HQ.out.box 0).trans (show (#[Value.int .i64 ((bs.length : Int) - 1)] : Array Value)[0]? = some _ from rfl)
          rw [← hj] at c1
          have c2 := (blk_cell HQ.out.own 0).trans (show (#[Value.int .i64 (i : Int)] : Array Value)[0]? = some _ from rfl)
          clear hbk hj
          by_cases hjl : (j : Int) - 1 < (i : Int)
          · obtain ⟨inf, hinf⟩ := inf101
            have HINF := Aside0.mk hinf
            clear hinf
            go_upto_region 13 with (first | (at_builtin; refine wpList_append_own_at _ rfl _ _ 59 rfl W1.heap.size 64 inf .nilFunc 1 8 (by kernel_rfl) HINF.out.1 HINF.out.2.1 HINF.out.2.2.1 HINF.out.2.2.2 rfl (by decide) u8 _ _ rfl ((HQ.out.step ((Below.refl _ _).alloc (Nat.le_refl _) _)).arow) ⟨wr.heap.size, 0, none⟩ 1 1 [askV bi bf] rfl rfl ?cc ?c1 ?c2 ?c3 ?c4 ?_; (case cc => exact askV_cells bi bf wr); (case c1 => (intro u hu; simp at hu; subst hu; rfl)); (case c2 => (have := HBK.out; unfold maxLen; omega)); (case c3 => (have := HBK.out; omega)); (case c4 => (have := HQ.out.below.size; simp; omega)); intro v5 w5 hown5 hgr5 hnil5 hat5; clear hnil5; have HO5 := Aside0.mk hown5; have HG5 := Aside0.mk hgr5; have HA5 := Aside0.mk hat5; clear hown5 hgr5 hat5))
            have HS5 := Aside0.mk ((HQ.out.step ((Below.refl _ _).alloc (Nat.le_refl _) _)).add HO5.out HG5.out HA5.out rfl)
            have d1 := (blk_cell ((HQ.out.step ((Below.refl _ _).alloc (Nat.le_refl _) _)).far HG5.out) 0).trans (show (#[Value.int .i64 ((bs.length : Int) - 1)] : Array Value)[0]? = some _ from rfl)
            rw [← HJ.out] at d1
            clear HO5 HG5 HA5 c1 c2
            go_wp2_with fail
            go_roundg (gk - 1)
            case measure => have := HBK.out; have := HJ.out; omega
            case rel =>
              refine ⟨bs ++ [bf], w5.heap.size, by have := HBK.out; have := HJ.out; simp; omega, rfl, ⟨?_⟩⟩
              rw [HJ.out]
              exact HS5.out
          · have hji : j = i + 1 := by have := HBK.out; have := HJ.out; omega
            obtain ⟨gf, cf, rfl⟩ : ∃ gf cf, u8 = .slice (some ⟨gf, 0, none⟩) bs.length cf := by
              rcases HQ.out.arow.2 with ⟨_, h0⟩ | ⟨g, cap, cur, e, _⟩
              · have := HJ.out; omega
              · exact ⟨g, cap, e⟩
            have hvc := verdicts_calls 25 (enters_of Tryd.func25 (by kernel_rfl) rfl) A l.length c (knownV l) gv cv w.heap.size gf cf W1.heap.size (bs.map fun b => #[.pointer (some ⟨bi, 0, none⟩), .pointer (some ⟨b, 0, none⟩)]) ((List.range (i + 1)).map fun j => srcP i j) wr
              (own_move HOWN.out (fun k hk => by
                obtain ⟨_, h2⟩ := own_typed HOWN.out k hk
                exact HQ.out.below.block k (blk_lt h2))) (by
                have h3 := HQ.out.arow
                rw [List.map_map, List.length_map]
                exact h3) (by have := HJ.out; simp; omega) (by
                intro j' lb p hlb hp s hs W' hW'
                rw [List.getElem?_map] at hlb hp
                rw [Option.map_eq_some_iff] at hlb hp
                obtain ⟨b, hb, rfl⟩ := hlb
                obtain ⟨j2, hj2, rfl⟩ := hp
                have hj3 : j2 = j' := by
                  rw [List.getElem?_range] at hj2
                  · injection hj2 with hj2
                    exact hj2.symm
                  · by_cases e : j' < i + 1
                    · exact e
                    · rw [List.getElem?_eq_none (by simp; omega)] at hj2
                      cases hj2
                subst hj3
                have h60 := ask60_calls A l.length c s bi b i ((j2 : Int) - 1) W' (by omega) (blk_below HQ.out.own hW') (blk_below (HQ.out.boxes j2 b hb) hW')
                simpa [srcP] using h60) HKL.out (by have := HJ.out; simp; omega)
            rw [List.length_map, List.map_map] at hvc
            have HVC := Aside0.mk hvc
            have HSR := Aside0.mk (show i + 1 = (srcRow l i).length by simp [srcRow])
            clear hvc hji
            go_wp2_with (first
              | (go_at_call 26; refine HVC.out.mono ?_; rintro e w7 ⟨v7, rfl, hR7, hB7⟩; obtain ⟨A7, c7, rfl⟩ := Kd.R_slice hR7; have HR7 := Aside0.mk (show Kd.R (Kd.int .i64) 3 w7 wr.heap.size (fun k => wr.heap.size ≤ k) _ (srcRow l i) from hR7); have HB7 := Aside0.mk hB7; clear hR7 hB7)
              | (at_builtin; refine Kd.N_append (Kd.slice 3 (Kd.int .i64)) (w0 := W1) W1.heap.size rfl _ _ 29 33 (.slice none 0 0) 24 rfl (by kernel_rfl) info33 rfl (by decide) (by omega) u6 _ (srcRow l i) [.slice A7 _ c7] (fun k => W1.heap.size ≤ k) (fun k => (W1.heap.size ≤ k) ∧ some k ≠ (u6 : Value).ownBlock) rfl rfl ?aP (fun _ hk => hk) ?aF (Kd.N_below (Kd.N_mono HQ.out.orow (fun _ hk => hk.1)) HB7.out) (HQ.out.below.trans (HB7.out.mono HQ.out.below.size)) (Nat.le_trans HQ.out.below.size HB7.out.size) ?aL ?_; (case aP => exact fk_row HSR.out HR7.out (fun k hk => ⟨Nat.le_trans HQ.out.below.size hk, Kd.fresh' (Kd.N_lt HQ.out.orow) k hk⟩)); (case aF => exact fun k hk => Nat.le_trans (Nat.le_trans HQ.out.below.size HB7.out.size) hk); (case aL => (simp; omega)); intro v8 w8 hN8 hB8 hg8 hat8; have HN8 := Aside0.mk hN8; have HB8 := Aside0.mk hB8; clear hN8 hB8 hg8 hat8))
            go_roundg (gj - 1)
            case measure => have := HIK.out; omega
            case rel =>
              refine ⟨i + 1, by have := HIK.out; omega, by go_num, ⟨?_⟩, HB8⟩
              rw [List.range_succ, List.map_append]
              exact HN8.out
      · go_wp2_with fail
        refine bodyPost_ret (results_tmp2 rfl _ _ _) rfl ⟨_, rfl, ?_, HB.out.trans (HB1.out.mono HB.out.size)⟩
        have h7 := HN.out
        rw [show i = l.length by have := HIK.out; omega] at h7
        exact Kd.N_mono (Kd.N_lower h7 HB.out.size) (fun k hk => Nat.le_trans HB.out.size hk)
  · have hV : sourcesV l = ([], knownE l) := by unfold sourcesV; rw [if_neg hk]
    rw [hV]
    obtain ⟨e0, he0⟩ : ∃ e0, e0 = knownE l := ⟨_, rfl⟩
    have HR := Aside0.mk hr
    have HK := Aside0.mk hk
    have HE := Aside0.mk he0
    have b1 : (e0 != 0) = true := bne_iff_ne.2 (by rw [he0]; exact hk)
    rw [← he0]
    clear hr hk hV he0
    go_enter Tryd.func9, Tryd.ntmps9
    go_wp2_with (first | (go_at_call 24; refine (known_err A c l w HR.out hc HK.out).mono ?_; rintro e w2 ⟨rfl, hB⟩; rw [← HE.out]; have HB := Aside0.mk hB; clear hB))
    exact bodyPost_ret (results_tmp2 rfl _ _ _) rfl ⟨_, rfl, Kd.N_nil _ _ _ _ _, HB.out⟩
end Go.Proofs.YtecdjnabmjhakaaDoor.P.OwnSt
namespace Go.Proofs.YtecdjnabmjhakaaDoor.P
open Go.RowKit Go.Proofs.YtecdjnabmjhakaaDoorW.PrintWords Go.Proofs.YtecdjnabmjhakaaDoorW.PrintLast Go.Proofs.YtecdjnabmjhakaaDoorW.PrintMore
attribute [local go_sem] max2_int min2_int max_two min_two max_three min_three max_four min_four   -- for this text's walks alone
set_option linter.unusedVariables false
set_option linter.unusedSimpArgs false
def stemma_Sources.f (k : Nat) (l0 : List (S25)) : Option ((List (List Int)) × Int) := some (OwnSt.sourcesV l0)
theorem stemma_Sources.calls (k : Nat) (A0 : Option Addr) (c0 : Nat) (l0 : List (S25)) (r1 : List (List Int)) (r2 : Int) (w : World) (hr0 : Kd.C k25 w A0 l0.length l0) (hc0 : l0.length ≤ c0) (h : stemma_Sources.f k l0 = some (r1, r2)) :
    Calls Tryd.prog 9 #[.slice A0 l0.length c0] w fun e w' => ∃ v0_ : Value, e = .returned (.tuple #[v0_, .int .i64 r2]) ∧ Kd.N (Kd.slice 3 (Kd.int .i64)) 33 w' w.heap.size (fun k_ => (w.heap.size ≤ k_)) v0_ r1 ∧ Below w.heap.size w w' := by
  have h2 := OwnSt.sources_calls A0 c0 l0 w hr0 hc0; rw [show OwnSt.sourcesV l0 = (r1, r2) from Option.some.inj h] at h2; exact h2
end Go.Proofs.YtecdjnabmjhakaaDoor.P
namespace Go.Proofs.YtecdjnabmjhakaaDoor.P
open Go.RowKit Go.Proofs.YtecdjnabmjhakaaDoorW.PrintWords Go.Proofs.YtecdjnabmjhakaaDoorW.PrintLast Go.Proofs.YtecdjnabmjhakaaDoorW.PrintMore
attribute [local go_sem] max2_int min2_int max_two min_two max_three min_three max_four min_four   -- for this text's walks alone
set_option linter.unusedVariables false
set_option linter.unusedSimpArgs false
def cippuskit_SameInts.l0 : Nat → List Int → List Int → Bool → Int → Option (Bool)
  | 0, _, _, _, _ => none
  | k + 1, x0, x1, x5, x6 => if x5 = true then (if x6 < (x0.length : Int) then (if 0 ≤ x6 then (if x6 < (x1.length : Int) then (cippuskit_SameInts.l0 k x0 x1 ((rd x0 x6) == (rd x1 x6)) (wrap64 (x6 + 1))) else (none)) else (none)) else (some x5)) else (some x5)
def cippuskit_SameInts.f (k : Nat) (l0 : List Int) (l1 : List Int) : Option (Bool) := cippuskit_SameInts.l0 k l0 l1 ((l0.length : Int) == (l1.length : Int)) 0
set_option maxHeartbeats 8000000 in
set_option maxRecDepth 100000 in
theorem cippuskit_SameInts.calls (k : Nat) (A0 : Option Addr) (c0 : Nat) (l0 : List Int) (A1 : Option Addr) (c1 : Nat) (l1 : List Int) (r : Bool) (w : World) (hr0 : Kd.C (Kd.int .i64) w A0 l0.length l0) (hc0 : l0.length ≤ c0) (hr1 : Kd.C (Kd.int .i64) w A1 l1.length l1) (hc1 : l1.length ≤ c1) (h : cippuskit_SameInts.f k l0 l1 = some r) :
    Calls Tryd.prog 27 #[.slice A0 l0.length c0, .slice A1 l1.length c1] w fun e w' => e = .returned (.bool r) ∧ Drawn0 w w' := by
  have HR0 := Aside0.mk hr0
  have HC0 := Aside0.mk hc0
  clear hr0 hc0
  have HR1 := Aside0.mk hr1
  have HC1 := Aside0.mk hc1
  clear hr1 hc1
  have H : (cippuskit_SameInts.l0 k l0 l1 ((l0.length : Int) == (l1.length : Int)) 0) = some r := h
  clear h
  have H' := Aside0.mk H
  clear H
  go_enter Tryd.func27, Tryd.ntmps27
  go_wp2
  repeat (go_quiet (fail); try go_wp2)
  go_loopg [5, 6] k (fun kq v5 v6 w' => ∃ (x5_1 : Bool) (x6_1 : Int), v5 = .bool x5_1 ∧ v6 = .int .i64 x6_1 ∧ Aside0 (cippuskit_SameInts.l0 kq l0 l1 x5_1 x6_1 = some r) ∧ Aside0 (kq ≤ k) ∧ Drawn0 w w')
  case atStart => exact ⟨(((l0.length : Int) == (l1.length : Int))), (0), (by first | rfl | (simp; done) | (simp [*]; done)), (by first | rfl | (simp; done) | (simp [*]; done)), H', ⟨Nat.le_refl _⟩, by repeat (first | exact Drawn0.refl _ | apply Drawn0.step)⟩
  case round =>
    clear H'
    try clear c1
    try clear c2
    try clear p2
    obtain ⟨x5_1, x6_1, rfl, rfl, HA, HK1, ⟨m1, rfl⟩⟩ := hrel
    cases gk with
    | zero => exact absurd HA.out (by simp [cippuskit_SameInts.l0])
    | succ k1 =>
      have H := HA.out
      clear HA
      simp only [cippuskit_SameInts.l0] at H
      by_cases c3 : x5_1 = true
      · subst c3
        have H1 : (if x6_1 < (l0.length : Int) then (if 0 ≤ x6_1 then (if x6_1 < (l1.length : Int) then (cippuskit_SameInts.l0 k1 l0 l1 ((rd l0 x6_1) == (rd l1 x6_1)) (wrap64 (x6_1 + 1))) else (none)) else (none)) else (some true)) = some r := by rw [if_pos rfl] at H; exact H
        clear H
        have H := H1
        clear H1
        by_cases c4 : x6_1 < (l0.length : Int)
        · rw [if_pos c4] at H
          have c4b0 : decide (x6_1 < (l0.length : Int)) = true := decide_eq_true c4
          clear c4
          by_cases c5 : 0 ≤ x6_1
          · rw [if_pos c5] at H
            have c5b0 : decide (0 ≤ x6_1) = true := decide_eq_true c5
            clear c5
            by_cases c6 : x6_1 < (l1.length : Int)
            · rw [if_pos c6] at H
              have c6b0 : decide (x6_1 < (l1.length : Int)) = true := decide_eq_true c6
              clear c6
              have H' := Aside0.mk H
              clear H
              have p107 : 0 ≤ (x6_1 : Int) := of_decide_eq_true (by first | (with_reducible assumption) | assumption)
              have q107 : x6_1 < (l0.length : Int) := of_decide_eq_true (by first | (with_reducible assumption) | assumption)
              obtain ⟨ad107, e107, hx107_0⟩ := Kd.at_int HR0.out x6_1 p107 q107
              cases e107
              replace p107 := eq_true p107
              replace q107 := eq_true q107
              have p108 : 0 ≤ (x6_1 : Int) := of_decide_eq_true (by first | (with_reducible assumption) | assumption)
              have q108 : x6_1 < (l1.length : Int) := of_decide_eq_true (by first | (with_reducible assumption) | assumption)
              obtain ⟨ad108, e108, hx108_0⟩ := Kd.at_int HR1.out x6_1 p108 q108
              cases e108
              replace p108 := eq_true p108
              replace q108 := eq_true q108
              go_wp2
              repeat (go_quiet (fail); try go_wp2)
              go_roundg k1
              case measure => have := HK1.out; omega
              case rel => exact ⟨(((rd l0 x6_1) == (rd l1 x6_1))), (wrap64 (x6_1 + 1)), (by first | rfl | (simp; done) | (simp [*]; done)), (by first | rfl | (simp; done) | (simp [*]; done)), H', ⟨by have := HK1.out; omega⟩, by repeat (first | exact Drawn0.refl _ | apply Drawn0.step)⟩
            · rw [if_neg c6] at H
              exact absurd H (by simp)
          · rw [if_neg c5] at H
            exact absurd H (by simp)
        · rw [if_neg c4] at H
          have c4b0 : decide (x6_1 < (l0.length : Int)) = false := decide_eq_false c4
          clear c4
          obtain rfl := Option.some.inj H
          go_wp2
          repeat (go_quiet (fail); try go_wp2)
          go_ret
          exact ⟨by first | rfl | (simp; done) | (simp [*]; done), by repeat (first | exact Drawn0.refl _ | apply Drawn0.step)⟩
      · replace c3 := Bool.eq_false_iff.mpr c3
        subst c3
        have H1 : (some false) = some r := by rw [if_neg (show ¬ (false = true) by decide)] at H; exact H
        clear H
        have H := H1
        clear H1
        obtain rfl := Option.some.inj H
        go_wp2
        repeat (go_quiet (fail); try go_wp2)
        go_ret
        exact ⟨by first | rfl | (simp; done) | (simp [*]; done), by repeat (first | exact Drawn0.refl _ | apply Drawn0.step)⟩
end Go.Proofs.YtecdjnabmjhakaaDoor.P
namespace Go.Proofs.YtecdjnabmjhakaaDoor.P
open Go.RowKit Go.Proofs.YtecdjnabmjhakaaDoorW.PrintWords Go.Proofs.YtecdjnabmjhakaaDoorW.PrintLast Go.Proofs.YtecdjnabmjhakaaDoorW.PrintMore
attribute [local go_sem] max2_int min2_int max_two min_two max_three min_three max_four min_four   -- for this text's walks alone
set_option linter.unusedVariables false
set_option linter.unusedSimpArgs false
def cippuskit_SameGrids.l0 : Nat → List (List Int) → List (List Int) → Bool → Int → Option (Bool)
  | 0, _, _, _, _ => none
  | k + 1, x0, x1, x5, x6 => if x5 = true then (if x6 < (x0.length : Int) then (if 0 ≤ x6 then (if x6 < (x1.length : Int) then ((cippuskit_SameInts.f k (rd_L4 x0 x6) (rd_L4 x1 x6)).bind fun t111 => (cippuskit_SameGrids.l0 k x0 x1 t111 (wrap64 (x6 + 1)))) else (none)) else (none)) else (some x5)) else (some x5)
def cippuskit_SameGrids.f (k : Nat) (l0 : List (List Int)) (l1 : List (List Int)) : Option (Bool) := cippuskit_SameGrids.l0 k l0 l1 ((l0.length : Int) == (l1.length : Int)) 0
set_option maxHeartbeats 8000000 in
set_option maxRecDepth 100000 in
theorem cippuskit_SameGrids.calls (k : Nat) (A0 : Option Addr) (c0 : Nat) (l0 : List (List Int)) (A1 : Option Addr) (c1 : Nat) (l1 : List (List Int)) (r : Bool) (w : World) (hr0 : Kd.C (Kd.slice 3 (Kd.int .i64)) w A0 l0.length l0) (hc0 : l0.length ≤ c0) (hr1 : Kd.C (Kd.slice 3 (Kd.int .i64)) w A1 l1.length l1) (hc1 : l1.length ≤ c1) (h : cippuskit_SameGrids.f k l0 l1 = some r) :
    Calls Tryd.prog 10 #[.slice A0 l0.length c0, .slice A1 l1.length c1] w fun e w' => e = .returned (.bool r) ∧ Drawn0 w w' := by
  have HR0 := Aside0.mk hr0
  have HC0 := Aside0.mk hc0
  clear hr0 hc0
  have HR1 := Aside0.mk hr1
  have HC1 := Aside0.mk hc1
  clear hr1 hc1
  have H : (cippuskit_SameGrids.l0 k l0 l1 ((l0.length : Int) == (l1.length : Int)) 0) = some r := h
  clear h
  have H' := Aside0.mk H
  clear H
  go_enter Tryd.func10, Tryd.ntmps10
  go_wp2
  repeat (go_quiet (fail); try go_wp2)
  go_loopg [5, 6] k (fun kq v5 v6 w' => ∃ (x5_1 : Bool) (x6_1 : Int), v5 = .bool x5_1 ∧ v6 = .int .i64 x6_1 ∧ Aside0 (cippuskit_SameGrids.l0 kq l0 l1 x5_1 x6_1 = some r) ∧ Aside0 (kq ≤ k) ∧ Drawn0 w w')
  case atStart => exact ⟨(((l0.length : Int) == (l1.length : Int))), (0), (by first | rfl | (simp; done) | (simp [*]; done)), (by first | rfl | (simp; done) | (simp [*]; done)), H', ⟨Nat.le_refl _⟩, by repeat (first | exact Drawn0.refl _ | apply Drawn0.step)⟩
  case round =>
    clear H'
    try clear c1
    try clear p2
    obtain ⟨x5_1, x6_1, rfl, rfl, HA, HK1, ⟨m1, rfl⟩⟩ := hrel
    cases gk with
    | zero => exact absurd HA.out (by simp [cippuskit_SameGrids.l0])
    | succ k1 =>
      have H := HA.out
      clear HA
      simp only [cippuskit_SameGrids.l0] at H
      by_cases c3 : x5_1 = true
      · subst c3
        have H1 : (if x6_1 < (l0.length : Int) then (if 0 ≤ x6_1 then (if x6_1 < (l1.length : Int) then ((cippuskit_SameInts.f k1 (rd_L4 l0 x6_1) (rd_L4 l1 x6_1)).bind fun t111 => (cippuskit_SameGrids.l0 k1 l0 l1 t111 (wrap64 (x6_1 + 1)))) else (none)) else (none)) else (some true)) = some r := by rw [if_pos rfl] at H; exact H
        clear H
        have H := H1
        clear H1
        by_cases c4 : x6_1 < (l0.length : Int)
        · rw [if_pos c4] at H
          have c4b0 : decide (x6_1 < (l0.length : Int)) = true := decide_eq_true c4
          clear c4
          by_cases c5 : 0 ≤ x6_1
          · rw [if_pos c5] at H
            have c5b0 : decide (0 ≤ x6_1) = true := decide_eq_true c5
            clear c5
            by_cases c6 : x6_1 < (l1.length : Int)
            · rw [if_pos c6] at H
              have c6b0 : decide (x6_1 < (l1.length : Int)) = true := decide_eq_true c6
              clear c6
              replace H := Option.bind_eq_some_iff.mp H
              obtain ⟨t111, A70, H⟩ := H
              replace H : (cippuskit_SameGrids.l0 k1 l0 l1 t111 (wrap64 (x6_1 + 1))) = some r := H
              have A7 := Aside0.mk A70
              clear A70
              have H' := Aside0.mk H
              clear H
              have p109 : 0 ≤ (x6_1 : Int) := of_decide_eq_true (by first | (with_reducible assumption) | assumption)
              have q109 : x6_1 < (l0.length : Int) := of_decide_eq_true (by first | (with_reducible assumption) | assumption)
              obtain ⟨ad109, A109_0, c109_0, e109, hx109_0, hl109_0, hi109_0⟩ := at_L4 HR0.out x6_1 p109 q109
              cases e109
              have HR109_0 := Aside0.mk hi109_0
              have HC109_0 := Aside0.mk hl109_0
              clear hi109_0 hl109_0
              replace p109 := eq_true p109
              replace q109 := eq_true q109
              have p110 : 0 ≤ (x6_1 : Int) := of_decide_eq_true (by first | (with_reducible assumption) | assumption)
              have q110 : x6_1 < (l1.length : Int) := of_decide_eq_true (by first | (with_reducible assumption) | assumption)
              obtain ⟨ad110, A110_0, c110_0, e110, hx110_0, hl110_0, hi110_0⟩ := at_L4 HR1.out x6_1 p110 q110
              cases e110
              have HR110_0 := Aside0.mk hi110_0
              have HC110_0 := Aside0.mk hl110_0
              clear hi110_0 hl110_0
              replace p110 := eq_true p110
              replace q110 := eq_true q110
              go_wp2_with (first | (go_at_call 27; (with_reducible refine (cippuskit_SameInts.calls k1 _ _ (rd_L4 l0 x6_1) _ _ (rd_L4 l1 x6_1) t111 _ ?side1 ?side2 ?side3 ?side4 A7.out).mono ?_); (case side1 => repeat (first | exact HR109_0.out | (with_reducible refine Kd.C_alloc ?_ _) | (with_reducible refine Kd.C_drewN ?_ _) | (with_reducible refine Kd.C_drew ?_))); (case side2 => exact HC109_0.out); (case side3 => repeat (first | exact HR110_0.out | (with_reducible refine Kd.C_alloc ?_ _) | (with_reducible refine Kd.C_drewN ?_ _) | (with_reducible refine Kd.C_drew ?_))); (case side4 => exact HC110_0.out); rintro e w' ⟨rfl, ⟨nd, rfl⟩⟩; (try first | exact ⟨rfl, _, World.drewN_drewN _ _ _⟩ | exact ⟨rfl, _, Eq.trans (World.drewN_drewN _ _ _) (congrArg (World.drewN _) (Nat.add_assoc _ _ _))⟩)))
              repeat (go_quiet (first | (go_at_call 27; (with_reducible refine (cippuskit_SameInts.calls k1 _ _ (rd_L4 l0 x6_1) _ _ (rd_L4 l1 x6_1) t111 _ ?side1 ?side2 ?side3 ?side4 A7.out).mono ?_); (case side1 => repeat (first | exact HR109_0.out | (with_reducible refine Kd.C_alloc ?_ _) | (with_reducible refine Kd.C_drewN ?_ _) | (with_reducible refine Kd.C_drew ?_))); (case side2 => exact HC109_0.out); (case side3 => repeat (first | exact HR110_0.out | (with_reducible refine Kd.C_alloc ?_ _) | (with_reducible refine Kd.C_drewN ?_ _) | (with_reducible refine Kd.C_drew ?_))); (case side4 => exact HC110_0.out); rintro e w' ⟨rfl, ⟨nd, rfl⟩⟩; (try first | exact ⟨rfl, _, World.drewN_drewN _ _ _⟩ | exact ⟨rfl, _, Eq.trans (World.drewN_drewN _ _ _) (congrArg (World.drewN _) (Nat.add_assoc _ _ _))⟩))); try go_wp2_with (first | (go_at_call 27; (with_reducible refine (cippuskit_SameInts.calls k1 _ _ (rd_L4 l0 x6_1) _ _ (rd_L4 l1 x6_1) t111 _ ?side1 ?side2 ?side3 ?side4 A7.out).mono ?_); (case side1 => repeat (first | exact HR109_0.out | (with_reducible refine Kd.C_alloc ?_ _) | (with_reducible refine Kd.C_drewN ?_ _) | (with_reducible refine Kd.C_drew ?_))); (case side2 => exact HC109_0.out); (case side3 => repeat (first | exact HR110_0.out | (with_reducible refine Kd.C_alloc ?_ _) | (with_reducible refine Kd.C_drewN ?_ _) | (with_reducible refine Kd.C_drew ?_))); (case side4 => exact HC110_0.out); rintro e w' ⟨rfl, ⟨nd, rfl⟩⟩; (try first | exact ⟨rfl, _, World.drewN_drewN _ _ _⟩ | exact ⟨rfl, _, Eq.trans (World.drewN_drewN _ _ _) (congrArg (World.drewN _) (Nat.add_assoc _ _ _))⟩))))
              go_roundg k1
              case measure => have := HK1.out; omega
              case rel => exact ⟨(t111), (wrap64 (x6_1 + 1)), (by first | rfl | (simp; done) | (simp [*]; done)), (by first | rfl | (simp; done) | (simp [*]; done)), H', ⟨by have := HK1.out; omega⟩, by repeat (first | exact Drawn0.refl _ | apply Drawn0.step)⟩
            · rw [if_neg c6] at H
              exact absurd H (by simp)
          · rw [if_neg c5] at H
            exact absurd H (by simp)
        · rw [if_neg c4] at H
          have c4b0 : decide (x6_1 < (l0.length : Int)) = false := decide_eq_false c4
          clear c4
          obtain rfl := Option.some.inj H
          go_wp2
          repeat (go_quiet (fail); try go_wp2)
          go_ret
          exact ⟨by first | rfl | (simp; done) | (simp [*]; done), by repeat (first | exact Drawn0.refl _ | apply Drawn0.step)⟩
      · replace c3 := Bool.eq_false_iff.mpr c3
        subst c3
        have H1 : (some false) = some r := by rw [if_neg (show ¬ (false = true) by decide)] at H; exact H
        clear H
        have H := H1
        clear H1
        obtain rfl := Option.some.inj H
        go_wp2
        repeat (go_quiet (fail); try go_wp2)
        go_ret
        exact ⟨by first | rfl | (simp; done) | (simp [*]; done), by repeat (first | exact Drawn0.refl _ | apply Drawn0.step)⟩
end Go.Proofs.YtecdjnabmjhakaaDoor.P
namespace Go.Proofs.YtecdjnabmjhakaaDoor.P
open Go.RowKit Go.Proofs.YtecdjnabmjhakaaDoorW.PrintWords Go.Proofs.YtecdjnabmjhakaaDoorW.PrintLast Go.Proofs.YtecdjnabmjhakaaDoorW.PrintMore
attribute [local go_sem] max2_int min2_int max_two min_two max_three min_three max_four min_four   -- for this text's walks alone
set_option linter.unusedVariables false
set_option linter.unusedSimpArgs false
def cippuslaw07_found.f (k : Nat)  : Option (Bool) := (cippuslaw07_copies.f 1 1 true).bind fun t121 => ((stemma_Sources.f k t121).bind fun bt124 => ((cippuslaw07_copies.f 1 0 true).bind fun t128 => ((stemma_Print.f k t128).bind fun bt131 => ((cippuslaw07_copies.f 0 1 true).bind fun t133 => ((stemma_Print.f k t133).bind fun bt136 => ((cippuslaw07_copies.f 1 0 true).bind fun t138 => ((stemma_Fewest.f k t138).bind fun bt141 => (if bt124.2 = 0 then (if bt131.2 = 0 then (if bt136.2 = 0 then (if bt141.2 = 0 then (if bt131.1.toList = ([65, 82, 77, 79] : List UInt8) then (if bt136.1.toList = ([65, 82, 77, 65] : List UInt8) then (if bt141.1 = 2 then ((cippuskit_SameGrids.f k bt124.1 (([(([1] : List Int)), (([3, 3] : List Int)), (([2, 2, 1] : List Int))] : List (List Int)))).bind fun t155 => (some t155)) else (some false)) else (some false)) else (some false)) else (some false)) else (some false)) else (some false)) else (some false)))))))))
set_option maxHeartbeats 8000000 in
set_option maxRecDepth 100000 in
theorem cippuslaw07_found.calls (k : Nat)  (r : Bool) (w : World) (h : cippuslaw07_found.f k  = some r) :
    Calls Tryd.prog 7 #[] w fun e w' => e = .returned (.bool r) ∧ Below w.heap.size w w' := by
  have HB := Aside0.mk (Below.refl w.heap.size w)
  have H : ((cippuslaw07_copies.f 1 1 true).bind fun t121 => ((stemma_Sources.f k t121).bind fun bt124 => ((cippuslaw07_copies.f 1 0 true).bind fun t128 => ((stemma_Print.f k t128).bind fun bt131 => ((cippuslaw07_copies.f 0 1 true).bind fun t133 => ((stemma_Print.f k t133).bind fun bt136 => ((cippuslaw07_copies.f 1 0 true).bind fun t138 => ((stemma_Fewest.f k t138).bind fun bt141 => (if bt124.2 = 0 then (if bt131.2 = 0 then (if bt136.2 = 0 then (if bt141.2 = 0 then (if bt131.1.toList = ([65, 82, 77, 79] : List UInt8) then (if bt136.1.toList = ([65, 82, 77, 65] : List UInt8) then (if bt141.1 = 2 then ((cippuskit_SameGrids.f k bt124.1 (([(([1] : List Int)), (([3, 3] : List Int)), (([2, 2, 1] : List Int))] : List (List Int)))).bind fun t155 => (some t155)) else (some false)) else (some false)) else (some false)) else (some false)) else (some false)) else (some false)) else (some false)))))))))) = some r := h
  clear h
  replace H := Option.bind_eq_some_iff.mp H
  obtain ⟨t121, A10, H⟩ := H
  replace H : ((stemma_Sources.f k t121).bind fun bt124 => ((cippuslaw07_copies.f 1 0 true).bind fun t128 => ((stemma_Print.f k t128).bind fun bt131 => ((cippuslaw07_copies.f 0 1 true).bind fun t133 => ((stemma_Print.f k t133).bind fun bt136 => ((cippuslaw07_copies.f 1 0 true).bind fun t138 => ((stemma_Fewest.f k t138).bind fun bt141 => (if bt124.2 = 0 then (if bt131.2 = 0 then (if bt136.2 = 0 then (if bt141.2 = 0 then (if bt131.1.toList = ([65, 82, 77, 79] : List UInt8) then (if bt136.1.toList = ([65, 82, 77, 65] : List UInt8) then (if bt141.1 = 2 then ((cippuskit_SameGrids.f k bt124.1 (([(([1] : List Int)), (([3, 3] : List Int)), (([2, 2, 1] : List Int))] : List (List Int)))).bind fun t155 => (some t155)) else (some false)) else (some false)) else (some false)) else (some false)) else (some false)) else (some false)) else (some false))))))))) = some r := H
  have A1 := Aside0.mk A10
  clear A10
  replace H := Option.bind_eq_some_iff.mp H
  obtain ⟨⟨t124, t127⟩, A20, H⟩ := H
  replace H : ((cippuslaw07_copies.f 1 0 true).bind fun t128 => ((stemma_Print.f k t128).bind fun bt131 => ((cippuslaw07_copies.f 0 1 true).bind fun t133 => ((stemma_Print.f k t133).bind fun bt136 => ((cippuslaw07_copies.f 1 0 true).bind fun t138 => ((stemma_Fewest.f k t138).bind fun bt141 => (if t127 = 0 then (if bt131.2 = 0 then (if bt136.2 = 0 then (if bt141.2 = 0 then (if bt131.1.toList = ([65, 82, 77, 79] : List UInt8) then (if bt136.1.toList = ([65, 82, 77, 65] : List UInt8) then (if bt141.1 = 2 then ((cippuskit_SameGrids.f k t124 (([(([1] : List Int)), (([3, 3] : List Int)), (([2, 2, 1] : List Int))] : List (List Int)))).bind fun t155 => (some t155)) else (some false)) else (some false)) else (some false)) else (some false)) else (some false)) else (some false)) else (some false)))))))) = some r := H
  have A2 := Aside0.mk A20
  clear A20
  replace H := Option.bind_eq_some_iff.mp H
  obtain ⟨t128, A30, H⟩ := H
  replace H : ((stemma_Print.f k t128).bind fun bt131 => ((cippuslaw07_copies.f 0 1 true).bind fun t133 => ((stemma_Print.f k t133).bind fun bt136 => ((cippuslaw07_copies.f 1 0 true).bind fun t138 => ((stemma_Fewest.f k t138).bind fun bt141 => (if t127 = 0 then (if bt131.2 = 0 then (if bt136.2 = 0 then (if bt141.2 = 0 then (if bt131.1.toList = ([65, 82, 77, 79] : List UInt8) then (if bt136.1.toList = ([65, 82, 77, 65] : List UInt8) then (if bt141.1 = 2 then ((cippuskit_SameGrids.f k t124 (([(([1] : List Int)), (([3, 3] : List Int)), (([2, 2, 1] : List Int))] : List (List Int)))).bind fun t155 => (some t155)) else (some false)) else (some false)) else (some false)) else (some false)) else (some false)) else (some false)) else (some false))))))) = some r := H
  have A3 := Aside0.mk A30
  clear A30
  replace H := Option.bind_eq_some_iff.mp H
  obtain ⟨⟨t131, t132⟩, A40, H⟩ := H
  replace H : ((cippuslaw07_copies.f 0 1 true).bind fun t133 => ((stemma_Print.f k t133).bind fun bt136 => ((cippuslaw07_copies.f 1 0 true).bind fun t138 => ((stemma_Fewest.f k t138).bind fun bt141 => (if t127 = 0 then (if t132 = 0 then (if bt136.2 = 0 then (if bt141.2 = 0 then (if t131.toList = ([65, 82, 77, 79] : List UInt8) then (if bt136.1.toList = ([65, 82, 77, 65] : List UInt8) then (if bt141.1 = 2 then ((cippuskit_SameGrids.f k t124 (([(([1] : List Int)), (([3, 3] : List Int)), (([2, 2, 1] : List Int))] : List (List Int)))).bind fun t155 => (some t155)) else (some false)) else (some false)) else (some false)) else (some false)) else (some false)) else (some false)) else (some false)))))) = some r := H
  have A4 := Aside0.mk A40
  clear A40
  replace H := Option.bind_eq_some_iff.mp H
  obtain ⟨t133, A50, H⟩ := H
  replace H : ((stemma_Print.f k t133).bind fun bt136 => ((cippuslaw07_copies.f 1 0 true).bind fun t138 => ((stemma_Fewest.f k t138).bind fun bt141 => (if t127 = 0 then (if t132 = 0 then (if bt136.2 = 0 then (if bt141.2 = 0 then (if t131.toList = ([65, 82, 77, 79] : List UInt8) then (if bt136.1.toList = ([65, 82, 77, 65] : List UInt8) then (if bt141.1 = 2 then ((cippuskit_SameGrids.f k t124 (([(([1] : List Int)), (([3, 3] : List Int)), (([2, 2, 1] : List Int))] : List (List Int)))).bind fun t155 => (some t155)) else (some false)) else (some false)) else (some false)) else (some false)) else (some false)) else (some false)) else (some false))))) = some r := H
  have A5 := Aside0.mk A50
  clear A50
  replace H := Option.bind_eq_some_iff.mp H
  obtain ⟨⟨t136, t137⟩, A60, H⟩ := H
  replace H : ((cippuslaw07_copies.f 1 0 true).bind fun t138 => ((stemma_Fewest.f k t138).bind fun bt141 => (if t127 = 0 then (if t132 = 0 then (if t137 = 0 then (if bt141.2 = 0 then (if t131.toList = ([65, 82, 77, 79] : List UInt8) then (if t136.toList = ([65, 82, 77, 65] : List UInt8) then (if bt141.1 = 2 then ((cippuskit_SameGrids.f k t124 (([(([1] : List Int)), (([3, 3] : List Int)), (([2, 2, 1] : List Int))] : List (List Int)))).bind fun t155 => (some t155)) else (some false)) else (some false)) else (some false)) else (some false)) else (some false)) else (some false)) else (some false)))) = some r := H
  have A6 := Aside0.mk A60
  clear A60
  replace H := Option.bind_eq_some_iff.mp H
  obtain ⟨t138, A70, H⟩ := H
  replace H : ((stemma_Fewest.f k t138).bind fun bt141 => (if t127 = 0 then (if t132 = 0 then (if t137 = 0 then (if bt141.2 = 0 then (if t131.toList = ([65, 82, 77, 79] : List UInt8) then (if t136.toList = ([65, 82, 77, 65] : List UInt8) then (if bt141.1 = 2 then ((cippuskit_SameGrids.f k t124 (([(([1] : List Int)), (([3, 3] : List Int)), (([2, 2, 1] : List Int))] : List (List Int)))).bind fun t155 => (some t155)) else (some false)) else (some false)) else (some false)) else (some false)) else (some false)) else (some false)) else (some false))) = some r := H
  have A7 := Aside0.mk A70
  clear A70
  replace H := Option.bind_eq_some_iff.mp H
  obtain ⟨⟨t141, t142⟩, A80, H⟩ := H
  replace H : (if t127 = 0 then (if t132 = 0 then (if t137 = 0 then (if t142 = 0 then (if t131.toList = ([65, 82, 77, 79] : List UInt8) then (if t136.toList = ([65, 82, 77, 65] : List UInt8) then (if t141 = 2 then ((cippuskit_SameGrids.f k t124 (([(([1] : List Int)), (([3, 3] : List Int)), (([2, 2, 1] : List Int))] : List (List Int)))).bind fun t155 => (some t155)) else (some false)) else (some false)) else (some false)) else (some false)) else (some false)) else (some false)) else (some false)) = some r := H
  have A8 := Aside0.mk A80
  clear A80
  by_cases c9 : t127 = 0
  · rw [if_pos c9] at H
    have c9b0 : (t127 == 0) = true := beq_iff_eq.mpr c9
    have c9b1 : (t127 != 0) = false := bne_eq_false_iff_eq.mpr c9
    clear c9
    by_cases c10 : t132 = 0
    · rw [if_pos c10] at H
      have c10b0 : (t132 == 0) = true := beq_iff_eq.mpr c10
      have c10b1 : (t132 != 0) = false := bne_eq_false_iff_eq.mpr c10
      clear c10
      by_cases c11 : t137 = 0
      · rw [if_pos c11] at H
        have c11b0 : (t137 == 0) = true := beq_iff_eq.mpr c11
        have c11b1 : (t137 != 0) = false := bne_eq_false_iff_eq.mpr c11
        clear c11
        by_cases c12 : t142 = 0
        · rw [if_pos c12] at H
          have c12b0 : (t142 == 0) = true := beq_iff_eq.mpr c12
          have c12b1 : (t142 != 0) = false := bne_eq_false_iff_eq.mpr c12
          clear c12
          by_cases c13 : t131.toList = ([65, 82, 77, 79] : List UInt8)
          · rw [if_pos c13] at H
            have c13b0 : (t131.toList == ([65, 82, 77, 79] : List UInt8)) = true := beq_iff_eq.mpr c13
            have c13b1 : (t131.toList != ([65, 82, 77, 79] : List UInt8)) = false := bne_eq_false_iff_eq.mpr c13
            clear c13
            by_cases c14 : t136.toList = ([65, 82, 77, 65] : List UInt8)
            · rw [if_pos c14] at H
              have c14b0 : (t136.toList == ([65, 82, 77, 65] : List UInt8)) = true := beq_iff_eq.mpr c14
              have c14b1 : (t136.toList != ([65, 82, 77, 65] : List UInt8)) = false := bne_eq_false_iff_eq.mpr c14
              clear c14
              by_cases c15 : t141 = 2
              · rw [if_pos c15] at H
                have c15b0 : (t141 == 2) = true := beq_iff_eq.mpr c15
                have c15b1 : (t141 != 2) = false := bne_eq_false_iff_eq.mpr c15
                clear c15
                obtain ⟨y143, hy143⟩ : ∃ y_ : List Int, y_ = (([1] : List Int)) := ⟨_, rfl⟩
                replace H : ((cippuskit_SameGrids.f k t124 (([y143, (([3, 3] : List Int)), (([2, 2, 1] : List Int))] : List (List Int)))).bind fun t155 => (some t155)) = some r := by first | (rw [hy143]; with_reducible exact H) | (have H2_ := (Option.bind_some _ _).symm.trans H; rw [hy143]; with_reducible exact H2_) | (have H2_ := (Option.bind_some _ _).symm.trans H; with_reducible exact H2_) | with_reducible exact H | (rw [hy143]; exact H) | exact H
                have Ny143 := Aside0.mk hy143
                clear hy143
                obtain ⟨y146, hy146⟩ : ∃ y_ : List Int, y_ = (([3, 3] : List Int)) := ⟨_, rfl⟩
                replace H : ((cippuskit_SameGrids.f k t124 (([y143, y146, (([2, 2, 1] : List Int))] : List (List Int)))).bind fun t155 => (some t155)) = some r := by first | (rw [hy146]; with_reducible exact H) | (have H2_ := (Option.bind_some _ _).symm.trans H; rw [hy146]; with_reducible exact H2_) | (have H2_ := (Option.bind_some _ _).symm.trans H; with_reducible exact H2_) | with_reducible exact H | (rw [hy146]; exact H) | exact H
                have Ny146 := Aside0.mk hy146
                clear hy146
                obtain ⟨y149, hy149⟩ : ∃ y_ : List Int, y_ = (([2, 2, 1] : List Int)) := ⟨_, rfl⟩
                replace H : ((cippuskit_SameGrids.f k t124 (([y143, y146, y149] : List (List Int)))).bind fun t155 => (some t155)) = some r := by first | (rw [hy149]; with_reducible exact H) | (have H2_ := (Option.bind_some _ _).symm.trans H; rw [hy149]; with_reducible exact H2_) | (have H2_ := (Option.bind_some _ _).symm.trans H; with_reducible exact H2_) | with_reducible exact H | (rw [hy149]; exact H) | exact H
                have Ny149 := Aside0.mk hy149
                clear hy149
                obtain ⟨y152, hy152⟩ : ∃ y_ : List (List Int), y_ = (([y143, y146, y149] : List (List Int))) := ⟨_, rfl⟩
                replace H : ((cippuskit_SameGrids.f k t124 y152).bind fun t155 => (some t155)) = some r := by first | (rw [hy152]; with_reducible exact H) | (have H2_ := (Option.bind_some _ _).symm.trans H; rw [hy152]; with_reducible exact H2_) | (have H2_ := (Option.bind_some _ _).symm.trans H; with_reducible exact H2_) | with_reducible exact H | (rw [hy152]; exact H) | exact H
                have Ny152 := Aside0.mk hy152
                clear hy152
                replace H := Option.bind_eq_some_iff.mp H
                obtain ⟨t155, A160, H⟩ := H
                replace H : (some t155) = some r := H
                have A16 := Aside0.mk A160
                clear A160
                obtain rfl := Option.some.inj H
                go_enter Tryd.func7, Tryd.ntmps7
                go_wp2_with (first | ((with_reducible refine gate_callee (f := 6) rfl ?_); refine goesL_ (some 10) rfl rfl Tryd.func6 (by kernel_rfl) rfl #[.int .i64 1, .int .i64 1, .bool true] rfl (by (try simp only [List.map_toArray, List.map_cons, List.map_nil]); first | done | rfl | (simp only [List.length_drop, List.length_take]; rfl)) ?_; (with_reducible refine (cippuslaw07_copies.calls 1 1 true t121 _ A1.out).mono ?_); rintro e w17 ⟨v122, rfl, ho0, hb⟩; refine ⟨_, rfl, ?_⟩; have n0_ := Aside0.mk (Kd.R_lower ho0 (below_size (by repeat (first | (with_reducible first | exact HB.out | apply below_alloc | apply pw_below_drewN | apply below_drew1) | exact HB.out)))); have n1_ := Aside0.mk (below_step (by repeat (first | (with_reducible first | exact HB.out | apply below_alloc | apply pw_below_drewN | apply below_drew1) | exact HB.out)) hb); clear HB; have HO123 := n0_; have HB := n1_; clear n0_ n1_; (try clear hb); (try clear hb2); (try clear hk); (try clear hi); (try clear ho0); obtain ⟨Ao18, co18, eo18⟩ := Kd.R_slice HO123.out; subst eo18) | ((with_reducible refine gate_callee (f := 9) rfl ?_); refine goesL_ (some 11) rfl rfl Tryd.func9 (by kernel_rfl) rfl #[.slice Ao18 t121.length co18] rfl (by (try simp only [List.map_toArray, List.map_cons, List.map_nil]); first | done | rfl | (simp only [List.length_drop, List.length_take]; rfl)) ?_; (with_reducible refine (stemma_Sources.calls k _ _ t121 t124 t127 _ ?side1 ?side2 A2.out).mono ?_); (case side1 => repeat (first | exact (Kd.R_reads' HO123.out).2.2 | (with_reducible refine Kd.C_alloc ?_ _) | (with_reducible refine Kd.C_drewN ?_ _) | (with_reducible refine Kd.C_drew ?_))); (case side2 => exact (Kd.R_reads' HO123.out).2.1); rintro e w19 ⟨v125, rfl, ho0, hb⟩; refine ⟨_, rfl, ?_⟩; have n0_ := Aside0.mk (Kd.R_below (by (with_reducible repeat (first | apply Kd.R_alloc | apply Kd.R_drewN | apply Kd.R_drew)); exact HO123.out) hb); have n1_ := Aside0.mk (Kd.N_lower (Kd.N_mono (ok' := fun k_ => some k_ ≠ (.slice Ao18 t121.length co18 : Value).ownBlock) ho0 (fun k_ hk_ => (Kd.fresh' (Kd.R_lt (by (with_reducible repeat (first | apply Kd.R_alloc | apply Kd.R_drewN | apply Kd.R_drew)); exact HO123.out)) k_ hk_))) (below_size (by repeat (first | (with_reducible first | exact HB.out | apply below_alloc | apply pw_below_drewN | apply below_drew1) | exact HB.out)))); have n2_ := Aside0.mk (below_step (by repeat (first | (with_reducible first | exact HB.out | apply below_alloc | apply pw_below_drewN | apply below_drew1) | exact HB.out)) hb); clear HO123; clear HB; have HO123 := n0_; have HO126 := n1_; have HB := n2_; clear n0_ n1_ n2_; (try clear hb); (try clear hb2); (try clear hk); (try clear hi); (try clear ho0)) | ((with_reducible refine gate_callee (f := 6) rfl ?_); refine goesL_ (some 15) rfl rfl Tryd.func6 (by kernel_rfl) rfl #[.int .i64 1, .int .i64 0, .bool true] rfl (by (try simp only [List.map_toArray, List.map_cons, List.map_nil]); first | done | rfl | (simp only [List.length_drop, List.length_take]; rfl)) ?_; (with_reducible refine (cippuslaw07_copies.calls 1 0 true t128 _ A3.out).mono ?_); rintro e w20 ⟨v129, rfl, ho0, hb⟩; refine ⟨_, rfl, ?_⟩; have n0_ := Aside0.mk (Kd.R_elder' (by (with_reducible repeat (first | apply Kd.R_alloc | apply Kd.R_drewN | apply Kd.R_drew)); exact HO123.out) (Kd.R_base ho0) hb); have n1_ := Aside0.mk (Kd.N_elder' (by (with_reducible repeat (first | apply Kd.N_alloc | apply Kd.N_drewN | apply Kd.N_drew)); exact HO126.out) (Kd.R_base ho0) hb); have n2_ := Aside0.mk (Kd.R_lower (Kd.R_new' ho0 (Kd.R_lt (by (with_reducible repeat (first | apply Kd.R_alloc | apply Kd.R_drewN | apply Kd.R_drew)); exact HO123.out))) (below_size (by repeat (first | (with_reducible first | exact HB.out | apply below_alloc | apply pw_below_drewN | apply below_drew1) | exact HB.out)))); have n3_ := Aside0.mk (below_step (by repeat (first | (with_reducible first | exact HB.out | apply below_alloc | apply pw_below_drewN | apply below_drew1) | exact HB.out)) hb); clear HO123; clear HO126; clear HB; have HO123 := n0_; have HO126 := n1_; have HO130 := n2_; have HB := n3_; clear n0_ n1_ n2_ n3_; (try clear hb); (try clear hb2); (try clear hk); (try clear hi); (try clear ho0); obtain ⟨Ao21, co21, eo21⟩ := Kd.R_slice HO130.out; subst eo21) | ((with_reducible refine gate_callee (f := 13) rfl ?_); refine goesL_ (some 16) rfl rfl Tryd.func13 (by kernel_rfl) rfl #[.slice Ao21 t128.length co21] rfl (by (try simp only [List.map_toArray, List.map_cons, List.map_nil]); first | done | rfl | (simp only [List.length_drop, List.length_take]; rfl)) ?_; (with_reducible refine (stemma_Print.calls k _ _ t128 t131 t132 _ ?side1 ?side2 A4.out).mono ?_); (case side1 => repeat (first | exact (Kd.R_reads' HO130.out).2.2 | (with_reducible refine Kd.C_alloc ?_ _) | (with_reducible refine Kd.C_drewN ?_ _) | (with_reducible refine Kd.C_drew ?_))); (case side2 => exact (Kd.R_reads' HO130.out).2.1); rintro e w22 ⟨rfl, hb⟩; refine ⟨_, rfl, ?_⟩; have n0_ := Aside0.mk (Kd.R_below (by (with_reducible repeat (first | apply Kd.R_alloc | apply Kd.R_drewN | apply Kd.R_drew)); exact HO123.out) hb); have n1_ := Aside0.mk (Kd.N_below (by (with_reducible repeat (first | apply Kd.N_alloc | apply Kd.N_drewN | apply Kd.N_drew)); exact HO126.out) hb); have n2_ := Aside0.mk (Kd.R_below (by (with_reducible repeat (first | apply Kd.R_alloc | apply Kd.R_drewN | apply Kd.R_drew)); exact HO130.out) hb); have n3_ := Aside0.mk (below_step (by repeat (first | (with_reducible first | exact HB.out | apply below_alloc | apply pw_below_drewN | apply below_drew1) | exact HB.out)) hb); clear HO123; clear HO126; clear HO130; clear HB; have HO123 := n0_; have HO126 := n1_; have HO130 := n2_; have HB := n3_; clear n0_ n1_ n2_ n3_; (try clear hb); (try clear hb2); (try clear hk); (try clear hi)) | ((with_reducible refine gate_callee (f := 6) rfl ?_); refine goesL_ (some 20) rfl rfl Tryd.func6 (by kernel_rfl) rfl #[.int .i64 0, .int .i64 1, .bool true] rfl (by (try simp only [List.map_toArray, List.map_cons, List.map_nil]); first | done | rfl | (simp only [List.length_drop, List.length_take]; rfl)) ?_; (with_reducible refine (cippuslaw07_copies.calls 0 1 true t133 _ A5.out).mono ?_); rintro e w23 ⟨v134, rfl, ho0, hb⟩; refine ⟨_, rfl, ?_⟩; have n0_ := Aside0.mk (Kd.R_elder' (by (with_reducible repeat (first | apply Kd.R_alloc | apply Kd.R_drewN | apply Kd.R_drew)); exact HO123.out) (Kd.R_base ho0) hb); have n1_ := Aside0.mk (Kd.N_elder' (by (with_reducible repeat (first | apply Kd.N_alloc | apply Kd.N_drewN | apply Kd.N_drew)); exact HO126.out) (Kd.R_base ho0) hb); have n2_ := Aside0.mk (Kd.R_elder' (by (with_reducible repeat (first | apply Kd.R_alloc | apply Kd.R_drewN | apply Kd.R_drew)); exact HO130.out) (Kd.R_base ho0) hb); have n3_ := Aside0.mk (Kd.R_lower (Kd.R_new' (Kd.R_new' ho0 (Kd.R_lt (by (with_reducible repeat (first | apply Kd.R_alloc | apply Kd.R_drewN | apply Kd.R_drew)); exact HO123.out))) (Kd.R_lt (by (with_reducible repeat (first | apply Kd.R_alloc | apply Kd.R_drewN | apply Kd.R_drew)); exact HO130.out))) (below_size (by repeat (first | (with_reducible first | exact HB.out | apply below_alloc | apply pw_below_drewN | apply below_drew1) | exact HB.out)))); have n4_ := Aside0.mk (below_step (by repeat (first | (with_reducible first | exact HB.out | apply below_alloc | apply pw_below_drewN | apply below_drew1) | exact HB.out)) hb); clear HO123; clear HO126; clear HO130; clear HB; have HO123 := n0_; have HO126 := n1_; have HO130 := n2_; have HO135 := n3_; have HB := n4_; clear n0_ n1_ n2_ n3_ n4_; (try clear hb); (try clear hb2); (try clear hk); (try clear hi); (try clear ho0); obtain ⟨Ao24, co24, eo24⟩ := Kd.R_slice HO135.out; subst eo24) | ((with_reducible refine gate_callee (f := 13) rfl ?_); refine goesL_ (some 21) rfl rfl Tryd.func13 (by kernel_rfl) rfl #[.slice Ao24 t133.length co24] rfl (by (try simp only [List.map_toArray, List.map_cons, List.map_nil]); first | done | rfl | (simp only [List.length_drop, List.length_take]; rfl)) ?_; (with_reducible refine (stemma_Print.calls k _ _ t133 t136 t137 _ ?side1 ?side2 A6.out).mono ?_); (case side1 => repeat (first | exact (Kd.R_reads' HO135.out).2.2 | (with_reducible refine Kd.C_alloc ?_ _) | (with_reducible refine Kd.C_drewN ?_ _) | (with_reducible refine Kd.C_drew ?_))); (case side2 => exact (Kd.R_reads' HO135.out).2.1); rintro e w25 ⟨rfl, hb⟩; refine ⟨_, rfl, ?_⟩; have n0_ := Aside0.mk (Kd.R_below (by (with_reducible repeat (first | apply Kd.R_alloc | apply Kd.R_drewN | apply Kd.R_drew)); exact HO123.out) hb); have n1_ := Aside0.mk (Kd.N_below (by (with_reducible repeat (first | apply Kd.N_alloc | apply Kd.N_drewN | apply Kd.N_drew)); exact HO126.out) hb); have n2_ := Aside0.mk (Kd.R_below (by (with_reducible repeat (first | apply Kd.R_alloc | apply Kd.R_drewN | apply Kd.R_drew)); exact HO130.out) hb); have n3_ := Aside0.mk (Kd.R_below (by (with_reducible repeat (first | apply Kd.R_alloc | apply Kd.R_drewN | apply Kd.R_drew)); exact HO135.out) hb); have n4_ := Aside0.mk (below_step (by repeat (first | (with_reducible first | exact HB.out | apply below_alloc | apply pw_below_drewN | apply below_drew1) | exact HB.out)) hb); clear HO123; clear HO126; clear HO130; clear HO135; clear HB; have HO123 := n0_; have HO126 := n1_; have HO130 := n2_; have HO135 := n3_; have HB := n4_; clear n0_ n1_ n2_ n3_ n4_; (try clear hb); (try clear hb2); (try clear hk); (try clear hi)) | ((with_reducible refine gate_callee (f := 6) rfl ?_); refine goesL_ (some 25) rfl rfl Tryd.func6 (by kernel_rfl) rfl #[.int .i64 1, .int .i64 0, .bool true] rfl (by (try simp only [List.map_toArray, List.map_cons, List.map_nil]); first | done | rfl | (simp only [List.length_drop, List.length_take]; rfl)) ?_; (with_reducible refine (cippuslaw07_copies.calls 1 0 true t138 _ A7.out).mono ?_); rintro e w26 ⟨v139, rfl, ho0, hb⟩; refine ⟨_, rfl, ?_⟩; have n0_ := Aside0.mk (Kd.R_elder' (by (with_reducible repeat (first | apply Kd.R_alloc | apply Kd.R_drewN | apply Kd.R_drew)); exact HO123.out) (Kd.R_base ho0) hb); have n1_ := Aside0.mk (Kd.N_elder' (by (with_reducible repeat (first | apply Kd.N_alloc | apply Kd.N_drewN | apply Kd.N_drew)); exact HO126.out) (Kd.R_base ho0) hb); have n2_ := Aside0.mk (Kd.R_elder' (by (with_reducible repeat (first | apply Kd.R_alloc | apply Kd.R_drewN | apply Kd.R_drew)); exact HO130.out) (Kd.R_base ho0) hb); have n3_ := Aside0.mk (Kd.R_elder' (by (with_reducible repeat (first | apply Kd.R_alloc | apply Kd.R_drewN | apply Kd.R_drew)); exact HO135.out) (Kd.R_base ho0) hb); have n4_ := Aside0.mk (Kd.R_lower (Kd.R_new' (Kd.R_new' (Kd.R_new' ho0 (Kd.R_lt (by (with_reducible repeat (first | apply Kd.R_alloc | apply Kd.R_drewN | apply Kd.R_drew)); exact HO123.out))) (Kd.R_lt (by (with_reducible repeat (first | apply Kd.R_alloc | apply Kd.R_drewN | apply Kd.R_drew)); exact HO130.out))) (Kd.R_lt (by (with_reducible repeat (first | apply Kd.R_alloc | apply Kd.R_drewN | apply Kd.R_drew)); exact HO135.out))) (below_size (by repeat (first | (with_reducible first | exact HB.out | apply below_alloc | apply pw_below_drewN | apply below_drew1) | exact HB.out)))); have n5_ := Aside0.mk (below_step (by repeat (first | (with_reducible first | exact HB.out | apply below_alloc | apply pw_below_drewN | apply below_drew1) | exact HB.out)) hb); clear HO123; clear HO126; clear HO130; clear HO135; clear HB; have HO123 := n0_; have HO126 := n1_; have HO130 := n2_; have HO135 := n3_; have HO140 := n4_; have HB := n5_; clear n0_ n1_ n2_ n3_ n4_ n5_; (try clear hb); (try clear hb2); (try clear hk); (try clear hi); (try clear ho0); obtain ⟨Ao27, co27, eo27⟩ := Kd.R_slice HO140.out; subst eo27) | ((with_reducible refine gate_callee (f := 14) rfl ?_); refine goesL_ (some 26) rfl rfl Tryd.func14 (by kernel_rfl) rfl #[.slice Ao27 t138.length co27] rfl (by (try simp only [List.map_toArray, List.map_cons, List.map_nil]); first | done | rfl | (simp only [List.length_drop, List.length_take]; rfl)) ?_; (with_reducible refine (stemma_Fewest.calls k _ _ t138 t141 t142 _ ?side1 ?side2 A8.out).mono ?_); (case side1 => repeat (first | exact (Kd.R_reads' HO140.out).2.2 | (with_reducible refine Kd.C_alloc ?_ _) | (with_reducible refine Kd.C_drewN ?_ _) | (with_reducible refine Kd.C_drew ?_))); (case side2 => exact (Kd.R_reads' HO140.out).2.1); rintro e w28 ⟨rfl, hb⟩; refine ⟨_, rfl, ?_⟩; have n0_ := Aside0.mk (Kd.R_below (by (with_reducible repeat (first | apply Kd.R_alloc | apply Kd.R_drewN | apply Kd.R_drew)); exact HO123.out) hb); have n1_ := Aside0.mk (Kd.N_below (by (with_reducible repeat (first | apply Kd.N_alloc | apply Kd.N_drewN | apply Kd.N_drew)); exact HO126.out) hb); have n2_ := Aside0.mk (Kd.R_below (by (with_reducible repeat (first | apply Kd.R_alloc | apply Kd.R_drewN | apply Kd.R_drew)); exact HO130.out) hb); have n3_ := Aside0.mk (Kd.R_below (by (with_reducible repeat (first | apply Kd.R_alloc | apply Kd.R_drewN | apply Kd.R_drew)); exact HO135.out) hb); have n4_ := Aside0.mk (Kd.R_below (by (with_reducible repeat (first | apply Kd.R_alloc | apply Kd.R_drewN | apply Kd.R_drew)); exact HO140.out) hb); have n5_ := Aside0.mk (below_step (by repeat (first | (with_reducible first | exact HB.out | apply below_alloc | apply pw_below_drewN | apply below_drew1) | exact HB.out)) hb); clear HO123; clear HO126; clear HO130; clear HO135; clear HO140; clear HB; have HO123 := n0_; have HO126 := n1_; have HO130 := n2_; have HO135 := n3_; have HO140 := n4_; have HB := n5_; clear n0_ n1_ n2_ n3_ n4_ n5_; (try clear hb); (try clear hb2); (try clear hk); (try clear hi)) | ((with_reducible refine gate_dst (N := 57) rfl ?_); (try (refine gate_guard (by rfl) ?_; dsimp only)); refine Kd.R_lit (Kd.int .i64) _ 3 ?hg (N := 57) ?hd (xs := ([1] : List Int)) (inner := [.int .i64 1]) (ok := fun _ => True) (okp := fun _ => True) ?hr ?hp (fun _ hk => hk) trivial (Below.refl _ _) (Nat.le_refl _) (by simp) ?_; (case hd => rfl); (case hg => rfl); (case hr => first | (go_simp; done) | (go_simp; rfl)); (case hp => exact (Reps.one (show Kd.M (Kd.int .i64) _ _ _ 1 [.int .i64 1] from rfl) (Reps.none _ _))); intro v144 w29 ho30 hb hg_ hnew_; clear hg_ hnew_; (first | rw [← Ny143.out] at ho30 | (simp only [Int.reduceToNat] at ho30; rw [← Ny143.out] at ho30)); have n0_ := Aside0.mk (Kd.R_below (by (with_reducible repeat (first | apply Kd.R_alloc | apply Kd.R_drewN | apply Kd.R_drew)); exact HO123.out) hb); have n1_ := Aside0.mk (Kd.N_elder' (by (with_reducible repeat (first | apply Kd.N_alloc | apply Kd.N_drewN | apply Kd.N_drew)); exact HO126.out) (Kd.R_base ho30) hb); have n2_ := Aside0.mk (Kd.R_below (by (with_reducible repeat (first | apply Kd.R_alloc | apply Kd.R_drewN | apply Kd.R_drew)); exact HO130.out) hb); have n3_ := Aside0.mk (Kd.R_below (by (with_reducible repeat (first | apply Kd.R_alloc | apply Kd.R_drewN | apply Kd.R_drew)); exact HO135.out) hb); have n4_ := Aside0.mk (Kd.R_below (by (with_reducible repeat (first | apply Kd.R_alloc | apply Kd.R_drewN | apply Kd.R_drew)); exact HO140.out) hb); have n5_ := Aside0.mk (Kd.R_lower ho30 (below_size (by repeat (first | (with_reducible first | exact HB.out | apply below_alloc | apply pw_below_drewN | apply below_drew1) | exact HB.out)))); have n6_ := Aside0.mk (below_step (by repeat (first | (with_reducible first | exact HB.out | apply below_alloc | apply pw_below_drewN | apply below_drew1) | exact HB.out)) hb); clear HO123; clear HO126; clear HO130; clear HO135; clear HO140; clear HB; have HO123 := n0_; have HO126 := n1_; have HO130 := n2_; have HO135 := n3_; have HO140 := n4_; have HO145 := n5_; have HB := n6_; clear n0_ n1_ n2_ n3_ n4_ n5_ n6_; clear hb ho30) | ((with_reducible refine gate_dst (N := 58) rfl ?_); (try (refine gate_guard (by rfl) ?_; dsimp only)); refine Kd.R_lit (Kd.int .i64) _ 3 ?hg (N := 58) ?hd (xs := ([3, 3] : List Int)) (inner := [.int .i64 3, .int .i64 3]) (ok := fun _ => True) (okp := fun _ => True) ?hr ?hp (fun _ hk => hk) trivial (Below.refl _ _) (Nat.le_refl _) (by simp) ?_; (case hd => rfl); (case hg => rfl); (case hr => first | (go_simp; done) | (go_simp; rfl)); (case hp => exact (Reps.one (show Kd.M (Kd.int .i64) _ _ _ 3 [.int .i64 3] from rfl) (Reps.one (show Kd.M (Kd.int .i64) _ _ _ 3 [.int .i64 3] from rfl) (Reps.none _ _)))); intro v147 w31 ho32 hb hg_ hnew_; clear hg_ hnew_; (first | rw [← Ny146.out] at ho32 | (simp only [Int.reduceToNat] at ho32; rw [← Ny146.out] at ho32)); have n0_ := Aside0.mk (Kd.R_below (by (with_reducible repeat (first | apply Kd.R_alloc | apply Kd.R_drewN | apply Kd.R_drew)); exact HO123.out) hb); have n1_ := Aside0.mk (Kd.N_elder' (by (with_reducible repeat (first | apply Kd.N_alloc | apply Kd.N_drewN | apply Kd.N_drew)); exact HO126.out) (Kd.R_base ho32) hb); have n2_ := Aside0.mk (Kd.R_below (by (with_reducible repeat (first | apply Kd.R_alloc | apply Kd.R_drewN | apply Kd.R_drew)); exact HO130.out) hb); have n3_ := Aside0.mk (Kd.R_below (by (with_reducible repeat (first | apply Kd.R_alloc | apply Kd.R_drewN | apply Kd.R_drew)); exact HO135.out) hb); have n4_ := Aside0.mk (Kd.R_below (by (with_reducible repeat (first | apply Kd.R_alloc | apply Kd.R_drewN | apply Kd.R_drew)); exact HO140.out) hb); have n5_ := Aside0.mk (Kd.R_elder' (by (with_reducible repeat (first | apply Kd.R_alloc | apply Kd.R_drewN | apply Kd.R_drew)); exact HO145.out) (Kd.R_base ho32) hb); have n6_ := Aside0.mk (Kd.R_lower (Kd.R_new' ho32 (Kd.R_lt (by (with_reducible repeat (first | apply Kd.R_alloc | apply Kd.R_drewN | apply Kd.R_drew)); exact HO145.out))) (below_size (by repeat (first | (with_reducible first | exact HB.out | apply below_alloc | apply pw_below_drewN | apply below_drew1) | exact HB.out)))); have n7_ := Aside0.mk (below_step (by repeat (first | (with_reducible first | exact HB.out | apply below_alloc | apply pw_below_drewN | apply below_drew1) | exact HB.out)) hb); clear HO123; clear HO126; clear HO130; clear HO135; clear HO140; clear HO145; clear HB; have HO123 := n0_; have HO126 := n1_; have HO130 := n2_; have HO135 := n3_; have HO140 := n4_; have HO145 := n5_; have HO148 := n6_; have HB := n7_; clear n0_ n1_ n2_ n3_ n4_ n5_ n6_ n7_; clear hb ho32) | ((with_reducible refine gate_dst (N := 59) rfl ?_); (try (refine gate_guard (by rfl) ?_; dsimp only)); refine Kd.R_lit (Kd.int .i64) _ 3 ?hg (N := 59) ?hd (xs := ([2, 2, 1] : List Int)) (inner := [.int .i64 2, .int .i64 2, .int .i64 1]) (ok := fun _ => True) (okp := fun _ => True) ?hr ?hp (fun _ hk => hk) trivial (Below.refl _ _) (Nat.le_refl _) (by simp) ?_; (case hd => rfl); (case hg => rfl); (case hr => first | (go_simp; done) | (go_simp; rfl)); (case hp => exact (Reps.one (show Kd.M (Kd.int .i64) _ _ _ 2 [.int .i64 2] from rfl) (Reps.one (show Kd.M (Kd.int .i64) _ _ _ 2 [.int .i64 2] from rfl) (Reps.one (show Kd.M (Kd.int .i64) _ _ _ 1 [.int .i64 1] from rfl) (Reps.none _ _))))); intro v150 w33 ho34 hb hg_ hnew_; clear hg_ hnew_; (first | rw [← Ny149.out] at ho34 | (simp only [Int.reduceToNat] at ho34; rw [← Ny149.out] at ho34)); have n0_ := Aside0.mk (Kd.R_below (by (with_reducible repeat (first | apply Kd.R_alloc | apply Kd.R_drewN | apply Kd.R_drew)); exact HO123.out) hb); have n1_ := Aside0.mk (Kd.N_elder' (by (with_reducible repeat (first | apply Kd.N_alloc | apply Kd.N_drewN | apply Kd.N_drew)); exact HO126.out) (Kd.R_base ho34) hb); have n2_ := Aside0.mk (Kd.R_below (by (with_reducible repeat (first | apply Kd.R_alloc | apply Kd.R_drewN | apply Kd.R_drew)); exact HO130.out) hb); have n3_ := Aside0.mk (Kd.R_below (by (with_reducible repeat (first | apply Kd.R_alloc | apply Kd.R_drewN | apply Kd.R_drew)); exact HO135.out) hb); have n4_ := Aside0.mk (Kd.R_below (by (with_reducible repeat (first | apply Kd.R_alloc | apply Kd.R_drewN | apply Kd.R_drew)); exact HO140.out) hb); have n5_ := Aside0.mk (Kd.R_elder' (by (with_reducible repeat (first | apply Kd.R_alloc | apply Kd.R_drewN | apply Kd.R_drew)); exact HO145.out) (Kd.R_base ho34) hb); have n6_ := Aside0.mk (Kd.R_elder' (by (with_reducible repeat (first | apply Kd.R_alloc | apply Kd.R_drewN | apply Kd.R_drew)); exact HO148.out) (Kd.R_base ho34) hb); have n7_ := Aside0.mk (Kd.R_lower (Kd.R_new' (Kd.R_new' ho34 (Kd.R_lt (by (with_reducible repeat (first | apply Kd.R_alloc | apply Kd.R_drewN | apply Kd.R_drew)); exact HO145.out))) (Kd.R_lt (by (with_reducible repeat (first | apply Kd.R_alloc | apply Kd.R_drewN | apply Kd.R_drew)); exact HO148.out))) (below_size (by repeat (first | (with_reducible first | exact HB.out | apply below_alloc | apply pw_below_drewN | apply below_drew1) | exact HB.out)))); have n8_ := Aside0.mk (below_step (by repeat (first | (with_reducible first | exact HB.out | apply below_alloc | apply pw_below_drewN | apply below_drew1) | exact HB.out)) hb); clear HO123; clear HO126; clear HO130; clear HO135; clear HO140; clear HO145; clear HO148; clear HB; have HO123 := n0_; have HO126 := n1_; have HO130 := n2_; have HO135 := n3_; have HO140 := n4_; have HO145 := n5_; have HO148 := n6_; have HO151 := n7_; have HB := n8_; clear n0_ n1_ n2_ n3_ n4_ n5_ n6_ n7_ n8_; clear hb ho34; obtain ⟨Ao35, co35, eo35⟩ := Kd.R_slice HO145.out; subst eo35; obtain ⟨Ao36, co36, eo36⟩ := Kd.R_slice HO148.out; subst eo36; obtain ⟨Ao37, co37, eo37⟩ := Kd.R_slice HO151.out; subst eo37) | ((with_reducible refine gate_dst (N := 60) rfl ?_); (try (refine gate_guard (by rfl) ?_; dsimp only)); refine Kd.N_lit (Kd.slice 3 (Kd.int .i64)) _ 33 ?hg (N' := 60) ?hd (xs := ([y143, y146, y149] : List (List Int))) (inner := [.slice Ao35 y143.length co35, .slice Ao36 y146.length co36, .slice Ao37 y149.length co37]) (ok := (fun k_ => some k_ ≠ (.slice Ao18 t121.length co18 : Value).ownBlock ∧ some k_ ≠ (v125 : Value).ownBlock ∧ some k_ ≠ (.slice Ao21 t128.length co21 : Value).ownBlock ∧ some k_ ≠ (.slice Ao24 t133.length co24 : Value).ownBlock ∧ some k_ ≠ (.slice Ao27 t138.length co27 : Value).ownBlock)) (okp := (fun k_ => some k_ ≠ (.slice Ao18 t121.length co18 : Value).ownBlock ∧ some k_ ≠ (v125 : Value).ownBlock ∧ some k_ ≠ (.slice Ao21 t128.length co21 : Value).ownBlock ∧ some k_ ≠ (.slice Ao24 t133.length co24 : Value).ownBlock ∧ some k_ ≠ (.slice Ao27 t138.length co27 : Value).ownBlock)) ?hr ?hp (fun _ hk => hk) ((show ∀ k_, w33.heap.size ≤ k_ → (fun k_ => some k_ ≠ (.slice Ao18 t121.length co18 : Value).ownBlock ∧ some k_ ≠ (v125 : Value).ownBlock ∧ some k_ ≠ (.slice Ao21 t128.length co21 : Value).ownBlock ∧ some k_ ≠ (.slice Ao24 t133.length co24 : Value).ownBlock ∧ some k_ ≠ (.slice Ao27 t138.length co27 : Value).ownBlock) k_ from fun k_ hk => ⟨Kd.fresh' (Kd.R_lt (by (with_reducible repeat (first | apply Kd.R_alloc | apply Kd.R_drewN | apply Kd.R_drew)); exact HO123.out)) k_ hk, Kd.fresh' (Kd.N_lt (by (with_reducible repeat (first | apply Kd.N_alloc | apply Kd.N_drewN | apply Kd.N_drew)); exact HO126.out)) k_ hk, Kd.fresh' (Kd.R_lt (by (with_reducible repeat (first | apply Kd.R_alloc | apply Kd.R_drewN | apply Kd.R_drew)); exact HO130.out)) k_ hk, Kd.fresh' (Kd.R_lt (by (with_reducible repeat (first | apply Kd.R_alloc | apply Kd.R_drewN | apply Kd.R_drew)); exact HO135.out)) k_ hk, Kd.fresh' (Kd.R_lt (by (with_reducible repeat (first | apply Kd.R_alloc | apply Kd.R_drewN | apply Kd.R_drew)); exact HO140.out)) k_ hk⟩) _ (Nat.le_refl _)) (Below.refl _ _) (Nat.le_refl _) (by simp) ?_; (case hd => rfl); (case hg => rfl); (case hr => first | (go_simp; done) | (go_simp; rfl)); (case hp => exact (Reps.one (show Kd.FK (Kd.slice 3 (Kd.int .i64)) _ _ y143 [.slice Ao35 y143.length co35] from (Kd.FK_slice_mk (Kd.R_reads' (Kd.R_mono (ok' := (fun k_ => some k_ ≠ (.slice Ao18 t121.length co18 : Value).ownBlock ∧ some k_ ≠ (v125 : Value).ownBlock ∧ some k_ ≠ (.slice Ao21 t128.length co21 : Value).ownBlock ∧ some k_ ≠ (.slice Ao24 t133.length co24 : Value).ownBlock ∧ some k_ ≠ (.slice Ao27 t138.length co27 : Value).ownBlock)) (Kd.R_apart' (Kd.R_apart' (Kd.R_apart' (Kd.R_apart' (Kd.R_apart' (HO145.out) (Kd.R_typed HO123.out) (by decide)) (Kd.N_typed HO126.out) (by decide)) (Kd.R_typed HO130.out) (by decide)) (Kd.R_typed HO135.out) (by decide)) (Kd.R_typed HO140.out) (by decide)) (fun k_ hk => ⟨hk.1.1.1.1.2, ⟨hk.1.1.1.2, ⟨hk.1.1.2, ⟨hk.1.2, hk.2⟩⟩⟩⟩))).2.1 (Kd.R_F (Kd.R_mono (ok' := (fun k_ => some k_ ≠ (.slice Ao18 t121.length co18 : Value).ownBlock ∧ some k_ ≠ (v125 : Value).ownBlock ∧ some k_ ≠ (.slice Ao21 t128.length co21 : Value).ownBlock ∧ some k_ ≠ (.slice Ao24 t133.length co24 : Value).ownBlock ∧ some k_ ≠ (.slice Ao27 t138.length co27 : Value).ownBlock)) (Kd.R_apart' (Kd.R_apart' (Kd.R_apart' (Kd.R_apart' (Kd.R_apart' (HO145.out) (Kd.R_typed HO123.out) (by decide)) (Kd.N_typed HO126.out) (by decide)) (Kd.R_typed HO130.out) (by decide)) (Kd.R_typed HO135.out) (by decide)) (Kd.R_typed HO140.out) (by decide)) (fun k_ hk => ⟨hk.1.1.1.1.2, ⟨hk.1.1.1.2, ⟨hk.1.1.2, ⟨hk.1.2, hk.2⟩⟩⟩⟩))))) (Reps.one (show Kd.FK (Kd.slice 3 (Kd.int .i64)) _ _ y146 [.slice Ao36 y146.length co36] from (Kd.FK_slice_mk (Kd.R_reads' (Kd.R_mono (ok' := (fun k_ => some k_ ≠ (.slice Ao18 t121.length co18 : Value).ownBlock ∧ some k_ ≠ (v125 : Value).ownBlock ∧ some k_ ≠ (.slice Ao21 t128.length co21 : Value).ownBlock ∧ some k_ ≠ (.slice Ao24 t133.length co24 : Value).ownBlock ∧ some k_ ≠ (.slice Ao27 t138.length co27 : Value).ownBlock)) (Kd.R_apart' (Kd.R_apart' (Kd.R_apart' (Kd.R_apart' (Kd.R_apart' (HO148.out) (Kd.R_typed HO123.out) (by decide)) (Kd.N_typed HO126.out) (by decide)) (Kd.R_typed HO130.out) (by decide)) (Kd.R_typed HO135.out) (by decide)) (Kd.R_typed HO140.out) (by decide)) (fun k_ hk => ⟨hk.1.1.1.1.2, ⟨hk.1.1.1.2, ⟨hk.1.1.2, ⟨hk.1.2, hk.2⟩⟩⟩⟩))).2.1 (Kd.R_F (Kd.R_mono (ok' := (fun k_ => some k_ ≠ (.slice Ao18 t121.length co18 : Value).ownBlock ∧ some k_ ≠ (v125 : Value).ownBlock ∧ some k_ ≠ (.slice Ao21 t128.length co21 : Value).ownBlock ∧ some k_ ≠ (.slice Ao24 t133.length co24 : Value).ownBlock ∧ some k_ ≠ (.slice Ao27 t138.length co27 : Value).ownBlock)) (Kd.R_apart' (Kd.R_apart' (Kd.R_apart' (Kd.R_apart' (Kd.R_apart' (HO148.out) (Kd.R_typed HO123.out) (by decide)) (Kd.N_typed HO126.out) (by decide)) (Kd.R_typed HO130.out) (by decide)) (Kd.R_typed HO135.out) (by decide)) (Kd.R_typed HO140.out) (by decide)) (fun k_ hk => ⟨hk.1.1.1.1.2, ⟨hk.1.1.1.2, ⟨hk.1.1.2, ⟨hk.1.2, hk.2⟩⟩⟩⟩))))) (Reps.one (show Kd.FK (Kd.slice 3 (Kd.int .i64)) _ _ y149 [.slice Ao37 y149.length co37] from (Kd.FK_slice_mk (Kd.R_reads' (Kd.R_mono (ok' := (fun k_ => some k_ ≠ (.slice Ao18 t121.length co18 : Value).ownBlock ∧ some k_ ≠ (v125 : Value).ownBlock ∧ some k_ ≠ (.slice Ao21 t128.length co21 : Value).ownBlock ∧ some k_ ≠ (.slice Ao24 t133.length co24 : Value).ownBlock ∧ some k_ ≠ (.slice Ao27 t138.length co27 : Value).ownBlock)) (Kd.R_apart' (Kd.R_apart' (Kd.R_apart' (Kd.R_apart' (Kd.R_apart' (HO151.out) (Kd.R_typed HO123.out) (by decide)) (Kd.N_typed HO126.out) (by decide)) (Kd.R_typed HO130.out) (by decide)) (Kd.R_typed HO135.out) (by decide)) (Kd.R_typed HO140.out) (by decide)) (fun k_ hk => ⟨hk.1.1.1.1.2, ⟨hk.1.1.1.2, ⟨hk.1.1.2, ⟨hk.1.2, hk.2⟩⟩⟩⟩))).2.1 (Kd.R_F (Kd.R_mono (ok' := (fun k_ => some k_ ≠ (.slice Ao18 t121.length co18 : Value).ownBlock ∧ some k_ ≠ (v125 : Value).ownBlock ∧ some k_ ≠ (.slice Ao21 t128.length co21 : Value).ownBlock ∧ some k_ ≠ (.slice Ao24 t133.length co24 : Value).ownBlock ∧ some k_ ≠ (.slice Ao27 t138.length co27 : Value).ownBlock)) (Kd.R_apart' (Kd.R_apart' (Kd.R_apart' (Kd.R_apart' (Kd.R_apart' (HO151.out) (Kd.R_typed HO123.out) (by decide)) (Kd.N_typed HO126.out) (by decide)) (Kd.R_typed HO130.out) (by decide)) (Kd.R_typed HO135.out) (by decide)) (Kd.R_typed HO140.out) (by decide)) (fun k_ hk => ⟨hk.1.1.1.1.2, ⟨hk.1.1.1.2, ⟨hk.1.1.2, ⟨hk.1.2, hk.2⟩⟩⟩⟩))))) (Reps.none _ _))))); intro v153 w38 ho39 hb hg_ hnew_; clear hg_ hnew_; (first | rw [← Ny152.out] at ho39 | (simp only [Int.reduceToNat] at ho39; rw [← Ny152.out] at ho39)); have n0_ := Aside0.mk (Kd.R_below (by (with_reducible repeat (first | apply Kd.R_alloc | apply Kd.R_drewN | apply Kd.R_drew)); exact HO123.out) hb); have n1_ := Aside0.mk (Kd.N_elder' (by (with_reducible repeat (first | apply Kd.N_alloc | apply Kd.N_drewN | apply Kd.N_drew)); exact HO126.out) (Kd.N_base ho39) hb); have n2_ := Aside0.mk (Kd.R_below (by (with_reducible repeat (first | apply Kd.R_alloc | apply Kd.R_drewN | apply Kd.R_drew)); exact HO130.out) hb); have n3_ := Aside0.mk (Kd.R_below (by (with_reducible repeat (first | apply Kd.R_alloc | apply Kd.R_drewN | apply Kd.R_drew)); exact HO135.out) hb); have n4_ := Aside0.mk (Kd.R_below (by (with_reducible repeat (first | apply Kd.R_alloc | apply Kd.R_drewN | apply Kd.R_drew)); exact HO140.out) hb); have n5_ := Aside0.mk (Kd.N_lower ho39 (below_size (by repeat (first | (with_reducible first | exact HB.out | apply below_alloc | apply pw_below_drewN | apply below_drew1) | exact HB.out)))); have n6_ := Aside0.mk (below_step (by repeat (first | (with_reducible first | exact HB.out | apply below_alloc | apply pw_below_drewN | apply below_drew1) | exact HB.out)) hb); clear HO123; clear HO126; clear HO130; clear HO135; clear HO140; clear HB; clear HO145; clear HO148; clear HO151; have HO123 := n0_; have HO126 := n1_; have HO130 := n2_; have HO135 := n3_; have HO140 := n4_; have HO154 := n5_; have HB := n6_; clear n0_ n1_ n2_ n3_ n4_ n5_ n6_; clear hb ho39; obtain ⟨Ao40, co40, eo40⟩ := Kd.N_slice HO126.out; subst eo40; obtain ⟨Ao41, co41, eo41⟩ := Kd.N_slice HO154.out; subst eo41) | (go_at_call 10; (with_reducible refine (cippuskit_SameGrids.calls k _ _ t124 _ _ y152 t155 _ ?side1 ?side2 ?side3 ?side4 A16.out).mono ?_); (case side1 => repeat (first | exact (Kd.N_reads' HO126.out).2.2 | (with_reducible refine Kd.C_alloc ?_ _) | (with_reducible refine Kd.C_drewN ?_ _) | (with_reducible refine Kd.C_drew ?_))); (case side2 => exact (Kd.N_reads' HO126.out).2.1); (case side3 => repeat (first | exact (Kd.N_reads' HO154.out).2.2 | (with_reducible refine Kd.C_alloc ?_ _) | (with_reducible refine Kd.C_drewN ?_ _) | (with_reducible refine Kd.C_drew ?_))); (case side4 => exact (Kd.N_reads' HO154.out).2.1); rintro e w' ⟨rfl, ⟨nd, rfl⟩⟩))
                go_ret
                exact ⟨by first | rfl | (simp [errW_none, errW_some] <;> rfl) | (simp [*, errW_none, errW_some] <;> rfl), by repeat (first | (with_reducible first | exact HB.out | apply below_alloc | apply pw_below_drewN | apply below_drew1) | exact HB.out)⟩
              · rw [if_neg c15] at H
                have c15b0 : (t141 == 2) = false := beq_eq_false_iff_ne.mpr c15
                have c15b1 : (t141 != 2) = true := bne_iff_ne.mpr c15
                obtain rfl := Option.some.inj H
                go_enter Tryd.func7, Tryd.ntmps7
                go_wp2_with (first | ((with_reducible refine gate_callee (f := 6) rfl ?_); refine goesL_ (some 10) rfl rfl Tryd.func6 (by kernel_rfl) rfl #[.int .i64 1, .int .i64 1, .bool true] rfl (by (try simp only [List.map_toArray, List.map_cons, List.map_nil]); first | done | rfl | (simp only [List.length_drop, List.length_take]; rfl)) ?_; (with_reducible refine (cippuslaw07_copies.calls 1 1 true t121 _ A1.out).mono ?_); rintro e w42 ⟨v122, rfl, ho0, hb⟩; refine ⟨_, rfl, ?_⟩; have n0_ := Aside0.mk (Kd.R_lower ho0 (below_size (by repeat (first | (with_reducible first | exact HB.out | apply below_alloc | apply pw_below_drewN | apply below_drew1) | exact HB.out)))); have n1_ := Aside0.mk (below_step (by repeat (first | (with_reducible first | exact HB.out | apply below_alloc | apply pw_below_drewN | apply below_drew1) | exact HB.out)) hb); clear HB; have HO123 := n0_; have HB := n1_; clear n0_ n1_; (try clear hb); (try clear hb2); (try clear hk); (try clear hi); (try clear ho0); obtain ⟨Ao43, co43, eo43⟩ := Kd.R_slice HO123.out; subst eo43) | ((with_reducible refine gate_callee (f := 9) rfl ?_); refine goesL_ (some 11) rfl rfl Tryd.func9 (by kernel_rfl) rfl #[.slice Ao43 t121.length co43] rfl (by (try simp only [List.map_toArray, List.map_cons, List.map_nil]); first | done | rfl | (simp only [List.length_drop, List.length_take]; rfl)) ?_; (with_reducible refine (stemma_Sources.calls k _ _ t121 t124 t127 _ ?side1 ?side2 A2.out).mono ?_); (case side1 => repeat (first | exact (Kd.R_reads' HO123.out).2.2 | (with_reducible refine Kd.C_alloc ?_ _) | (with_reducible refine Kd.C_drewN ?_ _) | (with_reducible refine Kd.C_drew ?_))); (case side2 => exact (Kd.R_reads' HO123.out).2.1); rintro e w44 ⟨v125, rfl, ho0, hb⟩; refine ⟨_, rfl, ?_⟩; have n0_ := Aside0.mk (Kd.R_below (by (with_reducible repeat (first | apply Kd.R_alloc | apply Kd.R_drewN | apply Kd.R_drew)); exact HO123.out) hb); have n1_ := Aside0.mk (Kd.N_lower (Kd.N_mono (ok' := fun k_ => some k_ ≠ (.slice Ao43 t121.length co43 : Value).ownBlock) ho0 (fun k_ hk_ => (Kd.fresh' (Kd.R_lt (by (with_reducible repeat (first | apply Kd.R_alloc | apply Kd.R_drewN | apply Kd.R_drew)); exact HO123.out)) k_ hk_))) (below_size (by repeat (first | (with_reducible first | exact HB.out | apply below_alloc | apply pw_below_drewN | apply below_drew1) | exact HB.out)))); have n2_ := Aside0.mk (below_step (by repeat (first | (with_reducible first | exact HB.out | apply below_alloc | apply pw_below_drewN | apply below_drew1) | exact HB.out)) hb); clear HO123; clear HB; have HO123 := n0_; have HO126 := n1_; have HB := n2_; clear n0_ n1_ n2_; (try clear hb); (try clear hb2); (try clear hk); (try clear hi); (try clear ho0)) | ((with_reducible refine gate_callee (f := 6) rfl ?_); refine goesL_ (some 15) rfl rfl Tryd.func6 (by kernel_rfl) rfl #[.int .i64 1, .int .i64 0, .bool true] rfl (by (try simp only [List.map_toArray, List.map_cons, List.map_nil]); first | done | rfl | (simp only [List.length_drop, List.length_take]; rfl)) ?_; (with_reducible refine (cippuslaw07_copies.calls 1 0 true t128 _ A3.out).mono ?_); rintro e w45 ⟨v129, rfl, ho0, hb⟩; refine ⟨_, rfl, ?_⟩; have n0_ := Aside0.mk (Kd.R_elder' (by (with_reducible repeat (first | apply Kd.R_alloc | apply Kd.R_drewN | apply Kd.R_drew)); exact HO123.out) (Kd.R_base ho0) hb); have n1_ := Aside0.mk (Kd.N_elder' (by (with_reducible repeat (first | apply Kd.N_alloc | apply Kd.N_drewN | apply Kd.N_drew)); exact HO126.out) (Kd.R_base ho0) hb); have n2_ := Aside0.mk (Kd.R_lower (Kd.R_new' ho0 (Kd.R_lt (by (with_reducible repeat (first | apply Kd.R_alloc | apply Kd.R_drewN | apply Kd.R_drew)); exact HO123.out))) (below_size (by repeat (first | (with_reducible first | exact HB.out | apply below_alloc | apply pw_below_drewN | apply below_drew1) | exact HB.out)))); have n3_ := Aside0.mk (below_step (by repeat (first | (with_reducible first | exact HB.out | apply below_alloc | apply pw_below_drewN | apply below_drew1) | exact HB.out)) hb); clear HO123; clear HO126; clear HB; have HO123 := n0_; have HO126 := n1_; have HO130 := n2_; have HB := n3_; clear n0_ n1_ n2_ n3_; (try clear hb); (try clear hb2); (try clear hk); (try clear hi); (try clear ho0); obtain ⟨Ao46, co46, eo46⟩ := Kd.R_slice HO130.out; subst eo46) | ((with_reducible refine gate_callee (f := 13) rfl ?_); refine goesL_ (some 16) rfl rfl Tryd.func13 (by kernel_rfl) rfl #[.slice Ao46 t128.length co46] rfl (by (try simp only [List.map_toArray, List.map_cons, List.map_nil]); first | done | rfl | (simp only [List.length_drop, List.length_take]; rfl)) ?_; (with_reducible refine (stemma_Print.calls k _ _ t128 t131 t132 _ ?side1 ?side2 A4.out).mono ?_); (case side1 => repeat (first | exact (Kd.R_reads' HO130.out).2.2 | (with_reducible refine Kd.C_alloc ?_ _) | (with_reducible refine Kd.C_drewN ?_ _) | (with_reducible refine Kd.C_drew ?_))); (case side2 => exact (Kd.R_reads' HO130.out).2.1); rintro e w47 ⟨rfl, hb⟩; refine ⟨_, rfl, ?_⟩; have n0_ := Aside0.mk (Kd.R_below (by (with_reducible repeat (first | apply Kd.R_alloc | apply Kd.R_drewN | apply Kd.R_drew)); exact HO123.out) hb); have n1_ := Aside0.mk (Kd.N_below (by (with_reducible repeat (first | apply Kd.N_alloc | apply Kd.N_drewN | apply Kd.N_drew)); exact HO126.out) hb); have n2_ := Aside0.mk (Kd.R_below (by (with_reducible repeat (first | apply Kd.R_alloc | apply Kd.R_drewN | apply Kd.R_drew)); exact HO130.out) hb); have n3_ := Aside0.mk (below_step (by repeat (first | (with_reducible first | exact HB.out | apply below_alloc | apply pw_below_drewN | apply below_drew1) | exact HB.out)) hb); clear HO123; clear HO126; clear HO130; clear HB; have HO123 := n0_; have HO126 := n1_; have HO130 := n2_; have HB := n3_; clear n0_ n1_ n2_ n3_; (try clear hb); (try clear hb2); (try clear hk); (try clear hi)) | ((with_reducible refine gate_callee (f := 6) rfl ?_); refine goesL_ (some 20) rfl rfl Tryd.func6 (by kernel_rfl) rfl #[.int .i64 0, .int .i64 1, .bool true] rfl (by (try simp only [List.map_toArray, List.map_cons, List.map_nil]); first | done | rfl | (simp only [List.length_drop, List.length_take]; rfl)) ?_; (with_reducible refine (cippuslaw07_copies.calls 0 1 true t133 _ A5.out).mono ?_); rintro e w48 ⟨v134, rfl, ho0, hb⟩; refine ⟨_, rfl, ?_⟩; have n0_ := Aside0.mk (Kd.R_elder' (by (with_reducible repeat (first | apply Kd.R_alloc | apply Kd.R_drewN | apply Kd.R_drew)); exact HO123.out) (Kd.R_base ho0) hb); have n1_ := Aside0.mk (Kd.N_elder' (by (with_reducible repeat (first | apply Kd.N_alloc | apply Kd.N_drewN | apply Kd.N_drew)); exact HO126.out) (Kd.R_base ho0) hb); have n2_ := Aside0.mk (Kd.R_elder' (by (with_reducible repeat (first | apply Kd.R_alloc | apply Kd.R_drewN | apply Kd.R_drew)); exact HO130.out) (Kd.R_base ho0) hb); have n3_ := Aside0.mk (Kd.R_lower (Kd.R_new' (Kd.R_new' ho0 (Kd.R_lt (by (with_reducible repeat (first | apply Kd.R_alloc | apply Kd.R_drewN | apply Kd.R_drew)); exact HO123.out))) (Kd.R_lt (by (with_reducible repeat (first | apply Kd.R_alloc | apply Kd.R_drewN | apply Kd.R_drew)); exact HO130.out))) (below_size (by repeat (first | (with_reducible first | exact HB.out | apply below_alloc | apply pw_below_drewN | apply below_drew1) | exact HB.out)))); have n4_ := Aside0.mk (below_step (by repeat (first | (with_reducible first | exact HB.out | apply below_alloc | apply pw_below_drewN | apply below_drew1) | exact HB.out)) hb); clear HO123; clear HO126; clear HO130; clear HB; have HO123 := n0_; have HO126 := n1_; have HO130 := n2_; have HO135 := n3_; have HB := n4_; clear n0_ n1_ n2_ n3_ n4_; (try clear hb); (try clear hb2); (try clear hk); (try clear hi); (try clear ho0); obtain ⟨Ao49, co49, eo49⟩ := Kd.R_slice HO135.out; subst eo49) | ((with_reducible refine gate_callee (f := 13) rfl ?_); refine goesL_ (some 21) rfl rfl Tryd.func13 (by kernel_rfl) rfl #[.slice Ao49 t133.length co49] rfl (by (try simp only [List.map_toArray, List.map_cons, List.map_nil]); first | done | rfl | (simp only [List.length_drop, List.length_take]; rfl)) ?_; (with_reducible refine (stemma_Print.calls k _ _ t133 t136 t137 _ ?side1 ?side2 A6.out).mono ?_); (case side1 => repeat (first | exact (Kd.R_reads' HO135.out).2.2 | (with_reducible refine Kd.C_alloc ?_ _) | (with_reducible refine Kd.C_drewN ?_ _) | (with_reducible refine Kd.C_drew ?_))); (case side2 => exact (Kd.R_reads' HO135.out).2.1); rintro e w50 ⟨rfl, hb⟩; refine ⟨_, rfl, ?_⟩; have n0_ := Aside0.mk (Kd.R_below (by (with_reducible repeat (first | apply Kd.R_alloc | apply Kd.R_drewN | apply Kd.R_drew)); exact HO123.out) hb); have n1_ := Aside0.mk (Kd.N_below (by (with_reducible repeat (first | apply Kd.N_alloc | apply Kd.N_drewN | apply Kd.N_drew)); exact HO126.out) hb); have n2_ := Aside0.mk (Kd.R_below (by (with_reducible repeat (first | apply Kd.R_alloc | apply Kd.R_drewN | apply Kd.R_drew)); exact HO130.out) hb); have n3_ := Aside0.mk (Kd.R_below (by (with_reducible repeat (first | apply Kd.R_alloc | apply Kd.R_drewN | apply Kd.R_drew)); exact HO135.out) hb); have n4_ := Aside0.mk (below_step (by repeat (first | (with_reducible first | exact HB.out | apply below_alloc | apply pw_below_drewN | apply below_drew1) | exact HB.out)) hb); clear HO123; clear HO126; clear HO130; clear HO135; clear HB; have HO123 := n0_; have HO126 := n1_; have HO130 := n2_; have HO135 := n3_; have HB := n4_; clear n0_ n1_ n2_ n3_ n4_; (try clear hb); (try clear hb2); (try clear hk); (try clear hi)) | ((with_reducible refine gate_callee (f := 6) rfl ?_); refine goesL_ (some 25) rfl rfl Tryd.func6 (by kernel_rfl) rfl #[.int .i64 1, .int .i64 0, .bool true] rfl (by (try simp only [List.map_toArray, List.map_cons, List.map_nil]); first | done | rfl | (simp only [List.length_drop, List.length_take]; rfl)) ?_; (with_reducible refine (cippuslaw07_copies.calls 1 0 true t138 _ A7.out).mono ?_); rintro e w51 ⟨v139, rfl, ho0, hb⟩; refine ⟨_, rfl, ?_⟩; have n0_ := Aside0.mk (Kd.R_elder' (by (with_reducible repeat (first | apply Kd.R_alloc | apply Kd.R_drewN | apply Kd.R_drew)); exact HO123.out) (Kd.R_base ho0) hb); have n1_ := Aside0.mk (Kd.N_elder' (by (with_reducible repeat (first | apply Kd.N_alloc | apply Kd.N_drewN | apply Kd.N_drew)); exact HO126.out) (Kd.R_base ho0) hb); have n2_ := Aside0.mk (Kd.R_elder' (by (with_reducible repeat (first | apply Kd.R_alloc | apply Kd.R_drewN | apply Kd.R_drew)); exact HO130.out) (Kd.R_base ho0) hb); have n3_ := Aside0.mk (Kd.R_elder' (by (with_reducible repeat (first | apply Kd.R_alloc | apply Kd.R_drewN | apply Kd.R_drew)); exact HO135.out) (Kd.R_base ho0) hb); have n4_ := Aside0.mk (Kd.R_lower (Kd.R_new' (Kd.R_new' (Kd.R_new' ho0 (Kd.R_lt (by (with_reducible repeat (first | apply Kd.R_alloc | apply Kd.R_drewN | apply Kd.R_drew)); exact HO123.out))) (Kd.R_lt (by (with_reducible repeat (first | apply Kd.R_alloc | apply Kd.R_drewN | apply Kd.R_drew)); exact HO130.out))) (Kd.R_lt (by (with_reducible repeat (first | apply Kd.R_alloc | apply Kd.R_drewN | apply Kd.R_drew)); exact HO135.out))) (below_size (by repeat (first | (with_reducible first | exact HB.out | apply below_alloc | apply pw_below_drewN | apply below_drew1) | exact HB.out)))); have n5_ := Aside0.mk (below_step (by repeat (first | (with_reducible first | exact HB.out | apply below_alloc | apply pw_below_drewN | apply below_drew1) | exact HB.out)) hb); clear HO123; clear HO126; clear HO130; clear HO135; clear HB; have HO123 := n0_; have HO126 := n1_; have HO130 := n2_; have HO135 := n3_; have HO140 := n4_; have HB := n5_; clear n0_ n1_ n2_ n3_ n4_ n5_; (try clear hb); (try clear hb2); (try clear hk); (try clear hi); (try clear ho0); obtain ⟨Ao52, co52, eo52⟩ := Kd.R_slice HO140.out; subst eo52) | ((with_reducible refine gate_callee (f := 14) rfl ?_); refine goesL_ (some 26) rfl rfl Tryd.func14 (by kernel_rfl) rfl #[.slice Ao52 t138.length co52] rfl (by (try simp only [List.map_toArray, List.map_cons, List.map_nil]); first | done | rfl | (simp only [List.length_drop, List.length_take]; rfl)) ?_; (with_reducible refine (stemma_Fewest.calls k _ _ t138 t141 t142 _ ?side1 ?side2 A8.out).mono ?_); (case side1 => repeat (first | exact (Kd.R_reads' HO140.out).2.2 | (with_reducible refine Kd.C_alloc ?_ _) | (with_reducible refine Kd.C_drewN ?_ _) | (with_reducible refine Kd.C_drew ?_))); (case side2 => exact (Kd.R_reads' HO140.out).2.1); rintro e w53 ⟨rfl, hb⟩; refine ⟨_, rfl, ?_⟩; have n0_ := Aside0.mk (Kd.R_below (by (with_reducible repeat (first | apply Kd.R_alloc | apply Kd.R_drewN | apply Kd.R_drew)); exact HO123.out) hb); have n1_ := Aside0.mk (Kd.N_below (by (with_reducible repeat (first | apply Kd.N_alloc | apply Kd.N_drewN | apply Kd.N_drew)); exact HO126.out) hb); have n2_ := Aside0.mk (Kd.R_below (by (with_reducible repeat (first | apply Kd.R_alloc | apply Kd.R_drewN | apply Kd.R_drew)); exact HO130.out) hb); have n3_ := Aside0.mk (Kd.R_below (by (with_reducible repeat (first | apply Kd.R_alloc | apply Kd.R_drewN | apply Kd.R_drew)); exact HO135.out) hb); have n4_ := Aside0.mk (Kd.R_below (by (with_reducible repeat (first | apply Kd.R_alloc | apply Kd.R_drewN | apply Kd.R_drew)); exact HO140.out) hb); have n5_ := Aside0.mk (below_step (by repeat (first | (with_reducible first | exact HB.out | apply below_alloc | apply pw_below_drewN | apply below_drew1) | exact HB.out)) hb); clear HO123; clear HO126; clear HO130; clear HO135; clear HO140; clear HB; have HO123 := n0_; have HO126 := n1_; have HO130 := n2_; have HO135 := n3_; have HO140 := n4_; have HB := n5_; clear n0_ n1_ n2_ n3_ n4_ n5_; (try clear hb); (try clear hb2); (try clear hk); (try clear hi)))
                go_ret
                exact ⟨by first | rfl | (simp [errW_none, errW_some] <;> rfl) | (simp [*, errW_none, errW_some] <;> rfl), by repeat (first | (with_reducible first | exact HB.out | apply below_alloc | apply pw_below_drewN | apply below_drew1) | exact HB.out)⟩
            · rw [if_neg c14] at H
              have c14b0 : (t136.toList == ([65, 82, 77, 65] : List UInt8)) = false := beq_eq_false_iff_ne.mpr c14
              have c14b1 : (t136.toList != ([65, 82, 77, 65] : List UInt8)) = true := bne_iff_ne.mpr c14
              obtain rfl := Option.some.inj H
              go_enter Tryd.func7, Tryd.ntmps7
              go_wp2_with (first | ((with_reducible refine gate_callee (f := 6) rfl ?_); refine goesL_ (some 10) rfl rfl Tryd.func6 (by kernel_rfl) rfl #[.int .i64 1, .int .i64 1, .bool true] rfl (by (try simp only [List.map_toArray, List.map_cons, List.map_nil]); first | done | rfl | (simp only [List.length_drop, List.length_take]; rfl)) ?_; (with_reducible refine (cippuslaw07_copies.calls 1 1 true t121 _ A1.out).mono ?_); rintro e w54 ⟨v122, rfl, ho0, hb⟩; refine ⟨_, rfl, ?_⟩; have n0_ := Aside0.mk (Kd.R_lower ho0 (below_size (by repeat (first | (with_reducible first | exact HB.out | apply below_alloc | apply pw_below_drewN | apply below_drew1) | exact HB.out)))); have n1_ := Aside0.mk (below_step (by repeat (first | (with_reducible first | exact HB.out | apply below_alloc | apply pw_below_drewN | apply below_drew1) | exact HB.out)) hb); clear HB; have HO123 := n0_; have HB := n1_; clear n0_ n1_; (try clear hb); (try clear hb2); (try clear hk); (try clear hi); (try clear ho0); obtain ⟨Ao55, co55, eo55⟩ := Kd.R_slice HO123.out; subst eo55) | ((with_reducible refine gate_callee (f := 9) rfl ?_); refine goesL_ (some 11) rfl rfl Tryd.func9 (by kernel_rfl) rfl #[.slice Ao55 t121.length co55] rfl (by (try simp only [List.map_toArray, List.map_cons, List.map_nil]); first | done | rfl | (simp only [List.length_drop, List.length_take]; rfl)) ?_; (with_reducible refine (stemma_Sources.calls k _ _ t121 t124 t127 _ ?side1 ?side2 A2.out).mono ?_); (case side1 => repeat (first | exact (Kd.R_reads' HO123.out).2.2 | (with_reducible refine Kd.C_alloc ?_ _) | (with_reducible refine Kd.C_drewN ?_ _) | (with_reducible refine Kd.C_drew ?_))); (case side2 => exact (Kd.R_reads' HO123.out).2.1); rintro e w56 ⟨v125, rfl, ho0, hb⟩; refine ⟨_, rfl, ?_⟩; have n0_ := Aside0.mk (Kd.R_below (by (with_reducible repeat (first | apply Kd.R_alloc | apply Kd.R_drewN | apply Kd.R_drew)); exact HO123.out) hb); have n1_ := Aside0.mk (Kd.N_lower (Kd.N_mono (ok' := fun k_ => some k_ ≠ (.slice Ao55 t121.length co55 : Value).ownBlock) ho0 (fun k_ hk_ => (Kd.fresh' (Kd.R_lt (by (with_reducible repeat (first | apply Kd.R_alloc | apply Kd.R_drewN | apply Kd.R_drew)); exact HO123.out)) k_ hk_))) (below_size (by repeat (first | (with_reducible first | exact HB.out | apply below_alloc | apply pw_below_drewN | apply below_drew1) | exact HB.out)))); have n2_ := Aside0.mk (below_step (by repeat (first | (with_reducible first | exact HB.out | apply below_alloc | apply pw_below_drewN | apply below_drew1) | exact HB.out)) hb); clear HO123; clear HB; have HO123 := n0_; have HO126 := n1_; have HB := n2_; clear n0_ n1_ n2_; (try clear hb); (try clear hb2); (try clear hk); (try clear hi); (try clear ho0)) | ((with_reducible refine gate_callee (f := 6) rfl ?_); refine goesL_ (some 15) rfl rfl Tryd.func6 (by kernel_rfl) rfl #[.int .i64 1, .int .i64 0, .bool true] rfl (by (try simp only [List.map_toArray, List.map_cons, List.map_nil]); first | done | rfl | (simp only [List.length_drop, List.length_take]; rfl)) ?_; (with_reducible refine (cippuslaw07_copies.calls 1 0 true t128 _ A3.out).mono ?_); rintro e w57 ⟨v129, rfl, ho0, hb⟩; refine ⟨_, rfl, ?_⟩; have n0_ := Aside0.mk (Kd.R_elder' (by (with_reducible repeat (first | apply Kd.R_alloc | apply Kd.R_drewN | apply Kd.R_drew)); exact HO123.out) (Kd.R_base ho0) hb); have n1_ := Aside0.mk (Kd.N_elder' (by (with_reducible repeat (first | apply Kd.N_alloc | apply Kd.N_drewN | apply Kd.N_drew)); exact HO126.out) (Kd.R_base ho0) hb); have n2_ := Aside0.mk (Kd.R_lower (Kd.R_new' ho0 (Kd.R_lt (by (with_reducible repeat (first | apply Kd.R_alloc | apply Kd.R_drewN | apply Kd.R_drew)); exact HO123.out))) (below_size (by repeat (first | (with_reducible first | exact HB.out | apply below_alloc | apply pw_below_drewN | apply below_drew1) | exact HB.out)))); have n3_ := Aside0.mk (below_step (by repeat (first | (with_reducible first | exact HB.out | apply below_alloc | apply pw_below_drewN | apply below_drew1) | exact HB.out)) hb); clear HO123; clear HO126; clear HB; have HO123 := n0_; have HO126 := n1_; have HO130 := n2_; have HB := n3_; clear n0_ n1_ n2_ n3_; (try clear hb); (try clear hb2); (try clear hk); (try clear hi); (try clear ho0); obtain ⟨Ao58, co58, eo58⟩ := Kd.R_slice HO130.out; subst eo58) | ((with_reducible refine gate_callee (f := 13) rfl ?_); refine goesL_ (some 16) rfl rfl Tryd.func13 (by kernel_rfl) rfl #[.slice Ao58 t128.length co58] rfl (by (try simp only [List.map_toArray, List.map_cons, List.map_nil]); first | done | rfl | (simp only [List.length_drop, List.length_take]; rfl)) ?_; (with_reducible refine (stemma_Print.calls k _ _ t128 t131 t132 _ ?side1 ?side2 A4.out).mono ?_); (case side1 => repeat (first | exact (Kd.R_reads' HO130.out).2.2 | (with_reducible refine Kd.C_alloc ?_ _) | (with_reducible refine Kd.C_drewN ?_ _) | (with_reducible refine Kd.C_drew ?_))); (case side2 => exact (Kd.R_reads' HO130.out).2.1); rintro e w59 ⟨rfl, hb⟩; refine ⟨_, rfl, ?_⟩; have n0_ := Aside0.mk (Kd.R_below (by (with_reducible repeat (first | apply Kd.R_alloc | apply Kd.R_drewN | apply Kd.R_drew)); exact HO123.out) hb); have n1_ := Aside0.mk (Kd.N_below (by (with_reducible repeat (first | apply Kd.N_alloc | apply Kd.N_drewN | apply Kd.N_drew)); exact HO126.out) hb); have n2_ := Aside0.mk (Kd.R_below (by (with_reducible repeat (first | apply Kd.R_alloc | apply Kd.R_drewN | apply Kd.R_drew)); exact HO130.out) hb); have n3_ := Aside0.mk (below_step (by repeat (first | (with_reducible first | exact HB.out | apply below_alloc | apply pw_below_drewN | apply below_drew1) | exact HB.out)) hb); clear HO123; clear HO126; clear HO130; clear HB; have HO123 := n0_; have HO126 := n1_; have HO130 := n2_; have HB := n3_; clear n0_ n1_ n2_ n3_; (try clear hb); (try clear hb2); (try clear hk); (try clear hi)) | ((with_reducible refine gate_callee (f := 6) rfl ?_); refine goesL_ (some 20) rfl rfl Tryd.func6 (by kernel_rfl) rfl #[.int .i64 0, .int .i64 1, .bool true] rfl (by (try simp only [List.map_toArray, List.map_cons, List.map_nil]); first | done | rfl | (simp only [List.length_drop, List.length_take]; rfl)) ?_; (with_reducible refine (cippuslaw07_copies.calls 0 1 true t133 _ A5.out).mono ?_); rintro e w60 ⟨v134, rfl, ho0, hb⟩; refine ⟨_, rfl, ?_⟩; have n0_ := Aside0.mk (Kd.R_elder' (by (with_reducible repeat (first | apply Kd.R_alloc | apply Kd.R_drewN | apply Kd.R_drew)); exact HO123.out) (Kd.R_base ho0) hb); have n1_ := Aside0.mk (Kd.N_elder' (by (with_reducible repeat (first | apply Kd.N_alloc | apply Kd.N_drewN | apply Kd.N_drew)); exact HO126.out) (Kd.R_base ho0) hb); have n2_ := Aside0.mk (Kd.R_elder' (by (with_reducible repeat (first | apply Kd.R_alloc | apply Kd.R_drewN | apply Kd.R_drew)); exact HO130.out) (Kd.R_base ho0) hb); have n3_ := Aside0.mk (Kd.R_lower (Kd.R_new' (Kd.R_new' ho0 (Kd.R_lt (by (with_reducible repeat (first | apply Kd.R_alloc | apply Kd.R_drewN | apply Kd.R_drew)); exact HO123.out))) (Kd.R_lt (by (with_reducible repeat (first | apply Kd.R_alloc | apply Kd.R_drewN | apply Kd.R_drew)); exact HO130.out))) (below_size (by repeat (first | (with_reducible first | exact HB.out | apply below_alloc | apply pw_below_drewN | apply below_drew1) | exact HB.out)))); have n4_ := Aside0.mk (below_step (by repeat (first | (with_reducible first | exact HB.out | apply below_alloc | apply pw_below_drewN | apply below_drew1) | exact HB.out)) hb); clear HO123; clear HO126; clear HO130; clear HB; have HO123 := n0_; have HO126 := n1_; have HO130 := n2_; have HO135 := n3_; have HB := n4_; clear n0_ n1_ n2_ n3_ n4_; (try clear hb); (try clear hb2); (try clear hk); (try clear hi); (try clear ho0); obtain ⟨Ao61, co61, eo61⟩ := Kd.R_slice HO135.out; subst eo61) | ((with_reducible refine gate_callee (f := 13) rfl ?_); refine goesL_ (some 21) rfl rfl Tryd.func13 (by kernel_rfl) rfl #[.slice Ao61 t133.length co61] rfl (by (try simp only [List.map_toArray, List.map_cons, List.map_nil]); first | done | rfl | (simp only [List.length_drop, List.length_take]; rfl)) ?_; (with_reducible refine (stemma_Print.calls k _ _ t133 t136 t137 _ ?side1 ?side2 A6.out).mono ?_); (case side1 => repeat (first | exact (Kd.R_reads' HO135.out).2.2 | (with_reducible refine Kd.C_alloc ?_ _) | (with_reducible refine Kd.C_drewN ?_ _) | (with_reducible refine Kd.C_drew ?_))); (case side2 => exact (Kd.R_reads' HO135.out).2.1); rintro e w62 ⟨rfl, hb⟩; refine ⟨_, rfl, ?_⟩; have n0_ := Aside0.mk (Kd.R_below (by (with_reducible repeat (first | apply Kd.R_alloc | apply Kd.R_drewN | apply Kd.R_drew)); exact HO123.out) hb); have n1_ := Aside0.mk (Kd.N_below (by (with_reducible repeat (first | apply Kd.N_alloc | apply Kd.N_drewN | apply Kd.N_drew)); exact HO126.out) hb); have n2_ := Aside0.mk (Kd.R_below (by (with_reducible repeat (first | apply Kd.R_alloc | apply Kd.R_drewN | apply Kd.R_drew)); exact HO130.out) hb); have n3_ := Aside0.mk (Kd.R_below (by (with_reducible repeat (first | apply Kd.R_alloc | apply Kd.R_drewN | apply Kd.R_drew)); exact HO135.out) hb); have n4_ := Aside0.mk (below_step (by repeat (first | (with_reducible first | exact HB.out | apply below_alloc | apply pw_below_drewN | apply below_drew1) | exact HB.out)) hb); clear HO123; clear HO126; clear HO130; clear HO135; clear HB; have HO123 := n0_; have HO126 := n1_; have HO130 := n2_; have HO135 := n3_; have HB := n4_; clear n0_ n1_ n2_ n3_ n4_; (try clear hb); (try clear hb2); (try clear hk); (try clear hi)) | ((with_reducible refine gate_callee (f := 6) rfl ?_); refine goesL_ (some 25) rfl rfl Tryd.func6 (by kernel_rfl) rfl #[.int .i64 1, .int .i64 0, .bool true] rfl (by (try simp only [List.map_toArray, List.map_cons, List.map_nil]); first | done | rfl | (simp only [List.length_drop, List.length_take]; rfl)) ?_; (with_reducible refine (cippuslaw07_copies.calls 1 0 true t138 _ A7.out).mono ?_); rintro e w63 ⟨v139, rfl, ho0, hb⟩; refine ⟨_, rfl, ?_⟩; have n0_ := Aside0.mk (Kd.R_elder' (by (with_reducible repeat (first | apply Kd.R_alloc | apply Kd.R_drewN | apply Kd.R_drew)); exact HO123.out) (Kd.R_base ho0) hb); have n1_ := Aside0.mk (Kd.N_elder' (by (with_reducible repeat (first | apply Kd.N_alloc | apply Kd.N_drewN | apply Kd.N_drew)); exact HO126.out) (Kd.R_base ho0) hb); have n2_ := Aside0.mk (Kd.R_elder' (by (with_reducible repeat (first | apply Kd.R_alloc | apply Kd.R_drewN | apply Kd.R_drew)); exact HO130.out) (Kd.R_base ho0) hb); have n3_ := Aside0.mk (Kd.R_elder' (by (with_reducible repeat (first | apply Kd.R_alloc | apply Kd.R_drewN | apply Kd.R_drew)); exact HO135.out) (Kd.R_base ho0) hb); have n4_ := Aside0.mk (Kd.R_lower (Kd.R_new' (Kd.R_new' (Kd.R_new' ho0 (Kd.R_lt (by (with_reducible repeat (first | apply Kd.R_alloc | apply Kd.R_drewN | apply Kd.R_drew)); exact HO123.out))) (Kd.R_lt (by (with_reducible repeat (first | apply Kd.R_alloc | apply Kd.R_drewN | apply Kd.R_drew)); exact HO130.out))) (Kd.R_lt (by (with_reducible repeat (first | apply Kd.R_alloc | apply Kd.R_drewN | apply Kd.R_drew)); exact HO135.out))) (below_size (by repeat (first | (with_reducible first | exact HB.out | apply below_alloc | apply pw_below_drewN | apply below_drew1) | exact HB.out)))); have n5_ := Aside0.mk (below_step (by repeat (first | (with_reducible first | exact HB.out | apply below_alloc | apply pw_below_drewN | apply below_drew1) | exact HB.out)) hb); clear HO123; clear HO126; clear HO130; clear HO135; clear HB; have HO123 := n0_; have HO126 := n1_; have HO130 := n2_; have HO135 := n3_; have HO140 := n4_; have HB := n5_; clear n0_ n1_ n2_ n3_ n4_ n5_; (try clear hb); (try clear hb2); (try clear hk); (try clear hi); (try clear ho0); obtain ⟨Ao64, co64, eo64⟩ := Kd.R_slice HO140.out; subst eo64) | ((with_reducible refine gate_callee (f := 14) rfl ?_); refine goesL_ (some 26) rfl rfl Tryd.func14 (by kernel_rfl) rfl #[.slice Ao64 t138.length co64] rfl (by (try simp only [List.map_toArray, List.map_cons, List.map_nil]); first | done | rfl | (simp only [List.length_drop, List.length_take]; rfl)) ?_; (with_reducible refine (stemma_Fewest.calls k _ _ t138 t141 t142 _ ?side1 ?side2 A8.out).mono ?_); (case side1 => repeat (first | exact (Kd.R_reads' HO140.out).2.2 | (with_reducible refine Kd.C_alloc ?_ _) | (with_reducible refine Kd.C_drewN ?_ _) | (with_reducible refine Kd.C_drew ?_))); (case side2 => exact (Kd.R_reads' HO140.out).2.1); rintro e w65 ⟨rfl, hb⟩; refine ⟨_, rfl, ?_⟩; have n0_ := Aside0.mk (Kd.R_below (by (with_reducible repeat (first | apply Kd.R_alloc | apply Kd.R_drewN | apply Kd.R_drew)); exact HO123.out) hb); have n1_ := Aside0.mk (Kd.N_below (by (with_reducible repeat (first | apply Kd.N_alloc | apply Kd.N_drewN | apply Kd.N_drew)); exact HO126.out) hb); have n2_ := Aside0.mk (Kd.R_below (by (with_reducible repeat (first | apply Kd.R_alloc | apply Kd.R_drewN | apply Kd.R_drew)); exact HO130.out) hb); have n3_ := Aside0.mk (Kd.R_below (by (with_reducible repeat (first | apply Kd.R_alloc | apply Kd.R_drewN | apply Kd.R_drew)); exact HO135.out) hb); have n4_ := Aside0.mk (Kd.R_below (by (with_reducible repeat (first | apply Kd.R_alloc | apply Kd.R_drewN | apply Kd.R_drew)); exact HO140.out) hb); have n5_ := Aside0.mk (below_step (by repeat (first | (with_reducible first | exact HB.out | apply below_alloc | apply pw_below_drewN | apply below_drew1) | exact HB.out)) hb); clear HO123; clear HO126; clear HO130; clear HO135; clear HO140; clear HB; have HO123 := n0_; have HO126 := n1_; have HO130 := n2_; have HO135 := n3_; have HO140 := n4_; have HB := n5_; clear n0_ n1_ n2_ n3_ n4_ n5_; (try clear hb); (try clear hb2); (try clear hk); (try clear hi)))
              go_ret
              exact ⟨by first | rfl | (simp [errW_none, errW_some] <;> rfl) | (simp [*, errW_none, errW_some] <;> rfl), by repeat (first | (with_reducible first | exact HB.out | apply below_alloc | apply pw_below_drewN | apply below_drew1) | exact HB.out)⟩
          · rw [if_neg c13] at H
            have c13b0 : (t131.toList == ([65, 82, 77, 79] : List UInt8)) = false := beq_eq_false_iff_ne.mpr c13
            have c13b1 : (t131.toList != ([65, 82, 77, 79] : List UInt8)) = true := bne_iff_ne.mpr c13
            obtain rfl := Option.some.inj H
            go_enter Tryd.func7, Tryd.ntmps7
            go_wp2_with (first | ((with_reducible refine gate_callee (f := 6) rfl ?_); refine goesL_ (some 10) rfl rfl Tryd.func6 (by kernel_rfl) rfl #[.int .i64 1, .int .i64 1, .bool true] rfl (by (try simp only [List.map_toArray, List.map_cons, List.map_nil]); first | done | rfl | (simp only [List.length_drop, List.length_take]; rfl)) ?_; (with_reducible refine (cippuslaw07_copies.calls 1 1 true t121 _ A1.out).mono ?_); rintro e w66 ⟨v122, rfl, ho0, hb⟩; refine ⟨_, rfl, ?_⟩; have n0_ := Aside0.mk (Kd.R_lower ho0 (below_size (by repeat (first | (with_reducible first | exact HB.out | apply below_alloc | apply pw_below_drewN | apply below_drew1) | exact HB.out)))); have n1_ := Aside0.mk (below_step (by repeat (first | (with_reducible first | exact HB.out | apply below_alloc | apply pw_below_drewN | apply below_drew1) | exact HB.out)) hb); clear HB; have HO123 := n0_; have HB := n1_; clear n0_ n1_; (try clear hb); (try clear hb2); (try clear hk); (try clear hi); (try clear ho0); obtain ⟨Ao67, co67, eo67⟩ := Kd.R_slice HO123.out; subst eo67) | ((with_reducible refine gate_callee (f := 9) rfl ?_); refine goesL_ (some 11) rfl rfl Tryd.func9 (by kernel_rfl) rfl #[.slice Ao67 t121.length co67] rfl (by (try simp only [List.map_toArray, List.map_cons, List.map_nil]); first | done | rfl | (simp only [List.length_drop, List.length_take]; rfl)) ?_; (with_reducible refine (stemma_Sources.calls k _ _ t121 t124 t127 _ ?side1 ?side2 A2.out).mono ?_); (case side1 => repeat (first | exact (Kd.R_reads' HO123.out).2.2 | (with_reducible refine Kd.C_alloc ?_ _) | (with_reducible refine Kd.C_drewN ?_ _) | (with_reducible refine Kd.C_drew ?_))); (case side2 => exact (Kd.R_reads' HO123.out).2.1); rintro e w68 ⟨v125, rfl, ho0, hb⟩; refine ⟨_, rfl, ?_⟩; have n0_ := Aside0.mk (Kd.R_below (by (with_reducible repeat (first | apply Kd.R_alloc | apply Kd.R_drewN | apply Kd.R_drew)); exact HO123.out) hb); have n1_ := Aside0.mk (Kd.N_lower (Kd.N_mono (ok' := fun k_ => some k_ ≠ (.slice Ao67 t121.length co67 : Value).ownBlock) ho0 (fun k_ hk_ => (Kd.fresh' (Kd.R_lt (by (with_reducible repeat (first | apply Kd.R_alloc | apply Kd.R_drewN | apply Kd.R_drew)); exact HO123.out)) k_ hk_))) (below_size (by repeat (first | (with_reducible first | exact HB.out | apply below_alloc | apply pw_below_drewN | apply below_drew1) | exact HB.out)))); have n2_ := Aside0.mk (below_step (by repeat (first | (with_reducible first | exact HB.out | apply below_alloc | apply pw_below_drewN | apply below_drew1) | exact HB.out)) hb); clear HO123; clear HB; have HO123 := n0_; have HO126 := n1_; have HB := n2_; clear n0_ n1_ n2_; (try clear hb); (try clear hb2); (try clear hk); (try clear hi); (try clear ho0)) | ((with_reducible refine gate_callee (f := 6) rfl ?_); refine goesL_ (some 15) rfl rfl Tryd.func6 (by kernel_rfl) rfl #[.int .i64 1, .int .i64 0, .bool true] rfl (by (try simp only [List.map_toArray, List.map_cons, List.map_nil]); first | done | rfl | (simp only [List.length_drop, List.length_take]; rfl)) ?_; (with_reducible refine (cippuslaw07_copies.calls 1 0 true t128 _ A3.out).mono ?_); rintro e w69 ⟨v129, rfl, ho0, hb⟩; refine ⟨_, rfl, ?_⟩; have n0_ := Aside0.mk (Kd.R_elder' (by (with_reducible repeat (first | apply Kd.R_alloc | apply Kd.R_drewN | apply Kd.R_drew)); exact HO123.out) (Kd.R_base ho0) hb); have n1_ := Aside0.mk (Kd.N_elder' (by (with_reducible repeat (first | apply Kd.N_alloc | apply Kd.N_drewN | apply Kd.N_drew)); exact HO126.out) (Kd.R_base ho0) hb); have n2_ := Aside0.mk (Kd.R_lower (Kd.R_new' ho0 (Kd.R_lt (by (with_reducible repeat (first | apply Kd.R_alloc | apply Kd.R_drewN | apply Kd.R_drew)); exact HO123.out))) (below_size (by repeat (first | (with_reducible first | exact HB.out | apply below_alloc | apply pw_below_drewN | apply below_drew1) | exact HB.out)))); have n3_ := Aside0.mk (below_step (by repeat (first | (with_reducible first | exact HB.out | apply below_alloc | apply pw_below_drewN | apply below_drew1) | exact HB.out)) hb); clear HO123; clear HO126; clear HB; have HO123 := n0_; have HO126 := n1_; have HO130 := n2_; have HB := n3_; clear n0_ n1_ n2_ n3_; (try clear hb); (try clear hb2); (try clear hk); (try clear hi); (try clear ho0); obtain ⟨Ao70, co70, eo70⟩ := Kd.R_slice HO130.out; subst eo70) | ((with_reducible refine gate_callee (f := 13) rfl ?_); refine goesL_ (some 16) rfl rfl Tryd.func13 (by kernel_rfl) rfl #[.slice Ao70 t128.length co70] rfl (by (try simp only [List.map_toArray, List.map_cons, List.map_nil]); first | done | rfl | (simp only [List.length_drop, List.length_take]; rfl)) ?_; (with_reducible refine (stemma_Print.calls k _ _ t128 t131 t132 _ ?side1 ?side2 A4.out).mono ?_); (case side1 => repeat (first | exact (Kd.R_reads' HO130.out).2.2 | (with_reducible refine Kd.C_alloc ?_ _) | (with_reducible refine Kd.C_drewN ?_ _) | (with_reducible refine Kd.C_drew ?_))); (case side2 => exact (Kd.R_reads' HO130.out).2.1); rintro e w71 ⟨rfl, hb⟩; refine ⟨_, rfl, ?_⟩; have n0_ := Aside0.mk (Kd.R_below (by (with_reducible repeat (first | apply Kd.R_alloc | apply Kd.R_drewN | apply Kd.R_drew)); exact HO123.out) hb); have n1_ := Aside0.mk (Kd.N_below (by (with_reducible repeat (first | apply Kd.N_alloc | apply Kd.N_drewN | apply Kd.N_drew)); exact HO126.out) hb); have n2_ := Aside0.mk (Kd.R_below (by (with_reducible repeat (first | apply Kd.R_alloc | apply Kd.R_drewN | apply Kd.R_drew)); exact HO130.out) hb); have n3_ := Aside0.mk (below_step (by repeat (first | (with_reducible first | exact HB.out | apply below_alloc | apply pw_below_drewN | apply below_drew1) | exact HB.out)) hb); clear HO123; clear HO126; clear HO130; clear HB; have HO123 := n0_; have HO126 := n1_; have HO130 := n2_; have HB := n3_; clear n0_ n1_ n2_ n3_; (try clear hb); (try clear hb2); (try clear hk); (try clear hi)) | ((with_reducible refine gate_callee (f := 6) rfl ?_); refine goesL_ (some 20) rfl rfl Tryd.func6 (by kernel_rfl) rfl #[.int .i64 0, .int .i64 1, .bool true] rfl (by (try simp only [List.map_toArray, List.map_cons, List.map_nil]); first | done | rfl | (simp only [List.length_drop, List.length_take]; rfl)) ?_; (with_reducible refine (cippuslaw07_copies.calls 0 1 true t133 _ A5.out).mono ?_); rintro e w72 ⟨v134, rfl, ho0, hb⟩; refine ⟨_, rfl, ?_⟩; have n0_ := Aside0.mk (Kd.R_elder' (by (with_reducible repeat (first | apply Kd.R_alloc | apply Kd.R_drewN | apply Kd.R_drew)); exact HO123.out) (Kd.R_base ho0) hb); have n1_ := Aside0.mk (Kd.N_elder' (by (with_reducible repeat (first | apply Kd.N_alloc | apply Kd.N_drewN | apply Kd.N_drew)); exact HO126.out) (Kd.R_base ho0) hb); have n2_ := Aside0.mk (Kd.R_elder' (by (with_reducible repeat (first | apply Kd.R_alloc | apply Kd.R_drewN | apply Kd.R_drew)); exact HO130.out) (Kd.R_base ho0) hb); have n3_ := Aside0.mk (Kd.R_lower (Kd.R_new' (Kd.R_new' ho0 (Kd.R_lt (by (with_reducible repeat (first | apply Kd.R_alloc | apply Kd.R_drewN | apply Kd.R_drew)); exact HO123.out))) (Kd.R_lt (by (with_reducible repeat (first | apply Kd.R_alloc | apply Kd.R_drewN | apply Kd.R_drew)); exact HO130.out))) (below_size (by repeat (first | (with_reducible first | exact HB.out | apply below_alloc | apply pw_below_drewN | apply below_drew1) | exact HB.out)))); have n4_ := Aside0.mk (below_step (by repeat (first | (with_reducible first | exact HB.out | apply below_alloc | apply pw_below_drewN | apply below_drew1) | exact HB.out)) hb); clear HO123; clear HO126; clear HO130; clear HB; have HO123 := n0_; have HO126 := n1_; have HO130 := n2_; have HO135 := n3_; have HB := n4_; clear n0_ n1_ n2_ n3_ n4_; (try clear hb); (try clear hb2); (try clear hk); (try clear hi); (try clear ho0); obtain ⟨Ao73, co73, eo73⟩ := Kd.R_slice HO135.out; subst eo73) | ((with_reducible refine gate_callee (f := 13) rfl ?_); refine goesL_ (some 21) rfl rfl Tryd.func13 (by kernel_rfl) rfl #[.slice Ao73 t133.length co73] rfl (by (try simp only [List.map_toArray, List.map_cons, List.map_nil]); first | done | rfl | (simp only [List.length_drop, List.length_take]; rfl)) ?_; (with_reducible refine (stemma_Print.calls k _ _ t133 t136 t137 _ ?side1 ?side2 A6.out).mono ?_); (case side1 => repeat (first | exact (Kd.R_reads' HO135.out).2.2 | (with_reducible refine Kd.C_alloc ?_ _) | (with_reducible refine Kd.C_drewN ?_ _) | (with_reducible refine Kd.C_drew ?_))); (case side2 => exact (Kd.R_reads' HO135.out).2.1); rintro e w74 ⟨rfl, hb⟩; refine ⟨_, rfl, ?_⟩; have n0_ := Aside0.mk (Kd.R_below (by (with_reducible repeat (first | apply Kd.R_alloc | apply Kd.R_drewN | apply Kd.R_drew)); exact HO123.out) hb); have n1_ := Aside0.mk (Kd.N_below (by (with_reducible repeat (first | apply Kd.N_alloc | apply Kd.N_drewN | apply Kd.N_drew)); exact HO126.out) hb); have n2_ := Aside0.mk (Kd.R_below (by (with_reducible repeat (first | apply Kd.R_alloc | apply Kd.R_drewN | apply Kd.R_drew)); exact HO130.out) hb); have n3_ := Aside0.mk (Kd.R_below (by (with_reducible repeat (first | apply Kd.R_alloc | apply Kd.R_drewN | apply Kd.R_drew)); exact HO135.out) hb); have n4_ := Aside0.mk (below_step (by repeat (first | (with_reducible first | exact HB.out | apply below_alloc | apply pw_below_drewN | apply below_drew1) | exact HB.out)) hb); clear HO123; clear HO126; clear HO130; clear HO135; clear HB; have HO123 := n0_; have HO126 := n1_; have HO130 := n2_; have HO135 := n3_; have HB := n4_; clear n0_ n1_ n2_ n3_ n4_; (try clear hb); (try clear hb2); (try clear hk); (try clear hi)) | ((with_reducible refine gate_callee (f := 6) rfl ?_); refine goesL_ (some 25) rfl rfl Tryd.func6 (by kernel_rfl) rfl #[.int .i64 1, .int .i64 0, .bool true] rfl (by (try simp only [List.map_toArray, List.map_cons, List.map_nil]); first | done | rfl | (simp only [List.length_drop, List.length_take]; rfl)) ?_; (with_reducible refine (cippuslaw07_copies.calls 1 0 true t138 _ A7.out).mono ?_); rintro e w75 ⟨v139, rfl, ho0, hb⟩; refine ⟨_, rfl, ?_⟩; have n0_ := Aside0.mk (Kd.R_elder' (by (with_reducible repeat (first | apply Kd.R_alloc | apply Kd.R_drewN | apply Kd.R_drew)); exact HO123.out) (Kd.R_base ho0) hb); have n1_ := Aside0.mk (Kd.N_elder' (by (with_reducible repeat (first | apply Kd.N_alloc | apply Kd.N_drewN | apply Kd.N_drew)); exact HO126.out) (Kd.R_base ho0) hb); have n2_ := Aside0.mk (Kd.R_elder' (by (with_reducible repeat (first | apply Kd.R_alloc | apply Kd.R_drewN | apply Kd.R_drew)); exact HO130.out) (Kd.R_base ho0) hb); have n3_ := Aside0.mk (Kd.R_elder' (by (with_reducible repeat (first | apply Kd.R_alloc | apply Kd.R_drewN | apply Kd.R_drew)); exact HO135.out) (Kd.R_base ho0) hb); have n4_ := Aside0.mk (Kd.R_lower (Kd.R_new' (Kd.R_new' (Kd.R_new' ho0 (Kd.R_lt (by (with_reducible repeat (first | apply Kd.R_alloc | apply Kd.R_drewN | apply Kd.R_drew)); exact HO123.out))) (Kd.R_lt (by (with_reducible repeat (first | apply Kd.R_alloc | apply Kd.R_drewN | apply Kd.R_drew)); exact HO130.out))) (Kd.R_lt (by (with_reducible repeat (first | apply Kd.R_alloc | apply Kd.R_drewN | apply Kd.R_drew)); exact HO135.out))) (below_size (by repeat (first | (with_reducible first | exact HB.out | apply below_alloc | apply pw_below_drewN | apply below_drew1) | exact HB.out)))); have n5_ := Aside0.mk (below_step (by repeat (first | (with_reducible first | exact HB.out | apply below_alloc | apply pw_below_drewN | apply below_drew1) | exact HB.out)) hb); clear HO123; clear HO126; clear HO130; clear HO135; clear HB; have HO123 := n0_; have HO126 := n1_; have HO130 := n2_; have HO135 := n3_; have HO140 := n4_; have HB := n5_; clear n0_ n1_ n2_ n3_ n4_ n5_; (try clear hb); (try clear hb2); (try clear hk); (try clear hi); (try clear ho0); obtain ⟨Ao76, co76, eo76⟩ := Kd.R_slice HO140.out; subst eo76) | ((with_reducible refine gate_callee (f := 14) rfl ?_); refine goesL_ (some 26) rfl rfl Tryd.func14 (by kernel_rfl) rfl #[.slice Ao76 t138.length co76] rfl (by (try simp only [List.map_toArray, List.map_cons, List.map_nil]); first | done | rfl | (simp only [List.length_drop, List.length_take]; rfl)) ?_; (with_reducible refine (stemma_Fewest.calls k _ _ t138 t141 t142 _ ?side1 ?side2 A8.out).mono ?_); (case side1 => repeat (first | exact (Kd.R_reads' HO140.out).2.2 | (with_reducible refine Kd.C_alloc ?_ _) | (with_reducible refine Kd.C_drewN ?_ _) | (with_reducible refine Kd.C_drew ?_))); (case side2 => exact (Kd.R_reads' HO140.out).2.1); rintro e w77 ⟨rfl, hb⟩; refine ⟨_, rfl, ?_⟩; have n0_ := Aside0.mk (Kd.R_below (by (with_reducible repeat (first | apply Kd.R_alloc | apply Kd.R_drewN | apply Kd.R_drew)); exact HO123.out) hb); have n1_ := Aside0.mk (Kd.N_below (by (with_reducible repeat (first | apply Kd.N_alloc | apply Kd.N_drewN | apply Kd.N_drew)); exact HO126.out) hb); have n2_ := Aside0.mk (Kd.R_below (by (with_reducible repeat (first | apply Kd.R_alloc | apply Kd.R_drewN | apply Kd.R_drew)); exact HO130.out) hb); have n3_ := Aside0.mk (Kd.R_below (by (with_reducible repeat (first | apply Kd.R_alloc | apply Kd.R_drewN | apply Kd.R_drew)); exact HO135.out) hb); have n4_ := Aside0.mk (Kd.R_below (by (with_reducible repeat (first | apply Kd.R_alloc | apply Kd.R_drewN | apply Kd.R_drew)); exact HO140.out) hb); have n5_ := Aside0.mk (below_step (by repeat (first | (with_reducible first | exact HB.out | apply below_alloc | apply pw_below_drewN | apply below_drew1) | exact HB.out)) hb); clear HO123; clear HO126; clear HO130; clear HO135; clear HO140; clear HB; have HO123 := n0_; have HO126 := n1_; have HO130 := n2_; have HO135 := n3_; have HO140 := n4_; have HB := n5_; clear n0_ n1_ n2_ n3_ n4_ n5_; (try clear hb); (try clear hb2); (try clear hk); (try clear hi)))
            go_ret
            exact ⟨by first | rfl | (simp [errW_none, errW_some] <;> rfl) | (simp [*, errW_none, errW_some] <;> rfl), by repeat (first | (with_reducible first | exact HB.out | apply below_alloc | apply pw_below_drewN | apply below_drew1) | exact HB.out)⟩
        · rw [if_neg c12] at H
          have c12b0 : (t142 == 0) = false := beq_eq_false_iff_ne.mpr c12
          have c12b1 : (t142 != 0) = true := bne_iff_ne.mpr c12
          obtain rfl := Option.some.inj H
          go_enter Tryd.func7, Tryd.ntmps7
          go_wp2_with (first | ((with_reducible refine gate_callee (f := 6) rfl ?_); refine goesL_ (some 10) rfl rfl Tryd.func6 (by kernel_rfl) rfl #[.int .i64 1, .int .i64 1, .bool true] rfl (by (try simp only [List.map_toArray, List.map_cons, List.map_nil]); first | done | rfl | (simp only [List.length_drop, List.length_take]; rfl)) ?_; (with_reducible refine (cippuslaw07_copies.calls 1 1 true t121 _ A1.out).mono ?_); rintro e w78 ⟨v122, rfl, ho0, hb⟩; refine ⟨_, rfl, ?_⟩; have n0_ := Aside0.mk (Kd.R_lower ho0 (below_size (by repeat (first | (with_reducible first | exact HB.out | apply below_alloc | apply pw_below_drewN | apply below_drew1) | exact HB.out)))); have n1_ := Aside0.mk (below_step (by repeat (first | (with_reducible first | exact HB.out | apply below_alloc | apply pw_below_drewN | apply below_drew1) | exact HB.out)) hb); clear HB; have HO123 := n0_; have HB := n1_; clear n0_ n1_; (try clear hb); (try clear hb2); (try clear hk); (try clear hi); (try clear ho0); obtain ⟨Ao79, co79, eo79⟩ := Kd.R_slice HO123.out; subst eo79) | ((with_reducible refine gate_callee (f := 9) rfl ?_); refine goesL_ (some 11) rfl rfl Tryd.func9 (by kernel_rfl) rfl #[.slice Ao79 t121.length co79] rfl (by (try simp only [List.map_toArray, List.map_cons, List.map_nil]); first | done | rfl | (simp only [List.length_drop, List.length_take]; rfl)) ?_; (with_reducible refine (stemma_Sources.calls k _ _ t121 t124 t127 _ ?side1 ?side2 A2.out).mono ?_); (case side1 => repeat (first | exact (Kd.R_reads' HO123.out).2.2 | (with_reducible refine Kd.C_alloc ?_ _) | (with_reducible refine Kd.C_drewN ?_ _) | (with_reducible refine Kd.C_drew ?_))); (case side2 => exact (Kd.R_reads' HO123.out).2.1); rintro e w80 ⟨v125, rfl, ho0, hb⟩; refine ⟨_, rfl, ?_⟩; have n0_ := Aside0.mk (Kd.R_below (by (with_reducible repeat (first | apply Kd.R_alloc | apply Kd.R_drewN | apply Kd.R_drew)); exact HO123.out) hb); have n1_ := Aside0.mk (Kd.N_lower (Kd.N_mono (ok' := fun k_ => some k_ ≠ (.slice Ao79 t121.length co79 : Value).ownBlock) ho0 (fun k_ hk_ => (Kd.fresh' (Kd.R_lt (by (with_reducible repeat (first | apply Kd.R_alloc | apply Kd.R_drewN | apply Kd.R_drew)); exact HO123.out)) k_ hk_))) (below_size (by repeat (first | (with_reducible first | exact HB.out | apply below_alloc | apply pw_below_drewN | apply below_drew1) | exact HB.out)))); have n2_ := Aside0.mk (below_step (by repeat (first | (with_reducible first | exact HB.out | apply below_alloc | apply pw_below_drewN | apply below_drew1) | exact HB.out)) hb); clear HO123; clear HB; have HO123 := n0_; have HO126 := n1_; have HB := n2_; clear n0_ n1_ n2_; (try clear hb); (try clear hb2); (try clear hk); (try clear hi); (try clear ho0)) | ((with_reducible refine gate_callee (f := 6) rfl ?_); refine goesL_ (some 15) rfl rfl Tryd.func6 (by kernel_rfl) rfl #[.int .i64 1, .int .i64 0, .bool true] rfl (by (try simp only [List.map_toArray, List.map_cons, List.map_nil]); first | done | rfl | (simp only [List.length_drop, List.length_take]; rfl)) ?_; (with_reducible refine (cippuslaw07_copies.calls 1 0 true t128 _ A3.out).mono ?_); rintro e w81 ⟨v129, rfl, ho0, hb⟩; refine ⟨_, rfl, ?_⟩; have n0_ := Aside0.mk (Kd.R_elder' (by (with_reducible repeat (first | apply Kd.R_alloc | apply Kd.R_drewN | apply Kd.R_drew)); exact HO123.out) (Kd.R_base ho0) hb); have n1_ := Aside0.mk (Kd.N_elder' (by (with_reducible repeat (first | apply Kd.N_alloc | apply Kd.N_drewN | apply Kd.N_drew)); exact HO126.out) (Kd.R_base ho0) hb); have n2_ := Aside0.mk (Kd.R_lower (Kd.R_new' ho0 (Kd.R_lt (by (with_reducible repeat (first | apply Kd.R_alloc | apply Kd.R_drewN | apply Kd.R_drew)); exact HO123.out))) (below_size (by repeat (first | (with_reducible first | exact HB.out | apply below_alloc | apply pw_below_drewN | apply below_drew1) | exact HB.out)))); have n3_ := Aside0.mk (below_step (by repeat (first | (with_reducible first | exact HB.out | apply below_alloc | apply pw_below_drewN | apply below_drew1) | exact HB.out)) hb); clear HO123; clear HO126; clear HB; have HO123 := n0_; have HO126 := n1_; have HO130 := n2_; have HB := n3_; clear n0_ n1_ n2_ n3_; (try clear hb); (try clear hb2); (try clear hk); (try clear hi); (try clear ho0); obtain ⟨Ao82, co82, eo82⟩ := Kd.R_slice HO130.out; subst eo82) | ((with_reducible refine gate_callee (f := 13) rfl ?_); refine goesL_ (some 16) rfl rfl Tryd.func13 (by kernel_rfl) rfl #[.slice Ao82 t128.length co82] rfl (by (try simp only [List.map_toArray, List.map_cons, List.map_nil]); first | done | rfl | (simp only [List.length_drop, List.length_take]; rfl)) ?_; (with_reducible refine (stemma_Print.calls k _ _ t128 t131 t132 _ ?side1 ?side2 A4.out).mono ?_); (case side1 => repeat (first | exact (Kd.R_reads' HO130.out).2.2 | (with_reducible refine Kd.C_alloc ?_ _) | (with_reducible refine Kd.C_drewN ?_ _) | (with_reducible refine Kd.C_drew ?_))); (case side2 => exact (Kd.R_reads' HO130.out).2.1); rintro e w83 ⟨rfl, hb⟩; refine ⟨_, rfl, ?_⟩; have n0_ := Aside0.mk (Kd.R_below (by (with_reducible repeat (first | apply Kd.R_alloc | apply Kd.R_drewN | apply Kd.R_drew)); exact HO123.out) hb); have n1_ := Aside0.mk (Kd.N_below (by (with_reducible repeat (first | apply Kd.N_alloc | apply Kd.N_drewN | apply Kd.N_drew)); exact HO126.out) hb); have n2_ := Aside0.mk (Kd.R_below (by (with_reducible repeat (first | apply Kd.R_alloc | apply Kd.R_drewN | apply Kd.R_drew)); exact HO130.out) hb); have n3_ := Aside0.mk (below_step (by repeat (first | (with_reducible first | exact HB.out | apply below_alloc | apply pw_below_drewN | apply below_drew1) | exact HB.out)) hb); clear HO123; clear HO126; clear HO130; clear HB; have HO123 := n0_; have HO126 := n1_; have HO130 := n2_; have HB := n3_; clear n0_ n1_ n2_ n3_; (try clear hb); (try clear hb2); (try clear hk); (try clear hi)) | ((with_reducible refine gate_callee (f := 6) rfl ?_); refine goesL_ (some 20) rfl rfl Tryd.func6 (by kernel_rfl) rfl #[.int .i64 0, .int .i64 1, .bool true] rfl (by (try simp only [List.map_toArray, List.map_cons, List.map_nil]); first | done | rfl | (simp only [List.length_drop, List.length_take]; rfl)) ?_; (with_reducible refine (cippuslaw07_copies.calls 0 1 true t133 _ A5.out).mono ?_); rintro e w84 ⟨v134, rfl, ho0, hb⟩; refine ⟨_, rfl, ?_⟩; have n0_ := Aside0.mk (Kd.R_elder' (by (with_reducible repeat (first | apply Kd.R_alloc | apply Kd.R_drewN | apply Kd.R_drew)); exact HO123.out) (Kd.R_base ho0) hb); have n1_ := Aside0.mk (Kd.N_elder' (by (with_reducible repeat (first | apply Kd.N_alloc | apply Kd.N_drewN | apply Kd.N_drew)); exact HO126.out) (Kd.R_base ho0) hb); have n2_ := Aside0.mk (Kd.R_elder' (by (with_reducible repeat (first | apply Kd.R_alloc | apply Kd.R_drewN | apply Kd.R_drew)); exact HO130.out) (Kd.R_base ho0) hb); have n3_ := Aside0.mk (Kd.R_lower (Kd.R_new' (Kd.R_new' ho0 (Kd.R_lt (by (with_reducible repeat (first | apply Kd.R_alloc | apply Kd.R_drewN | apply Kd.R_drew)); exact HO123.out))) (Kd.R_lt (by (with_reducible repeat (first | apply Kd.R_alloc | apply Kd.R_drewN | apply Kd.R_drew)); exact HO130.out))) (below_size (by repeat (first | (with_reducible first | exact HB.out | apply below_alloc | apply pw_below_drewN | apply below_drew1) | exact HB.out)))); have n4_ := Aside0.mk (below_step (by repeat (first | (with_reducible first | exact HB.out | apply below_alloc | apply pw_below_drewN | apply below_drew1) | exact HB.out)) hb); clear HO123; clear HO126; clear HO130; clear HB; have HO123 := n0_; have HO126 := n1_; have HO130 := n2_; have HO135 := n3_; have HB := n4_; clear n0_ n1_ n2_ n3_ n4_; (try clear hb); (try clear hb2); (try clear hk); (try clear hi); (try clear ho0); obtain ⟨Ao85, co85, eo85⟩ := Kd.R_slice HO135.out; subst eo85) | ((with_reducible refine gate_callee (f := 13) rfl ?_); refine goesL_ (some 21) rfl rfl Tryd.func13 (by kernel_rfl) rfl #[.slice Ao85 t133.length co85] rfl (by (try simp only [List.map_toArray, List.map_cons, List.map_nil]); first | done | rfl | (simp only [List.length_drop, List.length_take]; rfl)) ?_; (with_reducible refine (stemma_Print.calls k _ _ t133 t136 t137 _ ?side1 ?side2 A6.out).mono ?_); (case side1 => repeat (first | exact (Kd.R_reads' HO135.out).2.2 | (with_reducible refine Kd.C_alloc ?_ _) | (with_reducible refine Kd.C_drewN ?_ _) | (with_reducible refine Kd.C_drew ?_))); (case side2 => exact (Kd.R_reads' HO135.out).2.1); rintro e w86 ⟨rfl, hb⟩; refine ⟨_, rfl, ?_⟩; have n0_ := Aside0.mk (Kd.R_below (by (with_reducible repeat (first | apply Kd.R_alloc | apply Kd.R_drewN | apply Kd.R_drew)); exact HO123.out) hb); have n1_ := Aside0.mk (Kd.N_below (by (with_reducible repeat (first | apply Kd.N_alloc | apply Kd.N_drewN | apply Kd.N_drew)); exact HO126.out) hb); have n2_ := Aside0.mk (Kd.R_below (by (with_reducible repeat (first | apply Kd.R_alloc | apply Kd.R_drewN | apply Kd.R_drew)); exact HO130.out) hb); have n3_ := Aside0.mk (Kd.R_below (by (with_reducible repeat (first | apply Kd.R_alloc | apply Kd.R_drewN | apply Kd.R_drew)); exact HO135.out) hb); have n4_ := Aside0.mk (below_step (by repeat (first | (with_reducible first | exact HB.out | apply below_alloc | apply pw_below_drewN | apply below_drew1) | exact HB.out)) hb); clear HO123; clear HO126; clear HO130; clear HO135; clear HB; have HO123 := n0_; have HO126 := n1_; have HO130 := n2_; have HO135 := n3_; have HB := n4_; clear n0_ n1_ n2_ n3_ n4_; (try clear hb); (try clear hb2); (try clear hk); (try clear hi)) | ((with_reducible refine gate_callee (f := 6) rfl ?_); refine goesL_ (some 25) rfl rfl Tryd.func6 (by kernel_rfl) rfl #[.int .i64 1, .int .i64 0, .bool true] rfl (by (try simp only [List.map_toArray, List.map_cons, List.map_nil]); first | done | rfl | (simp only [List.length_drop, List.length_take]; rfl)) ?_; (with_reducible refine (cippuslaw07_copies.calls 1 0 true t138 _ A7.out).mono ?_); rintro e w87 ⟨v139, rfl, ho0, hb⟩; refine ⟨_, rfl, ?_⟩; have n0_ := Aside0.mk (Kd.R_elder' (by (with_reducible repeat (first | apply Kd.R_alloc | apply Kd.R_drewN | apply Kd.R_drew)); exact HO123.out) (Kd.R_base ho0) hb); have n1_ := Aside0.mk (Kd.N_elder' (by (with_reducible repeat (first | apply Kd.N_alloc | apply Kd.N_drewN | apply Kd.N_drew)); exact HO126.out) (Kd.R_base ho0) hb); have n2_ := Aside0.mk (Kd.R_elder' (by (with_reducible repeat (first | apply Kd.R_alloc | apply Kd.R_drewN | apply Kd.R_drew)); exact HO130.out) (Kd.R_base ho0) hb); have n3_ := Aside0.mk (Kd.R_elder' (by (with_reducible repeat (first | apply Kd.R_alloc | apply Kd.R_drewN | apply Kd.R_drew)); exact HO135.out) (Kd.R_base ho0) hb); have n4_ := Aside0.mk (Kd.R_lower (Kd.R_new' (Kd.R_new' (Kd.R_new' ho0 (Kd.R_lt (by (with_reducible repeat (first | apply Kd.R_alloc | apply Kd.R_drewN | apply Kd.R_drew)); exact HO123.out))) (Kd.R_lt (by (with_reducible repeat (first | apply Kd.R_alloc | apply Kd.R_drewN | apply Kd.R_drew)); exact HO130.out))) (Kd.R_lt (by (with_reducible repeat (first | apply Kd.R_alloc | apply Kd.R_drewN | apply Kd.R_drew)); exact HO135.out))) (below_size (by repeat (first | (with_reducible first | exact HB.out | apply below_alloc | apply pw_below_drewN | apply below_drew1) | exact HB.out)))); have n5_ := Aside0.mk (below_step (by repeat (first | (with_reducible first | exact HB.out | apply below_alloc | apply pw_below_drewN | apply below_drew1) | exact HB.out)) hb); clear HO123; clear HO126; clear HO130; clear HO135; clear HB; have HO123 := n0_; have HO126 := n1_; have HO130 := n2_; have HO135 := n3_; have HO140 := n4_; have HB := n5_; clear n0_ n1_ n2_ n3_ n4_ n5_; (try clear hb); (try clear hb2); (try clear hk); (try clear hi); (try clear ho0); obtain ⟨Ao88, co88, eo88⟩ := Kd.R_slice HO140.out; subst eo88) | ((with_reducible refine gate_callee (f := 14) rfl ?_); refine goesL_ (some 26) rfl rfl Tryd.func14 (by kernel_rfl) rfl #[.slice Ao88 t138.length co88] rfl (by (try simp only [List.map_toArray, List.map_cons, List.map_nil]); first | done | rfl | (simp only [List.length_drop, List.length_take]; rfl)) ?_; (with_reducible refine (stemma_Fewest.calls k _ _ t138 t141 t142 _ ?side1 ?side2 A8.out).mono ?_); (case side1 => repeat (first | exact (Kd.R_reads' HO140.out).2.2 | (with_reducible refine Kd.C_alloc ?_ _) | (with_reducible refine Kd.C_drewN ?_ _) | (with_reducible refine Kd.C_drew ?_))); (case side2 => exact (Kd.R_reads' HO140.out).2.1); rintro e w89 ⟨rfl, hb⟩; refine ⟨_, rfl, ?_⟩; have n0_ := Aside0.mk (Kd.R_below (by (with_reducible repeat (first | apply Kd.R_alloc | apply Kd.R_drewN | apply Kd.R_drew)); exact HO123.out) hb); have n1_ := Aside0.mk (Kd.N_below (by (with_reducible repeat (first | apply Kd.N_alloc | apply Kd.N_drewN | apply Kd.N_drew)); exact HO126.out) hb); have n2_ := Aside0.mk (Kd.R_below (by (with_reducible repeat (first | apply Kd.R_alloc | apply Kd.R_drewN | apply Kd.R_drew)); exact HO130.out) hb); have n3_ := Aside0.mk (Kd.R_below (by (with_reducible repeat (first | apply Kd.R_alloc | apply Kd.R_drewN | apply Kd.R_drew)); exact HO135.out) hb); have n4_ := Aside0.mk (Kd.R_below (by (with_reducible repeat (first | apply Kd.R_alloc | apply Kd.R_drewN | apply Kd.R_drew)); exact HO140.out) hb); have n5_ := Aside0.mk (below_step (by repeat (first | (with_reducible first | exact HB.out | apply below_alloc | apply pw_below_drewN | apply below_drew1) | exact HB.out)) hb); clear HO123; clear HO126; clear HO130; clear HO135; clear HO140; clear HB; have HO123 := n0_; have HO126 := n1_; have HO130 := n2_; have HO135 := n3_; have HO140 := n4_; have HB := n5_; clear n0_ n1_ n2_ n3_ n4_ n5_; (try clear hb); (try clear hb2); (try clear hk); (try clear hi)))
          go_ret
          exact ⟨by first | rfl | (simp [errW_none, errW_some] <;> rfl) | (simp [*, errW_none, errW_some] <;> rfl), by repeat (first | (with_reducible first | exact HB.out | apply below_alloc | apply pw_below_drewN | apply below_drew1) | exact HB.out)⟩
      · rw [if_neg c11] at H
        have c11b0 : (t137 == 0) = false := beq_eq_false_iff_ne.mpr c11
        have c11b1 : (t137 != 0) = true := bne_iff_ne.mpr c11
        obtain rfl := Option.some.inj H
        go_enter Tryd.func7, Tryd.ntmps7
        go_wp2_with (first | ((with_reducible refine gate_callee (f := 6) rfl ?_); refine goesL_ (some 10) rfl rfl Tryd.func6 (by kernel_rfl) rfl #[.int .i64 1, .int .i64 1, .bool true] rfl (by (try simp only [List.map_toArray, List.map_cons, List.map_nil]); first | done | rfl | (simp only [List.length_drop, List.length_take]; rfl)) ?_; (with_reducible refine (cippuslaw07_copies.calls 1 1 true t121 _ A1.out).mono ?_); rintro e w90 ⟨v122, rfl, ho0, hb⟩; refine ⟨_, rfl, ?_⟩; have n0_ := Aside0.mk (Kd.R_lower ho0 (below_size (by repeat (first | (with_reducible first | exact HB.out | apply below_alloc | apply pw_below_drewN | apply below_drew1) | exact HB.out)))); have n1_ := Aside0.mk (below_step (by repeat (first | (with_reducible first | exact HB.out | apply below_alloc | apply pw_below_drewN | apply below_drew1) | exact HB.out)) hb); clear HB; have HO123 := n0_; have HB := n1_; clear n0_ n1_; (try clear hb); (try clear hb2); (try clear hk); (try clear hi); (try clear ho0); obtain ⟨Ao91, co91, eo91⟩ := Kd.R_slice HO123.out; subst eo91) | ((with_reducible refine gate_callee (f := 9) rfl ?_); refine goesL_ (some 11) rfl rfl Tryd.func9 (by kernel_rfl) rfl #[.slice Ao91 t121.length co91] rfl (by (try simp only [List.map_toArray, List.map_cons, List.map_nil]); first | done | rfl | (simp only [List.length_drop, List.length_take]; rfl)) ?_; (with_reducible refine (stemma_Sources.calls k _ _ t121 t124 t127 _ ?side1 ?side2 A2.out).mono ?_); (case side1 => repeat (first | exact (Kd.R_reads' HO123.out).2.2 | (with_reducible refine Kd.C_alloc ?_ _) | (with_reducible refine Kd.C_drewN ?_ _) | (with_reducible refine Kd.C_drew ?_))); (case side2 => exact (Kd.R_reads' HO123.out).2.1); rintro e w92 ⟨v125, rfl, ho0, hb⟩; refine ⟨_, rfl, ?_⟩; have n0_ := Aside0.mk (Kd.R_below (by (with_reducible repeat (first | apply Kd.R_alloc | apply Kd.R_drewN | apply Kd.R_drew)); exact HO123.out) hb); have n1_ := Aside0.mk (Kd.N_lower (Kd.N_mono (ok' := fun k_ => some k_ ≠ (.slice Ao91 t121.length co91 : Value).ownBlock) ho0 (fun k_ hk_ => (Kd.fresh' (Kd.R_lt (by (with_reducible repeat (first | apply Kd.R_alloc | apply Kd.R_drewN | apply Kd.R_drew)); exact HO123.out)) k_ hk_))) (below_size (by repeat (first | (with_reducible first | exact HB.out | apply below_alloc | apply pw_below_drewN | apply below_drew1) | exact HB.out)))); have n2_ := Aside0.mk (below_step (by repeat (first | (with_reducible first | exact HB.out | apply below_alloc | apply pw_below_drewN | apply below_drew1) | exact HB.out)) hb); clear HO123; clear HB; have HO123 := n0_; have HO126 := n1_; have HB := n2_; clear n0_ n1_ n2_; (try clear hb); (try clear hb2); (try clear hk); (try clear hi); (try clear ho0)) | ((with_reducible refine gate_callee (f := 6) rfl ?_); refine goesL_ (some 15) rfl rfl Tryd.func6 (by kernel_rfl) rfl #[.int .i64 1, .int .i64 0, .bool true] rfl (by (try simp only [List.map_toArray, List.map_cons, List.map_nil]); first | done | rfl | (simp only [List.length_drop, List.length_take]; rfl)) ?_; (with_reducible refine (cippuslaw07_copies.calls 1 0 true t128 _ A3.out).mono ?_); rintro e w93 ⟨v129, rfl, ho0, hb⟩; refine ⟨_, rfl, ?_⟩; have n0_ := Aside0.mk (Kd.R_elder' (by (with_reducible repeat (first | apply Kd.R_alloc | apply Kd.R_drewN | apply Kd.R_drew)); exact HO123.out) (Kd.R_base ho0) hb); have n1_ := Aside0.mk (Kd.N_elder' (by (with_reducible repeat (first | apply Kd.N_alloc | apply Kd.N_drewN | apply Kd.N_drew)); exact HO126.out) (Kd.R_base ho0) hb); have n2_ := Aside0.mk (Kd.R_lower (Kd.R_new' ho0 (Kd.R_lt (by (with_reducible repeat (first | apply Kd.R_alloc | apply Kd.R_drewN | apply Kd.R_drew)); exact HO123.out))) (below_size (by repeat (first | (with_reducible first | exact HB.out | apply below_alloc | apply pw_below_drewN | apply below_drew1) | exact HB.out)))); have n3_ := Aside0.mk (below_step (by repeat (first | (with_reducible first | exact HB.out | apply below_alloc | apply pw_below_drewN | apply below_drew1) | exact HB.out)) hb); clear HO123; clear HO126; clear HB; have HO123 := n0_; have HO126 := n1_; have HO130 := n2_; have HB := n3_; clear n0_ n1_ n2_ n3_; (try clear hb); (try clear hb2); (try clear hk); (try clear hi); (try clear ho0); obtain ⟨Ao94, co94, eo94⟩ := Kd.R_slice HO130.out; subst eo94) | ((with_reducible refine gate_callee (f := 13) rfl ?_); refine goesL_ (some 16) rfl rfl Tryd.func13 (by kernel_rfl) rfl #[.slice Ao94 t128.length co94] rfl (by (try simp only [List.map_toArray, List.map_cons, List.map_nil]); first | done | rfl | (simp only [List.length_drop, List.length_take]; rfl)) ?_; (with_reducible refine (stemma_Print.calls k _ _ t128 t131 t132 _ ?side1 ?side2 A4.out).mono ?_); (case side1 => repeat (first | exact (Kd.R_reads' HO130.out).2.2 | (with_reducible refine Kd.C_alloc ?_ _) | (with_reducible refine Kd.C_drewN ?_ _) | (with_reducible refine Kd.C_drew ?_))); (case side2 => exact (Kd.R_reads' HO130.out).2.1); rintro e w95 ⟨rfl, hb⟩; refine ⟨_, rfl, ?_⟩; have n0_ := Aside0.mk (Kd.R_below (by (with_reducible repeat (first | apply Kd.R_alloc | apply Kd.R_drewN | apply Kd.R_drew)); exact HO123.out) hb); have n1_ := Aside0.mk (Kd.N_below (by (with_reducible repeat (first | apply Kd.N_alloc | apply Kd.N_drewN | apply Kd.N_drew)); exact HO126.out) hb); have n2_ := Aside0.mk (Kd.R_below (by (with_reducible repeat (first | apply Kd.R_alloc | apply Kd.R_drewN | apply Kd.R_drew)); exact HO130.out) hb); have n3_ := Aside0.mk (below_step (by repeat (first | (with_reducible first | exact HB.out | apply below_alloc | apply pw_below_drewN | apply below_drew1) | exact HB.out)) hb); clear HO123; clear HO126; clear HO130; clear HB; have HO123 := n0_; have HO126 := n1_; have HO130 := n2_; have HB := n3_; clear n0_ n1_ n2_ n3_; (try clear hb); (try clear hb2); (try clear hk); (try clear hi)) | ((with_reducible refine gate_callee (f := 6) rfl ?_); refine goesL_ (some 20) rfl rfl Tryd.func6 (by kernel_rfl) rfl #[.int .i64 0, .int .i64 1, .bool true] rfl (by (try simp only [List.map_toArray, List.map_cons, List.map_nil]); first | done | rfl | (simp only [List.length_drop, List.length_take]; rfl)) ?_; (with_reducible refine (cippuslaw07_copies.calls 0 1 true t133 _ A5.out).mono ?_); rintro e w96 ⟨v134, rfl, ho0, hb⟩; refine ⟨_, rfl, ?_⟩; have n0_ := Aside0.mk (Kd.R_elder' (by (with_reducible repeat (first | apply Kd.R_alloc | apply Kd.R_drewN | apply Kd.R_drew)); exact HO123.out) (Kd.R_base ho0) hb); have n1_ := Aside0.mk (Kd.N_elder' (by (with_reducible repeat (first | apply Kd.N_alloc | apply Kd.N_drewN | apply Kd.N_drew)); exact HO126.out) (Kd.R_base ho0) hb); have n2_ := Aside0.mk (Kd.R_elder' (by (with_reducible repeat (first | apply Kd.R_alloc | apply Kd.R_drewN | apply Kd.R_drew)); exact HO130.out) (Kd.R_base ho0) hb); have n3_ := Aside0.mk (Kd.R_lower (Kd.R_new' (Kd.R_new' ho0 (Kd.R_lt (by (with_reducible repeat (first | apply Kd.R_alloc | apply Kd.R_drewN | apply Kd.R_drew)); exact HO123.out))) (Kd.R_lt (by (with_reducible repeat (first | apply Kd.R_alloc | apply Kd.R_drewN | apply Kd.R_drew)); exact HO130.out))) (below_size (by repeat (first | (with_reducible first | exact HB.out | apply below_alloc | apply pw_below_drewN | apply below_drew1) | exact HB.out)))); have n4_ := Aside0.mk (below_step (by repeat (first | (with_reducible first | exact HB.out | apply below_alloc | apply pw_below_drewN | apply below_drew1) | exact HB.out)) hb); clear HO123; clear HO126; clear HO130; clear HB; have HO123 := n0_; have HO126 := n1_; have HO130 := n2_; have HO135 := n3_; have HB := n4_; clear n0_ n1_ n2_ n3_ n4_; (try clear hb); (try clear hb2); (try clear hk); (try clear hi); (try clear ho0); obtain ⟨Ao97, co97, eo97⟩ := Kd.R_slice HO135.out; subst eo97) | ((with_reducible refine gate_callee (f := 13) rfl ?_); refine goesL_ (some 21) rfl rfl Tryd.func13 (by kernel_rfl) rfl #[.slice Ao97 t133.length co97] rfl (by (try simp only [List.map_toArray, List.map_cons, List.map_nil]); first | done | rfl | (simp only [List.length_drop, List.length_take]; rfl)) ?_; (with_reducible refine (stemma_Print.calls k _ _ t133 t136 t137 _ ?side1 ?side2 A6.out).mono ?_); (case side1 => repeat (first | exact (Kd.R_reads' HO135.out).2.2 | (with_reducible refine Kd.C_alloc ?_ _) | (with_reducible refine Kd.C_drewN ?_ _) | (with_reducible refine Kd.C_drew ?_))); (case side2 => exact (Kd.R_reads' HO135.out).2.1); rintro e w98 ⟨rfl, hb⟩; refine ⟨_, rfl, ?_⟩; have n0_ := Aside0.mk (Kd.R_below (by (with_reducible repeat (first | apply Kd.R_alloc | apply Kd.R_drewN | apply Kd.R_drew)); exact HO123.out) hb); have n1_ := Aside0.mk (Kd.N_below (by (with_reducible repeat (first | apply Kd.N_alloc | apply Kd.N_drewN | apply Kd.N_drew)); exact HO126.out) hb); have n2_ := Aside0.mk (Kd.R_below (by (with_reducible repeat (first | apply Kd.R_alloc | apply Kd.R_drewN | apply Kd.R_drew)); exact HO130.out) hb); have n3_ := Aside0.mk (Kd.R_below (by (with_reducible repeat (first | apply Kd.R_alloc | apply Kd.R_drewN | apply Kd.R_drew)); exact HO135.out) hb); have n4_ := Aside0.mk (below_step (by repeat (first | (with_reducible first | exact HB.out | apply below_alloc | apply pw_below_drewN | apply below_drew1) | exact HB.out)) hb); clear HO123; clear HO126; clear HO130; clear HO135; clear HB; have HO123 := n0_; have HO126 := n1_; have HO130 := n2_; have HO135 := n3_; have HB := n4_; clear n0_ n1_ n2_ n3_ n4_; (try clear hb); (try clear hb2); (try clear hk); (try clear hi)) | ((with_reducible refine gate_callee (f := 6) rfl ?_); refine goesL_ (some 25) rfl rfl Tryd.func6 (by kernel_rfl) rfl #[.int .i64 1, .int .i64 0, .bool true] rfl (by (try simp only [List.map_toArray, List.map_cons, List.map_nil]); first | done | rfl | (simp only [List.length_drop, List.length_take]; rfl)) ?_; (with_reducible refine (cippuslaw07_copies.calls 1 0 true t138 _ A7.out).mono ?_); rintro e w99 ⟨v139, rfl, ho0, hb⟩; refine ⟨_, rfl, ?_⟩; have n0_ := Aside0.mk (Kd.R_elder' (by (with_reducible repeat (first | apply Kd.R_alloc | apply Kd.R_drewN | apply Kd.R_drew)); exact HO123.out) (Kd.R_base ho0) hb); have n1_ := Aside0.mk (Kd.N_elder' (by (with_reducible repeat (first | apply Kd.N_alloc | apply Kd.N_drewN | apply Kd.N_drew)); exact HO126.out) (Kd.R_base ho0) hb); have n2_ := Aside0.mk (Kd.R_elder' (by (with_reducible repeat (first | apply Kd.R_alloc | apply Kd.R_drewN | apply Kd.R_drew)); exact HO130.out) (Kd.R_base ho0) hb); have n3_ := Aside0.mk (Kd.R_elder' (by (with_reducible repeat (first | apply Kd.R_alloc | apply Kd.R_drewN | apply Kd.R_drew)); exact HO135.out) (Kd.R_base ho0) hb); have n4_ := Aside0.mk (Kd.R_lower (Kd.R_new' (Kd.R_new' (Kd.R_new' ho0 (Kd.R_lt (by (with_reducible repeat (first | apply Kd.R_alloc | apply Kd.R_drewN | apply Kd.R_drew)); exact HO123.out))) (Kd.R_lt (by (with_reducible repeat (first | apply Kd.R_alloc | apply Kd.R_drewN | apply Kd.R_drew)); exact HO130.out))) (Kd.R_lt (by (with_reducible repeat (first | apply Kd.R_alloc | apply Kd.R_drewN | apply Kd.R_drew)); exact HO135.out))) (below_size (by repeat (first | (with_reducible first | exact HB.out | apply below_alloc | apply pw_below_drewN | apply below_drew1) | exact HB.out)))); have n5_ := Aside0.mk (below_step (by repeat (first | (with_reducible first | exact HB.out | apply below_alloc | apply pw_below_drewN | apply below_drew1) | exact HB.out)) hb); clear HO123; clear HO126; clear HO130; clear HO135; clear HB; have HO123 := n0_; have HO126 := n1_; have HO130 := n2_; have HO135 := n3_; have HO140 := n4_; have HB := n5_; clear n0_ n1_ n2_ n3_ n4_ n5_; (try clear hb); (try clear hb2); (try clear hk); (try clear hi); (try clear ho0); obtain ⟨Ao100, co100, eo100⟩ := Kd.R_slice HO140.out; subst eo100) | ((with_reducible refine gate_callee (f := 14) rfl ?_); refine goesL_ (some 26) rfl rfl Tryd.func14 (by kernel_rfl) rfl #[.slice Ao100 t138.length co100] rfl (by (try simp only [List.map_toArray, List.map_cons, List.map_nil]); first | done | rfl | (simp only [List.length_drop, List.length_take]; rfl)) ?_; (with_reducible refine (stemma_Fewest.calls k _ _ t138 t141 t142 _ ?side1 ?side2 A8.out).mono ?_); (case side1 => repeat (first | exact (Kd.R_reads' HO140.out).2.2 | (with_reducible refine Kd.C_alloc ?_ _) | (with_reducible refine Kd.C_drewN ?_ _) | (with_reducible refine Kd.C_drew ?_))); (case side2 => exact (Kd.R_reads' HO140.out).2.1); rintro e w101 ⟨rfl, hb⟩; refine ⟨_, rfl, ?_⟩; have n0_ := Aside0.mk (Kd.R_below (by (with_reducible repeat (first | apply Kd.R_alloc | apply Kd.R_drewN | apply Kd.R_drew)); exact HO123.out) hb); have n1_ := Aside0.mk (Kd.N_below (by (with_reducible repeat (first | apply Kd.N_alloc | apply Kd.N_drewN | apply Kd.N_drew)); exact HO126.out) hb); have n2_ := Aside0.mk (Kd.R_below (by (with_reducible repeat (first | apply Kd.R_alloc | apply Kd.R_drewN | apply Kd.R_drew)); exact HO130.out) hb); have n3_ := Aside0.mk (Kd.R_below (by (with_reducible repeat (first | apply Kd.R_alloc | apply Kd.R_drewN | apply Kd.R_drew)); exact HO135.out) hb); have n4_ := Aside0.mk (Kd.R_below (by (with_reducible repeat (first | apply Kd.R_alloc | apply Kd.R_drewN | apply Kd.R_drew)); exact HO140.out) hb); have n5_ := Aside0.mk (below_step (by repeat (first | (with_reducible first | exact HB.out | apply below_alloc | apply pw_below_drewN | apply below_drew1) | exact HB.out)) hb); clear HO123; clear HO126; clear HO130; clear HO135; clear HO140; clear HB; have HO123 := n0_; have HO126 := n1_; have HO130 := n2_; have HO135 := n3_; have HO140 := n4_; have HB := n5_; clear n0_ n1_ n2_ n3_ n4_ n5_; (try clear hb); (try clear hb2); (try clear hk); (try clear hi)))
        go_ret
        exact ⟨by first | rfl | (simp [errW_none, errW_some] <;> rfl) | (simp [*, errW_none, errW_some] <;> rfl), by repeat (first | (with_reducible first | exact HB.out | apply below_alloc | apply pw_below_drewN | apply below_drew1) | exact HB.out)⟩
    · rw [if_neg c10] at H
      have c10b0 : (t132 == 0) = false := beq_eq_false_iff_ne.mpr c10
      have c10b1 : (t132 != 0) = true := bne_iff_ne.mpr c10
      obtain rfl := Option.some.inj H
      go_enter Tryd.func7, Tryd.ntmps7
      go_wp2_with (first | ((with_reducible refine gate_callee (f := 6) rfl ?_); refine goesL_ (some 10) rfl rfl Tryd.func6 (by kernel_rfl) rfl #[.int .i64 1, .int .i64 1, .bool true] rfl (by (try simp only [List.map_toArray, List.map_cons, List.map_nil]); first | done | rfl | (simp only [List.length_drop, List.length_take]; rfl)) ?_; (with_reducible refine (cippuslaw07_copies.calls 1 1 true t121 _ A1.out).mono ?_); rintro e w102 ⟨v122, rfl, ho0, hb⟩; refine ⟨_, rfl, ?_⟩; have n0_ := Aside0.mk (Kd.R_lower ho0 (below_size (by repeat (first | (with_reducible first | exact HB.out | apply below_alloc | apply pw_below_drewN | apply below_drew1) | exact HB.out)))); have n1_ := Aside0.mk (below_step (by repeat (first | (with_reducible first | exact HB.out | apply below_alloc | apply pw_below_drewN | apply below_drew1) | exact HB.out)) hb); clear HB; have HO123 := n0_; have HB := n1_; clear n0_ n1_; (try clear hb); (try clear hb2); (try clear hk); (try clear hi); (try clear ho0); obtain ⟨Ao103, co103, eo103⟩ := Kd.R_slice HO123.out; subst eo103) | ((with_reducible refine gate_callee (f := 9) rfl ?_); refine goesL_ (some 11) rfl rfl Tryd.func9 (by kernel_rfl) rfl #[.slice Ao103 t121.length co103] rfl (by (try simp only [List.map_toArray, List.map_cons, List.map_nil]); first | done | rfl | (simp only [List.length_drop, List.length_take]; rfl)) ?_; (with_reducible refine (stemma_Sources.calls k _ _ t121 t124 t127 _ ?side1 ?side2 A2.out).mono ?_); (case side1 => repeat (first | exact (Kd.R_reads' HO123.out).2.2 | (with_reducible refine Kd.C_alloc ?_ _) | (with_reducible refine Kd.C_drewN ?_ _) | (with_reducible refine Kd.C_drew ?_))); (case side2 => exact (Kd.R_reads' HO123.out).2.1); rintro e w104 ⟨v125, rfl, ho0, hb⟩; refine ⟨_, rfl, ?_⟩; have n0_ := Aside0.mk (Kd.R_below (by (with_reducible repeat (first | apply Kd.R_alloc | apply Kd.R_drewN | apply Kd.R_drew)); exact HO123.out) hb); have n1_ := Aside0.mk (Kd.N_lower (Kd.N_mono (ok' := fun k_ => some k_ ≠ (.slice Ao103 t121.length co103 : Value).ownBlock) ho0 (fun k_ hk_ => (Kd.fresh' (Kd.R_lt (by (with_reducible repeat (first | apply Kd.R_alloc | apply Kd.R_drewN | apply Kd.R_drew)); exact HO123.out)) k_ hk_))) (below_size (by repeat (first | (with_reducible first | exact HB.out | apply below_alloc | apply pw_below_drewN | apply below_drew1) | exact HB.out)))); have n2_ := Aside0.mk (below_step (by repeat (first | (with_reducible first | exact HB.out | apply below_alloc | apply pw_below_drewN | apply below_drew1) | exact HB.out)) hb); clear HO123; clear HB; have HO123 := n0_; have HO126 := n1_; have HB := n2_; clear n0_ n1_ n2_; (try clear hb); (try clear hb2); (try clear hk); (try clear hi); (try clear ho0)) | ((with_reducible refine gate_callee (f := 6) rfl ?_); refine goesL_ (some 15) rfl rfl Tryd.func6 (by kernel_rfl) rfl #[.int .i64 1, .int .i64 0, .bool true] rfl (by (try simp only [List.map_toArray, List.map_cons, List.map_nil]); first | done | rfl | (simp only [List.length_drop, List.length_take]; rfl)) ?_; (with_reducible refine (cippuslaw07_copies.calls 1 0 true t128 _ A3.out).mono ?_); rintro e w105 ⟨v129, rfl, ho0, hb⟩; refine ⟨_, rfl, ?_⟩; have n0_ := Aside0.mk (Kd.R_elder' (by (with_reducible repeat (first | apply Kd.R_alloc | apply Kd.R_drewN | apply Kd.R_drew)); exact HO123.out) (Kd.R_base ho0) hb); have n1_ := Aside0.mk (Kd.N_elder' (by (with_reducible repeat (first | apply Kd.N_alloc | apply Kd.N_drewN | apply Kd.N_drew)); exact HO126.out) (Kd.R_base ho0) hb); have n2_ := Aside0.mk (Kd.R_lower (Kd.R_new' ho0 (Kd.R_lt (by (with_reducible repeat (first | apply Kd.R_alloc | apply Kd.R_drewN | apply Kd.R_drew)); exact HO123.out))) (below_size (by repeat (first | (with_reducible first | exact HB.out | apply below_alloc | apply pw_below_drewN | apply below_drew1) | exact HB.out)))); have n3_ := Aside0.mk (below_step (by repeat (first | (with_reducible first | exact HB.out | apply below_alloc | apply pw_below_drewN | apply below_drew1) | exact HB.out)) hb); clear HO123; clear HO126; clear HB; have HO123 := n0_; have HO126 := n1_; have HO130 := n2_; have HB := n3_; clear n0_ n1_ n2_ n3_; (try clear hb); (try clear hb2); (try clear hk); (try clear hi); (try clear ho0); obtain ⟨Ao106, co106, eo106⟩ := Kd.R_slice HO130.out; subst eo106) | ((with_reducible refine gate_callee (f := 13) rfl ?_); refine goesL_ (some 16) rfl rfl Tryd.func13 (by kernel_rfl) rfl #[.slice Ao106 t128.length co106] rfl (by (try simp only [List.map_toArray, List.map_cons, List.map_nil]); first | done | rfl | (simp only [List.length_drop, List.length_take]; rfl)) ?_; (with_reducible refine (stemma_Print.calls k _ _ t128 t131 t132 _ ?side1 ?side2 A4.out).mono ?_); (case side1 => repeat (first | exact (Kd.R_reads' HO130.out).2.2 | (with_reducible refine Kd.C_alloc ?_ _) | (with_reducible refine Kd.C_drewN ?_ _) | (with_reducible refine Kd.C_drew ?_))); (case side2 => exact (Kd.R_reads' HO130.out).2.1); rintro e w107 ⟨rfl, hb⟩; refine ⟨_, rfl, ?_⟩; have n0_ := Aside0.mk (Kd.R_below (by (with_reducible repeat (first | apply Kd.R_alloc | apply Kd.R_drewN | apply Kd.R_drew)); exact HO123.out) hb); have n1_ := Aside0.mk (Kd.N_below (by (with_reducible repeat (first | apply Kd.N_alloc | apply Kd.N_drewN | apply Kd.N_drew)); exact HO126.out) hb); have n2_ := Aside0.mk (Kd.R_below (by (with_reducible repeat (first | apply Kd.R_alloc | apply Kd.R_drewN | apply Kd.R_drew)); exact HO130.out) hb); have n3_ := Aside0.mk (below_step (by repeat (first | (with_reducible first | exact HB.out | apply below_alloc | apply pw_below_drewN | apply below_drew1) | exact HB.out)) hb); clear HO123; clear HO126; clear HO130; clear HB; have HO123 := n0_; have HO126 := n1_; have HO130 := n2_; have HB := n3_; clear n0_ n1_ n2_ n3_; (try clear hb); (try clear hb2); (try clear hk); (try clear hi)) | ((with_reducible refine gate_callee (f := 6) rfl ?_); refine goesL_ (some 20) rfl rfl Tryd.func6 (by kernel_rfl) rfl #[.int .i64 0, .int .i64 1, .bool true] rfl (by (try simp only [List.map_toArray, List.map_cons, List.map_nil]); first | done | rfl | (simp only [List.length_drop, List.length_take]; rfl)) ?_; (with_reducible refine (cippuslaw07_copies.calls 0 1 true t133 _ A5.out).mono ?_); rintro e w108 ⟨v134, rfl, ho0, hb⟩; refine ⟨_, rfl, ?_⟩; have n0_ := Aside0.mk (Kd.R_elder' (by (with_reducible repeat (first | apply Kd.R_alloc | apply Kd.R_drewN | apply Kd.R_drew)); exact HO123.out) (Kd.R_base ho0) hb); have n1_ := Aside0.mk (Kd.N_elder' (by (with_reducible repeat (first | apply Kd.N_alloc | apply Kd.N_drewN | apply Kd.N_drew)); exact HO126.out) (Kd.R_base ho0) hb); have n2_ := Aside0.mk (Kd.R_elder' (by (with_reducible repeat (first | apply Kd.R_alloc | apply Kd.R_drewN | apply Kd.R_drew)); exact HO130.out) (Kd.R_base ho0) hb); have n3_ := Aside0.mk (Kd.R_lower (Kd.R_new' (Kd.R_new' ho0 (Kd.R_lt (by (with_reducible repeat (first | apply Kd.R_alloc | apply Kd.R_drewN | apply Kd.R_drew)); exact HO123.out))) (Kd.R_lt (by (with_reducible repeat (first | apply Kd.R_alloc | apply Kd.R_drewN | apply Kd.R_drew)); exact HO130.out))) (below_size (by repeat (first | (with_reducible first | exact HB.out | apply below_alloc | apply pw_below_drewN | apply below_drew1) | exact HB.out)))); have n4_ := Aside0.mk (below_step (by repeat (first | (with_reducible first | exact HB.out | apply below_alloc | apply pw_below_drewN | apply below_drew1) | exact HB.out)) hb); clear HO123; clear HO126; clear HO130; clear HB; have HO123 := n0_; have HO126 := n1_; have HO130 := n2_; have HO135 := n3_; have HB := n4_; clear n0_ n1_ n2_ n3_ n4_; (try clear hb); (try clear hb2); (try clear hk); (try clear hi); (try clear ho0); obtain ⟨Ao109, co109, eo109⟩ := Kd.R_slice HO135.out; subst eo109) | ((with_reducible refine gate_callee (f := 13) rfl ?_); refine goesL_ (some 21) rfl rfl Tryd.func13 (by kernel_rfl) rfl #[.slice Ao109 t133.length co109] rfl (by (try simp only [List.map_toArray, List.map_cons, List.map_nil]); first | done | rfl | (simp only [List.length_drop, List.length_take]; rfl)) ?_; (with_reducible refine (stemma_Print.calls k _ _ t133 t136 t137 _ ?side1 ?side2 A6.out).mono ?_); (case side1 => repeat (first | exact (Kd.R_reads' HO135.out).2.2 | (with_reducible refine Kd.C_alloc ?_ _) | (with_reducible refine Kd.C_drewN ?_ _) | (with_reducible refine Kd.C_drew ?_))); (case side2 => exact (Kd.R_reads' HO135.out).2.1); rintro e w110 ⟨rfl, hb⟩; refine ⟨_, rfl, ?_⟩; have n0_ := Aside0.mk (Kd.R_below (by (with_reducible repeat (first | apply Kd.R_alloc | apply Kd.R_drewN | apply Kd.R_drew)); exact HO123.out) hb); have n1_ := Aside0.mk (Kd.N_below (by (with_reducible repeat (first | apply Kd.N_alloc | apply Kd.N_drewN | apply Kd.N_drew)); exact HO126.out) hb); have n2_ := Aside0.mk (Kd.R_below (by (with_reducible repeat (first | apply Kd.R_alloc | apply Kd.R_drewN | apply Kd.R_drew)); exact HO130.out) hb); have n3_ := Aside0.mk (Kd.R_below (by (with_reducible repeat (first | apply Kd.R_alloc | apply Kd.R_drewN | apply Kd.R_drew)); exact HO135.out) hb); have n4_ := Aside0.mk (below_step (by repeat (first | (with_reducible first | exact HB.out | apply below_alloc | apply pw_below_drewN | apply below_drew1) | exact HB.out)) hb); clear HO123; clear HO126; clear HO130; clear HO135; clear HB; have HO123 := n0_; have HO126 := n1_; have HO130 := n2_; have HO135 := n3_; have HB := n4_; clear n0_ n1_ n2_ n3_ n4_; (try clear hb); (try clear hb2); (try clear hk); (try clear hi)) | ((with_reducible refine gate_callee (f := 6) rfl ?_); refine goesL_ (some 25) rfl rfl Tryd.func6 (by kernel_rfl) rfl #[.int .i64 1, .int .i64 0, .bool true] rfl (by (try simp only [List.map_toArray, List.map_cons, List.map_nil]); first | done | rfl | (simp only [List.length_drop, List.length_take]; rfl)) ?_; (with_reducible refine (cippuslaw07_copies.calls 1 0 true t138 _ A7.out).mono ?_); rintro e w111 ⟨v139, rfl, ho0, hb⟩; refine ⟨_, rfl, ?_⟩; have n0_ := Aside0.mk (Kd.R_elder' (by (with_reducible repeat (first | apply Kd.R_alloc | apply Kd.R_drewN | apply Kd.R_drew)); exact HO123.out) (Kd.R_base ho0) hb); have n1_ := Aside0.mk (Kd.N_elder' (by (with_reducible repeat (first | apply Kd.N_alloc | apply Kd.N_drewN | apply Kd.N_drew)); exact HO126.out) (Kd.R_base ho0) hb); have n2_ := Aside0.mk (Kd.R_elder' (by (with_reducible repeat (first | apply Kd.R_alloc | apply Kd.R_drewN | apply Kd.R_drew)); exact HO130.out) (Kd.R_base ho0) hb); have n3_ := Aside0.mk (Kd.R_elder' (by (with_reducible repeat (first | apply Kd.R_alloc | apply Kd.R_drewN | apply Kd.R_drew)); exact HO135.out) (Kd.R_base ho0) hb); have n4_ := Aside0.mk (Kd.R_lower (Kd.R_new' (Kd.R_new' (Kd.R_new' ho0 (Kd.R_lt (by (with_reducible repeat (first | apply Kd.R_alloc | apply Kd.R_drewN | apply Kd.R_drew)); exact HO123.out))) (Kd.R_lt (by (with_reducible repeat (first | apply Kd.R_alloc | apply Kd.R_drewN | apply Kd.R_drew)); exact HO130.out))) (Kd.R_lt (by (with_reducible repeat (first | apply Kd.R_alloc | apply Kd.R_drewN | apply Kd.R_drew)); exact HO135.out))) (below_size (by repeat (first | (with_reducible first | exact HB.out | apply below_alloc | apply pw_below_drewN | apply below_drew1) | exact HB.out)))); have n5_ := Aside0.mk (below_step (by repeat (first | (with_reducible first | exact HB.out | apply below_alloc | apply pw_below_drewN | apply below_drew1) | exact HB.out)) hb); clear HO123; clear HO126; clear HO130; clear HO135; clear HB; have HO123 := n0_; have HO126 := n1_; have HO130 := n2_; have HO135 := n3_; have HO140 := n4_; have HB := n5_; clear n0_ n1_ n2_ n3_ n4_ n5_; (try clear hb); (try clear hb2); (try clear hk); (try clear hi); (try clear ho0); obtain ⟨Ao112, co112, eo112⟩ := Kd.R_slice HO140.out; subst eo112) | ((with_reducible refine gate_callee (f := 14) rfl ?_); refine goesL_ (some 26) rfl rfl Tryd.func14 (by kernel_rfl) rfl #[.slice Ao112 t138.length co112] rfl (by (try simp only [List.map_toArray, List.map_cons, List.map_nil]); first | done | rfl | (simp only [List.length_drop, List.length_take]; rfl)) ?_; (with_reducible refine (stemma_Fewest.calls k _ _ t138 t141 t142 _ ?side1 ?side2 A8.out).mono ?_); (case side1 => repeat (first | exact (Kd.R_reads' HO140.out).2.2 | (with_reducible refine Kd.C_alloc ?_ _) | (with_reducible refine Kd.C_drewN ?_ _) | (with_reducible refine Kd.C_drew ?_))); (case side2 => exact (Kd.R_reads' HO140.out).2.1); rintro e w113 ⟨rfl, hb⟩; refine ⟨_, rfl, ?_⟩; have n0_ := Aside0.mk (Kd.R_below (by (with_reducible repeat (first | apply Kd.R_alloc | apply Kd.R_drewN | apply Kd.R_drew)); exact HO123.out) hb); have n1_ := Aside0.mk (Kd.N_below (by (with_reducible repeat (first | apply Kd.N_alloc | apply Kd.N_drewN | apply Kd.N_drew)); exact HO126.out) hb); have n2_ := Aside0.mk (Kd.R_below (by (with_reducible repeat (first | apply Kd.R_alloc | apply Kd.R_drewN | apply Kd.R_drew)); exact HO130.out) hb); have n3_ := Aside0.mk (Kd.R_below (by (with_reducible repeat (first | apply Kd.R_alloc | apply Kd.R_drewN | apply Kd.R_drew)); exact HO135.out) hb); have n4_ := Aside0.mk (Kd.R_below (by (with_reducible repeat (first | apply Kd.R_alloc | apply Kd.R_drewN | apply Kd.R_drew)); exact HO140.out) hb); have n5_ := Aside0.mk (below_step (by repeat (first | (with_reducible first | exact HB.out | apply below_alloc | apply pw_below_drewN | apply below_drew1) | exact HB.out)) hb); clear HO123; clear HO126; clear HO130; clear HO135; clear HO140; clear HB; have HO123 := n0_; have HO126 := n1_; have HO130 := n2_; have HO135 := n3_; have HO140 := n4_; have HB := n5_; clear n0_ n1_ n2_ n3_ n4_ n5_; (try clear hb); (try clear hb2); (try clear hk); (try clear hi)))
      go_ret
      exact ⟨by first | rfl | (simp [errW_none, errW_some] <;> rfl) | (simp [*, errW_none, errW_some] <;> rfl), by repeat (first | (with_reducible first | exact HB.out | apply below_alloc | apply pw_below_drewN | apply below_drew1) | exact HB.out)⟩
  · rw [if_neg c9] at H
    have c9b0 : (t127 == 0) = false := beq_eq_false_iff_ne.mpr c9
    have c9b1 : (t127 != 0) = true := bne_iff_ne.mpr c9
    obtain rfl := Option.some.inj H
    go_enter Tryd.func7, Tryd.ntmps7
    go_wp2_with (first | ((with_reducible refine gate_callee (f := 6) rfl ?_); refine goesL_ (some 10) rfl rfl Tryd.func6 (by kernel_rfl) rfl #[.int .i64 1, .int .i64 1, .bool true] rfl (by (try simp only [List.map_toArray, List.map_cons, List.map_nil]); first | done | rfl | (simp only [List.length_drop, List.length_take]; rfl)) ?_; (with_reducible refine (cippuslaw07_copies.calls 1 1 true t121 _ A1.out).mono ?_); rintro e w114 ⟨v122, rfl, ho0, hb⟩; refine ⟨_, rfl, ?_⟩; have n0_ := Aside0.mk (Kd.R_lower ho0 (below_size (by repeat (first | (with_reducible first | exact HB.out | apply below_alloc | apply pw_below_drewN | apply below_drew1) | exact HB.out)))); have n1_ := Aside0.mk (below_step (by repeat (first | (with_reducible first | exact HB.out | apply below_alloc | apply pw_below_drewN | apply below_drew1) | exact HB.out)) hb); clear HB; have HO123 := n0_; have HB := n1_; clear n0_ n1_; (try clear hb); (try clear hb2); (try clear hk); (try clear hi); (try clear ho0); obtain ⟨Ao115, co115, eo115⟩ := Kd.R_slice HO123.out; subst eo115) | ((with_reducible refine gate_callee (f := 9) rfl ?_); refine goesL_ (some 11) rfl rfl Tryd.func9 (by kernel_rfl) rfl #[.slice Ao115 t121.length co115] rfl (by (try simp only [List.map_toArray, List.map_cons, List.map_nil]); first | done | rfl | (simp only [List.length_drop, List.length_take]; rfl)) ?_; (with_reducible refine (stemma_Sources.calls k _ _ t121 t124 t127 _ ?side1 ?side2 A2.out).mono ?_); (case side1 => repeat (first | exact (Kd.R_reads' HO123.out).2.2 | (with_reducible refine Kd.C_alloc ?_ _) | (with_reducible refine Kd.C_drewN ?_ _) | (with_reducible refine Kd.C_drew ?_))); (case side2 => exact (Kd.R_reads' HO123.out).2.1); rintro e w116 ⟨v125, rfl, ho0, hb⟩; refine ⟨_, rfl, ?_⟩; have n0_ := Aside0.mk (Kd.R_below (by (with_reducible repeat (first | apply Kd.R_alloc | apply Kd.R_drewN | apply Kd.R_drew)); exact HO123.out) hb); have n1_ := Aside0.mk (Kd.N_lower (Kd.N_mono (ok' := fun k_ => some k_ ≠ (.slice Ao115 t121.length co115 : Value).ownBlock) ho0 (fun k_ hk_ => (Kd.fresh' (Kd.R_lt (by (with_reducible repeat (first | apply Kd.R_alloc | apply Kd.R_drewN | apply Kd.R_drew)); exact HO123.out)) k_ hk_))) (below_size (by repeat (first | (with_reducible first | exact HB.out | apply below_alloc | apply pw_below_drewN | apply below_drew1) | exact HB.out)))); have n2_ := Aside0.mk (below_step (by repeat (first | (with_reducible first | exact HB.out | apply below_alloc | apply pw_below_drewN | apply below_drew1) | exact HB.out)) hb); clear HO123; clear HB; have HO123 := n0_; have HO126 := n1_; have HB := n2_; clear n0_ n1_ n2_; (try clear hb); (try clear hb2); (try clear hk); (try clear hi); (try clear ho0)) | ((with_reducible refine gate_callee (f := 6) rfl ?_); refine goesL_ (some 15) rfl rfl Tryd.func6 (by kernel_rfl) rfl #[.int .i64 1, .int .i64 0, .bool true] rfl (by (try simp only [List.map_toArray, List.map_cons, List.map_nil]); first | done | rfl | (simp only [List.length_drop, List.length_take]; rfl)) ?_; (with_reducible refine (cippuslaw07_copies.calls 1 0 true t128 _ A3.out).mono ?_); rintro e w117 ⟨v129, rfl, ho0, hb⟩; refine ⟨_, rfl, ?_⟩; have n0_ := Aside0.mk (Kd.R_elder' (by (with_reducible repeat (first | apply Kd.R_alloc | apply Kd.R_drewN | apply Kd.R_drew)); exact HO123.out) (Kd.R_base ho0) hb); have n1_ := Aside0.mk (Kd.N_elder' (by (with_reducible repeat (first | apply Kd.N_alloc | apply Kd.N_drewN | apply Kd.N_drew)); exact HO126.out) (Kd.R_base ho0) hb); have n2_ := Aside0.mk (Kd.R_lower (Kd.R_new' ho0 (Kd.R_lt (by (with_reducible repeat (first | apply Kd.R_alloc | apply Kd.R_drewN | apply Kd.R_drew)); exact HO123.out))) (below_size (by repeat (first | (with_reducible first | exact HB.out | apply below_alloc | apply pw_below_drewN | apply below_drew1) | exact HB.out)))); have n3_ := Aside0.mk (below_step (by repeat (first | (with_reducible first | exact HB.out | apply below_alloc | apply pw_below_drewN | apply below_drew1) | exact HB.out)) hb); clear HO123; clear HO126; clear HB; have HO123 := n0_; have HO126 := n1_; have HO130 := n2_; have HB := n3_; clear n0_ n1_ n2_ n3_; (try clear hb); (try clear hb2); (try clear hk); (try clear hi); (try clear ho0); obtain ⟨Ao118, co118, eo118⟩ := Kd.R_slice HO130.out; subst eo118) | ((with_reducible refine gate_callee (f := 13) rfl ?_); refine goesL_ (some 16) rfl rfl Tryd.func13 (by kernel_rfl) rfl #[.slice Ao118 t128.length co118] rfl (by (try simp only [List.map_toArray, List.map_cons, List.map_nil]); first | done | rfl | (simp only [List.length_drop, List.length_take]; rfl)) ?_; (with_reducible refine (stemma_Print.calls k _ _ t128 t131 t132 _ ?side1 ?side2 A4.out).mono ?_); (case side1 => repeat (first | exact (Kd.R_reads' HO130.out).2.2 | (with_reducible refine Kd.C_alloc ?_ _) | (with_reducible refine Kd.C_drewN ?_ _) | (with_reducible refine Kd.C_drew ?_))); (case side2 => exact (Kd.R_reads' HO130.out).2.1); rintro e w119 ⟨rfl, hb⟩; refine ⟨_, rfl, ?_⟩; have n0_ := Aside0.mk (Kd.R_below (by (with_reducible repeat (first | apply Kd.R_alloc | apply Kd.R_drewN | apply Kd.R_drew)); exact HO123.out) hb); have n1_ := Aside0.mk (Kd.N_below (by (with_reducible repeat (first | apply Kd.N_alloc | apply Kd.N_drewN | apply Kd.N_drew)); exact HO126.out) hb); have n2_ := Aside0.mk (Kd.R_below (by (with_reducible repeat (first | apply Kd.R_alloc | apply Kd.R_drewN | apply Kd.R_drew)); exact HO130.out) hb); have n3_ := Aside0.mk (below_step (by repeat (first | (with_reducible first | exact HB.out | apply below_alloc | apply pw_below_drewN | apply below_drew1) | exact HB.out)) hb); clear HO123; clear HO126; clear HO130; clear HB; have HO123 := n0_; have HO126 := n1_; have HO130 := n2_; have HB := n3_; clear n0_ n1_ n2_ n3_; (try clear hb); (try clear hb2); (try clear hk); (try clear hi)) | ((with_reducible refine gate_callee (f := 6) rfl ?_); refine goesL_ (some 20) rfl rfl Tryd.func6 (by kernel_rfl) rfl #[.int .i64 0, .int .i64 1, .bool true] rfl (by (try simp only [List.map_toArray, List.map_cons, List.map_nil]); first | done | rfl | (simp only [List.length_drop, List.length_take]; rfl)) ?_; (with_reducible refine (cippuslaw07_copies.calls 0 1 true t133 _ A5.out).mono ?_); rintro e w120 ⟨v134, rfl, ho0, hb⟩; refine ⟨_, rfl, ?_⟩; have n0_ := Aside0.mk (Kd.R_elder' (by (with_reducible repeat (first | apply Kd.R_alloc | apply Kd.R_drewN | apply Kd.R_drew)); exact HO123.out) (Kd.R_base ho0) hb); have n1_ := Aside0.mk (Kd.N_elder' (by (with_reducible repeat (first | apply Kd.N_alloc | apply Kd.N_drewN | apply Kd.N_drew)); exact HO126.out) (Kd.R_base ho0) hb); have n2_ := Aside0.mk (Kd.R_elder' (by (with_reducible repeat (first | apply Kd.R_alloc | apply Kd.R_drewN | apply Kd.R_drew)); exact HO130.out) (Kd.R_base ho0) hb); have n3_ := Aside0.mk (Kd.R_lower (Kd.R_new' (Kd.R_new' ho0 (Kd.R_lt (by (with_reducible repeat (first | apply Kd.R_alloc | apply Kd.R_drewN | apply Kd.R_drew)); exact HO123.out))) (Kd.R_lt (by (with_reducible repeat (first | apply Kd.R_alloc | apply Kd.R_drewN | apply Kd.R_drew)); exact HO130.out))) (below_size (by repeat (first | (with_reducible first | exact HB.out | apply below_alloc | apply pw_below_drewN | apply below_drew1) | exact HB.out)))); have n4_ := Aside0.mk (below_step (by repeat (first | (with_reducible first | exact HB.out | apply below_alloc | apply pw_below_drewN | apply below_drew1) | exact HB.out)) hb); clear HO123; clear HO126; clear HO130; clear HB; have HO123 := n0_; have HO126 := n1_; have HO130 := n2_; have HO135 := n3_; have HB := n4_; clear n0_ n1_ n2_ n3_ n4_; (try clear hb); (try clear hb2); (try clear hk); (try clear hi); (try clear ho0); obtain ⟨Ao121, co121, eo121⟩ := Kd.R_slice HO135.out; subst eo121) | ((with_reducible refine gate_callee (f := 13) rfl ?_); refine goesL_ (some 21) rfl rfl Tryd.func13 (by kernel_rfl) rfl #[.slice Ao121 t133.length co121] rfl (by (try simp only [List.map_toArray, List.map_cons, List.map_nil]); first | done | rfl | (simp only [List.length_drop, List.length_take]; rfl)) ?_; (with_reducible refine (stemma_Print.calls k _ _ t133 t136 t137 _ ?side1 ?side2 A6.out).mono ?_); (case side1 => repeat (first | exact (Kd.R_reads' HO135.out).2.2 | (with_reducible refine Kd.C_alloc ?_ _) | (with_reducible refine Kd.C_drewN ?_ _) | (with_reducible refine Kd.C_drew ?_))); (case side2 => exact (Kd.R_reads' HO135.out).2.1); rintro e w122 ⟨rfl, hb⟩; refine ⟨_, rfl, ?_⟩; have n0_ := Aside0.mk (Kd.R_below (by (with_reducible repeat (first | apply Kd.R_alloc | apply Kd.R_drewN | apply Kd.R_drew)); exact HO123.out) hb); have n1_ := Aside0.mk (Kd.N_below (by (with_reducible repeat (first | apply Kd.N_alloc | apply Kd.N_drewN | apply Kd.N_drew)); exact HO126.out) hb); have n2_ := Aside0.mk (Kd.R_below (by (with_reducible repeat (first | apply Kd.R_alloc | apply Kd.R_drewN | apply Kd.R_drew)); exact HO130.out) hb); have n3_ := Aside0.mk (Kd.R_below (by (with_reducible repeat (first | apply Kd.R_alloc | apply Kd.R_drewN | apply Kd.R_drew)); exact HO135.out) hb); have n4_ := Aside0.mk (below_step (by repeat (first | (with_reducible first | exact HB.out | apply below_alloc | apply pw_below_drewN | apply below_drew1) | exact HB.out)) hb); clear HO123; clear HO126; clear HO130; clear HO135; clear HB; have HO123 := n0_; have HO126 := n1_; have HO130 := n2_; have HO135 := n3_; have HB := n4_; clear n0_ n1_ n2_ n3_ n4_; (try clear hb); (try clear hb2); (try clear hk); (try clear hi)) | ((with_reducible refine gate_callee (f := 6) rfl ?_); refine goesL_ (some 25) rfl rfl Tryd.func6 (by kernel_rfl) rfl #[.int .i64 1, .int .i64 0, .bool true] rfl (by (try simp only [List.map_toArray, List.map_cons, List.map_nil]); first | done | rfl | (simp only [List.length_drop, List.length_take]; rfl)) ?_; (with_reducible refine (cippuslaw07_copies.calls 1 0 true t138 _ A7.out).mono ?_); rintro e w123 ⟨v139, rfl, ho0, hb⟩; refine ⟨_, rfl, ?_⟩; have n0_ := Aside0.mk (Kd.R_elder' (by (with_reducible repeat (first | apply Kd.R_alloc | apply Kd.R_drewN | apply Kd.R_drew)); exact HO123.out) (Kd.R_base ho0) hb); have n1_ := Aside0.mk (Kd.N_elder' (by (with_reducible repeat (first | apply Kd.N_alloc | apply Kd.N_drewN | apply Kd.N_drew)); exact HO126.out) (Kd.R_base ho0) hb); have n2_ := Aside0.mk (Kd.R_elder' (by (with_reducible repeat (first | apply Kd.R_alloc | apply Kd.R_drewN | apply Kd.R_drew)); exact HO130.out) (Kd.R_base ho0) hb); have n3_ := Aside0.mk (Kd.R_elder' (by (with_reducible repeat (first | apply Kd.R_alloc | apply Kd.R_drewN | apply Kd.R_drew)); exact HO135.out) (Kd.R_base ho0) hb); have n4_ := Aside0.mk (Kd.R_lower (Kd.R_new' (Kd.R_new' (Kd.R_new' ho0 (Kd.R_lt (by (with_reducible repeat (first | apply Kd.R_alloc | apply Kd.R_drewN | apply Kd.R_drew)); exact HO123.out))) (Kd.R_lt (by (with_reducible repeat (first | apply Kd.R_alloc | apply Kd.R_drewN | apply Kd.R_drew)); exact HO130.out))) (Kd.R_lt (by (with_reducible repeat (first | apply Kd.R_alloc | apply Kd.R_drewN | apply Kd.R_drew)); exact HO135.out))) (below_size (by repeat (first | (with_reducible first | exact HB.out | apply below_alloc | apply pw_below_drewN | apply below_drew1) | exact HB.out)))); have n5_ := Aside0.mk (below_step (by repeat (first | (with_reducible first | exact HB.out | apply below_alloc | apply pw_below_drewN | apply below_drew1) | exact HB.out)) hb); clear HO123; clear HO126; clear HO130; clear HO135; clear HB; have HO123 := n0_; have HO126 := n1_; have HO130 := n2_; have HO135 := n3_; have HO140 := n4_; have HB := n5_; clear n0_ n1_ n2_ n3_ n4_ n5_; (try clear hb); (try clear hb2); (try clear hk); (try clear hi); (try clear ho0); obtain ⟨Ao124, co124, eo124⟩ := Kd.R_slice HO140.out; subst eo124) | ((with_reducible refine gate_callee (f := 14) rfl ?_); refine goesL_ (some 26) rfl rfl Tryd.func14 (by kernel_rfl) rfl #[.slice Ao124 t138.length co124] rfl (by (try simp only [List.map_toArray, List.map_cons, List.map_nil]); first | done | rfl | (simp only [List.length_drop, List.length_take]; rfl)) ?_; (with_reducible refine (stemma_Fewest.calls k _ _ t138 t141 t142 _ ?side1 ?side2 A8.out).mono ?_); (case side1 => repeat (first | exact (Kd.R_reads' HO140.out).2.2 | (with_reducible refine Kd.C_alloc ?_ _) | (with_reducible refine Kd.C_drewN ?_ _) | (with_reducible refine Kd.C_drew ?_))); (case side2 => exact (Kd.R_reads' HO140.out).2.1); rintro e w125 ⟨rfl, hb⟩; refine ⟨_, rfl, ?_⟩; have n0_ := Aside0.mk (Kd.R_below (by (with_reducible repeat (first | apply Kd.R_alloc | apply Kd.R_drewN | apply Kd.R_drew)); exact HO123.out) hb); have n1_ := Aside0.mk (Kd.N_below (by (with_reducible repeat (first | apply Kd.N_alloc | apply Kd.N_drewN | apply Kd.N_drew)); exact HO126.out) hb); have n2_ := Aside0.mk (Kd.R_below (by (with_reducible repeat (first | apply Kd.R_alloc | apply Kd.R_drewN | apply Kd.R_drew)); exact HO130.out) hb); have n3_ := Aside0.mk (Kd.R_below (by (with_reducible repeat (first | apply Kd.R_alloc | apply Kd.R_drewN | apply Kd.R_drew)); exact HO135.out) hb); have n4_ := Aside0.mk (Kd.R_below (by (with_reducible repeat (first | apply Kd.R_alloc | apply Kd.R_drewN | apply Kd.R_drew)); exact HO140.out) hb); have n5_ := Aside0.mk (below_step (by repeat (first | (with_reducible first | exact HB.out | apply below_alloc | apply pw_below_drewN | apply below_drew1) | exact HB.out)) hb); clear HO123; clear HO126; clear HO130; clear HO135; clear HO140; clear HB; have HO123 := n0_; have HO126 := n1_; have HO130 := n2_; have HO135 := n3_; have HO140 := n4_; have HB := n5_; clear n0_ n1_ n2_ n3_ n4_ n5_; (try clear hb); (try clear hb2); (try clear hk); (try clear hi)))
    go_ret
    exact ⟨by first | rfl | (simp [errW_none, errW_some] <;> rfl) | (simp [*, errW_none, errW_some] <;> rfl), by repeat (first | (with_reducible first | exact HB.out | apply below_alloc | apply pw_below_drewN | apply below_drew1) | exact HB.out)⟩
end Go.Proofs.YtecdjnabmjhakaaDoor.P
namespace Go.Proofs.YtecdjnabmjhakaaDoor.P
open Go.RowKit Go.Proofs.YtecdjnabmjhakaaDoorW.PrintWords Go.Proofs.YtecdjnabmjhakaaDoorW.PrintLast Go.Proofs.YtecdjnabmjhakaaDoorW.PrintMore
attribute [local go_sem] max2_int min2_int max_two min_two max_three min_three max_four min_four   -- for this text's walks alone
set_option linter.unusedVariables false
set_option linter.unusedSimpArgs false
def stemma_Depends.f (k : Nat) (l0 : List (S25)) (a1 : Int) (a2 : Int) : Option (Int × Int) := some (OwnSt.dependsV l0 a1 a2)
theorem stemma_Depends.calls (k : Nat) (A0 : Option Addr) (c0 : Nat) (l0 : List (S25)) (a1 : Int) (a2 : Int) (r1 : Int) (r2 : Int) (w : World) (hr0 : Kd.C k25 w A0 l0.length l0) (hc0 : l0.length ≤ c0) (h : stemma_Depends.f k l0 a1 a2 = some (r1, r2)) :
    Calls Tryd.prog 11 #[.slice A0 l0.length c0, .int .i64 a1, .int .i64 a2] w fun e w' => e = .returned (.tuple #[.int .i64 r1, .int .i64 r2]) ∧ Below w.heap.size w w' := by
  have h2 := OwnSt.depends_calls A0 c0 l0 a1 a2 w hr0 hc0; rw [show OwnSt.dependsV l0 a1 a2 = (r1, r2) from Option.some.inj h] at h2; exact h2
end Go.Proofs.YtecdjnabmjhakaaDoor.P
namespace Go.Proofs
open Go.Shelf
def Tryd.lays171_ren : Go.Shelf.Ren := ⟨fun | 171 => 37 | 243 => 58 | 246 => 63 | 283 => 67 | 284 => 68 | 285 => 69 | 286 => 70 | 129 => 76 | 317 => 75 | 318 => 77 | 319 => 78 | 320 => 79 | 337 => 85 | 338 => 86 | n => n, fun | 3 => 3 | 9 => 9 | 2 => 2 | 4 => 4 | 171 => 118 | 0 => 0 | 53 => 85 | 37 => 82 | 5 => 5 | 173 => 121 | 212 => 128 | 51 => 67 | 20 => 20 | 213 => 129 | 46 => 110 | 232 => 138 | 233 => 139 | n => n, fun | 17 => 0 | 18 => 4 | 19 => 5 | n => n⟩
theorem Tryd.lays171 : Go.Proofs.Lays.n171 Tryd.prog Tryd.lays171_ren := {
  mixed := by kernel_rfl
  f129 := Tryd.func76.trans (congrArg some (by kernel_rfl))
  f171 := Tryd.func37.trans (congrArg some (by kernel_rfl))
  f243 := Tryd.func58.trans (congrArg some (by kernel_rfl))
  f246 := Tryd.func63.trans (congrArg some (by kernel_rfl))
  f283 := Tryd.func67.trans (congrArg some (by kernel_rfl))
  f284 := Tryd.func68.trans (congrArg some (by kernel_rfl))
  f285 := Tryd.func69.trans (congrArg some (by kernel_rfl))
  f286 := Tryd.func70.trans (congrArg some (by kernel_rfl))
  f317 := Tryd.func75.trans (congrArg some (by kernel_rfl))
  f318 := Tryd.func77.trans (congrArg some (by kernel_rfl))
  f319 := Tryd.func78.trans (congrArg some (by kernel_rfl))
  f320 := Tryd.func79.trans (congrArg some (by kernel_rfl))
  f337 := Tryd.func85.trans (congrArg some (by kernel_rfl))
  f338 := Tryd.func86.trans (congrArg some (by kernel_rfl))
  t0 := Tryd.underlying0
  a0 := Tryd.isAgg0
  z0 := Tryd.sizeOf0
  v0 := Tryd.zeroValue0
  t2 := Tryd.underlying2
  a2 := Tryd.isAgg2
  z2 := Tryd.sizeOf2
  v2 := Tryd.zeroValue2
  t3 := Tryd.underlying3
  a3 := Tryd.isAgg3
  z3 := Tryd.sizeOf3
  v3 := Tryd.zeroValue3
  t4 := Tryd.underlying4
  a4 := Tryd.isAgg4
  z4 := Tryd.sizeOf4
  v4 := Tryd.zeroValue4
  t5 := Tryd.underlying5
  a5 := Tryd.isAgg5
  z5 := Tryd.sizeOf5
  v5 := Tryd.zeroValue5
  t9 := Tryd.underlying9
  a9 := Tryd.isAgg9
  z9 := Tryd.sizeOf9
  v9 := Tryd.zeroValue9
  t20 := Tryd.underlying20
  a20 := Tryd.isAgg20
  z20 := Tryd.sizeOf20
  v20 := Tryd.zeroValue20
  t37 := Tryd.underlying82
  a37 := Tryd.isAgg82
  z37 := Tryd.sizeOf82
  v37 := Tryd.zeroValue82
  t46 := Tryd.underlying110
  a46 := Tryd.isAgg110
  z46 := Tryd.sizeOf110
  v46 := Tryd.zeroValue110
  t51 := Tryd.underlying67
  a51 := Tryd.isAgg67
  z51 := Tryd.sizeOf67
  v51 := Tryd.zeroValue67
  t53 := Tryd.underlying85
  a53 := Tryd.isAgg85
  z53 := Tryd.sizeOf85
  v53 := Tryd.zeroValue85
  t171 := Tryd.underlying118
  a171 := Tryd.isAgg118
  z171 := Tryd.sizeOf118
  v171 := Tryd.zeroValue118
  t173 := Tryd.underlying121
  a173 := Tryd.isAgg121
  z173 := Tryd.sizeOf121
  v173 := Tryd.zeroValue121
  t212 := Tryd.underlying128
  a212 := Tryd.isAgg128
  z212 := Tryd.sizeOf128
  v212 := Tryd.zeroValue128
  t213 := Tryd.underlying129
  a213 := Tryd.isAgg129
  z213 := Tryd.sizeOf129
  t232 := Tryd.underlying138
  a232 := Tryd.isAgg138
  z232 := Tryd.sizeOf138
  v232 := Tryd.zeroValue138
  t233 := Tryd.underlying139
  a233 := Tryd.isAgg139
  z233 := Tryd.sizeOf139
  v233 := Tryd.zeroValue139
  g17 := by kernel_rfl
  g18 := by kernel_rfl
  g19 := by kernel_rfl }
open Go.RowKit Go.Sort Go.Lib in
theorem Tryd.strconv_Itoa_small (i : Nat) (hi : i < 100) (w : World) :
    Calls Tryd.prog 37 #[.int .i64 i] w fun e w' => e = .returned (.string ⟨(Lib.decDigits i).toArray⟩) ∧ w' = w := Any.strconv_Itoa_small Tryd.lays171 i hi w
end Go.Proofs
namespace Go.Proofs.YtecdjnabmjhakaaDoor.P
open Go.RowKit Go.Proofs.YtecdjnabmjhakaaDoorW.PrintWords Go.Proofs.YtecdjnabmjhakaaDoorW.PrintLast Go.Proofs.YtecdjnabmjhakaaDoorW.PrintMore
attribute [local go_sem] max2_int min2_int max_two min_two max_three min_three max_four min_four   -- for this text's walks alone
set_option linter.unusedVariables false
set_option linter.unusedSimpArgs false
def strconv_Itoa.f (a0 : Int) : Option ByteArray := if 0 ≤ a0 ∧ a0 < 100 then some ⟨(Lib.decDigits a0.toNat).toArray⟩ else none
theorem strconv_Itoa.calls (a0 : Int) (r1 : ByteArray) (w : World) (h : strconv_Itoa.f a0 = some r1) :
    Calls Tryd.prog 37 #[.int .i64 a0] w fun e w' => e = .returned (.string r1) ∧ Below w.heap.size w w' := by
  unfold strconv_Itoa.f at h
  split at h
  · rename_i hc
    obtain rfl := Option.some.inj h
    have h2 := Tryd.strconv_Itoa_small a0.toNat (by omega) w
    rw [show ((a0.toNat : Nat) : Int) = a0 by omega] at h2
    exact h2.mono fun e w' ⟨he, hw⟩ => ⟨he, hw ▸ Below.refl _ _⟩
  · cases h
end Go.Proofs.YtecdjnabmjhakaaDoor.P
