/- Lemmas for the statement StemmaTurned of the given program, for every input that its row lets in. Conditions: none beyond those that each lemma tells. -/
import Derived.BigQuiet
import Derived.Deep.CutBlock
import Derived.SizedLaws
import Derived.ChangeSlices
import Derived.Test.YtegjollhajgcdaaMStemmaTurned4
set_option linter.unusedVariables false
set_option linter.unusedSimpArgs false
namespace Go.Proofs.Ytegjollhajgcdaa.P
open Go.RowKit Go.Proofs.YtegjollhajgcdaaW.PrintWords Go.Proofs.YtegjollhajgcdaaW.PrintLast Go.Proofs.YtegjollhajgcdaaW.PrintMore
open OwnSt
set_option linter.unusedVariables false
set_option linter.unusedSimpArgs false
def cippuslaw07_turned.T17 : Bool × List (List Nat × List Nat) := (true, [([], []), ([], []), ([], []), ([], []), ([2, 3], [2, 3]), ([4], [4]), ([5], [5]), ([], []), ([], []), ([7, 8], [7, 8]), ([9], [9]), ([10], [10]), ([], []), ([], []), ([12, 13], [12, 13]), ([14], [14]), ([11, 15], [11, 15]), ([16], [16]), ([], []), ([], []), ([18, 19], [18, 19]), ([20], [20]), ([21], [21]), ([17, 22], [17, 22]), ([23], [23]), ([24], [24]), ([25], [25]), ([26], [26]), ([6, 27], [6, 27]), ([0, 1, 0, 1, 2, 3, 4, 5, 6, 7, 8, 9, 10, 11, 12, 13, 14, 15, 16, 17, 18, 19, 20, 21, 22, 23, 24, 25, 26, 27, 28], [0, 1]), ([29, 0, 1, 2, 3, 4, 5, 6, 7, 8, 9, 10, 11, 12, 13, 14, 15, 16, 17, 18, 19, 20, 21, 22, 23, 24, 25, 26, 27, 28], [29]), ([30, 28, 0, 1, 2, 3, 4, 5, 6, 7, 8, 9, 10, 11, 12, 13, 14, 15, 16, 17, 18, 19, 20, 21, 22, 23, 24, 25, 26, 27, 28], [28, 30])])
def cippuslaw07_turned.B17 : List Nat := [0, 0, 0, 0, 12, 28, 60, 0, 0, 384, 896, 1920, 0, 0, 12288, 28672, 65408, 130944, 0, 0, 786432, 1835008, 3932160, 8388480, 16777088, 33554304, 67108736, 134217600, 268435452, 536870911, 1073741823, 2147483647]
theorem cippuslaw07_turned.tab17 : rtab .any (opsOf Try.f8 17) = cippuslaw07_turned.T17 := by kernel_rfl
theorem cippuslaw07_turned.bits17 : waitsOk cippuslaw07_turned.T17.2 cippuslaw07_turned.B17 = true := by kernel_rfl
set_option maxHeartbeats 8000000 in
set_option maxRecDepth 100000 in
theorem cippuslaw07_StemmaTurned.calls (k : Nat) (A0 : Option Addr) (c0 : Nat) (l0 : List Int) (r : Bool) (w : World) (hr0 : Kd.C (Kd.int .i64) w A0 l0.length l0) (hc0 : l0.length ≤ c0) (h : cippuslaw07_StemmaTurned.f k l0 = some r) :
  Calls Try.prog 8 #[.slice A0 l0.length c0] w fun e w' => e = .returned (.bool r) ∧ Below w.heap.size w w' := by
 have hu27 := Try.underlying27
 have HR0 := Aside0.mk hr0
 have HC0 := Aside0.mk hc0
 clear hr0 hc0
 have HB := Aside0.mk (Below.refl w.heap.size w)
 have H : ((cippuskit_NewUrn.f l0).bind fun bt365 => ((cippuskit_CopiesOf.f bt365.1 bt365.2 4 6 1).bind fun bt368 => (if 0 < (bt368.1.length : Int) then ((cippuskit_Urn_Row.f k bt368.2.2.2.1 bt368.2.2.2.2 (((rd_T24 bt368.1 0).f0).size : Int)).bind fun bt379 => (cippuslaw07_StemmaTurned.l0 k bt368.1 bt379.1 ([] : List Int) 0 bt379.2.1 bt379.2.2)) else (none)))) = some r := h
 clear h
 replace H := Option.bind_eq_some_iff.mp H
 obtain ⟨⟨t365, t366⟩, A20, H⟩ := H
 replace H : ((cippuskit_CopiesOf.f t365 t366 4 6 1).bind fun bt368 => (if 0 < (bt368.1.length : Int) then ((cippuskit_Urn_Row.f k bt368.2.2.2.1 bt368.2.2.2.2 (((rd_T24 bt368.1 0).f0).size : Int)).bind fun bt379 => (cippuslaw07_StemmaTurned.l0 k bt368.1 bt379.1 ([] : List Int) 0 bt379.2.1 bt379.2.2)) else (none))) = some r := H
 have A2 := Aside0.mk A20
 clear A20
 replace H := Option.bind_eq_some_iff.mp H
 obtain ⟨⟨t368, t371, t372, t375, t376⟩, A30, H⟩ := H
 replace H : (if 0 < (t368.length : Int) then ((cippuskit_Urn_Row.f k t375 t376 (((rd_T24 t368 0).f0).size : Int)).bind fun bt379 => (cippuslaw07_StemmaTurned.l0 k t368 bt379.1 ([] : List Int) 0 bt379.2.1 bt379.2.2)) else (none)) = some r := H
 have A3 := Aside0.mk A30
 clear A30
 by_cases c4 : 0 < (t368.length : Int)
 ·rw [if_pos c4] at H
  have c4b0 : decide (0 < (t368.length : Int)) = true := decide_eq_true c4
  have c4b1 : decide (0 < t368.length) = true := decide_eq_true (by omega)
  clear c4
  replace H := Option.bind_eq_some_iff.mp H
  obtain ⟨⟨t379, t382, t383⟩, A50, H⟩ := H
  replace H : (cippuslaw07_StemmaTurned.l0 k t368 t379 ([] : List Int) 0 t382 t383) = some r := H
  have A5 := Aside0.mk A50
  clear A50
  have H' := Aside0.mk H
  clear H
  go_enter Try.func8, Try.ntmps8
  go_wp2_with (first | (go_at_call 14; (with_reducible refine (cippuskit_NewUrn.calls _ _ l0 t365 t366 w _ ?side1 ?side2 ?side3 A2.out).mono ?_); (case side1 => repeat (first | (with_reducible first | exact HB.out | apply below_alloc | apply pw_below_drewN | apply below_drew1) | exact HB.out)); (case side2 => exact HR0.out); (case side3 => exact HC0.out); rintro e w6 ⟨g367, rfl, hi, hb, hb2⟩; have n0_ := Aside0.mk (hb); have n1_ := Aside0.mk (hi); clear HB; have HB := n0_; have HI367 := n1_; clear n0_ n1_; (try clear hb); (try clear hb2); (try clear hk); (try clear hi)) | (go_at_call 13; (with_reducible refine (cippuskit_CopiesOf.calls g367 t365 t366 4 6 1 t368 t371 t372 t375 t376 w _ ?side1 ?side2 A3.out).mono ?_); (case side1 => repeat (first | (with_reducible first | exact HI367.out | apply IsS72.alloc | apply IsS72.drewN | apply IsS72.drew | apply IsS72.set_0 | apply IsS72.set_1) | exact HI367.out)); (case side2 => repeat (first | (with_reducible first | exact HB.out | apply below_alloc | apply pw_below_drewN | apply below_drew1 | refine below_set ?_ (IsS72.ge HI367.out)) | exact HB.out)); rintro e w7 ⟨v369, v373, rfl, ho0, ho1, hi, hb, hk⟩; have n0_ := Aside0.mk (Kd.R_lower ho0 (below_size (by repeat (first | (with_reducible first | exact HB.out | apply below_alloc | apply pw_below_drewN | apply below_drew1 | refine below_set ?_ (IsS72.ge HI367.out)) | exact HB.out)))); have n1_ := Aside0.mk (Kd.R_lower ho1 (below_size (by repeat (first | (with_reducible first | exact HB.out | apply below_alloc | apply pw_below_drewN | apply below_drew1 | refine below_set ?_ (IsS72.ge HI367.out)) | exact HB.out)))); have n2_ := Aside0.mk (hb); have n3_ := Aside0.mk (hi); clear HB; clear HI367; have HO370 := n0_; have HO374 := n1_; have HB := n2_; have HI367 := n3_; clear n0_ n1_ n2_ n3_; (try clear hb); (try clear hb2); (try clear hk); (try clear hi); (try clear ho0); (try clear ho1)) | ((with_reducible refine gate_dst (N := 5) rfl ?_); (try (refine gate_guard (by rfl) ?_; dsimp only)); refine box_event ?hg (N := 5) ?hd (cs := #[.string (⟨#[]⟩ : ByteArray), .slice none 0 0]) (t := 27) ?hr ?_; (case hd => rfl); (case hg => rfl); (case hr => first | (go_simp; done) | (go_simp; rfl)); intro gb377 hg w8 hbox hb; have n0_ := Aside0.mk (Kd.R_below (by (with_reducible repeat (first | apply Kd.R_alloc | apply Kd.R_drewN | apply Kd.R_drew)); exact HO370.out) hb); have n1_ := Aside0.mk (Kd.R_below (by (with_reducible repeat (first | apply Kd.R_alloc | apply Kd.R_drewN | apply Kd.R_drew)); exact HO374.out) hb); have n2_ := Aside0.mk (IsS72.below (by repeat (first | (with_reducible first | exact HI367.out | apply IsS72.alloc | apply IsS72.drewN | apply IsS72.drew | apply IsS72.set_0 | apply IsS72.set_1) | exact HI367.out)) hb); have n3_ := Aside0.mk (below_step (by repeat (first | (with_reducible first | exact HB.out | apply below_alloc | apply pw_below_drewN | apply below_drew1 | refine below_set ?_ (IsS72.ge HI367.out)) | exact HB.out)) hb); have n4_ := Aside0.mk (hbox); have n5_ := Aside0.mk ((by rw [hg]; exact (below_size (by repeat (first | (with_reducible first | exact HB.out | apply below_alloc | apply pw_below_drewN | apply below_drew1 | refine below_set ?_ (IsS72.ge HI367.out)) | exact HB.out))) : w.heap.size ≤ gb377)); have n6_ := Aside0.mk ((by rw [hg]; exact (below_size (by repeat (first | (with_reducible first | exact HB.out | apply below_alloc | apply pw_below_drewN | apply below_drew1 | refine below_set ?_ (IsS72.ge HI367.out)) | exact HB.out))) : w.heap.size ≤ gb377)); have n7_ := Aside0.mk ((by rw [hg]; exact Nat.ne_of_lt (IsS72.lt (show IsS72 w _ g367 t375 t376 from by repeat (first | (with_reducible first | exact HI367.out | apply IsS72.alloc | apply IsS72.drewN | apply IsS72.drew | apply IsS72.set_0 | apply IsS72.set_1) | exact HI367.out))) : g367 ≠ gb377)); have n8_ := Aside0.mk ((by rw [hg]; exact Nat.ne_of_gt (IsS72.lt (show IsS72 w _ g367 t375 t376 from by repeat (first | (with_reducible first | exact HI367.out | apply IsS72.alloc | apply IsS72.drewN | apply IsS72.drew | apply IsS72.set_0 | apply IsS72.set_1) | exact HI367.out))) : gb377 ≠ g367)); clear HO370; clear HO374; clear HI367; clear HB; have HO370 := n0_; have HO374 := n1_; have HI367 := n2_; have HB := n3_; have BK377 := n4_; have GW377 := n5_; have GE377 := n6_; have NB367_377 := n7_; have NB377_367 := n8_; clear n0_ n1_ n2_ n3_ n4_ n5_ n6_ n7_ n8_; clear hb hbox hg; have hnb9 := NB377_367.out; have hnc9 := NB367_377.out; have hcz10_0 : w8.cell? ⟨gb377, 0, none⟩ = some (.string (⟨#[]⟩ : ByteArray)) := (blk_cell BK377.out 0).trans rfl; have hcz10_1 : w8.cell? ⟨gb377, 1, none⟩ = some (.slice none 0 0) := (blk_cell BK377.out 1).trans rfl; have hfz10_0 := blk_frozen BK377.out 0; have hfz10_1 := blk_frozen BK377.out 1; obtain ⟨Ao11, co11, eo11⟩ := Kd.R_slice HO374.out; subst eo11; obtain ⟨Ao12, co12, eo12⟩ := Kd.R_slice HO370.out; subst eo12; have p378 : 0 ≤ (0 : Int) := (by omega); have q378 : 0 < (t368.length : Int) := of_decide_eq_true (by first | (with_reducible assumption) | assumption); obtain ⟨ad378, e378, hx378_0, hx378_1, hx378_2⟩ := at_T24 (Kd.R_reads' HO370.out).2.2 0 p378 q378; cases e378; have qi378 : (0 < t368.length) = True := eq_true (by omega); (try rw [show ((0 : Int)).toNat = 0 from rfl] at hx378_0); (try rw [show 0 * 3 = 0 from rfl] at hx378_0); (try rw [Addr.add_zero'] at hx378_0); (try rw [show ((0 : Int)).toNat = 0 from rfl] at hx378_1); (try rw [show 0 * 3 = 0 from rfl] at hx378_1); (try rw [Addr.add_zero'] at hx378_1); (try rw [show ((0 : Int)).toNat = 0 from rfl] at hx378_2); (try rw [show 0 * 3 = 0 from rfl] at hx378_2); (try rw [Addr.add_zero'] at hx378_2); have hn378_0 : ad378.block ≠ gb377 := Kd.own_blk (Kd.R_ne HO370.out BK377.out (by decide)); have hn378_1 : ad378.block ≠ gb377 := Kd.own_blk (Kd.R_ne HO370.out BK377.out (by decide)); replace hx378_0 := (cell_far (p := ⟨gb377, 0, none⟩) (by first | (rw [add_block]; exact hn378_0) | (show (Addr.add _ _).block ≠ _; rw [add_block]; exact hn378_0) | exact hn378_0) (.string t371)).trans hx378_0; replace hx378_1 := (cell_far (p := ⟨gb377, 0, none⟩) (by first | (rw [add_block]; exact hn378_0) | (show (Addr.add _ _).block ≠ _; rw [add_block]; exact hn378_0) | exact hn378_0) (.string t371)).trans hx378_1; replace hx378_2 := (cell_far (p := ⟨gb377, 0, none⟩) (by first | (rw [add_block]; exact hn378_0) | (show (Addr.add _ _).block ≠ _; rw [add_block]; exact hn378_0) | exact hn378_0) (.string t371)).trans hx378_2; replace hx378_0 := (cell_far (p := ⟨gb377, 1, none⟩) (by first | (rw [add_block]; exact hn378_1) | (show (Addr.add _ _).block ≠ _; rw [add_block]; exact hn378_1) | exact hn378_1) (.slice Ao11 t372.length co11)).trans hx378_0; replace hx378_1 := (cell_far (p := ⟨gb377, 1, none⟩) (by first | (rw [add_block]; exact hn378_1) | (show (Addr.add _ _).block ≠ _; rw [add_block]; exact hn378_1) | exact hn378_1) (.slice Ao11 t372.length co11)).trans hx378_1; replace hx378_2 := (cell_far (p := ⟨gb377, 1, none⟩) (by first | (rw [add_block]; exact hn378_1) | (show (Addr.add _ _).block ≠ _; rw [add_block]; exact hn378_1) | exact hn378_1) (.slice Ao11 t372.length co11)).trans hx378_2; (try have hy378_0 := fun (n_ : Nat) => (show ((((w8.drewN n_).setCell ⟨gb377, 0, none⟩ (.string t371)).setCell ⟨gb377, 1, none⟩ (.slice Ao11 t372.length co11))).cell? _ = some _ from hx378_0)); (try have hy378_1 := fun (n_ : Nat) => (show ((((w8.drewN n_).setCell ⟨gb377, 0, none⟩ (.string t371)).setCell ⟨gb377, 1, none⟩ (.slice Ao11 t372.length co11))).cell? _ = some _ from hx378_1)); (try have hy378_2 := fun (n_ : Nat) => (show ((((w8.drewN n_).setCell ⟨gb377, 0, none⟩ (.string t371)).setCell ⟨gb377, 1, none⟩ (.slice Ao11 t372.length co11))).cell? _ = some _ from hx378_2)); clear hn378_0; clear hn378_1; replace p378 := eq_true p378; replace q378 := eq_true q378) | (go_at_call 34; (with_reducible refine (cippuskit_Urn_Row.calls k g367 t375 t376 (((rd_T24 t368 0).f0).size : Int) t379 t382 t383 w _ ?side1 ?side2 A5.out).mono ?_); (case side1 => repeat (first | (with_reducible first | exact HI367.out | apply IsS72.alloc | apply IsS72.drewN | apply IsS72.drew | apply IsS72.set_0 | apply IsS72.set_1 | refine IsS72.far ?_ NB367_377.out _) | exact HI367.out)); (case side2 => repeat (first | (with_reducible first | exact HB.out | apply below_alloc | apply pw_below_drewN | apply below_drew1 | refine below_set ?_ (IsS72.ge HI367.out) | refine below_set ?_ GE377.out) | exact HB.out)); rintro e w13 ⟨v380, rfl, ho0, hi, hb, hk⟩; have n0_ := Aside0.mk (Kd.R_mono (Kd.R_keep (IsS72.apart (show IsS72 w _ g367 t375 t376 from by repeat (first | (with_reducible first | exact HI367.out | apply IsS72.alloc | apply IsS72.drewN | apply IsS72.drew | apply IsS72.set_0 | apply IsS72.set_1 | refine IsS72.far ?_ NB367_377.out _) | exact HI367.out)) (by (with_reducible repeat (first | apply Kd.R_alloc | apply Kd.R_drewN | apply Kd.R_drew)); exact (Kd.R_mono (Kd.R_far (p := ⟨gb377, 1, none⟩) (Kd.R_far (p := ⟨gb377, 0, none⟩) (Kd.R_types HO370.out BK377.out (by decide)) (fun _ hk => hk.2) (.string t371)) (fun _ hk => hk.2) (.slice Ao11 t372.length co11)) (fun _ h_ => h_.1))) (by decide)) hk (fun _ h => h.2)) (fun _ h => h.1)); have n1_ := Aside0.mk (Kd.R_mono (Kd.R_told (Kd.R_oldK (IsS72.apart (show IsS72 w _ g367 t375 t376 from by repeat (first | (with_reducible first | exact HI367.out | apply IsS72.alloc | apply IsS72.drewN | apply IsS72.drew | apply IsS72.set_0 | apply IsS72.set_1 | refine IsS72.far ?_ NB367_377.out _) | exact HI367.out)) (by (with_reducible repeat (first | apply Kd.R_alloc | apply Kd.R_drewN | apply Kd.R_drew)); exact (Kd.R_mono (Kd.R_far (p := ⟨gb377, 1, none⟩) (Kd.R_far (p := ⟨gb377, 0, none⟩) (Kd.R_types HO374.out BK377.out (by decide)) (fun _ hk => hk.2) (.string t371)) (fun _ hk => hk.2) (.slice Ao11 t372.length co11)) (fun _ h_ => h_.1))) (by decide)) hk) (Kd.R_base ho0)) (fun _ h_ => h_.1)); have n2_ := Aside0.mk (KeepBut.blk hk (g' := gb377) (o := .cells #[.string t371, .slice Ao11 t372.length co11] 27 (0, 0)) (by (with_reducible repeat (first | refine blk_drewN ?_ _ | refine blk_drew ?_ | refine blk_alloc ?_ _)); refine blk_put (cs := #[.string t371, .slice none 0 0]) ?_ 1 _ rfl; (with_reducible repeat (first | refine blk_drewN ?_ _ | refine blk_drew ?_ | refine blk_alloc ?_ _)); refine blk_put (cs := #[.string (⟨#[]⟩ : ByteArray), .slice none 0 0]) ?_ 0 _ rfl; (with_reducible repeat (first | refine blk_drewN ?_ _ | refine blk_drew ?_ | refine blk_alloc ?_ _)); exact BK377.out) NB377_367.out (by simp)); have n3_ := Aside0.mk (Kd.R_lower (Kd.R_new' ho0 (Kd.R_lt (by (with_reducible repeat (first | apply Kd.R_alloc | apply Kd.R_drewN | apply Kd.R_drew)); exact (Kd.R_mono (Kd.R_far (p := ⟨gb377, 1, none⟩) (Kd.R_far (p := ⟨gb377, 0, none⟩) (Kd.R_types HO374.out BK377.out (by decide)) (fun _ hk => hk.2) (.string t371)) (fun _ hk => hk.2) (.slice Ao11 t372.length co11)) (fun _ h_ => h_.1))))) (below_size (by repeat (first | (with_reducible first | exact HB.out | apply below_alloc | apply pw_below_drewN | apply below_drew1 | refine below_set ?_ (IsS72.ge HI367.out) | refine below_set ?_ GE377.out) | exact HB.out)))); have n4_ := Aside0.mk (hb); have n5_ := Aside0.mk (hi); clear HO370; clear HO374; clear BK377; clear HB; clear HI367; have HO370 := n0_; have HO374 := n1_; have BK377 := n2_; have HO381 := n3_; have HB := n4_; have HI367 := n5_; clear n0_ n1_ n2_ n3_ n4_ n5_; (try clear hb); (try clear hb2); (try clear hk); (try clear hi); (try clear ho0)))
  repeat (go_quiet (first | (go_at_call 14; (with_reducible refine (cippuskit_NewUrn.calls _ _ l0 t365 t366 w _ ?side1 ?side2 ?side3 A2.out).mono ?_); (case side1 => repeat (first | (with_reducible first | exact HB.out | apply below_alloc | apply pw_below_drewN | apply below_drew1) | exact HB.out)); (case side2 => exact HR0.out); (case side3 => exact HC0.out); rintro e w6 ⟨g367, rfl, hi, hb, hb2⟩; have n0_ := Aside0.mk (hb); have n1_ := Aside0.mk (hi); clear HB; have HB := n0_; have HI367 := n1_; clear n0_ n1_; (try clear hb); (try clear hb2); (try clear hk); (try clear hi)) | (go_at_call 13; (with_reducible refine (cippuskit_CopiesOf.calls g367 t365 t366 4 6 1 t368 t371 t372 t375 t376 w _ ?side1 ?side2 A3.out).mono ?_); (case side1 => repeat (first | (with_reducible first | exact HI367.out | apply IsS72.alloc | apply IsS72.drewN | apply IsS72.drew | apply IsS72.set_0 | apply IsS72.set_1) | exact HI367.out)); (case side2 => repeat (first | (with_reducible first | exact HB.out | apply below_alloc | apply pw_below_drewN | apply below_drew1 | refine below_set ?_ (IsS72.ge HI367.out)) | exact HB.out)); rintro e w7 ⟨v369, v373, rfl, ho0, ho1, hi, hb, hk⟩; have n0_ := Aside0.mk (Kd.R_lower ho0 (below_size (by repeat (first | (with_reducible first | exact HB.out | apply below_alloc | apply pw_below_drewN | apply below_drew1 | refine below_set ?_ (IsS72.ge HI367.out)) | exact HB.out)))); have n1_ := Aside0.mk (Kd.R_lower ho1 (below_size (by repeat (first | (with_reducible first | exact HB.out | apply below_alloc | apply pw_below_drewN | apply below_drew1 | refine below_set ?_ (IsS72.ge HI367.out)) | exact HB.out)))); have n2_ := Aside0.mk (hb); have n3_ := Aside0.mk (hi); clear HB; clear HI367; have HO370 := n0_; have HO374 := n1_; have HB := n2_; have HI367 := n3_; clear n0_ n1_ n2_ n3_; (try clear hb); (try clear hb2); (try clear hk); (try clear hi); (try clear ho0); (try clear ho1)) | ((with_reducible refine gate_dst (N := 5) rfl ?_); (try (refine gate_guard (by rfl) ?_; dsimp only)); refine box_event ?hg (N := 5) ?hd (cs := #[.string (⟨#[]⟩ : ByteArray), .slice none 0 0]) (t := 27) ?hr ?_; (case hd => rfl); (case hg => rfl); (case hr => first | (go_simp; done) | (go_simp; rfl)); intro gb377 hg w8 hbox hb; have n0_ := Aside0.mk (Kd.R_below (by (with_reducible repeat (first | apply Kd.R_alloc | apply Kd.R_drewN | apply Kd.R_drew)); exact HO370.out) hb); have n1_ := Aside0.mk (Kd.R_below (by (with_reducible repeat (first | apply Kd.R_alloc | apply Kd.R_drewN | apply Kd.R_drew)); exact HO374.out) hb); have n2_ := Aside0.mk (IsS72.below (by repeat (first | (with_reducible first | exact HI367.out | apply IsS72.alloc | apply IsS72.drewN | apply IsS72.drew | apply IsS72.set_0 | apply IsS72.set_1) | exact HI367.out)) hb); have n3_ := Aside0.mk (below_step (by repeat (first | (with_reducible first | exact HB.out | apply below_alloc | apply pw_below_drewN | apply below_drew1 | refine below_set ?_ (IsS72.ge HI367.out)) | exact HB.out)) hb); have n4_ := Aside0.mk (hbox); have n5_ := Aside0.mk ((by rw [hg]; exact (below_size (by repeat (first | (with_reducible first | exact HB.out | apply below_alloc | apply pw_below_drewN | apply below_drew1 | refine below_set ?_ (IsS72.ge HI367.out)) | exact HB.out))) : w.heap.size ≤ gb377)); have n6_ := Aside0.mk ((by rw [hg]; exact (below_size (by repeat (first | (with_reducible first | exact HB.out | apply below_alloc | apply pw_below_drewN | apply below_drew1 | refine below_set ?_ (IsS72.ge HI367.out)) | exact HB.out))) : w.heap.size ≤ gb377)); have n7_ := Aside0.mk ((by rw [hg]; exact Nat.ne_of_lt (IsS72.lt (show IsS72 w _ g367 t375 t376 from by repeat (first | (with_reducible first | exact HI367.out | apply IsS72.alloc | apply IsS72.drewN | apply IsS72.drew | apply IsS72.set_0 | apply IsS72.set_1) | exact HI367.out))) : g367 ≠ gb377)); have n8_ := Aside0.mk ((by rw [hg]; exact Nat.ne_of_gt (IsS72.lt (show IsS72 w _ g367 t375 t376 from by repeat (first | (with_reducible first | exact HI367.out | apply IsS72.alloc | apply IsS72.drewN | apply IsS72.drew | apply IsS72.set_0 | apply IsS72.set_1) | exact HI367.out))) : gb377 ≠ g367)); clear HO370; clear HO374; clear HI367; clear HB; have HO370 := n0_; have HO374 := n1_; have HI367 := n2_; have HB := n3_; have BK377 := n4_; have GW377 := n5_; have GE377 := n6_; have NB367_377 := n7_; have NB377_367 := n8_; clear n0_ n1_ n2_ n3_ n4_ n5_ n6_ n7_ n8_; clear hb hbox hg; have hnb9 := NB377_367.out; have hnc9 := NB367_377.out; have hcz10_0 : w8.cell? ⟨gb377, 0, none⟩ = some (.string (⟨#[]⟩ : ByteArray)) := (blk_cell BK377.out 0).trans rfl; have hcz10_1 : w8.cell? ⟨gb377, 1, none⟩ = some (.slice none 0 0) := (blk_cell BK377.out 1).trans rfl; have hfz10_0 := blk_frozen BK377.out 0; have hfz10_1 := blk_frozen BK377.out 1; obtain ⟨Ao11, co11, eo11⟩ := Kd.R_slice HO374.out; subst eo11; obtain ⟨Ao12, co12, eo12⟩ := Kd.R_slice HO370.out; subst eo12; have p378 : 0 ≤ (0 : Int) := (by omega); have q378 : 0 < (t368.length : Int) := of_decide_eq_true (by first | (with_reducible assumption) | assumption); obtain ⟨ad378, e378, hx378_0, hx378_1, hx378_2⟩ := at_T24 (Kd.R_reads' HO370.out).2.2 0 p378 q378; cases e378; have qi378 : (0 < t368.length) = True := eq_true (by omega); (try rw [show ((0 : Int)).toNat = 0 from rfl] at hx378_0); (try rw [show 0 * 3 = 0 from rfl] at hx378_0); (try rw [Addr.add_zero'] at hx378_0); (try rw [show ((0 : Int)).toNat = 0 from rfl] at hx378_1); (try rw [show 0 * 3 = 0 from rfl] at hx378_1); (try rw [Addr.add_zero'] at hx378_1); (try rw [show ((0 : Int)).toNat = 0 from rfl] at hx378_2); (try rw [show 0 * 3 = 0 from rfl] at hx378_2); (try rw [Addr.add_zero'] at hx378_2); have hn378_0 : ad378.block ≠ gb377 := Kd.own_blk (Kd.R_ne HO370.out BK377.out (by decide)); have hn378_1 : ad378.block ≠ gb377 := Kd.own_blk (Kd.R_ne HO370.out BK377.out (by decide)); replace hx378_0 := (cell_far (p := ⟨gb377, 0, none⟩) (by first | (rw [add_block]; exact hn378_0) | (show (Addr.add _ _).block ≠ _; rw [add_block]; exact hn378_0) | exact hn378_0) (.string t371)).trans hx378_0; replace hx378_1 := (cell_far (p := ⟨gb377, 0, none⟩) (by first | (rw [add_block]; exact hn378_0) | (show (Addr.add _ _).block ≠ _; rw [add_block]; exact hn378_0) | exact hn378_0) (.string t371)).trans hx378_1; replace hx378_2 := (cell_far (p := ⟨gb377, 0, none⟩) (by first | (rw [add_block]; exact hn378_0) | (show (Addr.add _ _).block ≠ _; rw [add_block]; exact hn378_0) | exact hn378_0) (.string t371)).trans hx378_2; replace hx378_0 := (cell_far (p := ⟨gb377, 1, none⟩) (by first | (rw [add_block]; exact hn378_1) | (show (Addr.add _ _).block ≠ _; rw [add_block]; exact hn378_1) | exact hn378_1) (.slice Ao11 t372.length co11)).trans hx378_0; replace hx378_1 := (cell_far (p := ⟨gb377, 1, none⟩) (by first | (rw [add_block]; exact hn378_1) | (show (Addr.add _ _).block ≠ _; rw [add_block]; exact hn378_1) | exact hn378_1) (.slice Ao11 t372.length co11)).trans hx378_1; replace hx378_2 := (cell_far (p := ⟨gb377, 1, none⟩) (by first | (rw [add_block]; exact hn378_1) | (show (Addr.add _ _).block ≠ _; rw [add_block]; exact hn378_1) | exact hn378_1) (.slice Ao11 t372.length co11)).trans hx378_2; (try have hy378_0 := fun (n_ : Nat) => (show ((((w8.drewN n_).setCell ⟨gb377, 0, none⟩ (.string t371)).setCell ⟨gb377, 1, none⟩ (.slice Ao11 t372.length co11))).cell? _ = some _ from hx378_0)); (try have hy378_1 := fun (n_ : Nat) => (show ((((w8.drewN n_).setCell ⟨gb377, 0, none⟩ (.string t371)).setCell ⟨gb377, 1, none⟩ (.slice Ao11 t372.length co11))).cell? _ = some _ from hx378_1)); (try have hy378_2 := fun (n_ : Nat) => (show ((((w8.drewN n_).setCell ⟨gb377, 0, none⟩ (.string t371)).setCell ⟨gb377, 1, none⟩ (.slice Ao11 t372.length co11))).cell? _ = some _ from hx378_2)); clear hn378_0; clear hn378_1; replace p378 := eq_true p378; replace q378 := eq_true q378) | (go_at_call 34; (with_reducible refine (cippuskit_Urn_Row.calls k g367 t375 t376 (((rd_T24 t368 0).f0).size : Int) t379 t382 t383 w _ ?side1 ?side2 A5.out).mono ?_); (case side1 => repeat (first | (with_reducible first | exact HI367.out | apply IsS72.alloc | apply IsS72.drewN | apply IsS72.drew | apply IsS72.set_0 | apply IsS72.set_1 | refine IsS72.far ?_ NB367_377.out _) | exact HI367.out)); (case side2 => repeat (first | (with_reducible first | exact HB.out | apply below_alloc | apply pw_below_drewN | apply below_drew1 | refine below_set ?_ (IsS72.ge HI367.out) | refine below_set ?_ GE377.out) | exact HB.out)); rintro e w13 ⟨v380, rfl, ho0, hi, hb, hk⟩; have n0_ := Aside0.mk (Kd.R_mono (Kd.R_keep (IsS72.apart (show IsS72 w _ g367 t375 t376 from by repeat (first | (with_reducible first | exact HI367.out | apply IsS72.alloc | apply IsS72.drewN | apply IsS72.drew | apply IsS72.set_0 | apply IsS72.set_1 | refine IsS72.far ?_ NB367_377.out _) | exact HI367.out)) (by (with_reducible repeat (first | apply Kd.R_alloc | apply Kd.R_drewN | apply Kd.R_drew)); exact (Kd.R_mono (Kd.R_far (p := ⟨gb377, 1, none⟩) (Kd.R_far (p := ⟨gb377, 0, none⟩) (Kd.R_types HO370.out BK377.out (by decide)) (fun _ hk => hk.2) (.string t371)) (fun _ hk => hk.2) (.slice Ao11 t372.length co11)) (fun _ h_ => h_.1))) (by decide)) hk (fun _ h => h.2)) (fun _ h => h.1)); have n1_ := Aside0.mk (Kd.R_mono (Kd.R_told (Kd.R_oldK (IsS72.apart (show IsS72 w _ g367 t375 t376 from by repeat (first | (with_reducible first | exact HI367.out | apply IsS72.alloc | apply IsS72.drewN | apply IsS72.drew | apply IsS72.set_0 | apply IsS72.set_1 | refine IsS72.far ?_ NB367_377.out _) | exact HI367.out)) (by (with_reducible repeat (first | apply Kd.R_alloc | apply Kd.R_drewN | apply Kd.R_drew)); exact (Kd.R_mono (Kd.R_far (p := ⟨gb377, 1, none⟩) (Kd.R_far (p := ⟨gb377, 0, none⟩) (Kd.R_types HO374.out BK377.out (by decide)) (fun _ hk => hk.2) (.string t371)) (fun _ hk => hk.2) (.slice Ao11 t372.length co11)) (fun _ h_ => h_.1))) (by decide)) hk) (Kd.R_base ho0)) (fun _ h_ => h_.1)); have n2_ := Aside0.mk (KeepBut.blk hk (g' := gb377) (o := .cells #[.string t371, .slice Ao11 t372.length co11] 27 (0, 0)) (by (with_reducible repeat (first | refine blk_drewN ?_ _ | refine blk_drew ?_ | refine blk_alloc ?_ _)); refine blk_put (cs := #[.string t371, .slice none 0 0]) ?_ 1 _ rfl; (with_reducible repeat (first | refine blk_drewN ?_ _ | refine blk_drew ?_ | refine blk_alloc ?_ _)); refine blk_put (cs := #[.string (⟨#[]⟩ : ByteArray), .slice none 0 0]) ?_ 0 _ rfl; (with_reducible repeat (first | refine blk_drewN ?_ _ | refine blk_drew ?_ | refine blk_alloc ?_ _)); exact BK377.out) NB377_367.out (by simp)); have n3_ := Aside0.mk (Kd.R_lower (Kd.R_new' ho0 (Kd.R_lt (by (with_reducible repeat (first | apply Kd.R_alloc | apply Kd.R_drewN | apply Kd.R_drew)); exact (Kd.R_mono (Kd.R_far (p := ⟨gb377, 1, none⟩) (Kd.R_far (p := ⟨gb377, 0, none⟩) (Kd.R_types HO374.out BK377.out (by decide)) (fun _ hk => hk.2) (.string t371)) (fun _ hk => hk.2) (.slice Ao11 t372.length co11)) (fun _ h_ => h_.1))))) (below_size (by repeat (first | (with_reducible first | exact HB.out | apply below_alloc | apply pw_below_drewN | apply below_drew1 | refine below_set ?_ (IsS72.ge HI367.out) | refine below_set ?_ GE377.out) | exact HB.out)))); have n4_ := Aside0.mk (hb); have n5_ := Aside0.mk (hi); clear HO370; clear HO374; clear BK377; clear HB; clear HI367; have HO370 := n0_; have HO374 := n1_; have BK377 := n2_; have HO381 := n3_; have HB := n4_; have HI367 := n5_; clear n0_ n1_ n2_ n3_ n4_ n5_; (try clear hb); (try clear hb2); (try clear hk); (try clear hi); (try clear ho0))); try go_wp2_with (first | (go_at_call 14; (with_reducible refine (cippuskit_NewUrn.calls _ _ l0 t365 t366 w _ ?side1 ?side2 ?side3 A2.out).mono ?_); (case side1 => repeat (first | (with_reducible first | exact HB.out | apply below_alloc | apply pw_below_drewN | apply below_drew1) | exact HB.out)); (case side2 => exact HR0.out); (case side3 => exact HC0.out); rintro e w6 ⟨g367, rfl, hi, hb, hb2⟩; have n0_ := Aside0.mk (hb); have n1_ := Aside0.mk (hi); clear HB; have HB := n0_; have HI367 := n1_; clear n0_ n1_; (try clear hb); (try clear hb2); (try clear hk); (try clear hi)) | (go_at_call 13; (with_reducible refine (cippuskit_CopiesOf.calls g367 t365 t366 4 6 1 t368 t371 t372 t375 t376 w _ ?side1 ?side2 A3.out).mono ?_); (case side1 => repeat (first | (with_reducible first | exact HI367.out | apply IsS72.alloc | apply IsS72.drewN | apply IsS72.drew | apply IsS72.set_0 | apply IsS72.set_1) | exact HI367.out)); (case side2 => repeat (first | (with_reducible first | exact HB.out | apply below_alloc | apply pw_below_drewN | apply below_drew1 | refine below_set ?_ (IsS72.ge HI367.out)) | exact HB.out)); rintro e w7 ⟨v369, v373, rfl, ho0, ho1, hi, hb, hk⟩; have n0_ := Aside0.mk (Kd.R_lower ho0 (below_size (by repeat (first | (with_reducible first | exact HB.out | apply below_alloc | apply pw_below_drewN | apply below_drew1 | refine below_set ?_ (IsS72.ge HI367.out)) | exact HB.out)))); have n1_ := Aside0.mk (Kd.R_lower ho1 (below_size (by repeat (first | (with_reducible first | exact HB.out | apply below_alloc | apply pw_below_drewN | apply below_drew1 | refine below_set ?_ (IsS72.ge HI367.out)) | exact HB.out)))); have n2_ := Aside0.mk (hb); have n3_ := Aside0.mk (hi); clear HB; clear HI367; have HO370 := n0_; have HO374 := n1_; have HB := n2_; have HI367 := n3_; clear n0_ n1_ n2_ n3_; (try clear hb); (try clear hb2); (try clear hk); (try clear hi); (try clear ho0); (try clear ho1)) | ((with_reducible refine gate_dst (N := 5) rfl ?_); (try (refine gate_guard (by rfl) ?_; dsimp only)); refine box_event ?hg (N := 5) ?hd (cs := #[.string (⟨#[]⟩ : ByteArray), .slice none 0 0]) (t := 27) ?hr ?_; (case hd => rfl); (case hg => rfl); (case hr => first | (go_simp; done) | (go_simp; rfl)); intro gb377 hg w8 hbox hb; have n0_ := Aside0.mk (Kd.R_below (by (with_reducible repeat (first | apply Kd.R_alloc | apply Kd.R_drewN | apply Kd.R_drew)); exact HO370.out) hb); have n1_ := Aside0.mk (Kd.R_below (by (with_reducible repeat (first | apply Kd.R_alloc | apply Kd.R_drewN | apply Kd.R_drew)); exact HO374.out) hb); have n2_ := Aside0.mk (IsS72.below (by repeat (first | (with_reducible first | exact HI367.out | apply IsS72.alloc | apply IsS72.drewN | apply IsS72.drew | apply IsS72.set_0 | apply IsS72.set_1) | exact HI367.out)) hb); have n3_ := Aside0.mk (below_step (by repeat (first | (with_reducible first | exact HB.out | apply below_alloc | apply pw_below_drewN | apply below_drew1 | refine below_set ?_ (IsS72.ge HI367.out)) | exact HB.out)) hb); have n4_ := Aside0.mk (hbox); have n5_ := Aside0.mk ((by rw [hg]; exact (below_size (by repeat (first | (with_reducible first | exact HB.out | apply below_alloc | apply pw_below_drewN | apply below_drew1 | refine below_set ?_ (IsS72.ge HI367.out)) | exact HB.out))) : w.heap.size ≤ gb377)); have n6_ := Aside0.mk ((by rw [hg]; exact (below_size (by repeat (first | (with_reducible first | exact HB.out | apply below_alloc | apply pw_below_drewN | apply below_drew1 | refine below_set ?_ (IsS72.ge HI367.out)) | exact HB.out))) : w.heap.size ≤ gb377)); have n7_ := Aside0.mk ((by rw [hg]; exact Nat.ne_of_lt (IsS72.lt (show IsS72 w _ g367 t375 t376 from by repeat (first | (with_reducible first | exact HI367.out | apply IsS72.alloc | apply IsS72.drewN | apply IsS72.drew | apply IsS72.set_0 | apply IsS72.set_1) | exact HI367.out))) : g367 ≠ gb377)); have n8_ := Aside0.mk ((by rw [hg]; exact Nat.ne_of_gt (IsS72.lt (show IsS72 w _ g367 t375 t376 from by repeat (first | (with_reducible first | exact HI367.out | apply IsS72.alloc | apply IsS72.drewN | apply IsS72.drew | apply IsS72.set_0 | apply IsS72.set_1) | exact HI367.out))) : gb377 ≠ g367)); clear HO370; clear HO374; clear HI367; clear HB; have HO370 := n0_; have HO374 := n1_; have HI367 := n2_; have HB := n3_; have BK377 := n4_; have GW377 := n5_; have GE377 := n6_; have NB367_377 := n7_; have NB377_367 := n8_; clear n0_ n1_ n2_ n3_ n4_ n5_ n6_ n7_ n8_; clear hb hbox hg; have hnb9 := NB377_367.out; have hnc9 := NB367_377.out; have hcz10_0 : w8.cell? ⟨gb377, 0, none⟩ = some (.string (⟨#[]⟩ : ByteArray)) := (blk_cell BK377.out 0).trans rfl; have hcz10_1 : w8.cell? ⟨gb377, 1, none⟩ = some (.slice none 0 0) := (blk_cell BK377.out 1).trans rfl; have hfz10_0 := blk_frozen BK377.out 0; have hfz10_1 := blk_frozen BK377.out 1; obtain ⟨Ao11, co11, eo11⟩ := Kd.R_slice HO374.out; subst eo11; obtain ⟨Ao12, co12, eo12⟩ := Kd.R_slice HO370.out; subst eo12; have p378 : 0 ≤ (0 : Int) := (by omega); have q378 : 0 < (t368.length : Int) := of_decide_eq_true (by first | (with_reducible assumption) | assumption); obtain ⟨ad378, e378, hx378_0, hx378_1, hx378_2⟩ := at_T24 (Kd.R_reads' HO370.out).2.2 0 p378 q378; cases e378; have qi378 : (0 < t368.length) = True := eq_true (by omega); (try rw [show ((0 : Int)).toNat = 0 from rfl] at hx378_0); (try rw [show 0 * 3 = 0 from rfl] at hx378_0); (try rw [Addr.add_zero'] at hx378_0); (try rw [show ((0 : Int)).toNat = 0 from rfl] at hx378_1); (try rw [show 0 * 3 = 0 from rfl] at hx378_1); (try rw [Addr.add_zero'] at hx378_1); (try rw [show ((0 : Int)).toNat = 0 from rfl] at hx378_2); (try rw [show 0 * 3 = 0 from rfl] at hx378_2); (try rw [Addr.add_zero'] at hx378_2); have hn378_0 : ad378.block ≠ gb377 := Kd.own_blk (Kd.R_ne HO370.out BK377.out (by decide)); have hn378_1 : ad378.block ≠ gb377 := Kd.own_blk (Kd.R_ne HO370.out BK377.out (by decide)); replace hx378_0 := (cell_far (p := ⟨gb377, 0, none⟩) (by first | (rw [add_block]; exact hn378_0) | (show (Addr.add _ _).block ≠ _; rw [add_block]; exact hn378_0) | exact hn378_0) (.string t371)).trans hx378_0; replace hx378_1 := (cell_far (p := ⟨gb377, 0, none⟩) (by first | (rw [add_block]; exact hn378_0) | (show (Addr.add _ _).block ≠ _; rw [add_block]; exact hn378_0) | exact hn378_0) (.string t371)).trans hx378_1; replace hx378_2 := (cell_far (p := ⟨gb377, 0, none⟩) (by first | (rw [add_block]; exact hn378_0) | (show (Addr.add _ _).block ≠ _; rw [add_block]; exact hn378_0) | exact hn378_0) (.string t371)).trans hx378_2; replace hx378_0 := (cell_far (p := ⟨gb377, 1, none⟩) (by first | (rw [add_block]; exact hn378_1) | (show (Addr.add _ _).block ≠ _; rw [add_block]; exact hn378_1) | exact hn378_1) (.slice Ao11 t372.length co11)).trans hx378_0; replace hx378_1 := (cell_far (p := ⟨gb377, 1, none⟩) (by first | (rw [add_block]; exact hn378_1) | (show (Addr.add _ _).block ≠ _; rw [add_block]; exact hn378_1) | exact hn378_1) (.slice Ao11 t372.length co11)).trans hx378_1; replace hx378_2 := (cell_far (p := ⟨gb377, 1, none⟩) (by first | (rw [add_block]; exact hn378_1) | (show (Addr.add _ _).block ≠ _; rw [add_block]; exact hn378_1) | exact hn378_1) (.slice Ao11 t372.length co11)).trans hx378_2; (try have hy378_0 := fun (n_ : Nat) => (show ((((w8.drewN n_).setCell ⟨gb377, 0, none⟩ (.string t371)).setCell ⟨gb377, 1, none⟩ (.slice Ao11 t372.length co11))).cell? _ = some _ from hx378_0)); (try have hy378_1 := fun (n_ : Nat) => (show ((((w8.drewN n_).setCell ⟨gb377, 0, none⟩ (.string t371)).setCell ⟨gb377, 1, none⟩ (.slice Ao11 t372.length co11))).cell? _ = some _ from hx378_1)); (try have hy378_2 := fun (n_ : Nat) => (show ((((w8.drewN n_).setCell ⟨gb377, 0, none⟩ (.string t371)).setCell ⟨gb377, 1, none⟩ (.slice Ao11 t372.length co11))).cell? _ = some _ from hx378_2)); clear hn378_0; clear hn378_1; replace p378 := eq_true p378; replace q378 := eq_true q378) | (go_at_call 34; (with_reducible refine (cippuskit_Urn_Row.calls k g367 t375 t376 (((rd_T24 t368 0).f0).size : Int) t379 t382 t383 w _ ?side1 ?side2 A5.out).mono ?_); (case side1 => repeat (first | (with_reducible first | exact HI367.out | apply IsS72.alloc | apply IsS72.drewN | apply IsS72.drew | apply IsS72.set_0 | apply IsS72.set_1 | refine IsS72.far ?_ NB367_377.out _) | exact HI367.out)); (case side2 => repeat (first | (with_reducible first | exact HB.out | apply below_alloc | apply pw_below_drewN | apply below_drew1 | refine below_set ?_ (IsS72.ge HI367.out) | refine below_set ?_ GE377.out) | exact HB.out)); rintro e w13 ⟨v380, rfl, ho0, hi, hb, hk⟩; have n0_ := Aside0.mk (Kd.R_mono (Kd.R_keep (IsS72.apart (show IsS72 w _ g367 t375 t376 from by repeat (first | (with_reducible first | exact HI367.out | apply IsS72.alloc | apply IsS72.drewN | apply IsS72.drew | apply IsS72.set_0 | apply IsS72.set_1 | refine IsS72.far ?_ NB367_377.out _) | exact HI367.out)) (by (with_reducible repeat (first | apply Kd.R_alloc | apply Kd.R_drewN | apply Kd.R_drew)); exact (Kd.R_mono (Kd.R_far (p := ⟨gb377, 1, none⟩) (Kd.R_far (p := ⟨gb377, 0, none⟩) (Kd.R_types HO370.out BK377.out (by decide)) (fun _ hk => hk.2) (.string t371)) (fun _ hk => hk.2) (.slice Ao11 t372.length co11)) (fun _ h_ => h_.1))) (by decide)) hk (fun _ h => h.2)) (fun _ h => h.1)); have n1_ := Aside0.mk (Kd.R_mono (Kd.R_told (Kd.R_oldK (IsS72.apart (show IsS72 w _ g367 t375 t376 from by repeat (first | (with_reducible first | exact HI367.out | apply IsS72.alloc | apply IsS72.drewN | apply IsS72.drew | apply IsS72.set_0 | apply IsS72.set_1 | refine IsS72.far ?_ NB367_377.out _) | exact HI367.out)) (by (with_reducible repeat (first | apply Kd.R_alloc | apply Kd.R_drewN | apply Kd.R_drew)); exact (Kd.R_mono (Kd.R_far (p := ⟨gb377, 1, none⟩) (Kd.R_far (p := ⟨gb377, 0, none⟩) (Kd.R_types HO374.out BK377.out (by decide)) (fun _ hk => hk.2) (.string t371)) (fun _ hk => hk.2) (.slice Ao11 t372.length co11)) (fun _ h_ => h_.1))) (by decide)) hk) (Kd.R_base ho0)) (fun _ h_ => h_.1)); have n2_ := Aside0.mk (KeepBut.blk hk (g' := gb377) (o := .cells #[.string t371, .slice Ao11 t372.length co11] 27 (0, 0)) (by (with_reducible repeat (first | refine blk_drewN ?_ _ | refine blk_drew ?_ | refine blk_alloc ?_ _)); refine blk_put (cs := #[.string t371, .slice none 0 0]) ?_ 1 _ rfl; (with_reducible repeat (first | refine blk_drewN ?_ _ | refine blk_drew ?_ | refine blk_alloc ?_ _)); refine blk_put (cs := #[.string (⟨#[]⟩ : ByteArray), .slice none 0 0]) ?_ 0 _ rfl; (with_reducible repeat (first | refine blk_drewN ?_ _ | refine blk_drew ?_ | refine blk_alloc ?_ _)); exact BK377.out) NB377_367.out (by simp)); have n3_ := Aside0.mk (Kd.R_lower (Kd.R_new' ho0 (Kd.R_lt (by (with_reducible repeat (first | apply Kd.R_alloc | apply Kd.R_drewN | apply Kd.R_drew)); exact (Kd.R_mono (Kd.R_far (p := ⟨gb377, 1, none⟩) (Kd.R_far (p := ⟨gb377, 0, none⟩) (Kd.R_types HO374.out BK377.out (by decide)) (fun _ hk => hk.2) (.string t371)) (fun _ hk => hk.2) (.slice Ao11 t372.length co11)) (fun _ h_ => h_.1))))) (below_size (by repeat (first | (with_reducible first | exact HB.out | apply below_alloc | apply pw_below_drewN | apply below_drew1 | refine below_set ?_ (IsS72.ge HI367.out) | refine below_set ?_ GE377.out) | exact HB.out)))); have n4_ := Aside0.mk (hb); have n5_ := Aside0.mk (hi); clear HO370; clear HO374; clear BK377; clear HB; clear HI367; have HO370 := n0_; have HO374 := n1_; have BK377 := n2_; have HO381 := n3_; have HB := n4_; have HI367 := n5_; clear n0_ n1_ n2_ n3_ n4_ n5_; (try clear hb); (try clear hb2); (try clear hk); (try clear hi); (try clear ho0))))
  go_loopg [7, 8] k (fun kq v7 v8 w' => ∃ (x7_1 : List Int) (x8_1 : Int) (x368000_1 : Int) (x368001_1 : Int), v8 = .int .i64 x8_1 ∧ Aside0 (cippuslaw07_StemmaTurned.l0 kq t368 t379 x7_1 x8_1 x368000_1 x368001_1 = some r) ∧ Aside0 (kq ≤ k) ∧ Aside0 (Kd.R k24 24 w' w.heap.size (fun _ => True) (.slice (some ad378) t368.length co12) t368) ∧ Aside0 (Kd.R (Kd.int .i64) 3 w' w.heap.size (fun k_ => some k_ ≠ (v7 : Value).ownBlock ∧ some k_ ≠ ((.slice Ao11 t372.length co11) : Value).ownBlock) v380 t379) ∧ Aside0 (Kd.R (Kd.int .i64) 3 w' w.heap.size (fun k_ => some k_ ≠ (v380 : Value).ownBlock ∧ some k_ ≠ ((.slice Ao11 t372.length co11) : Value).ownBlock) v7 x7_1) ∧ Aside0 (Kd.R (Kd.int .i64) 3 w' w.heap.size (fun k_ => some k_ ≠ (v380 : Value).ownBlock ∧ some k_ ≠ (v7 : Value).ownBlock) (.slice Ao11 t372.length co11) t372) ∧ Aside0 (w'.heap[gb377]? = some (.cells #[.string t371, (.slice Ao11 t372.length co11)] 27 (0, 0))) ∧ Aside0 (IsS72 w w' g367 x368000_1 x368001_1) ∧ Aside0 (Below w.heap.size w w'))
  case atStart => exact ⟨(([] : List Int)), (0), (t382), (t383), (by first | rfl | (simp; done) | (simp [*]; done)), H', ⟨Nat.le_refl _⟩, ⟨by (with_reducible repeat (first | apply Kd.R_alloc | apply Kd.R_drewN | apply Kd.R_drew)); exact HO370.out⟩, ⟨by (with_reducible repeat (first | apply Kd.R_alloc | apply Kd.R_drewN | apply Kd.R_drew)); exact Kd.R_mono HO381.out (fun _ hk => ⟨(by simp [Value.ownBlock]), hk.2⟩)⟩, ⟨by first | exact Kd.R_nil _ _ _ _ _ | exact Kd.N_nil _ _ _ _ _ | exact Kd.V_nil _ _ _ _ _ | exact Kd.Q_nil _ _ _ _ _ | exact Kd.S_nil _ _ _ _ _⟩, ⟨by (with_reducible repeat (first | apply Kd.R_alloc | apply Kd.R_drewN | apply Kd.R_drew)); exact Kd.R_mono HO374.out (fun _ hk => ⟨hk.2, (by simp [Value.ownBlock])⟩)⟩, ⟨by (with_reducible repeat (first | refine blk_drewN ?_ _ | refine blk_drew ?_ | refine blk_alloc ?_ _)); exact BK377.out⟩, ⟨by repeat (first | (with_reducible first | exact HI367.out | apply IsS72.alloc | apply IsS72.drewN | apply IsS72.drew | apply IsS72.set_0 | apply IsS72.set_1 | refine IsS72.far ?_ NB367_377.out _) | exact HI367.out)⟩, ⟨by repeat (first | (with_reducible first | exact HB.out | apply below_alloc | apply pw_below_drewN | apply below_drew1 | refine below_set ?_ (IsS72.ge HI367.out) | refine below_set ?_ GE377.out) | exact HB.out)⟩⟩
  case round => as_aux_lemma =>
   clear H'
   try clear p2
   try clear p3
   try clear q3
   try clear hx3
   try clear qi3
   try clear c4
   try clear c4b0
   try clear c4b1
   try clear c8
   try clear c9
   try clear hcz10_0
   try clear hcz10_1
   try clear hfz10_0
   try clear hfz10_1
   try clear hx378_0
   try clear hx378_1
   try clear hx378_2
   try clear p378
   try clear q378
   obtain ⟨x7_1, x8_1, x368000_1, x368001_1, rfl, HA, HK1, HO_4, HO_6, HO_7, HO_378001, BK377, HI367, HB⟩ := hrel
   cases gk with
   | zero => exact absurd HA.out (by simp [cippuslaw07_StemmaTurned.l0])
   | succ k1 =>
    have H := HA.out
    clear HA
    simp only [cippuslaw07_StemmaTurned.l0] at H
    by_cases c14 : x8_1 < (t379.length : Int)
    ·rw [if_pos c14] at H
     have c14b0 : decide (x8_1 < (t379.length : Int)) = true := decide_eq_true c14
     clear c14
     replace H := Option.bind_eq_some_iff.mp H
     obtain ⟨⟨t384, t385, t386⟩, A150, H⟩ := H
     replace H : (if x7_1.length < 17592186044416 then (cippuslaw07_StemmaTurned.l0 k1 t368 t379 (x7_1 ++ [t384]) (wrap64 (x8_1 + 1)) t385 t386) else (none)) = some r := H
     have A15 := Aside0.mk A150
     clear A150
     by_cases c16 : x7_1.length < 17592186044416
     ·rw [if_pos c16] at H
      have LMc16 := Aside0.mk c16
      clear c16
      obtain ⟨y387, hy387⟩ : ∃ y_ : List Int, y_ = (x7_1 ++ [t384]) := ⟨_, rfl⟩
      replace H : (cippuslaw07_StemmaTurned.l0 k1 t368 t379 y387 (wrap64 (x8_1 + 1)) t385 t386) = some r := by first | (rw [hy387]; with_reducible exact H) | (have H2_ := (Option.bind_some _ _).symm.trans H; rw [hy387]; with_reducible exact H2_) | (have H2_ := (Option.bind_some _ _).symm.trans H; with_reducible exact H2_) | with_reducible exact H | (rw [hy387]; exact H) | exact H
      have Ny387 := Aside0.mk hy387
      clear hy387
      have H' := Aside0.mk H
      clear H
      obtain ⟨Ao17, co17, eo17⟩ := Kd.R_slice HO_6.out
      subst eo17
      go_wp2_with (first | (go_at_call 28; (with_reducible refine (cippuskit_Urn_Up.calls g367 x368000_1 x368001_1 26 t384 t385 t386 w _ ?side1 ?side2 A15.out).mono ?_); (case side1 => repeat (first | (with_reducible first | exact HI367.out | apply IsS72.alloc | apply IsS72.drewN | apply IsS72.drew | apply IsS72.set_0 | apply IsS72.set_1 | refine IsS72.far ?_ NB367_377.out _) | exact HI367.out)); (case side2 => repeat (first | (with_reducible first | exact HB.out | apply below_alloc | apply pw_below_drewN | apply below_drew1 | refine below_set ?_ (IsS72.ge HI367.out) | refine below_set ?_ GE377.out) | exact HB.out)); rintro e w18 ⟨rfl, hi, hb, hk⟩; have n0_ := Aside0.mk (Kd.R_mono (Kd.R_keep (IsS72.apart (show IsS72 w _ g367 x368000_1 x368001_1 from by repeat (first | (with_reducible first | exact HI367.out | apply IsS72.alloc | apply IsS72.drewN | apply IsS72.drew | apply IsS72.set_0 | apply IsS72.set_1 | refine IsS72.far ?_ NB367_377.out _) | exact HI367.out)) (by (with_reducible repeat (first | apply Kd.R_alloc | apply Kd.R_drewN | apply Kd.R_drew)); exact HO_4.out) (by decide)) hk (fun _ h => h.2)) (fun _ h => h.1)); have n1_ := Aside0.mk (Kd.R_mono (Kd.R_keep (IsS72.apart (show IsS72 w _ g367 x368000_1 x368001_1 from by repeat (first | (with_reducible first | exact HI367.out | apply IsS72.alloc | apply IsS72.drewN | apply IsS72.drew | apply IsS72.set_0 | apply IsS72.set_1 | refine IsS72.far ?_ NB367_377.out _) | exact HI367.out)) (by (with_reducible repeat (first | apply Kd.R_alloc | apply Kd.R_drewN | apply Kd.R_drew)); exact HO_6.out) (by decide)) hk (fun _ h => h.2)) (fun _ h => h.1)); have n2_ := Aside0.mk (Kd.R_mono (Kd.R_keep (IsS72.apart (show IsS72 w _ g367 x368000_1 x368001_1 from by repeat (first | (with_reducible first | exact HI367.out | apply IsS72.alloc | apply IsS72.drewN | apply IsS72.drew | apply IsS72.set_0 | apply IsS72.set_1 | refine IsS72.far ?_ NB367_377.out _) | exact HI367.out)) (by (with_reducible repeat (first | apply Kd.R_alloc | apply Kd.R_drewN | apply Kd.R_drew)); exact HO_7.out) (by decide)) hk (fun _ h => h.2)) (fun _ h => h.1)); have n3_ := Aside0.mk (Kd.R_mono (Kd.R_keep (IsS72.apart (show IsS72 w _ g367 x368000_1 x368001_1 from by repeat (first | (with_reducible first | exact HI367.out | apply IsS72.alloc | apply IsS72.drewN | apply IsS72.drew | apply IsS72.set_0 | apply IsS72.set_1 | refine IsS72.far ?_ NB367_377.out _) | exact HI367.out)) (by (with_reducible repeat (first | apply Kd.R_alloc | apply Kd.R_drewN | apply Kd.R_drew)); exact HO_378001.out) (by decide)) hk (fun _ h => h.2)) (fun _ h => h.1)); have n4_ := Aside0.mk (KeepBut.blk hk (g' := gb377) (o := .cells #[.string t371, .slice Ao11 t372.length co11] 27 (0, 0)) (by (with_reducible repeat (first | refine blk_drewN ?_ _ | refine blk_drew ?_ | refine blk_alloc ?_ _)); exact BK377.out) NB377_367.out (by simp)); have n5_ := Aside0.mk (hb); have n6_ := Aside0.mk (hi); clear HO_4; clear HO_6; clear HO_7; clear HO_378001; clear BK377; clear HB; clear HI367; have HO_4 := n0_; have HO_6 := n1_; have HO_7 := n2_; have HO_378001 := n3_; have BK377 := n4_; have HB := n5_; have HI367 := n6_; clear n0_ n1_ n2_ n3_ n4_ n5_ n6_; (try clear hb); (try clear hb2); (try clear hk); (try clear hi)) | ((with_reducible refine gate_builtin (b := .append) (xs := #[.tmp 47, .tmp 50]) rfl ?_); (try (refine gate_guard (by rfl) ?_; dsimp only)); at_builtin; refine Kd.R_append (Kd.int .i64) (w0 := w) w.heap.size rfl (.tmp 47) (.tmp 50) 25 3 (.int .i64 0) 8 rfl Try.underlying25 info3 rfl (by decide) (by omega) u7 x7_1 t384 [.int .i64 t384] (fun k_ => some k_ ≠ (.slice Ao17 t379.length co17 : Value).ownBlock ∧ some k_ ≠ (.slice Ao11 t372.length co11 : Value).ownBlock) (fun _ => False) rfl rfl ?aP (fun _ hk => hk.elim) ?aF ?aO ?aB ?aS ?aL ?_; (case aP => exact rfl); (case aB => exact (by repeat (first | (with_reducible first | exact HB.out | apply below_alloc | apply pw_below_drewN | apply below_drew1 | refine below_set ?_ (IsS72.ge HI367.out) | refine below_set ?_ GE377.out) | exact HB.out))); (case aF => exact (fun k_ hk => ⟨Kd.fresh' (Kd.R_lt (by (with_reducible repeat (first | apply Kd.R_alloc | apply Kd.R_drewN | apply Kd.R_drew)); exact HO_6.out)) k_ hk, Kd.fresh' (Kd.R_lt (by (with_reducible repeat (first | apply Kd.R_alloc | apply Kd.R_drewN | apply Kd.R_drew)); exact HO_378001.out)) k_ hk⟩)); (case aO => exact (by (with_reducible repeat (first | apply Kd.R_alloc | apply Kd.R_drewN | apply Kd.R_drew)); exact HO_7.out)); (case aS => exact (below_size (by repeat (first | (with_reducible first | exact HB.out | apply below_alloc | apply pw_below_drewN | apply below_drew1 | refine below_set ?_ (IsS72.ge HI367.out) | refine below_set ?_ GE377.out) | exact HB.out)))); (case aL => have := LMc16.out; omega); intro v388 w19 ho hb hg hat; rw [← Ny387.out] at ho; have n0_ := Aside0.mk (Kd.R_over' (by (with_reducible repeat (first | apply Kd.R_alloc | apply Kd.R_drewN | apply Kd.R_drew)); exact HO_4.out) (Kd.R_typed (by (with_reducible repeat (first | apply Kd.R_alloc | apply Kd.R_drewN | apply Kd.R_drew)); exact HO_7.out)) (by decide) hg); have n1_ := Aside0.mk (Kd.R_after (ok := (fun k_ => some k_ ≠ (.slice Ao11 t372.length co11 : Value).ownBlock)) (by (with_reducible repeat (first | apply Kd.R_alloc | apply Kd.R_drewN | apply Kd.R_drew)); exact Kd.R_mono HO_6.out (fun _ hk => ⟨hk.2, hk.1⟩)) hg hat); have n2_ := Aside0.mk (Kd.R_after (ok := (fun k_ => some k_ ≠ (.slice Ao17 t379.length co17 : Value).ownBlock)) (by (with_reducible repeat (first | apply Kd.R_alloc | apply Kd.R_drewN | apply Kd.R_drew)); exact HO_378001.out) hg hat); have n3_ := Aside0.mk (blk_grown (g := gb377) (o := .cells #[.string t371, .slice Ao11 t372.length co11] 27 (0, 0)) (by (with_reducible repeat (first | refine blk_drewN ?_ _ | refine blk_drew ?_ | refine blk_alloc ?_ _)); exact BK377.out) hg (Kd.R_ne HO_7.out BK377.out (by decide))); have n4_ := Aside0.mk (IsS72.grown (by repeat (first | (with_reducible first | exact HI367.out | apply IsS72.alloc | apply IsS72.drewN | apply IsS72.drew | apply IsS72.set_0 | apply IsS72.set_1 | refine IsS72.far ?_ NB367_377.out _) | exact HI367.out)) hg (IsS72.own_ne HI367.out HO_7.out (by decide))); have n5_ := Aside0.mk (hb); have n6_ := Aside0.mk (ho); clear HO_4; clear HO_6; clear HO_378001; clear BK377; clear HI367; clear HB; clear HO_7; have HO_4 := n0_; have HO_6 := n1_; have HO_378001 := n2_; have BK377 := n3_; have HI367 := n4_; have HB := n5_; have HO389 := n6_; clear n0_ n1_ n2_ n3_ n4_ n5_ n6_; clear ho hb hg hat))
      repeat (go_quiet (first | (go_at_call 28; (with_reducible refine (cippuskit_Urn_Up.calls g367 x368000_1 x368001_1 26 t384 t385 t386 w _ ?side1 ?side2 A15.out).mono ?_); (case side1 => repeat (first | (with_reducible first | exact HI367.out | apply IsS72.alloc | apply IsS72.drewN | apply IsS72.drew | apply IsS72.set_0 | apply IsS72.set_1 | refine IsS72.far ?_ NB367_377.out _) | exact HI367.out)); (case side2 => repeat (first | (with_reducible first | exact HB.out | apply below_alloc | apply pw_below_drewN | apply below_drew1 | refine below_set ?_ (IsS72.ge HI367.out) | refine below_set ?_ GE377.out) | exact HB.out)); rintro e w18 ⟨rfl, hi, hb, hk⟩; have n0_ := Aside0.mk (Kd.R_mono (Kd.R_keep (IsS72.apart (show IsS72 w _ g367 x368000_1 x368001_1 from by repeat (first | (with_reducible first | exact HI367.out | apply IsS72.alloc | apply IsS72.drewN | apply IsS72.drew | apply IsS72.set_0 | apply IsS72.set_1 | refine IsS72.far ?_ NB367_377.out _) | exact HI367.out)) (by (with_reducible repeat (first | apply Kd.R_alloc | apply Kd.R_drewN | apply Kd.R_drew)); exact HO_4.out) (by decide)) hk (fun _ h => h.2)) (fun _ h => h.1)); have n1_ := Aside0.mk (Kd.R_mono (Kd.R_keep (IsS72.apart (show IsS72 w _ g367 x368000_1 x368001_1 from by repeat (first | (with_reducible first | exact HI367.out | apply IsS72.alloc | apply IsS72.drewN | apply IsS72.drew | apply IsS72.set_0 | apply IsS72.set_1 | refine IsS72.far ?_ NB367_377.out _) | exact HI367.out)) (by (with_reducible repeat (first | apply Kd.R_alloc | apply Kd.R_drewN | apply Kd.R_drew)); exact HO_6.out) (by decide)) hk (fun _ h => h.2)) (fun _ h => h.1)); have n2_ := Aside0.mk (Kd.R_mono (Kd.R_keep (IsS72.apart (show IsS72 w _ g367 x368000_1 x368001_1 from by repeat (first | (with_reducible first | exact HI367.out | apply IsS72.alloc | apply IsS72.drewN | apply IsS72.drew | apply IsS72.set_0 | apply IsS72.set_1 | refine IsS72.far ?_ NB367_377.out _) | exact HI367.out)) (by (with_reducible repeat (first | apply Kd.R_alloc | apply Kd.R_drewN | apply Kd.R_drew)); exact HO_7.out) (by decide)) hk (fun _ h => h.2)) (fun _ h => h.1)); have n3_ := Aside0.mk (Kd.R_mono (Kd.R_keep (IsS72.apart (show IsS72 w _ g367 x368000_1 x368001_1 from by repeat (first | (with_reducible first | exact HI367.out | apply IsS72.alloc | apply IsS72.drewN | apply IsS72.drew | apply IsS72.set_0 | apply IsS72.set_1 | refine IsS72.far ?_ NB367_377.out _) | exact HI367.out)) (by (with_reducible repeat (first | apply Kd.R_alloc | apply Kd.R_drewN | apply Kd.R_drew)); exact HO_378001.out) (by decide)) hk (fun _ h => h.2)) (fun _ h => h.1)); have n4_ := Aside0.mk (KeepBut.blk hk (g' := gb377) (o := .cells #[.string t371, .slice Ao11 t372.length co11] 27 (0, 0)) (by (with_reducible repeat (first | refine blk_drewN ?_ _ | refine blk_drew ?_ | refine blk_alloc ?_ _)); exact BK377.out) NB377_367.out (by simp)); have n5_ := Aside0.mk (hb); have n6_ := Aside0.mk (hi); clear HO_4; clear HO_6; clear HO_7; clear HO_378001; clear BK377; clear HB; clear HI367; have HO_4 := n0_; have HO_6 := n1_; have HO_7 := n2_; have HO_378001 := n3_; have BK377 := n4_; have HB := n5_; have HI367 := n6_; clear n0_ n1_ n2_ n3_ n4_ n5_ n6_; (try clear hb); (try clear hb2); (try clear hk); (try clear hi)) | ((with_reducible refine gate_builtin (b := .append) (xs := #[.tmp 47, .tmp 50]) rfl ?_); (try (refine gate_guard (by rfl) ?_; dsimp only)); at_builtin; refine Kd.R_append (Kd.int .i64) (w0 := w) w.heap.size rfl (.tmp 47) (.tmp 50) 25 3 (.int .i64 0) 8 rfl Try.underlying25 info3 rfl (by decide) (by omega) u7 x7_1 t384 [.int .i64 t384] (fun k_ => some k_ ≠ (.slice Ao17 t379.length co17 : Value).ownBlock ∧ some k_ ≠ (.slice Ao11 t372.length co11 : Value).ownBlock) (fun _ => False) rfl rfl ?aP (fun _ hk => hk.elim) ?aF ?aO ?aB ?aS ?aL ?_; (case aP => exact rfl); (case aB => exact (by repeat (first | (with_reducible first | exact HB.out | apply below_alloc | apply pw_below_drewN | apply below_drew1 | refine below_set ?_ (IsS72.ge HI367.out) | refine below_set ?_ GE377.out) | exact HB.out))); (case aF => exact (fun k_ hk => ⟨Kd.fresh' (Kd.R_lt (by (with_reducible repeat (first | apply Kd.R_alloc | apply Kd.R_drewN | apply Kd.R_drew)); exact HO_6.out)) k_ hk, Kd.fresh' (Kd.R_lt (by (with_reducible repeat (first | apply Kd.R_alloc | apply Kd.R_drewN | apply Kd.R_drew)); exact HO_378001.out)) k_ hk⟩)); (case aO => exact (by (with_reducible repeat (first | apply Kd.R_alloc | apply Kd.R_drewN | apply Kd.R_drew)); exact HO_7.out)); (case aS => exact (below_size (by repeat (first | (with_reducible first | exact HB.out | apply below_alloc | apply pw_below_drewN | apply below_drew1 | refine below_set ?_ (IsS72.ge HI367.out) | refine below_set ?_ GE377.out) | exact HB.out)))); (case aL => have := LMc16.out; omega); intro v388 w19 ho hb hg hat; rw [← Ny387.out] at ho; have n0_ := Aside0.mk (Kd.R_over' (by (with_reducible repeat (first | apply Kd.R_alloc | apply Kd.R_drewN | apply Kd.R_drew)); exact HO_4.out) (Kd.R_typed (by (with_reducible repeat (first | apply Kd.R_alloc | apply Kd.R_drewN | apply Kd.R_drew)); exact HO_7.out)) (by decide) hg); have n1_ := Aside0.mk (Kd.R_after (ok := (fun k_ => some k_ ≠ (.slice Ao11 t372.length co11 : Value).ownBlock)) (by (with_reducible repeat (first | apply Kd.R_alloc | apply Kd.R_drewN | apply Kd.R_drew)); exact Kd.R_mono HO_6.out (fun _ hk => ⟨hk.2, hk.1⟩)) hg hat); have n2_ := Aside0.mk (Kd.R_after (ok := (fun k_ => some k_ ≠ (.slice Ao17 t379.length co17 : Value).ownBlock)) (by (with_reducible repeat (first | apply Kd.R_alloc | apply Kd.R_drewN | apply Kd.R_drew)); exact HO_378001.out) hg hat); have n3_ := Aside0.mk (blk_grown (g := gb377) (o := .cells #[.string t371, .slice Ao11 t372.length co11] 27 (0, 0)) (by (with_reducible repeat (first | refine blk_drewN ?_ _ | refine blk_drew ?_ | refine blk_alloc ?_ _)); exact BK377.out) hg (Kd.R_ne HO_7.out BK377.out (by decide))); have n4_ := Aside0.mk (IsS72.grown (by repeat (first | (with_reducible first | exact HI367.out | apply IsS72.alloc | apply IsS72.drewN | apply IsS72.drew | apply IsS72.set_0 | apply IsS72.set_1 | refine IsS72.far ?_ NB367_377.out _) | exact HI367.out)) hg (IsS72.own_ne HI367.out HO_7.out (by decide))); have n5_ := Aside0.mk (hb); have n6_ := Aside0.mk (ho); clear HO_4; clear HO_6; clear HO_378001; clear BK377; clear HI367; clear HB; clear HO_7; have HO_4 := n0_; have HO_6 := n1_; have HO_378001 := n2_; have BK377 := n3_; have HI367 := n4_; have HB := n5_; have HO389 := n6_; clear n0_ n1_ n2_ n3_ n4_ n5_ n6_; clear ho hb hg hat)); try go_wp2_with (first | (go_at_call 28; (with_reducible refine (cippuskit_Urn_Up.calls g367 x368000_1 x368001_1 26 t384 t385 t386 w _ ?side1 ?side2 A15.out).mono ?_); (case side1 => repeat (first | (with_reducible first | exact HI367.out | apply IsS72.alloc | apply IsS72.drewN | apply IsS72.drew | apply IsS72.set_0 | apply IsS72.set_1 | refine IsS72.far ?_ NB367_377.out _) | exact HI367.out)); (case side2 => repeat (first | (with_reducible first | exact HB.out | apply below_alloc | apply pw_below_drewN | apply below_drew1 | refine below_set ?_ (IsS72.ge HI367.out) | refine below_set ?_ GE377.out) | exact HB.out)); rintro e w18 ⟨rfl, hi, hb, hk⟩; have n0_ := Aside0.mk (Kd.R_mono (Kd.R_keep (IsS72.apart (show IsS72 w _ g367 x368000_1 x368001_1 from by repeat (first | (with_reducible first | exact HI367.out | apply IsS72.alloc | apply IsS72.drewN | apply IsS72.drew | apply IsS72.set_0 | apply IsS72.set_1 | refine IsS72.far ?_ NB367_377.out _) | exact HI367.out)) (by (with_reducible repeat (first | apply Kd.R_alloc | apply Kd.R_drewN | apply Kd.R_drew)); exact HO_4.out) (by decide)) hk (fun _ h => h.2)) (fun _ h => h.1)); have n1_ := Aside0.mk (Kd.R_mono (Kd.R_keep (IsS72.apart (show IsS72 w _ g367 x368000_1 x368001_1 from by repeat (first | (with_reducible first | exact HI367.out | apply IsS72.alloc | apply IsS72.drewN | apply IsS72.drew | apply IsS72.set_0 | apply IsS72.set_1 | refine IsS72.far ?_ NB367_377.out _) | exact HI367.out)) (by (with_reducible repeat (first | apply Kd.R_alloc | apply Kd.R_drewN | apply Kd.R_drew)); exact HO_6.out) (by decide)) hk (fun _ h => h.2)) (fun _ h => h.1)); have n2_ := Aside0.mk (Kd.R_mono (Kd.R_keep (IsS72.apart (show IsS72 w _ g367 x368000_1 x368001_1 from by repeat (first | (with_reducible first | exact HI367.out | apply IsS72.alloc | apply IsS72.drewN | apply IsS72.drew | apply IsS72.set_0 | apply IsS72.set_1 | refine IsS72.far ?_ NB367_377.out _) | exact HI367.out)) (by (with_reducible repeat (first | apply Kd.R_alloc | apply Kd.R_drewN | apply Kd.R_drew)); exact HO_7.out) (by decide)) hk (fun _ h => h.2)) (fun _ h => h.1)); have n3_ := Aside0.mk (Kd.R_mono (Kd.R_keep (IsS72.apart (show IsS72 w _ g367 x368000_1 x368001_1 from by repeat (first | (with_reducible first | exact HI367.out | apply IsS72.alloc | apply IsS72.drewN | apply IsS72.drew | apply IsS72.set_0 | apply IsS72.set_1 | refine IsS72.far ?_ NB367_377.out _) | exact HI367.out)) (by (with_reducible repeat (first | apply Kd.R_alloc | apply Kd.R_drewN | apply Kd.R_drew)); exact HO_378001.out) (by decide)) hk (fun _ h => h.2)) (fun _ h => h.1)); have n4_ := Aside0.mk (KeepBut.blk hk (g' := gb377) (o := .cells #[.string t371, .slice Ao11 t372.length co11] 27 (0, 0)) (by (with_reducible repeat (first | refine blk_drewN ?_ _ | refine blk_drew ?_ | refine blk_alloc ?_ _)); exact BK377.out) NB377_367.out (by simp)); have n5_ := Aside0.mk (hb); have n6_ := Aside0.mk (hi); clear HO_4; clear HO_6; clear HO_7; clear HO_378001; clear BK377; clear HB; clear HI367; have HO_4 := n0_; have HO_6 := n1_; have HO_7 := n2_; have HO_378001 := n3_; have BK377 := n4_; have HB := n5_; have HI367 := n6_; clear n0_ n1_ n2_ n3_ n4_ n5_ n6_; (try clear hb); (try clear hb2); (try clear hk); (try clear hi)) | ((with_reducible refine gate_builtin (b := .append) (xs := #[.tmp 47, .tmp 50]) rfl ?_); (try (refine gate_guard (by rfl) ?_; dsimp only)); at_builtin; refine Kd.R_append (Kd.int .i64) (w0 := w) w.heap.size rfl (.tmp 47) (.tmp 50) 25 3 (.int .i64 0) 8 rfl Try.underlying25 info3 rfl (by decide) (by omega) u7 x7_1 t384 [.int .i64 t384] (fun k_ => some k_ ≠ (.slice Ao17 t379.length co17 : Value).ownBlock ∧ some k_ ≠ (.slice Ao11 t372.length co11 : Value).ownBlock) (fun _ => False) rfl rfl ?aP (fun _ hk => hk.elim) ?aF ?aO ?aB ?aS ?aL ?_; (case aP => exact rfl); (case aB => exact (by repeat (first | (with_reducible first | exact HB.out | apply below_alloc | apply pw_below_drewN | apply below_drew1 | refine below_set ?_ (IsS72.ge HI367.out) | refine below_set ?_ GE377.out) | exact HB.out))); (case aF => exact (fun k_ hk => ⟨Kd.fresh' (Kd.R_lt (by (with_reducible repeat (first | apply Kd.R_alloc | apply Kd.R_drewN | apply Kd.R_drew)); exact HO_6.out)) k_ hk, Kd.fresh' (Kd.R_lt (by (with_reducible repeat (first | apply Kd.R_alloc | apply Kd.R_drewN | apply Kd.R_drew)); exact HO_378001.out)) k_ hk⟩)); (case aO => exact (by (with_reducible repeat (first | apply Kd.R_alloc | apply Kd.R_drewN | apply Kd.R_drew)); exact HO_7.out)); (case aS => exact (below_size (by repeat (first | (with_reducible first | exact HB.out | apply below_alloc | apply pw_below_drewN | apply below_drew1 | refine below_set ?_ (IsS72.ge HI367.out) | refine below_set ?_ GE377.out) | exact HB.out)))); (case aL => have := LMc16.out; omega); intro v388 w19 ho hb hg hat; rw [← Ny387.out] at ho; have n0_ := Aside0.mk (Kd.R_over' (by (with_reducible repeat (first | apply Kd.R_alloc | apply Kd.R_drewN | apply Kd.R_drew)); exact HO_4.out) (Kd.R_typed (by (with_reducible repeat (first | apply Kd.R_alloc | apply Kd.R_drewN | apply Kd.R_drew)); exact HO_7.out)) (by decide) hg); have n1_ := Aside0.mk (Kd.R_after (ok := (fun k_ => some k_ ≠ (.slice Ao11 t372.length co11 : Value).ownBlock)) (by (with_reducible repeat (first | apply Kd.R_alloc | apply Kd.R_drewN | apply Kd.R_drew)); exact Kd.R_mono HO_6.out (fun _ hk => ⟨hk.2, hk.1⟩)) hg hat); have n2_ := Aside0.mk (Kd.R_after (ok := (fun k_ => some k_ ≠ (.slice Ao17 t379.length co17 : Value).ownBlock)) (by (with_reducible repeat (first | apply Kd.R_alloc | apply Kd.R_drewN | apply Kd.R_drew)); exact HO_378001.out) hg hat); have n3_ := Aside0.mk (blk_grown (g := gb377) (o := .cells #[.string t371, .slice Ao11 t372.length co11] 27 (0, 0)) (by (with_reducible repeat (first | refine blk_drewN ?_ _ | refine blk_drew ?_ | refine blk_alloc ?_ _)); exact BK377.out) hg (Kd.R_ne HO_7.out BK377.out (by decide))); have n4_ := Aside0.mk (IsS72.grown (by repeat (first | (with_reducible first | exact HI367.out | apply IsS72.alloc | apply IsS72.drewN | apply IsS72.drew | apply IsS72.set_0 | apply IsS72.set_1 | refine IsS72.far ?_ NB367_377.out _) | exact HI367.out)) hg (IsS72.own_ne HI367.out HO_7.out (by decide))); have n5_ := Aside0.mk (hb); have n6_ := Aside0.mk (ho); clear HO_4; clear HO_6; clear HO_378001; clear BK377; clear HI367; clear HB; clear HO_7; have HO_4 := n0_; have HO_6 := n1_; have HO_378001 := n2_; have BK377 := n3_; have HI367 := n4_; have HB := n5_; have HO389 := n6_; clear n0_ n1_ n2_ n3_ n4_ n5_ n6_; clear ho hb hg hat)))
      go_roundg k1
      case measure => have := HK1.out; omega
      case rel => exact ⟨(y387), (wrap64 (x8_1 + 1)), (t385), (t386), (by first | rfl | (simp; done) | (simp [*]; done)), H', ⟨by have := HK1.out; omega⟩, ⟨by (with_reducible repeat (first | apply Kd.R_alloc | apply Kd.R_drewN | apply Kd.R_drew)); exact HO_4.out⟩, ⟨by (with_reducible repeat (first | apply Kd.R_alloc | apply Kd.R_drewN | apply Kd.R_drew)); exact Kd.R_mono HO_6.out (fun _ hk => ⟨hk.2, hk.1⟩)⟩, ⟨by (with_reducible repeat (first | apply Kd.R_alloc | apply Kd.R_drewN | apply Kd.R_drew)); exact HO389.out⟩, ⟨by (with_reducible repeat (first | apply Kd.R_alloc | apply Kd.R_drewN | apply Kd.R_drew)); exact HO_378001.out⟩, ⟨by (with_reducible repeat (first | refine blk_drewN ?_ _ | refine blk_drew ?_ | refine blk_alloc ?_ _)); exact BK377.out⟩, ⟨by repeat (first | (with_reducible first | exact HI367.out | apply IsS72.alloc | apply IsS72.drewN | apply IsS72.drew | apply IsS72.set_0 | apply IsS72.set_1 | refine IsS72.far ?_ NB367_377.out _) | exact HI367.out)⟩, ⟨by repeat (first | (with_reducible first | exact HB.out | apply below_alloc | apply pw_below_drewN | apply below_drew1 | refine below_set ?_ (IsS72.ge HI367.out) | refine below_set ?_ GE377.out) | exact HB.out)⟩⟩
     ·rw [if_neg c16] at H
      exact absurd H (by simp)
    ·rw [if_neg c14] at H
     have c14b0 : decide (x8_1 < (t379.length : Int)) = false := decide_eq_false c14
     clear c14
     replace H := Option.bind_eq_some_iff.mp H
     obtain ⟨t390, A200, H⟩ := H
     replace H : ((stemma_Sources.f k1 t368).bind fun bt393 => ((stemma_Sources.f k1 t390).bind fun bt397 => ((stemma_Letters.f k1 t368).bind fun bt401 => ((stemma_Letters.f k1 t390).bind fun bt405 => ((stemma_Fewest.f k1 t368).bind fun bt409 => ((stemma_Fewest.f k1 t390).bind fun bt411 => (if bt393.2 = 0 then (if bt397.2 = 0 then (if bt401.2 = 0 then (if bt405.2 = 0 then (if bt409.2 = 0 then (if bt411.2 = 0 then (if bt409.1 = bt411.1 then (if (bt401.1.length : Int) = (t379.length : Int) then (if (bt405.1.length : Int) = (t379.length : Int) then ((cippuskit_SameGrids.f k1 bt393.1 bt397.1).bind fun t413 => (cippuslaw07_StemmaTurned.j1 k1 t379 x7_1 bt401.1 bt405.1 (!t413))) else (cippuslaw07_StemmaTurned.j1 k1 t379 x7_1 bt401.1 bt405.1 true)) else (cippuslaw07_StemmaTurned.j1 k1 t379 x7_1 bt401.1 bt405.1 true)) else (cippuslaw07_StemmaTurned.j1 k1 t379 x7_1 bt401.1 bt405.1 true)) else (cippuslaw07_StemmaTurned.j1 k1 t379 x7_1 bt401.1 bt405.1 true)) else (cippuslaw07_StemmaTurned.j1 k1 t379 x7_1 bt401.1 bt405.1 true)) else (cippuslaw07_StemmaTurned.j1 k1 t379 x7_1 bt401.1 bt405.1 true)) else (cippuslaw07_StemmaTurned.j1 k1 t379 x7_1 bt401.1 bt405.1 true)) else (cippuslaw07_StemmaTurned.j1 k1 t379 x7_1 bt401.1 bt405.1 true)) else (cippuslaw07_StemmaTurned.j1 k1 t379 x7_1 bt401.1 bt405.1 true)))))))) = some r := H
     have A20 := Aside0.mk A200
     clear A200
     replace H := Option.bind_eq_some_iff.mp H
     obtain ⟨⟨t393, t396⟩, A210, H⟩ := H
     replace H : ((stemma_Sources.f k1 t390).bind fun bt397 => ((stemma_Letters.f k1 t368).bind fun bt401 => ((stemma_Letters.f k1 t390).bind fun bt405 => ((stemma_Fewest.f k1 t368).bind fun bt409 => ((stemma_Fewest.f k1 t390).bind fun bt411 => (if t396 = 0 then (if bt397.2 = 0 then (if bt401.2 = 0 then (if bt405.2 = 0 then (if bt409.2 = 0 then (if bt411.2 = 0 then (if bt409.1 = bt411.1 then (if (bt401.1.length : Int) = (t379.length : Int) then (if (bt405.1.length : Int) = (t379.length : Int) then ((cippuskit_SameGrids.f k1 t393 bt397.1).bind fun t413 => (cippuslaw07_StemmaTurned.j1 k1 t379 x7_1 bt401.1 bt405.1 (!t413))) else (cippuslaw07_StemmaTurned.j1 k1 t379 x7_1 bt401.1 bt405.1 true)) else (cippuslaw07_StemmaTurned.j1 k1 t379 x7_1 bt401.1 bt405.1 true)) else (cippuslaw07_StemmaTurned.j1 k1 t379 x7_1 bt401.1 bt405.1 true)) else (cippuslaw07_StemmaTurned.j1 k1 t379 x7_1 bt401.1 bt405.1 true)) else (cippuslaw07_StemmaTurned.j1 k1 t379 x7_1 bt401.1 bt405.1 true)) else (cippuslaw07_StemmaTurned.j1 k1 t379 x7_1 bt401.1 bt405.1 true)) else (cippuslaw07_StemmaTurned.j1 k1 t379 x7_1 bt401.1 bt405.1 true)) else (cippuslaw07_StemmaTurned.j1 k1 t379 x7_1 bt401.1 bt405.1 true)) else (cippuslaw07_StemmaTurned.j1 k1 t379 x7_1 bt401.1 bt405.1 true))))))) = some r := H
     have A21 := Aside0.mk A210
     clear A210
     replace H := Option.bind_eq_some_iff.mp H
     obtain ⟨⟨t397, t400⟩, A220, H⟩ := H
     replace H : ((stemma_Letters.f k1 t368).bind fun bt401 => ((stemma_Letters.f k1 t390).bind fun bt405 => ((stemma_Fewest.f k1 t368).bind fun bt409 => ((stemma_Fewest.f k1 t390).bind fun bt411 => (if t396 = 0 then (if t400 = 0 then (if bt401.2 = 0 then (if bt405.2 = 0 then (if bt409.2 = 0 then (if bt411.2 = 0 then (if bt409.1 = bt411.1 then (if (bt401.1.length : Int) = (t379.length : Int) then (if (bt405.1.length : Int) = (t379.length : Int) then ((cippuskit_SameGrids.f k1 t393 t397).bind fun t413 => (cippuslaw07_StemmaTurned.j1 k1 t379 x7_1 bt401.1 bt405.1 (!t413))) else (cippuslaw07_StemmaTurned.j1 k1 t379 x7_1 bt401.1 bt405.1 true)) else (cippuslaw07_StemmaTurned.j1 k1 t379 x7_1 bt401.1 bt405.1 true)) else (cippuslaw07_StemmaTurned.j1 k1 t379 x7_1 bt401.1 bt405.1 true)) else (cippuslaw07_StemmaTurned.j1 k1 t379 x7_1 bt401.1 bt405.1 true)) else (cippuslaw07_StemmaTurned.j1 k1 t379 x7_1 bt401.1 bt405.1 true)) else (cippuslaw07_StemmaTurned.j1 k1 t379 x7_1 bt401.1 bt405.1 true)) else (cippuslaw07_StemmaTurned.j1 k1 t379 x7_1 bt401.1 bt405.1 true)) else (cippuslaw07_StemmaTurned.j1 k1 t379 x7_1 bt401.1 bt405.1 true)) else (cippuslaw07_StemmaTurned.j1 k1 t379 x7_1 bt401.1 bt405.1 true)))))) = some r := H
     have A22 := Aside0.mk A220
     clear A220
     replace H := Option.bind_eq_some_iff.mp H
     obtain ⟨⟨t401, t402⟩, A230, H⟩ := H
     replace H : ((stemma_Letters.f k1 t390).bind fun bt405 => ((stemma_Fewest.f k1 t368).bind fun bt409 => ((stemma_Fewest.f k1 t390).bind fun bt411 => (if t396 = 0 then (if t400 = 0 then (if t402 = 0 then (if bt405.2 = 0 then (if bt409.2 = 0 then (if bt411.2 = 0 then (if bt409.1 = bt411.1 then (if (t401.length : Int) = (t379.length : Int) then (if (bt405.1.length : Int) = (t379.length : Int) then ((cippuskit_SameGrids.f k1 t393 t397).bind fun t413 => (cippuslaw07_StemmaTurned.j1 k1 t379 x7_1 t401 bt405.1 (!t413))) else (cippuslaw07_StemmaTurned.j1 k1 t379 x7_1 t401 bt405.1 true)) else (cippuslaw07_StemmaTurned.j1 k1 t379 x7_1 t401 bt405.1 true)) else (cippuslaw07_StemmaTurned.j1 k1 t379 x7_1 t401 bt405.1 true)) else (cippuslaw07_StemmaTurned.j1 k1 t379 x7_1 t401 bt405.1 true)) else (cippuslaw07_StemmaTurned.j1 k1 t379 x7_1 t401 bt405.1 true)) else (cippuslaw07_StemmaTurned.j1 k1 t379 x7_1 t401 bt405.1 true)) else (cippuslaw07_StemmaTurned.j1 k1 t379 x7_1 t401 bt405.1 true)) else (cippuslaw07_StemmaTurned.j1 k1 t379 x7_1 t401 bt405.1 true)) else (cippuslaw07_StemmaTurned.j1 k1 t379 x7_1 t401 bt405.1 true))))) = some r := H
     have A23 := Aside0.mk A230
     clear A230
     replace H := Option.bind_eq_some_iff.mp H
     obtain ⟨⟨t405, t406⟩, A240, H⟩ := H
     replace H : ((stemma_Fewest.f k1 t368).bind fun bt409 => ((stemma_Fewest.f k1 t390).bind fun bt411 => (if t396 = 0 then (if t400 = 0 then (if t402 = 0 then (if t406 = 0 then (if bt409.2 = 0 then (if bt411.2 = 0 then (if bt409.1 = bt411.1 then (if (t401.length : Int) = (t379.length : Int) then (if (t405.length : Int) = (t379.length : Int) then ((cippuskit_SameGrids.f k1 t393 t397).bind fun t413 => (cippuslaw07_StemmaTurned.j1 k1 t379 x7_1 t401 t405 (!t413))) else (cippuslaw07_StemmaTurned.j1 k1 t379 x7_1 t401 t405 true)) else (cippuslaw07_StemmaTurned.j1 k1 t379 x7_1 t401 t405 true)) else (cippuslaw07_StemmaTurned.j1 k1 t379 x7_1 t401 t405 true)) else (cippuslaw07_StemmaTurned.j1 k1 t379 x7_1 t401 t405 true)) else (cippuslaw07_StemmaTurned.j1 k1 t379 x7_1 t401 t405 true)) else (cippuslaw07_StemmaTurned.j1 k1 t379 x7_1 t401 t405 true)) else (cippuslaw07_StemmaTurned.j1 k1 t379 x7_1 t401 t405 true)) else (cippuslaw07_StemmaTurned.j1 k1 t379 x7_1 t401 t405 true)) else (cippuslaw07_StemmaTurned.j1 k1 t379 x7_1 t401 t405 true)))) = some r := H
     have A24 := Aside0.mk A240
     clear A240
     replace H := Option.bind_eq_some_iff.mp H
     obtain ⟨⟨t409, t410⟩, A250, H⟩ := H
     replace H : ((stemma_Fewest.f k1 t390).bind fun bt411 => (if t396 = 0 then (if t400 = 0 then (if t402 = 0 then (if t406 = 0 then (if t410 = 0 then (if bt411.2 = 0 then (if t409 = bt411.1 then (if (t401.length : Int) = (t379.length : Int) then (if (t405.length : Int) = (t379.length : Int) then ((cippuskit_SameGrids.f k1 t393 t397).bind fun t413 => (cippuslaw07_StemmaTurned.j1 k1 t379 x7_1 t401 t405 (!t413))) else (cippuslaw07_StemmaTurned.j1 k1 t379 x7_1 t401 t405 true)) else (cippuslaw07_StemmaTurned.j1 k1 t379 x7_1 t401 t405 true)) else (cippuslaw07_StemmaTurned.j1 k1 t379 x7_1 t401 t405 true)) else (cippuslaw07_StemmaTurned.j1 k1 t379 x7_1 t401 t405 true)) else (cippuslaw07_StemmaTurned.j1 k1 t379 x7_1 t401 t405 true)) else (cippuslaw07_StemmaTurned.j1 k1 t379 x7_1 t401 t405 true)) else (cippuslaw07_StemmaTurned.j1 k1 t379 x7_1 t401 t405 true)) else (cippuslaw07_StemmaTurned.j1 k1 t379 x7_1 t401 t405 true)) else (cippuslaw07_StemmaTurned.j1 k1 t379 x7_1 t401 t405 true))) = some r := H
     have A25 := Aside0.mk A250
     clear A250
     replace H := Option.bind_eq_some_iff.mp H
     obtain ⟨⟨t411, t412⟩, A260, H⟩ := H
     replace H : (if t396 = 0 then (if t400 = 0 then (if t402 = 0 then (if t406 = 0 then (if t410 = 0 then (if t412 = 0 then (if t409 = t411 then (if (t401.length : Int) = (t379.length : Int) then (if (t405.length : Int) = (t379.length : Int) then ((cippuskit_SameGrids.f k1 t393 t397).bind fun t413 => (cippuslaw07_StemmaTurned.j1 k1 t379 x7_1 t401 t405 (!t413))) else (cippuslaw07_StemmaTurned.j1 k1 t379 x7_1 t401 t405 true)) else (cippuslaw07_StemmaTurned.j1 k1 t379 x7_1 t401 t405 true)) else (cippuslaw07_StemmaTurned.j1 k1 t379 x7_1 t401 t405 true)) else (cippuslaw07_StemmaTurned.j1 k1 t379 x7_1 t401 t405 true)) else (cippuslaw07_StemmaTurned.j1 k1 t379 x7_1 t401 t405 true)) else (cippuslaw07_StemmaTurned.j1 k1 t379 x7_1 t401 t405 true)) else (cippuslaw07_StemmaTurned.j1 k1 t379 x7_1 t401 t405 true)) else (cippuslaw07_StemmaTurned.j1 k1 t379 x7_1 t401 t405 true)) else (cippuslaw07_StemmaTurned.j1 k1 t379 x7_1 t401 t405 true)) = some r := H
     have A26 := Aside0.mk A260
     clear A260
     have HC27 := Aside0.mk H
     clear H
     obtain ⟨Ao28, co28, eo28⟩ := Kd.R_slice HO_6.out
     subst eo28
     obtain ⟨Ao29, co29, eo29⟩ := Kd.R_slice HO_7.out
     subst eo29
     obtain ⟨kt, hkt⟩ := turned_run A20.out
     have HKT := Aside0.mk hkt
     clear hkt
     obtain ⟨wq, hwq⟩ : ∃ wq, wq = wr := ⟨_, rfl⟩
     subst hwq
     go_upto_block 2 with (first | (go_at_call 15; refine (cippuskit_CopyCopies.calls (some ad378) co12 t368 t368 _ ?c1 ?c2 ?c3).mono ?_; (case c1 => exact (Kd.R_reads' HO_4.out).2.2); (case c2 => exact (Kd.R_reads' HO_4.out).2.1); (case c3 => exact copyCopies_eq t368 (by have := (turnV_some A20.out).1.five; omega)); rintro e w29 ⟨v356, rfl, hR, hB9⟩; have HO357 := Aside0.mk hR; have HB9 := Aside0.mk hB9; clear hR hB9))
     go_cut [9] from 54 to 100 (fun v9 wc => Aside0 (Kd.R k24 24 wc wq.heap.size (fun _ => True) v9 t390 ∧ Below wq.heap.size wq wc))
     case first => as_aux_lemma =>
      clear HR0 HC0
      have HR0 := Aside0.mk (Kd.R_reads' HO_4.out).2.2
      have HC0 := Aside0.mk (Kd.R_reads' HO_4.out).2.1
      have HR1 := Aside0.mk (Kd.R_reads' HO_6.out).2.2
      have HC1 := Aside0.mk (Kd.R_reads' HO_6.out).2.1
      have HR2 := Aside0.mk (Kd.R_reads' HO_7.out).2.2
      have HC2 := Aside0.mk (Kd.R_reads' HO_7.out).2.1
      have H' := HKT
      clear HB HKT
      have HB := HB9
      clear HB9 HO_4 HO_6 HO_7 HO_378001 BK377 HI367 A20 A21 A22 A23 A24 A25 A26 HC27
      go_wp2_with fail
      go_loopg [10] kt (fun kq v10 w' => ∃ (x9_1 : List (S24)) (x10_1 : Int), v10 = .int .i64 x10_1 ∧ Aside0 (cippuslaw07_turned.l0 kq t368 t379 x7_1 x9_1 x10_1 = some t390) ∧ Aside0 (kq ≤ kt) ∧ Aside0 (Kd.R k24 24 w' wq.heap.size (fun _ => True) v356 x9_1) ∧ Aside0 (Below wq.heap.size wq w'))
      case atStart => exact ⟨(t368), (0), (by first | rfl | (simp; done) | (simp [*]; done)), H', ⟨Nat.le_refl _⟩, ⟨by (with_reducible repeat (first | apply Kd.R_alloc | apply Kd.R_drewN | apply Kd.R_drew)); exact HO357.out⟩, ⟨by repeat (first | (with_reducible first | exact HB.out | apply below_alloc | apply pw_below_drewN | apply below_drew1) | exact HB.out)⟩⟩
      case round => as_aux_lemma =>
       clear H'
       try clear c1
       try clear c2
       try clear p2
       obtain ⟨x9_1, x10_1, rfl, HA, HK1, HO_9, HB⟩ := hrel
       cases gk with
       | zero => exact absurd HA.out (by simp [cippuslaw07_turned.l0])
       | succ k1 =>
        have H := HA.out
        clear HA
        simp only [cippuslaw07_turned.l0] at H
        by_cases c6 : x10_1 < (x9_1.length : Int)
        ·rw [if_pos c6] at H
         have c6b0 : decide (x10_1 < (x9_1.length : Int)) = true := decide_eq_true c6
         clear c6
         by_cases c7 : 0 ≤ x10_1
         ·rw [if_pos c7] at H
          have c7b0 : decide (0 ≤ x10_1) = true := decide_eq_true c7
          clear c7
          obtain ⟨y358, hy358⟩ : ∃ y_ : List (S24), y_ = (x9_1.set (x10_1 : Int).toNat (⟨(⟨#[]⟩ : ByteArray), (rd_T24 x9_1 x10_1).f1, (rd_T24 x9_1 x10_1).f2⟩ : S24)) := ⟨_, rfl⟩
          replace H : (cippuslaw07_turned.l1 k1 t368 t379 x7_1 y358 x10_1 0) = some t390 := by first | (rw [hy358]; with_reducible exact H) | (have H2_ := (Option.bind_some _ _).symm.trans H; rw [hy358]; with_reducible exact H2_) | (have H2_ := (Option.bind_some _ _).symm.trans H; with_reducible exact H2_) | with_reducible exact H | (rw [hy358]; exact H) | exact H
          have Ny358 := Aside0.mk hy358
          clear hy358
          have H' := Aside0.mk H
          clear H
          obtain ⟨Ao9, co9, eo9⟩ := Kd.R_slice HO_9.out
          subst eo9
          have p8 : 0 ≤ (x10_1 : Int) := of_decide_eq_true (by first | (with_reducible assumption) | assumption)
          have q8 : (x10_1 : Int) < ((x9_1.length : Int) : Int) := of_decide_eq_true (by first | (with_reducible assumption) | assumption)
          obtain ⟨go8, co8, eo8, gb8, gl8, cl8, HG8⟩ := Kd.R_form HO_9.out (by omega)
          (first | cases eo8 | (injection eo8 with ea_ en_ ec_; (first | subst ea_ | (injection ea_ with ea_; subst ea_)); subst ec_; clear en_))
          have GB8 := Aside0.mk gb8
          have GG8 := Aside0.mk HG8
          clear gb8 gl8 HG8
          obtain ⟨ce8, hcl8, hM8, hcc8, hfr8⟩ := Kd.R_elem HO_9.out z24 (x10_1 : Int) p8 q8
          obtain rfl := k24_openM hM8
          have hx8_0 : wr.cell? ⟨go8, (x10_1 : Int).toNat * 3, none⟩ = some (.string ((rd_T24 x9_1 x10_1).f0)) := hcc8 0 _ rfl
          have hx8_1 : wr.cell? ⟨go8, (x10_1 : Int).toNat * 3 + 1, none⟩ = some (.int .i64 ((rd_T24 x9_1 x10_1).f1)) := hcc8 1 _ rfl
          have hx8_2 : wr.cell? ⟨go8, (x10_1 : Int).toNat * 3 + 2, none⟩ = some (.bool ((rd_T24 x9_1 x10_1).f2)) := hcc8 2 _ rfl
          have hf8_0 : wr.frozen? ⟨go8, (x10_1 : Int).toNat * 3, none⟩ = false := hfr8 0
          have hf8_1 : wr.frozen? ⟨go8, (x10_1 : Int).toNat * 3 + 1, none⟩ = false := hfr8 1
          have hf8_2 : wr.frozen? ⟨go8, (x10_1 : Int).toNat * 3 + 2, none⟩ = false := hfr8 2
          clear hcl8 hcc8 hfr8 hM8
          replace p8 := eq_true p8
          replace q8 := eq_true q8
          have HX10 := Aside0.mk (show Kd.R k24 24 wr wq.heap.size (fun _ => True) (.slice (some ⟨go8, 0, none⟩) x9_1.length co9) x9_1 from (by (with_reducible repeat (first | apply Kd.R_alloc | apply Kd.R_drewN | apply Kd.R_drew)); exact HO_9.out))
          obtain ⟨ce10, hcl10, hM10, hcc10, hfr10⟩ := Kd.R_elem HX10.out z24 (x10_1 : Int) (of_decide_eq_true (by first | (with_reducible assumption) | assumption)) (by have h_ : (x10_1 : Int) < ((x9_1.length : Int) : Int) := of_decide_eq_true (by first | (with_reducible assumption) | assumption); first | exact h_ | (have e_ := (Kd.R_reads' HO_9.out).1; omega) | simpa using h_)
          obtain rfl := k24_openM hM10
          have HP10 := Kd.R_seg HX10.out (x10_1 : Int) (of_decide_eq_true (by first | (with_reducible assumption) | assumption)) (by have h_ : (x10_1 : Int) < ((x9_1.length : Int) : Int) := of_decide_eq_true (by first | (with_reducible assumption) | assumption); first | exact h_ | (have e_ := (Kd.R_reads' HO_9.out).1; omega) | simpa using h_) (seg := [.string (⟨#[]⟩ : ByteArray)]) (j := 0) hcl10 hcc10 (show 1 ≤ 3 from by decide) (x' := (⟨(⟨#[]⟩ : ByteArray), (rd_T24 x9_1 x10_1).f1, (rd_T24 x9_1 x10_1).f2⟩ : S24)) (k24_mkM _ _ _ (⟨(⟨#[]⟩ : ByteArray), (rd_T24 x9_1 x10_1).f1, (rd_T24 x9_1 x10_1).f2⟩ : S24) ) (fun _ hk => hk)
          have hx10_0 := hcc10 0 _ rfl
          (try simp only [show (k24).sz = 3 from rfl, Nat.mul_one, Nat.add_zero] at hx10_0)
          have hf10_0 := hfr10 0
          (try simp only [show (k24).sz = 3 from rfl, Nat.mul_one, Nat.add_zero] at hf10_0)
          clear hcl10 hcc10 hfr10 hM10
          go_wp2_with (first | ((with_reducible refine gate_store (t := 9) (p := 63) rfl ?_); refine store_event (t := 9) (p := 63) (v := ?vo_w11) (w1 := (wr.setCell ⟨go8, (x10_1 : Int).toNat * 3, none⟩ (.string (⟨#[]⟩ : ByteArray)))) ?hg ?ho ?hn ?hr ?_; (case ho => rfl); (case hg => rfl); (case hn => rfl); (case hr => first | (go_simp; done) | (go_simp; rfl)); intro w11 hw; have hg : wr.grownBy w11 (some go8) := (by rw [hw]; exact HP10.2); have hp_ : Kd.R k24 24 w11 wq.heap.size (fun _ => True) (.slice (some ⟨go8, 0, none⟩) x9_1.length co9) y358 := (by rw [hw, Ny358.out]; exact HP10.1); clear HP10; have n0_ := Aside0.mk (hp_); have n1_ := Aside0.mk ((by rw [hw]; exact below_set (HB.out) GB8.out : Below wq.heap.size wq w11)); clear HO_9; clear HB; have HO_9 := n0_; have HB := n1_; clear n0_ n1_; clear hg hw hp_))
          go_loopg [11] k1 (fun kq v11 w' => ∃ (x9_2 : List (S24)) (x11_2 : Int), v11 = .int .i64 x11_2 ∧ Aside0 (cippuslaw07_turned.l1 kq t368 t379 x7_1 x9_2 x10_1 x11_2 = some t390) ∧ Aside0 (kq ≤ k1) ∧ Aside0 (Kd.R k24 24 w' wq.heap.size (fun _ => True) (.slice (some ⟨go8, 0, none⟩) x9_1.length co9) x9_2) ∧ Aside0 (Below wq.heap.size wq w'))
          case atStart => exact ⟨(y358), (0), (by first | rfl | (simp; done) | (simp [*]; done)), H', ⟨Nat.le_refl _⟩, ⟨by (with_reducible repeat (first | apply Kd.R_alloc | apply Kd.R_drewN | apply Kd.R_drew)); exact HO_9.out⟩, ⟨by repeat (first | (with_reducible first | exact HB.out | apply below_alloc | apply pw_below_drewN | apply below_drew1) | exact HB.out)⟩⟩
          case round => as_aux_lemma =>
           clear H'
           try clear c1
           try clear hx1
           try clear c2
           try clear p2
           try clear c6
           try clear c6b0
           try clear c7
           try clear c7b0
           try clear c8
           try clear p8
           try clear q8
           try clear hx8
           try clear hf8
           try clear c9
           try clear c10
           try clear hx10
           try clear hf10
           try clear hx10_0
           try clear hx8_0
           try clear hx8_1
           try clear hx8_2
           try clear p2
           try clear p8
           try clear q8
           obtain ⟨x9_2, x11_2, rfl, HA, HK2, HO_9, HB⟩ := hrel
           have hl9_2 := (Kd.R_reads' HO_9.out).1
           rw [hl9_2] at HO_9
           (try simp only [hl9_2])
           cases gk with
           | zero => exact absurd HA.out (by simp [cippuslaw07_turned.l1])
           | succ k2 =>
            have H := HA.out
            clear HA
            simp only [cippuslaw07_turned.l1] at H
            by_cases c12 : x11_2 < (t379.length : Int)
            ·rw [if_pos c12] at H
             have c12b0 : decide (x11_2 < (t379.length : Int)) = true := decide_eq_true c12
             clear c12
             by_cases c13 : 0 ≤ x10_1
             ·rw [if_pos c13] at H
              have c13b0 : decide (0 ≤ x10_1) = true := decide_eq_true c13
              clear c13
              by_cases c14 : x10_1 < (x9_2.length : Int)
              ·rw [if_pos c14] at H
               have c14b0 : decide (x10_1 < (x9_2.length : Int)) = true := decide_eq_true c14
               clear c14
               by_cases c15 : x10_1 < (t368.length : Int)
               ·rw [if_pos c15] at H
                have c15b0 : decide (x10_1 < (t368.length : Int)) = true := decide_eq_true c15
                clear c15
                by_cases c16 : 0 ≤ x11_2
                ·rw [if_pos c16] at H
                 have c16b0 : decide (0 ≤ x11_2) = true := decide_eq_true c16
                 clear c16
                 by_cases c17 : 0 ≤ (rd t379 x11_2)
                 ·rw [if_pos c17] at H
                  have c17b0 : decide (0 ≤ (rd t379 x11_2)) = true := decide_eq_true c17
                  clear c17
                  by_cases c18 : (rd t379 x11_2) < (((rd_T24 t368 x10_1).f0).size : Int)
                  ·rw [if_pos c18] at H
                   have c18b0 : decide ((rd t379 x11_2) < (((rd_T24 t368 x10_1).f0).size : Int)) = true := decide_eq_true c18
                   clear c18
                   by_cases c20 : x11_2 < (x7_1.length : Int)
                   ·rw [if_pos c20] at H
                    have c20b0 : decide (x11_2 < (x7_1.length : Int)) = true := decide_eq_true c20
                    clear c20
                    obtain ⟨y363, hy363⟩ : ∃ y_ : List Int, y_ = (([65 + (bt ((rd_T24 t368 x10_1).f0) (rd t379 x11_2) - 65 + rd x7_1 x11_2) % 256 % 26] : List Int)) := ⟨_, rfl⟩
                    replace H : (if ((rd_T24 x9_2 x10_1).f0).size + (strOfNums y363).size ≤ 9223372036854775807 then (cippuslaw07_turned.l1 k2 t368 t379 x7_1 (x9_2.set (x10_1 : Int).toNat (⟨((rd_T24 x9_2 x10_1).f0) ++ (strOfNums y363), (rd_T24 x9_2 x10_1).f1, (rd_T24 x9_2 x10_1).f2⟩ : S24)) x10_1 (wrap64 (x11_2 + 1))) else (none)) = some t390 := by first | (rw [hy363]; with_reducible exact H) | (have H2_ := (Option.bind_some _ _).symm.trans H; rw [hy363]; with_reducible exact H2_) | (have H2_ := (Option.bind_some _ _).symm.trans H; with_reducible exact H2_) | with_reducible exact H | (rw [hy363]; exact H) | exact H
                    have Ny363 := Aside0.mk hy363
                    clear hy363
                    by_cases c21 : ((rd_T24 x9_2 x10_1).f0).size + (strOfNums y363).size ≤ 9223372036854775807
                    ·rw [if_pos c21] at H
                     have c21b0 := eq_true c21
                     have c21b1 : decide (((rd_T24 x9_2 x10_1).f0).size + (strOfNums y363).size ≤ 9223372036854775807) = true := decide_eq_true c21
                     try have c21b2 : (9223372036854775807 < ((rd_T24 x9_2 x10_1).f0).size + (strOfNums y363).size) = False := eq_false (Nat.not_lt.2 c21)
                     obtain ⟨y366, hy366⟩ : ∃ y_ : List (S24), y_ = (x9_2.set (x10_1 : Int).toNat (⟨((rd_T24 x9_2 x10_1).f0) ++ (strOfNums y363), (rd_T24 x9_2 x10_1).f1, (rd_T24 x9_2 x10_1).f2⟩ : S24)) := ⟨_, rfl⟩
                     replace H : (cippuslaw07_turned.l1 k2 t368 t379 x7_1 y366 x10_1 (wrap64 (x11_2 + 1))) = some t390 := by first | (rw [hy366]; with_reducible exact H) | (have H2_ := (Option.bind_some _ _).symm.trans H; rw [hy366]; with_reducible exact H2_) | (have H2_ := (Option.bind_some _ _).symm.trans H; with_reducible exact H2_) | with_reducible exact H | (rw [hy366]; exact H) | exact H
                     have Ny366 := Aside0.mk hy366
                     clear hy366
                     have H' := Aside0.mk H
                     clear H
                     try go_wp2
                     have n0_ := Aside0.mk (Kd.R_drew HO_9.out)
                     have n1_ := Aside0.mk (below_drew1 HB.out)
                     clear HO_9
                     clear HB
                     have HO_9 := n0_
                     have HB := n1_
                     clear n0_ n1_
                     have p359 : 0 ≤ (x10_1 : Int) := of_decide_eq_true (by first | (with_reducible assumption) | assumption)
                     have q359 : x10_1 < (x9_2.length : Int) := of_decide_eq_true (by first | (with_reducible assumption) | assumption)
                     obtain ⟨ad359, e359, hx359_0, hx359_1, hx359_2⟩ := at_T24 (Kd.R_reads' HO_9.out).2.2 x10_1 p359 q359
                     obtain rfl : (⟨go8, 0, none⟩ : Addr) = ad359 := (by injection e359)
                     (first | simp only [add_plain] at hx359_0 | simp only [add_at] at hx359_0 | simp only [Addr.add, Nat.zero_add] at hx359_0 | skip)
                     (first | simp only [add_plain] at hx359_1 | simp only [add_at] at hx359_1 | simp only [Addr.add, Nat.zero_add] at hx359_1 | skip)
                     (first | simp only [add_plain] at hx359_2 | simp only [add_at] at hx359_2 | simp only [Addr.add, Nat.zero_add] at hx359_2 | skip)
                     replace p359 := eq_true p359
                     replace q359 := eq_true q359
                     have p360 : 0 ≤ (x10_1 : Int) := of_decide_eq_true (by first | (with_reducible assumption) | assumption)
                     have q360 : x10_1 < (t368.length : Int) := of_decide_eq_true (by first | (with_reducible assumption) | assumption)
                     obtain ⟨ad360, e360, hx360_0, hx360_1, hx360_2⟩ := at_T24 HR0.out x10_1 p360 q360
                     have hw360_2 := hx360_2
                     have hw360_1 := hx360_1
                     have hw360_0 := hx360_0
                     have e360_ : ad360 = ad378 := by (injection e360 with e_; exact e_.symm)
                     subst e360_
                     try replace hx360_0 := (HB.out.cell (World.block_lt_of_cell? wq _ hx360_0)).trans hx360_0
                     try replace hx360_1 := (HB.out.cell (World.block_lt_of_cell? wq _ hx360_1)).trans hx360_1
                     try replace hx360_2 := (HB.out.cell (World.block_lt_of_cell? wq _ hx360_2)).trans hx360_2
                     replace p360 := eq_true p360
                     replace q360 := eq_true q360
                     have p361 : 0 ≤ (x11_2 : Int) := of_decide_eq_true (by first | (with_reducible assumption) | assumption)
                     have q361 : x11_2 < (t379.length : Int) := of_decide_eq_true (by first | (with_reducible assumption) | assumption)
                     obtain ⟨ad361, e361, hx361_0⟩ := Kd.at_int HR1.out x11_2 p361 q361
                     have hw361_0 := hx361_0
                     cases e361
                     try replace hx361_0 := (HB.out.cell (World.block_lt_of_cell? wq _ hx361_0)).trans hx361_0
                     replace p361 := eq_true p361
                     replace q361 := eq_true q361
                     have p19 : 0 ≤ ((rd t379 x11_2) : Int) := of_decide_eq_true (by first | (with_reducible assumption) | assumption)
                     have q19 : (rd t379 x11_2) < (((rd_T24 t368 x10_1).f0).size : Int) := of_decide_eq_true (by first | (with_reducible assumption) | assumption)
                     have hx19 := bt_at ((rd_T24 t368 x10_1).f0) (rd t379 x11_2)
                     replace p19 := eq_true p19
                     replace q19 := eq_true q19
                     have p362 : 0 ≤ (x11_2 : Int) := of_decide_eq_true (by first | (with_reducible assumption) | assumption)
                     have q362 : x11_2 < (x7_1.length : Int) := of_decide_eq_true (by first | (with_reducible assumption) | assumption)
                     obtain ⟨ad362, e362, hx362_0⟩ := Kd.at_int HR2.out x11_2 p362 q362
                     have hw362_0 := hx362_0
                     cases e362
                     try replace hx362_0 := (HB.out.cell (World.block_lt_of_cell? wq _ hx362_0)).trans hx362_0
                     replace p362 := eq_true p362
                     replace q362 := eq_true q362
                     refine start_ (n := 32) (S := fun w' => w'.cell? ⟨go8, (x10_1).toNat * 3, none⟩ = some (.string ((rd_T24 x9_2 x10_1).f0)) ∧ w'.cell? ⟨go8, (x10_1).toNat * 3 + 1, none⟩ = some (.int .i64 ((rd_T24 x9_2 x10_1).f1)) ∧ w'.cell? ⟨go8, (x10_1).toNat * 3 + 2, none⟩ = some (.bool ((rd_T24 x9_2 x10_1).f2)) ∧ w'.cell? (ad360.add ((x10_1).toNat * 3)) = some (.string ((rd_T24 t368 x10_1).f0)) ∧ w'.cell? ⟨(ad360.add ((x10_1).toNat * 3)).block, (ad360.add ((x10_1).toNat * 3)).off + 1, none⟩ = some (.int .i64 ((rd_T24 t368 x10_1).f1)) ∧ w'.cell? ⟨(ad360.add ((x10_1).toNat * 3)).block, (ad360.add ((x10_1).toNat * 3)).off + 2, none⟩ = some (.bool ((rd_T24 t368 x10_1).f2)) ∧ w'.cell? (ad361.add (x11_2).toNat) = some (.int .i64 (rd t379 x11_2)) ∧ w'.cell? (ad362.add (x11_2).toNat) = some (.int .i64 (rd x7_1 x11_2))) (ds := [31]) #[ff,ff,ff,ff,ff,ff,ff,ff,ff,ff,ff,ff,ff,ff,ff,ff,ff,ff,ff,ff,ff,ff,ff,ff,ff,ff,ff,ff,ff,ff,ff,ff] (by kernel_rfl) rfl rfl ⟨hx359_0, hx359_1, hx359_2, ((HB.out.cell (World.block_lt_of_cell? wq _ hw360_0)).trans hw360_0), ((HB.out.cell (World.block_lt_of_cell? wq _ hw360_1)).trans hw360_1), ((HB.out.cell (World.block_lt_of_cell? wq _ hw360_2)).trans hw360_2), ((HB.out.cell (World.block_lt_of_cell? wq _ hw361_0)).trans hw361_0), ((HB.out.cell (World.block_lt_of_cell? wq _ hw362_0)).trans hw362_0)⟩ (fun hHeld => ?_); refine with_tabW cippuslaw07_turned.tab17 cippuslaw07_turned.bits17 (fun HT_ HW_ => ?_)
                     generalize wr.drew = w23 at HO_9 HB hx359_0 hx359_1 hx359_2 hx360_0 hx360_1 hx360_2 hx361_0 hx362_0 hHeld ⊢
                     refine pure_ (i := 0) (N := some 70) (v := ?_) (a' := ?_) #[tt,ff,ff,ff,ff,ff,ff,ff,ff,ff,ff,ff,ff,ff,ff,ff,ff,ff,ff,ff,ff,ff,ff,ff,ff,ff,ff,ff,ff,ff,ff,ff] rfl rfl (any_of HT_.out (by kernel_rfl)) (fun _ _ _ h => h) (Or.inl ⟨by rfl, ?_⟩) ?_ ?_
                     rotate_left
                     (intro w'; go_simp; with_reducible rfl); rotate_left
                     ·simp only [Act.put, sA, sB, sC, i64_w, i32_w]
                      rfl
                     refine pure_ (i := 1) (N := some 71) (v := ?_) (a' := ?_) #[tt,tt,ff,ff,ff,ff,ff,ff,ff,ff,ff,ff,ff,ff,ff,ff,ff,ff,ff,ff,ff,ff,ff,ff,ff,ff,ff,ff,ff,ff,ff,ff] rfl rfl (any_of HT_.out (by kernel_rfl)) (fun _ _ _ h => h) (Or.inl ⟨by rfl, ?_⟩) ?_ ?_
                     rotate_left
                     (intro w'; go_simp; with_reducible rfl); rotate_left
                     ·simp only [Act.put, sA, sB, sC, i64_w, i32_w]
                      rfl
                     refine pure_ (i := 2) (N := some 72) (v := ?_) (a' := ?_) #[tt,tt,tt,ff,ff,ff,ff,ff,ff,ff,ff,ff,ff,ff,ff,ff,ff,ff,ff,ff,ff,ff,ff,ff,ff,ff,ff,ff,ff,ff,ff,ff] rfl rfl (any_of HT_.out (by kernel_rfl)) (fun _ _ _ h => h) (Or.inl ⟨by rfl, ?_⟩) ?_ ?_
                     rotate_left
                     (intro w'; go_simp; with_reducible rfl); rotate_left
                     ·simp only [Act.put, sA, sB, sC, i64_w, i32_w]
                      rfl
                     refine pure_ (i := 3) (N := some 73) (v := ?_) (a' := ?_) #[tt,tt,tt,tt,ff,ff,ff,ff,ff,ff,ff,ff,ff,ff,ff,ff,ff,ff,ff,ff,ff,ff,ff,ff,ff,ff,ff,ff,ff,ff,ff,ff] rfl rfl (any_of HT_.out (by kernel_rfl)) (fun _ _ _ h => h) (Or.inl ⟨by rfl, ?_⟩) ?_ ?_
                     rotate_left
                     (intro w'; go_simp; with_reducible rfl); rotate_left
                     ·simp only [Act.put, sA, sB, sC, i64_w, i32_w]
                      rfl
                     refine pure_ (i := 4) (N := some 74) (v := ?_) (a' := ?_) #[tt,tt,tt,tt,tt,ff,ff,ff,ff,ff,ff,ff,ff,ff,ff,ff,ff,ff,ff,ff,ff,ff,ff,ff,ff,ff,ff,ff,ff,ff,ff,ff] rfl rfl (any_of HT_.out (by kernel_rfl)) (fun _ _ _ h => h) (Or.inl ⟨by rfl, ?_⟩) ?_ ?_
                     rotate_left
                     (intro w'; go_simp; with_reducible rfl); rotate_left
                     ·simp only [Act.put, sA, sB, sC, i64_w, i32_w]
                      rfl
                     refine pure_ (i := 5) (N := some 75) (v := ?_) (a' := ?_) #[tt,tt,tt,tt,tt,tt,ff,ff,ff,ff,ff,ff,ff,ff,ff,ff,ff,ff,ff,ff,ff,ff,ff,ff,ff,ff,ff,ff,ff,ff,ff,ff] rfl rfl (any_of HT_.out (by kernel_rfl)) (fun _ _ _ h => h) (Or.inl ⟨by rfl, ?_⟩) ?_ ?_
                     rotate_left
                     (intro w'; go_simp; with_reducible rfl); rotate_left
                     ·simp only [Act.put, sA, sB, sC, i64_w, i32_w]
                      rfl
                     refine pure_ (i := 7) (N := some 77) (v := ?_) (a' := ?_) #[tt,tt,tt,tt,tt,tt,ff,tt,ff,ff,ff,ff,ff,ff,ff,ff,ff,ff,ff,ff,ff,ff,ff,ff,ff,ff,ff,ff,ff,ff,ff,ff] rfl rfl (any_of HT_.out (by kernel_rfl)) (fun _ _ _ h => h) (Or.inl ⟨by rfl, ?_⟩) ?_ ?_
                     rotate_left
                     (intro w'; go_simp; with_reducible rfl); rotate_left
                     ·simp only [Act.put, sA, sB, sC, i64_w, i32_w]
                      rfl
                     refine pure_ (i := 8) (N := some 78) (v := ?_) (a' := ?_) #[tt,tt,tt,tt,tt,tt,ff,tt,tt,ff,ff,ff,ff,ff,ff,ff,ff,ff,ff,ff,ff,ff,ff,ff,ff,ff,ff,ff,ff,ff,ff,ff] rfl rfl (any_of HT_.out (by kernel_rfl)) (fun _ _ _ h => h) (Or.inl ⟨by rfl, ?_⟩) ?_ ?_
                     rotate_left
                     (intro w'; go_simp; with_reducible rfl); rotate_left
                     ·simp only [Act.put, sA, sB, sC, i64_w, i32_w]
                      rfl
                     refine pure_ (i := 9) (N := some 79) (v := ?_) (a' := ?_) #[tt,tt,tt,tt,tt,tt,ff,tt,tt,tt,ff,ff,ff,ff,ff,ff,ff,ff,ff,ff,ff,ff,ff,ff,ff,ff,ff,ff,ff,ff,ff,ff] rfl rfl (any_of HT_.out (by kernel_rfl)) (fun _ _ _ h => h) (Or.inl ⟨by rfl, ?_⟩) ?_ ?_
                     rotate_left
                     (intro w'; go_simp; with_reducible rfl); rotate_left
                     ·simp only [Act.put, sA, sB, sC, i64_w, i32_w]
                      rfl
                     refine pure_ (i := 10) (N := some 80) (v := ?_) (a' := ?_) #[tt,tt,tt,tt,tt,tt,ff,tt,tt,tt,tt,ff,ff,ff,ff,ff,ff,ff,ff,ff,ff,ff,ff,ff,ff,ff,ff,ff,ff,ff,ff,ff] rfl rfl (any_of HT_.out (by kernel_rfl)) (fun _ _ _ h => h) (Or.inl ⟨by rfl, ?_⟩) ?_ ?_
                     rotate_left
                     (intro w'; go_simp; with_reducible rfl); rotate_left
                     ·simp only [Act.put, sA, sB, sC, i64_w, i32_w]
                      rfl
                     refine pure_ (i := 12) (N := some 82) (v := ?_) (a' := ?_) #[tt,tt,tt,tt,tt,tt,ff,tt,tt,tt,tt,ff,tt,ff,ff,ff,ff,ff,ff,ff,ff,ff,ff,ff,ff,ff,ff,ff,ff,ff,ff,ff] rfl rfl (any_of HT_.out (by kernel_rfl)) (fun _ _ _ h => h) (Or.inl ⟨by rfl, ?_⟩) ?_ ?_
                     rotate_left
                     (intro w'; go_simp; with_reducible rfl); rotate_left
                     ·simp only [Act.put, sA, sB, sC, i64_w, i32_w]
                      rfl
                     refine pure_ (i := 13) (N := some 83) (v := ?_) (a' := ?_) #[tt,tt,tt,tt,tt,tt,ff,tt,tt,tt,tt,ff,tt,tt,ff,ff,ff,ff,ff,ff,ff,ff,ff,ff,ff,ff,ff,ff,ff,ff,ff,ff] rfl rfl (any_of HT_.out (by kernel_rfl)) (fun _ _ _ h => h) (Or.inl ⟨by rfl, ?_⟩) ?_ ?_
                     rotate_left
                     (intro w'; go_simp; with_reducible rfl); rotate_left
                     ·simp only [Act.put, sA, sB, sC, i64_w, i32_w]
                      rfl
                     refine pure_ (i := 14) (N := some 84) (v := ?_) (a' := ?_) #[tt,tt,tt,tt,tt,tt,ff,tt,tt,tt,tt,ff,tt,tt,tt,ff,ff,ff,ff,ff,ff,ff,ff,ff,ff,ff,ff,ff,ff,ff,ff,ff] rfl rfl (any_of HT_.out (by kernel_rfl)) (fun _ _ _ h => h) (Or.inl ⟨by rfl, ?_⟩) ?_ ?_
                     rotate_left
                     (intro w'; go_simp; with_reducible rfl); rotate_left
                     ·simp only [Act.put, sA, sB, sC, i64_w, i32_w]
                      rfl
                     refine pure_ (i := 18) (N := some 88) (v := ?_) (a' := ?_) #[tt,tt,tt,tt,tt,tt,ff,tt,tt,tt,tt,ff,tt,tt,tt,ff,ff,ff,tt,ff,ff,ff,ff,ff,ff,ff,ff,ff,ff,ff,ff,ff] rfl rfl (any_of HT_.out (by kernel_rfl)) (fun _ _ _ h => h) (Or.inl ⟨by rfl, ?_⟩) ?_ ?_
                     rotate_left
                     (intro w'; go_simp; with_reducible rfl); rotate_left
                     ·simp only [Act.put, sA, sB, sC, i64_w, i32_w]
                      rfl
                     refine pure_ (i := 19) (N := some 89) (v := ?_) (a' := ?_) #[tt,tt,tt,tt,tt,tt,ff,tt,tt,tt,tt,ff,tt,tt,tt,ff,ff,ff,tt,tt,ff,ff,ff,ff,ff,ff,ff,ff,ff,ff,ff,ff] rfl rfl (any_of HT_.out (by kernel_rfl)) (fun _ _ _ h => h) (Or.inl ⟨by rfl, ?_⟩) ?_ ?_
                     rotate_left
                     (intro w'; go_simp; with_reducible rfl); rotate_left
                     ·simp only [Act.put, sA, sB, sC, i64_w, i32_w]
                      rfl
                     refine pure_ (i := 20) (N := some 90) (v := ?_) (a' := ?_) #[tt,tt,tt,tt,tt,tt,ff,tt,tt,tt,tt,ff,tt,tt,tt,ff,ff,ff,tt,tt,tt,ff,ff,ff,ff,ff,ff,ff,ff,ff,ff,ff] rfl rfl (any_of HT_.out (by kernel_rfl)) (fun _ _ _ h => h) (Or.inl ⟨by rfl, ?_⟩) ?_ ?_
                     rotate_left
                     (intro w'; go_simp; with_reducible rfl); rotate_left
                     ·simp only [Act.put, sA, sB, sC, i64_w, i32_w]
                      rfl
                     refine take_ (i := 6) (N := some 76) (v := ?_) (a' := ?_) #[tt,tt,tt,tt,tt,tt,tt,tt,tt,tt,tt,ff,tt,tt,tt,ff,ff,ff,tt,tt,tt,ff,ff,ff,ff,ff,ff,ff,ff,ff,ff,ff] rfl rfl (take_ofW HT_.out HW_.out (by kernel_rfl)) (fun _ _ _ h => h) (Or.inl ⟨by rfl, ?_⟩) hHeld ?_ ?_
                     rotate_left
                     ·rintro w' ⟨s0, s1, s2, s3, s4, s5, s6, s7⟩
                      go_simp
                      with_reducible rfl
                     rotate_left
                     ·simp only [Act.put, sA, sB, sC, i64_w, i32_w]
                      rfl
                     refine take_ (i := 11) (N := some 81) (v := ?_) (a' := ?_) #[tt,tt,tt,tt,tt,tt,tt,tt,tt,tt,tt,tt,tt,tt,tt,ff,ff,ff,tt,tt,tt,ff,ff,ff,ff,ff,ff,ff,ff,ff,ff,ff] rfl rfl (take_ofW HT_.out HW_.out (by kernel_rfl)) (fun _ _ _ h => h) (Or.inl ⟨by rfl, ?_⟩) hHeld ?_ ?_
                     rotate_left
                     ·rintro w' ⟨s0, s1, s2, s3, s4, s5, s6, s7⟩
                      go_simp
                      with_reducible rfl
                     rotate_left
                     ·simp only [Act.put, sA, sB, sC, i64_w, i32_w]
                      rfl
                     refine take_ (i := 15) (N := some 85) (v := ?_) (a' := ?_) #[tt,tt,tt,tt,tt,tt,tt,tt,tt,tt,tt,tt,tt,tt,tt,tt,ff,ff,tt,tt,tt,ff,ff,ff,ff,ff,ff,ff,ff,ff,ff,ff] rfl rfl (take_ofW HT_.out HW_.out (by kernel_rfl)) (fun _ _ _ h => h) (Or.inl ⟨by rfl, ?_⟩) hHeld ?_ ?_
                     rotate_left
                     ·rintro w' ⟨s0, s1, s2, s3, s4, s5, s6, s7⟩
                      go_simp
                      with_reducible rfl
                     rotate_left
                     ·simp only [Act.put, sA, sB, sC, i64_w, i32_w]
                      rfl
                     refine take_ (i := 16) (N := some 86) (v := ?_) (a' := ?_) #[tt,tt,tt,tt,tt,tt,tt,tt,tt,tt,tt,tt,tt,tt,tt,tt,tt,ff,tt,tt,tt,ff,ff,ff,ff,ff,ff,ff,ff,ff,ff,ff] rfl rfl (take_ofW HT_.out HW_.out (by kernel_rfl)) (fun _ _ _ h => h) (Or.inl ⟨by rfl, ?_⟩) hHeld ?_ ?_
                     rotate_left
                     ·rintro w' ⟨s0, s1, s2, s3, s4, s5, s6, s7⟩
                      go_simp
                      with_reducible rfl
                     rotate_left
                     ·simp only [Act.put, sA, sB, sC, i64_w, i32_w]
                      rfl
                     refine pure_ (i := 17) (N := some 87) (v := ?_) (a' := ?_) #[tt,tt,tt,tt,tt,tt,tt,tt,tt,tt,tt,tt,tt,tt,tt,tt,tt,tt,tt,tt,tt,ff,ff,ff,ff,ff,ff,ff,ff,ff,ff,ff] rfl rfl (any_of HT_.out (by kernel_rfl)) (fun _ _ _ h => h) (Or.inl ⟨by rfl, ?_⟩) ?_ ?_
                     rotate_left
                     (intro w'; go_simp; with_reducible rfl); rotate_left
                     ·simp only [Act.put, sA, sB, sC, i64_w, i32_w]
                      rfl
                     refine take_ (i := 21) (N := some 91) (v := ?_) (a' := ?_) #[tt,tt,tt,tt,tt,tt,tt,tt,tt,tt,tt,tt,tt,tt,tt,tt,tt,tt,tt,tt,tt,tt,ff,ff,ff,ff,ff,ff,ff,ff,ff,ff] rfl rfl (take_ofW HT_.out HW_.out (by kernel_rfl)) (fun _ _ _ h => h) (Or.inl ⟨by rfl, ?_⟩) hHeld ?_ ?_
                     rotate_left
                     ·rintro w' ⟨s0, s1, s2, s3, s4, s5, s6, s7⟩
                      go_simp
                      with_reducible rfl
                     rotate_left
                     ·simp only [Act.put, sA, sB, sC, i64_w, i32_w]
                      rfl
                     refine pure_ (i := 22) (N := some 92) (v := ?_) (a' := ?_) #[tt,tt,tt,tt,tt,tt,tt,tt,tt,tt,tt,tt,tt,tt,tt,tt,tt,tt,tt,tt,tt,tt,tt,ff,ff,ff,ff,ff,ff,ff,ff,ff] rfl rfl (any_of HT_.out (by kernel_rfl)) (fun _ _ _ h => h) (Or.inl ⟨by rfl, ?_⟩) ?_ ?_
                     rotate_left
                     (intro w'; go_simp; with_reducible rfl); rotate_left
                     ·simp only [Act.put, sA, sB, sC, i64_w, i32_w]
                      rfl
                     refine pure_ (i := 23) (N := some 93) (v := ?_) (a' := ?_) #[tt,tt,tt,tt,tt,tt,tt,tt,tt,tt,tt,tt,tt,tt,tt,tt,tt,tt,tt,tt,tt,tt,tt,tt,ff,ff,ff,ff,ff,ff,ff,ff] rfl rfl (any_of HT_.out (by kernel_rfl)) (fun _ _ _ h => h) (Or.inl ⟨by rfl, ?_⟩) ?_ ?_
                     rotate_left
                     (intro w'; go_simp; with_reducible rfl); rotate_left
                     ·simp only [Act.put, sA, sB, sC, i64_w, i32_w]
                      rfl
                     refine pure_ (i := 24) (N := some 94) (v := ?_) (a' := ?_) #[tt,tt,tt,tt,tt,tt,tt,tt,tt,tt,tt,tt,tt,tt,tt,tt,tt,tt,tt,tt,tt,tt,tt,tt,tt,ff,ff,ff,ff,ff,ff,ff] rfl rfl (any_of HT_.out (by kernel_rfl)) (fun _ _ _ h => h) (Or.inl ⟨by rfl, ?_⟩) ?_ ?_
                     rotate_left
                     (intro w'; go_simp; with_reducible rfl); rotate_left
                     ·simp only [Act.put, sA, sB, sC, i64_w, i32_w]
                      rfl
                     refine pure_ (i := 25) (N := some 95) (v := ?_) (a' := ?_) #[tt,tt,tt,tt,tt,tt,tt,tt,tt,tt,tt,tt,tt,tt,tt,tt,tt,tt,tt,tt,tt,tt,tt,tt,tt,tt,ff,ff,ff,ff,ff,ff] rfl rfl (any_of HT_.out (by kernel_rfl)) (fun _ _ _ h => h) (Or.inl ⟨by rfl, ?_⟩) ?_ ?_
                     rotate_left
                     (intro w'; go_simp; with_reducible rfl); rotate_left
                     ·simp only [Act.put, sA, sB, sC, i64_w, i32_w]
                      rfl
                     refine one_ (i := 26) (N := some 96) #[tt,tt,tt,tt,tt,tt,tt,tt,tt,tt,tt,tt,tt,tt,tt,tt,tt,tt,tt,tt,tt,tt,tt,tt,tt,tt,tt,ff,ff,ff,ff,ff] rfl rfl (one_of HT_.out (by kernel_rfl)) (by decide) (fun K hK => ?_)
                     refine Kd.R_lit_step (Kd.int .u8) _ 5 ?hg (N := 96) ?hd (xs := ([65 + (bt ((rd_T24 t368 x10_1).f0) (rd t379 x11_2) - 65 + rd x7_1 x11_2) % 256 % 26] : List Int)) (inner := [.int .u8 (65 + (bt ((rd_T24 t368 x10_1).f0) (rd t379 x11_2) - 65 + rd x7_1 x11_2) % 256 % 26)]) (ok := fun _ => True) (okp := fun _ => True) ?hr ?hp (fun _ hk => hk) trivial (Below.refl _ _) (Nat.le_refl _) (by simp) ?_; (case hd => rfl); (case hg => rfl); (case hr => first | (go_simp; rw [u8_turn]) | (go_simp; done) | (go_simp; rfl)); (case hp => exact (Reps.one (show Kd.M (Kd.int .u8) _ _ _ (65 + (bt ((rd_T24 t368 x10_1).f0) (rd t379 x11_2) - 65 + rd x7_1 x11_2) % 256 % 26) [.int .u8 (65 + (bt ((rd_T24 t368 x10_1).f0) (rd t379 x11_2) - 65 + rd x7_1 x11_2) % 256 % 26)] from rfl) (Reps.none _ _)))
                     intro v364 w24 ho25 hb hg_ hnew_
                     have HS0_ := (hb.cell (World.block_lt_of_cell? _ _ (hHeld.1))).trans (hHeld.1)
                     have HS1_ := (hb.cell (World.block_lt_of_cell? _ _ (hHeld.2.1))).trans (hHeld.2.1)
                     have HS2_ := (hb.cell (World.block_lt_of_cell? _ _ (hHeld.2.2.1))).trans (hHeld.2.2.1)
                     clear hg_ hnew_
                     (first | rw [← Ny363.out] at ho25 | (simp only [Int.reduceToNat] at ho25; rw [← Ny363.out] at ho25))
                     have n0_ := Aside0.mk (Kd.R_below (by (with_reducible repeat (first | apply Kd.R_alloc | apply Kd.R_drewN | apply Kd.R_drew)); exact HO_9.out) hb)
                     have n1_ := Aside0.mk (Kd.R_lower ho25 (below_size (by repeat (first | (with_reducible first | exact HB.out | apply below_alloc | apply pw_below_drewN | apply below_drew1) | exact HB.out))))
                     have n2_ := Aside0.mk (below_step (by repeat (first | (with_reducible first | exact HB.out | apply below_alloc | apply pw_below_drewN | apply below_drew1) | exact HB.out)) hb)
                     clear HO_9
                     clear HB
                     have HO_9 := n0_
                     have HO365 := n1_
                     have HB := n2_
                     clear n0_ n1_ n2_
                     clear hb ho25
                     have p22 : 0 ≤ (x10_1 : Int) := of_decide_eq_true (by first | (with_reducible assumption) | assumption)
                     have q22 : (x10_1 : Int) < ((x9_2.length : Int) : Int) := of_decide_eq_true (by first | (with_reducible assumption) | assumption)
                     obtain ⟨ce22, hcl22, hM22, hcc22, hfr22⟩ := Kd.R_elem HO_9.out z24 (x10_1 : Int) p22 q22
                     obtain rfl := k24_openM hM22
                     have hx22_0 : World.cell? _ ⟨go8, (x10_1 : Int).toNat * 3, none⟩ = some (.string ((rd_T24 x9_2 x10_1).f0)) := hcc22 0 _ rfl
                     have hx22_1 : World.cell? _ ⟨go8, (x10_1 : Int).toNat * 3 + 1, none⟩ = some (.int .i64 ((rd_T24 x9_2 x10_1).f1)) := hcc22 1 _ rfl
                     have hx22_2 : World.cell? _ ⟨go8, (x10_1 : Int).toNat * 3 + 2, none⟩ = some (.bool ((rd_T24 x9_2 x10_1).f2)) := hcc22 2 _ rfl
                     have hf22_0 : World.frozen? _ ⟨go8, (x10_1 : Int).toNat * 3, none⟩ = false := hfr22 0
                     have hf22_1 : World.frozen? _ ⟨go8, (x10_1 : Int).toNat * 3 + 1, none⟩ = false := hfr22 1
                     have hf22_2 : World.frozen? _ ⟨go8, (x10_1 : Int).toNat * 3 + 2, none⟩ = false := hfr22 2
                     clear hcl22 hcc22 hfr22 hM22
                     replace p22 := eq_true p22
                     replace q22 := eq_true q22
                     obtain ⟨ce27, hcl27, hM27, hcc27, hfr27⟩ := Kd.R_elem HO_9.out z24 (x10_1 : Int) (of_decide_eq_true (by first | (with_reducible assumption) | assumption)) (by have h_ : (x10_1 : Int) < ((x9_2.length : Int) : Int) := of_decide_eq_true (by first | (with_reducible assumption) | assumption); first | exact h_ | (have e_ := (Kd.R_reads' HO_9.out).1; omega) | simpa using h_)
                     obtain rfl := k24_openM hM27
                     have HP27 := (Kd.R_seg HO_9.out (x10_1 : Int) (of_decide_eq_true (by first | (with_reducible assumption) | assumption)) (by have h_ : (x10_1 : Int) < ((x9_2.length : Int) : Int) := of_decide_eq_true (by first | (with_reducible assumption) | assumption); first | exact h_ | (have e_ := (Kd.R_reads' HO_9.out).1; omega) | simpa using h_) (seg := [.string (((rd_T24 x9_2 x10_1).f0) ++ (strOfNums y363))]) (j := 0) hcl27 hcc27 (show 1 ≤ 3 from by decide) (x' := (⟨((rd_T24 x9_2 x10_1).f0) ++ (strOfNums y363), (rd_T24 x9_2 x10_1).f1, (rd_T24 x9_2 x10_1).f2⟩ : S24)) (k24_mkM _ _ _ (⟨((rd_T24 x9_2 x10_1).f0) ++ (strOfNums y363), (rd_T24 x9_2 x10_1).f1, (rd_T24 x9_2 x10_1).f2⟩ : S24) ) (fun _ hk => hk)).1
                     rw [← Ny366.out] at HP27
                     have HQ27 := Aside0.mk HP27
                     clear hcl27 hcc27 hfr27 hM27 HP27
                     refine hK.out _ _ ⟨HS0_, HS1_, HS2_, ((HB.out.cell (World.block_lt_of_cell? wq _ hw360_0)).trans hw360_0), ((HB.out.cell (World.block_lt_of_cell? wq _ hw360_1)).trans hw360_1), ((HB.out.cell (World.block_lt_of_cell? wq _ hw360_2)).trans hw360_2), ((HB.out.cell (World.block_lt_of_cell? wq _ hw361_0)).trans hw361_0), ((HB.out.cell (World.block_lt_of_cell? wq _ hw362_0)).trans hw362_0)⟩ (fun hHeld => ?_)
                     clear hK K
                     refine norm_ (a' := ?_) ?_ ?_
                     rotate_left
                     ·show Act.put _ (some 96) _ = _
                      simp only [Act.put, sA, sB, sC, i64_w, i32_w]
                      rfl
                     refine one_ (i := 27) (N := some 97) #[tt,tt,tt,tt,tt,tt,tt,tt,tt,tt,tt,tt,tt,tt,tt,tt,tt,tt,tt,tt,tt,tt,tt,tt,tt,tt,tt,tt,ff,ff,ff,ff] rfl rfl (one_of HT_.out (by kernel_rfl)) (by decide) (fun K hK => ?_)
                     have hcv26 := own_string (P := Try.prog) Try.underlying61 Try.underlying5 Try.underlying9 (Kd.own_of_R HO365.out)
                     refine value_ (w1 := ?_) (v := ?_) (by rfl) rfl ?_ ?_
                     rotate_left 2
                     ·go_simp
                      constructor
                      ·rfl
                      ·rfl
                     clear hcv26
                     refine hK.out _ _ ⟨hHeld.1, hHeld.2.1, hHeld.2.2.1, hHeld.2.2.2.1, hHeld.2.2.2.2.1, hHeld.2.2.2.2.2.1, hHeld.2.2.2.2.2.2.1, hHeld.2.2.2.2.2.2.2⟩ (fun hHeld => ?_)
                     clear hK K
                     refine norm_ (a' := ?_) ?_ ?_
                     rotate_left
                     ·show Act.put _ (some 97) _ = _
                      simp only [Act.put, sA, sB, sC, i64_w, i32_w]
                      rfl
                     refine pure_ (i := 28) (N := some 98) (v := ?_) (a' := ?_) #[tt,tt,tt,tt,tt,tt,tt,tt,tt,tt,tt,tt,tt,tt,tt,tt,tt,tt,tt,tt,tt,tt,tt,tt,tt,tt,tt,tt,tt,ff,ff,ff] rfl rfl (any_of HT_.out (by kernel_rfl)) (fun _ _ _ h => h) (Or.inl ⟨by rfl, ?_⟩) ?_ ?_
                     rotate_left
                     (intro w'; go_simp; with_reducible rfl); rotate_left
                     ·simp only [Act.put, sA, sB, sC, i64_w, i32_w]
                      rfl
                     refine pure_ (i := 29) (N := some 99) (v := ?_) (a' := ?_) #[tt,tt,tt,tt,tt,tt,tt,tt,tt,tt,tt,tt,tt,tt,tt,tt,tt,tt,tt,tt,tt,tt,tt,tt,tt,tt,tt,tt,tt,tt,ff,ff] rfl rfl (any_of HT_.out (by kernel_rfl)) (fun _ _ _ h => h) (Or.inl ⟨by rfl, ?_⟩) ?_ ?_
                     rotate_left
                     (intro w'; go_simp; with_reducible rfl); rotate_left
                     ·simp only [Act.put, sA, sB, sC, i64_w, i32_w]
                      rfl
                     refine pure_ (i := 30) (N := some 100) (v := ?_) (a' := ?_) #[tt,tt,tt,tt,tt,tt,tt,tt,tt,tt,tt,tt,tt,tt,tt,tt,tt,tt,tt,tt,tt,tt,tt,tt,tt,tt,tt,tt,tt,tt,tt,ff] rfl rfl (any_of HT_.out (by kernel_rfl)) (fun _ _ _ h => h) (Or.inl ⟨by rfl, ?_⟩) ?_ ?_
                     rotate_left
                     (intro w'; go_simp; with_reducible rfl); rotate_left
                     ·simp only [Act.put, sA, sB, sC, i64_w, i32_w]
                      rfl
                     refine last_ (i := 31) (N := none) #[tt,tt,tt,tt,tt,tt,tt,tt,tt,tt,tt,tt,tt,tt,tt,tt,tt,tt,tt,tt,tt,tt,tt,tt,tt,tt,tt,tt,tt,tt,tt,tt] rfl rfl (one_of HT_.out (by kernel_rfl)) (by decide) (fun K hK => ?_)
                     refine skip_ (w1 := ?_) (by rfl) rfl ?_ ?_
                     rotate_left
                     ·go_simp
                      rfl
                     refine hK.out _ _ ?_
                     clear hK K
                     refine done_ (done_of HT_.out (by kernel_rfl)) ?_
                     try go_wp2
                     (try simp only [← hl9_2])
                     go_roundg k2
                     case measure => have := HK1.out; have := HK2.out; omega
                     case rel => exact ⟨(y366), (wrap64 (x11_2 + 1)), (by first | rfl | (simp; done) | (simp [*]; done)), H', ⟨by have := HK1.out; have := HK2.out; omega⟩, ⟨by (try simp only [hl9_2]); (with_reducible repeat (first | apply Kd.R_alloc | apply Kd.R_drewN | apply Kd.R_drew)); exact HQ27.out⟩, ⟨by repeat (first | (with_reducible first | exact HB.out | apply below_alloc | apply pw_below_drewN | apply below_drew1 | refine below_set ?_ GB8.out) | exact HB.out)⟩⟩
                    ·rw [if_neg c21] at H
                     exact absurd H (by simp)
                   ·rw [if_neg c20] at H
                    exact absurd H (by simp)
                  ·rw [if_neg c18] at H
                   exact absurd H (by simp)
                 ·rw [if_neg c17] at H
                  exact absurd H (by simp)
                ·rw [if_neg c16] at H
                 exact absurd H (by simp)
               ·rw [if_neg c15] at H
                exact absurd H (by simp)
              ·rw [if_neg c14] at H
               exact absurd H (by simp)
             ·rw [if_neg c13] at H
              exact absurd H (by simp)
            ·rw [if_neg c12] at H
             have c12b0 : decide (x11_2 < (t379.length : Int)) = false := decide_eq_false c12
             clear c12
             have H' := Aside0.mk H
             clear H
             go_wp2
             (try simp only [← hl9_2])
             go_roundg k2
             case measure => have := HK1.out; have := HK2.out; omega
             case rel => exact ⟨(x9_2), (wrap64 (x10_1 + 1)), (by first | rfl | (simp; done) | (simp [*]; done)), H', ⟨by have := HK1.out; have := HK2.out; omega⟩, ⟨by (try simp only [hl9_2]); (with_reducible repeat (first | apply Kd.R_alloc | apply Kd.R_drewN | apply Kd.R_drew)); exact HO_9.out⟩, ⟨by repeat (first | (with_reducible first | exact HB.out | apply below_alloc | apply pw_below_drewN | apply below_drew1) | exact HB.out)⟩⟩
         ·rw [if_neg c7] at H
          exact absurd H (by simp)
        ·rw [if_neg c6] at H
         have c6b0 : decide (x10_1 < (x9_1.length : Int)) = false := decide_eq_false c6
         clear c6
         obtain rfl := Option.some.inj H
         obtain ⟨Ao28, co28, eo28⟩ := Kd.R_slice HO_9.out
         subst eo28
         go_wp2
         go_meet
         case rel => exact ⟨by (with_reducible repeat (first | apply Kd.R_alloc | apply Kd.R_drewN | apply Kd.R_drew)); exact HO_9.out, by repeat (first | (with_reducible first | exact HB.out | apply below_alloc | apply pw_below_drewN | apply below_drew1) | exact HB.out)⟩
     case rest => as_aux_lemma =>
     obtain ⟨v391, hv391⟩ : ∃ v391 : Value, v391 = u9 := ⟨_, rfl⟩
     subst hv391
     clear HKT HO357 HB9
     have ho0 := hcut.out.1
     have hb := hcut.out.2
     clear hcut
     have n0_ := Aside0.mk (Kd.R_elder' (by (with_reducible repeat (first | apply Kd.R_alloc | apply Kd.R_drewN | apply Kd.R_drew)); exact HO_4.out) (Kd.R_base ho0) hb)
     have n1_ := Aside0.mk (Kd.R_below (by (with_reducible repeat (first | apply Kd.R_alloc | apply Kd.R_drewN | apply Kd.R_drew)); exact HO_6.out) hb)
     have n2_ := Aside0.mk (Kd.R_below (by (with_reducible repeat (first | apply Kd.R_alloc | apply Kd.R_drewN | apply Kd.R_drew)); exact HO_7.out) hb)
     have n3_ := Aside0.mk (Kd.R_below (by (with_reducible repeat (first | apply Kd.R_alloc | apply Kd.R_drewN | apply Kd.R_drew)); exact HO_378001.out) hb)
     have n4_ := Aside0.mk (Kd.R_lower (Kd.R_new' ho0 (Kd.R_lt (by (with_reducible repeat (first | apply Kd.R_alloc | apply Kd.R_drewN | apply Kd.R_drew)); exact HO_4.out))) (below_size (by repeat (first | (with_reducible first | exact HB.out | apply below_alloc | apply pw_below_drewN | apply below_drew1 | refine below_set ?_ (IsS72.ge HI367.out) | refine below_set ?_ GE377.out) | exact HB.out))))
     have n5_ := Aside0.mk (blk_below (g := gb377) (o := .cells #[.string t371, .slice Ao11 t372.length co11] 27 (0, 0)) (by (with_reducible repeat (first | refine blk_drewN ?_ _ | refine blk_drew ?_ | refine blk_alloc ?_ _)); exact BK377.out) hb)
     have n6_ := Aside0.mk (IsS72.below (by repeat (first | (with_reducible first | exact HI367.out | apply IsS72.alloc | apply IsS72.drewN | apply IsS72.drew | apply IsS72.set_0 | apply IsS72.set_1 | refine IsS72.far ?_ NB367_377.out _) | exact HI367.out)) hb)
     have n7_ := Aside0.mk (below_step (by repeat (first | (with_reducible first | exact HB.out | apply below_alloc | apply pw_below_drewN | apply below_drew1 | refine below_set ?_ (IsS72.ge HI367.out) | refine below_set ?_ GE377.out) | exact HB.out)) hb)
     clear HO_4
     clear HO_6
     clear HO_7
     clear HO_378001
     clear BK377
     clear HI367
     clear HB
     have HO_4 := n0_
     have HO_6 := n1_
     have HO_7 := n2_
     have HO_378001 := n3_
     have HO392 := n4_
     have BK377 := n5_
     have HI367 := n6_
     have HB := n7_
     clear n0_ n1_ n2_ n3_ n4_ n5_ n6_ n7_
     (try clear hb)
     (try clear hb2)
     (try clear hk)
     (try clear hi)
     (try clear ho0)
     go_upto_region 24 with (first | (go_at_call 30; (with_reducible refine (stemma_Sources.calls k1 _ _ t368 t393 t396 _ ?side1 ?side2 A21.out).mono ?_); (case side1 => repeat (first | exact (Kd.R_reads' HO_4.out).2.2 | (with_reducible refine Kd.C_alloc ?_ _) | (with_reducible refine Kd.C_drewN ?_ _) | (with_reducible refine Kd.C_drew ?_))); (case side2 => exact (Kd.R_reads' HO_4.out).2.1); rintro e w31 ⟨v394, rfl, ho0, hb⟩; have n0_ := Aside0.mk (Kd.R_below (by (with_reducible repeat (first | apply Kd.R_alloc | apply Kd.R_drewN | apply Kd.R_drew)); exact HO_4.out) hb); have n1_ := Aside0.mk (Kd.R_below (by (with_reducible repeat (first | apply Kd.R_alloc | apply Kd.R_drewN | apply Kd.R_drew)); exact HO_6.out) hb); have n2_ := Aside0.mk (Kd.R_below (by (with_reducible repeat (first | apply Kd.R_alloc | apply Kd.R_drewN | apply Kd.R_drew)); exact HO_7.out) hb); have n3_ := Aside0.mk (Kd.R_below (by (with_reducible repeat (first | apply Kd.R_alloc | apply Kd.R_drewN | apply Kd.R_drew)); exact HO_378001.out) hb); have n4_ := Aside0.mk (Kd.R_below (by (with_reducible repeat (first | apply Kd.R_alloc | apply Kd.R_drewN | apply Kd.R_drew)); exact HO392.out) hb); have n5_ := Aside0.mk (Kd.N_lower (Kd.N_mono (ok' := fun k_ => some k_ ≠ (.slice (some ad378) t368.length co12 : Value).ownBlock ∧ some k_ ≠ (.slice Ao28 t379.length co28 : Value).ownBlock ∧ some k_ ≠ (.slice Ao29 x7_1.length co29 : Value).ownBlock ∧ some k_ ≠ (.slice Ao11 t372.length co11 : Value).ownBlock ∧ some k_ ≠ (v391 : Value).ownBlock ∧ k_ ≠ gb377 ∧ k_ ≠ g367) ho0 (fun k_ hk_ => ⟨(Kd.fresh' (Kd.R_lt (by (with_reducible repeat (first | apply Kd.R_alloc | apply Kd.R_drewN | apply Kd.R_drew)); exact HO_4.out)) k_ hk_), (Kd.fresh' (Kd.R_lt (by (with_reducible repeat (first | apply Kd.R_alloc | apply Kd.R_drewN | apply Kd.R_drew)); exact HO_6.out)) k_ hk_), (Kd.fresh' (Kd.R_lt (by (with_reducible repeat (first | apply Kd.R_alloc | apply Kd.R_drewN | apply Kd.R_drew)); exact HO_7.out)) k_ hk_), (Kd.fresh' (Kd.R_lt (by (with_reducible repeat (first | apply Kd.R_alloc | apply Kd.R_drewN | apply Kd.R_drew)); exact HO_378001.out)) k_ hk_), (Kd.fresh' (Kd.R_lt (by (with_reducible repeat (first | apply Kd.R_alloc | apply Kd.R_drewN | apply Kd.R_drew)); exact HO392.out)) k_ hk_), (Kd.freshB (g := gb377) (o := .cells #[.string t371, .slice Ao11 t372.length co11] 27 (0, 0)) (by (with_reducible repeat (first | refine blk_drewN ?_ _ | refine blk_drew ?_ | refine blk_alloc ?_ _)); exact BK377.out) k_ hk_), (IsS72.fresh (by repeat (first | (with_reducible first | exact HI367.out | apply IsS72.alloc | apply IsS72.drewN | apply IsS72.drew | apply IsS72.set_0 | apply IsS72.set_1 | refine IsS72.far ?_ NB367_377.out _) | exact HI367.out)) k_ hk_)⟩)) (below_size (by repeat (first | (with_reducible first | exact HB.out | apply below_alloc | apply pw_below_drewN | apply below_drew1 | refine below_set ?_ (IsS72.ge HI367.out) | refine below_set ?_ GE377.out) | exact HB.out)))); have n6_ := Aside0.mk (blk_below (g := gb377) (o := .cells #[.string t371, .slice Ao11 t372.length co11] 27 (0, 0)) (by (with_reducible repeat (first | refine blk_drewN ?_ _ | refine blk_drew ?_ | refine blk_alloc ?_ _)); exact BK377.out) hb); have n7_ := Aside0.mk (IsS72.below (by repeat (first | (with_reducible first | exact HI367.out | apply IsS72.alloc | apply IsS72.drewN | apply IsS72.drew | apply IsS72.set_0 | apply IsS72.set_1 | refine IsS72.far ?_ NB367_377.out _) | exact HI367.out)) hb); have n8_ := Aside0.mk (below_step (by repeat (first | (with_reducible first | exact HB.out | apply below_alloc | apply pw_below_drewN | apply below_drew1 | refine below_set ?_ (IsS72.ge HI367.out) | refine below_set ?_ GE377.out) | exact HB.out)) hb); clear HO_4; clear HO_6; clear HO_7; clear HO_378001; clear HO392; clear BK377; clear HI367; clear HB; have HO_4 := n0_; have HO_6 := n1_; have HO_7 := n2_; have HO_378001 := n3_; have HO392 := n4_; have HO395 := n5_; have BK377 := n6_; have HI367 := n7_; have HB := n8_; clear n0_ n1_ n2_ n3_ n4_ n5_ n6_ n7_ n8_; (try clear hb); (try clear hb2); (try clear hk); (try clear hi); (try clear ho0); obtain ⟨Ao32, co32, eo32⟩ := Kd.R_slice HO392.out; subst eo32) | (go_at_call 30; (with_reducible refine (stemma_Sources.calls k1 _ _ t390 t397 t400 _ ?side1 ?side2 A22.out).mono ?_); (case side1 => repeat (first | exact (Kd.R_reads' HO392.out).2.2 | (with_reducible refine Kd.C_alloc ?_ _) | (with_reducible refine Kd.C_drewN ?_ _) | (with_reducible refine Kd.C_drew ?_))); (case side2 => exact (Kd.R_reads' HO392.out).2.1); rintro e w33 ⟨v398, rfl, ho0, hb⟩; have n0_ := Aside0.mk (Kd.R_below (by (with_reducible repeat (first | apply Kd.R_alloc | apply Kd.R_drewN | apply Kd.R_drew)); exact HO_4.out) hb); have n1_ := Aside0.mk (Kd.R_below (by (with_reducible repeat (first | apply Kd.R_alloc | apply Kd.R_drewN | apply Kd.R_drew)); exact HO_6.out) hb); have n2_ := Aside0.mk (Kd.R_below (by (with_reducible repeat (first | apply Kd.R_alloc | apply Kd.R_drewN | apply Kd.R_drew)); exact HO_7.out) hb); have n3_ := Aside0.mk (Kd.R_below (by (with_reducible repeat (first | apply Kd.R_alloc | apply Kd.R_drewN | apply Kd.R_drew)); exact HO_378001.out) hb); have n4_ := Aside0.mk (Kd.R_below (by (with_reducible repeat (first | apply Kd.R_alloc | apply Kd.R_drewN | apply Kd.R_drew)); exact HO392.out) hb); have n5_ := Aside0.mk (Kd.N_elder' (by (with_reducible repeat (first | apply Kd.N_alloc | apply Kd.N_drewN | apply Kd.N_drew)); exact HO395.out) (Kd.N_base ho0) hb); have n6_ := Aside0.mk (Kd.N_lower (Kd.N_mono (ok' := fun k_ => some k_ ≠ (.slice (some ad378) t368.length co12 : Value).ownBlock ∧ some k_ ≠ (.slice Ao28 t379.length co28 : Value).ownBlock ∧ some k_ ≠ (.slice Ao29 x7_1.length co29 : Value).ownBlock ∧ some k_ ≠ (.slice Ao11 t372.length co11 : Value).ownBlock ∧ some k_ ≠ (.slice Ao32 t390.length co32 : Value).ownBlock ∧ some k_ ≠ (v394 : Value).ownBlock ∧ k_ ≠ gb377 ∧ k_ ≠ g367) ho0 (fun k_ hk_ => ⟨(Kd.fresh' (Kd.R_lt (by (with_reducible repeat (first | apply Kd.R_alloc | apply Kd.R_drewN | apply Kd.R_drew)); exact HO_4.out)) k_ hk_), (Kd.fresh' (Kd.R_lt (by (with_reducible repeat (first | apply Kd.R_alloc | apply Kd.R_drewN | apply Kd.R_drew)); exact HO_6.out)) k_ hk_), (Kd.fresh' (Kd.R_lt (by (with_reducible repeat (first | apply Kd.R_alloc | apply Kd.R_drewN | apply Kd.R_drew)); exact HO_7.out)) k_ hk_), (Kd.fresh' (Kd.R_lt (by (with_reducible repeat (first | apply Kd.R_alloc | apply Kd.R_drewN | apply Kd.R_drew)); exact HO_378001.out)) k_ hk_), (Kd.fresh' (Kd.R_lt (by (with_reducible repeat (first | apply Kd.R_alloc | apply Kd.R_drewN | apply Kd.R_drew)); exact HO392.out)) k_ hk_), (Kd.fresh' (Kd.N_lt (by (with_reducible repeat (first | apply Kd.N_alloc | apply Kd.N_drewN | apply Kd.N_drew)); exact HO395.out)) k_ hk_), (Kd.freshB (g := gb377) (o := .cells #[.string t371, .slice Ao11 t372.length co11] 27 (0, 0)) (by (with_reducible repeat (first | refine blk_drewN ?_ _ | refine blk_drew ?_ | refine blk_alloc ?_ _)); exact BK377.out) k_ hk_), (IsS72.fresh (by repeat (first | (with_reducible first | exact HI367.out | apply IsS72.alloc | apply IsS72.drewN | apply IsS72.drew | apply IsS72.set_0 | apply IsS72.set_1 | refine IsS72.far ?_ NB367_377.out _) | exact HI367.out)) k_ hk_)⟩)) (below_size (by repeat (first | (with_reducible first | exact HB.out | apply below_alloc | apply pw_below_drewN | apply below_drew1 | refine below_set ?_ (IsS72.ge HI367.out) | refine below_set ?_ GE377.out) | exact HB.out)))); have n7_ := Aside0.mk (blk_below (g := gb377) (o := .cells #[.string t371, .slice Ao11 t372.length co11] 27 (0, 0)) (by (with_reducible repeat (first | refine blk_drewN ?_ _ | refine blk_drew ?_ | refine blk_alloc ?_ _)); exact BK377.out) hb); have n8_ := Aside0.mk (IsS72.below (by repeat (first | (with_reducible first | exact HI367.out | apply IsS72.alloc | apply IsS72.drewN | apply IsS72.drew | apply IsS72.set_0 | apply IsS72.set_1 | refine IsS72.far ?_ NB367_377.out _) | exact HI367.out)) hb); have n9_ := Aside0.mk (below_step (by repeat (first | (with_reducible first | exact HB.out | apply below_alloc | apply pw_below_drewN | apply below_drew1 | refine below_set ?_ (IsS72.ge HI367.out) | refine below_set ?_ GE377.out) | exact HB.out)) hb); clear HO_4; clear HO_6; clear HO_7; clear HO_378001; clear HO392; clear HO395; clear BK377; clear HI367; clear HB; have HO_4 := n0_; have HO_6 := n1_; have HO_7 := n2_; have HO_378001 := n3_; have HO392 := n4_; have HO395 := n5_; have HO399 := n6_; have BK377 := n7_; have HI367 := n8_; have HB := n9_; clear n0_ n1_ n2_ n3_ n4_ n5_ n6_ n7_ n8_ n9_; (try clear hb); (try clear hb2); (try clear hk); (try clear hi); (try clear ho0)) | (go_at_call 18; (with_reducible refine (stemma_Letters.calls k1 _ _ t368 t401 t402 _ ?side1 ?side2 A23.out).mono ?_); (case side1 => repeat (first | exact (Kd.R_reads' HO_4.out).2.2 | (with_reducible refine Kd.C_alloc ?_ _) | (with_reducible refine Kd.C_drewN ?_ _) | (with_reducible refine Kd.C_drew ?_))); (case side2 => exact (Kd.R_reads' HO_4.out).2.1); rintro e w34 ⟨v403, rfl, ho0, hb⟩; have n0_ := Aside0.mk (Kd.R_below (by (with_reducible repeat (first | apply Kd.R_alloc | apply Kd.R_drewN | apply Kd.R_drew)); exact HO_4.out) hb); have n1_ := Aside0.mk (Kd.R_below (by (with_reducible repeat (first | apply Kd.R_alloc | apply Kd.R_drewN | apply Kd.R_drew)); exact HO_6.out) hb); have n2_ := Aside0.mk (Kd.R_below (by (with_reducible repeat (first | apply Kd.R_alloc | apply Kd.R_drewN | apply Kd.R_drew)); exact HO_7.out) hb); have n3_ := Aside0.mk (Kd.R_below (by (with_reducible repeat (first | apply Kd.R_alloc | apply Kd.R_drewN | apply Kd.R_drew)); exact HO_378001.out) hb); have n4_ := Aside0.mk (Kd.R_below (by (with_reducible repeat (first | apply Kd.R_alloc | apply Kd.R_drewN | apply Kd.R_drew)); exact HO392.out) hb); have n5_ := Aside0.mk (Kd.N_elder' (by (with_reducible repeat (first | apply Kd.N_alloc | apply Kd.N_drewN | apply Kd.N_drew)); exact HO395.out) (Kd.R_base ho0) hb); have n6_ := Aside0.mk (Kd.N_elder' (by (with_reducible repeat (first | apply Kd.N_alloc | apply Kd.N_drewN | apply Kd.N_drew)); exact HO399.out) (Kd.R_base ho0) hb); have n7_ := Aside0.mk (Kd.R_lower ho0 (below_size (by repeat (first | (with_reducible first | exact HB.out | apply below_alloc | apply pw_below_drewN | apply below_drew1 | refine below_set ?_ (IsS72.ge HI367.out) | refine below_set ?_ GE377.out) | exact HB.out)))); have n8_ := Aside0.mk (blk_below (g := gb377) (o := .cells #[.string t371, .slice Ao11 t372.length co11] 27 (0, 0)) (by (with_reducible repeat (first | refine blk_drewN ?_ _ | refine blk_drew ?_ | refine blk_alloc ?_ _)); exact BK377.out) hb); have n9_ := Aside0.mk (IsS72.below (by repeat (first | (with_reducible first | exact HI367.out | apply IsS72.alloc | apply IsS72.drewN | apply IsS72.drew | apply IsS72.set_0 | apply IsS72.set_1 | refine IsS72.far ?_ NB367_377.out _) | exact HI367.out)) hb); have n10_ := Aside0.mk (below_step (by repeat (first | (with_reducible first | exact HB.out | apply below_alloc | apply pw_below_drewN | apply below_drew1 | refine below_set ?_ (IsS72.ge HI367.out) | refine below_set ?_ GE377.out) | exact HB.out)) hb); clear HO_4; clear HO_6; clear HO_7; clear HO_378001; clear HO392; clear HO395; clear HO399; clear BK377; clear HI367; clear HB; have HO_4 := n0_; have HO_6 := n1_; have HO_7 := n2_; have HO_378001 := n3_; have HO392 := n4_; have HO395 := n5_; have HO399 := n6_; have HO404 := n7_; have BK377 := n8_; have HI367 := n9_; have HB := n10_; clear n0_ n1_ n2_ n3_ n4_ n5_ n6_ n7_ n8_ n9_ n10_; (try clear hb); (try clear hb2); (try clear hk); (try clear hi); (try clear ho0)) | (go_at_call 18; (with_reducible refine (stemma_Letters.calls k1 _ _ t390 t405 t406 _ ?side1 ?side2 A24.out).mono ?_); (case side1 => repeat (first | exact (Kd.R_reads' HO392.out).2.2 | (with_reducible refine Kd.C_alloc ?_ _) | (with_reducible refine Kd.C_drewN ?_ _) | (with_reducible refine Kd.C_drew ?_))); (case side2 => exact (Kd.R_reads' HO392.out).2.1); rintro e w35 ⟨v407, rfl, ho0, hb⟩; have n0_ := Aside0.mk (Kd.R_below (by (with_reducible repeat (first | apply Kd.R_alloc | apply Kd.R_drewN | apply Kd.R_drew)); exact HO_4.out) hb); have n1_ := Aside0.mk (Kd.R_below (by (with_reducible repeat (first | apply Kd.R_alloc | apply Kd.R_drewN | apply Kd.R_drew)); exact HO_6.out) hb); have n2_ := Aside0.mk (Kd.R_below (by (with_reducible repeat (first | apply Kd.R_alloc | apply Kd.R_drewN | apply Kd.R_drew)); exact HO_7.out) hb); have n3_ := Aside0.mk (Kd.R_below (by (with_reducible repeat (first | apply Kd.R_alloc | apply Kd.R_drewN | apply Kd.R_drew)); exact HO_378001.out) hb); have n4_ := Aside0.mk (Kd.R_below (by (with_reducible repeat (first | apply Kd.R_alloc | apply Kd.R_drewN | apply Kd.R_drew)); exact HO392.out) hb); have n5_ := Aside0.mk (Kd.N_elder' (by (with_reducible repeat (first | apply Kd.N_alloc | apply Kd.N_drewN | apply Kd.N_drew)); exact HO395.out) (Kd.R_base ho0) hb); have n6_ := Aside0.mk (Kd.N_elder' (by (with_reducible repeat (first | apply Kd.N_alloc | apply Kd.N_drewN | apply Kd.N_drew)); exact HO399.out) (Kd.R_base ho0) hb); have n7_ := Aside0.mk (Kd.R_elder' (by (with_reducible repeat (first | apply Kd.R_alloc | apply Kd.R_drewN | apply Kd.R_drew)); exact HO404.out) (Kd.R_base ho0) hb); have n8_ := Aside0.mk (Kd.R_lower (Kd.R_new' ho0 (Kd.R_lt (by (with_reducible repeat (first | apply Kd.R_alloc | apply Kd.R_drewN | apply Kd.R_drew)); exact HO404.out))) (below_size (by repeat (first | (with_reducible first | exact HB.out | apply below_alloc | apply pw_below_drewN | apply below_drew1 | refine below_set ?_ (IsS72.ge HI367.out) | refine below_set ?_ GE377.out) | exact HB.out)))); have n9_ := Aside0.mk (blk_below (g := gb377) (o := .cells #[.string t371, .slice Ao11 t372.length co11] 27 (0, 0)) (by (with_reducible repeat (first | refine blk_drewN ?_ _ | refine blk_drew ?_ | refine blk_alloc ?_ _)); exact BK377.out) hb); have n10_ := Aside0.mk (IsS72.below (by repeat (first | (with_reducible first | exact HI367.out | apply IsS72.alloc | apply IsS72.drewN | apply IsS72.drew | apply IsS72.set_0 | apply IsS72.set_1 | refine IsS72.far ?_ NB367_377.out _) | exact HI367.out)) hb); have n11_ := Aside0.mk (below_step (by repeat (first | (with_reducible first | exact HB.out | apply below_alloc | apply pw_below_drewN | apply below_drew1 | refine below_set ?_ (IsS72.ge HI367.out) | refine below_set ?_ GE377.out) | exact HB.out)) hb); clear HO_4; clear HO_6; clear HO_7; clear HO_378001; clear HO392; clear HO395; clear HO399; clear HO404; clear BK377; clear HI367; clear HB; have HO_4 := n0_; have HO_6 := n1_; have HO_7 := n2_; have HO_378001 := n3_; have HO392 := n4_; have HO395 := n5_; have HO399 := n6_; have HO404 := n7_; have HO408 := n8_; have BK377 := n9_; have HI367 := n10_; have HB := n11_; clear n0_ n1_ n2_ n3_ n4_ n5_ n6_ n7_ n8_ n9_ n10_ n11_; (try clear hb); (try clear hb2); (try clear hk); (try clear hi); (try clear ho0)) | (go_at_call 24; (with_reducible refine (stemma_Fewest.calls k1 _ _ t368 t409 t410 _ ?side1 ?side2 A25.out).mono ?_); (case side1 => repeat (first | exact (Kd.R_reads' HO_4.out).2.2 | (with_reducible refine Kd.C_alloc ?_ _) | (with_reducible refine Kd.C_drewN ?_ _) | (with_reducible refine Kd.C_drew ?_))); (case side2 => exact (Kd.R_reads' HO_4.out).2.1); rintro e w36 ⟨rfl, hb⟩; have n0_ := Aside0.mk (Kd.R_below (by (with_reducible repeat (first | apply Kd.R_alloc | apply Kd.R_drewN | apply Kd.R_drew)); exact HO_4.out) hb); have n1_ := Aside0.mk (Kd.R_below (by (with_reducible repeat (first | apply Kd.R_alloc | apply Kd.R_drewN | apply Kd.R_drew)); exact HO_6.out) hb); have n2_ := Aside0.mk (Kd.R_below (by (with_reducible repeat (first | apply Kd.R_alloc | apply Kd.R_drewN | apply Kd.R_drew)); exact HO_7.out) hb); have n3_ := Aside0.mk (Kd.R_below (by (with_reducible repeat (first | apply Kd.R_alloc | apply Kd.R_drewN | apply Kd.R_drew)); exact HO_378001.out) hb); have n4_ := Aside0.mk (Kd.R_below (by (with_reducible repeat (first | apply Kd.R_alloc | apply Kd.R_drewN | apply Kd.R_drew)); exact HO392.out) hb); have n5_ := Aside0.mk (Kd.N_below (by (with_reducible repeat (first | apply Kd.N_alloc | apply Kd.N_drewN | apply Kd.N_drew)); exact HO395.out) hb); have n6_ := Aside0.mk (Kd.N_below (by (with_reducible repeat (first | apply Kd.N_alloc | apply Kd.N_drewN | apply Kd.N_drew)); exact HO399.out) hb); have n7_ := Aside0.mk (Kd.R_below (by (with_reducible repeat (first | apply Kd.R_alloc | apply Kd.R_drewN | apply Kd.R_drew)); exact HO404.out) hb); have n8_ := Aside0.mk (Kd.R_below (by (with_reducible repeat (first | apply Kd.R_alloc | apply Kd.R_drewN | apply Kd.R_drew)); exact HO408.out) hb); have n9_ := Aside0.mk (blk_below (g := gb377) (o := .cells #[.string t371, .slice Ao11 t372.length co11] 27 (0, 0)) (by (with_reducible repeat (first | refine blk_drewN ?_ _ | refine blk_drew ?_ | refine blk_alloc ?_ _)); exact BK377.out) hb); have n10_ := Aside0.mk (IsS72.below (by repeat (first | (with_reducible first | exact HI367.out | apply IsS72.alloc | apply IsS72.drewN | apply IsS72.drew | apply IsS72.set_0 | apply IsS72.set_1 | refine IsS72.far ?_ NB367_377.out _) | exact HI367.out)) hb); have n11_ := Aside0.mk (below_step (by repeat (first | (with_reducible first | exact HB.out | apply below_alloc | apply pw_below_drewN | apply below_drew1 | refine below_set ?_ (IsS72.ge HI367.out) | refine below_set ?_ GE377.out) | exact HB.out)) hb); clear HO_4; clear HO_6; clear HO_7; clear HO_378001; clear HO392; clear HO395; clear HO399; clear HO404; clear HO408; clear BK377; clear HI367; clear HB; have HO_4 := n0_; have HO_6 := n1_; have HO_7 := n2_; have HO_378001 := n3_; have HO392 := n4_; have HO395 := n5_; have HO399 := n6_; have HO404 := n7_; have HO408 := n8_; have BK377 := n9_; have HI367 := n10_; have HB := n11_; clear n0_ n1_ n2_ n3_ n4_ n5_ n6_ n7_ n8_ n9_ n10_ n11_; (try clear hb); (try clear hb2); (try clear hk); (try clear hi)) | (go_at_call 24; (with_reducible refine (stemma_Fewest.calls k1 _ _ t390 t411 t412 _ ?side1 ?side2 A26.out).mono ?_); (case side1 => repeat (first | exact (Kd.R_reads' HO392.out).2.2 | (with_reducible refine Kd.C_alloc ?_ _) | (with_reducible refine Kd.C_drewN ?_ _) | (with_reducible refine Kd.C_drew ?_))); (case side2 => exact (Kd.R_reads' HO392.out).2.1); rintro e w37 ⟨rfl, hb⟩; have n0_ := Aside0.mk (Kd.R_below (by (with_reducible repeat (first | apply Kd.R_alloc | apply Kd.R_drewN | apply Kd.R_drew)); exact HO_4.out) hb); have n1_ := Aside0.mk (Kd.R_below (by (with_reducible repeat (first | apply Kd.R_alloc | apply Kd.R_drewN | apply Kd.R_drew)); exact HO_6.out) hb); have n2_ := Aside0.mk (Kd.R_below (by (with_reducible repeat (first | apply Kd.R_alloc | apply Kd.R_drewN | apply Kd.R_drew)); exact HO_7.out) hb); have n3_ := Aside0.mk (Kd.R_below (by (with_reducible repeat (first | apply Kd.R_alloc | apply Kd.R_drewN | apply Kd.R_drew)); exact HO_378001.out) hb); have n4_ := Aside0.mk (Kd.R_below (by (with_reducible repeat (first | apply Kd.R_alloc | apply Kd.R_drewN | apply Kd.R_drew)); exact HO392.out) hb); have n5_ := Aside0.mk (Kd.N_below (by (with_reducible repeat (first | apply Kd.N_alloc | apply Kd.N_drewN | apply Kd.N_drew)); exact HO395.out) hb); have n6_ := Aside0.mk (Kd.N_below (by (with_reducible repeat (first | apply Kd.N_alloc | apply Kd.N_drewN | apply Kd.N_drew)); exact HO399.out) hb); have n7_ := Aside0.mk (Kd.R_below (by (with_reducible repeat (first | apply Kd.R_alloc | apply Kd.R_drewN | apply Kd.R_drew)); exact HO404.out) hb); have n8_ := Aside0.mk (Kd.R_below (by (with_reducible repeat (first | apply Kd.R_alloc | apply Kd.R_drewN | apply Kd.R_drew)); exact HO408.out) hb); have n9_ := Aside0.mk (blk_below (g := gb377) (o := .cells #[.string t371, .slice Ao11 t372.length co11] 27 (0, 0)) (by (with_reducible repeat (first | refine blk_drewN ?_ _ | refine blk_drew ?_ | refine blk_alloc ?_ _)); exact BK377.out) hb); have n10_ := Aside0.mk (IsS72.below (by repeat (first | (with_reducible first | exact HI367.out | apply IsS72.alloc | apply IsS72.drewN | apply IsS72.drew | apply IsS72.set_0 | apply IsS72.set_1 | refine IsS72.far ?_ NB367_377.out _) | exact HI367.out)) hb); have n11_ := Aside0.mk (below_step (by repeat (first | (with_reducible first | exact HB.out | apply below_alloc | apply pw_below_drewN | apply below_drew1 | refine below_set ?_ (IsS72.ge HI367.out) | refine below_set ?_ GE377.out) | exact HB.out)) hb); clear HO_4; clear HO_6; clear HO_7; clear HO_378001; clear HO392; clear HO395; clear HO399; clear HO404; clear HO408; clear BK377; clear HI367; clear HB; have HO_4 := n0_; have HO_6 := n1_; have HO_7 := n2_; have HO_378001 := n3_; have HO392 := n4_; have HO395 := n5_; have HO399 := n6_; have HO404 := n7_; have HO408 := n8_; have BK377 := n9_; have HI367 := n10_; have HB := n11_; clear n0_ n1_ n2_ n3_ n4_ n5_ n6_ n7_ n8_ n9_ n10_ n11_; (try clear hb); (try clear hb2); (try clear hk); (try clear hi)))
     repeat (go_quiet (first | (go_at_call 30; (with_reducible refine (stemma_Sources.calls k1 _ _ t368 t393 t396 _ ?side1 ?side2 A21.out).mono ?_); (case side1 => repeat (first | exact (Kd.R_reads' HO_4.out).2.2 | (with_reducible refine Kd.C_alloc ?_ _) | (with_reducible refine Kd.C_drewN ?_ _) | (with_reducible refine Kd.C_drew ?_))); (case side2 => exact (Kd.R_reads' HO_4.out).2.1); rintro e w31 ⟨v394, rfl, ho0, hb⟩; have n0_ := Aside0.mk (Kd.R_below (by (with_reducible repeat (first | apply Kd.R_alloc | apply Kd.R_drewN | apply Kd.R_drew)); exact HO_4.out) hb); have n1_ := Aside0.mk (Kd.R_below (by (with_reducible repeat (first | apply Kd.R_alloc | apply Kd.R_drewN | apply Kd.R_drew)); exact HO_6.out) hb); have n2_ := Aside0.mk (Kd.R_below (by (with_reducible repeat (first | apply Kd.R_alloc | apply Kd.R_drewN | apply Kd.R_drew)); exact HO_7.out) hb); have n3_ := Aside0.mk (Kd.R_below (by (with_reducible repeat (first | apply Kd.R_alloc | apply Kd.R_drewN | apply Kd.R_drew)); exact HO_378001.out) hb); have n4_ := Aside0.mk (Kd.R_below (by (with_reducible repeat (first | apply Kd.R_alloc | apply Kd.R_drewN | apply Kd.R_drew)); exact HO392.out) hb); have n5_ := Aside0.mk (Kd.N_lower (Kd.N_mono (ok' := fun k_ => some k_ ≠ (.slice (some ad378) t368.length co12 : Value).ownBlock ∧ some k_ ≠ (.slice Ao28 t379.length co28 : Value).ownBlock ∧ some k_ ≠ (.slice Ao29 x7_1.length co29 : Value).ownBlock ∧ some k_ ≠ (.slice Ao11 t372.length co11 : Value).ownBlock ∧ some k_ ≠ (v391 : Value).ownBlock ∧ k_ ≠ gb377 ∧ k_ ≠ g367) ho0 (fun k_ hk_ => ⟨(Kd.fresh' (Kd.R_lt (by (with_reducible repeat (first | apply Kd.R_alloc | apply Kd.R_drewN | apply Kd.R_drew)); exact HO_4.out)) k_ hk_), (Kd.fresh' (Kd.R_lt (by (with_reducible repeat (first | apply Kd.R_alloc | apply Kd.R_drewN | apply Kd.R_drew)); exact HO_6.out)) k_ hk_), (Kd.fresh' (Kd.R_lt (by (with_reducible repeat (first | apply Kd.R_alloc | apply Kd.R_drewN | apply Kd.R_drew)); exact HO_7.out)) k_ hk_), (Kd.fresh' (Kd.R_lt (by (with_reducible repeat (first | apply Kd.R_alloc | apply Kd.R_drewN | apply Kd.R_drew)); exact HO_378001.out)) k_ hk_), (Kd.fresh' (Kd.R_lt (by (with_reducible repeat (first | apply Kd.R_alloc | apply Kd.R_drewN | apply Kd.R_drew)); exact HO392.out)) k_ hk_), (Kd.freshB (g := gb377) (o := .cells #[.string t371, .slice Ao11 t372.length co11] 27 (0, 0)) (by (with_reducible repeat (first | refine blk_drewN ?_ _ | refine blk_drew ?_ | refine blk_alloc ?_ _)); exact BK377.out) k_ hk_), (IsS72.fresh (by repeat (first | (with_reducible first | exact HI367.out | apply IsS72.alloc | apply IsS72.drewN | apply IsS72.drew | apply IsS72.set_0 | apply IsS72.set_1 | refine IsS72.far ?_ NB367_377.out _) | exact HI367.out)) k_ hk_)⟩)) (below_size (by repeat (first | (with_reducible first | exact HB.out | apply below_alloc | apply pw_below_drewN | apply below_drew1 | refine below_set ?_ (IsS72.ge HI367.out) | refine below_set ?_ GE377.out) | exact HB.out)))); have n6_ := Aside0.mk (blk_below (g := gb377) (o := .cells #[.string t371, .slice Ao11 t372.length co11] 27 (0, 0)) (by (with_reducible repeat (first | refine blk_drewN ?_ _ | refine blk_drew ?_ | refine blk_alloc ?_ _)); exact BK377.out) hb); have n7_ := Aside0.mk (IsS72.below (by repeat (first | (with_reducible first | exact HI367.out | apply IsS72.alloc | apply IsS72.drewN | apply IsS72.drew | apply IsS72.set_0 | apply IsS72.set_1 | refine IsS72.far ?_ NB367_377.out _) | exact HI367.out)) hb); have n8_ := Aside0.mk (below_step (by repeat (first | (with_reducible first | exact HB.out | apply below_alloc | apply pw_below_drewN | apply below_drew1 | refine below_set ?_ (IsS72.ge HI367.out) | refine below_set ?_ GE377.out) | exact HB.out)) hb); clear HO_4; clear HO_6; clear HO_7; clear HO_378001; clear HO392; clear BK377; clear HI367; clear HB; have HO_4 := n0_; have HO_6 := n1_; have HO_7 := n2_; have HO_378001 := n3_; have HO392 := n4_; have HO395 := n5_; have BK377 := n6_; have HI367 := n7_; have HB := n8_; clear n0_ n1_ n2_ n3_ n4_ n5_ n6_ n7_ n8_; (try clear hb); (try clear hb2); (try clear hk); (try clear hi); (try clear ho0); obtain ⟨Ao32, co32, eo32⟩ := Kd.R_slice HO392.out; subst eo32) | (go_at_call 30; (with_reducible refine (stemma_Sources.calls k1 _ _ t390 t397 t400 _ ?side1 ?side2 A22.out).mono ?_); (case side1 => repeat (first | exact (Kd.R_reads' HO392.out).2.2 | (with_reducible refine Kd.C_alloc ?_ _) | (with_reducible refine Kd.C_drewN ?_ _) | (with_reducible refine Kd.C_drew ?_))); (case side2 => exact (Kd.R_reads' HO392.out).2.1); rintro e w33 ⟨v398, rfl, ho0, hb⟩; have n0_ := Aside0.mk (Kd.R_below (by (with_reducible repeat (first | apply Kd.R_alloc | apply Kd.R_drewN | apply Kd.R_drew)); exact HO_4.out) hb); have n1_ := Aside0.mk (Kd.R_below (by (with_reducible repeat (first | apply Kd.R_alloc | apply Kd.R_drewN | apply Kd.R_drew)); exact HO_6.out) hb); have n2_ := Aside0.mk (Kd.R_below (by (with_reducible repeat (first | apply Kd.R_alloc | apply Kd.R_drewN | apply Kd.R_drew)); exact HO_7.out) hb); have n3_ := Aside0.mk (Kd.R_below (by (with_reducible repeat (first | apply Kd.R_alloc | apply Kd.R_drewN | apply Kd.R_drew)); exact HO_378001.out) hb); have n4_ := Aside0.mk (Kd.R_below (by (with_reducible repeat (first | apply Kd.R_alloc | apply Kd.R_drewN | apply Kd.R_drew)); exact HO392.out) hb); have n5_ := Aside0.mk (Kd.N_elder' (by (with_reducible repeat (first | apply Kd.N_alloc | apply Kd.N_drewN | apply Kd.N_drew)); exact HO395.out) (Kd.N_base ho0) hb); have n6_ := Aside0.mk (Kd.N_lower (Kd.N_mono (ok' := fun k_ => some k_ ≠ (.slice (some ad378) t368.length co12 : Value).ownBlock ∧ some k_ ≠ (.slice Ao28 t379.length co28 : Value).ownBlock ∧ some k_ ≠ (.slice Ao29 x7_1.length co29 : Value).ownBlock ∧ some k_ ≠ (.slice Ao11 t372.length co11 : Value).ownBlock ∧ some k_ ≠ (.slice Ao32 t390.length co32 : Value).ownBlock ∧ some k_ ≠ (v394 : Value).ownBlock ∧ k_ ≠ gb377 ∧ k_ ≠ g367) ho0 (fun k_ hk_ => ⟨(Kd.fresh' (Kd.R_lt (by (with_reducible repeat (first | apply Kd.R_alloc | apply Kd.R_drewN | apply Kd.R_drew)); exact HO_4.out)) k_ hk_), (Kd.fresh' (Kd.R_lt (by (with_reducible repeat (first | apply Kd.R_alloc | apply Kd.R_drewN | apply Kd.R_drew)); exact HO_6.out)) k_ hk_), (Kd.fresh' (Kd.R_lt (by (with_reducible repeat (first | apply Kd.R_alloc | apply Kd.R_drewN | apply Kd.R_drew)); exact HO_7.out)) k_ hk_), (Kd.fresh' (Kd.R_lt (by (with_reducible repeat (first | apply Kd.R_alloc | apply Kd.R_drewN | apply Kd.R_drew)); exact HO_378001.out)) k_ hk_), (Kd.fresh' (Kd.R_lt (by (with_reducible repeat (first | apply Kd.R_alloc | apply Kd.R_drewN | apply Kd.R_drew)); exact HO392.out)) k_ hk_), (Kd.fresh' (Kd.N_lt (by (with_reducible repeat (first | apply Kd.N_alloc | apply Kd.N_drewN | apply Kd.N_drew)); exact HO395.out)) k_ hk_), (Kd.freshB (g := gb377) (o := .cells #[.string t371, .slice Ao11 t372.length co11] 27 (0, 0)) (by (with_reducible repeat (first | refine blk_drewN ?_ _ | refine blk_drew ?_ | refine blk_alloc ?_ _)); exact BK377.out) k_ hk_), (IsS72.fresh (by repeat (first | (with_reducible first | exact HI367.out | apply IsS72.alloc | apply IsS72.drewN | apply IsS72.drew | apply IsS72.set_0 | apply IsS72.set_1 | refine IsS72.far ?_ NB367_377.out _) | exact HI367.out)) k_ hk_)⟩)) (below_size (by repeat (first | (with_reducible first | exact HB.out | apply below_alloc | apply pw_below_drewN | apply below_drew1 | refine below_set ?_ (IsS72.ge HI367.out) | refine below_set ?_ GE377.out) | exact HB.out)))); have n7_ := Aside0.mk (blk_below (g := gb377) (o := .cells #[.string t371, .slice Ao11 t372.length co11] 27 (0, 0)) (by (with_reducible repeat (first | refine blk_drewN ?_ _ | refine blk_drew ?_ | refine blk_alloc ?_ _)); exact BK377.out) hb); have n8_ := Aside0.mk (IsS72.below (by repeat (first | (with_reducible first | exact HI367.out | apply IsS72.alloc | apply IsS72.drewN | apply IsS72.drew | apply IsS72.set_0 | apply IsS72.set_1 | refine IsS72.far ?_ NB367_377.out _) | exact HI367.out)) hb); have n9_ := Aside0.mk (below_step (by repeat (first | (with_reducible first | exact HB.out | apply below_alloc | apply pw_below_drewN | apply below_drew1 | refine below_set ?_ (IsS72.ge HI367.out) | refine below_set ?_ GE377.out) | exact HB.out)) hb); clear HO_4; clear HO_6; clear HO_7; clear HO_378001; clear HO392; clear HO395; clear BK377; clear HI367; clear HB; have HO_4 := n0_; have HO_6 := n1_; have HO_7 := n2_; have HO_378001 := n3_; have HO392 := n4_; have HO395 := n5_; have HO399 := n6_; have BK377 := n7_; have HI367 := n8_; have HB := n9_; clear n0_ n1_ n2_ n3_ n4_ n5_ n6_ n7_ n8_ n9_; (try clear hb); (try clear hb2); (try clear hk); (try clear hi); (try clear ho0)) | (go_at_call 18; (with_reducible refine (stemma_Letters.calls k1 _ _ t368 t401 t402 _ ?side1 ?side2 A23.out).mono ?_); (case side1 => repeat (first | exact (Kd.R_reads' HO_4.out).2.2 | (with_reducible refine Kd.C_alloc ?_ _) | (with_reducible refine Kd.C_drewN ?_ _) | (with_reducible refine Kd.C_drew ?_))); (case side2 => exact (Kd.R_reads' HO_4.out).2.1); rintro e w34 ⟨v403, rfl, ho0, hb⟩; have n0_ := Aside0.mk (Kd.R_below (by (with_reducible repeat (first | apply Kd.R_alloc | apply Kd.R_drewN | apply Kd.R_drew)); exact HO_4.out) hb); have n1_ := Aside0.mk (Kd.R_below (by (with_reducible repeat (first | apply Kd.R_alloc | apply Kd.R_drewN | apply Kd.R_drew)); exact HO_6.out) hb); have n2_ := Aside0.mk (Kd.R_below (by (with_reducible repeat (first | apply Kd.R_alloc | apply Kd.R_drewN | apply Kd.R_drew)); exact HO_7.out) hb); have n3_ := Aside0.mk (Kd.R_below (by (with_reducible repeat (first | apply Kd.R_alloc | apply Kd.R_drewN | apply Kd.R_drew)); exact HO_378001.out) hb); have n4_ := Aside0.mk (Kd.R_below (by (with_reducible repeat (first | apply Kd.R_alloc | apply Kd.R_drewN | apply Kd.R_drew)); exact HO392.out) hb); have n5_ := Aside0.mk (Kd.N_elder' (by (with_reducible repeat (first | apply Kd.N_alloc | apply Kd.N_drewN | apply Kd.N_drew)); exact HO395.out) (Kd.R_base ho0) hb); have n6_ := Aside0.mk (Kd.N_elder' (by (with_reducible repeat (first | apply Kd.N_alloc | apply Kd.N_drewN | apply Kd.N_drew)); exact HO399.out) (Kd.R_base ho0) hb); have n7_ := Aside0.mk (Kd.R_lower ho0 (below_size (by repeat (first | (with_reducible first | exact HB.out | apply below_alloc | apply pw_below_drewN | apply below_drew1 | refine below_set ?_ (IsS72.ge HI367.out) | refine below_set ?_ GE377.out) | exact HB.out)))); have n8_ := Aside0.mk (blk_below (g := gb377) (o := .cells #[.string t371, .slice Ao11 t372.length co11] 27 (0, 0)) (by (with_reducible repeat (first | refine blk_drewN ?_ _ | refine blk_drew ?_ | refine blk_alloc ?_ _)); exact BK377.out) hb); have n9_ := Aside0.mk (IsS72.below (by repeat (first | (with_reducible first | exact HI367.out | apply IsS72.alloc | apply IsS72.drewN | apply IsS72.drew | apply IsS72.set_0 | apply IsS72.set_1 | refine IsS72.far ?_ NB367_377.out _) | exact HI367.out)) hb); have n10_ := Aside0.mk (below_step (by repeat (first | (with_reducible first | exact HB.out | apply below_alloc | apply pw_below_drewN | apply below_drew1 | refine below_set ?_ (IsS72.ge HI367.out) | refine below_set ?_ GE377.out) | exact HB.out)) hb); clear HO_4; clear HO_6; clear HO_7; clear HO_378001; clear HO392; clear HO395; clear HO399; clear BK377; clear HI367; clear HB; have HO_4 := n0_; have HO_6 := n1_; have HO_7 := n2_; have HO_378001 := n3_; have HO392 := n4_; have HO395 := n5_; have HO399 := n6_; have HO404 := n7_; have BK377 := n8_; have HI367 := n9_; have HB := n10_; clear n0_ n1_ n2_ n3_ n4_ n5_ n6_ n7_ n8_ n9_ n10_; (try clear hb); (try clear hb2); (try clear hk); (try clear hi); (try clear ho0)) | (go_at_call 18; (with_reducible refine (stemma_Letters.calls k1 _ _ t390 t405 t406 _ ?side1 ?side2 A24.out).mono ?_); (case side1 => repeat (first | exact (Kd.R_reads' HO392.out).2.2 | (with_reducible refine Kd.C_alloc ?_ _) | (with_reducible refine Kd.C_drewN ?_ _) | (with_reducible refine Kd.C_drew ?_))); (case side2 => exact (Kd.R_reads' HO392.out).2.1); rintro e w35 ⟨v407, rfl, ho0, hb⟩; have n0_ := Aside0.mk (Kd.R_below (by (with_reducible repeat (first | apply Kd.R_alloc | apply Kd.R_drewN | apply Kd.R_drew)); exact HO_4.out) hb); have n1_ := Aside0.mk (Kd.R_below (by (with_reducible repeat (first | apply Kd.R_alloc | apply Kd.R_drewN | apply Kd.R_drew)); exact HO_6.out) hb); have n2_ := Aside0.mk (Kd.R_below (by (with_reducible repeat (first | apply Kd.R_alloc | apply Kd.R_drewN | apply Kd.R_drew)); exact HO_7.out) hb); have n3_ := Aside0.mk (Kd.R_below (by (with_reducible repeat (first | apply Kd.R_alloc | apply Kd.R_drewN | apply Kd.R_drew)); exact HO_378001.out) hb); have n4_ := Aside0.mk (Kd.R_below (by (with_reducible repeat (first | apply Kd.R_alloc | apply Kd.R_drewN | apply Kd.R_drew)); exact HO392.out) hb); have n5_ := Aside0.mk (Kd.N_elder' (by (with_reducible repeat (first | apply Kd.N_alloc | apply Kd.N_drewN | apply Kd.N_drew)); exact HO395.out) (Kd.R_base ho0) hb); have n6_ := Aside0.mk (Kd.N_elder' (by (with_reducible repeat (first | apply Kd.N_alloc | apply Kd.N_drewN | apply Kd.N_drew)); exact HO399.out) (Kd.R_base ho0) hb); have n7_ := Aside0.mk (Kd.R_elder' (by (with_reducible repeat (first | apply Kd.R_alloc | apply Kd.R_drewN | apply Kd.R_drew)); exact HO404.out) (Kd.R_base ho0) hb); have n8_ := Aside0.mk (Kd.R_lower (Kd.R_new' ho0 (Kd.R_lt (by (with_reducible repeat (first | apply Kd.R_alloc | apply Kd.R_drewN | apply Kd.R_drew)); exact HO404.out))) (below_size (by repeat (first | (with_reducible first | exact HB.out | apply below_alloc | apply pw_below_drewN | apply below_drew1 | refine below_set ?_ (IsS72.ge HI367.out) | refine below_set ?_ GE377.out) | exact HB.out)))); have n9_ := Aside0.mk (blk_below (g := gb377) (o := .cells #[.string t371, .slice Ao11 t372.length co11] 27 (0, 0)) (by (with_reducible repeat (first | refine blk_drewN ?_ _ | refine blk_drew ?_ | refine blk_alloc ?_ _)); exact BK377.out) hb); have n10_ := Aside0.mk (IsS72.below (by repeat (first | (with_reducible first | exact HI367.out | apply IsS72.alloc | apply IsS72.drewN | apply IsS72.drew | apply IsS72.set_0 | apply IsS72.set_1 | refine IsS72.far ?_ NB367_377.out _) | exact HI367.out)) hb); have n11_ := Aside0.mk (below_step (by repeat (first | (with_reducible first | exact HB.out | apply below_alloc | apply pw_below_drewN | apply below_drew1 | refine below_set ?_ (IsS72.ge HI367.out) | refine below_set ?_ GE377.out) | exact HB.out)) hb); clear HO_4; clear HO_6; clear HO_7; clear HO_378001; clear HO392; clear HO395; clear HO399; clear HO404; clear BK377; clear HI367; clear HB; have HO_4 := n0_; have HO_6 := n1_; have HO_7 := n2_; have HO_378001 := n3_; have HO392 := n4_; have HO395 := n5_; have HO399 := n6_; have HO404 := n7_; have HO408 := n8_; have BK377 := n9_; have HI367 := n10_; have HB := n11_; clear n0_ n1_ n2_ n3_ n4_ n5_ n6_ n7_ n8_ n9_ n10_ n11_; (try clear hb); (try clear hb2); (try clear hk); (try clear hi); (try clear ho0)) | (go_at_call 24; (with_reducible refine (stemma_Fewest.calls k1 _ _ t368 t409 t410 _ ?side1 ?side2 A25.out).mono ?_); (case side1 => repeat (first | exact (Kd.R_reads' HO_4.out).2.2 | (with_reducible refine Kd.C_alloc ?_ _) | (with_reducible refine Kd.C_drewN ?_ _) | (with_reducible refine Kd.C_drew ?_))); (case side2 => exact (Kd.R_reads' HO_4.out).2.1); rintro e w36 ⟨rfl, hb⟩; have n0_ := Aside0.mk (Kd.R_below (by (with_reducible repeat (first | apply Kd.R_alloc | apply Kd.R_drewN | apply Kd.R_drew)); exact HO_4.out) hb); have n1_ := Aside0.mk (Kd.R_below (by (with_reducible repeat (first | apply Kd.R_alloc | apply Kd.R_drewN | apply Kd.R_drew)); exact HO_6.out) hb); have n2_ := Aside0.mk (Kd.R_below (by (with_reducible repeat (first | apply Kd.R_alloc | apply Kd.R_drewN | apply Kd.R_drew)); exact HO_7.out) hb); have n3_ := Aside0.mk (Kd.R_below (by (with_reducible repeat (first | apply Kd.R_alloc | apply Kd.R_drewN | apply Kd.R_drew)); exact HO_378001.out) hb); have n4_ := Aside0.mk (Kd.R_below (by (with_reducible repeat (first | apply Kd.R_alloc | apply Kd.R_drewN | apply Kd.R_drew)); exact HO392.out) hb); have n5_ := Aside0.mk (Kd.N_below (by (with_reducible repeat (first | apply Kd.N_alloc | apply Kd.N_drewN | apply Kd.N_drew)); exact HO395.out) hb); have n6_ := Aside0.mk (Kd.N_below (by (with_reducible repeat (first | apply Kd.N_alloc | apply Kd.N_drewN | apply Kd.N_drew)); exact HO399.out) hb); have n7_ := Aside0.mk (Kd.R_below (by (with_reducible repeat (first | apply Kd.R_alloc | apply Kd.R_drewN | apply Kd.R_drew)); exact HO404.out) hb); have n8_ := Aside0.mk (Kd.R_below (by (with_reducible repeat (first | apply Kd.R_alloc | apply Kd.R_drewN | apply Kd.R_drew)); exact HO408.out) hb); have n9_ := Aside0.mk (blk_below (g := gb377) (o := .cells #[.string t371, .slice Ao11 t372.length co11] 27 (0, 0)) (by (with_reducible repeat (first | refine blk_drewN ?_ _ | refine blk_drew ?_ | refine blk_alloc ?_ _)); exact BK377.out) hb); have n10_ := Aside0.mk (IsS72.below (by repeat (first | (with_reducible first | exact HI367.out | apply IsS72.alloc | apply IsS72.drewN | apply IsS72.drew | apply IsS72.set_0 | apply IsS72.set_1 | refine IsS72.far ?_ NB367_377.out _) | exact HI367.out)) hb); have n11_ := Aside0.mk (below_step (by repeat (first | (with_reducible first | exact HB.out | apply below_alloc | apply pw_below_drewN | apply below_drew1 | refine below_set ?_ (IsS72.ge HI367.out) | refine below_set ?_ GE377.out) | exact HB.out)) hb); clear HO_4; clear HO_6; clear HO_7; clear HO_378001; clear HO392; clear HO395; clear HO399; clear HO404; clear HO408; clear BK377; clear HI367; clear HB; have HO_4 := n0_; have HO_6 := n1_; have HO_7 := n2_; have HO_378001 := n3_; have HO392 := n4_; have HO395 := n5_; have HO399 := n6_; have HO404 := n7_; have HO408 := n8_; have BK377 := n9_; have HI367 := n10_; have HB := n11_; clear n0_ n1_ n2_ n3_ n4_ n5_ n6_ n7_ n8_ n9_ n10_ n11_; (try clear hb); (try clear hb2); (try clear hk); (try clear hi)) | (go_at_call 24; (with_reducible refine (stemma_Fewest.calls k1 _ _ t390 t411 t412 _ ?side1 ?side2 A26.out).mono ?_); (case side1 => repeat (first | exact (Kd.R_reads' HO392.out).2.2 | (with_reducible refine Kd.C_alloc ?_ _) | (with_reducible refine Kd.C_drewN ?_ _) | (with_reducible refine Kd.C_drew ?_))); (case side2 => exact (Kd.R_reads' HO392.out).2.1); rintro e w37 ⟨rfl, hb⟩; have n0_ := Aside0.mk (Kd.R_below (by (with_reducible repeat (first | apply Kd.R_alloc | apply Kd.R_drewN | apply Kd.R_drew)); exact HO_4.out) hb); have n1_ := Aside0.mk (Kd.R_below (by (with_reducible repeat (first | apply Kd.R_alloc | apply Kd.R_drewN | apply Kd.R_drew)); exact HO_6.out) hb); have n2_ := Aside0.mk (Kd.R_below (by (with_reducible repeat (first | apply Kd.R_alloc | apply Kd.R_drewN | apply Kd.R_drew)); exact HO_7.out) hb); have n3_ := Aside0.mk (Kd.R_below (by (with_reducible repeat (first | apply Kd.R_alloc | apply Kd.R_drewN | apply Kd.R_drew)); exact HO_378001.out) hb); have n4_ := Aside0.mk (Kd.R_below (by (with_reducible repeat (first | apply Kd.R_alloc | apply Kd.R_drewN | apply Kd.R_drew)); exact HO392.out) hb); have n5_ := Aside0.mk (Kd.N_below (by (with_reducible repeat (first | apply Kd.N_alloc | apply Kd.N_drewN | apply Kd.N_drew)); exact HO395.out) hb); have n6_ := Aside0.mk (Kd.N_below (by (with_reducible repeat (first | apply Kd.N_alloc | apply Kd.N_drewN | apply Kd.N_drew)); exact HO399.out) hb); have n7_ := Aside0.mk (Kd.R_below (by (with_reducible repeat (first | apply Kd.R_alloc | apply Kd.R_drewN | apply Kd.R_drew)); exact HO404.out) hb); have n8_ := Aside0.mk (Kd.R_below (by (with_reducible repeat (first | apply Kd.R_alloc | apply Kd.R_drewN | apply Kd.R_drew)); exact HO408.out) hb); have n9_ := Aside0.mk (blk_below (g := gb377) (o := .cells #[.string t371, .slice Ao11 t372.length co11] 27 (0, 0)) (by (with_reducible repeat (first | refine blk_drewN ?_ _ | refine blk_drew ?_ | refine blk_alloc ?_ _)); exact BK377.out) hb); have n10_ := Aside0.mk (IsS72.below (by repeat (first | (with_reducible first | exact HI367.out | apply IsS72.alloc | apply IsS72.drewN | apply IsS72.drew | apply IsS72.set_0 | apply IsS72.set_1 | refine IsS72.far ?_ NB367_377.out _) | exact HI367.out)) hb); have n11_ := Aside0.mk (below_step (by repeat (first | (with_reducible first | exact HB.out | apply below_alloc | apply pw_below_drewN | apply below_drew1 | refine below_set ?_ (IsS72.ge HI367.out) | refine below_set ?_ GE377.out) | exact HB.out)) hb); clear HO_4; clear HO_6; clear HO_7; clear HO_378001; clear HO392; clear HO395; clear HO399; clear HO404; clear HO408; clear BK377; clear HI367; clear HB; have HO_4 := n0_; have HO_6 := n1_; have HO_7 := n2_; have HO_378001 := n3_; have HO392 := n4_; have HO395 := n5_; have HO399 := n6_; have HO404 := n7_; have HO408 := n8_; have BK377 := n9_; have HI367 := n10_; have HB := n11_; clear n0_ n1_ n2_ n3_ n4_ n5_ n6_ n7_ n8_ n9_ n10_ n11_; (try clear hb); (try clear hb2); (try clear hk); (try clear hi))); go_upto_region 24 with (first | (go_at_call 30; (with_reducible refine (stemma_Sources.calls k1 _ _ t368 t393 t396 _ ?side1 ?side2 A21.out).mono ?_); (case side1 => repeat (first | exact (Kd.R_reads' HO_4.out).2.2 | (with_reducible refine Kd.C_alloc ?_ _) | (with_reducible refine Kd.C_drewN ?_ _) | (with_reducible refine Kd.C_drew ?_))); (case side2 => exact (Kd.R_reads' HO_4.out).2.1); rintro e w31 ⟨v394, rfl, ho0, hb⟩; have n0_ := Aside0.mk (Kd.R_below (by (with_reducible repeat (first | apply Kd.R_alloc | apply Kd.R_drewN | apply Kd.R_drew)); exact HO_4.out) hb); have n1_ := Aside0.mk (Kd.R_below (by (with_reducible repeat (first | apply Kd.R_alloc | apply Kd.R_drewN | apply Kd.R_drew)); exact HO_6.out) hb); have n2_ := Aside0.mk (Kd.R_below (by (with_reducible repeat (first | apply Kd.R_alloc | apply Kd.R_drewN | apply Kd.R_drew)); exact HO_7.out) hb); have n3_ := Aside0.mk (Kd.R_below (by (with_reducible repeat (first | apply Kd.R_alloc | apply Kd.R_drewN | apply Kd.R_drew)); exact HO_378001.out) hb); have n4_ := Aside0.mk (Kd.R_below (by (with_reducible repeat (first | apply Kd.R_alloc | apply Kd.R_drewN | apply Kd.R_drew)); exact HO392.out) hb); have n5_ := Aside0.mk (Kd.N_lower (Kd.N_mono (ok' := fun k_ => some k_ ≠ (.slice (some ad378) t368.length co12 : Value).ownBlock ∧ some k_ ≠ (.slice Ao28 t379.length co28 : Value).ownBlock ∧ some k_ ≠ (.slice Ao29 x7_1.length co29 : Value).ownBlock ∧ some k_ ≠ (.slice Ao11 t372.length co11 : Value).ownBlock ∧ some k_ ≠ (v391 : Value).ownBlock ∧ k_ ≠ gb377 ∧ k_ ≠ g367) ho0 (fun k_ hk_ => ⟨(Kd.fresh' (Kd.R_lt (by (with_reducible repeat (first | apply Kd.R_alloc | apply Kd.R_drewN | apply Kd.R_drew)); exact HO_4.out)) k_ hk_), (Kd.fresh' (Kd.R_lt (by (with_reducible repeat (first | apply Kd.R_alloc | apply Kd.R_drewN | apply Kd.R_drew)); exact HO_6.out)) k_ hk_), (Kd.fresh' (Kd.R_lt (by (with_reducible repeat (first | apply Kd.R_alloc | apply Kd.R_drewN | apply Kd.R_drew)); exact HO_7.out)) k_ hk_), (Kd.fresh' (Kd.R_lt (by (with_reducible repeat (first | apply Kd.R_alloc | apply Kd.R_drewN | apply Kd.R_drew)); exact HO_378001.out)) k_ hk_), (Kd.fresh' (Kd.R_lt (by (with_reducible repeat (first | apply Kd.R_alloc | apply Kd.R_drewN | apply Kd.R_drew)); exact HO392.out)) k_ hk_), (Kd.freshB (g := gb377) (o := .cells #[.string t371, .slice Ao11 t372.length co11] 27 (0, 0)) (by (with_reducible repeat (first | refine blk_drewN ?_ _ | refine blk_drew ?_ | refine blk_alloc ?_ _)); exact BK377.out) k_ hk_), (IsS72.fresh (by repeat (first | (with_reducible first | exact HI367.out | apply IsS72.alloc | apply IsS72.drewN | apply IsS72.drew | apply IsS72.set_0 | apply IsS72.set_1 | refine IsS72.far ?_ NB367_377.out _) | exact HI367.out)) k_ hk_)⟩)) (below_size (by repeat (first | (with_reducible first | exact HB.out | apply below_alloc | apply pw_below_drewN | apply below_drew1 | refine below_set ?_ (IsS72.ge HI367.out) | refine below_set ?_ GE377.out) | exact HB.out)))); have n6_ := Aside0.mk (blk_below (g := gb377) (o := .cells #[.string t371, .slice Ao11 t372.length co11] 27 (0, 0)) (by (with_reducible repeat (first | refine blk_drewN ?_ _ | refine blk_drew ?_ | refine blk_alloc ?_ _)); exact BK377.out) hb); have n7_ := Aside0.mk (IsS72.below (by repeat (first | (with_reducible first | exact HI367.out | apply IsS72.alloc | apply IsS72.drewN | apply IsS72.drew | apply IsS72.set_0 | apply IsS72.set_1 | refine IsS72.far ?_ NB367_377.out _) | exact HI367.out)) hb); have n8_ := Aside0.mk (below_step (by repeat (first | (with_reducible first | exact HB.out | apply below_alloc | apply pw_below_drewN | apply below_drew1 | refine below_set ?_ (IsS72.ge HI367.out) | refine below_set ?_ GE377.out) | exact HB.out)) hb); clear HO_4; clear HO_6; clear HO_7; clear HO_378001; clear HO392; clear BK377; clear HI367; clear HB; have HO_4 := n0_; have HO_6 := n1_; have HO_7 := n2_; have HO_378001 := n3_; have HO392 := n4_; have HO395 := n5_; have BK377 := n6_; have HI367 := n7_; have HB := n8_; clear n0_ n1_ n2_ n3_ n4_ n5_ n6_ n7_ n8_; (try clear hb); (try clear hb2); (try clear hk); (try clear hi); (try clear ho0); obtain ⟨Ao32, co32, eo32⟩ := Kd.R_slice HO392.out; subst eo32) | (go_at_call 30; (with_reducible refine (stemma_Sources.calls k1 _ _ t390 t397 t400 _ ?side1 ?side2 A22.out).mono ?_); (case side1 => repeat (first | exact (Kd.R_reads' HO392.out).2.2 | (with_reducible refine Kd.C_alloc ?_ _) | (with_reducible refine Kd.C_drewN ?_ _) | (with_reducible refine Kd.C_drew ?_))); (case side2 => exact (Kd.R_reads' HO392.out).2.1); rintro e w33 ⟨v398, rfl, ho0, hb⟩; have n0_ := Aside0.mk (Kd.R_below (by (with_reducible repeat (first | apply Kd.R_alloc | apply Kd.R_drewN | apply Kd.R_drew)); exact HO_4.out) hb); have n1_ := Aside0.mk (Kd.R_below (by (with_reducible repeat (first | apply Kd.R_alloc | apply Kd.R_drewN | apply Kd.R_drew)); exact HO_6.out) hb); have n2_ := Aside0.mk (Kd.R_below (by (with_reducible repeat (first | apply Kd.R_alloc | apply Kd.R_drewN | apply Kd.R_drew)); exact HO_7.out) hb); have n3_ := Aside0.mk (Kd.R_below (by (with_reducible repeat (first | apply Kd.R_alloc | apply Kd.R_drewN | apply Kd.R_drew)); exact HO_378001.out) hb); have n4_ := Aside0.mk (Kd.R_below (by (with_reducible repeat (first | apply Kd.R_alloc | apply Kd.R_drewN | apply Kd.R_drew)); exact HO392.out) hb); have n5_ := Aside0.mk (Kd.N_elder' (by (with_reducible repeat (first | apply Kd.N_alloc | apply Kd.N_drewN | apply Kd.N_drew)); exact HO395.out) (Kd.N_base ho0) hb); have n6_ := Aside0.mk (Kd.N_lower (Kd.N_mono (ok' := fun k_ => some k_ ≠ (.slice (some ad378) t368.length co12 : Value).ownBlock ∧ some k_ ≠ (.slice Ao28 t379.length co28 : Value).ownBlock ∧ some k_ ≠ (.slice Ao29 x7_1.length co29 : Value).ownBlock ∧ some k_ ≠ (.slice Ao11 t372.length co11 : Value).ownBlock ∧ some k_ ≠ (.slice Ao32 t390.length co32 : Value).ownBlock ∧ some k_ ≠ (v394 : Value).ownBlock ∧ k_ ≠ gb377 ∧ k_ ≠ g367) ho0 (fun k_ hk_ => ⟨(Kd.fresh' (Kd.R_lt (by (with_reducible repeat (first | apply Kd.R_alloc | apply Kd.R_drewN | apply Kd.R_drew)); exact HO_4.out)) k_ hk_), (Kd.fresh' (Kd.R_lt (by (with_reducible repeat (first | apply Kd.R_alloc | apply Kd.R_drewN | apply Kd.R_drew)); exact HO_6.out)) k_ hk_), (Kd.fresh' (Kd.R_lt (by (with_reducible repeat (first | apply Kd.R_alloc | apply Kd.R_drewN | apply Kd.R_drew)); exact HO_7.out)) k_ hk_), (Kd.fresh' (Kd.R_lt (by (with_reducible repeat (first | apply Kd.R_alloc | apply Kd.R_drewN | apply Kd.R_drew)); exact HO_378001.out)) k_ hk_), (Kd.fresh' (Kd.R_lt (by (with_reducible repeat (first | apply Kd.R_alloc | apply Kd.R_drewN | apply Kd.R_drew)); exact HO392.out)) k_ hk_), (Kd.fresh' (Kd.N_lt (by (with_reducible repeat (first | apply Kd.N_alloc | apply Kd.N_drewN | apply Kd.N_drew)); exact HO395.out)) k_ hk_), (Kd.freshB (g := gb377) (o := .cells #[.string t371, .slice Ao11 t372.length co11] 27 (0, 0)) (by (with_reducible repeat (first | refine blk_drewN ?_ _ | refine blk_drew ?_ | refine blk_alloc ?_ _)); exact BK377.out) k_ hk_), (IsS72.fresh (by repeat (first | (with_reducible first | exact HI367.out | apply IsS72.alloc | apply IsS72.drewN | apply IsS72.drew | apply IsS72.set_0 | apply IsS72.set_1 | refine IsS72.far ?_ NB367_377.out _) | exact HI367.out)) k_ hk_)⟩)) (below_size (by repeat (first | (with_reducible first | exact HB.out | apply below_alloc | apply pw_below_drewN | apply below_drew1 | refine below_set ?_ (IsS72.ge HI367.out) | refine below_set ?_ GE377.out) | exact HB.out)))); have n7_ := Aside0.mk (blk_below (g := gb377) (o := .cells #[.string t371, .slice Ao11 t372.length co11] 27 (0, 0)) (by (with_reducible repeat (first | refine blk_drewN ?_ _ | refine blk_drew ?_ | refine blk_alloc ?_ _)); exact BK377.out) hb); have n8_ := Aside0.mk (IsS72.below (by repeat (first | (with_reducible first | exact HI367.out | apply IsS72.alloc | apply IsS72.drewN | apply IsS72.drew | apply IsS72.set_0 | apply IsS72.set_1 | refine IsS72.far ?_ NB367_377.out _) | exact HI367.out)) hb); have n9_ := Aside0.mk (below_step (by repeat (first | (with_reducible first | exact HB.out | apply below_alloc | apply pw_below_drewN | apply below_drew1 | refine below_set ?_ (IsS72.ge HI367.out) | refine below_set ?_ GE377.out) | exact HB.out)) hb); clear HO_4; clear HO_6; clear HO_7; clear HO_378001; clear HO392; clear HO395; clear BK377; clear HI367; clear HB; have HO_4 := n0_; have HO_6 := n1_; have HO_7 := n2_; have HO_378001 := n3_; have HO392 := n4_; have HO395 := n5_; have HO399 := n6_; have BK377 := n7_; have HI367 := n8_; have HB := n9_; clear n0_ n1_ n2_ n3_ n4_ n5_ n6_ n7_ n8_ n9_; (try clear hb); (try clear hb2); (try clear hk); (try clear hi); (try clear ho0)) | (go_at_call 18; (with_reducible refine (stemma_Letters.calls k1 _ _ t368 t401 t402 _ ?side1 ?side2 A23.out).mono ?_); (case side1 => repeat (first | exact (Kd.R_reads' HO_4.out).2.2 | (with_reducible refine Kd.C_alloc ?_ _) | (with_reducible refine Kd.C_drewN ?_ _) | (with_reducible refine Kd.C_drew ?_))); (case side2 => exact (Kd.R_reads' HO_4.out).2.1); rintro e w34 ⟨v403, rfl, ho0, hb⟩; have n0_ := Aside0.mk (Kd.R_below (by (with_reducible repeat (first | apply Kd.R_alloc | apply Kd.R_drewN | apply Kd.R_drew)); exact HO_4.out) hb); have n1_ := Aside0.mk (Kd.R_below (by (with_reducible repeat (first | apply Kd.R_alloc | apply Kd.R_drewN | apply Kd.R_drew)); exact HO_6.out) hb); have n2_ := Aside0.mk (Kd.R_below (by (with_reducible repeat (first | apply Kd.R_alloc | apply Kd.R_drewN | apply Kd.R_drew)); exact HO_7.out) hb); have n3_ := Aside0.mk (Kd.R_below (by (with_reducible repeat (first | apply Kd.R_alloc | apply Kd.R_drewN | apply Kd.R_drew)); exact HO_378001.out) hb); have n4_ := Aside0.mk (Kd.R_below (by (with_reducible repeat (first | apply Kd.R_alloc | apply Kd.R_drewN | apply Kd.R_drew)); exact HO392.out) hb); have n5_ := Aside0.mk (Kd.N_elder' (by (with_reducible repeat (first | apply Kd.N_alloc | apply Kd.N_drewN | apply Kd.N_drew)); exact HO395.out) (Kd.R_base ho0) hb); have n6_ := Aside0.mk (Kd.N_elder' (by (with_reducible repeat (first | apply Kd.N_alloc | apply Kd.N_drewN | apply Kd.N_drew)); exact HO399.out) (Kd.R_base ho0) hb); have n7_ := Aside0.mk (Kd.R_lower ho0 (below_size (by repeat (first | (with_reducible first | exact HB.out | apply below_alloc | apply pw_below_drewN | apply below_drew1 | refine below_set ?_ (IsS72.ge HI367.out) | refine below_set ?_ GE377.out) | exact HB.out)))); have n8_ := Aside0.mk (blk_below (g := gb377) (o := .cells #[.string t371, .slice Ao11 t372.length co11] 27 (0, 0)) (by (with_reducible repeat (first | refine blk_drewN ?_ _ | refine blk_drew ?_ | refine blk_alloc ?_ _)); exact BK377.out) hb); have n9_ := Aside0.mk (IsS72.below (by repeat (first | (with_reducible first | exact HI367.out | apply IsS72.alloc | apply IsS72.drewN | apply IsS72.drew | apply IsS72.set_0 | apply IsS72.set_1 | refine IsS72.far ?_ NB367_377.out _) | exact HI367.out)) hb); have n10_ := Aside0.mk (below_step (by repeat (first | (with_reducible first | exact HB.out | apply below_alloc | apply pw_below_drewN | apply below_drew1 | refine below_set ?_ (IsS72.ge HI367.out) | refine below_set ?_ GE377.out) | exact HB.out)) hb); clear HO_4; clear HO_6; clear HO_7; clear HO_378001; clear HO392; clear HO395; clear HO399; clear BK377; clear HI367; clear HB; have HO_4 := n0_; have HO_6 := n1_; have HO_7 := n2_; have HO_378001 := n3_; have HO392 := n4_; have HO395 := n5_; have HO399 := n6_; have HO404 := n7_; have BK377 := n8_; have HI367 := n9_; have HB := n10_; clear n0_ n1_ n2_ n3_ n4_ n5_ n6_ n7_ n8_ n9_ n10_; (try clear hb); (try clear hb2); (try clear hk); (try clear hi); (try clear ho0)) | (go_at_call 18; (with_reducible refine (stemma_Letters.calls k1 _ _ t390 t405 t406 _ ?side1 ?side2 A24.out).mono ?_); (case side1 => repeat (first | exact (Kd.R_reads' HO392.out).2.2 | (with_reducible refine Kd.C_alloc ?_ _) | (with_reducible refine Kd.C_drewN ?_ _) | (with_reducible refine Kd.C_drew ?_))); (case side2 => exact (Kd.R_reads' HO392.out).2.1); rintro e w35 ⟨v407, rfl, ho0, hb⟩; have n0_ := Aside0.mk (Kd.R_below (by (with_reducible repeat (first | apply Kd.R_alloc | apply Kd.R_drewN | apply Kd.R_drew)); exact HO_4.out) hb); have n1_ := Aside0.mk (Kd.R_below (by (with_reducible repeat (first | apply Kd.R_alloc | apply Kd.R_drewN | apply Kd.R_drew)); exact HO_6.out) hb); have n2_ := Aside0.mk (Kd.R_below (by (with_reducible repeat (first | apply Kd.R_alloc | apply Kd.R_drewN | apply Kd.R_drew)); exact HO_7.out) hb); have n3_ := Aside0.mk (Kd.R_below (by (with_reducible repeat (first | apply Kd.R_alloc | apply Kd.R_drewN | apply Kd.R_drew)); exact HO_378001.out) hb); have n4_ := Aside0.mk (Kd.R_below (by (with_reducible repeat (first | apply Kd.R_alloc | apply Kd.R_drewN | apply Kd.R_drew)); exact HO392.out) hb); have n5_ := Aside0.mk (Kd.N_elder' (by (with_reducible repeat (first | apply Kd.N_alloc | apply Kd.N_drewN | apply Kd.N_drew)); exact HO395.out) (Kd.R_base ho0) hb); have n6_ := Aside0.mk (Kd.N_elder' (by (with_reducible repeat (first | apply Kd.N_alloc | apply Kd.N_drewN | apply Kd.N_drew)); exact HO399.out) (Kd.R_base ho0) hb); have n7_ := Aside0.mk (Kd.R_elder' (by (with_reducible repeat (first | apply Kd.R_alloc | apply Kd.R_drewN | apply Kd.R_drew)); exact HO404.out) (Kd.R_base ho0) hb); have n8_ := Aside0.mk (Kd.R_lower (Kd.R_new' ho0 (Kd.R_lt (by (with_reducible repeat (first | apply Kd.R_alloc | apply Kd.R_drewN | apply Kd.R_drew)); exact HO404.out))) (below_size (by repeat (first | (with_reducible first | exact HB.out | apply below_alloc | apply pw_below_drewN | apply below_drew1 | refine below_set ?_ (IsS72.ge HI367.out) | refine below_set ?_ GE377.out) | exact HB.out)))); have n9_ := Aside0.mk (blk_below (g := gb377) (o := .cells #[.string t371, .slice Ao11 t372.length co11] 27 (0, 0)) (by (with_reducible repeat (first | refine blk_drewN ?_ _ | refine blk_drew ?_ | refine blk_alloc ?_ _)); exact BK377.out) hb); have n10_ := Aside0.mk (IsS72.below (by repeat (first | (with_reducible first | exact HI367.out | apply IsS72.alloc | apply IsS72.drewN | apply IsS72.drew | apply IsS72.set_0 | apply IsS72.set_1 | refine IsS72.far ?_ NB367_377.out _) | exact HI367.out)) hb); have n11_ := Aside0.mk (below_step (by repeat (first | (with_reducible first | exact HB.out | apply below_alloc | apply pw_below_drewN | apply below_drew1 | refine below_set ?_ (IsS72.ge HI367.out) | refine below_set ?_ GE377.out) | exact HB.out)) hb); clear HO_4; clear HO_6; clear HO_7; clear HO_378001; clear HO392; clear HO395; clear HO399; clear HO404; clear BK377; clear HI367; clear HB; have HO_4 := n0_; have HO_6 := n1_; have HO_7 := n2_; have HO_378001 := n3_; have HO392 := n4_; have HO395 := n5_; have HO399 := n6_; have HO404 := n7_; have HO408 := n8_; have BK377 := n9_; have HI367 := n10_; have HB := n11_; clear n0_ n1_ n2_ n3_ n4_ n5_ n6_ n7_ n8_ n9_ n10_ n11_; (try clear hb); (try clear hb2); (try clear hk); (try clear hi); (try clear ho0)) | (go_at_call 24; (with_reducible refine (stemma_Fewest.calls k1 _ _ t368 t409 t410 _ ?side1 ?side2 A25.out).mono ?_); (case side1 => repeat (first | exact (Kd.R_reads' HO_4.out).2.2 | (with_reducible refine Kd.C_alloc ?_ _) | (with_reducible refine Kd.C_drewN ?_ _) | (with_reducible refine Kd.C_drew ?_))); (case side2 => exact (Kd.R_reads' HO_4.out).2.1); rintro e w36 ⟨rfl, hb⟩; have n0_ := Aside0.mk (Kd.R_below (by (with_reducible repeat (first | apply Kd.R_alloc | apply Kd.R_drewN | apply Kd.R_drew)); exact HO_4.out) hb); have n1_ := Aside0.mk (Kd.R_below (by (with_reducible repeat (first | apply Kd.R_alloc | apply Kd.R_drewN | apply Kd.R_drew)); exact HO_6.out) hb); have n2_ := Aside0.mk (Kd.R_below (by (with_reducible repeat (first | apply Kd.R_alloc | apply Kd.R_drewN | apply Kd.R_drew)); exact HO_7.out) hb); have n3_ := Aside0.mk (Kd.R_below (by (with_reducible repeat (first | apply Kd.R_alloc | apply Kd.R_drewN | apply Kd.R_drew)); exact HO_378001.out) hb); have n4_ := Aside0.mk (Kd.R_below (by (with_reducible repeat (first | apply Kd.R_alloc | apply Kd.R_drewN | apply Kd.R_drew)); exact HO392.out) hb); have n5_ := Aside0.mk (Kd.N_below (by (with_reducible repeat (first | apply Kd.N_alloc | apply Kd.N_drewN | apply Kd.N_drew)); exact HO395.out) hb); have n6_ := Aside0.mk (Kd.N_below (by (with_reducible repeat (first | apply Kd.N_alloc | apply Kd.N_drewN | apply Kd.N_drew)); exact HO399.out) hb); have n7_ := Aside0.mk (Kd.R_below (by (with_reducible repeat (first | apply Kd.R_alloc | apply Kd.R_drewN | apply Kd.R_drew)); exact HO404.out) hb); have n8_ := Aside0.mk (Kd.R_below (by (with_reducible repeat (first | apply Kd.R_alloc | apply Kd.R_drewN | apply Kd.R_drew)); exact HO408.out) hb); have n9_ := Aside0.mk (blk_below (g := gb377) (o := .cells #[.string t371, .slice Ao11 t372.length co11] 27 (0, 0)) (by (with_reducible repeat (first | refine blk_drewN ?_ _ | refine blk_drew ?_ | refine blk_alloc ?_ _)); exact BK377.out) hb); have n10_ := Aside0.mk (IsS72.below (by repeat (first | (with_reducible first | exact HI367.out | apply IsS72.alloc | apply IsS72.drewN | apply IsS72.drew | apply IsS72.set_0 | apply IsS72.set_1 | refine IsS72.far ?_ NB367_377.out _) | exact HI367.out)) hb); have n11_ := Aside0.mk (below_step (by repeat (first | (with_reducible first | exact HB.out | apply below_alloc | apply pw_below_drewN | apply below_drew1 | refine below_set ?_ (IsS72.ge HI367.out) | refine below_set ?_ GE377.out) | exact HB.out)) hb); clear HO_4; clear HO_6; clear HO_7; clear HO_378001; clear HO392; clear HO395; clear HO399; clear HO404; clear HO408; clear BK377; clear HI367; clear HB; have HO_4 := n0_; have HO_6 := n1_; have HO_7 := n2_; have HO_378001 := n3_; have HO392 := n4_; have HO395 := n5_; have HO399 := n6_; have HO404 := n7_; have HO408 := n8_; have BK377 := n9_; have HI367 := n10_; have HB := n11_; clear n0_ n1_ n2_ n3_ n4_ n5_ n6_ n7_ n8_ n9_ n10_ n11_; (try clear hb); (try clear hb2); (try clear hk); (try clear hi)) | (go_at_call 24; (with_reducible refine (stemma_Fewest.calls k1 _ _ t390 t411 t412 _ ?side1 ?side2 A26.out).mono ?_); (case side1 => repeat (first | exact (Kd.R_reads' HO392.out).2.2 | (with_reducible refine Kd.C_alloc ?_ _) | (with_reducible refine Kd.C_drewN ?_ _) | (with_reducible refine Kd.C_drew ?_))); (case side2 => exact (Kd.R_reads' HO392.out).2.1); rintro e w37 ⟨rfl, hb⟩; have n0_ := Aside0.mk (Kd.R_below (by (with_reducible repeat (first | apply Kd.R_alloc | apply Kd.R_drewN | apply Kd.R_drew)); exact HO_4.out) hb); have n1_ := Aside0.mk (Kd.R_below (by (with_reducible repeat (first | apply Kd.R_alloc | apply Kd.R_drewN | apply Kd.R_drew)); exact HO_6.out) hb); have n2_ := Aside0.mk (Kd.R_below (by (with_reducible repeat (first | apply Kd.R_alloc | apply Kd.R_drewN | apply Kd.R_drew)); exact HO_7.out) hb); have n3_ := Aside0.mk (Kd.R_below (by (with_reducible repeat (first | apply Kd.R_alloc | apply Kd.R_drewN | apply Kd.R_drew)); exact HO_378001.out) hb); have n4_ := Aside0.mk (Kd.R_below (by (with_reducible repeat (first | apply Kd.R_alloc | apply Kd.R_drewN | apply Kd.R_drew)); exact HO392.out) hb); have n5_ := Aside0.mk (Kd.N_below (by (with_reducible repeat (first | apply Kd.N_alloc | apply Kd.N_drewN | apply Kd.N_drew)); exact HO395.out) hb); have n6_ := Aside0.mk (Kd.N_below (by (with_reducible repeat (first | apply Kd.N_alloc | apply Kd.N_drewN | apply Kd.N_drew)); exact HO399.out) hb); have n7_ := Aside0.mk (Kd.R_below (by (with_reducible repeat (first | apply Kd.R_alloc | apply Kd.R_drewN | apply Kd.R_drew)); exact HO404.out) hb); have n8_ := Aside0.mk (Kd.R_below (by (with_reducible repeat (first | apply Kd.R_alloc | apply Kd.R_drewN | apply Kd.R_drew)); exact HO408.out) hb); have n9_ := Aside0.mk (blk_below (g := gb377) (o := .cells #[.string t371, .slice Ao11 t372.length co11] 27 (0, 0)) (by (with_reducible repeat (first | refine blk_drewN ?_ _ | refine blk_drew ?_ | refine blk_alloc ?_ _)); exact BK377.out) hb); have n10_ := Aside0.mk (IsS72.below (by repeat (first | (with_reducible first | exact HI367.out | apply IsS72.alloc | apply IsS72.drewN | apply IsS72.drew | apply IsS72.set_0 | apply IsS72.set_1 | refine IsS72.far ?_ NB367_377.out _) | exact HI367.out)) hb); have n11_ := Aside0.mk (below_step (by repeat (first | (with_reducible first | exact HB.out | apply below_alloc | apply pw_below_drewN | apply below_drew1 | refine below_set ?_ (IsS72.ge HI367.out) | refine below_set ?_ GE377.out) | exact HB.out)) hb); clear HO_4; clear HO_6; clear HO_7; clear HO_378001; clear HO392; clear HO395; clear HO399; clear HO404; clear HO408; clear BK377; clear HI367; clear HB; have HO_4 := n0_; have HO_6 := n1_; have HO_7 := n2_; have HO_378001 := n3_; have HO392 := n4_; have HO395 := n5_; have HO399 := n6_; have HO404 := n7_; have HO408 := n8_; have BK377 := n9_; have HI367 := n10_; have HB := n11_; clear n0_ n1_ n2_ n3_ n4_ n5_ n6_ n7_ n8_ n9_ n10_ n11_; (try clear hb); (try clear hb2); (try clear hk); (try clear hi))))
     (try simp only [Act.put, sA, sB, sC])
     go_cut [177] (fun v177 wc => ∃ (kq : Nat) (x177_26 : Bool), v177 = .bool x177_26 ∧ Aside0 (cippuslaw07_StemmaTurned.j1 kq t379 x7_1 t401 t405 x177_26 = some r) ∧ Aside0 (kq ≤ k1) ∧ Aside0 (Kd.R (Kd.int .i64) 3 wc w.heap.size (fun k_ => some k_ ≠ ((.slice Ao29 x7_1.length co29) : Value).ownBlock ∧ some k_ ≠ ((.slice Ao11 t372.length co11) : Value).ownBlock) (.slice Ao28 t379.length co28) t379) ∧ Aside0 (Kd.R (Kd.int .i64) 3 wc w.heap.size (fun k_ => some k_ ≠ ((.slice Ao28 t379.length co28) : Value).ownBlock ∧ some k_ ≠ ((.slice Ao11 t372.length co11) : Value).ownBlock) (.slice Ao29 x7_1.length co29) x7_1) ∧ Aside0 (Kd.R Kd.string 9 wc w.heap.size (fun k_ => some k_ ≠ (v407 : Value).ownBlock) v403 t401) ∧ Aside0 (Kd.R Kd.string 9 wc w.heap.size (fun k_ => some k_ ≠ (v403 : Value).ownBlock) v407 t405) ∧ Aside0 (Kd.R (Kd.int .i64) 3 wc w.heap.size (fun k_ => some k_ ≠ ((.slice Ao28 t379.length co28) : Value).ownBlock ∧ some k_ ≠ ((.slice Ao29 x7_1.length co29) : Value).ownBlock) (.slice Ao11 t372.length co11) t372) ∧ Aside0 (wc.heap[gb377]? = some (.cells #[.string t371, (.slice Ao11 t372.length co11)] 27 (0, 0))) ∧ Aside0 (Below w.heap.size w wc))
     case first => as_aux_lemma =>
      have H := HC27.out
      clear HC27
      by_cases c38 : t396 = 0
      ·rw [if_pos c38] at H
       have c38b0 : (t396 == 0) = true := beq_iff_eq.mpr c38
       have c38b1 : (t396 != 0) = false := bne_eq_false_iff_eq.mpr c38
       clear c38
       (first | rw [c38b0] | (simp only [i64_w, i32_w]; rw [c38b0]) | skip)
       by_cases c39 : t400 = 0
       ·rw [if_pos c39] at H
        have c39b0 : (t400 == 0) = true := beq_iff_eq.mpr c39
        have c39b1 : (t400 != 0) = false := bne_eq_false_iff_eq.mpr c39
        clear c39
        by_cases c40 : t402 = 0
        ·rw [if_pos c40] at H
         have c40b0 : (t402 == 0) = true := beq_iff_eq.mpr c40
         have c40b1 : (t402 != 0) = false := bne_eq_false_iff_eq.mpr c40
         clear c40
         by_cases c41 : t406 = 0
         ·rw [if_pos c41] at H
          have c41b0 : (t406 == 0) = true := beq_iff_eq.mpr c41
          have c41b1 : (t406 != 0) = false := bne_eq_false_iff_eq.mpr c41
          clear c41
          by_cases c42 : t410 = 0
          ·rw [if_pos c42] at H
           have c42b0 : (t410 == 0) = true := beq_iff_eq.mpr c42
           have c42b1 : (t410 != 0) = false := bne_eq_false_iff_eq.mpr c42
           clear c42
           by_cases c43 : t412 = 0
           ·rw [if_pos c43] at H
            have c43b0 : (t412 == 0) = true := beq_iff_eq.mpr c43
            have c43b1 : (t412 != 0) = false := bne_eq_false_iff_eq.mpr c43
            clear c43
            by_cases c44 : t409 = t411
            ·rw [if_pos c44] at H
             have c44b0 : (t409 == t411) = true := beq_iff_eq.mpr c44
             have c44b1 : (t409 != t411) = false := bne_eq_false_iff_eq.mpr c44
             clear c44
             by_cases c45 : (t401.length : Int) = (t379.length : Int)
             ·rw [if_pos c45] at H
              have c45b0 : ((t401.length : Int) == (t379.length : Int)) = true := beq_iff_eq.mpr c45
              have c45b1 : ((t401.length : Int) != (t379.length : Int)) = false := bne_eq_false_iff_eq.mpr c45
              have c45b2 : (t401.length == t379.length) = true := by first | simpa using c45 | (simp at c45 ⊢; omega)
              clear c45
              by_cases c46 : (t405.length : Int) = (t379.length : Int)
              ·rw [if_pos c46] at H
               have c46b0 : ((t405.length : Int) == (t379.length : Int)) = true := beq_iff_eq.mpr c46
               have c46b1 : ((t405.length : Int) != (t379.length : Int)) = false := bne_eq_false_iff_eq.mpr c46
               have c46b2 : (t405.length == t379.length) = true := by first | simpa using c46 | (simp at c46 ⊢; omega)
               clear c46
               replace H := Option.bind_eq_some_iff.mp H
               obtain ⟨t413, A470, H⟩ := H
               replace H : (cippuslaw07_StemmaTurned.j1 k1 t379 x7_1 t401 t405 (!t413)) = some r := H
               have A47 := Aside0.mk A470
               clear A470
               have H' := Aside0.mk H
               clear H
               obtain ⟨Ao48, co48, eo48⟩ := Kd.R_slice HO404.out
               subst eo48
               obtain ⟨Ao49, co49, eo49⟩ := Kd.R_slice HO408.out
               subst eo49
               obtain ⟨Ao50, co50, eo50⟩ := Kd.N_slice HO395.out
               subst eo50
               obtain ⟨Ao51, co51, eo51⟩ := Kd.N_slice HO399.out
               subst eo51
               go_wp2_with (first | (go_at_call 35; (with_reducible refine (cippuskit_SameGrids.calls k1 _ _ t393 _ _ t397 t413 _ ?side1 ?side2 ?side3 ?side4 A47.out).mono ?_); (case side1 => repeat (first | exact (Kd.N_reads' HO395.out).2.2 | (with_reducible refine Kd.C_alloc ?_ _) | (with_reducible refine Kd.C_drewN ?_ _) | (with_reducible refine Kd.C_drew ?_))); (case side2 => exact (Kd.N_reads' HO395.out).2.1); (case side3 => repeat (first | exact (Kd.N_reads' HO399.out).2.2 | (with_reducible refine Kd.C_alloc ?_ _) | (with_reducible refine Kd.C_drewN ?_ _) | (with_reducible refine Kd.C_drew ?_))); (case side4 => exact (Kd.N_reads' HO399.out).2.1); rintro e w' ⟨rfl, ⟨nd, rfl⟩⟩; (try first | exact ⟨rfl, _, World.drewN_drewN _ _ _⟩ | exact ⟨rfl, _, Eq.trans (World.drewN_drewN _ _ _) (congrArg (World.drewN _) (Nat.add_assoc _ _ _))⟩)))
               repeat (go_quiet (first | (go_at_call 35; (with_reducible refine (cippuskit_SameGrids.calls k1 _ _ t393 _ _ t397 t413 _ ?side1 ?side2 ?side3 ?side4 A47.out).mono ?_); (case side1 => repeat (first | exact (Kd.N_reads' HO395.out).2.2 | (with_reducible refine Kd.C_alloc ?_ _) | (with_reducible refine Kd.C_drewN ?_ _) | (with_reducible refine Kd.C_drew ?_))); (case side2 => exact (Kd.N_reads' HO395.out).2.1); (case side3 => repeat (first | exact (Kd.N_reads' HO399.out).2.2 | (with_reducible refine Kd.C_alloc ?_ _) | (with_reducible refine Kd.C_drewN ?_ _) | (with_reducible refine Kd.C_drew ?_))); (case side4 => exact (Kd.N_reads' HO399.out).2.1); rintro e w' ⟨rfl, ⟨nd, rfl⟩⟩; (try first | exact ⟨rfl, _, World.drewN_drewN _ _ _⟩ | exact ⟨rfl, _, Eq.trans (World.drewN_drewN _ _ _) (congrArg (World.drewN _) (Nat.add_assoc _ _ _))⟩))); try go_wp2_with (first | (go_at_call 35; (with_reducible refine (cippuskit_SameGrids.calls k1 _ _ t393 _ _ t397 t413 _ ?side1 ?side2 ?side3 ?side4 A47.out).mono ?_); (case side1 => repeat (first | exact (Kd.N_reads' HO395.out).2.2 | (with_reducible refine Kd.C_alloc ?_ _) | (with_reducible refine Kd.C_drewN ?_ _) | (with_reducible refine Kd.C_drew ?_))); (case side2 => exact (Kd.N_reads' HO395.out).2.1); (case side3 => repeat (first | exact (Kd.N_reads' HO399.out).2.2 | (with_reducible refine Kd.C_alloc ?_ _) | (with_reducible refine Kd.C_drewN ?_ _) | (with_reducible refine Kd.C_drew ?_))); (case side4 => exact (Kd.N_reads' HO399.out).2.1); rintro e w' ⟨rfl, ⟨nd, rfl⟩⟩; (try first | exact ⟨rfl, _, World.drewN_drewN _ _ _⟩ | exact ⟨rfl, _, Eq.trans (World.drewN_drewN _ _ _) (congrArg (World.drewN _) (Nat.add_assoc _ _ _))⟩))))
               go_meet
               case rel => exact ⟨_, (!t413), (by first | rfl | (simp; done) | (simp [*]; done)), H', ⟨by have := HK1.out; first | omega | exact Nat.le_refl _⟩, ⟨by (with_reducible repeat (first | apply Kd.R_alloc | apply Kd.R_drewN | apply Kd.R_drew)); exact HO_6.out⟩, ⟨by (with_reducible repeat (first | apply Kd.R_alloc | apply Kd.R_drewN | apply Kd.R_drew)); exact HO_7.out⟩, ⟨by (with_reducible repeat (first | apply Kd.R_alloc | apply Kd.R_drewN | apply Kd.R_drew)); exact Kd.R_mono HO404.out (fun _ hk => hk.2)⟩, ⟨by (with_reducible repeat (first | apply Kd.R_alloc | apply Kd.R_drewN | apply Kd.R_drew)); exact Kd.R_mono HO408.out (fun _ hk => hk.2)⟩, ⟨by (with_reducible repeat (first | apply Kd.R_alloc | apply Kd.R_drewN | apply Kd.R_drew)); exact HO_378001.out⟩, ⟨by (with_reducible repeat (first | refine blk_drewN ?_ _ | refine blk_drew ?_ | refine blk_alloc ?_ _)); exact BK377.out⟩, ⟨by repeat (first | (with_reducible first | exact HB.out | apply below_alloc | apply pw_below_drewN | apply below_drew1 | refine below_set ?_ (IsS72.ge HI367.out) | refine below_set ?_ GE377.out) | exact HB.out)⟩⟩
              ·rw [if_neg c46] at H
               have c46b0 : ((t405.length : Int) == (t379.length : Int)) = false := beq_eq_false_iff_ne.mpr c46
               have c46b1 : ((t405.length : Int) != (t379.length : Int)) = true := bne_iff_ne.mpr c46
               have c46b2 : (t405.length == t379.length) = false := by first | simpa using c46 | (simp at c46 ⊢; omega)
               have H' := Aside0.mk H
               clear H
               obtain ⟨Ao52, co52, eo52⟩ := Kd.R_slice HO404.out
               subst eo52
               obtain ⟨Ao53, co53, eo53⟩ := Kd.R_slice HO408.out
               subst eo53
               go_wp2
               repeat (go_quiet (fail); try go_wp2)
               go_meet
               case rel => exact ⟨_, (true), (by first | rfl | (simp; done) | (simp [*]; done)), H', ⟨by have := HK1.out; first | omega | exact Nat.le_refl _⟩, ⟨by (with_reducible repeat (first | apply Kd.R_alloc | apply Kd.R_drewN | apply Kd.R_drew)); exact HO_6.out⟩, ⟨by (with_reducible repeat (first | apply Kd.R_alloc | apply Kd.R_drewN | apply Kd.R_drew)); exact HO_7.out⟩, ⟨by (with_reducible repeat (first | apply Kd.R_alloc | apply Kd.R_drewN | apply Kd.R_drew)); exact Kd.R_mono HO404.out (fun _ hk => hk.2)⟩, ⟨by (with_reducible repeat (first | apply Kd.R_alloc | apply Kd.R_drewN | apply Kd.R_drew)); exact Kd.R_mono HO408.out (fun _ hk => hk.2)⟩, ⟨by (with_reducible repeat (first | apply Kd.R_alloc | apply Kd.R_drewN | apply Kd.R_drew)); exact HO_378001.out⟩, ⟨by (with_reducible repeat (first | refine blk_drewN ?_ _ | refine blk_drew ?_ | refine blk_alloc ?_ _)); exact BK377.out⟩, ⟨by repeat (first | (with_reducible first | exact HB.out | apply below_alloc | apply pw_below_drewN | apply below_drew1 | refine below_set ?_ (IsS72.ge HI367.out) | refine below_set ?_ GE377.out) | exact HB.out)⟩⟩
             ·rw [if_neg c45] at H
              have c45b0 : ((t401.length : Int) == (t379.length : Int)) = false := beq_eq_false_iff_ne.mpr c45
              have c45b1 : ((t401.length : Int) != (t379.length : Int)) = true := bne_iff_ne.mpr c45
              have c45b2 : (t401.length == t379.length) = false := by first | simpa using c45 | (simp at c45 ⊢; omega)
              have H' := Aside0.mk H
              clear H
              obtain ⟨Ao54, co54, eo54⟩ := Kd.R_slice HO404.out
              subst eo54
              go_wp2
              repeat (go_quiet (fail); try go_wp2)
              go_meet
              case rel => exact ⟨_, (true), (by first | rfl | (simp; done) | (simp [*]; done)), H', ⟨by have := HK1.out; first | omega | exact Nat.le_refl _⟩, ⟨by (with_reducible repeat (first | apply Kd.R_alloc | apply Kd.R_drewN | apply Kd.R_drew)); exact HO_6.out⟩, ⟨by (with_reducible repeat (first | apply Kd.R_alloc | apply Kd.R_drewN | apply Kd.R_drew)); exact HO_7.out⟩, ⟨by (with_reducible repeat (first | apply Kd.R_alloc | apply Kd.R_drewN | apply Kd.R_drew)); exact Kd.R_mono HO404.out (fun _ hk => hk.2)⟩, ⟨by (with_reducible repeat (first | apply Kd.R_alloc | apply Kd.R_drewN | apply Kd.R_drew)); exact Kd.R_mono HO408.out (fun _ hk => hk.2)⟩, ⟨by (with_reducible repeat (first | apply Kd.R_alloc | apply Kd.R_drewN | apply Kd.R_drew)); exact HO_378001.out⟩, ⟨by (with_reducible repeat (first | refine blk_drewN ?_ _ | refine blk_drew ?_ | refine blk_alloc ?_ _)); exact BK377.out⟩, ⟨by repeat (first | (with_reducible first | exact HB.out | apply below_alloc | apply pw_below_drewN | apply below_drew1 | refine below_set ?_ (IsS72.ge HI367.out) | refine below_set ?_ GE377.out) | exact HB.out)⟩⟩
            ·rw [if_neg c44] at H
             have c44b0 : (t409 == t411) = false := beq_eq_false_iff_ne.mpr c44
             have c44b1 : (t409 != t411) = true := bne_iff_ne.mpr c44
             have H' := Aside0.mk H
             clear H
             go_wp2
             repeat (go_quiet (fail); try go_wp2)
             go_meet
             case rel => exact ⟨_, (true), (by first | rfl | (simp; done) | (simp [*]; done)), H', ⟨by have := HK1.out; first | omega | exact Nat.le_refl _⟩, ⟨by (with_reducible repeat (first | apply Kd.R_alloc | apply Kd.R_drewN | apply Kd.R_drew)); exact HO_6.out⟩, ⟨by (with_reducible repeat (first | apply Kd.R_alloc | apply Kd.R_drewN | apply Kd.R_drew)); exact HO_7.out⟩, ⟨by (with_reducible repeat (first | apply Kd.R_alloc | apply Kd.R_drewN | apply Kd.R_drew)); exact Kd.R_mono HO404.out (fun _ hk => hk.2)⟩, ⟨by (with_reducible repeat (first | apply Kd.R_alloc | apply Kd.R_drewN | apply Kd.R_drew)); exact Kd.R_mono HO408.out (fun _ hk => hk.2)⟩, ⟨by (with_reducible repeat (first | apply Kd.R_alloc | apply Kd.R_drewN | apply Kd.R_drew)); exact HO_378001.out⟩, ⟨by (with_reducible repeat (first | refine blk_drewN ?_ _ | refine blk_drew ?_ | refine blk_alloc ?_ _)); exact BK377.out⟩, ⟨by repeat (first | (with_reducible first | exact HB.out | apply below_alloc | apply pw_below_drewN | apply below_drew1 | refine below_set ?_ (IsS72.ge HI367.out) | refine below_set ?_ GE377.out) | exact HB.out)⟩⟩
           ·rw [if_neg c43] at H
            have c43b0 : (t412 == 0) = false := beq_eq_false_iff_ne.mpr c43
            have c43b1 : (t412 != 0) = true := bne_iff_ne.mpr c43
            have H' := Aside0.mk H
            clear H
            go_wp2
            repeat (go_quiet (fail); try go_wp2)
            go_meet
            case rel => exact ⟨_, (true), (by first | rfl | (simp; done) | (simp [*]; done)), H', ⟨by have := HK1.out; first | omega | exact Nat.le_refl _⟩, ⟨by (with_reducible repeat (first | apply Kd.R_alloc | apply Kd.R_drewN | apply Kd.R_drew)); exact HO_6.out⟩, ⟨by (with_reducible repeat (first | apply Kd.R_alloc | apply Kd.R_drewN | apply Kd.R_drew)); exact HO_7.out⟩, ⟨by (with_reducible repeat (first | apply Kd.R_alloc | apply Kd.R_drewN | apply Kd.R_drew)); exact Kd.R_mono HO404.out (fun _ hk => hk.2)⟩, ⟨by (with_reducible repeat (first | apply Kd.R_alloc | apply Kd.R_drewN | apply Kd.R_drew)); exact Kd.R_mono HO408.out (fun _ hk => hk.2)⟩, ⟨by (with_reducible repeat (first | apply Kd.R_alloc | apply Kd.R_drewN | apply Kd.R_drew)); exact HO_378001.out⟩, ⟨by (with_reducible repeat (first | refine blk_drewN ?_ _ | refine blk_drew ?_ | refine blk_alloc ?_ _)); exact BK377.out⟩, ⟨by repeat (first | (with_reducible first | exact HB.out | apply below_alloc | apply pw_below_drewN | apply below_drew1 | refine below_set ?_ (IsS72.ge HI367.out) | refine below_set ?_ GE377.out) | exact HB.out)⟩⟩
          ·rw [if_neg c42] at H
           have c42b0 : (t410 == 0) = false := beq_eq_false_iff_ne.mpr c42
           have c42b1 : (t410 != 0) = true := bne_iff_ne.mpr c42
           have H' := Aside0.mk H
           clear H
           go_wp2
           repeat (go_quiet (fail); try go_wp2)
           go_meet
           case rel => exact ⟨_, (true), (by first | rfl | (simp; done) | (simp [*]; done)), H', ⟨by have := HK1.out; first | omega | exact Nat.le_refl _⟩, ⟨by (with_reducible repeat (first | apply Kd.R_alloc | apply Kd.R_drewN | apply Kd.R_drew)); exact HO_6.out⟩, ⟨by (with_reducible repeat (first | apply Kd.R_alloc | apply Kd.R_drewN | apply Kd.R_drew)); exact HO_7.out⟩, ⟨by (with_reducible repeat (first | apply Kd.R_alloc | apply Kd.R_drewN | apply Kd.R_drew)); exact Kd.R_mono HO404.out (fun _ hk => hk.2)⟩, ⟨by (with_reducible repeat (first | apply Kd.R_alloc | apply Kd.R_drewN | apply Kd.R_drew)); exact Kd.R_mono HO408.out (fun _ hk => hk.2)⟩, ⟨by (with_reducible repeat (first | apply Kd.R_alloc | apply Kd.R_drewN | apply Kd.R_drew)); exact HO_378001.out⟩, ⟨by (with_reducible repeat (first | refine blk_drewN ?_ _ | refine blk_drew ?_ | refine blk_alloc ?_ _)); exact BK377.out⟩, ⟨by repeat (first | (with_reducible first | exact HB.out | apply below_alloc | apply pw_below_drewN | apply below_drew1 | refine below_set ?_ (IsS72.ge HI367.out) | refine below_set ?_ GE377.out) | exact HB.out)⟩⟩
         ·rw [if_neg c41] at H
          have c41b0 : (t406 == 0) = false := beq_eq_false_iff_ne.mpr c41
          have c41b1 : (t406 != 0) = true := bne_iff_ne.mpr c41
          have H' := Aside0.mk H
          clear H
          go_wp2
          repeat (go_quiet (fail); try go_wp2)
          go_meet
          case rel => exact ⟨_, (true), (by first | rfl | (simp; done) | (simp [*]; done)), H', ⟨by have := HK1.out; first | omega | exact Nat.le_refl _⟩, ⟨by (with_reducible repeat (first | apply Kd.R_alloc | apply Kd.R_drewN | apply Kd.R_drew)); exact HO_6.out⟩, ⟨by (with_reducible repeat (first | apply Kd.R_alloc | apply Kd.R_drewN | apply Kd.R_drew)); exact HO_7.out⟩, ⟨by (with_reducible repeat (first | apply Kd.R_alloc | apply Kd.R_drewN | apply Kd.R_drew)); exact Kd.R_mono HO404.out (fun _ hk => hk.2)⟩, ⟨by (with_reducible repeat (first | apply Kd.R_alloc | apply Kd.R_drewN | apply Kd.R_drew)); exact Kd.R_mono HO408.out (fun _ hk => hk.2)⟩, ⟨by (with_reducible repeat (first | apply Kd.R_alloc | apply Kd.R_drewN | apply Kd.R_drew)); exact HO_378001.out⟩, ⟨by (with_reducible repeat (first | refine blk_drewN ?_ _ | refine blk_drew ?_ | refine blk_alloc ?_ _)); exact BK377.out⟩, ⟨by repeat (first | (with_reducible first | exact HB.out | apply below_alloc | apply pw_below_drewN | apply below_drew1 | refine below_set ?_ (IsS72.ge HI367.out) | refine below_set ?_ GE377.out) | exact HB.out)⟩⟩
        ·rw [if_neg c40] at H
         have c40b0 : (t402 == 0) = false := beq_eq_false_iff_ne.mpr c40
         have c40b1 : (t402 != 0) = true := bne_iff_ne.mpr c40
         have H' := Aside0.mk H
         clear H
         go_wp2
         repeat (go_quiet (fail); try go_wp2)
         go_meet
         case rel => exact ⟨_, (true), (by first | rfl | (simp; done) | (simp [*]; done)), H', ⟨by have := HK1.out; first | omega | exact Nat.le_refl _⟩, ⟨by (with_reducible repeat (first | apply Kd.R_alloc | apply Kd.R_drewN | apply Kd.R_drew)); exact HO_6.out⟩, ⟨by (with_reducible repeat (first | apply Kd.R_alloc | apply Kd.R_drewN | apply Kd.R_drew)); exact HO_7.out⟩, ⟨by (with_reducible repeat (first | apply Kd.R_alloc | apply Kd.R_drewN | apply Kd.R_drew)); exact Kd.R_mono HO404.out (fun _ hk => hk.2)⟩, ⟨by (with_reducible repeat (first | apply Kd.R_alloc | apply Kd.R_drewN | apply Kd.R_drew)); exact Kd.R_mono HO408.out (fun _ hk => hk.2)⟩, ⟨by (with_reducible repeat (first | apply Kd.R_alloc | apply Kd.R_drewN | apply Kd.R_drew)); exact HO_378001.out⟩, ⟨by (with_reducible repeat (first | refine blk_drewN ?_ _ | refine blk_drew ?_ | refine blk_alloc ?_ _)); exact BK377.out⟩, ⟨by repeat (first | (with_reducible first | exact HB.out | apply below_alloc | apply pw_below_drewN | apply below_drew1 | refine below_set ?_ (IsS72.ge HI367.out) | refine below_set ?_ GE377.out) | exact HB.out)⟩⟩
       ·rw [if_neg c39] at H
        have c39b0 : (t400 == 0) = false := beq_eq_false_iff_ne.mpr c39
        have c39b1 : (t400 != 0) = true := bne_iff_ne.mpr c39
        have H' := Aside0.mk H
        clear H
        go_wp2
        repeat (go_quiet (fail); try go_wp2)
        go_meet
        case rel => exact ⟨_, (true), (by first | rfl | (simp; done) | (simp [*]; done)), H', ⟨by have := HK1.out; first | omega | exact Nat.le_refl _⟩, ⟨by (with_reducible repeat (first | apply Kd.R_alloc | apply Kd.R_drewN | apply Kd.R_drew)); exact HO_6.out⟩, ⟨by (with_reducible repeat (first | apply Kd.R_alloc | apply Kd.R_drewN | apply Kd.R_drew)); exact HO_7.out⟩, ⟨by (with_reducible repeat (first | apply Kd.R_alloc | apply Kd.R_drewN | apply Kd.R_drew)); exact Kd.R_mono HO404.out (fun _ hk => hk.2)⟩, ⟨by (with_reducible repeat (first | apply Kd.R_alloc | apply Kd.R_drewN | apply Kd.R_drew)); exact Kd.R_mono HO408.out (fun _ hk => hk.2)⟩, ⟨by (with_reducible repeat (first | apply Kd.R_alloc | apply Kd.R_drewN | apply Kd.R_drew)); exact HO_378001.out⟩, ⟨by (with_reducible repeat (first | refine blk_drewN ?_ _ | refine blk_drew ?_ | refine blk_alloc ?_ _)); exact BK377.out⟩, ⟨by repeat (first | (with_reducible first | exact HB.out | apply below_alloc | apply pw_below_drewN | apply below_drew1 | refine below_set ?_ (IsS72.ge HI367.out) | refine below_set ?_ GE377.out) | exact HB.out)⟩⟩
      ·rw [if_neg c38] at H
       have c38b0 : (t396 == 0) = false := beq_eq_false_iff_ne.mpr c38
       have c38b1 : (t396 != 0) = true := bne_iff_ne.mpr c38
       (first | rw [c38b0] | (simp only [i64_w, i32_w]; rw [c38b0]) | skip)
       have H' := Aside0.mk H
       clear H
       go_wp2
       repeat (go_quiet (fail); try go_wp2)
       go_meet
       case rel => exact ⟨_, (true), (by first | rfl | (simp; done) | (simp [*]; done)), H', ⟨by have := HK1.out; first | omega | exact Nat.le_refl _⟩, ⟨by (with_reducible repeat (first | apply Kd.R_alloc | apply Kd.R_drewN | apply Kd.R_drew)); exact HO_6.out⟩, ⟨by (with_reducible repeat (first | apply Kd.R_alloc | apply Kd.R_drewN | apply Kd.R_drew)); exact HO_7.out⟩, ⟨by (with_reducible repeat (first | apply Kd.R_alloc | apply Kd.R_drewN | apply Kd.R_drew)); exact Kd.R_mono HO404.out (fun _ hk => hk.2)⟩, ⟨by (with_reducible repeat (first | apply Kd.R_alloc | apply Kd.R_drewN | apply Kd.R_drew)); exact Kd.R_mono HO408.out (fun _ hk => hk.2)⟩, ⟨by (with_reducible repeat (first | apply Kd.R_alloc | apply Kd.R_drewN | apply Kd.R_drew)); exact HO_378001.out⟩, ⟨by (with_reducible repeat (first | refine blk_drewN ?_ _ | refine blk_drew ?_ | refine blk_alloc ?_ _)); exact BK377.out⟩, ⟨by repeat (first | (with_reducible first | exact HB.out | apply below_alloc | apply pw_below_drewN | apply below_drew1 | refine below_set ?_ (IsS72.ge HI367.out) | refine below_set ?_ GE377.out) | exact HB.out)⟩⟩
     case rest => as_aux_lemma =>
      clear HC27
      try clear c1
      try clear p2
      try clear c3
      try clear p3
      try clear q3
      try clear hx3
      try clear qi3
      try clear c4
      try clear c4b0
      try clear c4b1
      try clear p6
      try clear c8
      try clear c9
      try clear c14
      try clear c14b0
      try clear c16
      try clear p37
      try clear q37
      try clear hx37
      try clear qi37
      try clear c38
      try clear c38b0
      try clear c38b1
      try clear c39
      try clear c39b0
      try clear c39b1
      try clear c40
      try clear c40b0
      try clear c40b1
      try clear c41
      try clear c41b0
      try clear c41b1
      try clear c42
      try clear c42b0
      try clear c42b1
      try clear c43
      try clear c43b0
      try clear c43b1
      try clear c44
      try clear c44b0
      try clear c44b1
      try clear c45
      try clear c45b0
      try clear c45b1
      try clear c45b2
      try clear c46
      try clear c46b0
      try clear c46b1
      try clear c46b2
      try clear hcz10_0
      try clear hcz10_1
      try clear hfz10_0
      try clear hfz10_1
      try clear hx378_0
      try clear hx378_1
      try clear hx378_2
      try clear p2
      try clear p3
      try clear p378
      try clear q3
      try clear q378
      obtain ⟨kq, x177_26, rfl, HA, HJ26, HO_6, HO_7, HO_16, HO_18, HO_378001, BK377, HB⟩ := hcut
      cases kq with
      | zero => exact absurd HA.out (by simp [cippuslaw07_StemmaTurned.j1])
      | succ kj26 =>
       have H := HA.out
       clear HA
       simp only [cippuslaw07_StemmaTurned.j1] at H
       by_cases c55 : x177_26 = true
       ·subst c55
        have H1 : (some false) = some r := by rw [if_pos rfl] at H; exact H
        clear H
        have H := H1
        clear H1
        obtain rfl := Option.some.inj H
        go_wp2
        repeat (go_quiet (fail); try go_wp2)
        go_ret
        exact ⟨by first | rfl | (simp [errW_none, errW_some] <;> rfl) | (simp [*, errW_none, errW_some] <;> rfl), by repeat (first | (with_reducible first | exact HB.out | apply below_alloc | apply pw_below_drewN | apply below_drew1 | refine below_set ?_ GE377.out) | exact HB.out)⟩
       ·replace c55 := Bool.eq_false_iff.mpr c55
        subst c55
        have H1 : (cippuslaw07_StemmaTurned.l1 kj26 t379 x7_1 t401 t405 0) = some r := by rw [if_neg (show ¬ (false = true) by decide)] at H; exact H
        clear H
        have H := H1
        clear H1
        have H' := Aside0.mk H
        clear H
        go_wp2
        repeat (go_quiet (fail); try go_wp2)
        go_loopg [24] kj26 (fun kq v24 w' => ∃ (x24_3 : Int), v24 = .int .i64 x24_3 ∧ Aside0 (cippuslaw07_StemmaTurned.l1 kq t379 x7_1 t401 t405 x24_3 = some r) ∧ Aside0 (kq ≤ kj26) ∧ Aside0 (Kd.R (Kd.int .i64) 3 w' w.heap.size (fun k_ => some k_ ≠ ((.slice Ao29 x7_1.length co29) : Value).ownBlock ∧ some k_ ≠ ((.slice Ao11 t372.length co11) : Value).ownBlock) (.slice Ao28 t379.length co28) t379) ∧ Aside0 (Kd.R (Kd.int .i64) 3 w' w.heap.size (fun k_ => some k_ ≠ ((.slice Ao28 t379.length co28) : Value).ownBlock ∧ some k_ ≠ ((.slice Ao11 t372.length co11) : Value).ownBlock) (.slice Ao29 x7_1.length co29) x7_1) ∧ Aside0 (Kd.R Kd.string 9 w' w.heap.size (fun k_ => some k_ ≠ (v407 : Value).ownBlock) v403 t401) ∧ Aside0 (Kd.R Kd.string 9 w' w.heap.size (fun k_ => some k_ ≠ (v403 : Value).ownBlock) v407 t405) ∧ Aside0 (Kd.R (Kd.int .i64) 3 w' w.heap.size (fun k_ => some k_ ≠ ((.slice Ao28 t379.length co28) : Value).ownBlock ∧ some k_ ≠ ((.slice Ao29 x7_1.length co29) : Value).ownBlock) (.slice Ao11 t372.length co11) t372) ∧ Aside0 (w'.heap[gb377]? = some (.cells #[.string t371, (.slice Ao11 t372.length co11)] 27 (0, 0))) ∧ Aside0 (Below w.heap.size w w'))
        case atStart => exact ⟨(0), (by first | rfl | (simp; done) | (simp [*]; done)), H', ⟨Nat.le_refl _⟩, ⟨by (with_reducible repeat (first | apply Kd.R_alloc | apply Kd.R_drewN | apply Kd.R_drew)); exact HO_6.out⟩, ⟨by (with_reducible repeat (first | apply Kd.R_alloc | apply Kd.R_drewN | apply Kd.R_drew)); exact HO_7.out⟩, ⟨by (with_reducible repeat (first | apply Kd.R_alloc | apply Kd.R_drewN | apply Kd.R_drew)); exact HO_16.out⟩, ⟨by (with_reducible repeat (first | apply Kd.R_alloc | apply Kd.R_drewN | apply Kd.R_drew)); exact HO_18.out⟩, ⟨by (with_reducible repeat (first | apply Kd.R_alloc | apply Kd.R_drewN | apply Kd.R_drew)); exact HO_378001.out⟩, ⟨by (with_reducible repeat (first | refine blk_drewN ?_ _ | refine blk_drew ?_ | refine blk_alloc ?_ _)); exact BK377.out⟩, ⟨by repeat (first | (with_reducible first | exact HB.out | apply below_alloc | apply pw_below_drewN | apply below_drew1 | refine below_set ?_ GE377.out) | exact HB.out)⟩⟩
        case round => as_aux_lemma =>
         clear H'
         try clear c1
         try clear p2
         try clear c3
         try clear p3
         try clear q3
         try clear hx3
         try clear qi3
         try clear c4
         try clear c4b0
         try clear c4b1
         try clear c5
         try clear p6
         try clear c8
         try clear c9
         try clear c14
         try clear c14b0
         try clear c16
         try clear p37
         try clear q37
         try clear hx37
         try clear qi37
         try clear c38
         try clear c38b0
         try clear c38b1
         try clear c39
         try clear c39b0
         try clear c39b1
         try clear c40
         try clear c40b0
         try clear c40b1
         try clear c41
         try clear c41b0
         try clear c41b1
         try clear c42
         try clear c42b0
         try clear c42b1
         try clear c43
         try clear c43b0
         try clear c43b1
         try clear c44
         try clear c44b0
         try clear c44b1
         try clear c45
         try clear c45b0
         try clear c45b1
         try clear c45b2
         try clear c46
         try clear c46b0
         try clear c46b1
         try clear c46b2
         try clear c55
         try clear hcz10_0
         try clear hcz10_1
         try clear hfz10_0
         try clear hfz10_1
         try clear hx378_0
         try clear hx378_1
         try clear hx378_2
         try clear p2
         try clear p3
         try clear p37
         try clear p378
         try clear p6
         try clear q3
         try clear q37
         try clear q378
         obtain ⟨x24_3, rfl, HA, HK3, HO_6, HO_7, HO_16, HO_18, HO_378001, BK377, HB⟩ := hrel
         cases gk with
         | zero => exact absurd HA.out (by simp [cippuslaw07_StemmaTurned.l1])
         | succ k3 =>
          have H := HA.out
          clear HA
          simp only [cippuslaw07_StemmaTurned.l1] at H
          by_cases c56 : x24_3 < (t379.length : Int)
          ·rw [if_pos c56] at H
           have c56b0 : decide (x24_3 < (t379.length : Int)) = true := decide_eq_true c56
           clear c56
           by_cases c57 : 0 ≤ x24_3
           ·rw [if_pos c57] at H
            have c57b0 : decide (0 ≤ x24_3) = true := decide_eq_true c57
            clear c57
            by_cases c58 : 0 ≤ (rd t379 x24_3)
            ·rw [if_pos c58] at H
             have c58b0 : decide (0 ≤ (rd t379 x24_3)) = true := decide_eq_true c58
             clear c58
             by_cases c59 : (rd t379 x24_3) < (t401.length : Int)
             ·rw [if_pos c59] at H
              have c59b0 : decide ((rd t379 x24_3) < (t401.length : Int)) = true := decide_eq_true c59
              clear c59
              by_cases c60 : x24_3 < (t405.length : Int)
              ·rw [if_pos c60] at H
               have c60b0 : decide (x24_3 < (t405.length : Int)) = true := decide_eq_true c60
               clear c60
               by_cases c61 : ((rdOf ByteArray.empty t405 x24_3).size : Int) = ((rdOf ByteArray.empty t401 (rd t379 x24_3)).size : Int)
               ·rw [if_pos c61] at H
                have c61b0 : (((rdOf ByteArray.empty t405 x24_3).size : Int) == ((rdOf ByteArray.empty t401 (rd t379 x24_3)).size : Int)) = true := beq_iff_eq.mpr c61
                have c61b1 : (((rdOf ByteArray.empty t405 x24_3).size : Int) != ((rdOf ByteArray.empty t401 (rd t379 x24_3)).size : Int)) = false := bne_eq_false_iff_eq.mpr c61
                have c61b2 : ((rdOf ByteArray.empty t405 x24_3).size == (rdOf ByteArray.empty t401 (rd t379 x24_3)).size) = true := by first | simpa using c61 | (simp at c61 ⊢; omega)
                clear c61
                have H' := Aside0.mk H
                clear H
                have p415 : 0 ≤ (x24_3 : Int) := of_decide_eq_true (by first | (with_reducible assumption) | assumption)
                have q415 : x24_3 < (t379.length : Int) := of_decide_eq_true (by first | (with_reducible assumption) | assumption)
                obtain ⟨ad415, e415, hx415_0⟩ := Kd.at_int (Kd.R_reads' HO_6.out).2.2 x24_3 p415 q415
                cases e415
                replace p415 := eq_true p415
                replace q415 := eq_true q415
                obtain ⟨Ao62, co62, eo62⟩ := Kd.R_slice HO_16.out
                subst eo62
                have p416 : 0 ≤ ((rd t379 x24_3) : Int) := of_decide_eq_true (by first | (with_reducible assumption) | assumption)
                have q416 : (rd t379 x24_3) < (t401.length : Int) := of_decide_eq_true (by first | (with_reducible assumption) | assumption)
                obtain ⟨ad416, e416, hx416_0⟩ := Kd.at_string (Kd.R_reads' HO_16.out).2.2 (rd t379 x24_3) p416 q416
                cases e416
                replace p416 := eq_true p416
                replace q416 := eq_true q416
                obtain ⟨Ao63, co63, eo63⟩ := Kd.R_slice HO_18.out
                subst eo63
                have p417 : 0 ≤ (x24_3 : Int) := of_decide_eq_true (by first | (with_reducible assumption) | assumption)
                have q417 : x24_3 < (t405.length : Int) := of_decide_eq_true (by first | (with_reducible assumption) | assumption)
                obtain ⟨ad417, e417, hx417_0⟩ := Kd.at_string (Kd.R_reads' HO_18.out).2.2 x24_3 p417 q417
                cases e417
                replace p417 := eq_true p417
                replace q417 := eq_true q417
                go_wp2
                repeat (go_quiet (fail); try go_wp2)
                go_loopg [26] k3 (fun kq v26 w' => ∃ (x26_4 : Int), v26 = .int .i64 x26_4 ∧ Aside0 (cippuslaw07_StemmaTurned.l2 kq t379 x7_1 t401 t405 x24_3 (rdOf ByteArray.empty t401 (rd t379 x24_3)) x26_4 = some r) ∧ Aside0 (kq ≤ k3) ∧ Aside0 (Kd.R (Kd.int .i64) 3 w' w.heap.size (fun k_ => some k_ ≠ ((.slice Ao29 x7_1.length co29) : Value).ownBlock ∧ some k_ ≠ ((.slice Ao11 t372.length co11) : Value).ownBlock) (.slice (some ad415) t379.length co28) t379) ∧ Aside0 (Kd.R (Kd.int .i64) 3 w' w.heap.size (fun k_ => some k_ ≠ ((.slice (some ad415) t379.length co28) : Value).ownBlock ∧ some k_ ≠ ((.slice Ao11 t372.length co11) : Value).ownBlock) (.slice Ao29 x7_1.length co29) x7_1) ∧ Aside0 (Kd.R Kd.string 9 w' w.heap.size (fun k_ => some k_ ≠ ((.slice (some ad417) t405.length co63) : Value).ownBlock) (.slice (some ad416) t401.length co62) t401) ∧ Aside0 (Kd.R Kd.string 9 w' w.heap.size (fun k_ => some k_ ≠ ((.slice (some ad416) t401.length co62) : Value).ownBlock) (.slice (some ad417) t405.length co63) t405) ∧ Aside0 (Kd.R (Kd.int .i64) 3 w' w.heap.size (fun k_ => some k_ ≠ ((.slice (some ad415) t379.length co28) : Value).ownBlock ∧ some k_ ≠ ((.slice Ao29 x7_1.length co29) : Value).ownBlock) (.slice Ao11 t372.length co11) t372) ∧ Aside0 (w'.heap[gb377]? = some (.cells #[.string t371, (.slice Ao11 t372.length co11)] 27 (0, 0))) ∧ Aside0 (Below w.heap.size w w'))
                case atStart => exact ⟨(0), (by first | rfl | (simp; done) | (simp [*]; done)), H', ⟨Nat.le_refl _⟩, ⟨by (with_reducible repeat (first | apply Kd.R_alloc | apply Kd.R_drewN | apply Kd.R_drew)); exact HO_6.out⟩, ⟨by (with_reducible repeat (first | apply Kd.R_alloc | apply Kd.R_drewN | apply Kd.R_drew)); exact HO_7.out⟩, ⟨by (with_reducible repeat (first | apply Kd.R_alloc | apply Kd.R_drewN | apply Kd.R_drew)); exact HO_16.out⟩, ⟨by (with_reducible repeat (first | apply Kd.R_alloc | apply Kd.R_drewN | apply Kd.R_drew)); exact HO_18.out⟩, ⟨by (with_reducible repeat (first | apply Kd.R_alloc | apply Kd.R_drewN | apply Kd.R_drew)); exact HO_378001.out⟩, ⟨by (with_reducible repeat (first | refine blk_drewN ?_ _ | refine blk_drew ?_ | refine blk_alloc ?_ _)); exact BK377.out⟩, ⟨by repeat (first | (with_reducible first | exact HB.out | apply below_alloc | apply pw_below_drewN | apply below_drew1 | refine below_set ?_ GE377.out) | exact HB.out)⟩⟩
                case round => as_aux_lemma =>
                 clear H'
                 try clear c1
                 try clear p2
                 try clear c3
                 try clear p3
                 try clear q3
                 try clear hx3
                 try clear qi3
                 try clear c4
                 try clear c4b0
                 try clear c4b1
                 try clear p4
                 try clear q4
                 try clear hx4
                 try clear c5
                 try clear c6
                 try clear p6
                 try clear c8
                 try clear c9
                 try clear c14
                 try clear c14b0
                 try clear c16
                 try clear p37
                 try clear q37
                 try clear hx37
                 try clear qi37
                 try clear c38
                 try clear c38b0
                 try clear c38b1
                 try clear c39
                 try clear c39b0
                 try clear c39b1
                 try clear c40
                 try clear c40b0
                 try clear c40b1
                 try clear c41
                 try clear c41b0
                 try clear c41b1
                 try clear p41
                 try clear q41
                 try clear hx41
                 try clear c42
                 try clear c42b0
                 try clear c42b1
                 try clear c43
                 try clear c43b0
                 try clear c43b1
                 try clear c44
                 try clear c44b0
                 try clear c44b1
                 try clear c45
                 try clear c45b0
                 try clear c45b1
                 try clear c45b2
                 try clear c46
                 try clear c46b0
                 try clear c46b1
                 try clear c46b2
                 try clear c55
                 try clear c56
                 try clear c56b0
                 try clear c57
                 try clear c57b0
                 try clear c58
                 try clear c58b0
                 try clear c59
                 try clear c59b0
                 try clear c60
                 try clear c60b0
                 try clear c61
                 try clear c61b0
                 try clear c61b1
                 try clear c61b2
                 try clear hcz10_0
                 try clear hcz10_1
                 try clear hfz10_0
                 try clear hfz10_1
                 try clear hx378_0
                 try clear hx378_1
                 try clear hx378_2
                 try clear hx415_0
                 try clear hx416_0
                 try clear hx417_0
                 try clear p2
                 try clear p3
                 try clear p37
                 try clear p378
                 try clear p415
                 try clear p416
                 try clear p417
                 try clear p6
                 try clear q3
                 try clear q37
                 try clear q378
                 try clear q415
                 try clear q416
                 try clear q417
                 obtain ⟨x26_4, rfl, HA, HK4, HO_6, HO_7, HO_16, HO_18, HO_378001, BK377, HB⟩ := hrel
                 cases gk with
                 | zero => exact absurd HA.out (by simp [cippuslaw07_StemmaTurned.l2])
                 | succ k4 =>
                  have H := HA.out
                  clear HA
                  simp only [cippuslaw07_StemmaTurned.l2] at H
                  by_cases c64 : x26_4 < ((rdOf ByteArray.empty t401 (rd t379 x24_3)).size : Int)
                  ·rw [if_pos c64] at H
                   have c64b0 : decide (x26_4 < ((rdOf ByteArray.empty t401 (rd t379 x24_3)).size : Int)) = true := decide_eq_true c64
                   clear c64
                   by_cases c65 : 0 ≤ x24_3
                   ·rw [if_pos c65] at H
                    have c65b0 : decide (0 ≤ x24_3) = true := decide_eq_true c65
                    clear c65
                    by_cases c66 : x24_3 < (t405.length : Int)
                    ·rw [if_pos c66] at H
                     have c66b0 : decide (x24_3 < (t405.length : Int)) = true := decide_eq_true c66
                     clear c66
                     by_cases c67 : 0 ≤ x26_4
                     ·rw [if_pos c67] at H
                      have c67b0 : decide (0 ≤ x26_4) = true := decide_eq_true c67
                      clear c67
                      by_cases c69 : x24_3 < (x7_1.length : Int)
                      ·rw [if_pos c69] at H
                       have c69b0 : decide (x24_3 < (x7_1.length : Int)) = true := decide_eq_true c69
                       clear c69
                       replace H := Option.bind_eq_some_iff.mp H
                       obtain ⟨t420, A700, H⟩ := H
                       replace H : (if t420 = true then (cippuslaw07_StemmaTurned.l2 k4 t379 x7_1 t401 t405 x24_3 (rdOf ByteArray.empty t401 (rd t379 x24_3)) (wrap64 (x26_4 + 1))) else (some false)) = some r := H
                       have A70 := Aside0.mk A700
                       clear A700
                       by_cases c71 : t420 = true
                       ·subst c71
                        have H1 : (cippuslaw07_StemmaTurned.l2 k4 t379 x7_1 t401 t405 x24_3 (rdOf ByteArray.empty t401 (rd t379 x24_3)) (wrap64 (x26_4 + 1))) = some r := by rw [if_pos rfl] at H; exact H
                        clear H
                        have H := H1
                        clear H1
                        have H' := Aside0.mk H
                        clear H
                        have p418 : 0 ≤ (x24_3 : Int) := of_decide_eq_true (by first | (with_reducible assumption) | assumption)
                        have q418 : x24_3 < (t405.length : Int) := of_decide_eq_true (by first | (with_reducible assumption) | assumption)
                        obtain ⟨ad418, e418, hx418_0⟩ := Kd.at_string (Kd.R_reads' HO_18.out).2.2 x24_3 p418 q418
                        obtain rfl : ad417 = ad418 := (by injection e418)
                        replace p418 := eq_true p418
                        replace q418 := eq_true q418
                        have p68 : 0 ≤ (x26_4 : Int) := of_decide_eq_true (by first | (with_reducible assumption) | assumption)
                        have q68 : x26_4 < ((rdOf ByteArray.empty t401 (rd t379 x24_3)).size : Int) := of_decide_eq_true (by first | (with_reducible assumption) | assumption)
                        have hx68 := bt_at (rdOf ByteArray.empty t401 (rd t379 x24_3)) x26_4
                        replace p68 := eq_true p68
                        replace q68 := eq_true q68
                        have p419 : 0 ≤ (x24_3 : Int) := of_decide_eq_true (by first | (with_reducible assumption) | assumption)
                        have q419 : x24_3 < (x7_1.length : Int) := of_decide_eq_true (by first | (with_reducible assumption) | assumption)
                        obtain ⟨ad419, e419, hx419_0⟩ := Kd.at_int (Kd.R_reads' HO_7.out).2.2 x24_3 p419 q419
                        cases e419
                        replace p419 := eq_true p419
                        replace q419 := eq_true q419
                        go_wp2_with (first | (go_at_call 33; (with_reducible refine (cippuslaw07_has.calls k4 (rdOf ByteArray.empty t405 x24_3) (65 + (bt (rdOf ByteArray.empty t401 (rd t379 x24_3)) x26_4 - 65 + rd x7_1 x24_3) % 256 % 26) true _ A70.out).mono ?_); rintro e w' ⟨rfl, ⟨nd, rfl⟩⟩; (try first | exact ⟨rfl, _, World.drewN_drewN _ _ _⟩ | exact ⟨rfl, _, Eq.trans (World.drewN_drewN _ _ _) (congrArg (World.drewN _) (Nat.add_assoc _ _ _))⟩)))
                        repeat (go_quiet (first | (go_at_call 33; (with_reducible refine (cippuslaw07_has.calls k4 (rdOf ByteArray.empty t405 x24_3) (65 + (bt (rdOf ByteArray.empty t401 (rd t379 x24_3)) x26_4 - 65 + rd x7_1 x24_3) % 256 % 26) true _ A70.out).mono ?_); rintro e w' ⟨rfl, ⟨nd, rfl⟩⟩; (try first | exact ⟨rfl, _, World.drewN_drewN _ _ _⟩ | exact ⟨rfl, _, Eq.trans (World.drewN_drewN _ _ _) (congrArg (World.drewN _) (Nat.add_assoc _ _ _))⟩))); try go_wp2_with (first | (go_at_call 33; (with_reducible refine (cippuslaw07_has.calls k4 (rdOf ByteArray.empty t405 x24_3) (65 + (bt (rdOf ByteArray.empty t401 (rd t379 x24_3)) x26_4 - 65 + rd x7_1 x24_3) % 256 % 26) true _ A70.out).mono ?_); rintro e w' ⟨rfl, ⟨nd, rfl⟩⟩; (try first | exact ⟨rfl, _, World.drewN_drewN _ _ _⟩ | exact ⟨rfl, _, Eq.trans (World.drewN_drewN _ _ _) (congrArg (World.drewN _) (Nat.add_assoc _ _ _))⟩))))
                        go_roundg k4
                        case measure => have := HK1.out; have := HJ26.out; have := HK3.out; have := HK4.out; omega
                        case rel => exact ⟨(wrap64 (x26_4 + 1)), (by first | rfl | (simp; done) | (simp [*]; done)), H', ⟨by have := HK1.out; have := HJ26.out; have := HK3.out; have := HK4.out; omega⟩, ⟨by (with_reducible repeat (first | apply Kd.R_alloc | apply Kd.R_drewN | apply Kd.R_drew)); exact HO_6.out⟩, ⟨by (with_reducible repeat (first | apply Kd.R_alloc | apply Kd.R_drewN | apply Kd.R_drew)); exact HO_7.out⟩, ⟨by (with_reducible repeat (first | apply Kd.R_alloc | apply Kd.R_drewN | apply Kd.R_drew)); exact HO_16.out⟩, ⟨by (with_reducible repeat (first | apply Kd.R_alloc | apply Kd.R_drewN | apply Kd.R_drew)); exact HO_18.out⟩, ⟨by (with_reducible repeat (first | apply Kd.R_alloc | apply Kd.R_drewN | apply Kd.R_drew)); exact HO_378001.out⟩, ⟨by (with_reducible repeat (first | refine blk_drewN ?_ _ | refine blk_drew ?_ | refine blk_alloc ?_ _)); exact BK377.out⟩, ⟨by repeat (first | (with_reducible first | exact HB.out | apply below_alloc | apply pw_below_drewN | apply below_drew1 | refine below_set ?_ GE377.out) | exact HB.out)⟩⟩
                       ·replace c71 := Bool.eq_false_iff.mpr c71
                        subst c71
                        have H1 : (some false) = some r := by rw [if_neg (show ¬ (false = true) by decide)] at H; exact H
                        clear H
                        have H := H1
                        clear H1
                        obtain rfl := Option.some.inj H
                        have p418 : 0 ≤ (x24_3 : Int) := of_decide_eq_true (by first | (with_reducible assumption) | assumption)
                        have q418 : x24_3 < (t405.length : Int) := of_decide_eq_true (by first | (with_reducible assumption) | assumption)
                        obtain ⟨ad418, e418, hx418_0⟩ := Kd.at_string (Kd.R_reads' HO_18.out).2.2 x24_3 p418 q418
                        obtain rfl : ad417 = ad418 := (by injection e418)
                        replace p418 := eq_true p418
                        replace q418 := eq_true q418
                        have p68 : 0 ≤ (x26_4 : Int) := of_decide_eq_true (by first | (with_reducible assumption) | assumption)
                        have q68 : x26_4 < ((rdOf ByteArray.empty t401 (rd t379 x24_3)).size : Int) := of_decide_eq_true (by first | (with_reducible assumption) | assumption)
                        have hx68 := bt_at (rdOf ByteArray.empty t401 (rd t379 x24_3)) x26_4
                        replace p68 := eq_true p68
                        replace q68 := eq_true q68
                        have p419 : 0 ≤ (x24_3 : Int) := of_decide_eq_true (by first | (with_reducible assumption) | assumption)
                        have q419 : x24_3 < (x7_1.length : Int) := of_decide_eq_true (by first | (with_reducible assumption) | assumption)
                        obtain ⟨ad419, e419, hx419_0⟩ := Kd.at_int (Kd.R_reads' HO_7.out).2.2 x24_3 p419 q419
                        cases e419
                        replace p419 := eq_true p419
                        replace q419 := eq_true q419
                        go_wp2_with (first | (go_at_call 33; (with_reducible refine (cippuslaw07_has.calls k4 (rdOf ByteArray.empty t405 x24_3) (65 + (bt (rdOf ByteArray.empty t401 (rd t379 x24_3)) x26_4 - 65 + rd x7_1 x24_3) % 256 % 26) false _ A70.out).mono ?_); rintro e w' ⟨rfl, ⟨nd, rfl⟩⟩; (try first | exact ⟨rfl, _, World.drewN_drewN _ _ _⟩ | exact ⟨rfl, _, Eq.trans (World.drewN_drewN _ _ _) (congrArg (World.drewN _) (Nat.add_assoc _ _ _))⟩)))
                        repeat (go_quiet (first | (go_at_call 33; (with_reducible refine (cippuslaw07_has.calls k4 (rdOf ByteArray.empty t405 x24_3) (65 + (bt (rdOf ByteArray.empty t401 (rd t379 x24_3)) x26_4 - 65 + rd x7_1 x24_3) % 256 % 26) false _ A70.out).mono ?_); rintro e w' ⟨rfl, ⟨nd, rfl⟩⟩; (try first | exact ⟨rfl, _, World.drewN_drewN _ _ _⟩ | exact ⟨rfl, _, Eq.trans (World.drewN_drewN _ _ _) (congrArg (World.drewN _) (Nat.add_assoc _ _ _))⟩))); try go_wp2_with (first | (go_at_call 33; (with_reducible refine (cippuslaw07_has.calls k4 (rdOf ByteArray.empty t405 x24_3) (65 + (bt (rdOf ByteArray.empty t401 (rd t379 x24_3)) x26_4 - 65 + rd x7_1 x24_3) % 256 % 26) false _ A70.out).mono ?_); rintro e w' ⟨rfl, ⟨nd, rfl⟩⟩; (try first | exact ⟨rfl, _, World.drewN_drewN _ _ _⟩ | exact ⟨rfl, _, Eq.trans (World.drewN_drewN _ _ _) (congrArg (World.drewN _) (Nat.add_assoc _ _ _))⟩))))
                        go_ret
                        exact ⟨by first | rfl | (simp [errW_none, errW_some] <;> rfl) | (simp [*, errW_none, errW_some] <;> rfl), by repeat (first | (with_reducible first | exact HB.out | apply below_alloc | apply pw_below_drewN | apply below_drew1 | refine below_set ?_ GE377.out) | exact HB.out)⟩
                      ·rw [if_neg c69] at H
                       exact absurd H (by simp)
                     ·rw [if_neg c67] at H
                      exact absurd H (by simp)
                    ·rw [if_neg c66] at H
                     exact absurd H (by simp)
                   ·rw [if_neg c65] at H
                    exact absurd H (by simp)
                  ·rw [if_neg c64] at H
                   have c64b0 : decide (x26_4 < ((rdOf ByteArray.empty t401 (rd t379 x24_3)).size : Int)) = false := decide_eq_false c64
                   clear c64
                   have H' := Aside0.mk H
                   clear H
                   go_wp2
                   repeat (go_quiet (fail); try go_wp2)
                   go_roundg k4
                   case measure => have := HK1.out; have := HJ26.out; have := HK3.out; have := HK4.out; omega
                   case rel => exact ⟨(wrap64 (x24_3 + 1)), (by first | rfl | (simp; done) | (simp [*]; done)), H', ⟨by have := HK1.out; have := HJ26.out; have := HK3.out; have := HK4.out; omega⟩, ⟨by (with_reducible repeat (first | apply Kd.R_alloc | apply Kd.R_drewN | apply Kd.R_drew)); exact HO_6.out⟩, ⟨by (with_reducible repeat (first | apply Kd.R_alloc | apply Kd.R_drewN | apply Kd.R_drew)); exact HO_7.out⟩, ⟨by (with_reducible repeat (first | apply Kd.R_alloc | apply Kd.R_drewN | apply Kd.R_drew)); exact HO_16.out⟩, ⟨by (with_reducible repeat (first | apply Kd.R_alloc | apply Kd.R_drewN | apply Kd.R_drew)); exact HO_18.out⟩, ⟨by (with_reducible repeat (first | apply Kd.R_alloc | apply Kd.R_drewN | apply Kd.R_drew)); exact HO_378001.out⟩, ⟨by (with_reducible repeat (first | refine blk_drewN ?_ _ | refine blk_drew ?_ | refine blk_alloc ?_ _)); exact BK377.out⟩, ⟨by repeat (first | (with_reducible first | exact HB.out | apply below_alloc | apply pw_below_drewN | apply below_drew1 | refine below_set ?_ GE377.out) | exact HB.out)⟩⟩
               ·rw [if_neg c61] at H
                have c61b0 : (((rdOf ByteArray.empty t405 x24_3).size : Int) == ((rdOf ByteArray.empty t401 (rd t379 x24_3)).size : Int)) = false := beq_eq_false_iff_ne.mpr c61
                have c61b1 : (((rdOf ByteArray.empty t405 x24_3).size : Int) != ((rdOf ByteArray.empty t401 (rd t379 x24_3)).size : Int)) = true := bne_iff_ne.mpr c61
                have c61b2 : ((rdOf ByteArray.empty t405 x24_3).size == (rdOf ByteArray.empty t401 (rd t379 x24_3)).size) = false := by first | simpa using c61 | (simp at c61 ⊢; omega)
                obtain rfl := Option.some.inj H
                have p415 : 0 ≤ (x24_3 : Int) := of_decide_eq_true (by first | (with_reducible assumption) | assumption)
                have q415 : x24_3 < (t379.length : Int) := of_decide_eq_true (by first | (with_reducible assumption) | assumption)
                obtain ⟨ad415, e415, hx415_0⟩ := Kd.at_int (Kd.R_reads' HO_6.out).2.2 x24_3 p415 q415
                cases e415
                replace p415 := eq_true p415
                replace q415 := eq_true q415
                obtain ⟨Ao72, co72, eo72⟩ := Kd.R_slice HO_16.out
                subst eo72
                have p416 : 0 ≤ ((rd t379 x24_3) : Int) := of_decide_eq_true (by first | (with_reducible assumption) | assumption)
                have q416 : (rd t379 x24_3) < (t401.length : Int) := of_decide_eq_true (by first | (with_reducible assumption) | assumption)
                obtain ⟨ad416, e416, hx416_0⟩ := Kd.at_string (Kd.R_reads' HO_16.out).2.2 (rd t379 x24_3) p416 q416
                cases e416
                replace p416 := eq_true p416
                replace q416 := eq_true q416
                obtain ⟨Ao73, co73, eo73⟩ := Kd.R_slice HO_18.out
                subst eo73
                have p417 : 0 ≤ (x24_3 : Int) := of_decide_eq_true (by first | (with_reducible assumption) | assumption)
                have q417 : x24_3 < (t405.length : Int) := of_decide_eq_true (by first | (with_reducible assumption) | assumption)
                obtain ⟨ad417, e417, hx417_0⟩ := Kd.at_string (Kd.R_reads' HO_18.out).2.2 x24_3 p417 q417
                cases e417
                replace p417 := eq_true p417
                replace q417 := eq_true q417
                go_wp2
                repeat (go_quiet (fail); try go_wp2)
                go_ret
                exact ⟨by first | rfl | (simp [errW_none, errW_some] <;> rfl) | (simp [*, errW_none, errW_some] <;> rfl), by repeat (first | (with_reducible first | exact HB.out | apply below_alloc | apply pw_below_drewN | apply below_drew1 | refine below_set ?_ GE377.out) | exact HB.out)⟩
              ·rw [if_neg c60] at H
               exact absurd H (by simp)
             ·rw [if_neg c59] at H
              exact absurd H (by simp)
            ·rw [if_neg c58] at H
             exact absurd H (by simp)
           ·rw [if_neg c57] at H
            exact absurd H (by simp)
          ·rw [if_neg c56] at H
           have c56b0 : decide (x24_3 < (t379.length : Int)) = false := decide_eq_false c56
           clear c56
           replace H := Option.bind_eq_some_iff.mp H
           obtain ⟨t414, A740, H⟩ := H
           replace H : (some t414) = some r := H
           have A74 := Aside0.mk A740
           clear A740
           obtain rfl := Option.some.inj H
           go_wp2_with (first | (go_at_call 17; (with_reducible refine (cippuslaw07_found.calls k3  t414 _ A74.out).mono ?_); rintro e w75 ⟨rfl, hb⟩; have n0_ := Aside0.mk (Kd.R_below (by (with_reducible repeat (first | apply Kd.R_alloc | apply Kd.R_drewN | apply Kd.R_drew)); exact HO_6.out) hb); have n1_ := Aside0.mk (Kd.R_below (by (with_reducible repeat (first | apply Kd.R_alloc | apply Kd.R_drewN | apply Kd.R_drew)); exact HO_7.out) hb); have n2_ := Aside0.mk (Kd.R_below (by (with_reducible repeat (first | apply Kd.R_alloc | apply Kd.R_drewN | apply Kd.R_drew)); exact HO_16.out) hb); have n3_ := Aside0.mk (Kd.R_below (by (with_reducible repeat (first | apply Kd.R_alloc | apply Kd.R_drewN | apply Kd.R_drew)); exact HO_18.out) hb); have n4_ := Aside0.mk (Kd.R_below (by (with_reducible repeat (first | apply Kd.R_alloc | apply Kd.R_drewN | apply Kd.R_drew)); exact HO_378001.out) hb); have n5_ := Aside0.mk (blk_below (g := gb377) (o := .cells #[.string t371, .slice Ao11 t372.length co11] 27 (0, 0)) (by (with_reducible repeat (first | refine blk_drewN ?_ _ | refine blk_drew ?_ | refine blk_alloc ?_ _)); exact BK377.out) hb); have n6_ := Aside0.mk (below_step (by repeat (first | (with_reducible first | exact HB.out | apply below_alloc | apply pw_below_drewN | apply below_drew1 | refine below_set ?_ GE377.out) | exact HB.out)) hb); clear HO_6; clear HO_7; clear HO_16; clear HO_18; clear HO_378001; clear BK377; clear HB; have HO_6 := n0_; have HO_7 := n1_; have HO_16 := n2_; have HO_18 := n3_; have HO_378001 := n4_; have BK377 := n5_; have HB := n6_; clear n0_ n1_ n2_ n3_ n4_ n5_ n6_; (try clear hb); (try clear hb2); (try clear hk); (try clear hi)))
           repeat (go_quiet (first | (go_at_call 17; (with_reducible refine (cippuslaw07_found.calls k3  t414 _ A74.out).mono ?_); rintro e w75 ⟨rfl, hb⟩; have n0_ := Aside0.mk (Kd.R_below (by (with_reducible repeat (first | apply Kd.R_alloc | apply Kd.R_drewN | apply Kd.R_drew)); exact HO_6.out) hb); have n1_ := Aside0.mk (Kd.R_below (by (with_reducible repeat (first | apply Kd.R_alloc | apply Kd.R_drewN | apply Kd.R_drew)); exact HO_7.out) hb); have n2_ := Aside0.mk (Kd.R_below (by (with_reducible repeat (first | apply Kd.R_alloc | apply Kd.R_drewN | apply Kd.R_drew)); exact HO_16.out) hb); have n3_ := Aside0.mk (Kd.R_below (by (with_reducible repeat (first | apply Kd.R_alloc | apply Kd.R_drewN | apply Kd.R_drew)); exact HO_18.out) hb); have n4_ := Aside0.mk (Kd.R_below (by (with_reducible repeat (first | apply Kd.R_alloc | apply Kd.R_drewN | apply Kd.R_drew)); exact HO_378001.out) hb); have n5_ := Aside0.mk (blk_below (g := gb377) (o := .cells #[.string t371, .slice Ao11 t372.length co11] 27 (0, 0)) (by (with_reducible repeat (first | refine blk_drewN ?_ _ | refine blk_drew ?_ | refine blk_alloc ?_ _)); exact BK377.out) hb); have n6_ := Aside0.mk (below_step (by repeat (first | (with_reducible first | exact HB.out | apply below_alloc | apply pw_below_drewN | apply below_drew1 | refine below_set ?_ GE377.out) | exact HB.out)) hb); clear HO_6; clear HO_7; clear HO_16; clear HO_18; clear HO_378001; clear BK377; clear HB; have HO_6 := n0_; have HO_7 := n1_; have HO_16 := n2_; have HO_18 := n3_; have HO_378001 := n4_; have BK377 := n5_; have HB := n6_; clear n0_ n1_ n2_ n3_ n4_ n5_ n6_; (try clear hb); (try clear hb2); (try clear hk); (try clear hi))); try go_wp2_with (first | (go_at_call 17; (with_reducible refine (cippuslaw07_found.calls k3  t414 _ A74.out).mono ?_); rintro e w75 ⟨rfl, hb⟩; have n0_ := Aside0.mk (Kd.R_below (by (with_reducible repeat (first | apply Kd.R_alloc | apply Kd.R_drewN | apply Kd.R_drew)); exact HO_6.out) hb); have n1_ := Aside0.mk (Kd.R_below (by (with_reducible repeat (first | apply Kd.R_alloc | apply Kd.R_drewN | apply Kd.R_drew)); exact HO_7.out) hb); have n2_ := Aside0.mk (Kd.R_below (by (with_reducible repeat (first | apply Kd.R_alloc | apply Kd.R_drewN | apply Kd.R_drew)); exact HO_16.out) hb); have n3_ := Aside0.mk (Kd.R_below (by (with_reducible repeat (first | apply Kd.R_alloc | apply Kd.R_drewN | apply Kd.R_drew)); exact HO_18.out) hb); have n4_ := Aside0.mk (Kd.R_below (by (with_reducible repeat (first | apply Kd.R_alloc | apply Kd.R_drewN | apply Kd.R_drew)); exact HO_378001.out) hb); have n5_ := Aside0.mk (blk_below (g := gb377) (o := .cells #[.string t371, .slice Ao11 t372.length co11] 27 (0, 0)) (by (with_reducible repeat (first | refine blk_drewN ?_ _ | refine blk_drew ?_ | refine blk_alloc ?_ _)); exact BK377.out) hb); have n6_ := Aside0.mk (below_step (by repeat (first | (with_reducible first | exact HB.out | apply below_alloc | apply pw_below_drewN | apply below_drew1 | refine below_set ?_ GE377.out) | exact HB.out)) hb); clear HO_6; clear HO_7; clear HO_16; clear HO_18; clear HO_378001; clear BK377; clear HB; have HO_6 := n0_; have HO_7 := n1_; have HO_16 := n2_; have HO_18 := n3_; have HO_378001 := n4_; have BK377 := n5_; have HB := n6_; clear n0_ n1_ n2_ n3_ n4_ n5_ n6_; (try clear hb); (try clear hb2); (try clear hk); (try clear hi))))
           go_ret
           exact ⟨by first | rfl | (simp [errW_none, errW_some] <;> rfl) | (simp [*, errW_none, errW_some] <;> rfl), by repeat (first | (with_reducible first | exact HB.out | apply below_alloc | apply pw_below_drewN | apply below_drew1 | refine below_set ?_ GE377.out) | exact HB.out)⟩
 ·rw [if_neg c4] at H
  exact absurd H (by simp)
end Go.Proofs.Ytegjollhajgcdaa.P
namespace Go.Proofs.YtegjollhajgcdaaW.PrintWords
open Go.ChangeShapes Go.WideShapes
theorem sized_ints {H : Type} {enc : TypeId × Value → H} {P : Program} {W : World} {base : Nat} {spare : Nat → Bool} {held : Bool} {t e : TypeId} {k : IntKind} {a : Option Addr} {len cap : Nat} {d : DataW H} {ps : List MemPlace} {ts : List TypeId} {ds : List (DataW H)} {j : Nat}
    (hsz : (DataW.weightsEach P ts ds).all (· ≤ reachBytes) = true) (ht : ts[j]? = some t) (hd : ds[j]? = some d) (hu : P.underlying t = some (.slice e)) (he : P.underlying e = some (.int k)) (hc : P.cellsOf e = 1) {B : Nat} (hB : P.bytesOf e = B)
    (h : DataW.Trod enc P W base spare held t (.slice a len cap) d ps) : len * B ≤ 140737488351232 := by
  obtain ⟨fuel, hf⟩ := h
  rcases open_ints hu he hc hf with ⟨hcs, _⟩ | ⟨x, l, c, zs, hcs, _, hl, _, hz, hx, _, _⟩
  · simp [Value.cells] at hcs
    obtain ⟨rfl, rfl, rfl⟩ := hcs
    simp
  · simp [Value.cells] at hcs
    obtain ⟨rfl, rfl, rfl⟩ := hcs
    obtain ⟨hx, _⟩ := Prod.mk.inj hx
    subst hx
    have z := sized_slice hsz ht hd hu
    rw [hB] at z
    have hl2 : len ≤ zs.length := by
      rw [hz]
      split
      · exact hl
      · exact Nat.le_refl _
    have h1 : (lits (H := H) k (zs.take len)).length + (lits (H := H) k (zs.drop len)).length = zs.length := by
      simp [lits]
      omega
    rw [h1] at z
    exact Nat.le_trans (Nat.mul_le_mul_right _ hl2) z
end Go.Proofs.YtegjollhajgcdaaW.PrintWords
