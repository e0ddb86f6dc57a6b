/- Lemmas for the statement GapOutside of the given program, for every input that its row lets in. Conditions: none beyond those that each lemma tells. -/
import Derived.Deep.LoopGhost
import Derived.Shelf.Abstract
import Derived.WalkSpells
import Derived.BigQuiet
import Derived.BigRegion
import Derived.Laws.BytesArg
import Derived.Lib.ConvBytes
import Derived.Deep.RegionHeld3
import Derived.Test.YtkfebceainedfaaMGapOutside4
set_option linter.unusedVariables false
set_option linter.unusedSimpArgs false
namespace Go.Proofs.Ytkfebceainedfaa.P.OwnGap
open Go.RowKit Go.Shelf Go.Proofs.YtkfebceainedfaaW.PrintWords Go.Proofs.YtkfebceainedfaaW.PrintLast Go.Proofs.YtkfebceainedfaaW.PrintMore
open Go.Proofs.Ytkfebceainedfaa.OwnGap
set_option linter.unusedVariables false
set_option linter.unusedSimpArgs false
attribute [local go_sem] Oper.semAt_some
set_option maxHeartbeats 4000000 in
set_option maxRecDepth 100000 in
theorem cell_ok (x : S49) (h : cellV x = 0) (w : World) : Calls Try.prog 88 #[.agg #[.string x.f0, .bool x.f1, .int .i64 x.f2.f0, .int .i64 x.f2.f1]] w fun e w' => e = .returned (.int .i64 0) ∧ Below w.heap.size w w' := by
 obtain ⟨v1, v2, v3, v4⟩ := cellV_zero h
 have hA : x.f1 = false → ascB x.f0 = true := fun hg => by
  unfold cellV at h
  rw [if_neg (by rw [hg]; decide)] at h
  cases ha : ascB x.f0 with
  | false => rw [ifT ha] at h; cases h
  | true => rfl
 clear h v1
 obtain ⟨n0, hn0⟩ : ∃ n, n = w.heap.size := ⟨_, rfl⟩
 have HN0 := Aside0.mk hn0
 have HV := Aside0.mk (And.intro v3 (And.intro v4 hA))
 have HZ := Aside0.mk v2
 clear v2 v3 v4 hA
 go_enter Try.func88, Try.ntmps88
 go_upto_region 1 with fail
 refine wp_gen (fun wx => Aside0 (BxS n0 #[.string x.f0, .bool x.f1, .int .i64 x.f2.f0, .int .i64 x.f2.f1] 49 w wx)) ⟨by rw [hn0]; exact BxS.start _ _ w⟩ ?_
 rw [← hn0]
 clear hn0
 rintro w1 HS
 have y0 := (HS.out.cell 0).trans (show _ = some (.string x.f0) from rfl)
 have y1 := (HS.out.cell 1).trans (show _ = some (.bool x.f1) from rfl)
 have y2 := (HS.out.cell 2).trans (show _ = some (.int .i64 x.f2.f0) from rfl)
 have y3 := (HS.out.cell 3).trans (show _ = some (.int .i64 x.f2.f1) from rfl)
 have yl := blk_lt HS.out.2
 cases hg : x.f1 with
 | true =>
  obtain ⟨s0, s1, s2, s3⟩ := HV.out.1 hg
  have hes : x.f0 = ⟨#[]⟩ := by
   apply ByteArray.ext
   exact Array.eq_empty_of_size_eq_zero s0
  have HI1 := Aside0.mk (inB_true.2 (show 0 ≤ x.f2.f0 ∧ x.f2.f0 ≤ 1000 by omega))
  have HI2 := Aside0.mk (inB_true.2 (show 0 ≤ x.f2.f1 ∧ x.f2.f1 ≤ 1000 by omega))
  have hd : decide (x.f2.f1 < x.f2.f0) = false := decide_eq_false (by omega)
  rw [hg] at y1
  rw [hes] at y0
  clear hes hg s0 s1 s2 s3
  go_wp2_with first
   | ((fail_if_success (have h_ := HS2.out)); go_at_call 87; refine (bet_calls x.f2.f0 0 1000 HI1.out w1).mono ?_; rintro e w2 ⟨rfl, hb⟩; have HS2 := Aside0.mk (HS.out.next hb); clear y0 y1 y2 y3 yl hb; have y2 := (HS2.out.cell 2).trans (show _ = some (.int .i64 x.f2.f0) from rfl); have y3 := (HS2.out.cell 3).trans (show _ = some (.int .i64 x.f2.f1) from rfl); have yl := blk_lt HS2.out.2)
   | (go_at_call 87; refine (bet_calls x.f2.f1 0 1000 HI2.out w2).mono ?_; rintro e w3 ⟨rfl, hb⟩; have HS3 := Aside0.mk (HS2.out.next hb); clear y2 y3 yl hb; have y2 := (HS3.out.cell 2).trans (show _ = some (.int .i64 x.f2.f0) from rfl); have y3 := (HS3.out.cell 3).trans (show _ = some (.int .i64 x.f2.f1) from rfl); have yl := blk_lt HS3.out.2)
   | fail
  go_ret
  exact ⟨rfl, HN0.out ▸ HS3.out.1⟩
 | false =>
  have HA := Aside0.mk (range_all.1 (HV.out.2.2 hg))
  have HG := Aside0.mk hg
  rw [hg] at y1
  clear hg
  go_wp2_with fail
  go_loopg [3] x.f0.size (fun gh v3 wr => ∃ i : Nat, i + gh = x.f0.size ∧ v3 = .int .i64 (i : Int) ∧ Aside0 (BxS n0 #[.string x.f0, .bool x.f1, .int .i64 x.f2.f0, .int .i64 x.f2.f1] 49 w wr))
  case atStart => exact ⟨0, by omega, rfl, HS⟩
  case round =>
   clear HS y0 y1 y2 y3 yl
   obtain ⟨i, hi, rfl, HS⟩ := hrel
   have HI := Aside0.mk hi
   have y0 := (HS.out.cell 0).trans (show _ = some (.string x.f0) from rfl)
   have yl := blk_lt HS.out.2
   by_cases hlt : i < x.f0.size
   ·have hz : (i : Int) < (x.f0.size : Int) := by omega
    have hd : decide (i < x.f0.size) = true := decide_eq_true hlt
    have hdd : decide ((i : Int) < (x.f0.size : Int)) = true := decide_eq_true hz
    have h0 : (0 : Int) ≤ (i : Int) := by omega
    have HLT := Aside0.mk hlt
    have hw := wrapS i (by have := HZ.out; omega)
    have hA := HA.out i hlt
    unfold ascAt at hA
    rw [Bool.and_eq_true] at hA
    have HC := Aside0.mk hA.1
    have hb := bt_at x.f0 (i : Int) (by simpa using hlt)
    simp only [Int.toNat_natCast] at hb
    by_cases he : i = 0
    ·have hz0 : decide ((0 : Int) < (i : Int)) = false := decide_eq_false (by omega)
     have hz1 : decide (0 < i) = false := decide_eq_false (by omega)
     have hz2 : ¬ (i : Int) > 0 := by omega
     clear hA hi he
     go_wp2_with fail
     go_quiet (exact Calls.quiet_of ((capr_calls _ HC.out _).mono (fun _ _ h => ⟨h.1, h.2.out⟩)))
     go_wp2_with fail
     go_roundg (gk - 1)
     case measure => have := HI.out; have := HLT.out; omega
     case rel => exact ⟨i + 1, by have := HI.out; have := HLT.out; omega, by go_num, ⟨HS.out.drewN _⟩⟩
    ·have hz0 : decide ((0 : Int) < (i : Int)) = true := decide_eq_true (by omega)
     have hz1 : decide (0 < i) = true := decide_eq_true (by omega)
     have hz2 : (i : Int) > 0 := by omega
     have hlt2 : bt x.f0 ((i : Int) - 1) < bt x.f0 (i : Int) := by
      rcases Bool.or_eq_true_iff.1 hA.2 with h | h
      ·exact absurd (of_decide_eq_true h) he
      ·exact of_decide_eq_true h
     obtain ⟨j, hj⟩ : ∃ j : Nat, i = j + 1 := ⟨i - 1, by omega⟩
     have hw1 : wrap64 ((i : Int) - 1) = (j : Int) := by have := HZ.out; simp [wrap64]; omega
     have hw2 : IntKind.i64.wrap ((i : Int) - 1) = (j : Int) := by rw [i64_w]; exact hw1
     rw [show (i : Int) - 1 = (j : Int) by omega] at hlt2
     have hj0 : (0 : Int) ≤ (j : Int) := by omega
     have hj1 : (j : Int) < (x.f0.size : Int) := by omega
     have hj2 : j < x.f0.size := by omega
     have hb2 := bt_at x.f0 (j : Int) (by simpa using hj2)
     simp only [Int.toNat_natCast] at hb2
     have hle : decide (bt x.f0 (i : Int) ≤ bt x.f0 (j : Int)) = false := decide_eq_false (by omega)
     clear hA hi he hj hlt2
     go_wp2_with fail
     go_quiet (exact Calls.quiet_of ((capr_calls _ HC.out _).mono (fun _ _ h => ⟨h.1, h.2.out⟩)))
     go_wp2_with fail
     go_roundg (gk - 1)
     case measure => have := HI.out; have := HLT.out; omega
     case rel => exact ⟨i + 1, by have := HI.out; have := HLT.out; omega, by go_num, ⟨HS.out.drewN _⟩⟩
   ·have hz : ¬ (i : Int) < (x.f0.size : Int) := by omega
    have hd : decide (i < x.f0.size) = false := decide_eq_false hlt
    have hdd : decide ((i : Int) < (x.f0.size : Int)) = false := decide_eq_false hz
    obtain ⟨w0, w1⟩ := HV.out.2.1 HG.out
    have y2 := (HS.out.cell 2).trans (show _ = some (.int .i64 0) by rw [← w0]; rfl)
    have y3 := (HS.out.cell 3).trans (show _ = some (.int .i64 0) by rw [← w1]; rfl)
    clear hi hlt w0 w1
    go_wp2_with fail
    go_ret
    exact ⟨rfl, HN0.out ▸ HS.out.1⟩
set_option maxHeartbeats 2000000 in
set_option maxRecDepth 100000 in
theorem rrow_ok {A : Option Addr} {c : Nat} {r : List S49} {w : World} (hr : Kd.C k49 w A r.length r) (ho : OkR r) : Calls Try.prog 70 #[.slice A r.length c] w fun e w' => e = .returned (.int .i64 0) ∧ Below w.heap.size w w' := by
 have HR := Aside0.mk hr
 have HO := Aside0.mk ho
 have h1 := ho.n1
 have h2 := ho.n24
 have HZ := Aside0.mk h2
 have z1 : ((r.length : Int) == 0) = false := beq_eq_false_iff_ne.mpr (by omega)
 have z2 : decide (24 < r.length) = false := decide_eq_false (by omega)
 have z3 : decide (24 < (r.length : Int)) = false := decide_eq_false (by omega)
 clear hr ho h1 h2
 go_enter Try.func70, Try.ntmps70
 go_wp2_with fail
 go_loopg [3, 4] r.length (fun gh v3 v4 wr => ∃ i : Nat, i + gh = r.length ∧ v4 = .int .i64 (i : Int) ∧ v3 = .int .i64 (gapsN r i : Int) ∧ Aside0 (Below w.heap.size w wr))
 case atStart => exact ⟨0, by omega, rfl, rfl, ⟨Below.refl _ _⟩⟩
 case round =>
  clear z1 z2 z3
  obtain ⟨i, hi, rfl, rfl, HS⟩ := hrel
  have HI := Aside0.mk hi
  by_cases hlt : i < r.length
  ·have hz : (i : Int) < (r.length : Int) := by omega
   have hd : decide (i < r.length) = true := decide_eq_true hlt
   have hdd : decide ((i : Int) < (r.length : Int)) = true := decide_eq_true hz
   have h0 : (0 : Int) ≤ (i : Int) := by omega
   have HLT := Aside0.mk hlt
   have hw := wrapS i (by have := HZ.out; omega)
   obtain ⟨ad, rfl, e0, e1, e2, e3⟩ := at_T49 (Kd.C_below HR.out HS.out) (i : Int) h0 hz
   rw [Int.toNat_natCast] at e0 e1 e2 e3
   have el := World.block_lt_of_cell? wr _ e0
   have HV := Aside0.mk (fun (W : World) => cell_ok _ (HO.out.cell i hlt) W)
   have hg1 := gapsN_succ r i
   have hg2 := gapsN_le r (i + 1) (r.length - (i + 1))
   rw [show i + 1 + (r.length - (i + 1)) = r.length by omega] at hg2
   have hg3 : gapsN r r.length ≤ 3 := HO.out.gaps
   obtain ⟨x, hx⟩ : ∃ x, x = rd_T49 r (i : Int) := ⟨_, rfl⟩
   have HE := Aside0.mk (fun (W : World) (h : Below wr.heap.size wr W) => (h.cell (p := ⟨(ad.add (i * 4)).block, (ad.add (i * 4)).off + 1, none⟩) el).trans e1)
   rw [← hx] at e0 e1 e2 e3 hg1 HV HE
   have hgd : decide (3 < (gapsN r i : Int)) = false := decide_eq_false (by clear hw; omega)
   clear hi hlt hx
   cases hg : x.f1 with
   | false =>
    rw [hg] at hg1
    rw [if_neg (by decide), Nat.add_zero] at hg1
    have HG1 := Aside0.mk hg1
    have HG := Aside0.mk hg
    clear hg2 hg3 hg hg1
    go_wp2_with first
     | (go_at_call 88; refine (HV.out wr).mono ?_; rintro e w3 ⟨rfl, hb⟩; have HB2 := Aside0.mk (HS.out.trans (hb.mono HS.out.size)); have f1 := (HE.out _ hb).trans (by rw [HG.out]); clear e0 e1 e2 e3 el; have el := World.block_lt_of_cell? w3 _ f1; clear hb)
     | fail
    go_roundg (gk - 1)
    case measure => have := HI.out; have := HLT.out; omega
    case rel => exact ⟨i + 1, by have := HI.out; have := HLT.out; omega, by go_num, by rw [HG1.out, Nat.add_zero], HB2⟩
   | true =>
    rw [hg] at hg1
    rw [if_pos rfl] at hg1
    have HG1 := Aside0.mk (show ((gapsN r (i + 1) : Nat) : Int) = (gapsN r i : Int) + 1 by omega)
    have hg4 : decide (3 < (gapsN r i : Int) + 1) = false := decide_eq_false (by clear hg hw; omega)
    have hgw := wrap3 (gapsN r i) (by clear hw; omega)
    have HGW := Aside0.mk hgw
    have HG := Aside0.mk hg
    clear hg2 hg3 hg hg1
    go_wp2_with first
     | (go_at_call 88; refine (HV.out wr).mono ?_; rintro e w3 ⟨rfl, hb⟩; have HB2 := Aside0.mk (HS.out.trans (hb.mono HS.out.size)); have f1 := (HE.out _ hb).trans (by rw [HG.out]); clear e0 e1 e2 e3 el; have el := World.block_lt_of_cell? w3 _ f1; clear hb)
     | fail
    go_roundg (gk - 1)
    case measure => have := HI.out; have := HLT.out; omega
    case rel => exact ⟨i + 1, by have := HI.out; have := HLT.out; omega, by go_num, by rw [HG1.out, HGW.out], HB2⟩
  ·have hz : ¬ (i : Int) < (r.length : Int) := by omega
   have hd : decide (i < r.length) = false := decide_eq_false hlt
   have hdd : decide ((i : Int) < (r.length : Int)) = false := decide_eq_false hz
   clear hi hlt
   go_wp2_with fail
   go_ret
   exact ⟨rfl, HS.out⟩
end Go.Proofs.Ytkfebceainedfaa.P.OwnGap
namespace Go.Proofs.Ytkfebceainedfaa.P.OwnGap
open Go.RowKit Go.Shelf Go.Proofs.YtkfebceainedfaaW.PrintWords Go.Proofs.YtkfebceainedfaaW.PrintLast Go.Proofs.YtkfebceainedfaaW.PrintMore
open Go.Proofs.Ytkfebceainedfaa.OwnGap
set_option linter.unusedVariables false
set_option linter.unusedSimpArgs false
attribute [local go_sem] Oper.semAt_some
set_option maxHeartbeats 4000000 in
set_option maxRecDepth 100000 in
theorem rcheck_ok {X : Lx} {A0 A1 A2 A3 A4 Ar : Option Addr} {c0 c1 c2 c3 c4 cr : Nat} {w : World} (hin : LxIn X A0 A1 A2 A3 A4 Ar c0 c1 c2 c3 c4 cr w) (hc : OkC X) :
  Calls Try.prog 69 #[.agg #[.slice A0 X.l0.length c0, .slice A1 X.l1.length c1, .slice A2 X.l2.length c2, .slice A3 X.l3.length c3, .slice A4 X.l4.length c4]] w fun e w' => e = .returned (.int .i64 0) ∧ Below w.heap.size w w' := by
 have HIN := Aside0.mk hin
 have HC := Aside0.mk hc
 have q1 := hc.n1
 have q2 := hc.n12
 have z1 : ((X.l0.length : Int) == 0) = false := beq_eq_false_iff_ne.mpr (by omega)
 have z2 : decide (12 < X.l0.length) = false := decide_eq_false (by omega)
 have z3 : decide (12 < (X.l0.length : Int)) = false := decide_eq_false (by omega)
 clear hin hc q1 q2
 obtain ⟨n1, hn1⟩ : ∃ n, n = w.heap.size := ⟨_, rfl⟩
 have HN1 := Aside0.mk hn1
 go_enter Try.func69, Try.ntmps69
 go_upto_region 1 with fail
 refine wp_gen (fun wx => Aside0 (Below n1 w wx ∧ BxAt X A0 A1 A2 A3 A4 c0 c1 c2 c3 c4 n1 wx)) ⟨⟨by rw [hn1]; exact (Below.refl _ _).alloc (Nat.le_refl _) _, by rw [hn1]; exact bxAt_new A0 A1 A2 A3 A4 c0 c1 c2 c3 c4 w⟩⟩ ?_
 rw [← hn1]
 clear hn1
 rintro w1 HS
 have HI1 := Aside0.mk (fun (W : World) (h : Below n1 w W) => HIN.out.below (show Below w.heap.size w W by rw [← HN1.out]; exact h))
 obtain ⟨x0, x1, x2, x3, x4⟩ := HS.out.2.cells
 have xl := blk_lt HS.out.2
 go_wp2_with first
  | (go_at_call 85; refine (forms_ok (HI1.out _ HS.out.1) HC.out).mono ?_; rintro e w2 ⟨rfl, hb⟩; have HS2 := Aside0.mk (show Below n1 w w2 ∧ BxAt X A0 A1 A2 A3 A4 c0 c1 c2 c3 c4 n1 w2 from ⟨HS.out.1.trans (hb.mono (Nat.le_of_lt (blk_lt HS.out.2))), HS.out.2.below hb⟩); clear x0 x1 x2 x3 x4 xl hb; obtain ⟨x0, x1, x2, x3, x4⟩ := HS2.out.2.cells; have xl := blk_lt HS2.out.2)
  | fail
 go_loopg [4] X.l0.length (fun gh s4 wr => ∃ i : Nat, i + gh = X.l0.length ∧ s4 = .int .i64 (i : Int) ∧ Aside0 (Below n1 w wr ∧ BxAt X A0 A1 A2 A3 A4 c0 c1 c2 c3 c4 n1 wr))
 case atStart => exact ⟨0, by omega, rfl, HS2⟩
 case round =>
  clear HS HS2 x0 x1 x2 x3 x4 xl z1 z2 z3
  obtain ⟨i, hi, rfl, HS⟩ := hrel
  have HI2 := Aside0.mk hi
  by_cases hlt : i < X.l0.length
  ·have hz : (i : Int) < (X.l0.length : Int) := by omega
   have hd : decide (i < X.l0.length) = true := decide_eq_true hlt
   have hd2 : decide ((i : Int) < (X.l0.length : Int)) = true := decide_eq_true hz
   have h0 : (0 : Int) ≤ (i : Int) := by omega
   have hw := wrapS i (by have := HC.out.n12; omega)
   have HLT := Aside0.mk hlt
   have HIW := Aside0.mk (HI1.out _ HS.out.1)
   obtain ⟨ad, hA, e0, e1⟩ := at_T53 HIW.out.h0 (i : Int) h0 hz
   rw [Int.toNat_natCast] at e0 e1
   subst hA
   have el := World.block_lt_of_cell? wr _ e0
   obtain ⟨x0, x1, x2, x3, x4⟩ := HS.out.2.cells
   have xl := blk_lt HS.out.2
   have hs1 : (i : Int) ≤ (X.l0.length : Int) := by omega
   have HCC := Aside0.mk (fun (W' : World) (hb : Below wr.heap.size wr W') => show W'.cell? ⟨n1, 0, none⟩ = some (.slice (some ad) X.l0.length c0) ∧ W'.cell? ⟨n1, 1, none⟩ = some (.slice A1 X.l1.length c1) ∧ W'.cell? ⟨n1, 2, none⟩ = some (.slice A2 X.l2.length c2) ∧ W'.cell? ⟨n1, 3, none⟩ = some (.slice A3 X.l3.length c3) ∧ W'.cell? ⟨n1, 4, none⟩ = some (.slice A4 X.l4.length c4) ∧ W'.cell? (ad.add (i * 2)) = some (.string (rd_T53 X.l0 (i : Int)).f0) ∧ W'.cell? ⟨(ad.add (i * 2)).block, (ad.add (i * 2)).off + 1, none⟩ = some (.int .i64 (rd_T53 X.l0 (i : Int)).f1) from
    ⟨(hb.cell (p := ⟨n1, 0, none⟩) xl).trans x0, (hb.cell (p := ⟨n1, 1, none⟩) xl).trans x1, (hb.cell (p := ⟨n1, 2, none⟩) xl).trans x2, (hb.cell (p := ⟨n1, 3, none⟩) xl).trans x3, (hb.cell (p := ⟨n1, 4, none⟩) xl).trans x4, (hb.cell el).trans e0, (hb.cell (p := ⟨(ad.add (i * 2)).block, (ad.add (i * 2)).off + 1, none⟩) el).trans e1⟩)
   obtain ⟨i0, hi0, -, -, -⟩ := info_parts info53
   have hcut := cut_to (P := Try.prog) 23 53 .i64 Try.underlying23 hi0 (some ad) X.l0.length c0 (i : Int) h0 hs1 HIN.out.g0
   rw [Int.toNat_natCast] at hcut
   have HWO := Aside0.mk (rword_ok (HIW.out.below (Below.drew (Below.refl _ _))) HC.out HLT.out)
   clear hs1 hi0 hi hlt
   go_upto_region 11 with fail
   go_region_held3 (fun w' => w'.cell? ⟨n1, 0, none⟩ = some (.slice (some ad) X.l0.length c0) ∧ w'.cell? ⟨n1, 1, none⟩ = some (.slice A1 X.l1.length c1) ∧ w'.cell? ⟨n1, 2, none⟩ = some (.slice A2 X.l2.length c2) ∧ w'.cell? ⟨n1, 3, none⟩ = some (.slice A3 X.l3.length c3) ∧ w'.cell? ⟨n1, 4, none⟩ = some (.slice A4 X.l4.length c4) ∧ w'.cell? (ad.add (i * 2)) = some (.string (rd_T53 X.l0 (i : Int)).f0) ∧ w'.cell? ⟨(ad.add (i * 2)).block, (ad.add (i * 2)).off + 1, none⟩ = some (.int .i64 (rd_T53 X.l0 (i : Int)).f1))
    (first | exact HCC.out _ HB3.out | exact HCC.out _ (Below.drew (Below.refl _ _)))
    (first | (go_at_call 86; refine HWO.out.mono ?_; rintro e w3 ⟨rfl, hb3⟩; have HB3 := Aside0.mk (show Below wr.heap.size wr w3 from (Below.drew (Below.refl _ _)).trans hb3); clear hb3))
   go_wp2_with fail
   go_roundg (gk - 1)
   case measure => have := HI2.out; have := HLT.out; omega
   case rel => exact ⟨i + 1, by have := HI2.out; have := HLT.out; omega, by go_num, ⟨HS.out.1.trans (HB3.out.mono (Nat.le_of_lt xl)), HS.out.2.below HB3.out⟩⟩
  ·have hz : ¬ (i : Int) < (X.l0.length : Int) := by omega
   have hd : decide (i < X.l0.length) = false := decide_eq_false hlt
   have hd2 : decide ((i : Int) < (X.l0.length : Int)) = false := decide_eq_false hz
   clear hi hlt
   obtain ⟨x0, x1, x2, x3, x4⟩ := HS.out.2.cells
   have xl := blk_lt HS.out.2
   rw [HC.out.l4] at x4
   have z1 : ((26 : Int) != 26) = false := by decide
   go_wp2_with fail
   go_loopg [6] 26 (fun gh s6 wr => ∃ i : Nat, i + gh = 26 ∧ s6 = .int .i64 (i : Int) ∧ Aside0 (Below n1 w wr ∧ BxAt X A0 A1 A2 A3 A4 c0 c1 c2 c3 c4 n1 wr))
   case atStart => exact ⟨0, by omega, rfl, HS⟩
   case round =>
    clear HS x0 x1 x2 x3 x4 xl z1 hz hd hd2
    obtain ⟨i, hi, rfl, HS⟩ := hrel
    have HI2 := Aside0.mk hi
    by_cases hlt : i < 26
    ·have hz : (i : Int) < 26 := by omega
     have hz2 : (i : Int) < (X.l4.length : Int) := by have := HC.out.l4; omega
     have hd : decide (i < 26) = true := decide_eq_true hlt
     have hd2 : decide ((i : Int) < 26) = true := decide_eq_true hz
     have h0 : (0 : Int) ≤ (i : Int) := by omega
     have hw := wrapS i (by omega)
     have HLT := Aside0.mk hlt
     obtain ⟨ad, hA, e0, e1⟩ := at_T47 (HI1.out _ HS.out.1).h4 (i : Int) h0 hz2
     rw [Int.toNat_natCast] at e0 e1
     subst hA
     have el := World.block_lt_of_cell? wr _ e0
     obtain ⟨s1, s2, s3⟩ := spanV_zero (HC.out.sp i hlt)
     have HS1 := Aside0.mk (inB_true.2 s1)
     have HS2 := Aside0.mk (inB_true.2 s2)
     obtain ⟨x, hx⟩ : ∃ x, x = rd_T47 X.l4 (i : Int) := ⟨_, rfl⟩
     rw [← hx] at e0 e1 s3 HS1 HS2
     have hdx : decide (x.f1 < x.f0) = false := decide_eq_false (by clear hw; omega)
     obtain ⟨x0, x1, x2, x3, x4⟩ := HS.out.2.cells
     have xl := blk_lt HS.out.2
     rw [HC.out.l4] at x4
     clear hi hlt s1 s2 s3 hz2 hx
     go_upto_region 20 with fail
     obtain ⟨b7, hb7⟩ : ∃ b, b = wr.heap.size := ⟨_, rfl⟩
     have HB7 := Aside0.mk (show n1 < b7 by rw [hb7]; exact xl)
     have HBR := Aside0.mk (fun (W : World) (h : Below b7 wr W) => show Below n1 w W ∧ BxAt X A0 A1 A2 A3 (some ad) c0 c1 c2 c3 c4 n1 W from ⟨HS.out.1.trans (h.mono (Nat.le_of_lt HB7.out)), HS.out.2.below (hb7 ▸ h)⟩)
     refine wp_gen (fun wx => Aside0 (BxS b7 #[.int .i64 x.f0, .int .i64 x.f1] 47 wr wx)) ⟨by rw [hb7]; exact BxS.start _ _ wr⟩ ?_
     rw [← hb7]
     clear hb7 e0 e1 el x0 x1 x2 x3 x4 xl
     rintro w2 HX
     have y0 := (HX.out.cell 0).trans (show _ = some (.int .i64 x.f0) from rfl)
     have y1 := (HX.out.cell 1).trans (show _ = some (.int .i64 x.f1) from rfl)
     have yl := blk_lt HX.out.2
     go_wp2_with first
      | ((fail_if_success (have h_ := HX2.out)); go_at_call 87; refine (bet_calls x.f0 1 100 HS1.out w2).mono ?_; rintro e w3 ⟨rfl, hb⟩; have HX2 := Aside0.mk (HX.out.next hb); clear y0 y1 yl hb; have y0 := (HX2.out.cell 0).trans (show _ = some (.int .i64 x.f0) from rfl); have y1 := (HX2.out.cell 1).trans (show _ = some (.int .i64 x.f1) from rfl); have yl := blk_lt HX2.out.2)
      | (go_at_call 87; refine (bet_calls x.f1 1 100 HS2.out w3).mono ?_; rintro e w4 ⟨rfl, hb⟩; have HX3 := Aside0.mk (HX2.out.next hb); clear y0 y1 yl hb; have y0 := (HX3.out.cell 0).trans (show _ = some (.int .i64 x.f0) from rfl); have y1 := (HX3.out.cell 1).trans (show _ = some (.int .i64 x.f1) from rfl); have yl := blk_lt HX3.out.2)
      | fail
     go_roundg (gk - 1)
     case measure => have := HI2.out; have := HLT.out; omega
     case rel => exact ⟨i + 1, by have := HI2.out; have := HLT.out; omega, by go_num, ⟨HBR.out _ HX3.out.1⟩⟩
    ·have hz : ¬ (i : Int) < 26 := by omega
     have hd : decide (i < 26) = false := decide_eq_false hlt
     have hd2 : decide ((i : Int) < 26) = false := decide_eq_false hz
     clear hi hlt
     go_wp2_with fail
     go_ret
     exact ⟨rfl, HN1.out ▸ HS.out.1⟩
def AnyB (e : Ending) : Prop := ∃ b, e = .returned (.bool b)
set_option maxHeartbeats 4000000 in
set_option maxRecDepth 100000 in
theorem heavy_any {X : Lx} {A0 A1 A2 A3 A4 Ar : Option Addr} {c0 c1 c2 c3 c4 cr : Nat} {w : World} (hin : LxIn X A0 A1 A2 A3 A4 Ar c0 c1 c2 c3 c4 cr w) (hc : OkC X) (ho : OkR X.r) :
  Calls Try.prog 33 #[.agg #[.slice A0 X.l0.length c0, .slice A1 X.l1.length c1, .slice A2 X.l2.length c2, .slice A3 X.l3.length c3, .slice A4 X.l4.length c4], .slice Ar X.r.length cr] w fun e w' => AnyB e ∧ Below w.heap.size w w' := by
 have HIN := Aside0.mk hin
 have HC := Aside0.mk hc
 have HO := Aside0.mk ho
 clear hin hc ho
 obtain ⟨n1, hn1⟩ : ∃ n, n = w.heap.size := ⟨_, rfl⟩
 have HN1 := Aside0.mk hn1
 go_enter Try.func33, Try.ntmps33
 go_upto_region 1 with fail
 refine wp_gen (fun wx => Aside0 (Below n1 w wx ∧ BxAt X A0 A1 A2 A3 A4 c0 c1 c2 c3 c4 n1 wx)) ⟨⟨by rw [hn1]; exact (Below.refl _ _).alloc (Nat.le_refl _) _, by rw [hn1]; exact bxAt_new A0 A1 A2 A3 A4 c0 c1 c2 c3 c4 w⟩⟩ ?_
 rw [← hn1]
 clear hn1
 rintro w1 HS
 have HI1 := Aside0.mk (fun (W : World) (h : Below n1 w W) => HIN.out.below (show Below w.heap.size w W by rw [← HN1.out]; exact h))
 go_wp2_with fail
 go_loopg [5, 6] X.r.length (fun gh s5 s6 wr => ∃ (i : Nat) (o : Int), i + gh = X.r.length ∧ s6 = .int .i64 (i : Int) ∧ s5 = .int .i64 o ∧ Aside0 (Below n1 w wr ∧ BxAt X A0 A1 A2 A3 A4 c0 c1 c2 c3 c4 n1 wr))
 case atStart => exact ⟨0, 0, by omega, rfl, rfl, HS⟩
 case round =>
  clear HS
  obtain ⟨i, o, hi, rfl, rfl, HS⟩ := hrel
  have HI2 := Aside0.mk hi
  by_cases hlt : i < X.r.length
  ·have hz : (i : Int) < (X.r.length : Int) := by omega
   have hd : decide (i < X.r.length) = true := decide_eq_true hlt
   have hd2 : decide ((i : Int) < (X.r.length : Int)) = true := decide_eq_true hz
   have h0 : (0 : Int) ≤ (i : Int) := by omega
   have hw := wrapS i (by have := HO.out.n24; omega)
   have HLT := Aside0.mk hlt
   obtain ⟨ad, hA, e0, e1, -, -⟩ := at_T49 (HI1.out _ HS.out.1).hr (i : Int) h0 hz
   rw [Int.toNat_natCast] at e0 e1
   subst hA
   have el := World.block_lt_of_cell? wr _ e0
   obtain ⟨x, hx⟩ : ∃ x, x = rd_T49 X.r (i : Int) := ⟨_, rfl⟩
   rw [← hx] at e0 e1
   clear hi hlt hx
   cases hg : x.f1 with
   | true =>
    rw [hg] at e1
    go_wp2_with fail
    go_roundg (gk - 1)
    case measure => have := HI2.out; have := HLT.out; omega
    case rel => exact ⟨i + 1, _, by have := HI2.out; have := HLT.out; omega, by go_num, rfl, HS⟩
   | false =>
    rw [hg] at e1
    by_cases h1 : (x.f0.size : Int) = 1
    ·have hb : ((x.f0.size : Int) != 1) = false := by rw [h1]; decide
     clear h1
     go_wp2_with fail
     go_roundg (gk - 1)
     case measure => have := HI2.out; have := HLT.out; omega
     case rel => exact ⟨i + 1, _, by have := HI2.out; have := HLT.out; omega, by go_num, rfl, HS⟩
    ·have hb : ((x.f0.size : Int) != 1) = true := bne_iff_ne.2 h1
     clear h1
     go_wp2_with fail
     go_roundg (gk - 1)
     case measure => have := HI2.out; have := HLT.out; omega
     case rel => exact ⟨i + 1, _, by have := HI2.out; have := HLT.out; omega, by go_num, rfl, HS⟩
  ·have hz : ¬ (i : Int) < (X.r.length : Int) := by omega
   have hd : decide (i < X.r.length) = false := decide_eq_false hlt
   have hd2 : decide ((i : Int) < (X.r.length : Int)) = false := decide_eq_false hz
   clear hi hlt
   obtain ⟨x0, x1, x2, x3, x4⟩ := HS.out.2.cells
   have xl := blk_lt HS.out.2
   by_cases ho8 : o > 8
   ·have h8 : decide (8 < o) = true := decide_eq_true ho8
    clear ho8
    go_wp2_with first
     | (go_at_call 69; refine (rcheck_ok (HI1.out _ HS.out.1) HC.out).mono ?_; rintro e w2 ⟨rfl, hb⟩; have HB2 := Aside0.mk (HS.out.1.trans (hb.mono (Nat.le_of_lt (blk_lt HS.out.2)))); have HZ2 := Aside0.mk (Nat.le_trans (Nat.le_of_lt (blk_lt HS.out.2)) hb.size); clear hb)
     | (go_at_call 70; refine (rrow_ok (HI1.out _ HB2.out).hr HO.out).mono ?_; rintro e w3 ⟨rfl, hb⟩; have HB3 := Aside0.mk (HB2.out.trans (hb.mono HZ2.out)); clear hb)
     | fail
    go_ret
    exact ⟨⟨_, rfl⟩, HN1.out ▸ HB3.out⟩
   ·have h8 : decide (8 < o) = false := decide_eq_false ho8
    clear ho8
    go_wp2_with fail
    go_ret
    exact ⟨⟨_, rfl⟩, HN1.out ▸ HS.out.1⟩
end Go.Proofs.Ytkfebceainedfaa.P.OwnGap
namespace Go.Proofs.Ytkfebceainedfaa.P.OwnGap
open Go.RowKit Go.Shelf Go.Proofs.YtkfebceainedfaaW.PrintWords Go.Proofs.YtkfebceainedfaaW.PrintLast Go.Proofs.YtkfebceainedfaaW.PrintMore
open Go.Proofs.Ytkfebceainedfaa.OwnGap Go.Proofs.Ytkfebceainedfaa.P.OwnUrn
set_option linter.unusedVariables false
set_option linter.unusedSimpArgs false
attribute [local go_sem] Oper.semAt_some
def TxPost (X : Lx) (m g : Nat) (w0 w : World) (e : Ending) (w' : World) : Prop := ∃ (ws : List Int) (is : Bool) (z0 z1 : Int) (A : Option Addr) (c : Nat), e = .returned (.tuple #[.slice A ws.length c, .bool is]) ∧ TxGood X (ws, is, z0, z1) ∧ Ft (Kd.int .i64) A ws m w' ∧ ws.length ≤ c ∧ IsS83 w0 w' g z0 z1 ∧ Below w0.heap.size w0 w' ∧ KeepBut w w' g none
structure TxS (X : Lx) (A0 A1 A2 A3 A4 : Option Addr) (c0 c1 c2 c3 c4 n4 g : Nat) (w0 w : World) (l : List Int) (v : Value) (a b : Int) (wx : World) : Prop where
 m : MdW w0 w g a b wx
 b : BxAt X A0 A1 A2 A3 A4 c0 c1 c2 c3 c4 n4 wx
 r : Kd.R (Kd.int .i64) 3 wx w.heap.size (fun _ => True) v l
 t : Tx X l
 n : l.length ≤ 4
theorem TxS.call {X : Lx} {A0 A1 A2 A3 A4 : Option Addr} {c0 c1 c2 c3 c4 n4 g : Nat} {w0 w wx wy : World} {l : List Int} {v : Value} {a b a' b' : Int} (h : TxS X A0 A1 A2 A3 A4 c0 c1 c2 c3 c4 n4 g w0 w l v a b wx) (hg : g < w.heap.size ∧ g < n4) (hi : IsS83 w0 wy g a' b') (hb : Below w0.heap.size w0 wy) (hk : KeepBut wx wy g none) : TxS X A0 A1 A2 A3 A4 c0 c1 c2 c3 c4 n4 g w0 w l v a' b' wy :=
 ⟨h.m.call hi hb hk, hk.blk h.b (by omega) (by simp), Kd.R_mono (Kd.R_keep (Kd.R_bound h.r) hk (fun k hk => by have := hk.2.1; omega)) (fun _ _ => trivial), h.t, h.n⟩
theorem TxS.app {X : Lx} {A0 A1 A2 A3 A4 : Option Addr} {c0 c1 c2 c3 c4 n4 g : Nat} {w0 w wx wy : World} {l l' : List Int} {v v' : Value} {a b : Int} (h : TxS X A0 A1 A2 A3 A4 c0 c1 c2 c3 c4 n4 g w0 w l v a b wx) (hgl : g < w.heap.size) (hw0 : w0.heap.size ≤ w.heap.size) (hg : wx.grownBy wy v.ownBlock) (hr : Kd.R (Kd.int .i64) 3 wy w.heap.size (fun _ => True) v' l') (ht : Tx X l') (hn : l'.length ≤ 4) : TxS X A0 A1 A2 A3 A4 c0 c1 c2 c3 c4 n4 g w0 w l' v' a b wy := by
 have hb := Kd.R_base h.r
 have hlt : ∀ k, k < w.heap.size → some k ≠ v.ownBlock := fun k hk e => by have := hb k e.symm; omega
 refine ⟨⟨⟨(hg.block g h.m.i.lt (hlt g hgl)).trans h.m.i.1, h.m.i.2⟩, h.m.b.grown hg h.m.b.size (fun k hk => by have := hb k hk; omega), ⟨Nat.le_trans h.m.k.1 hg.size, fun i hi hne hrw => (hg.block i (Nat.lt_of_lt_of_le hi h.m.k.1) (hlt i hi)).trans (h.m.k.2 i hi hne hrw)⟩⟩, ?_, hr, ht, hn⟩
 exact (hg.block n4 (blk_lt h.b) (Kd.R_ne h.r h.b (by decide))).trans h.b
theorem TxS.drewN {X : Lx} {A0 A1 A2 A3 A4 : Option Addr} {c0 c1 c2 c3 c4 n4 g : Nat} {w0 w wx : World} {l : List Int} {v : Value} {a b : Int} (h : TxS X A0 A1 A2 A3 A4 c0 c1 c2 c3 c4 n4 g w0 w l v a b wx) (q : Nat) : TxS X A0 A1 A2 A3 A4 c0 c1 c2 c3 c4 n4 g w0 w l v a b (wx.drewN q) := ⟨⟨h.m.i.drewN q, pw_below_drewN h.m.b q, keep_drewN h.m.k q⟩, h.b, Kd.R_drewN h.r q, h.t, h.n⟩
set_option maxHeartbeats 8000000 in
set_option maxRecDepth 100000 in
theorem text_walk {g m F L : Nat} {s0 s1 : Int} {X : Lx} {A0 A1 A2 A3 A4 : Option Addr} {c0 c1 c2 c3 c4 : Nat} {w0 w : World} (hM : MLx X F L) (hm : g < m ∧ m ≤ w.heap.size) (hI : IsS83 w0 w g s0 s1) (hB : Below w0.heap.size w0 w) (hX : LxF X A0 A1 A2 A3 A4 c0 c1 c2 c3 c4 m w) :
  Calls Try.prog 39 #[.pointer (some ⟨g, 0, none⟩), .agg #[.slice A0 X.l0.length c0, .slice A1 X.l1.length c1, .slice A2 X.l2.length c2, .slice A3 X.l3.length c3, .slice A4 X.l4.length c4], .int .i64 4] w (TxPost X m g w0 w) := by
 have HM := Aside0.mk hM
 have HG := Aside0.mk hm
 have HX := Aside0.mk hX
 have HS0 := Aside0.mk (MdW.start hI hB)
 have HW0 := Aside0.mk hB.size
 clear hM hm hX hI hB
 obtain ⟨n4, hn4⟩ : ∃ n, n = w.heap.size := ⟨_, rfl⟩
 have HN4 := Aside0.mk hn4
 go_enter Try.func39, Try.ntmps39
 go_upto_region 1 with fail
 refine wp_gen (fun wx => Aside0 (MdW w0 w g s0 s1 wx ∧ BxAt X A0 A1 A2 A3 A4 c0 c1 c2 c3 c4 n4 wx)) ⟨⟨HS0.out.alloc _, by rw [hn4]; exact bxAt_new A0 A1 A2 A3 A4 c0 c1 c2 c3 c4 w⟩⟩ ?_
 rw [← hn4]
 clear hn4 HS0
 rintro w1 HS
 go_wp2_with fail
 go_loopg [8] 6 (fun gh s8 wr => ∃ (i : Nat) (a b : Int), i + gh = 6 ∧ s8 = .int .i64 (i : Int) ∧ Aside0 (MdW w0 w g a b wr ∧ BxAt X A0 A1 A2 A3 A4 c0 c1 c2 c3 c4 n4 wr))
 case atStart => exact ⟨0, _, _, rfl, rfl, HS⟩
 case round =>
  clear HS
  obtain ⟨i, a, b, hi, rfl, HS⟩ := hrel
  have HIN := Aside0.mk hi
  by_cases hlt : i < 6
  ·have hz : (i : Int) < 6 := by omega
   have hd : decide ((i : Int) < 6) = true := decide_eq_true hz
   have hd2 : decide (i < 6) = true := decide_eq_true hlt
   have HLT := Aside0.mk hlt
   clear hi hlt
   go_upto_block 2 with fail
   go_cut [9] (fun s9 wx => ∃ (l : List Int) (v : Value) (a b : Int), s9 = v ∧ Aside0 (TxS X A0 A1 A2 A3 A4 c0 c1 c2 c3 c4 n4 g w0 w l v a b wx))
   case first =>
    go_wp2_with fail
    go_loopg [9] 4 (fun gh s9 wr => ∃ (l : List Int) (v : Value) (a b : Int), l.length + gh = 4 ∧ s9 = v ∧ Aside0 (TxS X A0 A1 A2 A3 A4 c0 c1 c2 c3 c4 n4 g w0 w l v a b wr))
    case atStart => exact ⟨[], _, a, b, rfl, rfl, ⟨HS.out.1, HS.out.2, Kd.R_nil _ _ _ _ _, Tx.nil X, by decide⟩⟩
    case round =>
     clear HS
     obtain ⟨l, v, a, b, hl, rfl, HT⟩ := hrel
     have HLN := Aside0.mk hl
     obtain ⟨A, c, rfl⟩ := Kd.R_slice HT.out.r
     have hl4 := HT.out.n
     by_cases hlt : l.length < 4
     ·have hz : (l.length : Int) < 4 := by omega
      have hd : decide ((l.length : Int) < 4) = true := decide_eq_true hz
      have hd2 : decide (l.length < 4) = true := decide_eq_true hlt
      have HLT := Aside0.mk hlt
      have hn := HM.out.n
      obtain ⟨u, a', b', hu, u0, u1⟩ := up_ok a b (X.l0.length : Int) (by omega)
      obtain ⟨j, rfl⟩ : ∃ j : Nat, u = (j : Int) := ⟨u.toNat, by omega⟩
      have hj : j < X.l0.length := by omega
      have HJ := Aside0.mk hj
      have HU := Aside0.mk hu
      have HGG := Aside0.mk (show g < w.heap.size ∧ g < n4 by have := HG.out; have := HN4.out; omega)
      obtain ⟨x0, x1, x2, x3, x4⟩ := HT.out.b.cells
      have xl := blk_lt HT.out.b
      clear hl hlt hu u0 u1 hn
      go_upto_region 7 with first
       | (go_at_call 30; refine (cippuskit_Urn_Up.calls g a b (X.l0.length : Int) (j : Int) a' b' w0 _ HT.out.m.i HT.out.m.b HU.out).mono ?_; rintro e w2 ⟨rfl, hi, hb, hk⟩; have HT2 := Aside0.mk (HT.out.call HGG.out hi hb hk); clear hi hb hk)
       | fail
      clear x0 x1 x2 x3 x4 xl HT
      obtain ⟨x0, x1, x2, x3, x4⟩ := HT2.out.b.cells
      have xl := blk_lt HT2.out.b
      have hjz : (j : Int) < (X.l0.length : Int) := by omega
      have hj0 : (0 : Int) ≤ (j : Int) := by omega
      have hjd : decide (j < X.l0.length) = true := decide_eq_true hj
      obtain ⟨ad, hA, e0, e1⟩ := at_T53 (HX.out.h0.but HG.out.1 w2 HT2.out.m.k) (j : Int) hj0 hjz
      rw [Int.toNat_natCast] at e0 e1
      subst hA
      have el := World.block_lt_of_cell? w2 _ e0
      obtain ⟨-, -, f0, f1⟩ := HM.out.word ⟨hj0, hjz⟩
      obtain ⟨φ, hφ⟩ : ∃ φ : Nat, (rd_T53 X.l0 (j : Int)).f1 = (φ : Int) := ⟨(rd_T53 X.l0 (j : Int)).f1.toNat, by omega⟩
      rw [hφ] at e1 f0 f1
      have HPH := Aside0.mk hφ
      have HF1 := Aside0.mk (show φ < X.l1.length ∧ φ < X.l2.length by have := HM.out.h1; have := HM.out.h2; omega)
      clear hφ
      go_upto_region 8 with fail
      go_cut [67] (fun s67 wx => ∃ bk : Bool, s67 = .bool bk ∧ Aside0 (bk = false → Tx X (l ++ [(j : Int)])) ∧ Aside0 (TxS X (some ad) A1 A2 A3 A4 c0 c1 c2 c3 c4 n4 g w0 w l (.slice A l.length c) a' b' wx))
      case first =>
       by_cases he : l.length = 0
       ·have hz0 : (l.length : Int) = 0 := by omega
        have hz1 : ((l.length : Int) == 0) = true := by simpa using hz0
        have hz3 : decide (l.length = 0) = true := decide_eq_true he
        have hz4 : ¬ (l.length : Int) > 0 := by omega
        have hz5 : decide (0 < l.length) = false := decide_eq_false (by omega)
        have hφ0 : (0 : Int) ≤ (φ : Int) := by omega
        have hφ1 : (φ : Int) < (X.l1.length : Int) := by have := HF1.out.1; omega
        have hφ2 : decide (φ < X.l1.length) = true := decide_eq_true HF1.out.1
        obtain ⟨fd, hfd, q0⟩ := Kd.at_bool (HX.out.h1.but HG.out.1 w2 HT2.out.m.k) (φ : Int) hφ0 hφ1
        rw [Int.toNat_natCast] at q0
        subst hfd
        have ql := World.block_lt_of_cell? w2 _ q0
        obtain ⟨bf, hbf⟩ : ∃ b, b = rdOf false X.l1 (φ : Int) := ⟨_, rfl⟩
        rw [← hbf] at q0
        have HBF := Aside0.mk hbf
        have HE := Aside0.mk he
        clear hbf he
        cases bf with
        | false =>
         go_wp2_with first
          | go_quiet (fail)
          | fail
         refine Met.intro ?_
         go_step
         (repeat apply Exists.intro)
         refine ⟨?_, rfl⟩
         exact ⟨true, rfl, ⟨fun h => by cases h⟩, ⟨HT2.out.drewN _⟩⟩
        | true =>
         have HTA := Aside0.mk (show Tx X (l ++ [(j : Int)]) from HT2.out.t.snoc (by have := HE.out; omega) ⟨hj0, hjz⟩ (fun _ => by rw [HPH.out]; exact HBF.out.symm) (fun h => absurd (List.length_eq_zero_iff.1 HE.out) h))
         go_wp2_with first
          | go_quiet (fail)
          | fail
         refine Met.intro ?_
         go_step
         (repeat apply Exists.intro)
         refine ⟨?_, rfl⟩
         exact ⟨false, rfl, ⟨fun _ => HTA.out⟩, ⟨HT2.out.drewN _⟩⟩
       ·obtain ⟨k, hk⟩ : ∃ k : Nat, l.length = k + 1 := ⟨l.length - 1, by omega⟩
        have hne : l ≠ [] := fun e => he (by rw [e]; rfl)
        have hz0 : ¬ (l.length : Int) = 0 := by omega
        have hz1 : ((l.length : Int) == 0) = false := by simpa using hz0
        have hz3 : decide (l.length = 0) = false := decide_eq_false he
        have hz4 : (l.length : Int) > 0 := by omega
        have hz5 : decide (0 < l.length) = true := decide_eq_true (by omega)
        have hw1 : wrap64 ((l.length : Int) - 1) = (k : Int) := by rw [hk]; simp [wrap64]; omega
        have hw2 : IntKind.i64.wrap ((l.length : Int) - 1) = (k : Int) := by rw [i64_w]; exact hw1
        have hk0 : (0 : Int) ≤ (k : Int) := by omega
        have hk1 : (k : Int) < (l.length : Int) := by omega
        have hk2 : decide (k < l.length) = true := decide_eq_true (by omega)
        obtain ⟨ld, hld, g0⟩ := Kd.at_int (Kd.R_reads' HT2.out.r).2.2 (k : Int) hk0 hk1
        rw [Int.toNat_natCast] at g0
        subst hld
        have gl := World.block_lt_of_cell? w2 _ g0
        have hlast := HT2.out.t.last hne
        rw [show (l.length : Int) - 1 = (k : Int) by omega] at hlast
        obtain ⟨q, hq⟩ : ∃ q : Nat, rd l (k : Int) = (q : Int) := ⟨(rd l (k : Int)).toNat, by omega⟩
        rw [hq] at g0 hlast
        have hq1 : q < X.l0.length := by omega
        have hq2 : decide (q < X.l0.length) = true := decide_eq_true hq1
        have hq3 : (q : Int) < (X.l0.length : Int) := by omega
        have hq4 : (0 : Int) ≤ (q : Int) := by omega
        obtain ⟨ad', hA', -, p1⟩ := at_T53 (HX.out.h0.but HG.out.1 w2 HT2.out.m.k) (q : Int) hq4 hq3
        obtain rfl : ad = ad' := by injection hA'
        rw [Int.toNat_natCast] at p1
        have pl := World.block_lt_of_cell? w2 _ p1
        obtain ⟨-, -, m0, m1⟩ := HM.out.word ⟨hq4, hq3⟩
        obtain ⟨ψ, hψ⟩ : ∃ ψ : Nat, (rd_T53 X.l0 (q : Int)).f1 = (ψ : Int) := ⟨(rd_T53 X.l0 (q : Int)).f1.toNat, by omega⟩
        rw [hψ] at p1 m0 m1
        have hnx := HM.out.next ⟨m0, m1⟩
        have hl3 := HM.out.h3
        have hψ1 : (ψ : Int) < (X.l3.length : Int) := by omega
        have hψ2 : decide (ψ < X.l3.length) = true := decide_eq_true (by omega)
        obtain ⟨nd, An, cn, hA3, r0, -, hCn⟩ := at_L1 (HX.out.h3.but HG.out.1 w2 HT2.out.m.k) (ψ : Int) m0 hψ1
        rw [Int.toNat_natCast] at r0
        subst hA3
        have rl := World.block_lt_of_cell? w2 _ r0
        obtain ⟨nl, hnl⟩ : ∃ n : Nat, n = (rd_L1 X.l3 (ψ : Int)).length := ⟨_, rfl⟩
        rw [← hnl] at r0 hnx
        have hφ0 : (0 : Int) ≤ (φ : Int) := by omega
        have hφ1 : (φ : Int) < (nl : Int) := by omega
        have hφ2 : decide (φ < nl) = true := decide_eq_true (by omega)
        obtain ⟨bd, hAn, b0⟩ := Kd.at_bool hCn (φ : Int) hφ0 (by rw [← hnl]; exact hφ1)
        rw [Int.toNat_natCast] at b0
        subst hAn
        have bl := World.block_lt_of_cell? w2 _ b0
        obtain ⟨bn, hbn⟩ : ∃ b, b = rdOf false (rd_L1 X.l3 (ψ : Int)) (φ : Int) := ⟨_, rfl⟩
        rw [← hbn] at b0
        have HTB := Aside0.mk (show bn = true → Tx X (l ++ [(j : Int)]) from fun e => HT2.out.t.snoc (by have := HT2.out.n; have := HLT.out; omega) ⟨hj0, hjz⟩ (fun h => absurd h hne) (fun _ => by
         rw [show (l.length : Int) - 1 = (k : Int) by omega, hq, hψ, HPH.out, ← hbn]
         exact e))
        clear he hk hne hlast hq hψ hnx hnl hCn hbn hl3 hA'
        cases bn with
        | false =>
         go_wp2_with first
          | go_quiet (fail)
          | fail
         refine Met.intro ?_
         go_step
         (repeat apply Exists.intro)
         refine ⟨?_, rfl⟩
         exact ⟨true, rfl, ⟨fun h => by cases h⟩, ⟨HT2.out.drewN _⟩⟩
        | true =>
         go_wp2_with first
          | go_quiet (fail)
          | fail
         refine Met.intro ?_
         go_step
         (repeat apply Exists.intro)
         refine ⟨?_, rfl⟩
         exact ⟨false, rfl, ⟨fun _ => HTB.out (by first | rfl | trivial)⟩, ⟨HT2.out.drewN _⟩⟩
      case rest =>
       obtain ⟨bk, rfl, HB, HT3⟩ := hcut
       clear HT2 x0 x1 x2 x3 x4 xl e0 e1 el
       cases bk with
       | true =>
        go_wp2_with fail
        refine Met.intro ?_
        go_step
        (repeat apply Exists.intro)
        refine ⟨?_, rfl⟩
        exact ⟨l, _, a', b', rfl, HT3⟩
       | false =>
        have HTN := Aside0.mk (show Tx X (l ++ [(j : Int)]) from HB.out (by first | rfl | trivial))
        have HF4 := Aside0.mk (show (l.length + 1) * 8 ≤ 140737488355328 by have := HLT.out; omega)
        clear HB
        obtain ⟨x0, x1, x2, x3, x4⟩ := HT3.out.b.cells
        have xl := blk_lt HT3.out.b
        go_upto_region 10 with first
         | (at_builtin; refine Kd.R_append (Kd.int .i64) (w0 := wc) w.heap.size rfl (.tmp 68) (.tmp 70) 22 3 (.int .i64 0) 8 rfl Try.underlying22 info3 rfl (by decide) (by omega) (.slice A l.length c) l (j : Int) [.int .i64 (j : Int)] (fun _ => True) (fun _ => False) rfl rfl ?aP (fun _ hk => hk.elim) ?aF ?aO ?aB ?aS ?aL ?_; (case aP => exact rfl); (case aF => exact (fun _ _ => trivial)); (case aO => exact HT3.out.r); (case aB => exact Below.refl _ _); (case aS => exact HT3.out.m.k.1); (case aL => exact HF4.out); intro v6 w6 ho hb hg hat; have HO6 := Aside0.mk ho; have HG6 := Aside0.mk hg; clear ho hb hg hat)
         | fail
        have HLA := Aside0.mk (show (l ++ [(j : Int)]).length ≤ 4 by rw [List.length_append, List.length_singleton]; have := HLT.out; omega)
        have HT6 := Aside0.mk (HT3.out.app HGG.out.1 HW0.out HG6.out HO6.out HTN.out HLA.out)
        obtain ⟨A6, c6, rfl⟩ := Kd.R_slice HO6.out
        clear x0 x1 x2 x3 x4 xl HT3 HG6
        obtain ⟨x0, x1, x2, x3, x4⟩ := HT6.out.b.cells
        have xl := blk_lt HT6.out.b
        have hφ0 : (0 : Int) ≤ (φ : Int) := by omega
        have hφ1 : (φ : Int) < (X.l2.length : Int) := by have := HF1.out.2; omega
        have hφ2 : decide (φ < X.l2.length) = true := decide_eq_true HF1.out.2
        obtain ⟨ed, hed, q0⟩ := Kd.at_bool (HX.out.h2.but HG.out.1 w6 HT6.out.m.k) (φ : Int) hφ0 hφ1
        rw [Int.toNat_natCast] at q0
        subst hed
        have ql := World.block_lt_of_cell? w6 _ q0
        obtain ⟨lb, hlb⟩ : ∃ b, b = rdOf false X.l2 (φ : Int) := ⟨_, rfl⟩
        rw [← hlb] at q0
        have HLB := Aside0.mk hlb
        clear hlb
        cases lb with
        | false =>
         go_wp2_with fail
         go_roundg (gk - 1)
         case measure => have := HLN.out; have := HLT.out; omega
         case rel => exact ⟨l ++ [(j : Int)], _, a', b', by rw [List.length_append, List.length_singleton]; have := HLN.out; have := HLT.out; omega, rfl, HT6⟩
        | true =>
         obtain ⟨ob, z0, z1, ho⟩ := odds_ok a' b' 1 2 (by decide)
         have HO := Aside0.mk ho
         clear ho
         cases ob with
         | false =>
          go_wp2_with first
           | (go_at_call 31; refine (cippuskit_Urn_Odds.calls g a' b' 1 2 _ z0 z1 w0 _ HT6.out.m.i HT6.out.m.b HO.out).mono ?_; rintro e w7 ⟨rfl, hi, hb, hk⟩; have HT7 := Aside0.mk (HT6.out.call HGG.out hi hb hk); clear hi hb hk)
           | fail
          go_roundg (gk - 1)
          case measure => have := HLN.out; have := HLT.out; omega
          case rel => exact ⟨l ++ [(j : Int)], _, z0, z1, by rw [List.length_append, List.length_singleton]; have := HLN.out; have := HLT.out; omega, rfl, (by have h := HT7; rw [show (l ++ [(j : Int)]).length = l.length + 1 by simp] at h; exact h)⟩
         | true =>
          go_wp2_with first
           | (go_at_call 31; refine (cippuskit_Urn_Odds.calls g a' b' 1 2 _ z0 z1 w0 _ HT6.out.m.i HT6.out.m.b HO.out).mono ?_; rintro e w7 ⟨rfl, hi, hb, hk⟩; have HT7 := Aside0.mk (HT6.out.call HGG.out hi hb hk); clear hi hb hk)
           | fail
          refine bodyPost_ret (results_list (rs := [.tmp 6, .tmp 7]) rfl (by simp) (.tmp (.tmp .nil))) rfl ?_
          exact ⟨l ++ [(j : Int)], true, z0, z1, A6, c6, (by rw [show (l ++ [(j : Int)]).length = l.length + 1 by simp]; rfl), HT7.out.t.good (by simp) HLA.out _ _ (by rw [rd_last, HPH.out]; exact HLB.out.symm), Ft.ofR HT7.out.r HG.out.2, (Kd.R_reads' HT7.out.r).2.1, HT7.out.m.i, HT7.out.m.b, HT7.out.m.k⟩
     ·have hz : ¬ (l.length : Int) < 4 := by omega
      have hd : decide ((l.length : Int) < 4) = false := decide_eq_false hz
      have hd2 : decide (l.length < 4) = false := decide_eq_false hlt
      clear hl hlt
      go_wp2_with fail
      refine Met.intro ?_
      go_step
      (repeat apply Exists.intro)
      refine ⟨?_, rfl⟩
      exact ⟨l, _, a, b, rfl, HT⟩
   case rest =>
    obtain ⟨l, v, a, b, rfl, HT⟩ := hcut
    clear HS
    obtain ⟨A, c, rfl⟩ := Kd.R_slice HT.out.r
    obtain ⟨x0, x1, x2, x3, x4⟩ := HT.out.b.cells
    have xl := blk_lt HT.out.b
    have hl4 := HT.out.n
    by_cases he : l.length = 0
    ·have hz4 : ¬ (l.length : Int) > 0 := by omega
     have hz5 : decide (0 < l.length) = false := decide_eq_false (by omega)
     clear he
     go_wp2_with first
      | go_quiet (fail)
      | fail
     go_roundg (gk - 1)
     case measure => have := HIN.out; have := HLT.out; omega
     case rel => exact ⟨i + 1, a, b, by have := HIN.out; have := HLT.out; omega, by go_num, ⟨(HT.out.drewN _).m, (HT.out.drewN _).b⟩⟩
    ·obtain ⟨k, hk⟩ : ∃ k : Nat, l.length = k + 1 := ⟨l.length - 1, by omega⟩
     have hne : l ≠ [] := fun e => he (by rw [e]; rfl)
     have HNE := Aside0.mk hne
     have hz4 : (l.length : Int) > 0 := by omega
     have hz5 : decide (0 < l.length) = true := decide_eq_true (by omega)
     have hw1 : wrap64 ((l.length : Int) - 1) = (k : Int) := by rw [hk]; simp [wrap64]; omega
     have hw2 : IntKind.i64.wrap ((l.length : Int) - 1) = (k : Int) := by rw [i64_w]; exact hw1
     have hk0 : (0 : Int) ≤ (k : Int) := by omega
     have hk1 : (k : Int) < (l.length : Int) := by omega
     have hk2 : decide (k < l.length) = true := decide_eq_true (by omega)
     obtain ⟨ld, hld, g0⟩ := Kd.at_int (Kd.R_reads' HT.out.r).2.2 (k : Int) hk0 hk1
     rw [Int.toNat_natCast] at g0
     subst hld
     have gl := World.block_lt_of_cell? wc _ g0
     have hlast := HT.out.t.last hne
     rw [show (l.length : Int) - 1 = (k : Int) by omega] at hlast
     obtain ⟨q, hq⟩ : ∃ q : Nat, rd l (k : Int) = (q : Int) := ⟨(rd l (k : Int)).toNat, by omega⟩
     rw [hq] at g0 hlast
     have hq1 : q < X.l0.length := by omega
     have hq2 : decide (q < X.l0.length) = true := decide_eq_true hq1
     have hq3 : (q : Int) < (X.l0.length : Int) := by omega
     have hq4 : (0 : Int) ≤ (q : Int) := by omega
     obtain ⟨ad, hA, -, p1⟩ := at_T53 (HX.out.h0.but HG.out.1 wc HT.out.m.k) (q : Int) hq4 hq3
     rw [Int.toNat_natCast] at p1
     subst hA
     have pl := World.block_lt_of_cell? wc _ p1
     obtain ⟨-, -, m0, m1⟩ := HM.out.word ⟨hq4, hq3⟩
     obtain ⟨ψ, hψ⟩ : ∃ ψ : Nat, (rd_T53 X.l0 (q : Int)).f1 = (ψ : Int) := ⟨(rd_T53 X.l0 (q : Int)).f1.toNat, by omega⟩
     rw [hψ] at p1 m0 m1
     have hl2 := HM.out.h2
     have hψ1 : (ψ : Int) < (X.l2.length : Int) := by omega
     have hψ2 : decide (ψ < X.l2.length) = true := decide_eq_true (by omega)
     obtain ⟨ed, hed, b0⟩ := Kd.at_bool (HX.out.h2.but HG.out.1 wc HT.out.m.k) (ψ : Int) m0 hψ1
     rw [Int.toNat_natCast] at b0
     subst hed
     have bl := World.block_lt_of_cell? wc _ b0
     obtain ⟨lb, hlb⟩ : ∃ b, b = rdOf false X.l2 (ψ : Int) := ⟨_, rfl⟩
     rw [← hlb] at b0
     have HLB := Aside0.mk (show lb = rdOf false X.l2 (rd_T53 X.l0 (rd l ((l.length : Int) - 1))).f1 by rw [show (l.length : Int) - 1 = (k : Int) by omega, hq, hψ]; exact hlb)
     clear he hk hne hlast hq hψ hlb hl2
     cases lb with
     | false =>
      go_wp2_with first
       | go_quiet (fail)
       | fail
      go_roundg (gk - 1)
      case measure => have := HIN.out; have := HLT.out; omega
      case rel => exact ⟨i + 1, a, b, by have := HIN.out; have := HLT.out; omega, by go_num, ⟨(HT.out.drewN _).m, (HT.out.drewN _).b⟩⟩
     | true =>
      go_wp2_with first
       | go_quiet (fail)
       | fail
      refine bodyPost_ret (results_list (rs := [.tmp 6, .tmp 7]) rfl (by simp) (.tmp (.tmp .nil))) rfl ?_
      exact ⟨l, true, a, b, _, c, rfl, HT.out.t.good HNE.out hl4 _ _ HLB.out.symm, Ft.ofR (HT.out.drewN _).r HG.out.2, (Kd.R_reads' HT.out.r).2.1, (HT.out.drewN _).m.i, (HT.out.drewN _).m.b, (HT.out.drewN _).m.k⟩
  ·have hz : ¬ (i : Int) < 6 := by omega
   have hd : decide ((i : Int) < 6) = false := decide_eq_false hz
   have hd2 : decide (i < 6) = false := decide_eq_false hlt
   clear hi hlt
   go_wp2_with fail
   refine bodyPost_ret (results_list (rs := [.tmp 6, .tmp 7]) rfl (by simp) (.tmp (.tmp .nil))) rfl ?_
   exact ⟨[], false, a, b, none, 0, rfl, (fun h => by cases h), (fun W _ => Kd.C_nil _ W : Ft (Kd.int .i64) none [] m wr), Nat.le_refl _, HS.out.1.i, HS.out.1.b, HS.out.1.k⟩
end Go.Proofs.Ytkfebceainedfaa.P.OwnGap
namespace Go.Proofs.Ytkfebceainedfaa.P.OwnUrn
open Go.RowKit Go.Proofs.YtkfebceainedfaaW.PrintWords Go.Proofs.YtkfebceainedfaaW.PrintLast Go.Proofs.YtkfebceainedfaaW.PrintMore
open Go.Proofs.Ytkfebceainedfaa.P.OwnGap Go.Proofs.Ytkfebceainedfaa.OwnGap
set_option linter.unusedVariables false
set_option linter.unusedSimpArgs false
structure MRow (X : Lx) (ws fs : List Int) : Prop where
 both : bothV X.l0 X.l1 X.l2 X.l3 X.l4 X.r = 0
 isF : isF X ws fs = true
 b : ∀ u ∈ ws, 0 ≤ u ∧ u < (X.l0.length : Int)
 n : 1 ≤ ws.length ∧ ws.length ≤ 4
 r0 : X.r ≠ []
 r24 : X.r.length ≤ 24
 v : ∀ c ∈ X.r, cellV c = 0
theorem MRow.chk {X : Lx} {ws fs : List Int} (h : MRow X ws fs) : OkC X ∧ OkR X.r := by
 obtain ⟨h1, h2⟩ := bothV_zero h.both
 exact ⟨checkV_zero h1, rowV_zero h2⟩
theorem row_made {X : Lx} {F L : Nat} (hM : MLx X F L) {ws : List Int} (hb : ∀ u ∈ ws, 0 ≤ u ∧ u < (X.l0.length : Int)) (hn : 1 ≤ ws.length ∧ ws.length ≤ 4) {f : Int} (hm : mayAll X 0 0 ws = some f) (hf : rdOf false X.l2 f = true) {r : List S49} {fs : List Int} (hR : RT X (wordsV X ws) 0 0 r fs) : MRow ⟨X.l0, X.l1, X.l2, X.l3, X.l4, r⟩ ws fs := by
 obtain ⟨z1, z2⟩ := words_small hM hb ws.length (Nat.le_refl _)
 rw [List.take_length] at z1 z2
 have z3 : ws.length * L ≤ 4 * 5 := Nat.mul_le_mul hn.2 hM.l.2
 have hne := hR.ne (by omega)
 have hl := hR.l
 have hg := hR.n
 have hv : rowV r = 0 := rowV_ok hne (by omega) hR.v (by
  have := hR.g
  show (r.filter fun c => c.f1).length ≤ 3
  omega)
 refine ⟨?_, ?_, hb, hn, hne, by show r.length ≤ 24; omega, hR.v⟩
 ·show bothV X.l0 X.l1 X.l2 X.l3 X.l4 r = 0
  unfold bothV
  rw [if_pos hM.check]
  exact hv
 ·unfold OwnGap.isF
  rw [if_pos (inB_true.2 (by omega))]
  have hm2 : ∀ (l : List Int) (k : Nat) (g : Int), mayAll ⟨X.l0, X.l1, X.l2, X.l3, X.l4, r⟩ k g l = mayAll X k g l := by
   intro l
   induction l with
   | nil => intro k g; rfl
   | cons a l ih =>
    intro k g
    rw [mayAll, mayAll, ih]
    rfl
  rw [hm2, hm]
  show (rdOf false X.l2 f && cellF ⟨X.l0, X.l1, X.l2, X.l3, X.l4, r⟩ r fs (wordsV X ws)) = true
  rw [hf, Bool.true_and]
  have := hR.c r
  have he : (wordsV X ws).extract 0 (wordsV X ws).size = wordsV X ws := by
   apply ByteArray.ext
   rw [ByteArray.data_extract]
   exact Array.extract_size
  rw [he] at this
  exact this
theorem urnGo_ok : ∀ (l : List Int) (a b : Int), ∃ x y, urnGo l a b = some (x, y)
 | [], a, b => ⟨a, b, rfl⟩
 | v :: l, a, b => by
  obtain ⟨v1, a1, b1, e1, -⟩ := turn_ok a (IntKind.u64.wrap (b + IntKind.u64.wrap v))
  obtain ⟨v2, a2, b2, e2, -⟩ := turn_ok a1 b1
  obtain ⟨x, y, h⟩ := urnGo_ok l a2 b2
  refine ⟨x, y, ?_⟩
  rw [urnGo, e1, Option.bind_some, e2, Option.bind_some]
  exact h
theorem urn_ok (nums : List Int) (h : nums.length < 4611686018427387904) : ∃ a b, cippuskit_NewUrn.f nums = some (a, b) := by
 obtain ⟨x, y, e⟩ := urnGo_ok nums 11400714819323198485 14029467366897019727
 refine ⟨x, y, ?_⟩
 unfold cippuskit_NewUrn.f newUrn
 rw [if_pos h]
 exact e
end Go.Proofs.Ytkfebceainedfaa.P.OwnUrn
namespace Go.Proofs.Ytkfebceainedfaa.P.OwnGap
open Go.RowKit Go.Shelf Go.Proofs.YtkfebceainedfaaW.PrintWords Go.Proofs.YtkfebceainedfaaW.PrintLast Go.Proofs.YtkfebceainedfaaW.PrintMore
open Go.Proofs.Ytkfebceainedfaa.OwnGap Go.Proofs.Ytkfebceainedfaa.P.OwnUrn
set_option linter.unusedVariables false
set_option linter.unusedSimpArgs false
attribute [local go_sem] Oper.semAt_some
theorem MdW.box {w1 w2 : World} {g b : Nat} {o : Obj} (h : w1.heap[b]? = some o) (hk : KeepBut w1 w2 g none) (hg : b ≠ g) : w2.heap[b]? = some o := hk.blk h hg (by simp)
def put5 (W : World) (b : Nat) (u0 u1 u2 u3 u4 : Value) : World := ((((W.setCell ⟨b, 0, none⟩ u0).setCell ⟨b, 1, none⟩ u1).setCell ⟨b, 2, none⟩ u2).setCell ⟨b, 3, none⟩ u3).setCell ⟨b, 4, none⟩ u4
def put2 (W : World) (b : Nat) (u0 u1 : Value) : World := (W.setCell ⟨b, 0, none⟩ u0).setCell ⟨b, 1, none⟩ u1
theorem put5_blk {W : World} {b t : Nat} {v0 v1 v2 v3 v4 : Value} (h : W.heap[b]? = some (.cells #[v0, v1, v2, v3, v4] t (0, 0))) (u0 u1 u2 u3 u4 : Value) : (put5 W b u0 u1 u2 u3 u4).heap[b]? = some (.cells #[u0, u1, u2, u3, u4] t (0, 0)) := by
 have s0 := blk_set h 0 u0
 have s1 := blk_set s0 1 u1
 have s2 := blk_set s1 2 u2
 have s3 := blk_set s2 3 u3
 have s4 := blk_set s3 4 u4
 unfold put5
 rw [s4]
 rfl
theorem put2_blk {W : World} {b t : Nat} {v0 v1 : Value} (h : W.heap[b]? = some (.cells #[v0, v1] t (0, 0))) (u0 u1 : Value) : (put2 W b u0 u1).heap[b]? = some (.cells #[u0, u1] t (0, 0)) := by
 have s0 := blk_set h 0 u0
 have s1 := blk_set s0 1 u1
 unfold put2
 rw [s1]
 rfl
theorem put5_far {W : World} {b g t : Nat} {cs : Array Value} (h : W.heap[g]? = some (.cells cs t (0, 0))) (hg : g ≠ b) (u0 u1 u2 u3 u4 : Value) : (put5 W b u0 u1 u2 u3 u4).heap[g]? = some (.cells cs t (0, 0)) := blk_far (blk_far (blk_far (blk_far (blk_far h hg _) hg _) hg _) hg _) hg _
theorem put2_far {W : World} {b g t : Nat} {cs : Array Value} (h : W.heap[g]? = some (.cells cs t (0, 0))) (hg : g ≠ b) (u0 u1 : Value) : (put2 W b u0 u1).heap[g]? = some (.cells cs t (0, 0)) := blk_far (blk_far h hg _) hg _
theorem put5_up {m : Nat} {W : World} {b : Nat} (h : b < m) (u0 u1 u2 u3 u4 : Value) : KeepUp m W (put5 W b u0 u1 u2 u3 u4) := KeepUp.set (KeepUp.set (KeepUp.set (KeepUp.set (KeepUp.set (KeepUp.refl m W) h _) h _) h _) h _) h _
theorem put2_up {m : Nat} {W : World} {b : Nat} (h : b < m) (u0 u1 : Value) : KeepUp m W (put2 W b u0 u1) := KeepUp.set (KeepUp.set (KeepUp.refl m W) h _) h _
theorem MdW.put5 {w0 w wx : World} {g b : Nat} {x y : Int} (h : MdW w0 w g x y wx) (hb : w.heap.size ≤ b) (hg : g < w.heap.size) (u0 u1 u2 u3 u4 : Value) : MdW w0 w g x y (put5 wx b u0 u1 u2 u3 u4) := (((((h.set (p := ⟨b, 0, none⟩) hb hg u0).set (p := ⟨b, 1, none⟩) hb hg u1).set (p := ⟨b, 2, none⟩) hb hg u2).set (p := ⟨b, 3, none⟩) hb hg u3).set (p := ⟨b, 4, none⟩) hb hg u4)
theorem MdW.put2 {w0 w wx : World} {g b : Nat} {x y : Int} (h : MdW w0 w g x y wx) (hb : w.heap.size ≤ b) (hg : g < w.heap.size) (u0 u1 : Value) : MdW w0 w g x y (put2 wx b u0 u1) := ((h.set (p := ⟨b, 0, none⟩) hb hg u0).set (p := ⟨b, 1, none⟩) hb hg u1)
theorem Ft.mono {α : Type} {d : Kd α} {A : Option Addr} {l : List α} {m m' : Nat} {w : World} (h : Ft d A l m w) (hm : m' ≤ m) : Ft d A l m' w := fun W hW => h W ⟨hW.1, fun k hk hl => hW.2 k (Nat.le_trans hm hk) hl⟩
theorem LxF.mono {X : Lx} {A0 A1 A2 A3 A4 : Option Addr} {c0 c1 c2 c3 c4 m m' : Nat} {w : World} (h : LxF X A0 A1 A2 A3 A4 c0 c1 c2 c3 c4 m w) (hm : m' ≤ m) : LxF X A0 A1 A2 A3 A4 c0 c1 c2 c3 c4 m' w := ⟨h.h0.mono hm, h.h1.mono hm, h.h2.mono hm, h.h3.mono hm, h.h4.mono hm, h.k0, h.k1, h.k2, h.k3, h.k4⟩
structure MdS (w0 w : World) (g : Nat) (a b : Int) (n0 n1 : Nat) (X : Lx) (A0 A1 A2 A3 A4 : Option Addr) (c0 c1 c2 c3 c4 : Nat) (wx : World) : Prop where
 m : MdW w0 w g a b wx
 b6 : wx.heap[n0]? = some (.cells #[.slice none 0 0, .slice none 0 0, .slice none 0 0, .slice none 0 0, .slice none 0 0] 28 (0, 0))
 b8 : wx.heap[n0 + 1]? = some (.cells #[.slice none 0 0, .slice none 0 0] 31 (0, 0))
 b10 : BxAt X A0 A1 A2 A3 A4 c0 c1 c2 c3 c4 n1 wx
 x : LxF X A0 A1 A2 A3 A4 c0 c1 c2 c3 c4 (n0 + 2) wx
theorem MdS.call {w0 w : World} {g : Nat} {a b c d : Int} {n0 n1 : Nat} {X : Lx} {A0 A1 A2 A3 A4 : Option Addr} {c0 c1 c2 c3 c4 : Nat} {wx wy : World} (h : MdS w0 w g a b n0 n1 X A0 A1 A2 A3 A4 c0 c1 c2 c3 c4 wx) (hn : g < n0 ∧ n0 + 2 ≤ n1) (hi : IsS83 w0 wy g c d) (hb : Below w0.heap.size w0 wy) (hk : KeepBut wx wy g none) : MdS w0 w g c d n0 n1 X A0 A1 A2 A3 A4 c0 c1 c2 c3 c4 wy :=
 ⟨h.m.call hi hb hk, MdW.box h.b6 hk (by omega), MdW.box h.b8 hk (by omega), MdW.box h.b10 hk (by omega), h.x.step (KeepUp.of_keep hk (by omega))⟩
theorem MdS.below {w0 w : World} {g : Nat} {a b : Int} {n0 n1 : Nat} {X : Lx} {A0 A1 A2 A3 A4 : Option Addr} {c0 c1 c2 c3 c4 : Nat} {wx wy : World} (h : MdS w0 w g a b n0 n1 X A0 A1 A2 A3 A4 c0 c1 c2 c3 c4 wx) (hb : Below wx.heap.size wx wy) : MdS w0 w g a b n0 n1 X A0 A1 A2 A3 A4 c0 c1 c2 c3 c4 wy :=
 ⟨h.m.below hb, blk_below h.b6 hb, blk_below h.b8 hb, blk_below h.b10 hb, h.x.step (KeepUp.of_below hb)⟩
def mdT : Bool × List (List Nat × List Nat) := (true, [([], []), ([], []), ([], []), ([], []), ([], []), ([3, 4], [3, 4]), ([5], [5]), ([0, 5, 0], [0]), ([1, 7, 0, 1, 7], [1]), ([2, 8, 0, 1, 2, 7, 8], [2]), ([6, 9, 0, 1, 2, 3, 4, 5, 6, 7, 8, 9], [6])])
def mdB : List Nat := [0, 0, 0, 0, 0, 24, 56, 57, 187, 447, 1023]
theorem md_tab : rtab .any (opsOf Try.f11 6) = mdT := by kernel_rfl
theorem md_bits : waitsOk mdT.2 mdB = true := by kernel_rfl
abbrev tt : Bool := true
abbrev ff : Bool := false
theorem LxF.row {X : Lx} {A0 A1 A2 A3 A4 : Option Addr} {c0 c1 c2 c3 c4 m : Nat} {w : World} (h : LxF X A0 A1 A2 A3 A4 c0 c1 c2 c3 c4 m w) (r : List S49) : LxF ⟨X.l0, X.l1, X.l2, X.l3, X.l4, r⟩ A0 A1 A2 A3 A4 c0 c1 c2 c3 c4 m w := ⟨h.h0, h.h1, h.h2, h.h3, h.h4, h.k0, h.k1, h.k2, h.k3, h.k4⟩
theorem Ft.nil {α : Type} (d : Kd α) (m : Nat) (w : World) : Ft d none ([] : List α) m w := fun W _ => Kd.C_nil d W
structure MdP (X : Lx) (W L : Nat) (us fs : List Int) (is : Bool) : Prop where
 lx : ∃ F, MLx X F L
 n : X.l0.length ≤ W
 row : is = true → MRow X us fs
set_option maxHeartbeats 8000000 in
set_option maxRecDepth 100000 in
theorem made_walk {g F W L : Nat} {s0 s1 a1 a2 : Int} {X : Lx} {p0 p1 : Int} {w0 w : World} (hM : MLx X F L) (hxr : X.r = []) (hln : X.l0.length ≤ W) (hI : IsS83 w0 w g s0 s1) (hB : Below w0.heap.size w0 w)
  (h1 : cippuskit_LexiconOf.f s0 s1 a1 a2 = some (X.l0, X.l1, X.l2, X.l3, X.l4, p0, p1)) :
  Calls Try.prog 11 #[.pointer (some ⟨g, 0, none⟩), .int .i64 a1, .int .i64 a2] w fun e w' => ∃ (X : Lx) (us fs : List Int) (is : Bool) (z0 z1 : Int) (A0 A1 A2 A3 A4 Ar Bw Bf : Option Addr) (c0 c1 c2 c3 c4 cr dw df : Nat), e = .returned (.tuple #[.agg #[.slice A0 X.l0.length c0, .slice A1 X.l1.length c1, .slice A2 X.l2.length c2, .slice A3 X.l3.length c3, .slice A4 X.l4.length c4], .slice Ar X.r.length cr, .agg #[.slice Bw us.length dw, .slice Bf fs.length df], .bool is]) ∧ LxF X A0 A1 A2 A3 A4 c0 c1 c2 c3 c4 w.heap.size w' ∧ (Ft k49 Ar X.r w.heap.size w' ∧ Ft (Kd.int .i64) Bw us w.heap.size w' ∧ Ft (Kd.int .i64) Bf fs w.heap.size w' ∧ X.r.length ≤ cr ∧ us.length ≤ dw ∧ fs.length ≤ df) ∧ MdP X W L us fs is ∧ IsS83 w0 w' g z0 z1 ∧ Below w0.heap.size w0 w' ∧ KeepBut w w' g none := by
 have HXR := Aside0.mk hxr
 have HLN := Aside0.mk hln
 clear hxr hln
 have HM0 := Aside0.mk (MdW.start hI hB)
 have HG := Aside0.mk hI.lt
 have H1 := Aside0.mk h1
 have HLX := Aside0.mk hM
 clear hI hB h1 hM
 obtain ⟨n0, hn0⟩ : ∃ n, n = w.heap.size := ⟨_, rfl⟩
 have HN0 := Aside0.mk hn0
 go_enter Try.func11, Try.ntmps11
 go_upto_region 1 with fail
 refine wp_gen (fun wx => Aside0 (MdW w0 w g s0 s1 wx ∧ wx.heap[n0]? = some (.cells #[.slice none 0 0, .slice none 0 0, .slice none 0 0, .slice none 0 0, .slice none 0 0] 28 (0, 0)) ∧ wx.heap[n0 + 1]? = some (.cells #[.slice none 0 0, .slice none 0 0] 31 (0, 0)))) ⟨(HM0.out.alloc _).alloc _, by rw [hn0]; exact blk_alloc (blk_new w _) _, by rw [hn0]; have h := blk_new (w.alloc (.cells #[.slice none 0 0, .slice none 0 0, .slice none 0 0, .slice none 0 0, .slice none 0 0] 28)) (.cells #[.slice none 0 0, .slice none 0 0] 31); rw [World.size_alloc] at h; exact h⟩ ?_
 rw [← hn0]
 clear hn0 HM0
 rintro w1 HS
 go_upto_region 2 with first
  | (go_at_call 38; refine (lex38 g s0 s1 a1 a2 X p0 p1 w0 _ (n0 + 2) (blk_lt HS.out.2.2) HS.out.1.i HS.out.1.b H1.out).mono ?_; rintro e w2 ⟨A0, A1, A2, A3, A4, c0, c1, c2, c3, c4, rfl, hX, hi, hb, hk⟩; have HX := Aside0.mk hX; have HM2 := Aside0.mk (HS.out.1.call hi hb hk); have HB6 := Aside0.mk (MdW.box HS.out.2.1 hk (by have := HG.out; have := HN0.out; omega)); have HB8 := Aside0.mk (MdW.box HS.out.2.2 hk (by have := HG.out; have := HN0.out; omega)); clear hX hi hb hk)
  | fail
 obtain ⟨n1, hn1⟩ : ∃ n, n = w2.heap.size := ⟨_, rfl⟩
 have HN1 := Aside0.mk hn1
 refine wp_gen (fun wx => Aside0 (MdS w0 w g p0 p1 n0 n1 X A0 A1 A2 A3 A4 c0 c1 c2 c3 c4 wx)) ⟨⟨HM2.out.alloc _, blk_alloc HB6.out _, blk_alloc HB8.out _, by rw [hn1]; exact bxAt_new A0 A1 A2 A3 A4 c0 c1 c2 c3 c4 w2, HX.out.step (KeepUp.of_below ((Below.refl _ _).alloc (Nat.le_refl _) _))⟩⟩ ?_
 rw [← hn1]
 have HNG := Aside0.mk (show g < n0 ∧ n0 + 2 ≤ n1 by have := HG.out; have := HN0.out; have := blk_lt HB8.out; omega)
 clear hn1 HX HM2 HB6 HB8 HS
 rintro w3 HS
 obtain ⟨x0, x1, x2, x3, x4⟩ := HS.out.b10.cells
 have xl := blk_lt HS.out.b10
 go_upto_region 3 with first
  | (go_at_call 39; refine (text_walk HLX.out ⟨by have := HNG.out; omega, blk_lt HS.out.b8⟩ HS.out.m.i HS.out.m.b HS.out.x).mono ?_; rintro e w4 ⟨ws, is, q0, q1, A, c, rfl, hGd, hT, hTc, hi, hb, hk⟩; have HGD := Aside0.mk hGd; have HT := Aside0.mk hT; have HTC := Aside0.mk hTc; have HS4 := Aside0.mk (HS.out.call HNG.out hi hb hk); clear hGd hT hTc hi hb hk)
  | fail
 clear x0 x1 x2 x3 x4 xl HS
 cases is with
 | false =>
  obtain ⟨x0, x1, x2, x3, x4⟩ := HS4.out.b10.cells
  have xl := blk_lt HS4.out.b10
  have y0 : w4.cell? ⟨n0, 0, none⟩ = some (.slice none 0 0) := (blk_cell HS4.out.b6 0).trans rfl
  have f0 := blk_frozen HS4.out.b6 0
  have y1 : w4.cell? ⟨n0, 1, none⟩ = some (.slice none 0 0) := (blk_cell HS4.out.b6 1).trans rfl
  have f1 := blk_frozen HS4.out.b6 1
  have y2 : w4.cell? ⟨n0, 2, none⟩ = some (.slice none 0 0) := (blk_cell HS4.out.b6 2).trans rfl
  have f2 := blk_frozen HS4.out.b6 2
  have y3 : w4.cell? ⟨n0, 3, none⟩ = some (.slice none 0 0) := (blk_cell HS4.out.b6 3).trans rfl
  have f3 := blk_frozen HS4.out.b6 3
  have y4 : w4.cell? ⟨n0, 4, none⟩ = some (.slice none 0 0) := (blk_cell HS4.out.b6 4).trans rfl
  have f4 := blk_frozen HS4.out.b6 4
  have z0 : w4.cell? ⟨n0 + 1, 0, none⟩ = some (.slice none 0 0) := (blk_cell HS4.out.b8 0).trans rfl
  have h0 := blk_frozen HS4.out.b8 0
  have z1 : w4.cell? ⟨n0 + 1, 1, none⟩ = some (.slice none 0 0) := (blk_cell HS4.out.b8 1).trans rfl
  have h1 := blk_frozen HS4.out.b8 1
  have hne1 : n0 ≠ n1 := by have := HNG.out; omega
  have hne2 : n0 + 1 ≠ n1 := by have := HNG.out; omega
  have hne3 : n0 ≠ n0 + 1 := by omega
  have hne4 : n0 + 1 ≠ n0 := by omega
  go_wp2_with fail
  have HF := Aside0.mk (show MdW w0 w g q0 q1 (put2 (put5 w4 n0 (.slice A0 X.l0.length c0) (.slice A1 X.l1.length c1) (.slice A2 X.l2.length c2) (.slice A3 X.l3.length c3) (.slice A4 X.l4.length c4)) (n0 + 1) (.slice none 0 0) (.slice none 0 0)) ∧ (put2 (put5 w4 n0 (.slice A0 X.l0.length c0) (.slice A1 X.l1.length c1) (.slice A2 X.l2.length c2) (.slice A3 X.l3.length c3) (.slice A4 X.l4.length c4)) (n0 + 1) (.slice none 0 0) (.slice none 0 0)).heap[n0]? = some (.cells #[.slice A0 X.l0.length c0, .slice A1 X.l1.length c1, .slice A2 X.l2.length c2, .slice A3 X.l3.length c3, .slice A4 X.l4.length c4] 28 (0, 0)) ∧ (put2 (put5 w4 n0 (.slice A0 X.l0.length c0) (.slice A1 X.l1.length c1) (.slice A2 X.l2.length c2) (.slice A3 X.l3.length c3) (.slice A4 X.l4.length c4)) (n0 + 1) (.slice none 0 0) (.slice none 0 0)).heap[n0 + 1]? = some (.cells #[.slice none 0 0, .slice none 0 0] 31 (0, 0)) ∧ KeepUp (n0 + 2) w4 (put2 (put5 w4 n0 (.slice A0 X.l0.length c0) (.slice A1 X.l1.length c1) (.slice A2 X.l2.length c2) (.slice A3 X.l3.length c3) (.slice A4 X.l4.length c4)) (n0 + 1) (.slice none 0 0) (.slice none 0 0)) from ⟨(HS4.out.m.put5 (Nat.le_of_eq HN0.out.symm) HG.out _ _ _ _ _).put2 (by have := HN0.out; omega) HG.out _ _, put2_far (put5_blk HS4.out.b6 _ _ _ _ _) (by omega) _ _, put2_blk (put5_far HS4.out.b8 (by omega) _ _ _ _ _) _ _, (put5_up (by omega) _ _ _ _ _).trans (put2_up (by omega) _ _)⟩)
  refine bodyPost_ret (results_list (rs := [.cell 6 28, .tmp 7, .cell 8 31, .tmp 9]) rfl (by simp) (.cell n0 28 #[.slice A0 X.l0.length c0, .slice A1 X.l1.length c1, .slice A2 X.l2.length c2, .slice A3 X.l3.length c3, .slice A4 X.l4.length c4] (0, 0) _ rfl HF.out.2.1 Try.underlying28 rfl (by kernel_rfl) (.tmp (.cell (n0 + 1) 31 #[.slice none 0 0, .slice none 0 0] (0, 0) _ rfl HF.out.2.2.1 Try.underlying31 rfl (by kernel_rfl) (.tmp .nil))))) rfl ?_
  exact ⟨X, [], [], false, q0, q1, A0, A1, A2, A3, A4, none, none, none, c0, c1, c2, c3, c4, 0, 0, 0, by rw [HXR.out]; rfl, (HS4.out.x.step HF.out.2.2.2).mono (by have := HN0.out; omega), ⟨by rw [HXR.out]; exact Ft.nil _ _ _, Ft.nil _ _ _, Ft.nil _ _ _, by rw [HXR.out]; exact Nat.le_refl _, Nat.le_refl _, Nat.le_refl _⟩, ⟨⟨F, HLX.out⟩, HLN.out, fun h => by cases h⟩, HF.out.1.i, HF.out.1.b, HF.out.1.k⟩
 | true =>
  obtain ⟨t1, t2, f, t3, t4⟩ := HGD.out (by first | rfl | trivial)
  have HTT := Aside0.mk (And.intro t1 (And.intro t2 (And.intro t3 t4)))
  clear t1 t2 t3 t4 HGD
  go_upto_region 5 with fail
  obtain ⟨x0, x1, x2, x3, x4⟩ := HS4.out.b10.cells
  have xl := blk_lt HS4.out.b10
  go_upto_region 6 with first
   | (go_at_call 40; refine (row_walk (m := n0 + 2) HLX.out ⟨by have := HNG.out; omega, blk_lt HS4.out.b8⟩ HS4.out.m.i HS4.out.m.b HS4.out.x HT.out HTC.out HTT.out.1 HTT.out.2.1.2).mono ?_; rintro e w5 ⟨r', fs', z0, z1, Ar, Bw, Bf, cr, dw, df, rfl, hRT, hR, hi, hb, hk⟩; have HD := Aside0.mk (row_made HLX.out HTT.out.1 HTT.out.2.1 HTT.out.2.2.1 HTT.out.2.2.2 hRT); have HR := Aside0.mk hR; have HS5 := Aside0.mk (HS4.out.call HNG.out hi hb hk); clear hRT hR hi hb hk)
   | fail
  clear x0 x1 x2 x3 x4 xl HS4 HT HTC
  obtain ⟨n2, hn2⟩ : ∃ n, n = w5.heap.size := ⟨_, rfl⟩
  have HN2 := Aside0.mk hn2
  refine wp_gen (fun wx => Aside0 (MdS w0 w g z0 z1 n0 n1 X A0 A1 A2 A3 A4 c0 c1 c2 c3 c4 wx ∧ wx.heap[n2]? = some (.cells #[.slice Bw ws.length dw, .slice Bf fs'.length df] 31 (0, 0)) ∧ KeepUp (n0 + 2) w5 wx)) ⟨⟨HS5.out.below ((Below.refl _ _).alloc (Nat.le_refl _) _), by rw [hn2]; exact blk_new w5 _, KeepUp.of_below ((Below.refl _ _).alloc (Nat.le_refl _) _)⟩⟩ ?_
  rw [← hn2]
  have HN3 := Aside0.mk (show n1 < n2 by have := blk_lt HS5.out.b10; have := HN2.out; omega)
  clear hn2 HS5
  rintro w6 HS
  obtain ⟨x0, x1, x2, x3, x4⟩ := HS.out.1.b10.cells
  have xl := blk_lt HS.out.1.b10
  have a0 := (blk_cell HS.out.2.1 0).trans (show (#[Value.slice Bw ws.length dw, Value.slice Bf fs'.length df] : Array Value)[0]? = some _ from rfl)
  have a1 := (blk_cell HS.out.2.1 1).trans (show (#[Value.slice Bw ws.length dw, Value.slice Bf fs'.length df] : Array Value)[1]? = some _ from rfl)
  have al := blk_lt HS.out.2.1
  have HR6 := Aside0.mk (show Ft k49 Ar r' (n0 + 2) w6 ∧ Ft (Kd.int .i64) Bw ws (n0 + 2) w6 ∧ Ft (Kd.int .i64) Bf fs' (n0 + 2) w6 from ⟨HR.out.1.step HS.out.2.2, HR.out.2.1.step HS.out.2.2, HR.out.2.2.1.step HS.out.2.2⟩)
  refine start_ (n := 11) (S := fun w' => w'.cell? ⟨n1, 0, none⟩ = some (.slice A0 X.l0.length c0) ∧ w'.cell? ⟨n1, 1, none⟩ = some (.slice A1 X.l1.length c1) ∧ w'.cell? ⟨n1, 2, none⟩ = some (.slice A2 X.l2.length c2) ∧ w'.cell? ⟨n1, 3, none⟩ = some (.slice A3 X.l3.length c3) ∧ w'.cell? ⟨n1, 4, none⟩ = some (.slice A4 X.l4.length c4) ∧ w'.cell? ⟨n2, 0, none⟩ = some (.slice Bw ws.length dw) ∧ w'.cell? ⟨n2, 1, none⟩ = some (.slice Bf fs'.length df)) (ds := []) #[false, false, false, false, false, false, false, false, false, false, false] (by kernel_rfl) rfl rfl ⟨(blk_cell (blk_drew HS.out.1.b10) 0).trans rfl, (blk_cell (blk_drew HS.out.1.b10) 1).trans rfl, (blk_cell (blk_drew HS.out.1.b10) 2).trans rfl, (blk_cell (blk_drew HS.out.1.b10) 3).trans rfl, (blk_cell (blk_drew HS.out.1.b10) 4).trans rfl, (blk_cell (blk_drew HS.out.2.1) 0).trans rfl, (blk_cell (blk_drew HS.out.2.1) 1).trans rfl⟩ (fun hHeld => ?_); refine with_tabW md_tab md_bits (fun HT_ HW_ => ?_)
  refine pure_ (i := 1) (N := some 37) (v := ?_) (a' := ?_) #[false, true, false, false, false, false, false, false, false, false, false] rfl rfl (any_of HT_.out (by kernel_rfl)) (fun _ _ _ h => h) (Or.inl ⟨by rfl, ?_⟩) ?_ ?_
  rotate_left
  ·intro w'
   go_simp
   with_reducible rfl
  rotate_left
  ·simp only [Act.put, List.setIfInBounds_toArray, List.set_cons_zero, List.set_cons_succ, i64_w, i32_w]
   rfl
  refine pure_ (i := 4) (N := some 40) (v := ?_) (a' := ?_) #[false, true, false, false, true, false, false, false, false, false, false] rfl rfl (any_of HT_.out (by kernel_rfl)) (fun _ _ _ h => h) (Or.inl ⟨by rfl, ?_⟩) ?_ ?_
  rotate_left
  ·intro w'
   go_simp
   with_reducible rfl
  rotate_left
  ·simp only [Act.put, List.setIfInBounds_toArray, List.set_cons_zero, List.set_cons_succ, i64_w, i32_w]
   rfl
  refine take_ (i := 0) (N := some 36) (v := ?_) (a' := ?_) #[true, true, false, false, true, false, false, false, false, false, false] rfl rfl (take_ofW HT_.out HW_.out (by kernel_rfl)) (fun _ _ _ h => h) (Or.inl ⟨by rfl, ?_⟩) hHeld ?_ ?_
  rotate_left
  ·rintro w' ⟨s0, s1, s2, s3, s4, s5, s6⟩
   go_simp
   with_reducible rfl
  rotate_left
  ·simp only [Act.put, List.setIfInBounds_toArray, List.set_cons_zero, List.set_cons_succ, i64_w, i32_w]
   rfl
  refine take_ (i := 2) (N := some 38) (v := ?_) (a' := ?_) #[true, true, true, false, true, false, false, false, false, false, false] rfl rfl (take_ofW HT_.out HW_.out (by kernel_rfl)) (fun _ _ _ h => h) (Or.inl ⟨by rfl, ?_⟩) hHeld ?_ ?_
  rotate_left
  ·rintro w' ⟨s0, s1, s2, s3, s4, s5, s6⟩
   go_simp
   with_reducible rfl
  rotate_left
  ·simp only [Act.put, List.setIfInBounds_toArray, List.set_cons_zero, List.set_cons_succ, i64_w, i32_w]
   rfl
  refine take_ (i := 3) (N := some 39) (v := ?_) (a' := ?_) #[true, true, true, true, true, false, false, false, false, false, false] rfl rfl (take_ofW HT_.out HW_.out (by kernel_rfl)) (fun _ _ _ h => h) (Or.inl ⟨by rfl, ?_⟩) hHeld ?_ ?_
  rotate_left
  ·rintro w' ⟨s0, s1, s2, s3, s4, s5, s6⟩
   go_simp
   with_reducible rfl
  rotate_left
  ·simp only [Act.put, List.setIfInBounds_toArray, List.set_cons_zero, List.set_cons_succ, i64_w, i32_w]
   rfl
  refine one_ (i := 5) (N := some 41) #[true, true, true, true, true, true, false, false, false, false, false] rfl rfl (one_of HT_.out (by kernel_rfl)) (by decide) (fun K hK => ?_)
  refine goes_ Try.func33 (by kernel_rfl) rfl #[.agg #[.slice A0 X.l0.length c0, .slice A1 X.l1.length c1, .slice A2 X.l2.length c2, .slice A3 X.l3.length c3, .slice A4 X.l4.length c4], .slice Ar r'.length cr] (by rfl) rfl rfl (by (try simp only [List.map_toArray, List.map_cons, List.map_nil]); first | done | rfl) ?_
  refine (heavy_any (X := ⟨X.l0, X.l1, X.l2, X.l3, X.l4, r'⟩) (((HS.out.1.x.step (KeepUp.of_below (Below.drew (Below.refl _ _)))).row r').inn (HR6.out.1.step (KeepUp.of_below (Below.drew (Below.refl _ _)))) HR.out.2.2.2.1) HD.out.chk.1 HD.out.chk.2).mono ?_
  rintro e w7 ⟨⟨hv, rfl⟩, hb⟩
  have HB7 := Aside0.mk (show Below w6.heap.size w6 w7 from (Below.drew (Below.refl _ _)).trans hb)
  have HS7 := Aside0.mk (HS.out.1.below HB7.out)
  have HT7 := Aside0.mk (blk_below HS.out.2.1 HB7.out)
  clear hb
  refine ⟨_, rfl, ?_⟩
  refine hK.out _ _ ⟨(blk_cell HS7.out.b10 0).trans rfl, (blk_cell HS7.out.b10 1).trans rfl, (blk_cell HS7.out.b10 2).trans rfl, (blk_cell HS7.out.b10 3).trans rfl, (blk_cell HS7.out.b10 4).trans rfl, (blk_cell HT7.out 0).trans rfl, (blk_cell HT7.out 1).trans rfl⟩ (fun hHeld => ?_)
  clear hK K
  refine norm_ (a' := ?_) ?_ ?_
  rotate_left
  ·show Act.put _ (some 41) _ = _
   simp only [Act.put, List.setIfInBounds_toArray, List.set_cons_zero, List.set_cons_succ, i64_w, i32_w]
   rfl
  refine pure_ (i := 6) (N := some 42) (v := ?_) (a' := ?_) #[true, true, true, true, true, true, true, false, false, false, false] rfl rfl (any_of HT_.out (by kernel_rfl)) (fun _ _ _ h => h) (Or.inl ⟨by rfl, ?_⟩) ?_ ?_
  rotate_left
  ·intro w'
   go_simp
   with_reducible rfl
  rotate_left
  ·simp only [Act.put, List.setIfInBounds_toArray, List.set_cons_zero, List.set_cons_succ, i64_w, i32_w]
   rfl
  refine one_ (i := 7) (N := none) #[true, true, true, true, true, true, true, true, false, false, false] rfl rfl (one_of HT_.out (by kernel_rfl)) (by decide) (fun K hK => ?_)
  have y0 : w7.cell? ⟨n0, 0, none⟩ = some (.slice none 0 0) := (blk_cell HS7.out.b6 0).trans rfl
  have f0 := blk_frozen HS7.out.b6 0
  have y1 : w7.cell? ⟨n0, 1, none⟩ = some (.slice none 0 0) := (blk_cell HS7.out.b6 1).trans rfl
  have f1 := blk_frozen HS7.out.b6 1
  have y2 : w7.cell? ⟨n0, 2, none⟩ = some (.slice none 0 0) := (blk_cell HS7.out.b6 2).trans rfl
  have f2 := blk_frozen HS7.out.b6 2
  have y3 : w7.cell? ⟨n0, 3, none⟩ = some (.slice none 0 0) := (blk_cell HS7.out.b6 3).trans rfl
  have f3 := blk_frozen HS7.out.b6 3
  have y4 : w7.cell? ⟨n0, 4, none⟩ = some (.slice none 0 0) := (blk_cell HS7.out.b6 4).trans rfl
  have f4 := blk_frozen HS7.out.b6 4
  refine skip_ (w1 := put5 w7 n0 (.slice A0 X.l0.length c0) (.slice A1 X.l1.length c1) (.slice A2 X.l2.length c2) (.slice A3 X.l3.length c3) (.slice A4 X.l4.length c4)) (by rfl) rfl ?_ ?_
  ·go_simp
   rfl
  have HE := Aside0.mk (show MdW w0 w g z0 z1 (put5 w7 n0 (.slice A0 X.l0.length c0) (.slice A1 X.l1.length c1) (.slice A2 X.l2.length c2) (.slice A3 X.l3.length c3) (.slice A4 X.l4.length c4)) ∧ (put5 w7 n0 (.slice A0 X.l0.length c0) (.slice A1 X.l1.length c1) (.slice A2 X.l2.length c2) (.slice A3 X.l3.length c3) (.slice A4 X.l4.length c4)).heap[n0]? = some (.cells #[.slice A0 X.l0.length c0, .slice A1 X.l1.length c1, .slice A2 X.l2.length c2, .slice A3 X.l3.length c3, .slice A4 X.l4.length c4] 28 (0, 0)) ∧ (put5 w7 n0 (.slice A0 X.l0.length c0) (.slice A1 X.l1.length c1) (.slice A2 X.l2.length c2) (.slice A3 X.l3.length c3) (.slice A4 X.l4.length c4)).heap[n0 + 1]? = some (.cells #[.slice none 0 0, .slice none 0 0] 31 (0, 0)) ∧ BxAt X A0 A1 A2 A3 A4 c0 c1 c2 c3 c4 n1 (put5 w7 n0 (.slice A0 X.l0.length c0) (.slice A1 X.l1.length c1) (.slice A2 X.l2.length c2) (.slice A3 X.l3.length c3) (.slice A4 X.l4.length c4)) ∧ (put5 w7 n0 (.slice A0 X.l0.length c0) (.slice A1 X.l1.length c1) (.slice A2 X.l2.length c2) (.slice A3 X.l3.length c3) (.slice A4 X.l4.length c4)).heap[n2]? = some (.cells #[.slice Bw ws.length dw, .slice Bf fs'.length df] 31 (0, 0)) ∧ KeepUp (n0 + 2) w7 (put5 w7 n0 (.slice A0 X.l0.length c0) (.slice A1 X.l1.length c1) (.slice A2 X.l2.length c2) (.slice A3 X.l3.length c3) (.slice A4 X.l4.length c4)) from ⟨HS7.out.m.put5 (Nat.le_of_eq HN0.out.symm) HG.out _ _ _ _ _, put5_blk HS7.out.b6 _ _ _ _ _, put5_far HS7.out.b8 (by omega) _ _ _ _ _, put5_far HS7.out.b10 (by have := HNG.out; omega) _ _ _ _ _, put5_far HT7.out (by have := HNG.out; have := HN3.out; omega) _ _ _ _ _, put5_up (by omega) _ _ _ _ _⟩)
  generalize put5 w7 n0 (.slice A0 X.l0.length c0) (.slice A1 X.l1.length c1) (.slice A2 X.l2.length c2) (.slice A3 X.l3.length c3) (.slice A4 X.l4.length c4) = w8 at HE ⊢
  refine hK.out _ _ ⟨(blk_cell HE.out.2.2.2.1 0).trans rfl, (blk_cell HE.out.2.2.2.1 1).trans rfl, (blk_cell HE.out.2.2.2.1 2).trans rfl, (blk_cell HE.out.2.2.2.1 3).trans rfl, (blk_cell HE.out.2.2.2.1 4).trans rfl, (blk_cell HE.out.2.2.2.2.1 0).trans rfl, (blk_cell HE.out.2.2.2.2.1 1).trans rfl⟩ (fun hHeld => ?_)
  clear hK K y0 y1 y2 y3 y4 f0 f1 f2 f3 f4
  refine pure_ (i := 8) (N := some 7) (v := ?_) (a' := ?_) #[true, true, true, true, true, true, true, true, true, false, false] rfl rfl (any_of HT_.out (by kernel_rfl)) (fun _ _ _ h => h) (Or.inl ⟨by rfl, ?_⟩) ?_ ?_
  rotate_left
  ·intro w'
   go_simp
   with_reducible rfl
  rotate_left
  ·simp only [Act.put, List.setIfInBounds_toArray, List.set_cons_zero, List.set_cons_succ, i64_w, i32_w]
   rfl
  refine one_ (i := 9) (N := none) #[true, true, true, true, true, true, true, true, true, true, false] rfl rfl (one_of HT_.out (by kernel_rfl)) (by decide) (fun K hK => ?_)
  have y0 : w8.cell? ⟨n0 + 1, 0, none⟩ = some (.slice none 0 0) := (blk_cell HE.out.2.2.1 0).trans rfl
  have f0 := blk_frozen HE.out.2.2.1 0
  have y1 : w8.cell? ⟨n0 + 1, 1, none⟩ = some (.slice none 0 0) := (blk_cell HE.out.2.2.1 1).trans rfl
  have f1 := blk_frozen HE.out.2.2.1 1
  refine skip_ (w1 := put2 w8 (n0 + 1) (.slice Bw ws.length dw) (.slice Bf fs'.length df)) (by rfl) rfl ?_ ?_
  ·go_simp
   rfl
  have HF := Aside0.mk (show MdW w0 w g z0 z1 (put2 w8 (n0 + 1) (.slice Bw ws.length dw) (.slice Bf fs'.length df)) ∧ (put2 w8 (n0 + 1) (.slice Bw ws.length dw) (.slice Bf fs'.length df)).heap[n0]? = some (.cells #[.slice A0 X.l0.length c0, .slice A1 X.l1.length c1, .slice A2 X.l2.length c2, .slice A3 X.l3.length c3, .slice A4 X.l4.length c4] 28 (0, 0)) ∧ (put2 w8 (n0 + 1) (.slice Bw ws.length dw) (.slice Bf fs'.length df)).heap[n0 + 1]? = some (.cells #[.slice Bw ws.length dw, .slice Bf fs'.length df] 31 (0, 0)) ∧ BxAt X A0 A1 A2 A3 A4 c0 c1 c2 c3 c4 n1 (put2 w8 (n0 + 1) (.slice Bw ws.length dw) (.slice Bf fs'.length df)) ∧ (put2 w8 (n0 + 1) (.slice Bw ws.length dw) (.slice Bf fs'.length df)).heap[n2]? = some (.cells #[.slice Bw ws.length dw, .slice Bf fs'.length df] 31 (0, 0)) ∧ KeepUp (n0 + 2) w7 (put2 w8 (n0 + 1) (.slice Bw ws.length dw) (.slice Bf fs'.length df)) from ⟨HE.out.1.put2 (by have := HN0.out; omega) HG.out _ _, put2_far HE.out.2.1 (by omega) _ _, put2_blk HE.out.2.2.1 _ _, put2_far HE.out.2.2.2.1 (by have := HNG.out; omega) _ _, put2_far HE.out.2.2.2.2.1 (by have := HNG.out; have := HN3.out; omega) _ _, HE.out.2.2.2.2.2.trans (put2_up (by omega) _ _)⟩)
  generalize put2 w8 (n0 + 1) (.slice Bw ws.length dw) (.slice Bf fs'.length df) = w9 at HF ⊢
  refine hK.out _ _ ⟨(blk_cell HF.out.2.2.2.1 0).trans rfl, (blk_cell HF.out.2.2.2.1 1).trans rfl, (blk_cell HF.out.2.2.2.1 2).trans rfl, (blk_cell HF.out.2.2.2.1 3).trans rfl, (blk_cell HF.out.2.2.2.1 4).trans rfl, (blk_cell HF.out.2.2.2.2.1 0).trans rfl, (blk_cell HF.out.2.2.2.2.1 1).trans rfl⟩ (fun hHeld => ?_)
  clear hK K
  refine pure_ (i := 10) (N := some 9) (v := ?_) (a' := ?_) #[true, true, true, true, true, true, true, true, true, true, true] rfl rfl (any_of HT_.out (by kernel_rfl)) (fun _ _ _ h => h) (Or.inl ⟨by rfl, ?_⟩) ?_ ?_
  rotate_left
  ·intro w'
   go_simp
   with_reducible rfl
  rotate_left
  ·simp only [Act.put, List.setIfInBounds_toArray, List.set_cons_zero, List.set_cons_succ, i64_w, i32_w]
   rfl
  refine done_ (done_of HT_.out (by kernel_rfl)) ?_
  try go_wp2
  refine bodyPost_ret (results_list (rs := [.cell 6 28, .tmp 7, .cell 8 31, .tmp 9]) rfl (by simp) (.cell n0 28 #[.slice A0 X.l0.length c0, .slice A1 X.l1.length c1, .slice A2 X.l2.length c2, .slice A3 X.l3.length c3, .slice A4 X.l4.length c4] (0, 0) _ rfl HF.out.2.1 Try.underlying28 rfl (by kernel_rfl) (.tmp (.cell (n0 + 1) 31 #[.slice Bw ws.length dw, .slice Bf fs'.length df] (0, 0) _ rfl HF.out.2.2.1 Try.underlying31 rfl (by kernel_rfl) (.tmp .nil))))) rfl ?_
  have HU := HB7.out
  have hU : KeepUp (n0 + 2) w6 w9 := (KeepUp.of_below HB7.out).trans HF.out.2.2.2.2.2
  have hN : w.heap.size ≤ n0 + 2 := by have := HN0.out; omega
  exact ⟨⟨X.l0, X.l1, X.l2, X.l3, X.l4, r'⟩, ws, fs', !hv, z0, z1, A0, A1, A2, A3, A4, Ar, Bw, Bf, c0, c1, c2, c3, c4, cr, dw, df, rfl, ((HS.out.1.x.step hU).row r').mono hN, ⟨(HR6.out.1.step hU).mono hN, (HR6.out.2.1.step hU).mono hN, (HR6.out.2.2.step hU).mono hN, HR.out.2.2.2⟩, ⟨⟨F, HLX.out.row r'⟩, HLN.out, fun _ => HD.out⟩, HF.out.1.i, HF.out.1.b, HF.out.1.k⟩
set_option maxRecDepth 20000 in
theorem made_all (g : Nat) (s0 s1 : Int) (W L : Nat) (hW : 1 ≤ W ∧ W ≤ 12) (hL : 1 ≤ L ∧ L ≤ 5) (w0 w : World) (hI : IsS83 w0 w g s0 s1) (hB : Below w0.heap.size w0 w) :
  Calls Try.prog 11 #[.pointer (some ⟨g, 0, none⟩), .int .i64 (W : Int), .int .i64 (L : Int)] w fun e w' => ∃ (X : Lx) (us fs : List Int) (is : Bool) (z0 z1 : Int) (A0 A1 A2 A3 A4 Ar Bw Bf : Option Addr) (c0 c1 c2 c3 c4 cr dw df : Nat), e = .returned (.tuple #[.agg #[.slice A0 X.l0.length c0, .slice A1 X.l1.length c1, .slice A2 X.l2.length c2, .slice A3 X.l3.length c3, .slice A4 X.l4.length c4], .slice Ar X.r.length cr, .agg #[.slice Bw us.length dw, .slice Bf fs.length df], .bool is]) ∧ LxF X A0 A1 A2 A3 A4 c0 c1 c2 c3 c4 w.heap.size w' ∧ (Ft k49 Ar X.r w.heap.size w' ∧ Ft (Kd.int .i64) Bw us w.heap.size w' ∧ Ft (Kd.int .i64) Bf fs w.heap.size w' ∧ X.r.length ≤ cr ∧ us.length ≤ dw ∧ fs.length ≤ df) ∧ MdP X W L us fs is ∧ IsS83 w0 w' g z0 z1 ∧ Below w0.heap.size w0 w' ∧ KeepBut w w' g none := by
 obtain ⟨F, l0, l1, l2, l3, l4, p0, p1, h1, hF, k1, k2, k3, k3r, hw, hn, k4, k4r⟩ := lexiconOf_ok s0 s1 W L hW (by omega)
 have hM : MLx ⟨l0, l1, l2, l3, l4, []⟩ F L := ⟨hF, hL, k1, k2, k3, k3r, hw, ⟨hn.1, by show l0.length ≤ 12; omega⟩, k4, k4r⟩
 exact made_walk hM rfl hn.2 hI hB h1
end Go.Proofs.Ytkfebceainedfaa.P.OwnGap
namespace Go.Proofs.Ytkfebceainedfaa.P
open Go.RowKit Go.Proofs.YtkfebceainedfaaW.PrintWords Go.Proofs.YtkfebceainedfaaW.PrintLast Go.Proofs.YtkfebceainedfaaW.PrintMore
attribute [local go_sem] max2_int min2_int max_two min_two max_three min_three max_four min_four   -- for this text's walks alone
set_option linter.unusedVariables false
set_option linter.unusedSimpArgs false
def cippuslaw02_span.f (a0 : Int) (a1 : Int) : Option (Int × Int) := some (a0, a1)
set_option maxHeartbeats 8000000 in
set_option maxRecDepth 100000 in
theorem cippuslaw02_span.calls (a0 : Int) (a1 : Int) (r1 : Int) (r2 : Int) (w : World) (h : cippuslaw02_span.f a0 a1 = some (r1, r2)) :
  Calls Try.prog 26 #[.int .i64 a0, .int .i64 a1] w fun e w' => e = .returned (.agg #[.int .i64 r1, .int .i64 r2]) ∧ Below w.heap.size w w' := by
 have hu47 := Try.underlying47
 have HB := Aside0.mk (Below.refl w.heap.size w)
 have H : (some (a0, a1)) = some (r1, r2) := h
 clear h
 simp only [Option.some.injEq, Prod.mk.injEq] at H
 obtain ⟨rfl, rfl⟩ := H
 go_enter Try.func26, Try.ntmps26
 go_wp2_with (first | ((with_reducible refine gate_dst (N := 4) rfl ?_); refine box_event ?hg (N := 4) ?hd (cs := #[.int .i64 0, .int .i64 0]) (t := 47) ?hr ?_; (case hd => rfl); (case hg => rfl); (case hr => first | (go_simp; done) | (go_simp; rfl)); intro gb348 hg w3 hbox hb; have BK348 := Aside0.mk (hbox); have GW348 := Aside0.mk ((by rw [hg]; exact (below_size (uB HB)) : w.heap.size ≤ gb348)); have GE348 := Aside0.mk ((by rw [hg]; exact (below_size (uB HB)) : w.heap.size ≤ gb348)); replace HB := Aside0.mk (below_step (uB HB) hb); clear hb hbox hg; have hcz4_0 := uc (w := w3) BK348 0; have hcz4_1 := uc (w := w3) BK348 1; have hfz4_0 := blk_frozen BK348.out 0; have hfz4_1 := blk_frozen BK348.out 1))
 refine bodyPost_ret (results_cell_row rfl _ _ gb348 47 #[.int .i64 a0, .int .i64 a1] (0, 0) _ rfl (by (with_reducible repeat (first | refine blk_drewN ?_ _ | refine blk_drew ?_ | refine blk_alloc ?_ _)); refine blk_put (cs := #[.int .i64 a0, .int .i64 0]) ?_ 1 _ rfl; (with_reducible repeat (first | refine blk_drewN ?_ _ | refine blk_drew ?_ | refine blk_alloc ?_ _)); refine blk_put (cs := #[.int .i64 0, .int .i64 0]) ?_ 0 _ rfl; (with_reducible repeat (first | refine blk_drewN ?_ _ | refine blk_drew ?_ | refine blk_alloc ?_ _)); exact BK348.out) Try.underlying47 rfl (by kernel_rfl)) rfl ?_
 exact ⟨uE, uB HB⟩
end Go.Proofs.Ytkfebceainedfaa.P
namespace Go.Proofs.Ytkfebceainedfaa.P
open Go.RowKit Go.Proofs.YtkfebceainedfaaW.PrintWords Go.Proofs.YtkfebceainedfaaW.PrintLast Go.Proofs.YtkfebceainedfaaW.PrintMore
attribute [local go_sem] max2_int min2_int max_two min_two max_three min_three max_four min_four   -- for this text's walks alone
set_option linter.unusedVariables false
set_option linter.unusedSimpArgs false
def cippuslaw02_row.f (a0 : Int) (a1 : Int) : Option ((List (S49))) := (cippuslaw02_span.f a0 a1).bind fun bt385 => (some (([(⟨(⟨#[68]⟩ : ByteArray), false, (⟨0, 0⟩ : S47)⟩ : S49), (⟨(⟨#[]⟩ : ByteArray), false, (⟨0, 0⟩ : S47)⟩ : S49), (⟨(⟨#[83]⟩ : ByteArray), false, (⟨0, 0⟩ : S47)⟩ : S49), (⟨(⟨#[]⟩ : ByteArray), true, (⟨bt385.1, bt385.2⟩ : S47)⟩ : S49), (⟨(⟨#[83]⟩ : ByteArray), false, (⟨0, 0⟩ : S47)⟩ : S49)] : List (S49))))
set_option maxHeartbeats 8000000 in
set_option maxRecDepth 100000 in
theorem cippuslaw02_row.calls (a0 : Int) (a1 : Int) (r : List (S49)) (w : World) (h : cippuslaw02_row.f a0 a1 = some r) :
  Calls Try.prog 43 #[.int .i64 a0, .int .i64 a1] w fun e w' => ∃ v0_ : Value, e = .returned (v0_) ∧ Kd.R k49 49 w' w.heap.size (fun _ => True) v0_ r ∧ Below w.heap.size w w' := by
 have hu49 := Try.underlying49
 have HB := Aside0.mk (Below.refl w.heap.size w)
 have H : ((cippuslaw02_span.f a0 a1).bind fun bt385 => (some (([(⟨(⟨#[68]⟩ : ByteArray), false, (⟨0, 0⟩ : S47)⟩ : S49), (⟨(⟨#[]⟩ : ByteArray), false, (⟨0, 0⟩ : S47)⟩ : S49), (⟨(⟨#[83]⟩ : ByteArray), false, (⟨0, 0⟩ : S47)⟩ : S49), (⟨(⟨#[]⟩ : ByteArray), true, (⟨bt385.1, bt385.2⟩ : S47)⟩ : S49), (⟨(⟨#[83]⟩ : ByteArray), false, (⟨0, 0⟩ : S47)⟩ : S49)] : List (S49))))) = some r := h
 clear h
 replace H := Option.bind_eq_some_iff.mp H
 obtain ⟨⟨t385, t386⟩, A30, H⟩ := H
 replace H : (some (([(⟨(⟨#[68]⟩ : ByteArray), false, (⟨0, 0⟩ : S47)⟩ : S49), (⟨(⟨#[]⟩ : ByteArray), false, (⟨0, 0⟩ : S47)⟩ : S49), (⟨(⟨#[83]⟩ : ByteArray), false, (⟨0, 0⟩ : S47)⟩ : S49), (⟨(⟨#[]⟩ : ByteArray), true, (⟨t385, t386⟩ : S47)⟩ : S49), (⟨(⟨#[83]⟩ : ByteArray), false, (⟨0, 0⟩ : S47)⟩ : S49)] : List (S49)))) = some r := H
 have A3 := Aside0.mk A30
 clear A30
 obtain ⟨y387, hy387⟩ : ∃ y_ : List (S49), y_ = (([(⟨(⟨#[68]⟩ : ByteArray), false, (⟨0, 0⟩ : S47)⟩ : S49), (⟨(⟨#[]⟩ : ByteArray), false, (⟨0, 0⟩ : S47)⟩ : S49), (⟨(⟨#[83]⟩ : ByteArray), false, (⟨0, 0⟩ : S47)⟩ : S49), (⟨(⟨#[]⟩ : ByteArray), true, (⟨t385, t386⟩ : S47)⟩ : S49), (⟨(⟨#[83]⟩ : ByteArray), false, (⟨0, 0⟩ : S47)⟩ : S49)] : List (S49))) := ⟨_, rfl⟩
 replace H : (some y387) = some r := by first | (rw [hy387]; with_reducible exact H) | (have H2_ := (Option.bind_some _ _).symm.trans H; rw [hy387]; with_reducible exact H2_) | (have H2_ := (Option.bind_some _ _).symm.trans H; with_reducible exact H2_) | with_reducible exact H | (rw [hy387]; exact H) | exact H
 have Ny387 := Aside0.mk hy387
 clear hy387
 obtain rfl := Option.some.inj H
 go_enter Try.func43, Try.ntmps43
 go_wp2_with (first | ((with_reducible refine gate_callee (f := 26) rfl ?_); refine goesL_ (some 10) rfl rfl Try.func26 (by kernel_rfl) rfl #[.int .i64 a0, .int .i64 a1] rfl uA ?_; (with_reducible refine (cippuslaw02_span.calls a0 a1 t385 t386 _ A3.out).mono ?_); rintro e w4 ⟨rfl, hb⟩; refine ⟨_, rfl, ?_⟩; replace HB := Aside0.mk (below_step (uB HB) hb); (try clear hb); (try clear hb2); (try clear hk); (try clear hi)) | ((with_reducible refine gate_dst (N := 13) rfl ?_); refine Kd.R_lit k49 _ 49 ?hg (N := 13) ?hd (xs := ([(⟨(⟨#[68]⟩ : ByteArray), false, (⟨0, 0⟩ : S47)⟩ : S49), (⟨(⟨#[]⟩ : ByteArray), false, (⟨0, 0⟩ : S47)⟩ : S49), (⟨(⟨#[83]⟩ : ByteArray), false, (⟨0, 0⟩ : S47)⟩ : S49), (⟨(⟨#[]⟩ : ByteArray), true, (⟨t385, t386⟩ : S47)⟩ : S49), (⟨(⟨#[83]⟩ : ByteArray), false, (⟨0, 0⟩ : S47)⟩ : S49)] : List (S49))) (inner := [.string (⟨#[68]⟩ : ByteArray), .bool false, .int .i64 0, .int .i64 0, .string (⟨#[]⟩ : ByteArray), .bool false, .int .i64 0, .int .i64 0, .string (⟨#[83]⟩ : ByteArray), .bool false, .int .i64 0, .int .i64 0, .string (⟨#[]⟩ : ByteArray), .bool true, .int .i64 t385, .int .i64 t386, .string (⟨#[83]⟩ : ByteArray), .bool false, .int .i64 0, .int .i64 0]) (ok := fun _ => True) (okp := fun _ => True) ?hr ?hp (fun _ hk => hk) trivial (Below.refl _ _) (Nat.le_refl _) (by simp) ?_; (case hd => rfl); (case hg => rfl); (case hr => first | (go_simp; done) | (go_simp; rfl)); (case hp => exact (Reps.c4 (show Kd.M k49 _ _ _ (⟨(⟨#[68]⟩ : ByteArray), false, (⟨0, 0⟩ : S47)⟩ : S49) [.string (⟨#[68]⟩ : ByteArray), .bool false, .int .i64 0, .int .i64 0] from (k49_mkM _ _ _ (⟨(⟨#[68]⟩ : ByteArray), false, (⟨0, 0⟩ : S47)⟩ : S49) )) (Reps.c4 (show Kd.M k49 _ _ _ (⟨(⟨#[]⟩ : ByteArray), false, (⟨0, 0⟩ : S47)⟩ : S49) [.string (⟨#[]⟩ : ByteArray), .bool false, .int .i64 0, .int .i64 0] from (k49_mkM _ _ _ (⟨(⟨#[]⟩ : ByteArray), false, (⟨0, 0⟩ : S47)⟩ : S49) )) (Reps.c4 (show Kd.M k49 _ _ _ (⟨(⟨#[83]⟩ : ByteArray), false, (⟨0, 0⟩ : S47)⟩ : S49) [.string (⟨#[83]⟩ : ByteArray), .bool false, .int .i64 0, .int .i64 0] from (k49_mkM _ _ _ (⟨(⟨#[83]⟩ : ByteArray), false, (⟨0, 0⟩ : S47)⟩ : S49) )) (Reps.c4 (show Kd.M k49 _ _ _ (⟨(⟨#[]⟩ : ByteArray), true, (⟨t385, t386⟩ : S47)⟩ : S49) [.string (⟨#[]⟩ : ByteArray), .bool true, .int .i64 t385, .int .i64 t386] from (k49_mkM _ _ _ (⟨(⟨#[]⟩ : ByteArray), true, (⟨t385, t386⟩ : S47)⟩ : S49) )) (Reps.c4 (show Kd.M k49 _ _ _ (⟨(⟨#[83]⟩ : ByteArray), false, (⟨0, 0⟩ : S47)⟩ : S49) [.string (⟨#[83]⟩ : ByteArray), .bool false, .int .i64 0, .int .i64 0] from (k49_mkM _ _ _ (⟨(⟨#[83]⟩ : ByteArray), false, (⟨0, 0⟩ : S47)⟩ : S49) )) (Reps.none _ _))))))); intro v388 w5 ho6 hb hg_ hnew_; clear hg_ hnew_; (first | rw [← Ny387.out] at ho6 | (simp only [Int.reduceToNat] at ho6; rw [← Ny387.out] at ho6)); have HO389 := Aside0.mk (Kd.R_lower ho6 (below_size (uB HB))); replace HB := Aside0.mk (below_step (uB HB) hb); clear hb ho6))
 go_ret
 exact ⟨_, uE, uR HO389, uB HB⟩
end Go.Proofs.Ytkfebceainedfaa.P
namespace Go.Proofs.Ytkfebceainedfaa.P
open Go.RowKit Go.Proofs.YtkfebceainedfaaW.PrintWords Go.Proofs.YtkfebceainedfaaW.PrintLast Go.Proofs.YtkfebceainedfaaW.PrintMore
attribute [local go_sem] max2_int min2_int max_two min_two max_three min_three max_four min_four   -- for this text's walks alone
set_option linter.unusedVariables false
set_option linter.unusedSimpArgs false
def cippuslaw02_brief.f  : Option (List Int × List Int) := some ((([0, 3] : List Int)), (([4] : List Int)))
set_option maxHeartbeats 8000000 in
set_option maxRecDepth 100000 in
theorem cippuslaw02_brief.calls  (r1 : List Int) (r2 : List Int) (w : World) (h : cippuslaw02_brief.f  = some (r1, r2)) :
  Calls Try.prog 44 #[] w fun e w' => ∃ v0_ v1_ : Value, e = .returned (.agg #[v0_, v1_]) ∧ Kd.R (Kd.int .i64) 3 w' w.heap.size (fun k_ => some k_ ≠ (v1_ : Value).ownBlock) v0_ r1 ∧ Kd.R (Kd.int .i64) 3 w' w.heap.size (fun k_ => some k_ ≠ (v0_ : Value).ownBlock) v1_ r2 ∧ Below w.heap.size w w' := by
 have hu31 := Try.underlying31
 have HB := Aside0.mk (Below.refl w.heap.size w)
 have H : (some ((([0, 3] : List Int)), (([4] : List Int)))) = some (r1, r2) := h
 clear h
 obtain ⟨y391, hy391⟩ : ∃ y_ : List Int, y_ = (([0, 3] : List Int)) := ⟨_, rfl⟩
 replace H : (some (y391, (([4] : List Int)))) = some (r1, r2) := by first | (rw [hy391]; with_reducible exact H) | (have H2_ := (Option.bind_some _ _).symm.trans H; rw [hy391]; with_reducible exact H2_) | (have H2_ := (Option.bind_some _ _).symm.trans H; with_reducible exact H2_) | with_reducible exact H | (rw [hy391]; exact H) | exact H
 have Ny391 := Aside0.mk hy391
 clear hy391
 obtain ⟨y394, hy394⟩ : ∃ y_ : List Int, y_ = (([4] : List Int)) := ⟨_, rfl⟩
 replace H : (some (y391, y394)) = some (r1, r2) := by first | (rw [hy394]; with_reducible exact H) | (have H2_ := (Option.bind_some _ _).symm.trans H; rw [hy394]; with_reducible exact H2_) | (have H2_ := (Option.bind_some _ _).symm.trans H; with_reducible exact H2_) | with_reducible exact H | (rw [hy394]; exact H) | exact H
 have Ny394 := Aside0.mk hy394
 clear hy394
 simp only [Option.some.injEq, Prod.mk.injEq] at H
 obtain ⟨rfl, rfl⟩ := H
 go_enter Try.func44, Try.ntmps44
 go_wp2_with (first | ((with_reducible refine gate_dst (N := 0) rfl ?_); refine box_event ?hg (N := 0) ?hd (cs := #[.slice none 0 0, .slice none 0 0]) (t := 31) ?hr ?_; (case hd => rfl); (case hg => rfl); (case hr => first | (go_simp; done) | (go_simp; rfl)); intro gb390 hg w1 hbox hb; have BK390 := Aside0.mk (hbox); have GW390 := Aside0.mk ((by rw [hg]; exact (below_size (uB HB)) : w.heap.size ≤ gb390)); have GE390 := Aside0.mk ((by rw [hg]; exact (below_size (uB HB)) : w.heap.size ≤ gb390)); replace HB := Aside0.mk (below_step (uB HB) hb); clear hb hbox hg) | ((with_reducible refine gate_dst (N := 1) rfl ?_); refine Kd.R_lit (Kd.int .i64) _ 3 ?hg (N := 1) ?hd (xs := ([0, 3] : List Int)) (inner := [.int .i64 0, .int .i64 3]) (ok := fun _ => True) (okp := fun _ => True) ?hr ?hp (fun _ hk => hk) trivial (Below.refl _ _) (Nat.le_refl _) (by simp) ?_; (case hd => rfl); (case hg => rfl); (case hr => first | (go_simp; done) | (go_simp; rfl)); (case hp => exact (Reps.one (show Kd.M (Kd.int .i64) _ _ _ 0 [.int .i64 0] from rfl) (Reps.one (show Kd.M (Kd.int .i64) _ _ _ 3 [.int .i64 3] from rfl) (Reps.none _ _)))); intro v392 w2 ho3 hb hg_ hnew_; clear hg_ hnew_; (first | rw [← Ny391.out] at ho3 | (simp only [Int.reduceToNat] at ho3; rw [← Ny391.out] at ho3)); have HO393 := Aside0.mk (Kd.R_lower ho3 (below_size (uB HB))); replace BK390 := Aside0.mk (blk_below (uk BK390) hb); replace HB := Aside0.mk (below_step (uB HB) hb); clear hb ho3) | ((with_reducible refine gate_dst (N := 2) rfl ?_); refine Kd.R_lit (Kd.int .i64) _ 3 ?hg (N := 2) ?hd (xs := ([4] : List Int)) (inner := [.int .i64 4]) (ok := fun _ => True) (okp := fun _ => True) ?hr ?hp (fun _ hk => hk) trivial (Below.refl _ _) (Nat.le_refl _) (by simp) ?_; (case hd => rfl); (case hg => rfl); (case hr => first | (go_simp; done) | (go_simp; rfl)); (case hp => exact (Reps.one (show Kd.M (Kd.int .i64) _ _ _ 4 [.int .i64 4] from rfl) (Reps.none _ _))); intro v395 w4 ho5 hb hg_ hnew_; clear hg_ hnew_; (first | rw [← Ny394.out] at ho5 | (simp only [Int.reduceToNat] at ho5; rw [← Ny394.out] at ho5)); have HO396 := Aside0.mk (Kd.R_lower (Kd.R_new' ho5 (Kd.R_lt (uR HO393))) (below_size (uB HB))); replace BK390 := Aside0.mk (blk_below (uk BK390) hb); replace HO393 := Aside0.mk (Kd.R_elder' (uR HO393) (Kd.R_base ho5) hb); replace HB := Aside0.mk (below_step (uB HB) hb); clear hb ho5; obtain ⟨Ao6, co6, eo6⟩ := Kd.R_slice HO396.out; subst eo6; obtain ⟨Ao7, co7, eo7⟩ := Kd.R_slice HO393.out; subst eo7; have hcz8_0 := uc (w := w4) BK390 0; have hcz8_1 := uc (w := w4) BK390 1; have hfz8_0 := blk_frozen BK390.out 0; have hfz8_1 := blk_frozen BK390.out 1))
 refine bodyPost_ret (results_cell_row rfl _ _ gb390 31 #[.slice Ao7 y391.length co7, .slice Ao6 y394.length co6] (0, 0) _ rfl (by (with_reducible repeat (first | refine blk_drewN ?_ _ | refine blk_drew ?_ | refine blk_alloc ?_ _)); refine blk_put (cs := #[.slice Ao7 y391.length co7, .slice none 0 0]) ?_ 1 _ rfl; (with_reducible repeat (first | refine blk_drewN ?_ _ | refine blk_drew ?_ | refine blk_alloc ?_ _)); refine blk_put (cs := #[.slice none 0 0, .slice none 0 0]) ?_ 0 _ rfl; (with_reducible repeat (first | refine blk_drewN ?_ _ | refine blk_drew ?_ | refine blk_alloc ?_ _)); exact BK390.out) Try.underlying31 rfl (by kernel_rfl)) rfl ?_
 exact ⟨_, _, uE, by (with_reducible repeat (first | apply Kd.R_alloc | apply Kd.R_drewN | apply Kd.R_drew)); exact Kd.R_mono (Kd.R_far (p := ⟨gb390, 1, none⟩) (Kd.R_far (p := ⟨gb390, 0, none⟩) (Kd.R_types HO393.out BK390.out (by decide)) (fun _ hk => hk.2) (.slice Ao7 y391.length co7)) (fun _ hk => hk.2) (.slice Ao6 y394.length co6)) (fun _ hk => hk.1.2), by (with_reducible repeat (first | apply Kd.R_alloc | apply Kd.R_drewN | apply Kd.R_drew)); exact Kd.R_mono (Kd.R_far (p := ⟨gb390, 1, none⟩) (Kd.R_far (p := ⟨gb390, 0, none⟩) (Kd.R_types HO396.out BK390.out (by decide)) (fun _ hk => hk.2) (.slice Ao7 y391.length co7)) (fun _ hk => hk.2) (.slice Ao6 y394.length co6)) (fun _ hk => hk.1.2), uB HB⟩
end Go.Proofs.Ytkfebceainedfaa.P
namespace Go.Proofs.Ytkfebceainedfaa.P
open Go.RowKit Go.Proofs.YtkfebceainedfaaW.PrintWords Go.Proofs.YtkfebceainedfaaW.PrintLast Go.Proofs.YtkfebceainedfaaW.PrintMore
attribute [local go_sem] max2_int min2_int max_two min_two max_three min_three max_four min_four   -- for this text's walks alone
set_option linter.unusedVariables false
set_option linter.unusedSimpArgs false
def cippuslaw02_stop.f  : Option ((List (S49))) := (cippuslaw02_span.f 0 9).bind fun bt397 => (some (([(⟨(⟨#[68]⟩ : ByteArray), false, (⟨0, 0⟩ : S47)⟩ : S49), (⟨(⟨#[]⟩ : ByteArray), false, (⟨0, 0⟩ : S47)⟩ : S49), (⟨(⟨#[88]⟩ : ByteArray), false, (⟨0, 0⟩ : S47)⟩ : S49), (⟨(⟨#[]⟩ : ByteArray), true, (⟨bt397.1, bt397.2⟩ : S47)⟩ : S49)] : List (S49))))
set_option maxHeartbeats 8000000 in
set_option maxRecDepth 100000 in
theorem cippuslaw02_stop.calls  (r : List (S49)) (w : World) (h : cippuslaw02_stop.f  = some r) :
  Calls Try.prog 45 #[] w fun e w' => ∃ v0_ : Value, e = .returned (v0_) ∧ Kd.R k49 49 w' w.heap.size (fun _ => True) v0_ r ∧ Below w.heap.size w w' := by
 have hu49 := Try.underlying49
 have HB := Aside0.mk (Below.refl w.heap.size w)
 have H : ((cippuslaw02_span.f 0 9).bind fun bt397 => (some (([(⟨(⟨#[68]⟩ : ByteArray), false, (⟨0, 0⟩ : S47)⟩ : S49), (⟨(⟨#[]⟩ : ByteArray), false, (⟨0, 0⟩ : S47)⟩ : S49), (⟨(⟨#[88]⟩ : ByteArray), false, (⟨0, 0⟩ : S47)⟩ : S49), (⟨(⟨#[]⟩ : ByteArray), true, (⟨bt397.1, bt397.2⟩ : S47)⟩ : S49)] : List (S49))))) = some r := h
 clear h
 replace H := Option.bind_eq_some_iff.mp H
 obtain ⟨⟨t397, t398⟩, A10, H⟩ := H
 replace H : (some (([(⟨(⟨#[68]⟩ : ByteArray), false, (⟨0, 0⟩ : S47)⟩ : S49), (⟨(⟨#[]⟩ : ByteArray), false, (⟨0, 0⟩ : S47)⟩ : S49), (⟨(⟨#[88]⟩ : ByteArray), false, (⟨0, 0⟩ : S47)⟩ : S49), (⟨(⟨#[]⟩ : ByteArray), true, (⟨t397, t398⟩ : S47)⟩ : S49)] : List (S49)))) = some r := H
 have A1 := Aside0.mk A10
 clear A10
 obtain ⟨y399, hy399⟩ : ∃ y_ : List (S49), y_ = (([(⟨(⟨#[68]⟩ : ByteArray), false, (⟨0, 0⟩ : S47)⟩ : S49), (⟨(⟨#[]⟩ : ByteArray), false, (⟨0, 0⟩ : S47)⟩ : S49), (⟨(⟨#[88]⟩ : ByteArray), false, (⟨0, 0⟩ : S47)⟩ : S49), (⟨(⟨#[]⟩ : ByteArray), true, (⟨t397, t398⟩ : S47)⟩ : S49)] : List (S49))) := ⟨_, rfl⟩
 replace H : (some y399) = some r := by first | (rw [hy399]; with_reducible exact H) | (have H2_ := (Option.bind_some _ _).symm.trans H; rw [hy399]; with_reducible exact H2_) | (have H2_ := (Option.bind_some _ _).symm.trans H; with_reducible exact H2_) | with_reducible exact H | (rw [hy399]; exact H) | exact H
 have Ny399 := Aside0.mk hy399
 clear hy399
 obtain rfl := Option.some.inj H
 go_enter Try.func45, Try.ntmps45
 go_wp2_with (first | ((with_reducible refine gate_callee (f := 26) rfl ?_); refine goesL_ (some 4) rfl rfl Try.func26 (by kernel_rfl) rfl #[.int .i64 0, .int .i64 9] rfl uA ?_; (with_reducible refine (cippuslaw02_span.calls 0 9 t397 t398 _ A1.out).mono ?_); rintro e w2 ⟨rfl, hb⟩; refine ⟨_, rfl, ?_⟩; replace HB := Aside0.mk (below_step (uB HB) hb); (try clear hb); (try clear hb2); (try clear hk); (try clear hi)) | ((with_reducible refine gate_dst (N := 6) rfl ?_); refine Kd.R_lit k49 _ 49 ?hg (N := 6) ?hd (xs := ([(⟨(⟨#[68]⟩ : ByteArray), false, (⟨0, 0⟩ : S47)⟩ : S49), (⟨(⟨#[]⟩ : ByteArray), false, (⟨0, 0⟩ : S47)⟩ : S49), (⟨(⟨#[88]⟩ : ByteArray), false, (⟨0, 0⟩ : S47)⟩ : S49), (⟨(⟨#[]⟩ : ByteArray), true, (⟨t397, t398⟩ : S47)⟩ : S49)] : List (S49))) (inner := [.string (⟨#[68]⟩ : ByteArray), .bool false, .int .i64 0, .int .i64 0, .string (⟨#[]⟩ : ByteArray), .bool false, .int .i64 0, .int .i64 0, .string (⟨#[88]⟩ : ByteArray), .bool false, .int .i64 0, .int .i64 0, .string (⟨#[]⟩ : ByteArray), .bool true, .int .i64 t397, .int .i64 t398]) (ok := fun _ => True) (okp := fun _ => True) ?hr ?hp (fun _ hk => hk) trivial (Below.refl _ _) (Nat.le_refl _) (by simp) ?_; (case hd => rfl); (case hg => rfl); (case hr => first | (go_simp; done) | (go_simp; rfl)); (case hp => exact (Reps.c4 (show Kd.M k49 _ _ _ (⟨(⟨#[68]⟩ : ByteArray), false, (⟨0, 0⟩ : S47)⟩ : S49) [.string (⟨#[68]⟩ : ByteArray), .bool false, .int .i64 0, .int .i64 0] from (k49_mkM _ _ _ (⟨(⟨#[68]⟩ : ByteArray), false, (⟨0, 0⟩ : S47)⟩ : S49) )) (Reps.c4 (show Kd.M k49 _ _ _ (⟨(⟨#[]⟩ : ByteArray), false, (⟨0, 0⟩ : S47)⟩ : S49) [.string (⟨#[]⟩ : ByteArray), .bool false, .int .i64 0, .int .i64 0] from (k49_mkM _ _ _ (⟨(⟨#[]⟩ : ByteArray), false, (⟨0, 0⟩ : S47)⟩ : S49) )) (Reps.c4 (show Kd.M k49 _ _ _ (⟨(⟨#[88]⟩ : ByteArray), false, (⟨0, 0⟩ : S47)⟩ : S49) [.string (⟨#[88]⟩ : ByteArray), .bool false, .int .i64 0, .int .i64 0] from (k49_mkM _ _ _ (⟨(⟨#[88]⟩ : ByteArray), false, (⟨0, 0⟩ : S47)⟩ : S49) )) (Reps.c4 (show Kd.M k49 _ _ _ (⟨(⟨#[]⟩ : ByteArray), true, (⟨t397, t398⟩ : S47)⟩ : S49) [.string (⟨#[]⟩ : ByteArray), .bool true, .int .i64 t397, .int .i64 t398] from (k49_mkM _ _ _ (⟨(⟨#[]⟩ : ByteArray), true, (⟨t397, t398⟩ : S47)⟩ : S49) )) (Reps.none _ _)))))); intro v400 w3 ho4 hb hg_ hnew_; clear hg_ hnew_; (first | rw [← Ny399.out] at ho4 | (simp only [Int.reduceToNat] at ho4; rw [← Ny399.out] at ho4)); have HO401 := Aside0.mk (Kd.R_lower ho4 (below_size (uB HB))); replace HB := Aside0.mk (below_step (uB HB) hb); clear hb ho4))
 go_ret
 exact ⟨_, uE, uR HO401, uB HB⟩
end Go.Proofs.Ytkfebceainedfaa.P
namespace Go.Proofs.Ytkfebceainedfaa.P
open Go.RowKit Go.Proofs.YtkfebceainedfaaW.PrintWords Go.Proofs.YtkfebceainedfaaW.PrintLast Go.Proofs.YtkfebceainedfaaW.PrintMore
attribute [local go_sem] max2_int min2_int max_two min_two max_three min_three max_four min_four   -- for this text's walks alone
set_option linter.unusedVariables false
set_option linter.unusedSimpArgs false
def cippuslaw02_long.f  : Option (List Int × List Int) := some ((([0, 1] : List Int)), (([6] : List Int)))
set_option maxHeartbeats 8000000 in
set_option maxRecDepth 100000 in
theorem cippuslaw02_long.calls  (r1 : List Int) (r2 : List Int) (w : World) (h : cippuslaw02_long.f  = some (r1, r2)) :
  Calls Try.prog 46 #[] w fun e w' => ∃ v0_ v1_ : Value, e = .returned (.agg #[v0_, v1_]) ∧ Kd.R (Kd.int .i64) 3 w' w.heap.size (fun k_ => some k_ ≠ (v1_ : Value).ownBlock) v0_ r1 ∧ Kd.R (Kd.int .i64) 3 w' w.heap.size (fun k_ => some k_ ≠ (v0_ : Value).ownBlock) v1_ r2 ∧ Below w.heap.size w w' := by
 have hu31 := Try.underlying31
 have HB := Aside0.mk (Below.refl w.heap.size w)
 have H : (some ((([0, 1] : List Int)), (([6] : List Int)))) = some (r1, r2) := h
 clear h
 obtain ⟨y403, hy403⟩ : ∃ y_ : List Int, y_ = (([0, 1] : List Int)) := ⟨_, rfl⟩
 replace H : (some (y403, (([6] : List Int)))) = some (r1, r2) := by first | (rw [hy403]; with_reducible exact H) | (have H2_ := (Option.bind_some _ _).symm.trans H; rw [hy403]; with_reducible exact H2_) | (have H2_ := (Option.bind_some _ _).symm.trans H; with_reducible exact H2_) | with_reducible exact H | (rw [hy403]; exact H) | exact H
 have Ny403 := Aside0.mk hy403
 clear hy403
 obtain ⟨y406, hy406⟩ : ∃ y_ : List Int, y_ = (([6] : List Int)) := ⟨_, rfl⟩
 replace H : (some (y403, y406)) = some (r1, r2) := by first | (rw [hy406]; with_reducible exact H) | (have H2_ := (Option.bind_some _ _).symm.trans H; rw [hy406]; with_reducible exact H2_) | (have H2_ := (Option.bind_some _ _).symm.trans H; with_reducible exact H2_) | with_reducible exact H | (rw [hy406]; exact H) | exact H
 have Ny406 := Aside0.mk hy406
 clear hy406
 simp only [Option.some.injEq, Prod.mk.injEq] at H
 obtain ⟨rfl, rfl⟩ := H
 go_enter Try.func46, Try.ntmps46
 go_wp2_with (first | ((with_reducible refine gate_dst (N := 0) rfl ?_); refine box_event ?hg (N := 0) ?hd (cs := #[.slice none 0 0, .slice none 0 0]) (t := 31) ?hr ?_; (case hd => rfl); (case hg => rfl); (case hr => first | (go_simp; done) | (go_simp; rfl)); intro gb402 hg w1 hbox hb; have BK402 := Aside0.mk (hbox); have GW402 := Aside0.mk ((by rw [hg]; exact (below_size (uB HB)) : w.heap.size ≤ gb402)); have GE402 := Aside0.mk ((by rw [hg]; exact (below_size (uB HB)) : w.heap.size ≤ gb402)); replace HB := Aside0.mk (below_step (uB HB) hb); clear hb hbox hg) | ((with_reducible refine gate_dst (N := 1) rfl ?_); refine Kd.R_lit (Kd.int .i64) _ 3 ?hg (N := 1) ?hd (xs := ([0, 1] : List Int)) (inner := [.int .i64 0, .int .i64 1]) (ok := fun _ => True) (okp := fun _ => True) ?hr ?hp (fun _ hk => hk) trivial (Below.refl _ _) (Nat.le_refl _) (by simp) ?_; (case hd => rfl); (case hg => rfl); (case hr => first | (go_simp; done) | (go_simp; rfl)); (case hp => exact (Reps.one (show Kd.M (Kd.int .i64) _ _ _ 0 [.int .i64 0] from rfl) (Reps.one (show Kd.M (Kd.int .i64) _ _ _ 1 [.int .i64 1] from rfl) (Reps.none _ _)))); intro v404 w2 ho3 hb hg_ hnew_; clear hg_ hnew_; (first | rw [← Ny403.out] at ho3 | (simp only [Int.reduceToNat] at ho3; rw [← Ny403.out] at ho3)); have HO405 := Aside0.mk (Kd.R_lower ho3 (below_size (uB HB))); replace BK402 := Aside0.mk (blk_below (uk BK402) hb); replace HB := Aside0.mk (below_step (uB HB) hb); clear hb ho3) | ((with_reducible refine gate_dst (N := 2) rfl ?_); refine Kd.R_lit (Kd.int .i64) _ 3 ?hg (N := 2) ?hd (xs := ([6] : List Int)) (inner := [.int .i64 6]) (ok := fun _ => True) (okp := fun _ => True) ?hr ?hp (fun _ hk => hk) trivial (Below.refl _ _) (Nat.le_refl _) (by simp) ?_; (case hd => rfl); (case hg => rfl); (case hr => first | (go_simp; done) | (go_simp; rfl)); (case hp => exact (Reps.one (show Kd.M (Kd.int .i64) _ _ _ 6 [.int .i64 6] from rfl) (Reps.none _ _))); intro v407 w4 ho5 hb hg_ hnew_; clear hg_ hnew_; (first | rw [← Ny406.out] at ho5 | (simp only [Int.reduceToNat] at ho5; rw [← Ny406.out] at ho5)); have HO408 := Aside0.mk (Kd.R_lower (Kd.R_new' ho5 (Kd.R_lt (uR HO405))) (below_size (uB HB))); replace BK402 := Aside0.mk (blk_below (uk BK402) hb); replace HO405 := Aside0.mk (Kd.R_elder' (uR HO405) (Kd.R_base ho5) hb); replace HB := Aside0.mk (below_step (uB HB) hb); clear hb ho5; obtain ⟨Ao6, co6, eo6⟩ := Kd.R_slice HO408.out; subst eo6; obtain ⟨Ao7, co7, eo7⟩ := Kd.R_slice HO405.out; subst eo7; have hcz8_0 := uc (w := w4) BK402 0; have hcz8_1 := uc (w := w4) BK402 1; have hfz8_0 := blk_frozen BK402.out 0; have hfz8_1 := blk_frozen BK402.out 1))
 refine bodyPost_ret (results_cell_row rfl _ _ gb402 31 #[.slice Ao7 y403.length co7, .slice Ao6 y406.length co6] (0, 0) _ rfl (by (with_reducible repeat (first | refine blk_drewN ?_ _ | refine blk_drew ?_ | refine blk_alloc ?_ _)); refine blk_put (cs := #[.slice Ao7 y403.length co7, .slice none 0 0]) ?_ 1 _ rfl; (with_reducible repeat (first | refine blk_drewN ?_ _ | refine blk_drew ?_ | refine blk_alloc ?_ _)); refine blk_put (cs := #[.slice none 0 0, .slice none 0 0]) ?_ 0 _ rfl; (with_reducible repeat (first | refine blk_drewN ?_ _ | refine blk_drew ?_ | refine blk_alloc ?_ _)); exact BK402.out) Try.underlying31 rfl (by kernel_rfl)) rfl ?_
 exact ⟨_, _, uE, by (with_reducible repeat (first | apply Kd.R_alloc | apply Kd.R_drewN | apply Kd.R_drew)); exact Kd.R_mono (Kd.R_far (p := ⟨gb402, 1, none⟩) (Kd.R_far (p := ⟨gb402, 0, none⟩) (Kd.R_types HO405.out BK402.out (by decide)) (fun _ hk => hk.2) (.slice Ao7 y403.length co7)) (fun _ hk => hk.2) (.slice Ao6 y406.length co6)) (fun _ hk => hk.1.2), by (with_reducible repeat (first | apply Kd.R_alloc | apply Kd.R_drewN | apply Kd.R_drew)); exact Kd.R_mono (Kd.R_far (p := ⟨gb402, 1, none⟩) (Kd.R_far (p := ⟨gb402, 0, none⟩) (Kd.R_types HO408.out BK402.out (by decide)) (fun _ hk => hk.2) (.slice Ao7 y403.length co7)) (fun _ hk => hk.2) (.slice Ao6 y406.length co6)) (fun _ hk => hk.1.2), uB HB⟩
end Go.Proofs.Ytkfebceainedfaa.P
namespace Go.Proofs.Ytkfebceainedfaa.P
open Go.RowKit Go.Proofs.YtkfebceainedfaaW.PrintWords Go.Proofs.YtkfebceainedfaaW.PrintLast Go.Proofs.YtkfebceainedfaaW.PrintMore
attribute [local go_sem] max2_int min2_int max_two min_two max_three min_three max_four min_four   -- for this text's walks alone
set_option linter.unusedVariables false
set_option linter.unusedSimpArgs false
theorem eqA47 (d : Nat) (w : World) (x0 y0 : Int) (x1 y1 : Int) :
  (Op.equalIn (d + 2) 47 (.agg #[.int .i64 x0, .int .i64 x1]) (.agg #[.int .i64 y0, .int .i64 y1])).run Try.prog w = .ok (x0 == y0 && (x1 == y1)) w := by
 refine eqA_of Try.underlying47 (by kernel_rfl) ?_
 refine eqf_cons (by rfl) (by go_simp; rfl) (by go_simp; rfl) (by go_simp) ?_
 exact eqf_last (by rfl) (by go_simp; rfl) (by go_simp; rfl) (by go_simp)
end Go.Proofs.Ytkfebceainedfaa.P
namespace Go.Proofs.Ytkfebceainedfaa.P
open Go.RowKit Go.Proofs.YtkfebceainedfaaW.PrintWords Go.Proofs.YtkfebceainedfaaW.PrintLast Go.Proofs.YtkfebceainedfaaW.PrintMore
attribute [local go_sem] max2_int min2_int max_two min_two max_three min_three max_four min_four   -- for this text's walks alone
set_option linter.unusedVariables false
set_option linter.unusedSimpArgs false
theorem eqA60 (d : Nat) (w : World) (x0 y0 : ByteArray) (x1 y1 : ByteArray) (x2 y2 : ByteArray) (x3 y3 : Int) (x4 y4 : Int) :
  (Op.equalIn (d + 3) 60 (.agg #[.string x0, .string x1, .string x2, .int .i64 x3, .int .i64 x4]) (.agg #[.string y0, .string y1, .string y2, .int .i64 y3, .int .i64 y4])).run Try.prog w = .ok (x0.toList == y0.toList && (x1.toList == y1.toList && (x2.toList == y2.toList && ((x3 == y3 && (x4 == y4)))))) w := by
 refine eqA_of Try.underlying60 (by kernel_rfl) ?_
 refine eqf_cons (by rfl) (by go_simp; rfl) (by go_simp; rfl) (by go_simp) ?_
 refine eqf_cons (by rfl) (by go_simp; rfl) (by go_simp; rfl) (by go_simp) ?_
 refine eqf_cons (by rfl) (by go_simp; rfl) (by go_simp; rfl) (by go_simp) ?_
 exact eqf_last (by rfl) (by go_simp) (by go_simp) (eqA47 (d + 0) w _ _ _ _)
end Go.Proofs.Ytkfebceainedfaa.P
namespace Go.Proofs.Ytkfebceainedfaa.P
open Go.RowKit Go.Proofs.YtkfebceainedfaaW.PrintWords Go.Proofs.YtkfebceainedfaaW.PrintLast Go.Proofs.YtkfebceainedfaaW.PrintMore
attribute [local go_sem] max2_int min2_int max_two min_two max_three min_three max_four min_four   -- for this text's walks alone
set_option linter.unusedVariables false
set_option linter.unusedSimpArgs false
attribute [local go_sem high] eqA60
def cippuskit_SameCommons.l0 : Nat → List (S60) → List (S60) → Bool → Int → Option (Bool)
 | 0, _, _, _, _ => none
 | k + 1, x0, x1, x5, x6 => if x5 = true then (if x6 < (x0.length : Int) then (if 0 ≤ x6 then (if x6 < (x1.length : Int) then (cippuskit_SameCommons.l0 k x0 x1 ((((rd_T60 x0 x6).f0).toList) == (((rd_T60 x1 x6).f0).toList) && ((((rd_T60 x0 x6).f1).toList) == (((rd_T60 x1 x6).f1).toList) && ((((rd_T60 x0 x6).f2).toList) == (((rd_T60 x1 x6).f2).toList) && ((((rd_T60 x0 x6).f3.f0) == ((rd_T60 x1 x6).f3.f0) && (((rd_T60 x0 x6).f3.f1) == ((rd_T60 x1 x6).f3.f1))))))) (wrap64 (x6 + 1))) else (none)) else (none)) else (some x5)) else (some x5)
def cippuskit_SameCommons.f (k : Nat) (l0 : List (S60)) (l1 : List (S60)) : Option (Bool) := cippuskit_SameCommons.l0 k l0 l1 ((l0.length : Int) == (l1.length : Int)) 0
set_option maxHeartbeats 8000000 in
set_option maxRecDepth 100000 in
theorem cippuskit_SameCommons.calls (k : Nat) (A0 : Option Addr) (c0 : Nat) (l0 : List (S60)) (A1 : Option Addr) (c1 : Nat) (l1 : List (S60)) (r : Bool) (w : World) (hr0 : Kd.C k60 w A0 l0.length l0) (hc0 : l0.length ≤ c0) (hr1 : Kd.C k60 w A1 l1.length l1) (hc1 : l1.length ≤ c1) (h : cippuskit_SameCommons.f k l0 l1 = some r) :
  Calls Try.prog 47 #[.slice A0 l0.length c0, .slice A1 l1.length c1] w fun e w' => e = .returned (.bool r) ∧ Drawn0 w w' := by
 have hu60 := Try.underlying60
 have HR0 := Aside0.mk hr0
 have HC0 := Aside0.mk hc0
 clear hr0 hc0
 have HR1 := Aside0.mk hr1
 have HC1 := Aside0.mk hc1
 clear hr1 hc1
 have H : (cippuskit_SameCommons.l0 k l0 l1 ((l0.length : Int) == (l1.length : Int)) 0) = some r := h
 clear h
 have H' := Aside0.mk H
 clear H
 go_enter Try.func47, Try.ntmps47
 go_wp2
 repeat (go_quiet (fail); try go_wp2)
 go_loopg [5, 6] k (fun kq v5 v6 w' => ∃ (x5_1 : Bool) (x6_1 : Int), v5 = .bool x5_1 ∧ v6 = .int .i64 x6_1 ∧ Aside0 (cippuskit_SameCommons.l0 kq l0 l1 x5_1 x6_1 = some r) ∧ Aside0 (kq ≤ k) ∧ Drawn0 w w')
 case atStart => exact ⟨(((l0.length : Int) == (l1.length : Int))), (0), uS, uS, H', ⟨Nat.le_refl _⟩, by repeat (first | exact Drawn0.refl _ | apply Drawn0.step)⟩
 case round =>
  clear H'
  try clear c1
  try clear p2
  obtain ⟨x5_1, x6_1, rfl, rfl, HA, HK1, ⟨m1, rfl⟩⟩ := hrel
  cases gk with
  | zero => exact absurd HA.out (by simp [cippuskit_SameCommons.l0])
  | succ k1 =>
   have H := HA.out
   clear HA
   simp only [cippuskit_SameCommons.l0] at H
   by_cases c3 : x5_1 = true
   ·subst c3
    have H1 : (if x6_1 < (l0.length : Int) then (if 0 ≤ x6_1 then (if x6_1 < (l1.length : Int) then (cippuskit_SameCommons.l0 k1 l0 l1 ((((rd_T60 l0 x6_1).f0).toList) == (((rd_T60 l1 x6_1).f0).toList) && ((((rd_T60 l0 x6_1).f1).toList) == (((rd_T60 l1 x6_1).f1).toList) && ((((rd_T60 l0 x6_1).f2).toList) == (((rd_T60 l1 x6_1).f2).toList) && ((((rd_T60 l0 x6_1).f3.f0) == ((rd_T60 l1 x6_1).f3.f0) && (((rd_T60 l0 x6_1).f3.f1) == ((rd_T60 l1 x6_1).f3.f1))))))) (wrap64 (x6_1 + 1))) else (none)) else (none)) else (some true)) = some r := by rw [if_pos rfl] at H; exact H
    clear H
    have H := H1
    clear H1
    by_cases c4 : x6_1 < (l0.length : Int)
    ·rw [if_pos c4] at H
     have c4b0 : decide (x6_1 < (l0.length : Int)) = true := decide_eq_true c4
     clear c4
     by_cases c5 : 0 ≤ x6_1
     ·rw [if_pos c5] at H
      have c5b0 : decide (0 ≤ x6_1) = true := decide_eq_true c5
      clear c5
      by_cases c6 : x6_1 < (l1.length : Int)
      ·rw [if_pos c6] at H
       have c6b0 : decide (x6_1 < (l1.length : Int)) = true := decide_eq_true c6
       clear c6
       have H' := Aside0.mk H
       clear H
       have p409 : 0 ≤ (x6_1 : Int) := of_decide_eq_true ua
       have q409 : x6_1 < (l0.length : Int) := of_decide_eq_true ua
       obtain ⟨ad409, e409, hx409_0, hx409_1, hx409_2, hx409_3, hx409_4⟩ := at_T60 HR0.out x6_1 p409 q409
       cases e409
       replace p409 := eq_true p409
       replace q409 := eq_true q409
       have p410 : 0 ≤ (x6_1 : Int) := of_decide_eq_true ua
       have q410 : x6_1 < (l1.length : Int) := of_decide_eq_true ua
       obtain ⟨ad410, e410, hx410_0, hx410_1, hx410_2, hx410_3, hx410_4⟩ := at_T60 HR1.out x6_1 p410 q410
       cases e410
       replace p410 := eq_true p410
       replace q410 := eq_true q410
       go_wp2
       repeat (go_quiet (fail); try go_wp2)
       go_roundg k1
       case measure => have := HK1.out; omega
       case rel => exact ⟨(((((rd_T60 l0 x6_1).f0).toList) == (((rd_T60 l1 x6_1).f0).toList) && ((((rd_T60 l0 x6_1).f1).toList) == (((rd_T60 l1 x6_1).f1).toList) && ((((rd_T60 l0 x6_1).f2).toList) == (((rd_T60 l1 x6_1).f2).toList) && ((((rd_T60 l0 x6_1).f3.f0) == ((rd_T60 l1 x6_1).f3.f0) && (((rd_T60 l0 x6_1).f3.f1) == ((rd_T60 l1 x6_1).f3.f1)))))))), (wrap64 (x6_1 + 1)), uS, uS, H', ⟨by have := HK1.out; omega⟩, by repeat (first | exact Drawn0.refl _ | apply Drawn0.step)⟩
      ·rw [if_neg c6] at H
       exact absurd H (by simp)
     ·rw [if_neg c5] at H
      exact absurd H (by simp)
    ·rw [if_neg c4] at H
     have c4b0 : decide (x6_1 < (l0.length : Int)) = false := decide_eq_false c4
     clear c4
     obtain rfl := Option.some.inj H
     go_wp2
     repeat (go_quiet (fail); try go_wp2)
     go_ret
     exact ⟨by first | rfl | (simp; done) | (simp [*]; done), by repeat (first | exact Drawn0.refl _ | apply Drawn0.step)⟩
   ·replace c3 := Bool.eq_false_iff.mpr c3
    subst c3
    have H1 : (some false) = some r := by rw [if_neg (show ¬ (false = true) by decide)] at H; exact H
    clear H
    have H := H1
    clear H1
    obtain rfl := Option.some.inj H
    go_wp2
    repeat (go_quiet (fail); try go_wp2)
    go_ret
    exact ⟨by first | rfl | (simp; done) | (simp [*]; done), by repeat (first | exact Drawn0.refl _ | apply Drawn0.step)⟩
end Go.Proofs.Ytkfebceainedfaa.P
namespace Go.Proofs.Ytkfebceainedfaa.P
open Go.RowKit Go.Proofs.YtkfebceainedfaaW.PrintWords Go.Proofs.YtkfebceainedfaaW.PrintLast Go.Proofs.YtkfebceainedfaaW.PrintMore
attribute [local go_sem] max2_int min2_int max_two min_two max_three min_three max_four min_four   -- for this text's walks alone
set_option linter.unusedVariables false
set_option linter.unusedSimpArgs false
def cippuskit_SameFillings.l0 : Nat → List (S31) → List (S31) → Bool → Int → Option (Bool)
 | 0, _, _, _, _ => none
 | k + 1, x0, x1, x5, x6 => if x5 = true then (if x6 < (x0.length : Int) then (if 0 ≤ x6 then (if x6 < (x1.length : Int) then ((cippuskit_SameFilling.f k ((rd_T31 x0 x6).f0) ((rd_T31 x0 x6).f1) ((rd_T31 x1 x6).f0) ((rd_T31 x1 x6).f1)).bind fun t347 => (cippuskit_SameFillings.l0 k x0 x1 t347 (wrap64 (x6 + 1)))) else (none)) else (none)) else (some x5)) else (some x5)
def cippuskit_SameFillings.f (k : Nat) (l0 : List (S31)) (l1 : List (S31)) : Option (Bool) := cippuskit_SameFillings.l0 k l0 l1 ((l0.length : Int) == (l1.length : Int)) 0
def cippuskit_SameFillings.T5 : Bool × List (List Nat × List Nat) := (true, [([], []), ([], []), ([0, 1], [0, 1]), ([2], [2]), ([], []), ([], []), ([4, 5], [4, 5]), ([6], [6]), ([3, 7], [3, 7]), ([8, 8, 0, 1, 2, 3, 4, 5, 6, 7, 8], [8])])
def cippuskit_SameFillings.B5 : List Nat := [0, 0, 3, 7, 0, 0, 48, 112, 255, 511]
theorem cippuskit_SameFillings.tab5 : rtab .any (opsOf Try.f21 5) = cippuskit_SameFillings.T5 := by kernel_rfl
theorem cippuskit_SameFillings.bits5 : waitsOk cippuskit_SameFillings.T5.2 cippuskit_SameFillings.B5 = true := by kernel_rfl
set_option maxHeartbeats 8000000 in
set_option maxRecDepth 100000 in
theorem cippuskit_SameFillings.calls (k : Nat) (A0 : Option Addr) (c0 : Nat) (l0 : List (S31)) (A1 : Option Addr) (c1 : Nat) (l1 : List (S31)) (r : Bool) (w : World) (hr0 : Kd.C k31 w A0 l0.length l0) (hc0 : l0.length ≤ c0) (hr1 : Kd.C k31 w A1 l1.length l1) (hc1 : l1.length ≤ c1) (h : cippuskit_SameFillings.f k l0 l1 = some r) :
  Calls Try.prog 21 #[.slice A0 l0.length c0, .slice A1 l1.length c1] w fun e w' => e = .returned (.bool r) ∧ Below w.heap.size w w' := by
 have hu31 := Try.underlying31
 have HR0 := Aside0.mk hr0
 have HC0 := Aside0.mk hc0
 clear hr0 hc0
 have HR1 := Aside0.mk hr1
 have HC1 := Aside0.mk hc1
 clear hr1 hc1
 have HB := Aside0.mk (Below.refl w.heap.size w)
 have H : (cippuskit_SameFillings.l0 k l0 l1 ((l0.length : Int) == (l1.length : Int)) 0) = some r := h
 clear h
 have H' := Aside0.mk H
 clear H
 go_enter Try.func21, Try.ntmps21
 go_wp2
 go_loopg [5, 6] k (fun kq v5 v6 w' => ∃ (x5_1 : Bool) (x6_1 : Int), v5 = .bool x5_1 ∧ v6 = .int .i64 x6_1 ∧ Aside0 (cippuskit_SameFillings.l0 kq l0 l1 x5_1 x6_1 = some r) ∧ Aside0 (kq ≤ k) ∧ Aside0 (Below w.heap.size w w'))
 case atStart => exact ⟨(((l0.length : Int) == (l1.length : Int))), (0), uS, uS, H', ⟨Nat.le_refl _⟩, ⟨uB HB⟩⟩
 case round =>
  clear H'
  try clear c1
  try clear c2
  try clear p2
  obtain ⟨x5_1, x6_1, rfl, rfl, HA, HK1, HB⟩ := hrel
  cases gk with
  | zero => exact absurd HA.out (by simp [cippuskit_SameFillings.l0])
  | succ k1 =>
   have H := HA.out
   clear HA
   simp only [cippuskit_SameFillings.l0] at H
   by_cases c3 : x5_1 = true
   ·subst c3
    have H1 : (if x6_1 < (l0.length : Int) then (if 0 ≤ x6_1 then (if x6_1 < (l1.length : Int) then ((cippuskit_SameFilling.f k1 ((rd_T31 l0 x6_1).f0) ((rd_T31 l0 x6_1).f1) ((rd_T31 l1 x6_1).f0) ((rd_T31 l1 x6_1).f1)).bind fun t347 => (cippuskit_SameFillings.l0 k1 l0 l1 t347 (wrap64 (x6_1 + 1)))) else (none)) else (none)) else (some true)) = some r := by rw [if_pos rfl] at H; exact H
    clear H
    have H := H1
    clear H1
    by_cases c4 : x6_1 < (l0.length : Int)
    ·rw [if_pos c4] at H
     have c4b0 : decide (x6_1 < (l0.length : Int)) = true := decide_eq_true c4
     clear c4
     by_cases c5 : 0 ≤ x6_1
     ·rw [if_pos c5] at H
      have c5b0 : decide (0 ≤ x6_1) = true := decide_eq_true c5
      clear c5
      by_cases c6 : x6_1 < (l1.length : Int)
      ·rw [if_pos c6] at H
       have c6b0 : decide (x6_1 < (l1.length : Int)) = true := decide_eq_true c6
       clear c6
       replace H := Option.bind_eq_some_iff.mp H
       obtain ⟨t347, A70, H⟩ := H
       replace H : (cippuskit_SameFillings.l0 k1 l0 l1 t347 (wrap64 (x6_1 + 1))) = some r := H
       have A7 := Aside0.mk A70
       clear A70
       have H' := Aside0.mk H
       clear H
       try go_wp2
       replace HB := Aside0.mk (below_drew1 HB.out)
       have p345 : 0 ≤ (x6_1 : Int) := of_decide_eq_true ua
       have q345 : x6_1 < (l0.length : Int) := of_decide_eq_true ua
       obtain ⟨ad345, A345_0, c345_0, A345_1, c345_1, e345, hx345_0, hx345_1, hl345_0, hi345_0, hl345_1, hi345_1⟩ := at_T31 HR0.out x6_1 p345 q345
       have hw345_1 := hx345_1
       have hw345_0 := hx345_0
       cases e345
       try replace hx345_0 := (HB.out.cell (World.block_lt_of_cell? w _ hx345_0)).trans hx345_0
       try replace hx345_1 := (HB.out.cell (World.block_lt_of_cell? w _ hx345_1)).trans hx345_1
       have HR345_0 := Aside0.mk hi345_0
       have HC345_0 := Aside0.mk hl345_0
       clear hi345_0 hl345_0
       have HR345_1 := Aside0.mk hi345_1
       have HC345_1 := Aside0.mk hl345_1
       clear hi345_1 hl345_1
       replace p345 := eq_true p345
       replace q345 := eq_true q345
       have p346 : 0 ≤ (x6_1 : Int) := of_decide_eq_true ua
       have q346 : x6_1 < (l1.length : Int) := of_decide_eq_true ua
       obtain ⟨ad346, A346_0, c346_0, A346_1, c346_1, e346, hx346_0, hx346_1, hl346_0, hi346_0, hl346_1, hi346_1⟩ := at_T31 HR1.out x6_1 p346 q346
       have hw346_1 := hx346_1
       have hw346_0 := hx346_0
       cases e346
       try replace hx346_0 := (HB.out.cell (World.block_lt_of_cell? w _ hx346_0)).trans hx346_0
       try replace hx346_1 := (HB.out.cell (World.block_lt_of_cell? w _ hx346_1)).trans hx346_1
       have HR346_0 := Aside0.mk hi346_0
       have HC346_0 := Aside0.mk hl346_0
       clear hi346_0 hl346_0
       have HR346_1 := Aside0.mk hi346_1
       have HC346_1 := Aside0.mk hl346_1
       clear hi346_1 hl346_1
       replace p346 := eq_true p346
       replace q346 := eq_true q346
       refine start_ (n := 10) (S := fun w' => w'.cell? (ad345.add ((x6_1).toNat * 2)) = some (.slice A345_0 ((rd_T31 l0 x6_1).f0).length c345_0) ∧ w'.cell? ⟨(ad345.add ((x6_1).toNat * 2)).block, (ad345.add ((x6_1).toNat * 2)).off + 1, none⟩ = some (.slice A345_1 ((rd_T31 l0 x6_1).f1).length c345_1) ∧ w'.cell? (ad346.add ((x6_1).toNat * 2)) = some (.slice A346_0 ((rd_T31 l1 x6_1).f0).length c346_0) ∧ w'.cell? ⟨(ad346.add ((x6_1).toNat * 2)).block, (ad346.add ((x6_1).toNat * 2)).off + 1, none⟩ = some (.slice A346_1 ((rd_T31 l1 x6_1).f1).length c346_1)) (ds := []) #[ff,ff,ff,ff,ff,ff,ff,ff,ff,ff] (by kernel_rfl) rfl rfl ⟨((HB.out.cell (World.block_lt_of_cell? w _ hw345_0)).trans hw345_0), ((HB.out.cell (World.block_lt_of_cell? w _ hw345_1)).trans hw345_1), ((HB.out.cell (World.block_lt_of_cell? w _ hw346_0)).trans hw346_0), ((HB.out.cell (World.block_lt_of_cell? w _ hw346_1)).trans hw346_1)⟩ (fun hHeld => ?_); refine with_tabW cippuskit_SameFillings.tab5 cippuskit_SameFillings.bits5 (fun HT_ HW_ => ?_)
       generalize wr.drew = w8 at HB HR345_0 HR345_1 HR346_0 HR346_1 hx345_0 hx345_1 hx346_0 hx346_1 hHeld ⊢
       refine pure_ (i := 0) (N := some 21) (v := ?_) (a' := ?_) #[tt,ff,ff,ff,ff,ff,ff,ff,ff,ff] rfl rfl (any_of HT_.out (by kernel_rfl)) (fun _ _ _ h => h) (Or.inl ⟨by rfl, ?_⟩) ?_ ?_
       rotate_left
       ·intro w'
        go_simp
        with_reducible rfl
       rotate_left
       ·exact uP
       refine pure_ (i := 1) (N := some 22) (v := ?_) (a' := ?_) #[tt,tt,ff,ff,ff,ff,ff,ff,ff,ff] rfl rfl (any_of HT_.out (by kernel_rfl)) (fun _ _ _ h => h) (Or.inl ⟨by rfl, ?_⟩) ?_ ?_
       rotate_left
       ·intro w'
        go_simp
        with_reducible rfl
       rotate_left
       ·exact uP
       refine pure_ (i := 2) (N := some 23) (v := ?_) (a' := ?_) #[tt,tt,tt,ff,ff,ff,ff,ff,ff,ff] rfl rfl (any_of HT_.out (by kernel_rfl)) (fun _ _ _ h => h) (Or.inl ⟨by rfl, ?_⟩) ?_ ?_
       rotate_left
       ·intro w'
        go_simp
        with_reducible rfl
       rotate_left
       ·exact uP
       refine pure_ (i := 4) (N := some 25) (v := ?_) (a' := ?_) #[tt,tt,tt,ff,tt,ff,ff,ff,ff,ff] rfl rfl (any_of HT_.out (by kernel_rfl)) (fun _ _ _ h => h) (Or.inl ⟨by rfl, ?_⟩) ?_ ?_
       rotate_left
       ·intro w'
        go_simp
        with_reducible rfl
       rotate_left
       ·exact uP
       refine pure_ (i := 5) (N := some 26) (v := ?_) (a' := ?_) #[tt,tt,tt,ff,tt,tt,ff,ff,ff,ff] rfl rfl (any_of HT_.out (by kernel_rfl)) (fun _ _ _ h => h) (Or.inl ⟨by rfl, ?_⟩) ?_ ?_
       rotate_left
       ·intro w'
        go_simp
        with_reducible rfl
       rotate_left
       ·exact uP
       refine pure_ (i := 6) (N := some 27) (v := ?_) (a' := ?_) #[tt,tt,tt,ff,tt,tt,tt,ff,ff,ff] rfl rfl (any_of HT_.out (by kernel_rfl)) (fun _ _ _ h => h) (Or.inl ⟨by rfl, ?_⟩) ?_ ?_
       rotate_left
       ·intro w'
        go_simp
        with_reducible rfl
       rotate_left
       ·exact uP
       refine take_ (i := 3) (N := some 24) (v := ?_) (a' := ?_) #[tt,tt,tt,tt,tt,tt,tt,ff,ff,ff] rfl rfl (take_ofW HT_.out HW_.out (by kernel_rfl)) (fun _ _ _ h => h) (Or.inl ⟨by rfl, ?_⟩) hHeld ?_ ?_
       rotate_left
       ·rintro w' ⟨s0, s1, s2, s3⟩
        go_simp
        with_reducible rfl
       rotate_left
       ·exact uP
       refine take_ (i := 7) (N := some 28) (v := ?_) (a' := ?_) #[tt,tt,tt,tt,tt,tt,tt,tt,ff,ff] rfl rfl (take_ofW HT_.out HW_.out (by kernel_rfl)) (fun _ _ _ h => h) (Or.inl ⟨by rfl, ?_⟩) hHeld ?_ ?_
       rotate_left
       ·rintro w' ⟨s0, s1, s2, s3⟩
        go_simp
        with_reducible rfl
       rotate_left
       ·exact uP
       refine one_ (i := 8) (N := some 29) #[tt,tt,tt,tt,tt,tt,tt,tt,tt,ff] rfl rfl (one_of HT_.out (by kernel_rfl)) (by decide) (fun K hK => ?_)
       refine goes_ Try.func35 (by kernel_rfl) rfl #[.agg #[.slice A345_0 ((rd_T31 l0 x6_1).f0).length c345_0, .slice A345_1 ((rd_T31 l0 x6_1).f1).length c345_1], .agg #[.slice A346_0 ((rd_T31 l1 x6_1).f0).length c346_0, .slice A346_1 ((rd_T31 l1 x6_1).f1).length c346_1]] (by rfl) rfl rfl uA ?_
       with_reducible refine (cippuskit_SameFilling.calls k1 _ _ ((rd_T31 l0 x6_1).f0) _ _ ((rd_T31 l0 x6_1).f1) _ _ ((rd_T31 l1 x6_1).f0) _ _ ((rd_T31 l1 x6_1).f1) t347 _ ?side1 ?side2 ?side3 ?side4 ?side5 ?side6 ?side7 ?side8 A7.out).mono ?_
       (case side1 => exact uD (Kd.C_below HR345_0.out HB.out))
       (case side2 => exact HC345_0.out)
       (case side3 => exact uD (Kd.C_below HR345_1.out HB.out))
       (case side4 => exact HC345_1.out)
       (case side5 => exact uD (Kd.C_below HR346_0.out HB.out))
       (case side6 => exact HC346_0.out)
       (case side7 => exact uD (Kd.C_below HR346_1.out HB.out))
       (case side8 => exact HC346_1.out)
       rintro e w9 ⟨rfl, hb⟩
       refine ⟨_, rfl, ?_⟩
       replace HB := Aside0.mk (below_step (uB HB) hb)
       (try clear hb)
       (try clear hb2)
       (try clear hk)
       (try clear hi)
       refine hK.out _ _ ⟨((HB.out.cell (World.block_lt_of_cell? w _ hw345_0)).trans hw345_0), ((HB.out.cell (World.block_lt_of_cell? w _ hw345_1)).trans hw345_1), ((HB.out.cell (World.block_lt_of_cell? w _ hw346_0)).trans hw346_0), ((HB.out.cell (World.block_lt_of_cell? w _ hw346_1)).trans hw346_1)⟩ (fun hHeld => ?_)
       clear hK K
       refine norm_ (a' := ?_) ?_ ?_
       rotate_left
       ·show Act.put _ (some 29) _ = _
        simp only [Act.put, List.setIfInBounds_toArray, List.set_cons_zero, List.set_cons_succ, i64_w, i32_w]
        rfl
       refine pure_ (i := 9) (N := some 5) (v := ?_) (a' := ?_) #[tt,tt,tt,tt,tt,tt,tt,tt,tt,tt] rfl rfl (any_of HT_.out (by kernel_rfl)) (fun _ _ _ h => h) (Or.inl ⟨by rfl, ?_⟩) ?_ ?_
       rotate_left
       ·intro w'
        go_simp
        with_reducible rfl
       rotate_left
       ·exact uP
       refine done_ (done_of HT_.out (by kernel_rfl)) ?_
       try go_wp2
       go_roundg k1
       case measure => have := HK1.out; omega
       case rel => exact ⟨(t347), (wrap64 (x6_1 + 1)), uS, uS, H', ⟨by have := HK1.out; omega⟩, ⟨uB HB⟩⟩
      ·rw [if_neg c6] at H
       exact absurd H (by simp)
     ·rw [if_neg c5] at H
      exact absurd H (by simp)
    ·rw [if_neg c4] at H
     have c4b0 : decide (x6_1 < (l0.length : Int)) = false := decide_eq_false c4
     clear c4
     obtain rfl := Option.some.inj H
     go_wp2
     go_ret
     exact ⟨uE, uB HB⟩
   ·replace c3 := Bool.eq_false_iff.mpr c3
    subst c3
    have H1 : (some false) = some r := by rw [if_neg (show ¬ (false = true) by decide)] at H; exact H
    clear H
    have H := H1
    clear H1
    obtain rfl := Option.some.inj H
    go_wp2
    go_ret
    exact ⟨uE, uB HB⟩
end Go.Proofs.Ytkfebceainedfaa.P
namespace Go.Proofs.Ytkfebceainedfaa.P
open Go.RowKit Go.Proofs.YtkfebceainedfaaW.PrintWords Go.Proofs.YtkfebceainedfaaW.PrintLast Go.Proofs.YtkfebceainedfaaW.PrintMore
attribute [local go_sem] max2_int min2_int max_two min_two max_three min_three max_four min_four   -- for this text's walks alone
set_option linter.unusedVariables false
set_option linter.unusedSimpArgs false
def gap_common.l0 : Nat → ByteArray → ByteArray → Int → Option (ByteArray)
 | 0, _, _, _ => none
 | k + 1, x0, x1, x5 => if x5 < (mn (x0.size : Int) (x1.size : Int)) then (if 0 ≤ x5 then (if x5 < (x0.size : Int) then (if x5 < (x1.size : Int) then (if (bt x0 x5) = (bt x1 x5) then (gap_common.l0 k x0 x1 (wrap64 (x5 + 1))) else (if x5 ≤ (x0.size : Int) then (some (x0.extract 0 (x5 : Int).toNat)) else (none))) else (none)) else (none)) else (none)) else (if 0 ≤ x5 then (if x5 ≤ (x0.size : Int) then (some (x0.extract 0 (x5 : Int).toNat)) else (none)) else (none))
def gap_common.f (k : Nat) (a0 : ByteArray) (a1 : ByteArray) : Option (ByteArray) := gap_common.l0 k a0 a1 0
set_option maxHeartbeats 8000000 in
set_option maxRecDepth 100000 in
theorem gap_common.calls (k : Nat) (a0 : ByteArray) (a1 : ByteArray) (r : ByteArray) (w : World) (h : gap_common.f k a0 a1 = some r) :
  Calls Try.prog 62 #[.string a0, .string a1] w fun e w' => e = .returned (.string r) ∧ Below w.heap.size w w' := by
 have HB := Aside0.mk (Below.refl w.heap.size w)
 have H : (gap_common.l0 k a0 a1 0) = some r := h
 clear h
 have H' := Aside0.mk H
 clear H
 go_enter Try.func62, Try.ntmps62
 go_wp2
 skip
 go_loopg [5] k (fun kq v5 w' => ∃ (x5_1 : Int), v5 = .int .i64 x5_1 ∧ Aside0 (gap_common.l0 kq a0 a1 x5_1 = some r) ∧ Aside0 (kq ≤ k) ∧ Aside0 (Below w.heap.size w w'))
 case atStart => exact ⟨(0), (by first | rfl | (simp; done) | (simp [*]; done)), H', ⟨Nat.le_refl _⟩, ⟨by repeat (first | (with_reducible first | exact HB.out | apply below_alloc | apply pw_below_drewN | apply below_drew1) | exact HB.out)⟩⟩
 case round =>
  clear H'
  try clear p2
  obtain ⟨x5_1, rfl, HA, HK1, HB⟩ := hrel
  cases gk with
  | zero => exact absurd HA.out (by simp [gap_common.l0])
  | succ k1 =>
   have H := HA.out
   clear HA
   simp only [gap_common.l0] at H
   obtain ⟨ji3, hji3⟩ : ∃ j_ : Int, (mn (a0.size : Int) (a1.size : Int)) = j_ := ⟨_, rfl⟩
   replace H : (if x5_1 < (ji3) then (if 0 ≤ x5_1 then (if x5_1 < (a0.size : Int) then (if x5_1 < (a1.size : Int) then (if (bt a0 x5_1) = (bt a1 x5_1) then (gap_common.l0 k1 a0 a1 (wrap64 (x5_1 + 1))) else (if x5_1 ≤ (a0.size : Int) then (some (a0.extract 0 (x5_1 : Int).toNat)) else (none))) else (none)) else (none)) else (none)) else (if 0 ≤ x5_1 then (if x5_1 ≤ (a0.size : Int) then (some (a0.extract 0 (x5_1 : Int).toNat)) else (none)) else (none))) = some r := by first | (rw [hji3] at H; exact H) | (simp only [hji3] at H ⊢; exact H)
   have hji3_ : (if (a1.size : Int) < (a0.size : Int) then (a1.size : Int) else (a0.size : Int)) = ji3 := hji3
   have hji3n : (if a1.size < a0.size then (a1.size : Int) else (a0.size : Int)) = ji3 := by rw [← hji3_]; simp only [Int.ofNat_lt]
   by_cases c4 : x5_1 < (ji3)
   ·rw [if_pos c4] at H
    have c4b0 : decide (x5_1 < (ji3)) = true := decide_eq_true c4
    clear c4
    by_cases c5 : 0 ≤ x5_1
    ·rw [if_pos c5] at H
     have c5b0 : decide (0 ≤ x5_1) = true := decide_eq_true c5
     clear c5
     by_cases c6 : x5_1 < (a0.size : Int)
     ·rw [if_pos c6] at H
      have c6b0 : decide (x5_1 < (a0.size : Int)) = true := decide_eq_true c6
      clear c6
      by_cases c8 : x5_1 < (a1.size : Int)
      ·rw [if_pos c8] at H
       have c8b0 : decide (x5_1 < (a1.size : Int)) = true := decide_eq_true c8
       clear c8
       by_cases c10 : (bt a0 x5_1) = (bt a1 x5_1)
       ·rw [if_pos c10] at H
        have c10b0 : ((bt a0 x5_1) == (bt a1 x5_1)) = true := beq_iff_eq.mpr c10
        have c10b1 : ((bt a0 x5_1) != (bt a1 x5_1)) = false := bne_eq_false_iff_eq.mpr c10
        clear c10
        have H' := Aside0.mk H
        clear H
        have p7 : 0 ≤ (x5_1 : Int) := of_decide_eq_true (by first | (with_reducible assumption) | assumption)
        have q7 : x5_1 < (a0.size : Int) := of_decide_eq_true (by first | (with_reducible assumption) | assumption)
        have hx7 := bt_at a0 x5_1
        replace p7 := eq_true p7
        replace q7 := eq_true q7
        have p9 : 0 ≤ (x5_1 : Int) := of_decide_eq_true (by first | (with_reducible assumption) | assumption)
        have q9 : x5_1 < (a1.size : Int) := of_decide_eq_true (by first | (with_reducible assumption) | assumption)
        have hx9 := bt_at a1 x5_1
        replace p9 := eq_true p9
        replace q9 := eq_true q9
        go_wp2
        go_region
        go_wp2
        go_roundg k1
        case measure => have := HK1.out; omega
        case rel => exact ⟨(wrap64 (x5_1 + 1)), (by first | rfl | (simp; done) | (simp [*]; done)), H', ⟨by have := HK1.out; omega⟩, ⟨by repeat (first | (with_reducible first | exact HB.out | apply below_alloc | apply pw_below_drewN | apply below_drew1) | exact HB.out)⟩⟩
       ·rw [if_neg c10] at H
        have c10b0 : ((bt a0 x5_1) == (bt a1 x5_1)) = false := beq_eq_false_iff_ne.mpr c10
        have c10b1 : ((bt a0 x5_1) != (bt a1 x5_1)) = true := bne_iff_ne.mpr c10
        have c11b0 := eq_true (of_decide_eq_true (by first | (with_reducible assumption) | assumption) : 0 ≤ x5_1)
        by_cases c12 : x5_1 ≤ (a0.size : Int)
        ·rw [if_pos c12] at H
         have c12b0 := eq_true c12
         have c12b1 : decide (x5_1 ≤ (a0.size : Int)) = true := decide_eq_true c12
         clear c12
         obtain rfl := Option.some.inj H
         have p7 : 0 ≤ (x5_1 : Int) := of_decide_eq_true (by first | (with_reducible assumption) | assumption)
         have q7 : x5_1 < (a0.size : Int) := of_decide_eq_true (by first | (with_reducible assumption) | assumption)
         have hx7 := bt_at a0 x5_1
         replace p7 := eq_true p7
         replace q7 := eq_true q7
         have p9 : 0 ≤ (x5_1 : Int) := of_decide_eq_true (by first | (with_reducible assumption) | assumption)
         have q9 : x5_1 < (a1.size : Int) := of_decide_eq_true (by first | (with_reducible assumption) | assumption)
         have hx9 := bt_at a1 x5_1
         replace p9 := eq_true p9
         replace q9 := eq_true q9
         go_wp2
         go_region
         go_wp2
         go_ret
         exact ⟨by first | rfl | (simp [errW_none, errW_some] <;> rfl) | (simp only [← hji3]; first | rfl | (simp [errW_none, errW_some] <;> rfl)) | (simp [*, errW_none, errW_some] <;> rfl), by repeat (first | (with_reducible first | exact HB.out | apply below_alloc | apply pw_below_drewN | apply below_drew1) | exact HB.out)⟩
        ·rw [if_neg c12] at H
         exact absurd H (by simp)
      ·rw [if_neg c8] at H
       exact absurd H (by simp)
     ·rw [if_neg c6] at H
      exact absurd H (by simp)
    ·rw [if_neg c5] at H
     exact absurd H (by simp)
   ·rw [if_neg c4] at H
    have c4b0 : decide (x5_1 < (ji3)) = false := decide_eq_false c4
    clear c4
    by_cases c13 : 0 ≤ x5_1
    ·rw [if_pos c13] at H
     have c13b0 := eq_true c13
     have c13b1 : decide (0 ≤ x5_1) = true := decide_eq_true c13
     clear c13
     by_cases c14 : x5_1 ≤ (a0.size : Int)
     ·rw [if_pos c14] at H
      have c14b0 := eq_true c14
      have c14b1 : decide (x5_1 ≤ (a0.size : Int)) = true := decide_eq_true c14
      clear c14
      obtain rfl := Option.some.inj H
      go_wp2
      go_region
      go_wp2
      go_ret
      exact ⟨by first | rfl | (simp [errW_none, errW_some] <;> rfl) | (simp only [← hji3]; first | rfl | (simp [errW_none, errW_some] <;> rfl)) | (simp [*, errW_none, errW_some] <;> rfl), by repeat (first | (with_reducible first | exact HB.out | apply below_alloc | apply pw_below_drewN | apply below_drew1) | exact HB.out)⟩
     ·rw [if_neg c14] at H
      exact absurd H (by simp)
    ·rw [if_neg c13] at H
     exact absurd H (by simp)
end Go.Proofs.Ytkfebceainedfaa.P
namespace Go.Proofs.Ytkfebceainedfaa.P
open Go.RowKit Go.Proofs.YtkfebceainedfaaW.PrintWords Go.Proofs.YtkfebceainedfaaW.PrintLast Go.Proofs.YtkfebceainedfaaW.PrintMore
attribute [local go_sem] max2_int min2_int max_two min_two max_three min_three max_four min_four   -- for this text's walks alone
set_option linter.unusedVariables false
set_option linter.unusedSimpArgs false
def gap_ends.l0 : Nat → List Int → Int → Int → Int → Int → Option (Int × Int)
 | 0, _, _, _, _, _ => none
 | k + 1, x11, x12, x13, x363000, x363001 => if x13 < x12 then (if 0 ≤ x13 then (if x13 < (x11.length : Int) then (gap_ends.l0 k x11 x12 (wrap64 (x13 + 1)) (mn x363000 (rd x11 x13)) (mx x363001 (rd x11 x13))) else (none)) else (none)) else (some (x363000, x363001))
def gap_ends.f (k : Nat) (a0 : Int) (l1 : List Int) : Option (Int × Int) := gap_ends.l0 k l1 (l1.length : Int) 0 a0 a0
set_option maxHeartbeats 8000000 in
set_option maxRecDepth 100000 in
theorem gap_ends.calls (k : Nat) (a0 : Int) (A1 : Option Addr) (c1 : Nat) (l1 : List Int) (r1 : Int) (r2 : Int) (w : World) (hr1 : Kd.C (Kd.int .i64) w A1 l1.length l1) (hc1 : l1.length ≤ c1) (h : gap_ends.f k a0 l1 = some (r1, r2)) :
  Calls Try.prog 63 #[.int .i64 a0, .slice A1 l1.length c1] w fun e w' => e = .returned (.agg #[.int .i64 r1, .int .i64 r2]) ∧ Below w.heap.size w w' := by
 have hu47 := Try.underlying47
 have HR1 := Aside0.mk hr1
 have HC1 := Aside0.mk hc1
 clear hr1 hc1
 have HB := Aside0.mk (Below.refl w.heap.size w)
 have H : (gap_ends.l0 k l1 (l1.length : Int) 0 a0 a0) = some (r1, r2) := h
 clear h
 have H' := Aside0.mk H
 clear H
 go_enter Try.func63, Try.ntmps63
 go_wp2_with (first | ((with_reducible refine gate_dst (N := 4) rfl ?_); refine box_event ?hg (N := 4) ?hd (cs := #[.int .i64 0, .int .i64 0]) (t := 47) ?hr ?_; (case hd => rfl); (case hg => rfl); (case hr => first | (go_simp; done) | (go_simp; rfl)); intro gb361 hg w3 hbox hb; have n0_ := Aside0.mk (below_step (by repeat (first | (with_reducible first | exact HB.out | apply below_alloc | apply pw_below_drewN | apply below_drew1) | exact HB.out)) hb); have n1_ := Aside0.mk (hbox); have n2_ := Aside0.mk ((by rw [hg]; exact (below_size (by repeat (first | (with_reducible first | exact HB.out | apply below_alloc | apply pw_below_drewN | apply below_drew1) | exact HB.out))) : w.heap.size ≤ gb361)); have n3_ := Aside0.mk ((by rw [hg]; exact (below_size (by repeat (first | (with_reducible first | exact HB.out | apply below_alloc | apply pw_below_drewN | apply below_drew1) | exact HB.out))) : w.heap.size ≤ gb361)); clear HB; have HB := n0_; have BK361 := n1_; have GW361 := n2_; have GE361 := n3_; clear n0_ n1_ n2_ n3_; clear hb hbox hg) | ((with_reducible refine gate_dst (N := 5) rfl ?_); refine box_event ?hg (N := 5) ?hd (cs := #[.int .i64 0, .int .i64 0]) (t := 47) ?hr ?_; (case hd => rfl); (case hg => rfl); (case hr => first | (go_simp; done) | (go_simp; rfl)); intro gb362 hg w4 hbox hb; have n0_ := Aside0.mk (blk_below (g := gb361) (o := .cells #[.int .i64 0, .int .i64 0] 47 (0, 0)) (by (with_reducible repeat (first | refine blk_drewN ?_ _ | refine blk_drew ?_ | refine blk_alloc ?_ _)); exact BK361.out) hb); have n1_ := Aside0.mk (below_step (by repeat (first | (with_reducible first | exact HB.out | apply below_alloc | apply pw_below_drewN | apply below_drew1 | refine below_set ?_ GE361.out) | exact HB.out)) hb); have n2_ := Aside0.mk (hbox); have n3_ := Aside0.mk ((by rw [hg]; exact (below_size (by repeat (first | (with_reducible first | exact HB.out | apply below_alloc | apply pw_below_drewN | apply below_drew1 | refine below_set ?_ GE361.out) | exact HB.out))) : w.heap.size ≤ gb362)); have n4_ := Aside0.mk ((by rw [hg]; exact (below_size (by repeat (first | (with_reducible first | exact HB.out | apply below_alloc | apply pw_below_drewN | apply below_drew1 | refine below_set ?_ GE361.out) | exact HB.out))) : w.heap.size ≤ gb362)); have n5_ := Aside0.mk ((by rw [hg]; exact Nat.ne_of_lt (blk_lt (g := gb361) (o := .cells #[.int .i64 0, .int .i64 0] 47 (0, 0)) (by (with_reducible repeat (first | refine blk_drewN ?_ _ | refine blk_drew ?_ | refine blk_alloc ?_ _)); exact BK361.out)) : gb361 ≠ gb362)); have n6_ := Aside0.mk ((by rw [hg]; exact Nat.ne_of_gt (blk_lt (g := gb361) (o := .cells #[.int .i64 0, .int .i64 0] 47 (0, 0)) (by (with_reducible repeat (first | refine blk_drewN ?_ _ | refine blk_drew ?_ | refine blk_alloc ?_ _)); exact BK361.out)) : gb362 ≠ gb361)); clear BK361; clear HB; have BK361 := n0_; have HB := n1_; have BK362 := n2_; have GW362 := n3_; have GE362 := n4_; have NB361_362 := n5_; have NB362_361 := n6_; clear n0_ n1_ n2_ n3_ n4_ n5_ n6_; clear hb hbox hg; have hnb5 := NB362_361.out; have hnc5 := NB361_362.out; have hcz6_0 : w4.cell? ⟨gb362, 0, none⟩ = some (.int .i64 0) := (blk_cell BK362.out 0).trans rfl; have hcz6_1 : w4.cell? ⟨gb362, 1, none⟩ = some (.int .i64 0) := (blk_cell BK362.out 1).trans rfl; have hfz6_0 := blk_frozen BK362.out 0; have hfz6_1 := blk_frozen BK362.out 1))
 go_loopg [13] k (fun kq v13 w' => ∃ (x13_1 : Int) (x363000_1 : Int) (x363001_1 : Int), v13 = .int .i64 x13_1 ∧ Aside0 (gap_ends.l0 kq l1 (l1.length : Int) x13_1 x363000_1 x363001_1 = some (r1, r2)) ∧ Aside0 (kq ≤ k) ∧ Aside0 (w'.heap[gb361]? = some (.cells #[.int .i64 0, .int .i64 0] 47 (0, 0))) ∧ Aside0 (w'.heap[gb362]? = some (.cells #[.int .i64 x363000_1, .int .i64 x363001_1] 47 (0, 0))) ∧ Aside0 (Below w.heap.size w w'))
 case atStart => exact ⟨(0), (a0), (a0), (by first | rfl | (simp; done) | (simp [*]; done)), H', ⟨Nat.le_refl _⟩, ⟨by (with_reducible repeat (first | refine blk_drewN ?_ _ | refine blk_drew ?_ | refine blk_alloc ?_ _)); refine blk_far ?_ NB361_362.out _; (with_reducible repeat (first | refine blk_drewN ?_ _ | refine blk_drew ?_ | refine blk_alloc ?_ _)); refine blk_far ?_ NB361_362.out _; (with_reducible repeat (first | refine blk_drewN ?_ _ | refine blk_drew ?_ | refine blk_alloc ?_ _)); exact BK361.out⟩, ⟨by (with_reducible repeat (first | refine blk_drewN ?_ _ | refine blk_drew ?_ | refine blk_alloc ?_ _)); refine blk_put (cs := #[.int .i64 a0, .int .i64 0]) ?_ 1 _ rfl; (with_reducible repeat (first | refine blk_drewN ?_ _ | refine blk_drew ?_ | refine blk_alloc ?_ _)); refine blk_put (cs := #[.int .i64 0, .int .i64 0]) ?_ 0 _ rfl; (with_reducible repeat (first | refine blk_drewN ?_ _ | refine blk_drew ?_ | refine blk_alloc ?_ _)); exact BK362.out⟩, ⟨by repeat (first | (with_reducible first | exact HB.out | apply below_alloc | apply pw_below_drewN | apply below_drew1 | refine below_set ?_ GE361.out | refine below_set ?_ GE362.out) | exact HB.out)⟩⟩
 case round =>
  clear H'
  try clear c1
  try clear p2
  try clear c5
  try clear c6
  try clear hcz6_0
  try clear hcz6_1
  try clear hfz6_0
  try clear hfz6_1
  obtain ⟨x13_1, x363000_1, x363001_1, rfl, HA, HK1, BK361, BK362, HB⟩ := hrel
  cases gk with
  | zero => exact absurd HA.out (by simp [gap_ends.l0])
  | succ k1 =>
   have H := HA.out
   clear HA
   simp only [gap_ends.l0] at H
   by_cases c7 : x13_1 < (l1.length : Int)
   ·rw [if_pos c7] at H
    have c7b0 : decide (x13_1 < (l1.length : Int)) = true := decide_eq_true c7
    clear c7
    by_cases c8 : 0 ≤ x13_1
    ·rw [if_pos c8] at H
     have c8b0 : decide (0 ≤ x13_1) = true := decide_eq_true c8
     clear c8
     by_cases c9 : x13_1 < (l1.length : Int)
     ·rw [if_pos c9] at H
      have c9b0 : decide (x13_1 < (l1.length : Int)) = true := decide_eq_true c9
      clear c9
      obtain ⟨ji10, hji10⟩ : ∃ j_ : Int, (mn x363000_1 (rd l1 x13_1)) = j_ := ⟨_, rfl⟩
      replace H : (gap_ends.l0 k1 l1 (l1.length : Int) (wrap64 (x13_1 + 1)) ji10 (mx x363001_1 (rd l1 x13_1))) = some (r1, r2) := by first | (rw [hji10] at H; exact H) | (simp only [hji10] at H ⊢; exact H)
      have hji10_ : (if (rd l1 x13_1) < x363000_1 then (rd l1 x13_1) else x363000_1) = ji10 := hji10
      obtain ⟨ji11, hji11⟩ : ∃ j_ : Int, (mx x363001_1 (rd l1 x13_1)) = j_ := ⟨_, rfl⟩
      replace H : (gap_ends.l0 k1 l1 (l1.length : Int) (wrap64 (x13_1 + 1)) ji10 ji11) = some (r1, r2) := by first | (rw [hji11] at H; exact H) | (simp only [hji11] at H ⊢; exact H)
      have hji11_ : (if x363001_1 < (rd l1 x13_1) then (rd l1 x13_1) else x363001_1) = ji11 := hji11
      have H' := Aside0.mk H
      clear H
      have p363 : 0 ≤ (x13_1 : Int) := of_decide_eq_true (by first | (with_reducible assumption) | assumption)
      have q363 : x13_1 < (l1.length : Int) := of_decide_eq_true (by first | (with_reducible assumption) | assumption)
      obtain ⟨ad363, e363, hx363_0⟩ := Kd.at_int HR1.out x13_1 p363 q363
      cases e363
      try replace hx363_0 := (HB.out.cell (World.block_lt_of_cell? w _ hx363_0)).trans hx363_0
      replace p363 := eq_true p363
      replace q363 := eq_true q363
      have hnb12 := NB362_361.out
      have hnc12 := NB361_362.out
      have hcz13_0 : wr.cell? ⟨gb362, 0, none⟩ = some (.int .i64 x363000_1) := (blk_cell BK362.out 0).trans rfl
      have hcz13_1 : wr.cell? ⟨gb362, 1, none⟩ = some (.int .i64 x363001_1) := (blk_cell BK362.out 1).trans rfl
      have hfz13_0 := blk_frozen BK362.out 0
      have hfz13_1 := blk_frozen BK362.out 1
      go_wp2
      go_roundg k1
      case measure => have := HK1.out; omega
      case rel => exact ⟨(wrap64 (x13_1 + 1)), (ji10), (ji11), (by first | rfl | (simp; done) | (simp [*]; done)), H', ⟨by have := HK1.out; omega⟩, ⟨by (with_reducible repeat (first | refine blk_drewN ?_ _ | refine blk_drew ?_ | refine blk_alloc ?_ _)); refine blk_far ?_ NB361_362.out _; (with_reducible repeat (first | refine blk_drewN ?_ _ | refine blk_drew ?_ | refine blk_alloc ?_ _)); refine blk_far ?_ NB361_362.out _; (with_reducible repeat (first | refine blk_drewN ?_ _ | refine blk_drew ?_ | refine blk_alloc ?_ _)); exact BK361.out⟩, ⟨by (with_reducible repeat (first | refine blk_drewN ?_ _ | refine blk_drew ?_ | refine blk_alloc ?_ _)); refine blk_put (cs := #[.int .i64 ji10, .int .i64 x363001_1]) ?_ 1 _ rfl; (with_reducible repeat (first | refine blk_drewN ?_ _ | refine blk_drew ?_ | refine blk_alloc ?_ _)); refine blk_put (cs := #[.int .i64 x363000_1, .int .i64 x363001_1]) ?_ 0 _ rfl; (with_reducible repeat (first | refine blk_drewN ?_ _ | refine blk_drew ?_ | refine blk_alloc ?_ _)); exact BK362.out⟩, ⟨by repeat (first | (with_reducible first | exact HB.out | apply below_alloc | apply pw_below_drewN | apply below_drew1 | refine below_set ?_ GE361.out | refine below_set ?_ GE362.out) | exact HB.out)⟩⟩
     ·rw [if_neg c9] at H
      exact absurd H (by simp)
    ·rw [if_neg c8] at H
     exact absurd H (by simp)
   ·rw [if_neg c7] at H
    have c7b0 : decide (x13_1 < (l1.length : Int)) = false := decide_eq_false c7
    clear c7
    simp only [Option.some.injEq, Prod.mk.injEq] at H
    obtain ⟨rfl, rfl⟩ := H
    have hnb14 := NB362_361.out
    have hnc14 := NB361_362.out
    have hcz15_0 : wr.cell? ⟨gb362, 0, none⟩ = some (.int .i64 x363000_1) := (blk_cell BK362.out 0).trans rfl
    have hcz15_1 : wr.cell? ⟨gb362, 1, none⟩ = some (.int .i64 x363001_1) := (blk_cell BK362.out 1).trans rfl
    have hfz15_0 := blk_frozen BK362.out 0
    have hfz15_1 := blk_frozen BK362.out 1
    have hcz16_0 : wr.cell? ⟨gb361, 0, none⟩ = some (.int .i64 0) := (blk_cell BK361.out 0).trans rfl
    have hcz16_1 : wr.cell? ⟨gb361, 1, none⟩ = some (.int .i64 0) := (blk_cell BK361.out 1).trans rfl
    have hfz16_0 := blk_frozen BK361.out 0
    have hfz16_1 := blk_frozen BK361.out 1
    go_wp2
    refine bodyPost_ret (results_cell_row rfl _ _ gb361 47 #[.int .i64 x363000_1, .int .i64 x363001_1] (0, 0) _ rfl (by (with_reducible repeat (first | refine blk_drewN ?_ _ | refine blk_drew ?_ | refine blk_alloc ?_ _)); refine blk_put (cs := #[.int .i64 x363000_1, .int .i64 0]) ?_ 1 _ rfl; (with_reducible repeat (first | refine blk_drewN ?_ _ | refine blk_drew ?_ | refine blk_alloc ?_ _)); refine blk_put (cs := #[.int .i64 0, .int .i64 0]) ?_ 0 _ rfl; (with_reducible repeat (first | refine blk_drewN ?_ _ | refine blk_drew ?_ | refine blk_alloc ?_ _)); exact BK361.out) Try.underlying47 rfl (by kernel_rfl)) rfl ?_
    exact ⟨by first | rfl | (simp [errW_none, errW_some] <;> rfl) | (simp [*, errW_none, errW_some] <;> rfl), by repeat (first | (with_reducible first | exact HB.out | apply below_alloc | apply pw_below_drewN | apply below_drew1 | refine below_set ?_ GE361.out | refine below_set ?_ GE362.out) | exact HB.out)⟩
end Go.Proofs.Ytkfebceainedfaa.P
namespace Go.Proofs.Ytkfebceainedfaa.P.OwnGap
open Go.RowKit Go.Proofs.YtkfebceainedfaaW.PrintWords Go.Proofs.YtkfebceainedfaaW.PrintLast Go.Proofs.YtkfebceainedfaaW.PrintMore
open Go.Proofs.Ytkfebceainedfaa.OwnGap
set_option linter.unusedVariables false
set_option linter.unusedSimpArgs false
def ByteRow (g : Nat) (xs : List Int) (W : World) : Prop := ∃ (tail : List Value) (m : Nat), W.heap[g]? = some (.cells (xs.map (Value.int .u8) ++ tail).toArray 5 (m, m + 1)) ∧ xs.length ≤ m
theorem ByteRow.cell {g : Nat} {xs : List Int} {W : World} (h : ByteRow g xs W) (j : Nat) (hj : j < xs.length) : W.cell? ⟨g, j, none⟩ = some (.int .u8 (xs.getD j 0)) := by
 obtain ⟨tail, m, h, _⟩ := h
 simp only [World.cell?, h]
 simp [List.getElem?_append, hj, List.getD_eq_getElem?_getD, List.getElem?_eq_getElem hj]
theorem ByteRow.frozen {g : Nat} {xs : List Int} {W : World} (h : ByteRow g xs W) (j : Nat) (hj : j < xs.length) : W.frozen? ⟨g, j, none⟩ = false := by
 obtain ⟨tail, m, h, hm⟩ := h
 simp only [World.frozen?, h]
 simp
 omega
theorem ByteRow.lt {g : Nat} {xs : List Int} {W : World} (h : ByteRow g xs W) : g < W.heap.size := by
 obtain ⟨tail, m, h, hm⟩ := h
 exact blk_lt h
theorem ByteRow.drew {g : Nat} {xs : List Int} {W : World} (h : ByteRow g xs W) : ByteRow g xs W.drew := h
theorem ByteRow.set {g : Nat} {xs : List Int} {W : World} (h : ByteRow g xs W) (j : Nat) (hj : j < xs.length) (v : Int) : ByteRow g (xs.set j v) (W.setCell ⟨g, j, none⟩ (.int .u8 v)) := by
 obtain ⟨tail, m, h, hm⟩ := h
 refine ⟨tail, m, ?_, by rw [List.length_set]; exact hm⟩
 have e : (W.setCell ⟨g, j, none⟩ (.int .u8 v)).heap[g]? = some (.cells ((xs.map (Value.int .u8) ++ tail).toArray.setIfInBounds j (.int .u8 v)) 5 (m, m + 1)) := by
  simp [World.setCell, Array.getElem?_modify, h]
 rw [e]
 congr 2
 rw [List.setIfInBounds_toArray, List.set_append_left _ _ (by simpa using hj), List.map_set]
theorem byteRow_new (w : World) (s : ByteArray) : ByteRow w.heap.size (bytesOf s) (Lib.bytesWorld w 5 s) := by
 refine ⟨Array.toList (Array.replicate (grownCap w s.size 0 5 - s.size) (Value.int .u8 0)), (Lib.bytesCells w 5 s).size, ?_, ?_⟩
 ·rw [Lib.bytesWorld_at_new]
  congr 2
  apply Array.ext'
  simp [Lib.bytesCells, bytesOf]
 ·rw [bytesOf_length]
  simp [Lib.bytesCells]
def swF (xs : List Int) : Nat → List Int
 | 0 => xs
 | j + 1 => ((swF xs j).set j ((swF xs j).getD (xs.length - 1 - j) 0)).set (xs.length - 1 - j) ((swF xs j).getD j 0)
theorem swF_len (xs : List Int) : ∀ j, (swF xs j).length = xs.length
 | 0 => rfl
 | j + 1 => by rw [swF, List.length_set, List.length_set, swF_len xs j]
theorem swF_get (xs : List Int) : ∀ (j : Nat), 2 * j ≤ xs.length → ∀ q, q < xs.length → (swF xs j).getD q 0 = if q < j ∨ xs.length - j ≤ q then xs.getD (xs.length - 1 - q) 0 else xs.getD q 0
 | 0, _, q, hq => by rw [if_neg (by omega)]; rfl
 | j + 1, hj, q, hq => by
  have ih := swF_get xs j (by omega)
  have hl := swF_len xs j
  rw [swF, List.getD_eq_getElem?_getD, List.getElem?_set, List.length_set, hl]
  by_cases h1 : xs.length - 1 - j = q
  ·rw [if_pos h1, if_pos (by omega), Option.getD_some, ih j (by omega), if_neg (by omega), if_pos (by omega)]
   congr 1
   omega
  ·rw [if_neg h1, List.getElem?_set, hl]
   by_cases h2 : j = q
   ·rw [if_pos h2, if_pos (by omega), Option.getD_some, ih _ (by omega), if_neg (by omega), if_pos (by omega)]
    congr 1
    omega
   ·rw [if_neg h2, ← List.getD_eq_getElem?_getD, ih q hq]
    by_cases h3 : q < j ∨ xs.length - j ≤ q
    ·rw [if_pos h3, if_pos (by omega)]
    ·rw [if_neg h3, if_neg (by omega)]
theorem swF_rev (xs : List Int) (j : Nat) (h1 : 2 * j ≤ xs.length) (h2 : xs.length ≤ 2 * j + 1) : swF xs j = xs.reverse := by
 apply List.ext_getElem
 ·rw [swF_len, List.length_reverse]
 ·intro q hq hq'
  have hq2 : q < xs.length := by rw [swF_len] at hq; exact hq
  have h := swF_get xs j h1 q hq2
  rw [List.getD_eq_getElem?_getD, List.getElem?_eq_getElem hq, Option.getD_some] at h
  rw [h, List.getElem_reverse]
  by_cases h3 : q < j ∨ xs.length - j ≤ q
  ·rw [if_pos h3, List.getD_eq_getElem?_getD, List.getElem?_eq_getElem (by omega), Option.getD_some]
  ·rw [if_neg h3, List.getD_eq_getElem?_getD, List.getElem?_eq_getElem hq2, Option.getD_some]
   congr 1
   omega
set_option maxHeartbeats 2000000 in
set_option maxRecDepth 100000 in
theorem reverse_calls (g cap : Nat) (xs : List Int) (w : World) (hb : ByteRow g xs w) (hn : xs.length ≤ 1000000) :
  Calls Try.prog 83 #[.slice (some ⟨g, 0, none⟩) xs.length cap] w fun e w' => e = .returned (.tuple #[]) ∧ ByteRow g xs.reverse w' ∧ Below g w w' := by
 have HB := Aside0.mk hb
 have HN := Aside0.mk hn
 obtain ⟨n, hnn⟩ : ∃ n, n = xs.length := ⟨_, rfl⟩
 rw [← hnn] at hn ⊢
 have HNN := Aside0.mk hnn
 clear hb hnn
 go_enter Try.func83, Try.ntmps83
 go_wp2
 go_loopg [2, 3] n (fun k s2 s3 wr => ∃ j : Nat, j + k = n ∧ s2 = .int .i64 (j : Int) ∧ s3 = .int .i64 ((n : Int) - 1 - (j : Int)) ∧ 2 * j ≤ n ∧ Aside0 (ByteRow g (swF xs j) wr) ∧ Aside0 (Below g w wr))
 case atStart => exact ⟨0, by omega, rfl, by first | rfl | (simp; done), by omega, HB, ⟨Below.refl _ _⟩⟩
 case round =>
  obtain ⟨j, hj, rfl, rfl, h2j, HR, HW⟩ := hrel
  have HJN := Aside0.mk hj
  have H2J := Aside0.mk h2j
  clear hj HB
  obtain ⟨ys, hys⟩ : ∃ ys, ys = swF xs j := ⟨_, rfl⟩
  have HYL := Aside0.mk (show ys.length = n by rw [hys, swF_len, HNN.out])
  by_cases hlt : 2 * j + 1 < n
  ·obtain ⟨q, hq⟩ : ∃ q : Nat, q = n - 1 - j := ⟨_, rfl⟩
   rw [show (n : Int) - 1 - (j : Int) = (q : Int) by omega]
   have HSW := Aside0.mk (show (ys.set j (ys.getD q 0)).set q (ys.getD j 0) = swF xs (j + 1) by rw [swF, ← hys, hq, HNN.out])
   have HSW2 := Aside0.mk (show (ys.set q (ys.getD j 0)).set j (ys.getD q 0) = swF xs (j + 1) by rw [← HSW.out, List.set_comm _ _ (by omega)])
   rw [← hys] at HR
   have hjn : (j : Int) < (n : Int) := by omega
   have hqn : (q : Int) < (n : Int) := by omega
   have hjd : decide (j < n) = true := decide_eq_true (by omega)
   have hqd : decide (q < n) = true := decide_eq_true (by omega)
   have hjq : (j : Int) < (q : Int) := by omega
   have hjqd : decide (j < q) = true := decide_eq_true (by omega)
   have hjl : j < ys.length := by rw [HYL.out]; omega
   have hql : q < ys.length := by rw [HYL.out]; omega
   have x0 : wr.cell? ⟨g, j, none⟩ = some (.int .u8 (ys.getD j 0)) := HR.out.cell j hjl
   have x1 : wr.cell? ⟨g, q, none⟩ = some (.int .u8 (ys.getD q 0)) := HR.out.cell q hql
   have f0 := HR.out.frozen j hjl
   have f1 := HR.out.frozen q hql
   have hgl := HR.out.lt
   have HLT := Aside0.mk hlt
   have HQ := Aside0.mk hq
   have hne : (⟨g, j, none⟩ : Addr) ≠ ⟨g, q, none⟩ := by intro e; injection e with _ e; omega
   obtain ⟨a, ha⟩ : ∃ a, a = ys.getD j 0 := ⟨_, rfl⟩
   obtain ⟨b, hb⟩ : ∃ b, b = ys.getD q 0 := ⟨_, rfl⟩
   have HJ1 := Aside0.mk (show ByteRow g (swF xs (j + 1)) ((wr.drew.setCell ⟨g, j, none⟩ (.int .u8 b)).setCell ⟨g, q, none⟩ (.int .u8 a)) by rw [← HSW.out, ha, hb]; exact (HR.out.drew.set j hjl _).set q (by rw [List.length_set]; exact hql) _)
   have HJ2 := Aside0.mk (show ByteRow g (swF xs (j + 1)) ((wr.drew.setCell ⟨g, q, none⟩ (.int .u8 a)).setCell ⟨g, j, none⟩ (.int .u8 b)) by rw [← HSW2.out, ha, hb]; exact (HR.out.drew.set q hql _).set j (by rw [List.length_set]; exact hjl) _)
   have HW1 := Aside0.mk (show Below g w ((wr.drew.setCell ⟨g, j, none⟩ (.int .u8 b)).setCell ⟨g, q, none⟩ (.int .u8 a)) from (HW.out.drew.setCell (Nat.le_refl g) _).setCell (Nat.le_refl g) _)
   have HW2 := Aside0.mk (show Below g w ((wr.drew.setCell ⟨g, q, none⟩ (.int .u8 a)).setCell ⟨g, j, none⟩ (.int .u8 b)) from (HW.out.drew.setCell (Nat.le_refl g) _).setCell (Nat.le_refl g) _)
   rw [← ha] at x0
   rw [← hb] at x1
   clear ha hb hys hlt hq
   go_wp2
   go_region
   go_wp2
   go_roundg (gk - 1)
   case measure => have := HJN.out; have := HLT.out; omega
   case rel => exact ⟨j + 1, by have := HJN.out; have := HLT.out; omega, by go_num, by congr 1; have := HQ.out; omega, by have := HLT.out; omega, HJ1, HW1⟩
  ·have hjq : ¬ (j : Int) < (n : Int) - 1 - (j : Int) := by omega
   have HE := Aside0.mk (show ByteRow g xs.reverse wr by rw [← swF_rev xs j (by rw [← HNN.out]; exact h2j) (by rw [← HNN.out]; omega)]; exact HR.out)
   go_wp2
   go_end0
   exact ⟨rfl, HE.out, HW.out⟩
def turnV (s : ByteArray) : ByteArray := strOfNums (bytesOf s).reverse
set_option maxHeartbeats 2000000 in
set_option maxRecDepth 100000 in
theorem turned_calls (s : ByteArray) (w : World) (hs : s.size ≤ 1000000) : Calls Try.prog 61 #[.string s] w fun e w' => e = .returned (.string (turnV s)) ∧ Below w.heap.size w w' := by
 have HS := Aside0.mk hs
 have HR0 := Aside0.mk (show ByteRow w.heap.size (bytesOf s) (Lib.bytesWorld w 5 s) from byteRow_new w s)
 have HB0 := Aside0.mk (bytes_below (Below.refl w.heap.size w) (Nat.le_refl _) 5 s)
 have hcv := Lib.run_convert_string_bytes (P := Try.prog) w 9 67 5 s Try.underlying9 Try.underlying67 Try.underlying5
 clear hs
 go_enter Try.func61, Try.ntmps61
 have HRV := Aside0.mk (fun cap => show Calls Try.prog 83 #[.slice (some ⟨w.heap.size, 0, none⟩) s.size cap] (Lib.bytesWorld w 5 s) fun e w' => e = .returned (.tuple #[]) ∧ ByteRow w.heap.size (bytesOf s).reverse w' ∧ Below w.heap.size (Lib.bytesWorld w 5 s) w' by
  have h := reverse_calls w.heap.size cap (bytesOf s) (Lib.bytesWorld w 5 s) HR0.out (by rw [bytesOf_length]; exact HS.out)
  rw [bytesOf_length] at h
  exact h)
 go_wp2_with first | (go_at_call 83; refine (HRV.out _).mono ?_; rintro e w2 ⟨rfl, hr2, hb2⟩; have hcv2 := run_convert_bytes_arg (P := Try.prog) (w := w2) 67 5 Try.underlying67 Try.underlying5 w.heap.size 0 s.size (grownCap w s.size 0 5) (bytesOf s).reverse (by rw [List.length_reverse, bytesOf_length]) (fun i hi => by rw [Nat.zero_add]; exact hr2.cell i (by rw [List.length_reverse, bytesOf_length]; exact hi)) 9 Try.underlying9; have HB2 := Aside0.mk (HB0.out.trans hb2); clear hr2 hb2) | fail
 go_ret
 exact ⟨rfl, HB2.out⟩
end Go.Proofs.Ytkfebceainedfaa.P.OwnGap
namespace Go.Proofs.Ytkfebceainedfaa.P.OwnGap
open Go.RowKit Go.Shelf Go.Proofs.YtkfebceainedfaaW.PrintWords Go.Proofs.YtkfebceainedfaaW.PrintLast Go.Proofs.YtkfebceainedfaaW.PrintMore
open Go.Proofs.Ytkfebceainedfaa.OwnGap
set_option linter.unusedVariables false
set_option linter.unusedSimpArgs false
def cplI : List Int → List Int → Nat
 | x :: xs, y :: ys => if x = y then cplI xs ys + 1 else 0
 | [], _ => 0
 | _ :: _, [] => 0
def comV (a b : ByteArray) : ByteArray := a.extract 0 (cplI (bytesOf a) (bytesOf b))
theorem drop_bytes {T : ByteArray} {k : Nat} (h : k < T.size) : (bytesOf T).drop k = bt T (k : Int) :: (bytesOf T).drop (k + 1) := by
 have hl : k < (bytesOf T).length := by rw [bytesOf_length]; exact h
 rw [List.drop_eq_getElem_cons hl, ← rd_bytesOf]
 simp [rd, List.getD_eq_getElem?_getD, List.getElem?_eq_getElem hl]
theorem common_l0 (a b : ByteArray) (ha : a.size < 4611686018427387903) : ∀ (rem i : Nat), i + rem = min a.size b.size → Ev (fun k => gap_common.l0 k a b (i : Int)) (a.extract 0 (i + cplI ((bytesOf a).drop i) ((bytesOf b).drop i)))
 | 0, i, hi => by
  have e : cplI ((bytesOf a).drop i) ((bytesOf b).drop i) = 0 := by
   by_cases h : i < a.size
   ·have h2 : (bytesOf b).drop i = [] := List.drop_eq_nil_of_le (by rw [bytesOf_length]; omega)
    rw [h2, drop_bytes h, cplI]
   ·have h2 : (bytesOf a).drop i = [] := List.drop_eq_nil_of_le (by rw [bytesOf_length]; omega)
    rw [h2, cplI]
  rw [e]
  refine Ev.step (fun k => by rw [gap_common.l0]) ?_
  have hn : ¬ (i : Int) < mn (a.size : Int) (b.size : Int) := by unfold mn; split <;> omega
  refine Ev.if_neg' hn (Ev.if_pos' (by omega) (Ev.if_pos' (by omega) ?_))
  rw [Int.toNat_natCast, Nat.add_zero]
  exact Ev.now _
 | rem + 1, i, hi => by
  refine Ev.step (fun k => by rw [gap_common.l0]) ?_
  have hn : (i : Int) < mn (a.size : Int) (b.size : Int) := by unfold mn; split <;> omega
  refine Ev.if_pos' hn (Ev.if_pos' (by omega) (Ev.if_pos' (by omega) (Ev.if_pos' (by omega) ?_)))
  rw [drop_bytes (show i < a.size by omega), drop_bytes (show i < b.size by omega), cplI]
  by_cases hb : bt a (i : Int) = bt b (i : Int)
  ·rw [if_pos hb]
   refine Ev.if_pos' hb ?_
   rw [wrap_nat (show i < a.size by omega) ha, show i + (cplI ((bytesOf a).drop (i + 1)) ((bytesOf b).drop (i + 1)) + 1) = i + 1 + cplI ((bytesOf a).drop (i + 1)) ((bytesOf b).drop (i + 1)) by omega]
   exact common_l0 a b ha rem (i + 1) (by omega)
  ·rw [if_neg hb]
   refine Ev.if_neg' hb (Ev.if_pos' (by omega) ?_)
   rw [Int.toNat_natCast, Nat.add_zero]
   exact Ev.now _
theorem common_ev (a b : ByteArray) (ha : a.size < 4611686018427387903) : Ev (fun k => gap_common.f k a b) (comV a b) := by
 unfold gap_common.f comV
 have h := common_l0 a b ha (min a.size b.size) 0 (by omega)
 simpa using h
theorem common_calls (a b : ByteArray) (ha : a.size < 4611686018427387903) (w : World) : Calls Try.prog 62 #[.string a, .string b] w fun e w' => e = .returned (.string (comV a b)) ∧ Below w.heap.size w w' := by
 obtain ⟨k, hk⟩ := (common_ev a b ha).rounds
 exact gap_common.calls k a b _ w hk
def endsV (s : Int × Int) (l : List Int) : Int × Int := l.foldl (fun s n => (mn s.1 n, mx s.2 n)) s
theorem ends_l0 (l : List Int) (hl : l.length < 4611686018427387903) : ∀ (rem i : Nat) (s : Int × Int), i + rem = l.length → Ev (fun k => gap_ends.l0 k l (l.length : Int) (i : Int) s.1 s.2) (endsV s (l.drop i))
 | 0, i, s, hi => by
  refine Ev.step (fun k => by rw [gap_ends.l0]) ?_
  refine Ev.if_neg' (by omega) ?_
  rw [List.drop_eq_nil_of_le (by omega)]
  exact Ev.now _
 | rem + 1, i, s, hi => by
  refine Ev.step (fun k => by rw [gap_ends.l0]) ?_
  have hlt : i < l.length := by omega
  refine Ev.if_pos' (by omega) (Ev.if_pos' (by omega) (Ev.if_pos' (by omega) ?_))
  rw [wrap_nat hlt hl, List.drop_eq_getElem_cons hlt, show rd l (i : Int) = l[i] by simp [rd, List.getD_eq_getElem?_getD, List.getElem?_eq_getElem hlt]]
  exact ends_l0 l hl rem (i + 1) (mn s.1 l[i], mx s.2 l[i]) (by omega)
theorem ends_calls (a : Int) (A : Option Addr) (c : Nat) (l : List Int) (w : World) (hr : Kd.C (Kd.int .i64) w A l.length l) (hc : l.length ≤ c) (hl : l.length < 4611686018427387903) :
  Calls Try.prog 63 #[.int .i64 a, .slice A l.length c] w fun e w' => e = .returned (.agg #[.int .i64 (endsV (a, a) l).1, .int .i64 (endsV (a, a) l).2]) ∧ Below w.heap.size w w' := by
 have h := ends_l0 l hl l.length 0 (a, a) (by omega)
 rw [List.drop_zero] at h
 obtain ⟨k, hk⟩ := h.rounds
 exact gap_ends.calls k a A c l _ _ w hr hc hk
def pcsV (X : Lx) (i : Nat) (all : List S31) : List ByteArray := all.map fun f => rdOf ByteArray.empty (partsF X.r f.f1 (wordsV X f.f0)) (i : Int)
def metV (ps : List ByteArray) : Nat := ps.foldl (fun n p => n ||| 2 ^ (bt p 0 - 65).toNat) 0
def headV (ps : List ByteArray) : ByteArray := ps.foldl comV (ps.headD ByteArray.empty)
def tailV (ps : List ByteArray) : ByteArray := (ps.map turnV).foldl comV (turnV (ps.headD ByteArray.empty))
def manyV (ps : List ByteArray) : List Int := ps.map fun p => (p.size : Int)
def spanOf (s : Int × Int) : S47 := ⟨s.1, s.2⟩
def comC (g : Bool) (ps : List ByteArray) : S60 :=
 if g = true then ⟨⟨#[]⟩, headV ps, turnV (tailV ps), spanOf (endsV ((manyV ps).headD 0, (manyV ps).headD 0) (manyV ps))⟩ else ⟨textV (metV ps), ⟨#[]⟩, ⟨#[]⟩, z47⟩
def comF (X : Lx) (all : List S31) (i : Nat) : S60 := comC (rd_T49 X.r (i : Int)).f1 (pcsV X i all)
theorem comV_size (a b : ByteArray) : (comV a b).size ≤ a.size := by
 unfold comV
 rw [ByteArray.size_extract]
 omega
theorem turnV_size (s : ByteArray) : (turnV s).size = s.size := by
 unfold turnV
 rw [show (strOfNums (bytesOf s).reverse).size = (bytesOf s).reverse.length by simp [strOfNums, ByteArray.size], List.length_reverse, bytesOf_length]
theorem foldl_snoc {α β : Type} (f : β → α → β) (b : β) (l : List α) (a : α) : (l ++ [a]).foldl f b = f (l.foldl f b) a := by rw [List.foldl_append]; rfl
end Go.Proofs.Ytkfebceainedfaa.P.OwnGap
namespace Go.Proofs.Ytkfebceainedfaa.P.OwnGap
open Go.RowKit Go.Maps Go.Proofs.YtkfebceainedfaaW.PrintWords Go.Proofs.YtkfebceainedfaaW.PrintLast Go.Proofs.YtkfebceainedfaaW.PrintMore
open Go.Proofs.Ytkfebceainedfaa.OwnGap
set_option linter.unusedVariables false
set_option linter.unusedSimpArgs false
def reachF (R : Rw) : Nat → Pth → Nat
 | 0, p => p.i
 | n + 1, p => if shutB R p = true then reachF R n (shutP R p) else p.i
def reachI (R : Rw) (p : Pth) : Nat := reachF R (R.n - p.i) p
theorem reachI_step (R : Rw) (p : Pth) : reachI R p = if shutB R p = true then reachI R (shutP R p) else p.i := by
 unfold reachI
 by_cases h : shutB R p = true
 ·rw [if_pos h]
  have hs : shutP R p = ⟨p.i + 1, 0, 0, 0, p.fs ++ [(p.m : Int)]⟩ := if_pos h
  have hl : p.i < R.n := by
   unfold shutB at h
   simp only [Bool.and_eq_true, decide_eq_true_eq] at h
   exact h.1
  rw [show R.n - p.i = (R.n - (p.i + 1)) + 1 by omega, reachF, if_pos h, hs]
 ·rw [if_neg h]
  cases R.n - p.i with
  | zero => rfl
  | succ n => rw [reachF, if_neg h]
theorem reachF_ge (R : Rw) : ∀ (n : Nat) (p : Pth), p.i ≤ reachF R n p
 | 0, p => Nat.le_refl _
 | n + 1, p => by
  rw [reachF]
  by_cases h : shutB R p = true
  ·rw [if_pos h]
   have h1 := reachF_ge R n (shutP R p)
   have hs : shutP R p = ⟨p.i + 1, 0, 0, 0, p.fs ++ [(p.m : Int)]⟩ := if_pos h
   rw [hs] at h1 ⊢
   have h2 : (⟨p.i + 1, 0, 0, 0, p.fs ++ [(p.m : Int)]⟩ : Pth).i = p.i + 1 := rfl
   omega
  ·rw [if_neg h]
   exact Nat.le_refl _
theorem reachI_ge (R : Rw) (p : Pth) : p.i ≤ reachI R p := reachF_ge R _ p
theorem reachF_le (R : Rw) : ∀ (n : Nat) (p : Pth), p.i + n ≤ R.n → reachF R n p ≤ R.n
 | 0, p, h => by rw [reachF]; omega
 | n + 1, p, h => by
  rw [reachF]
  by_cases hb : shutB R p = true
  ·rw [if_pos hb]
   have hs : shutP R p = ⟨p.i + 1, 0, 0, 0, p.fs ++ [(p.m : Int)]⟩ := if_pos hb
   exact reachF_le R n _ (by rw [hs]; show p.i + 1 + n ≤ R.n; omega)
  ·rw [if_neg hb]
   omega
theorem reachI_le (R : Rw) (p : Pth) (h : p.i ≤ R.n) : reachI R p ≤ R.n := reachF_le R _ p (by omega)
def supN : List Nat → Nat
 | [] => 0
 | a :: l => max a (supN l)
theorem supN_append : ∀ l m : List Nat, supN (l ++ m) = max (supN l) (supN m)
 | [], m => by simp [supN]
 | a :: l, m => by rw [List.cons_append, supN, supN, supN_append l m, Nat.max_assoc]
theorem supN_take {l : List Nat} {j : Nat} (h : j < l.length) : supN (l.take (j + 1)) = max (supN (l.take j)) l[j] := by
 rw [List.take_add_one, List.getElem?_eq_getElem h, supN_append]
 simp [supN]
theorem supN_zero {l : List Nat} (h : ∀ a ∈ l, a = 0) : supN l = 0 := by
 induction l with
 | nil => rfl
 | cons a l ih => rw [supN, ih (fun b hb => h b (by simp [hb])), h a (by simp)]; rfl
theorem supN_le {l : List Nat} {n : Nat} (h : ∀ a ∈ l, a ≤ n) : supN l ≤ n := by
 induction l with
 | nil => exact Nat.zero_le _
 | cons a l ih => rw [supN]; exact Nat.max_le.2 ⟨h a (by simp), ih (fun b hb => h b (by simp [hb]))⟩
def lettersN (X : Lx) (wi : Int) : Nat := (rd_T53 X.l0 wi).f0.size
def farF (X : Lx) : Nat → Pth → Nat → Int → Int → Nat → Nat
 | 0, p, _, _, _, _ => reachI (rwOf X) (spotP p)
 | n + 1, p, k, f, wi, a => max (reachI (rwOf X) (spotP p)) (supN (if 0 < k ∧ a < lettersN X wi then (letterP (rwOf X) (spotP p) (bt (rd_T53 X.l0 wi).f0 (a : Int))).map fun q => farF X n q k f wi (a + 1)
   else (X.l0.zipIdx).map fun x => if mayV X k f x.1.f1 = true then farF X n p (k + 1) x.1.f1 (x.2 : Int) 0 else 0))
def mu (k a : Nat) : Nat := (8 - k) * 9 + (8 - a)
theorem farF_up (X : Lx) (h8 : ∀ j : Int, lettersN X j ≤ 8) : ∀ (n : Nat) (p : Pth) (k : Nat) (f wi : Int) (a : Nat), mu k a ≤ n → farF X (n + 1) p k f wi a = farF X n p k f wi a := by
 intro n
 induction n with
 | zero =>
  intro p k f wi a hm
  unfold mu at hm
  rw [farF, farF]
  have h1 := h8 wi
  rw [if_neg (by omega), supN_zero, Nat.max_eq_left (Nat.zero_le _)]
  intro b hb
  obtain ⟨x, -, rfl⟩ := List.mem_map.1 hb
  rw [mayV_full (by omega)]
  rfl
 | succ n ih =>
  intro p k f wi a hm
  have e1 : farF X (n + 1 + 1) p k f wi a = max (reachI (rwOf X) (spotP p)) (supN (if 0 < k ∧ a < lettersN X wi then (letterP (rwOf X) (spotP p) (bt (rd_T53 X.l0 wi).f0 (a : Int))).map fun q => farF X (n + 1) q k f wi (a + 1) else (X.l0.zipIdx).map fun x => if mayV X k f x.1.f1 = true then farF X (n + 1) p (k + 1) x.1.f1 (x.2 : Int) 0 else 0)) := rfl
  have e2 : farF X (n + 1) p k f wi a = max (reachI (rwOf X) (spotP p)) (supN (if 0 < k ∧ a < lettersN X wi then (letterP (rwOf X) (spotP p) (bt (rd_T53 X.l0 wi).f0 (a : Int))).map fun q => farF X n q k f wi (a + 1) else (X.l0.zipIdx).map fun x => if mayV X k f x.1.f1 = true then farF X n p (k + 1) x.1.f1 (x.2 : Int) 0 else 0)) := rfl
  rw [e1, e2]
  unfold mu at hm
  have h1 := h8 wi
  congr 2
  by_cases hc : 0 < k ∧ a < lettersN X wi
  ·rw [if_pos hc, if_pos hc]
   refine List.map_congr_left fun q _ => ih q k f wi (a + 1) ?_
   unfold mu
   omega
  ·rw [if_neg hc, if_neg hc]
   refine List.map_congr_left fun x _ => ?_
   by_cases hm2 : mayV X k f x.1.f1 = true
   ·rw [if_pos hm2, if_pos hm2]
    refine ih _ _ _ _ _ ?_
    have hk : k < 8 := by
     by_cases h : k < 8
     ·exact h
     ·rw [mayV_full (by omega)] at hm2
      cases hm2
    unfold mu
    omega
   ·rw [if_neg hm2, if_neg hm2]
theorem farF_eq (X : Lx) (h8 : ∀ j : Int, lettersN X j ≤ 8) (p : Pth) (k : Nat) (f wi : Int) (a : Nat) : ∀ d : Nat, farF X (mu k a + d) p k f wi a = farF X (mu k a) p k f wi a
 | 0 => rfl
 | d + 1 => by rw [← Nat.add_assoc, farF_up X h8 _ _ _ _ _ _ (Nat.le_add_right _ _), farF_eq X h8 p k f wi a d]
def farV (X : Lx) (p : Pth) (k : Nat) (f wi : Int) (a : Nat) : Nat := farF X (mu k a) p k f wi a
def farL (X : Lx) (p : Pth) (k : Nat) (f wi : Int) (a : Nat) : List Nat := (letterP (rwOf X) (spotP p) (bt (rd_T53 X.l0 wi).f0 (a : Int))).map fun q => farV X q k f wi (a + 1)
def farW (X : Lx) (p : Pth) (k : Nat) (f : Int) : List Nat := (X.l0.zipIdx).map fun x => if mayV X k f x.1.f1 = true then farV X p (k + 1) x.1.f1 (x.2 : Int) 0 else 0
theorem farV_step (X : Lx) (h8 : ∀ j : Int, lettersN X j ≤ 8) (p : Pth) (k : Nat) (f wi : Int) (a : Nat) : farV X p k f wi a = max (reachI (rwOf X) (spotP p)) (supN (if 0 < k ∧ a < lettersN X wi then farL X p k f wi a else farW X p k f)) := by
 unfold farV
 rw [← farF_eq X h8 p k f wi a 1, farF]
 have h1 := h8 wi
 congr 2
 by_cases hc : 0 < k ∧ a < lettersN X wi
 ·rw [if_pos hc, if_pos hc]
  unfold farL
  refine List.map_congr_left fun q _ => ?_
  unfold farV
  rw [show mu k a = mu k (a + 1) + 1 by unfold mu; omega, farF_eq X h8]
 ·rw [if_neg hc, if_neg hc]
  unfold farW
  refine List.map_congr_left fun x _ => ?_
  by_cases hm2 : mayV X k f x.1.f1 = true
  ·rw [if_pos hm2, if_pos hm2]
   have hk : k < 8 := by
    by_cases h : k < 8
    ·exact h
    ·rw [mayV_full (by omega)] at hm2
     cases hm2
   unfold farV
   rw [show mu k a = mu (k + 1) 0 + (mu k a - mu (k + 1) 0) by unfold mu; omega, farF_eq X h8]
  ·rw [if_neg hm2, if_neg hm2]
theorem farF_spot (X : Lx) : ∀ (n : Nat) (p q : Pth) (k : Nat) (f wi : Int) (a : Nat), spotP p = spotP q → farF X n p k f wi a = farF X n q k f wi a
 | 0, p, q, k, f, wi, a, h => by rw [farF, farF, h]
 | n + 1, p, q, k, f, wi, a, h => by
  rw [farF, farF, h]
  congr 3
  refine List.map_congr_left fun x _ => ?_
  rw [farF_spot X n p q _ _ _ _ h]
theorem farV_spot {X : Lx} {p q : Pth} {k : Nat} {f wi : Int} {a : Nat} (h : spotP p = spotP q) : farV X p k f wi a = farV X q k f wi a := farF_spot X _ p q k f wi a h
theorem farF_le (X : Lx) : ∀ (n : Nat) (p : Pth) (k : Nat) (f wi : Int) (a : Nat), p.i ≤ (rwOf X).n → farF X n p k f wi a ≤ (rwOf X).n
 | 0, p, k, f, wi, a, h => by rw [farF]; exact reachI_le _ _ h
 | n + 1, p, k, f, wi, a, h => by
  rw [farF]
  refine Nat.max_le.2 ⟨reachI_le _ _ h, supN_le fun b hb => ?_⟩
  by_cases hc : 0 < k ∧ a < lettersN X wi
  ·rw [if_pos hc] at hb
   obtain ⟨q, hq, rfl⟩ := List.mem_map.1 hb
   exact farF_le X n q _ _ _ _ (letterF_le (rwOf X) _ _ _ _ _ _ _ (by show p.i + ((rwOf X).n - p.i) = _; omega) q hq)
  ·rw [if_neg hc] at hb
   obtain ⟨x, -, rfl⟩ := List.mem_map.1 hb
   by_cases hm2 : mayV X k f x.1.f1 = true
   ·rw [if_pos hm2]
    exact farF_le X n p _ _ _ _ h
   ·rw [if_neg hm2]
    exact Nat.zero_le _
theorem farV_le (X : Lx) (p : Pth) (k : Nat) (f wi : Int) (a : Nat) (h : p.i ≤ (rwOf X).n) : farV X p k f wi a ≤ (rwOf X).n := farF_le X _ p k f wi a h
end Go.Proofs.Ytkfebceainedfaa.P.OwnGap
namespace Go.Proofs.Ytkfebceainedfaa.P.OwnGap
open Go.RowKit Go.Maps Go.Proofs.YtkfebceainedfaaW.PrintWords Go.Proofs.YtkfebceainedfaaW.PrintLast Go.Proofs.YtkfebceainedfaaW.PrintMore
open Go.Proofs.Ytkfebceainedfaa.OwnGap
set_option linter.unusedVariables false
set_option linter.unusedSimpArgs false
def FarR (X : Lx) (best : Nat) (E : Value → Prop) (key val : Value) : Prop := val = .bool true ∧ (E key ∨ ∀ (p : Pth) (k : Nat) (f wi : Int) (a : Nat), key = ptV p.i p.m p.l p.h k f wi a → farV X p k f wi a ≤ best)
theorem ptV_inj {X : Lx} {p q : Pth} {k k' : Nat} {f f' wi wi' : Int} {a a' : Nat} (h : ptV p.i p.m p.l p.h k f wi a = ptV q.i q.m q.l q.h k' f' wi' a') : spotP p = spotP q ∧ k = k' ∧ f = f' ∧ wi = wi' ∧ a = a' := by
 simp only [ptV, Value.agg.injEq, Array.mk.injEq, List.cons.injEq, Value.int.injEq, and_true, true_and] at h
 obtain ⟨h1, h2, h3, h4, h5, h6, h7, h8⟩ := h
 refine ⟨?_, by omega, h6, h7, by omega⟩
 unfold spotP
 rw [show p.i = q.i by omega, show p.m = q.m by omega, h3, h4]
theorem MemoAt.mono {K : TypeId} {Φ Ψ : Value → Value → Prop} {W : World} {mb : Nat} (h : MemoAt Try.prog K Φ W mb) (hi : ∀ k v, Φ k v → Ψ k v) : MemoAt Try.prog K Ψ W mb := by
 obtain ⟨es, c, h1, h2⟩ := h
 exact ⟨es, c, h1, fun e he => ⟨(h2 e he).1, hi _ _ (h2 e he).2⟩⟩
structure GB (bb mm : Nat) (W W' : World) : Prop where
 size : W.heap.size ≤ W'.heap.size
 block : ∀ k, k < W.heap.size → k ≠ bb → k ≠ mm → W'.heap[k]? = W.heap[k]?
theorem GB.refl (bb mm : Nat) (W : World) : GB bb mm W W := ⟨Nat.le_refl _, fun _ _ _ _ => rfl⟩
theorem GB.trans {bb mm : Nat} {W W' W'' : World} (h : GB bb mm W W') (k : GB bb mm W' W'') : GB bb mm W W'' :=
 ⟨Nat.le_trans h.size k.size, fun i h1 h2 h3 => (k.block i (Nat.lt_of_lt_of_le h1 h.size) h2 h3).trans (h.block i h1 h2 h3)⟩
theorem GB.of {bb mm : Nat} {W W' : World} (h : Below W.heap.size W W') : GB bb mm W W' := ⟨h.size, fun k hk _ _ => h.block k hk⟩
theorem GB.keep {bb mm : Nat} {W W' : World} (h : GB bb mm W W') {b : Nat} {o : Obj} (hb : W.heap[b]? = some o) (h1 : b ≠ bb) (h2 : b ≠ mm) : W'.heap[b]? = some o :=
 (h.block b (Array.getElem?_eq_some_iff.1 hb).1 h1 h2).trans hb
theorem obj_ne {W : World} {b g : Nat} {cs ds : Array Value} {t s : TypeId} {f1 f2 : Nat × Nat} (h1 : W.heap[b]? = some (.cells cs t f1)) (h2 : W.heap[g]? = some (.cells ds s f2)) (h : t ≠ s) : b ≠ g := by
 rintro rfl
 rw [h1] at h2
 simp only [Option.some.injEq, Obj.cells.injEq] at h2
 exact h h2.2.1
structure FL where
 bs : Nat
 bb : Nat
 bm : Nat
 bv : Nat
 mm : Nat
def capV (L : FL) : Array Value := #[.pointer (some ⟨L.bm, 0, none⟩), .pointer (some ⟨L.bb, 0, none⟩), .pointer (some ⟨L.bs, 0, none⟩), .pointer (some ⟨L.bv, 0, none⟩)]
structure VW (X : Lx) (S : SV) (fits : List Int) (w0 : World) (L : FL) (best : Nat) (E : Value → Prop) (W : World) : Prop where
 s0 : SrW X S fits w0
 below : Below w0.heap.size w0 W
 n1 : w0.heap.size ≤ L.bb
 n2 : w0.heap.size ≤ L.mm
 hs : SpAt W L.bs S
 hb : W.heap[L.bb]? = some (.cells #[.int .i64 (best : Int)] 3 (0, 0))
 hm : W.heap[L.bm]? = some (.cells #[.map (some L.mm)] 148 (0, 0))
 hv : W.heap[L.bv]? = some (.cells #[.func (.func 89) #[] (capV L)] 149 (0, 0))
 memo : MemoAt Try.prog 151 (FarR X best E) W L.mm
section
variable {X : Lx} {S : SV} {fits : List Int} {w0 W W' : World} {L : FL} {best : Nat} {E : Value → Prop}
theorem VW.sr (h : VW X S fits w0 L best E W) : SrW X S fits W := h.s0.below h.below
theorem VW.mlt (h : VW X S fits w0 L best E W) : ∃ es ck, W.heap[L.mm]? = some (.map es ck) := by
 obtain ⟨es, ck, hb, _⟩ := h.memo
 exact ⟨es, ck, hb⟩
theorem VW.nem (h : VW X S fits w0 L best E W) {b : Nat} {cs : Array Value} {t : TypeId} {fr : Nat × Nat} (hb : W.heap[b]? = some (.cells cs t fr)) : b ≠ L.mm := by
 rintro rfl
 obtain ⟨es, ck, hm⟩ := h.mlt
 rw [hb] at hm
 simp at hm
theorem VW.next (h : VW X S fits w0 L best E W) (hb : Below W.heap.size W W') : VW X S fits w0 L best E W' :=
 { h with below := h.below.trans (hb.mono h.below.size), hs := blk_below h.hs hb, hb := blk_below h.hb hb, hm := blk_below h.hm hb, hv := blk_below h.hv hb, memo := h.memo.keep (by obtain ⟨es, ck, hm⟩ := h.mlt; exact hb.block L.mm (Array.getElem?_eq_some_iff.1 hm).1) }
theorem FarR.up {b b' : Nat} (hb : b ≤ b') {k v : Value} (h : FarR X b E k v) : FarR X b' E k v :=
 ⟨h.1, h.2.imp id (fun h p k f wi a e => Nat.le_trans (h p k f wi a e) hb)⟩
theorem VW.raise (h : VW X S fits w0 L best E W) (b' : Nat) (hb : best ≤ b') : VW X S fits w0 L b' E (W.setCell ⟨L.bb, 0, none⟩ (.int .i64 (b' : Int))) := by
 have e1 : L.bs ≠ L.bb := obj_ne h.hs h.hb (by decide)
 have e2 : L.bm ≠ L.bb := obj_ne h.hm h.hb (by decide)
 have e3 : L.bv ≠ L.bb := obj_ne h.hv h.hb (by decide)
 refine { h with below := h.below.setCell (show w0.heap.size ≤ L.bb from h.n1) _, hs := blk_far h.hs (by show L.bs ≠ L.bb; exact e1) _, hb := ?_, hm := blk_far h.hm (by show L.bm ≠ L.bb; exact e2) _, hv := blk_far h.hv (by show L.bv ≠ L.bb; exact e3) _, memo := (MemoAt.mono h.memo (fun k v => FarR.up hb)).keep (Below.heap_setCell W _ _ L.mm (h.nem h.hb).symm) }
 have h1 := blk_set h.hb 0 (.int .i64 (b' : Int))
 simpa using h1
theorem VW.far (h : VW X S fits w0 L best E W) {g o : Nat} {v : Value} {ds : Array Value} (hg : W.heap[g]? = some (.cells ds 154 (0, 0))) (h0 : w0.heap.size ≤ g) : VW X S fits w0 L best E (W.setCell ⟨g, o, none⟩ v) := by
 have e1 : L.bs ≠ g := obj_ne h.hs hg (by decide)
 have e2 : L.bm ≠ g := obj_ne h.hm hg (by decide)
 have e3 : L.bv ≠ g := obj_ne h.hv hg (by decide)
 have e4 : L.bb ≠ g := obj_ne h.hb hg (by decide)
 exact { h with below := h.below.setCell h0 _, hs := blk_far h.hs e1 _, hb := blk_far h.hb e4 _, hm := blk_far h.hm e2 _, hv := blk_far h.hv e3 _, memo := h.memo.keep (Below.heap_setCell W _ _ L.mm (h.nem hg).symm) }
theorem VW.put (h : VW X S fits w0 L best E W) (E' : Value → Prop) (o : Obj) (hm : MemoAt Try.prog 151 (FarR X best E') (W.putObj L.mm o) L.mm) : VW X S fits w0 L best E' (W.putObj L.mm o) :=
 { h with below := ⟨h.below.os, h.below.tape, h.below.output, by simp [World.putObj]; exact h.below.size, fun k hk => (World.putObj_heap_other (by have := h.n2; omega)).trans (h.below.block k hk)⟩, hs := (World.putObj_heap_other (h.nem h.hs)).trans h.hs, hb := (World.putObj_heap_other (h.nem h.hb)).trans h.hb, hm := (World.putObj_heap_other (h.nem h.hm)).trans h.hm, hv := (World.putObj_heap_other (h.nem h.hv)).trans h.hv, memo := hm }
end
def ptC (p : Pth) (k f wi a : Int) : Array Value := #[.int .i64 (p.i : Int), .int .i64 (p.m : Int), .int .i64 p.l, .int .i64 p.h, .int .i64 k, .int .i64 f, .int .i64 wi, .int .i64 a]
def PtAt (W : World) (b : Nat) (p : Pth) (k f wi a : Int) : Prop := W.heap[b]? = some (.cells (ptC p k f wi a) 151 (0, 0))
theorem PtAt.cells {W : World} {b : Nat} {p : Pth} {k f wi a : Int} (h : PtAt W b p k f wi a) : W.cell? ⟨b, 0, none⟩ = some (.int .i64 (p.i : Int)) ∧ W.cell? ⟨b, 1, none⟩ = some (.int .i64 (p.m : Int)) ∧ W.cell? ⟨b, 2, none⟩ = some (.int .i64 p.l) ∧ W.cell? ⟨b, 3, none⟩ = some (.int .i64 p.h) ∧ W.cell? ⟨b, 4, none⟩ = some (.int .i64 k) ∧ W.cell? ⟨b, 5, none⟩ = some (.int .i64 f) ∧ W.cell? ⟨b, 6, none⟩ = some (.int .i64 wi) ∧ W.cell? ⟨b, 7, none⟩ = some (.int .i64 a) :=
 ⟨(blk_cell h 0).trans rfl, (blk_cell h 1).trans rfl, (blk_cell h 2).trans rfl, (blk_cell h 3).trans rfl, (blk_cell h 4).trans rfl, (blk_cell h 5).trans rfl, (blk_cell h 6).trans rfl, (blk_cell h 7).trans rfl⟩
structure VB (X : Lx) (S : SV) (fits : List Int) (w0 : World) (L : FL) (w : World) (p : Pth) (k f wi a : Int) (best : Nat) (E : Value → Prop) (wx : World) : Prop where
 vw : VW X S fits w0 L best E wx
 gr : GB L.bb L.mm w wx
 hx : PtAt wx w.heap.size p k f wi a
section
variable {X : Lx} {S : SV} {fits : List Int} {w0 w W W' : World} {L : FL} {best : Nat} {E : Value → Prop} {p : Pth} {k f wi a : Int}
theorem VB.start (h : VW X S fits w0 L best E w) (p : Pth) (k f wi a : Int) : VB X S fits w0 L w p k f wi a best E (w.alloc (.cells (ptC p k f wi a) 151)) :=
 ⟨h.next ((Below.refl _ _).alloc (Nat.le_refl _) _), GB.of ((Below.refl _ _).alloc (Nat.le_refl _) _), blk_new w _⟩
theorem VB.next (h : VB X S fits w0 L w p k f wi a best E W) (hb : Below W.heap.size W W') : VB X S fits w0 L w p k f wi a best E W' :=
 ⟨h.vw.next hb, h.gr.trans (GB.of hb), blk_below h.hx hb⟩
theorem VB.raise (h : VB X S fits w0 L w p k f wi a best E W) (b' : Nat) (hb : best ≤ b') : VB X S fits w0 L w p k f wi a b' E (W.setCell ⟨L.bb, 0, none⟩ (.int .i64 (b' : Int))) := by
 have e1 : w.heap.size ≠ L.bb := obj_ne h.hx h.vw.hb (by decide)
 exact ⟨h.vw.raise b' hb, ⟨by have := h.gr.size; show _ ≤ (W.heap.modify _ _).size; rw [Array.size_modify]; exact this, fun i h1 h2 h3 => (Below.heap_setCell W _ _ i h2).trans (h.gr.block i h1 h2 h3)⟩, blk_far h.hx e1 _⟩
theorem VB.far (h : VB X S fits w0 L w p k f wi a best E W) {g o : Nat} {v : Value} {ds : Array Value} (hg : W.heap[g]? = some (.cells ds 154 (0, 0))) (h0 : w.heap.size ≤ g) (h00 : w0.heap.size ≤ w.heap.size) : VB X S fits w0 L w p k f wi a best E (W.setCell ⟨g, o, none⟩ v) := by
 have e1 : w.heap.size ≠ g := obj_ne h.hx hg (by decide)
 exact ⟨h.vw.far hg (by omega), ⟨by have := h.gr.size; show _ ≤ (W.heap.modify _ _).size; rw [Array.size_modify]; exact this, fun i h1 h2 h3 => (Below.heap_setCell W _ _ i (by show i ≠ g; omega)).trans (h.gr.block i h1 h2 h3)⟩, blk_far h.hx e1 _⟩
theorem VB.put (h : VB X S fits w0 L w p k f wi a best E W) (E' : Value → Prop) (o : Obj) (hm : MemoAt Try.prog 151 (FarR X best E') (W.putObj L.mm o) L.mm) : VB X S fits w0 L w p k f wi a best E' (W.putObj L.mm o) :=
 ⟨h.vw.put E' o hm, h.gr.trans ⟨by simp [World.putObj], fun i h1 h2 h3 => World.putObj_heap_other h3⟩, (World.putObj_heap_other (h.vw.nem h.hx)).trans h.hx⟩
theorem VB.put8 (h : VB X S fits w0 L w p k f wi a best E W) {bp : Nat} {q q2 : Pth} (hp : PAt W bp q) (hlt : w.heap.size ≤ bp) (h00 : w0.heap.size ≤ w.heap.size) {u0 u1 u2 u3 u4 u5 u6 u7 : Value} (hu : pC q2 = #[u0, u1, u2, u3, u4, u5, u6, u7]) :
  VB X S fits w0 L w p k f wi a best E ((((((((W.setCell ⟨bp, 0, none⟩ u0).setCell ⟨bp, 1, none⟩ u1).setCell ⟨bp, 2, none⟩ u2).setCell ⟨bp, 3, none⟩ u3).setCell ⟨bp, 4, none⟩ u4).setCell ⟨bp, 5, none⟩ u5).setCell ⟨bp, 6, none⟩ u6).setCell ⟨bp, 7, none⟩ u7) ∧ PAt ((((((((W.setCell ⟨bp, 0, none⟩ u0).setCell ⟨bp, 1, none⟩ u1).setCell ⟨bp, 2, none⟩ u2).setCell ⟨bp, 3, none⟩ u3).setCell ⟨bp, 4, none⟩ u4).setCell ⟨bp, 5, none⟩ u5).setCell ⟨bp, 6, none⟩ u6).setCell ⟨bp, 7, none⟩ u7) bp q2 := by
 have s0 := blk_set hp 0 u0
 have s1 := blk_set s0 1 u1
 have s2 := blk_set s1 2 u2
 have s3 := blk_set s2 3 u3
 have s4 := blk_set s3 4 u4
 have s5 := blk_set s4 5 u5
 have s6 := blk_set s5 6 u6
 refine ⟨(((((((h.far hp hlt h00).far s0 hlt h00).far s1 hlt h00).far s2 hlt h00).far s3 hlt h00).far s4 hlt h00).far s5 hlt h00).far s6 hlt h00, ?_⟩
 unfold PAt
 rw [hu]
 exact set8_blk (show W.heap[bp]? = some (.cells #[_, _, _, _, _, _, _, _] 154 (0, 0)) from hp) _ _ _ _ _ _ _ _
theorem VB.call {b' : Nat} (h : VB X S fits w0 L w p k f wi a best E W) (hv : VW X S fits w0 L b' E W') (hg : GB L.bb L.mm W W') : VB X S fits w0 L w p k f wi a b' E W' :=
 ⟨hv, h.gr.trans hg, hg.keep h.hx (obj_ne h.hx h.vw.hb (by decide)) (h.vw.nem h.hx)⟩
theorem VB.keep (h : VB X S fits w0 L w p k f wi a best E W) (hg : GB L.bb L.mm W W') {b : Nat} {cs : Array Value} {t : TypeId} (hb : W.heap[b]? = some (.cells cs t (0, 0))) (ht : t ≠ 3) : W'.heap[b]? = some (.cells cs t (0, 0)) :=
 hg.keep hb (obj_ne hb h.vw.hb ht) (h.vw.nem hb)
end
def VisC (X : Lx) (S : SV) (fits : List Int) (w0 : World) (L : FL) (n : Nat) : Prop := ∀ (p : Pth) (k : Nat) (f wi : Int) (a : Nat), mu k a = n → OkP X (spotP p) → 0 ≤ f → f < X.l1.length → k ≤ 8 → a ≤ 8 → 0 ≤ wi → wi < 1000 → (0 < k → wi < X.l0.length) →
 ∀ (best : Nat) (E : Value → Prop) (W : World), (∀ (q : Pth) (k' : Nat) (f' wi' : Int) (a' : Nat), E (ptV q.i q.m q.l q.h k' f' wi' a') → n < mu k' a') → best ≤ X.r.length → VW X S fits w0 L best E W →
  Calls Try.prog 89 (#[.agg (ptC p k f wi a)] ++ capV L) W fun e W' => e = .returned (.tuple #[]) ∧ VW X S fits w0 L (max best (farV X p k f wi a)) E W' ∧ GB L.bb L.mm W W'
theorem keyOf_pt {X : Lx} {fits : List Int} (hX : OkX X fits) (hL : OkL X) {p : Pth} (hp : OkP X (spotP p)) {f wi : Int} (hf0 : 0 ≤ f) (hf1 : f < X.l1.length) (k a : Nat) (hk : k ≤ 8) (ha : a ≤ 8) (hw0 : 0 ≤ wi) (hw1 : wi < 1000) : ∃ t, Go.keyOf Try.prog 151 (ptV p.i p.m p.l p.h (k : Int) f wi (a : Int)) = some t := by
 have h1 : p.i ≤ X.r.length := hp.i
 have h2 : p.m ≤ 10 := hp.m
 have h3 : 0 ≤ p.l := hp.l0
 have h4 : p.l ≤ p.m * 1000 := hp.l1
 have h5 : 0 ≤ p.h := hp.h0
 have h6 : p.h ≤ p.m * 1000 := hp.h1
 have h7 := hX.n
 have h8 := hL.f8
 refine keyOf_point _ _ _ _ _ _ _ _ ?_ ?_ ?_ ?_ ?_ ?_ ?_ ?_ <;> (unfold w64; omega)
end Go.Proofs.Ytkfebceainedfaa.P.OwnGap
namespace Go.Proofs.Ytkfebceainedfaa.P.OwnGap
open Go.RowKit Go.Maps Go.Proofs.YtkfebceainedfaaW.PrintWords Go.Proofs.YtkfebceainedfaaW.PrintLast Go.Proofs.YtkfebceainedfaaW.PrintMore
open Go.Proofs.Ytkfebceainedfaa.OwnGap
set_option linter.unusedVariables false
set_option linter.unusedSimpArgs false
attribute [local go_sem] Oper.semAt_some
attribute [local go_sem] max2_int min2_int max_two min_two max_three min_three max_four min_four
theorem okD_shut {X : Lx} {q : Pth} (h : OkD X q) : OkD X (shutP (rwOf X) q) := by
 by_cases hs : shutB (rwOf X) q = true
 ·exact h.next hs
 ·rw [show shutP (rwOf X) q = q from if_neg hs]
  exact h
theorem R_gb {W W' : World} {n bb mm : Nat} {v : Value} {l : List Pth} {cs : Array Value} {es : Array MapEntry} {ck : Nat} (h : kP.R 154 W n (fun _ => True) v l) (hb : W.heap[bb]? = some (.cells cs 3 (0, 0))) (hm : W.heap[mm]? = some (.map es ck)) (hg : GB bb mm W W') : kP.R 154 W' n (fun _ => True) v l := by
 refine Kd.R_mono (Kd.R_step (Kd.R_bound h) (fun k hk hlt => hg.block k hlt ?_ ?_)) (fun _ _ => trivial)
 ·rintro rfl
  obtain ⟨-, -, -, q, hq, cells, hc⟩ := hk
  rw [hb] at hc
  simp only [Option.some.injEq, Obj.cells.injEq] at hc
  rw [← hc.2.1] at hq
  revert hq
  decide
 ·rintro rfl
  obtain ⟨-, -, -, q, hq, cells, hc⟩ := hk
  rw [hm] at hc
  simp at hc
set_option maxHeartbeats 8000000 in
set_option maxRecDepth 100000 in
theorem vis_step (X : Lx) (S : SV) (fits : List Int) (hX : OkX X fits) (hL : OkL X) (h8 : ∀ j : Int, lettersN X j ≤ 8) (w0 : World) (L : FL) (n : Nat) (hrec : ∀ m, m < n → VisC X S fits w0 L m) : VisC X S fits w0 L n := by
 intro p k f wi a hmu hp hf0 hf1 hk ha hw0 hw1 hwk best E w hE hbst hw
 have HX := Aside0.mk hX
 have HL := Aside0.mk hL
 have H8 := Aside0.mk h8
 have HREC := Aside0.mk hrec
 have HMU := Aside0.mk hmu
 have HP := Aside0.mk hp
 have HE := Aside0.mk hE
 have HWK := Aside0.mk hwk
 have HN0 := Aside0.mk (show w0.heap.size ≤ w.heap.size from hw.below.size)
 have HS := Aside0.mk (VB.start hw p (k : Int) f wi (a : Int))
 obtain ⟨lit, hlit⟩ := keyOf_pt hX hL hp hf0 hf1 k a hk ha hw0 hw1
 have HLIT := Aside0.mk hlit
 have HFV := Aside0.mk (farV_step X h8 p k f wi a)
 obtain ⟨fv, hfv⟩ : ∃ x, x = farV X p k f wi a := ⟨_, rfl⟩
 rw [← hfv] at HFV
 rw [← hfv]
 have HFE := Aside0.mk hfv
 clear hX hL h8 hrec hmu hp hE hwk hw hlit hfv
 obtain ⟨bs, bb, bm, bv, mm⟩ := L
 unfold ptC capV
 simp only
 show Calls Try.prog 89 #[.agg #[.int .i64 (p.i : Int), .int .i64 (p.m : Int), .int .i64 p.l, .int .i64 p.h, .int .i64 (k : Int), .int .i64 f, .int .i64 wi, .int .i64 (a : Int)], .pointer (some ⟨bm, 0, none⟩), .pointer (some ⟨bb, 0, none⟩), .pointer (some ⟨bs, 0, none⟩), .pointer (some ⟨bv, 0, none⟩)] w _
 go_enter Try.func89, Try.ntmps89
 go_upto_region 1 with fail
 refine wp_gen (fun wx => Aside0 (VB X S fits w0 ⟨bs, bb, bm, bv, mm⟩ w p k f wi a best E wx)) HS ?_
 clear HS
 rintro wx HB
 have hs := HB.out.vw.hm
 have m0 := (blk_cell HB.out.vw.hm 0).trans (show (#[Value.map (some mm)] : Array Value)[0]? = some (Value.map (some mm)) from rfl)
 have ml := blk_lt HB.out.vw.hm
 obtain ⟨x0, x1, x2, x3, x4, x5, x6, x7⟩ := HB.out.hx.cells
 have xl := blk_lt HB.out.hx
 have hz : (zeroValue 4).run Try.prog wx = .ok (.bool false) wx := by kernel_rfl
 obtain ⟨v, b, hlook, hv⟩ := HB.out.vw.memo.look law151 (T := 148) (by kernel_rfl) hz HLIT.out
 have hlk := hlook false
 simp only [ptV] at hlk
 rw [if_neg (by decide)] at hlk
 clear hlook hz hs
 have HV := Aside0.mk (show (b = true ∧ v = .bool true ∧ fv ≤ best) ∨ (b = false ∧ v = .bool false) by
  rcases hv with ⟨h1, h2, h3⟩ | ⟨h1, h2, h3⟩
  ·refine .inl ⟨h1, h2.1, ?_⟩
   rcases h2.2 with h | h
   ·exact absurd (HE.out p k f wi a h) (by rw [HMU.out]; exact Nat.lt_irrefl _)
   ·rw [HFE.out]
    exact h p k f wi a rfl
  ·exact .inr ⟨h1, h2⟩)
 clear hv
 rcases HV.out with ⟨rfl, rfl, hle⟩ | ⟨rfl, rfl⟩
 ·clear HV
  have HMX := Aside0.mk (show max best fv = best from Nat.max_eq_left hle)
  clear hle
  go_wp2_with fail
  refine bodyPost_ret (results_none rfl _ _ _) rfl ⟨rfl, ?_, HB.out.gr⟩
  rw [HMX.out]
  exact HB.out.vw
 clear HV
 obtain ⟨key, hkey⟩ : ∃ key, key = ptV p.i p.m p.l p.h k f wi a := ⟨_, rfl⟩
 have HKEY := Aside0.mk hkey
 obtain ⟨o, hupd, hm1, -, -⟩ := (MemoAt.mono HB.out.vw.memo (Ψ := FarR X best (fun v => v = key ∨ E v)) (fun k' v h => ⟨h.1, h.2.imp .inr id⟩)).update law151 (T := 148) (E := 4) (val := .bool true) (by kernel_rfl) HLIT.out ⟨rfl, .inl (.inl hkey.symm)⟩
 have HM1 := Aside0.mk hm1
 simp only [ptV] at hupd
 clear hm1 hkey
 have HB1 := Aside0.mk (HB.out.put _ o HM1.out)
 go_upto_region 3 with fail
 refine wp_gen (fun wy => Aside0 (VB X S fits w0 ⟨bs, bb, bm, bv, mm⟩ w p k f wi a best (fun v => v = key ∨ E v) wy)) HB1 ?_
 clear m0 ml x0 x1 x2 x3 x4 x5 x6 x7 xl hlk hupd HM1 HB1 HB wx
 rintro wx HB
 obtain ⟨x0, x1, x2, x3, x4, x5, x6, x7⟩ := HB.out.hx.cells
 have xl := blk_lt HB.out.hx
 obtain ⟨bp, hbp⟩ : ∃ b, b = wx.heap.size := ⟨_, rfl⟩
 have HBP := Aside0.mk (show w.heap.size < bp by rw [hbp]; exact xl)
 go_upto_block 0 with fail
 refine wp_gen (fun wy => Aside0 (VB X S fits w0 ⟨bs, bb, bm, bv, mm⟩ w p k f wi a best (fun v => v = key ∨ E v) wy) ∧ Aside0 (PAt wy bp (spotP p))) ⟨⟨HB.out.next ((Below.refl _ _).alloc (Nat.le_refl _) _)⟩, ⟨by rw [hbp]; exact blk_new wx _⟩⟩ ?_
 rw [← hbp]
 clear hbp x0 x1 x2 x3 x4 x5 x6 x7 xl HB
 rintro wy ⟨HB, HPA⟩
 clear wx
 have HOD := Aside0.mk (show OkD X (spotP p) from ⟨HP.out.i, by have := HP.out.m; show p.m ≤ 1000; have h2 : (spotP p).m = p.m := rfl; omega, HP.out.g⟩)
 have hrn : X.r.length ≤ 1000 := HX.out.n
 have HR1 := Aside0.mk (reachI_le (rwOf X) (spotP p) HP.out.i)
 obtain ⟨rr, hrr⟩ : ∃ r, r = reachI (rwOf X) (spotP p) := ⟨_, rfl⟩
 rw [← hrr] at HFV HR1
 obtain ⟨b1, hb1⟩ : ∃ b, b = max best rr := ⟨_, rfl⟩
 have HB1 := Aside0.mk hb1
 have HRR := Aside0.mk hrr
 clear hb1 hrr
 go_cut [7] (fun s7 wx => s7 = .bool false ∧ Aside0 (VB X S fits w0 ⟨bs, bb, bm, bv, mm⟩ w p k f wi a b1 (fun v => v = key ∨ E v) wx))
 case first =>
  go_wp2_with fail
  go_loopg [7] (X.r.length + 1 - p.i) (fun g s7 wr => ∃ (q : Pth) (b : Bool) (bst : Nat), s7 = .bool b ∧ Aside0 (VB X S fits w0 ⟨bs, bb, bm, bv, mm⟩ w p k f wi a bst (fun v => v = key ∨ E v) wr) ∧ Aside0 (PAt wr bp q) ∧ Aside0 (bst ≤ X.r.length ∧ OkD X q) ∧ Aside0 ((if b = true then max bst (reachI (rwOf X) q) else bst) = b1) ∧ Aside0 (b = true → g = X.r.length + 1 - q.i))
  case atStart => exact ⟨spotP p, true, best, rfl, HB, HPA, ⟨hbst, HOD.out⟩, ⟨by rw [if_pos rfl, HB1.out, HRR.out]⟩, ⟨fun _ => rfl⟩⟩
  case round =>
   clear HB HPA
   obtain ⟨q, b, bst, rfl, HB, HPA, HOQ, HI, HG⟩ := hrel
   rcases b with _ | _
   ·have HE1 := Aside0.mk (show bst = b1 from HI.out)
    go_wp2_with fail
    refine Met.intro ?_
    go_step
    (repeat apply Exists.intro)
    refine ⟨?_, rfl⟩
    exact ⟨rfl, ⟨by rw [← HE1.out]; exact HB.out⟩⟩
   ·have HI1 := Aside0.mk (show max bst (reachI (rwOf X) q) = b1 from HI.out)
    have HGE := Aside0.mk (reachI_ge (rwOf X) q)
    have HST := Aside0.mk (reachI_step (rwOf X) q)
    obtain ⟨hbq, hoq⟩ := HOQ.out
    have hqi : q.i ≤ X.r.length := hoq.i
    obtain ⟨m, hm⟩ : ∃ m, m = max bst q.i := ⟨_, rfl⟩
    have hm2 : (if bst < q.i then (q.i : Int) else (bst : Int)) = (m : Int) := by rw [hm]; split <;> omega
    have hm3 : (if (bst : Int) < (q.i : Int) then (q.i : Int) else (bst : Int)) = (m : Int) := by rw [hm]; split <;> omega
    have hm4 : (if q.i < bst then (bst : Int) else (q.i : Int)) = (m : Int) := by rw [hm]; split <;> omega
    have hm5 : (if (q.i : Int) < (bst : Int) then (bst : Int) else (q.i : Int)) = (m : Int) := by rw [hm]; split <;> omega
    have HM := Aside0.mk hm
    have HML := Aside0.mk (show bst ≤ m ∧ m ≤ X.r.length by omega)
    clear hm hbq hoq
    have b0 := (blk_cell HB.out.vw.hb 0).trans (show (#[Value.int .i64 (bst : Int)] : Array Value)[0]? = some (Value.int .i64 (bst : Int)) from rfl)
    have bf := blk_frozen HB.out.vw.hb 0
    have bl := blk_lt HB.out.vw.hb
    obtain ⟨e0, e1, e2, e3, e4, e5, e6, e7⟩ := HPA.out.cells
    have pl := blk_lt HPA.out
    go_upto_region 6 with fail
    refine wp_gen (fun wy => Aside0 (VB X S fits w0 ⟨bs, bb, bm, bv, mm⟩ w p k f wi a m (fun v => v = key ∨ E v) wy) ∧ Aside0 (PAt wy bp q)) ⟨⟨HB.out.raise m HML.out.1⟩, ⟨blk_far HPA.out (obj_ne HPA.out HB.out.vw.hb (by decide)) _⟩⟩ ?_
    clear b0 bf bl e0 e1 e2 e3 e4 e5 e6 e7 pl HB HPA hm2 hm3 hm4 hm5
    rintro wy ⟨HB, HPA⟩
    obtain ⟨⟨e0, e1, e2, e3, e4, e5, e6, e7⟩, g0, g1, g2, g3, g4, g5, g6, g7⟩ := cells8 (show wy.heap[bp]? = some (.cells #[_, _, _, _, _, _, _, _] 154 (0, 0)) from HPA.out)
    have pl := blk_lt HPA.out
    have hs := HB.out.vw.hs.cell
    have sl := blk_lt HB.out.vw.hs
    obtain ⟨q2, hq2⟩ : ∃ q2, q2 = shutP (rwOf X) q := ⟨_, rfl⟩
    obtain ⟨b2, hb2⟩ : ∃ b2, b2 = shutB (rwOf X) q := ⟨_, rfl⟩
    have HSH := Aside0.mk (shut_calls X S fits q wy HB.out.vw.sr hqi hrn HOQ.out.2.m (fun hl hg => HOQ.out.2.room hl hg))
    rw [← hq2, ← hb2] at HSH
    rw [← hb2, ← hq2] at HST
    have HQ2 := Aside0.mk hq2
    have HB2 := Aside0.mk hb2
    clear hq2 hb2
    go_wp2_with (first | (go_at_call 90; refine HSH.out.mono ?_; rintro e w2 ⟨rfl, hB2⟩; unfold pC; have HB3 := Aside0.mk (HB.out.next hB2); have HPA3 := Aside0.mk (show PAt w2 bp q from blk_below HPA.out hB2); clear hB2 e0 e1 e2 e3 e4 e5 e6 e7 g0 g1 g2 g3 g4 g5 g6 g7 pl; obtain ⟨⟨e0, e1, e2, e3, e4, e5, e6, e7⟩, g0, g1, g2, g3, g4, g5, g6, g7⟩ := cells8 (show w2.heap[bp]? = some (.cells #[_, _, _, _, _, _, _, _] 154 (0, 0)) from HPA3.out); have pl := blk_lt HPA3.out) | fail)
    obtain ⟨HV8, HP8⟩ := HB3.out.put8 HPA3.out (Nat.le_of_lt HBP.out) HN0.out (q2 := q2) rfl
    have HV8 := Aside0.mk HV8
    have HP8 := Aside0.mk HP8
    have HQ3 := Aside0.mk (show OkD X q2 by rw [HQ2.out]; exact okD_shut HOQ.out.2)
    cases b2 with
    | true =>
     have HQI := Aside0.mk (show q2.i = q.i + 1 by rw [HQ2.out, show shutP (rwOf X) q = ⟨q.i + 1, 0, 0, 0, q.fs ++ [(q.m : Int)]⟩ from if_pos HB2.out.symm])
     go_roundg (X.r.length + 1 - q2.i)
     case measure =>
      have h1 := HG.out (by simp)
      have h2 := HQI.out
      have h3 := HQ3.out.i
      omega
     case rel =>
      refine ⟨q2, true, m, rfl, HV8, HP8, ⟨HML.out.2, HQ3.out⟩, ⟨?_⟩, ⟨fun _ => rfl⟩⟩
      rw [if_pos rfl, ← HI1.out, HM.out]
      have h1 := HST.out
      rw [if_pos rfl] at h1
      have h2 := HGE.out
      omega
    | false =>
     go_roundg 0
     case measure =>
      have h1 := HG.out (by simp)
      omega
     case rel =>
      refine ⟨q2, false, m, rfl, HV8, HP8, ⟨HML.out.2, HQ3.out⟩, ⟨?_⟩, ⟨fun h => by cases h⟩⟩
      rw [if_neg (by decide), ← HI1.out, HM.out]
      have h1 := HST.out
      rw [if_neg (by decide)] at h1
      omega
 case rest =>
  obtain ⟨rfl, HBx⟩ := hcut
  clear HB HPA HOD wy
  have HB1L := Aside0.mk (show b1 ≤ X.r.length by
   have h1 := HB1.out
   have h2 : rr ≤ X.r.length := HR1.out
   omega)
  have HKE := Aside0.mk (fun (v : Value) (hv : v = key ∨ E v) (q : Pth) (k' : Nat) (f' wi' : Int) (a' : Nat) (hq : v = ptV q.i q.m q.l q.h k' f' wi' a') => show n ≤ mu k' a' from by
   rcases hv with hv | hv
   ·have h := ptV_inj (X := X) (p := q) (q := p) (show ptV q.i q.m q.l q.h k' f' wi' a' = ptV p.i p.m p.l p.h k f wi a by rw [← hq, hv, HKEY.out])
    obtain ⟨-, h1, -, -, h2⟩ := h
    rw [h1, h2, HMU.out]
    exact Nat.le_refl _
   ·rw [hq] at hv
    exact Nat.le_of_lt (HE.out _ _ _ _ _ hv))
  have HEND := Aside0.mk (fun (W : World) (b2 : Nat) (hb : b2 = max best fv) (h : VB X S fits w0 ⟨bs, bb, bm, bv, mm⟩ w p k f wi a b2 (fun v => v = key ∨ E v) W) => show VW X S fits w0 ⟨bs, bb, bm, bv, mm⟩ (max best fv) E W ∧ GB bb mm w W from by
   refine ⟨?_, h.gr⟩
   rw [← hb]
   exact { h.vw with memo := MemoAt.mono h.vw.memo (fun k' v hR => ⟨hR.1, by
    rcases hR.2 with (he | he) | he
    ·right
     intro q k2 f2 wi2 a2 e2
     obtain ⟨h1, rfl, rfl, rfl, rfl⟩ := ptV_inj (X := X) (p := q) (q := p) (show ptV q.i q.m q.l q.h k2 f2 wi2 a2 = ptV p.i p.m p.l p.h k f wi a by rw [← e2, he, HKEY.out])
     rw [farV_spot h1, ← HFE.out, hb]
     exact Nat.le_max_right _ _
    ·exact .inl he
    ·exact .inr he⟩) })
  by_cases hA : 0 < k ∧ a < lettersN X wi
  ·have hwl := HWK.out hA.1
   obtain ⟨wn, rfl⟩ : ∃ wn : Nat, wi = (wn : Int) := ⟨wi.toNat, by omega⟩
   obtain ⟨T, hT⟩ : ∃ T, T = (rd_T53 X.l0 (wn : Int)).f0 := ⟨_, rfl⟩
   have haT : a < T.size := by rw [hT]; exact hA.2
   have hT8 : T.size ≤ 8 := by rw [hT]; exact H8.out (wn : Int)
   obtain ⟨ch, hch⟩ : ∃ c, c = bt T (a : Int) := ⟨_, rfl⟩
   have hc65 : 65 ≤ ch ∧ ch ≤ 90 := by rw [hch, hT]; exact HL.out.lt wn (by omega) a (by rw [← hT]; exact haT)
   have hbt : ((T[a]'haT).toNat : Int) = ch := by
    rw [hch]
    unfold bt
    rw [dif_pos (by simpa using haT)]
    simp
   obtain ⟨ls, hls⟩ : ∃ ls, ls = letterP (rwOf X) (spotP p) ch := ⟨_, rfl⟩
   have HFV2 := Aside0.mk (show fv = max rr (supN (ls.map fun q => farV X q k f (wn : Int) (a + 1))) by
    rw [HFV.out, if_pos hA, hls, hch, hT]
    rfl)
   have HLOK := Aside0.mk (show ∀ q ∈ ls, OkP X q by
    rw [hls]
    exact letterP_ok X ch (HX.out.ww ch hc65.1 hc65.2) (spotP p) HP.out)
   have hln : ls.length ≤ 1000 := by
    rw [hls]
    exact Nat.le_trans (letterF_length _ _ _ _ _ _ _ _) (by show X.r.length - _ ≤ _; omega)
   have HLC := Aside0.mk (fun (W : World) (h : SrW X S fits W) => show Calls Try.prog 91 #[.pointer (some ⟨S.b, 0, none⟩), .agg #[.int .i64 (p.i : Int), .int .i64 (p.m : Int), .int .i64 p.l, .int .i64 p.h, .int .i64 0, .int .i64 0, .int .i64 0, .int .i64 0], .int .u8 ch] W fun e w' => ∃ v, e = .returned v ∧ PR W w' v ls ∧ Below W.heap.size W w' by
    rw [hls]
    exact letter_calls X S fits ⟨HX.out⟩ ch hc65.1 hc65.2 _ (spotP p) W rfl h HP.out)
   have hk0 : 0 < k := hA.1
   have hkz : (0 : Int) < (k : Int) := by omega
   have hkd : decide ((0 : Int) < (k : Int)) = true := decide_eq_true hkz
   have hkd2 : decide (0 < k) = true := decide_eq_true hk0
   have haz : (a : Int) < (T.size : Int) := by omega
   have had : decide ((a : Int) < (T.size : Int)) = true := decide_eq_true haz
   have had2 : decide (a < T.size) = true := decide_eq_true haT
   have hwz : (wn : Int) < (X.l0.length : Int) := hwl
   have hwd : decide (wn < X.l0.length) = true := decide_eq_true (by omega)
   have hl0 : X.l0.length ≤ 1000 := HL.out.n0
   have HA := Aside0.mk hA
   have HTE := Aside0.mk hT
   have HZ0 := Aside0.mk (fun (W : World) (h : SrW X S fits W) => show ∃ a0, S.A0 = some a0 ∧ W.cell? ⟨S.b, 0, none⟩ = some (.slice (some a0) X.l0.length S.c0) ∧ W.cell? (a0.add (wn * 2)) = some (.string T) from by
    obtain ⟨a0, eA0, z0, z1⟩ := at_T53 h.h0 (wn : Int) (by omega) hwl
    rw [Int.toNat_natCast] at z0
    refine ⟨a0, eA0, ?_, by rw [hT]; exact z0⟩
    have c0 := h.cell 0 h.e0
    rw [eA0] at c0
    exact c0)
   clear hA hT hch hls hwl
   obtain ⟨a0, eA0, c0, z0⟩ := HZ0.out wc HBx.out.vw.sr
   have hs := HBx.out.vw.hs.cell
   have sl := blk_lt HBx.out.vw.hs
   obtain ⟨x0, x1, x2, x3, x4, x5, x6, x7⟩ := HBx.out.hx.cells
   have xl := blk_lt HBx.out.hx
   have cl := blk_lt HBx.out.vw.sr.blk
   have zl := World.block_lt_of_cell? wc _ z0
   go_upto_region 8 with first | go_quiet (fail) | fail
   refine wp_gen (fun wy => Aside0 (VB X S fits w0 ⟨bs, bb, bm, bv, mm⟩ w p k f (wn : Int) a b1 (fun v => v = key ∨ E v) wy)) ⟨HBx.out.next (pw_below_drewN (Below.refl _ _) _)⟩ ?_
   clear c0 z0 hs sl x0 x1 x2 x3 x4 x5 x6 x7 xl cl zl HBx
   rintro wy HB
   have HCC := Aside0.mk (fun (W' : World) (hb : Below wy.heap.size wy W') => show W'.cell? ⟨bs, 0, none⟩ = some (.pointer (some ⟨S.b, 0, none⟩)) ∧ W'.cell? ⟨w.heap.size, 0, none⟩ = some (.int .i64 (p.i : Int)) ∧ W'.cell? ⟨w.heap.size, 1, none⟩ = some (.int .i64 (p.m : Int)) ∧ W'.cell? ⟨w.heap.size, 2, none⟩ = some (.int .i64 p.l) ∧ W'.cell? ⟨w.heap.size, 3, none⟩ = some (.int .i64 p.h) ∧ W'.cell? ⟨w.heap.size, 6, none⟩ = some (.int .i64 (wn : Int)) ∧ W'.cell? ⟨w.heap.size, 7, none⟩ = some (.int .i64 (a : Int)) ∧ W'.cell? ⟨S.b, 0, none⟩ = some (.slice (some a0) X.l0.length S.c0) ∧ W'.cell? (a0.add (wn * 2)) = some (.string T) from by
    have h := HB.out.next hb
    obtain ⟨x0, x1, x2, x3, x4, x5, x6, x7⟩ := h.hx.cells
    obtain ⟨a0', eA0', c0, z0⟩ := HZ0.out W' h.vw.sr
    rw [eA0] at eA0'
    injection eA0' with eA0'
    subst eA0'
    exact ⟨h.vw.hs.cell, x0, x1, x2, x3, x6, x7, c0, z0⟩)
   obtain ⟨q1, q2, q3, q4, q5, q6, q7, q8, q9⟩ := HCC.out wy (Below.refl _ _)
   have sl := World.block_lt_of_cell? wy _ q1
   have xl := World.block_lt_of_cell? wy _ q2
   have cl := World.block_lt_of_cell? wy _ q8
   have zl := World.block_lt_of_cell? wy _ q9
   clear eA0
   go_region_held3 (fun w' => w'.cell? ⟨bs, 0, none⟩ = some (.pointer (some ⟨S.b, 0, none⟩)) ∧ w'.cell? ⟨w.heap.size, 0, none⟩ = some (.int .i64 (p.i : Int)) ∧ w'.cell? ⟨w.heap.size, 1, none⟩ = some (.int .i64 (p.m : Int)) ∧ w'.cell? ⟨w.heap.size, 2, none⟩ = some (.int .i64 p.l) ∧ w'.cell? ⟨w.heap.size, 3, none⟩ = some (.int .i64 p.h) ∧ w'.cell? ⟨w.heap.size, 6, none⟩ = some (.int .i64 (wn : Int)) ∧ w'.cell? ⟨w.heap.size, 7, none⟩ = some (.int .i64 (a : Int)) ∧ w'.cell? ⟨S.b, 0, none⟩ = some (.slice (some a0) X.l0.length S.c0) ∧ w'.cell? (a0.add (wn * 2)) = some (.string T))
    (first | exact HCC.out _ HB5.out | go_keep)
    (first
     | (go_at_call 91; refine (HLC.out wy.drew (HB.out.next (Below.drew (Below.refl _ _))).vw.sr).mono ?_; rintro e w5 ⟨v5, rfl, hv5, hb5⟩; obtain ⟨A5, c5, rfl, -, -⟩ := Kd.R_reads hv5; have HR5 := Aside0.mk hv5; have HB5 := Aside0.mk (show Below wy.heap.size wy w5 from (Below.drew (Below.refl _ _)).trans hb5); clear hb5 hv5))
   have HB6 := Aside0.mk (HB.out.next HB5.out)
   obtain ⟨nb, hnb⟩ : ∃ nb, nb = wy.drew.heap.size := ⟨_, rfl⟩
   have HR6 := Aside0.mk (show kP.R 154 w5 nb (fun _ => True) (.slice A5 ls.length c5) ls by rw [hnb]; exact HR5.out)
   clear q1 q2 q3 q4 q5 q6 q7 q8 q9 sl xl cl zl HCC HB HB5 HR5 hnb hkz hkd hkd2 had had2 hwd
   go_wp2_with fail
   go_loopg [9, 73] ls.length (fun g _ s73 wr => ∃ (j bst : Nat), j + g = ls.length ∧ s73 = .int .i64 (j : Int) ∧ Aside0 (bst = max b1 (supN ((ls.map fun q => farV X q k f (wn : Int) (a + 1)).take j)) ∧ bst ≤ X.r.length) ∧ Aside0 (VB X S fits w0 ⟨bs, bb, bm, bv, mm⟩ w p k f (wn : Int) a bst (fun v => v = key ∨ E v) wr) ∧ Aside0 (kP.R 154 wr nb (fun _ => True) (.slice A5 ls.length c5) ls))
   case atStart => exact ⟨0, b1, by omega, rfl, ⟨by simp [supN], HB1L.out⟩, HB6, HR6⟩
   case round =>
    clear HB6 HR6
    obtain ⟨j, bst, hj, rfl, HBS, HB, HR⟩ := hrel
    have HJN := Aside0.mk hj
    clear hj
    by_cases hlt : j < ls.length
    ·have hjz : (j : Int) < (ls.length : Int) := by omega
     have hjd : decide (j < ls.length) = true := decide_eq_true hlt
     have HLT := Aside0.mk hlt
     obtain ⟨ad, rfl, e0, e1, e2, e3, e4, e5, e6, e7⟩ := at_P (Kd.R_reads' HR.out).2.2 j hlt
     obtain ⟨q, hq⟩ : ∃ q, q = ls.getD j zP := ⟨_, rfl⟩
     rw [← hq] at e0 e1 e2 e3 e4 e5 e6 e7
     have hqe : q = ls[j] := by rw [hq, List.getD_eq_getElem?_getD, List.getElem?_eq_getElem hlt]; rfl
     have HQ := Aside0.mk (show OkP X q from HLOK.out q (by rw [hqe]; exact List.getElem_mem hlt))
     have HTK := Aside0.mk (show max bst (farV X q k f (wn : Int) (a + 1)) = max b1 (supN ((ls.map fun q => farV X q k f (wn : Int) (a + 1)).take (j + 1))) by
      rw [supN_take (by rw [List.length_map]; exact hlt), List.getElem_map, ← hqe, HBS.out.1, Nat.max_assoc])
     have HQL := Aside0.mk (show max bst (farV X q k f (wn : Int) (a + 1)) ≤ X.r.length from Nat.max_le.2 ⟨HBS.out.2, farV_le X q _ _ _ _ HQ.out.i⟩)
     have pl := World.block_lt_of_cell? wr _ e0
     clear hq hqe
     obtain ⟨b9, hb9⟩ : ∃ b, b = wr.heap.size := ⟨_, rfl⟩
     go_upto_region 11 with fail
     refine wp_gen (fun wx => Aside0 (VB X S fits w0 ⟨bs, bb, bm, bv, mm⟩ w p k f (wn : Int) a bst (fun v => v = key ∨ E v) wx) ∧ Aside0 (kP.R 154 wx nb (fun _ => True) (.slice (some ad) ls.length c5) ls) ∧ Aside0 (PAt wx b9 q)) ⟨⟨HB.out.next ((Below.refl _ _).alloc (Nat.le_refl _) _)⟩, ⟨Kd.R_alloc HR.out _⟩, ⟨by rw [hb9]; exact blk_new wr _⟩⟩ ?_
     rw [← hb9]
     clear hb9 e0 e1 e2 e3 e4 e5 e6 e7 pl HB HR
     rintro wx ⟨HB, HR, H9⟩
     obtain ⟨e0, e1, e2, e3, e4, e5, e6, e7⟩ := H9.out.cells
     have pl := blk_lt H9.out
     obtain ⟨x0, x1, x2, x3, x4, x5, x6, x7⟩ := HB.out.hx.cells
     have xl := blk_lt HB.out.hx
     have v0 := (blk_cell HB.out.vw.hv 0).trans (show (#[Value.func (.func 89) #[] (capV ⟨bs, bb, bm, bv, mm⟩)] : Array Value)[0]? = some (Value.func (.func 89) #[] (capV ⟨bs, bb, bm, bv, mm⟩)) from rfl)
     have vl := blk_lt HB.out.vw.hv
     unfold capV at v0
     simp only at v0
     have HVC := Aside0.mk (HREC.out (mu k (a + 1)) (by rw [← HMU.out]; unfold mu; have := haT; omega) q k f (wn : Int) (a + 1) rfl HQ.out.spot hf0 hf1 hk (by omega) hw0 hw1 HWK.out bst _ wx (fun q' k' f' wi' a' h => by
      have h2 := HKE.out _ h q' k' f' wi' a' rfl
      have h3 : mu k (a + 1) < n := by rw [← HMU.out]; unfold mu; have := haT; omega
      omega) HBS.out.2 HB.out.vw)
     unfold ptC capV at HVC
     simp only at HVC
     go_wp2_with (first
      | (go_at_call 89; refine HVC.out.mono ?_; rintro e w7 ⟨rfl, hv7, hg7⟩; have HB7 := Aside0.mk (HB.out.call hv7 hg7); have HR7 := Aside0.mk (R_gb HR.out HB.out.vw.hb (HB.out.vw.mlt).choose_spec.choose_spec hg7); clear hv7 hg7)
      | fail)
     go_roundg (gk - 1)
     case measure => have := HJN.out; have := HLT.out; omega
     case rel => exact ⟨j + 1, _, by have := HJN.out; have := HLT.out; omega, by go_num, ⟨HTK.out, HQL.out⟩, HB7, HR7⟩
    ·have hjz : ¬ (j : Int) < (ls.length : Int) := by omega
     have hjd : decide (j < ls.length) = false := decide_eq_false hlt
     have HFIN := Aside0.mk (HEND.out wr bst (by
      have h1 := HBS.out.1
      rw [List.take_of_length_le (by rw [List.length_map]; omega), HB1.out, Nat.max_assoc, ← HFV2.out] at h1
      exact h1) HB.out)
     go_wp2_with fail
     refine bodyPost_ret (results_none rfl _ _ _) rfl ⟨rfl, HFIN.out.1, HFIN.out.2⟩
  ·have HFV2 := Aside0.mk (show fv = max rr (supN (farW X p k f)) by rw [HFV.out, if_neg hA])
   have HWC := Aside0.mk (fun (W : World) (j : Nat) (hj : j < X.l0.length) (h : SrW X S fits W) => show Calls Try.prog 80 #[.pointer (some ⟨S.b, 0, none⟩), .agg #[.int .i64 (p.i : Int), .int .i64 (p.m : Int), .int .i64 p.l, .int .i64 p.h, .int .i64 (k : Int), .int .i64 f], .int .i64 (rd_T53 X.l0 (j : Int)).f1] W fun e w' => e = .returned (.bool (mayV X k f (rd_T53 X.l0 (j : Int)).f1)) ∧ Below W.heap.size W w' from by
    obtain ⟨h5a, h5b, h5c, h5d⟩ := HL.out.wd j hj
    exact may_calls X S fits (p.i : Int) (p.m : Int) p.l p.h k f _ W h h5c h5d hf0 (by rw [HL.out.l3]; exact hf1) (by rw [HL.out.l3r f hf0 hf1]; exact h5d) (by omega))
   have hl0 : X.l0.length ≤ 1000 := HL.out.n0
   go_upto_region 7 with fail
   go_cut [52] (fun s52 wx => s52 = .bool false ∧ Aside0 (VB X S fits w0 ⟨bs, bb, bm, bv, mm⟩ w p k f wi a b1 (fun v => v = key ∨ E v) wx))
   case first =>
    obtain ⟨x0, x1, x2, x3, x4, x5, x6, x7⟩ := HBx.out.hx.cells
    have xl := blk_lt HBx.out.hx
    by_cases hk0 : 0 < k
    ·have hwl := HWK.out hk0
     obtain ⟨wn, rfl⟩ : ∃ wn : Nat, wi = (wn : Int) := ⟨wi.toNat, by omega⟩
     obtain ⟨T, hT⟩ : ∃ T, T = (rd_T53 X.l0 (wn : Int)).f0 := ⟨_, rfl⟩
     have haT : ¬ a < T.size := by rw [hT]; exact fun h => hA ⟨hk0, h⟩
     have hT8 : T.size ≤ 8 := by rw [hT]; exact H8.out (wn : Int)
     have hkz : (0 : Int) < (k : Int) := by omega
     have hkd : decide ((0 : Int) < (k : Int)) = true := decide_eq_true hkz
     have hkd2 : decide (0 < k) = true := decide_eq_true hk0
     have had : decide ((a : Int) < (T.size : Int)) = false := decide_eq_false (by omega)
     have had2 : decide (a < T.size) = false := decide_eq_false haT
     have hwz : (wn : Int) < (X.l0.length : Int) := hwl
     have hwd : decide (wn < X.l0.length) = true := decide_eq_true (by omega)
     obtain ⟨a0, eA0, z0, z1⟩ := at_T53 HBx.out.vw.sr.h0 (wn : Int) (by omega) hwl
     rw [Int.toNat_natCast] at z0
     rw [← hT] at z0
     have c0 := HBx.out.vw.sr.cell 0 HBx.out.vw.sr.e0
     rw [eA0] at c0
     have hs := HBx.out.vw.hs.cell
     have sl := blk_lt HBx.out.vw.hs
     have cl := blk_lt HBx.out.vw.sr.blk
     have zl := World.block_lt_of_cell? wc _ z0
     clear hT z1 eA0 hA
     go_wp2_with first | go_quiet (fail) | fail
     refine Met.intro ?_
     go_step
     (repeat apply Exists.intro)
     refine ⟨?_, rfl⟩
     exact ⟨rfl, ⟨HBx.out.next (pw_below_drewN (Below.refl _ _) _)⟩⟩
    ·have hkd : decide ((0 : Int) < (k : Int)) = false := decide_eq_false (by omega)
     have hkd2 : decide (0 < k) = false := decide_eq_false hk0
     clear hA
     go_wp2_with first | go_quiet (fail) | fail
     refine Met.intro ?_
     go_step
     (repeat apply Exists.intro)
     refine ⟨?_, rfl⟩
     exact ⟨rfl, ⟨HBx.out.next (pw_below_drewN (Below.refl _ _) _)⟩⟩
   case rest =>
    obtain ⟨rfl, HBy⟩ := hcut
    clear HBx hA
    rename World => wd
    have hs := HBy.out.vw.hs.cell
    have sl := blk_lt HBy.out.vw.hs
    have c0 := HBy.out.vw.sr.cell 0 HBy.out.vw.sr.e0
    obtain ⟨A0v, hA0v⟩ : ∃ A, A = S.A0 := ⟨_, rfl⟩
    rw [← hA0v] at c0
    have HA0 := Aside0.mk hA0v
    clear hA0v
    have cl := blk_lt HBy.out.vw.sr.blk
    go_wp2_with fail
    clear hs sl c0 cl
    go_loopg [10, 11, 101] X.l0.length (fun g _ _ s101 wr => ∃ (j bst : Nat), j + g = X.l0.length ∧ s101 = .int .i64 (j : Int) ∧ Aside0 (bst = max b1 (supN ((farW X p k f).take j)) ∧ bst ≤ X.r.length) ∧ Aside0 (VB X S fits w0 ⟨bs, bb, bm, bv, mm⟩ w p k f wi a bst (fun v => v = key ∨ E v) wr))
    case atStart => exact ⟨0, b1, by omega, rfl, ⟨by simp [supN], HB1L.out⟩, HBy⟩
    case round =>
     clear HBy
     obtain ⟨j, bst, hj, rfl, HBS, HB⟩ := hrel
     have HJN := Aside0.mk hj
     clear hj
     by_cases hlt : j < X.l0.length
     ·have hjz : (j : Int) < (X.l0.length : Int) := by omega
      have hjd : decide (j < X.l0.length) = true := decide_eq_true hlt
      have HLT := Aside0.mk hlt
      have HW1 := Aside0.mk (HL.out.wd j hlt)
      obtain ⟨a0, eA0, y0, y1⟩ := at_T53 HB.out.vw.sr.h0 (j : Int) (by omega) hjz
      simp only [Int.toNat_natCast] at y0 y1
      have HMC := Aside0.mk (fun (W : World) (h : SrW X S fits W) => HWC.out W j hlt h)
      have HTK := Aside0.mk (show max b1 (supN ((farW X p k f).take (j + 1))) = max bst (if mayV X k f (rd_T53 X.l0 (j : Int)).f1 = true then farV X p (k + 1) (rd_T53 X.l0 (j : Int)).f1 (j : Int) 0 else 0) by
       rw [supN_take (by unfold farW; rw [List.length_map, List.length_zipIdx]; exact hlt), HBS.out.1, Nat.max_assoc]
       congr 2
       unfold farW
       rw [List.getElem_map, List.getElem_zipIdx, Nat.zero_add, ← rd53 X.l0 j hlt])
      obtain ⟨wd2, hwd2⟩ : ∃ wd, wd = rd_T53 X.l0 (j : Int) := ⟨_, rfl⟩
      rw [← hwd2] at y0 y1 HMC HTK HW1
      rw [← HA0.out] at eA0
      subst eA0
      have hl4 := World.block_lt_of_cell? wr _ y0
      obtain ⟨b11, hb11⟩ : ∃ b, b = wr.heap.size := ⟨_, rfl⟩
      clear hwd2
      go_upto_region 16 with fail
      refine wp_gen (fun wx => Aside0 (VB X S fits w0 ⟨bs, bb, bm, bv, mm⟩ w p k f wi a bst (fun v => v = key ∨ E v) wx) ∧ Aside0 (WdAt wx b11 wd2)) ⟨⟨HB.out.next ((Below.refl _ _).alloc (Nat.le_refl _) _)⟩, ⟨by rw [hb11]; exact blk_new wr _⟩⟩ ?_
      rw [← hb11]
      clear hb11 y0 y1 hl4 HB
      rintro wx ⟨HB, HWD⟩
      have hs := HB.out.vw.hs.cell
      have sl := blk_lt HB.out.vw.hs
      obtain ⟨x0, x1, x2, x3, x4, x5, x6, x7⟩ := HB.out.hx.cells
      have xl := blk_lt HB.out.hx
      obtain ⟨y0, y1⟩ := HWD.out.cells
      have yl := blk_lt HWD.out
      obtain ⟨mv, hmv⟩ : ∃ b, b = mayV X k f wd2.f1 := ⟨_, rfl⟩
      rw [← hmv] at HMC HTK
      have HMV := Aside0.mk hmv
      clear hmv
      cases mv with
      | false =>
       go_wp2_with (first
        | (go_at_call 80; refine (HMC.out _ HB.out.vw.sr).mono ?_; rintro e w7 ⟨rfl, hb7⟩; have HB7 := Aside0.mk (HB.out.next hb7); clear hb7)
        | fail)
       go_roundg (gk - 1)
       case measure => have := HJN.out; have := HLT.out; omega
       case rel => exact ⟨j + 1, bst, by have := HJN.out; have := HLT.out; omega, by go_num, ⟨by rw [HTK.out, if_neg (by decide), Nat.max_eq_left (Nat.zero_le _)], HBS.out.2⟩, HB7⟩
      | true =>
       have hk8 : k < 8 := by
        by_cases h : k < 8
        ·exact h
        ·have h2 := HMV.out
         rw [mayV_full (by omega)] at h2
         cases h2
       have HVC := Aside0.mk (fun (W : World) (h : VW X S fits w0 ⟨bs, bb, bm, bv, mm⟩ bst (fun v => v = key ∨ E v) W) => HREC.out (mu (k + 1) 0) (by rw [← HMU.out]; unfold mu; omega) p (k + 1) wd2.f1 (j : Int) 0 rfl HP.out HW1.out.2.2.1 HW1.out.2.2.2 hk8 (by omega) (by omega) (by omega) (fun _ => hjz) bst _ W (fun q' k' f' wi' a' h => by
        have h2 := HKE.out _ h q' k' f' wi' a' rfl
        have h3 : mu (k + 1) 0 < n := by rw [← HMU.out]; unfold mu; omega
        omega) HBS.out.2 h)
       have HQL := Aside0.mk (show max bst (farV X p (k + 1) wd2.f1 (j : Int) 0) ≤ X.r.length from Nat.max_le.2 ⟨HBS.out.2, farV_le X p _ _ _ _ HP.out.i⟩)
       unfold ptC capV at HVC
       simp only at HVC
       go_upto_region 17 with (first
        | (go_at_call 80; refine (HMC.out _ HB.out.vw.sr).mono ?_; rintro e w7 ⟨rfl, hb7⟩; have HB7 := Aside0.mk (HB.out.next hb7); have HWD7 := Aside0.mk (show WdAt w7 b11 wd2 from blk_below HWD.out hb7); clear hb7)
        | fail)
       clear hs sl x0 x1 x2 x3 x4 x5 x6 x7 xl y0 y1 yl
       obtain ⟨x0, x1, x2, x3, x4, x5, x6, x7⟩ := HB7.out.hx.cells
       have xl := blk_lt HB7.out.hx
       obtain ⟨y0, y1⟩ := HWD7.out.cells
       have yl := blk_lt HWD7.out
       have v0 := (blk_cell HB7.out.vw.hv 0).trans (show (#[Value.func (.func 89) #[] (capV ⟨bs, bb, bm, bv, mm⟩)] : Array Value)[0]? = some (Value.func (.func 89) #[] (capV ⟨bs, bb, bm, bv, mm⟩)) from rfl)
       have vl := blk_lt HB7.out.vw.hv
       unfold capV at v0
       simp only at v0
       go_wp2_with (first
        | (go_at_call 89; refine (HVC.out _ HB7.out.vw).mono ?_; rintro e w8 ⟨rfl, hv8, hg8⟩; have HB8 := Aside0.mk (HB7.out.call hv8 hg8); clear hv8 hg8)
        | fail)
       go_roundg (gk - 1)
       case measure => have := HJN.out; have := HLT.out; omega
       case rel => exact ⟨j + 1, _, by have := HJN.out; have := HLT.out; omega, by go_num, ⟨by rw [HTK.out, if_pos (by trivial)], HQL.out⟩, HB8⟩
     ·have hjz : ¬ (j : Int) < (X.l0.length : Int) := by omega
      have hjd : decide (j < X.l0.length) = false := decide_eq_false hlt
      have HFIN := Aside0.mk (HEND.out wr bst (by
       have h1 := HBS.out.1
       rw [List.take_of_length_le (by unfold farW; rw [List.length_map, List.length_zipIdx]; omega), HB1.out, Nat.max_assoc, ← HFV2.out] at h1
       exact h1) HB.out)
      go_wp2_with fail
      first
       | refine bodyPost_ret (results_none rfl _ _ _) rfl ⟨rfl, HFIN.out.1, HFIN.out.2⟩
       | refine bodyPost_end (results_none rfl _ _ _) rfl ⟨rfl, HFIN.out.1, HFIN.out.2⟩
end Go.Proofs.Ytkfebceainedfaa.P.OwnGap
namespace Go.Proofs.Ytkfebceainedfaa.P.OwnGap
open Go.RowKit Go.Maps Go.Proofs.YtkfebceainedfaaW.PrintWords Go.Proofs.YtkfebceainedfaaW.PrintLast Go.Proofs.YtkfebceainedfaaW.PrintMore
open Go.Proofs.Ytkfebceainedfaa.OwnGap
set_option linter.unusedVariables false
set_option linter.unusedSimpArgs false
attribute [local go_sem] Oper.semAt_some
theorem blk_far' {W : World} {b g o : Nat} {ob : Obj} (h : W.heap[b]? = some ob) (hb : b ≠ g) (v : Value) : (W.setCell ⟨g, o, none⟩ v).heap[b]? = some ob :=
 (Below.heap_setCell W _ v b hb).trans h
theorem vis_all (X : Lx) (S : SV) (fits : List Int) (hX : OkX X fits) (hL : OkL X) (h8 : ∀ j : Int, lettersN X j ≤ 8) (w0 : World) (L : FL) : ∀ n, VisC X S fits w0 L n := by
 intro n
 induction n using Nat.strongRecOn with
 | ind n ih => exact vis_step X S fits hX hL h8 w0 L n ih
set_option maxHeartbeats 4000000 in
set_option maxRecDepth 100000 in
theorem far_calls (X : Lx) (S : SV) (fits : List Int) (hX : OkX X fits) (hL : OkL X) (hP : OkP X p0) (h8 : ∀ j : Int, lettersN X j ≤ 8) (w : World) (hS : SrW X S fits w) :
  Calls Try.prog 71 #[.pointer (some ⟨S.b, 0, none⟩)] w fun e w' => e = .returned (.int .i64 (farV X p0 0 0 0 0 : Nat)) ∧ Below w.heap.size w w' := by
 have HVA := Aside0.mk (vis_all X S fits hX hL h8 w)
 have HP := Aside0.mk hP
 have HL := Aside0.mk hL
 have HS := Aside0.mk hS
 clear hX hL h8 hS hP
 obtain ⟨fv, hfv⟩ : ∃ x, x = farV X p0 0 0 0 0 := ⟨_, rfl⟩
 rw [← hfv]
 have HFE := Aside0.mk hfv
 clear hfv
 obtain ⟨n0, hn0⟩ : ∃ n, n = w.heap.size := ⟨_, rfl⟩
 have HN := Aside0.mk hn0
 go_enter Try.func71, Try.ntmps71
 rw [← hn0]
 go_upto_region 2 with fail
 refine wp_gen (fun wx => Aside0 (Below n0 w wx ∧ wx.heap.size = n0 + 2 ∧ SpAt wx n0 S ∧ wx.heap[n0 + 1]? = some (.cells #[.int .i64 0] 3 (0, 0)))) ?_ ?_
 ·rw [hn0]
  refine ⟨((Below.refl _ _).alloc (Nat.le_refl _) _).alloc (by simp) _, by simp, blk_alloc (blk_new w _) _, ?_⟩
  have h2 := blk_new (w.alloc (.cells #[.pointer (some ⟨S.b, 0, none⟩)] 92)) (.cells #[.int .i64 0] 3)
  rw [World.size_alloc] at h2
  exact h2
 rw [← hn0]
 clear hn0
 rintro w1 H1
 have hz1 := H1.out.2.1
 have hmk := run_makeMap (P := Try.prog) 148 w1
 go_upto_region 3 with fail
 refine wp_gen (fun wx => Aside0 (Below n0 w wx ∧ wx.heap.size = n0 + 4 ∧ SpAt wx n0 S ∧ wx.heap[n0 + 1]? = some (.cells #[.int .i64 0] 3 (0, 0)) ∧ wx.heap[n0 + 2]? = some (.map #[] 0) ∧ wx.heap[n0 + 3]? = some (.cells #[.map (some (n0 + 2))] 148 (0, 0)))) ?_ ?_
 ·obtain ⟨h1, h2, h3, h4⟩ := H1.out
  refine ⟨(h1.alloc (by omega) _).alloc (by simp; omega) _, by simp; omega, blk_alloc (blk_alloc h3 _) _, blk_alloc (blk_alloc h4 _) _, ?_, ?_⟩
  ·have e := blk_new w1 (.map #[] 0)
   rw [h2] at e
   exact blk_alloc e _
  ·have e := blk_new (w1.alloc (.map #[] 0)) (.cells #[.map (some (n0 + 2))] 148)
   rw [World.size_alloc, h2] at e
   exact e
 rw [show n0 + 2 + 1 = n0 + 3 from rfl]
 clear H1 hz1 hmk
 rintro w2 H2
 have hz2 := H2.out.2.1
 go_upto_region 4 with fail
 refine wp_gen (fun wx => Aside0 (Below n0 w wx ∧ wx.heap.size = n0 + 5 ∧ SpAt wx n0 S ∧ wx.heap[n0 + 1]? = some (.cells #[.int .i64 0] 3 (0, 0)) ∧ wx.heap[n0 + 2]? = some (.map #[] 0) ∧ wx.heap[n0 + 3]? = some (.cells #[.map (some (n0 + 2))] 148 (0, 0)) ∧ ∃ v, wx.heap[n0 + 4]? = some (.cells #[v] 149 (0, 0)))) ?_ ?_
 ·obtain ⟨h1, h2, h3, h4, h5, h6⟩ := H2.out
  refine ⟨h1.alloc (by omega) _, by simp; omega, blk_alloc h3 _, blk_alloc h4 _, blk_alloc h5 _, blk_alloc h6 _, ?_⟩
  rw [← h2]
  exact ⟨_, blk_new w2 _⟩
 clear H2 hz2
 rintro w3 H3
 obtain ⟨v5, hv5⟩ := H3.out.2.2.2.2.2.2
 have f5 := blk_frozen hv5 0
 have l5 := blk_lt hv5
 have c5 := (blk_cell hv5 0).trans (show (#[v5] : Array Value)[0]? = some v5 from rfl)
 have HV5 := Aside0.mk hv5
 clear hv5
 go_upto_region 5 with fail
 refine wp_gen (fun wx => Aside0 (VW X S fits w ⟨n0, n0 + 1, n0 + 3, n0 + 4, n0 + 2⟩ 0 (fun _ => False) wx)) ?_ ?_
 ·obtain ⟨h1, h2, h3, h4, h5, h6, -⟩ := H3.out
  refine ⟨{ s0 := HS.out, below := HN.out ▸ h1.setCell (show n0 ≤ n0 + 4 by omega) _, n1 := by rw [← HN.out]; show n0 ≤ n0 + 1; omega, n2 := by rw [← HN.out]; show n0 ≤ n0 + 2; omega, hs := blk_far h3 (by show n0 ≠ n0 + 4; omega) _, hb := blk_far h4 (by show n0 + 1 ≠ n0 + 4; omega) _, hm := blk_far h6 (by show n0 + 3 ≠ n0 + 4; omega) _, hv := ?_, memo := ⟨#[], 0, blk_far' h5 (by show n0 + 2 ≠ n0 + 4; omega) _, by simp⟩ }⟩
  have e := blk_set HV5.out 0 (Value.func (.func 89) #[] (capV ⟨n0, n0 + 1, n0 + 3, n0 + 4, n0 + 2⟩))
  simpa [capV] using e
 clear H3 HV5 f5 l5 c5
 rintro w4 HV
 have v0 := (blk_cell HV.out.hv 0).trans (show (#[Value.func (.func 89) #[] (capV ⟨n0, n0 + 1, n0 + 3, n0 + 4, n0 + 2⟩)] : Array Value)[0]? = some (Value.func (.func 89) #[] (capV ⟨n0, n0 + 1, n0 + 3, n0 + 4, n0 + 2⟩)) from rfl)
 have vl := blk_lt HV.out.hv
 have HC := Aside0.mk (HVA.out ⟨n0, n0 + 1, n0 + 3, n0 + 4, n0 + 2⟩ (mu 0 0) p0 0 0 0 0 rfl HP.out (by decide) (by have := HL.out.one; omega) (by decide) (by decide) (by decide) (by decide) (fun h => absurd h (by decide)) 0 (fun _ => False) w4 (fun _ _ _ _ _ h => h.elim) (Nat.zero_le _) HV.out)
 unfold ptC capV at HC
 unfold capV at v0
 simp only at HC v0
 rw [← HFE.out, Nat.max_eq_right (Nat.zero_le fv)] at HC
 go_wp2_with (first
  | (go_at_call 89; refine HC.out.mono ?_; rintro e w5 ⟨rfl, hv5, hg5⟩; have HV5 := Aside0.mk hv5; have b0 := (blk_cell hv5.hb 0).trans (show (#[Value.int .i64 (fv : Int)] : Array Value)[0]? = some (Value.int .i64 (fv : Int)) from rfl); have bl := blk_lt hv5.hb; clear hv5 hg5)
  | fail)
 go_ret
 refine ⟨rfl, ?_⟩
 rw [HN.out]
 exact HV5.out.below
theorem lettersN_le {X : Lx} (hL : OkL X) (j : Int) : lettersN X j ≤ 8 := by
 unfold lettersN rd_T53
 by_cases h : j.toNat < X.l0.length
 ·have h1 := (hL.wd j.toNat h).2.1
  unfold rd_T53 at h1
  rw [Int.toNat_natCast] at h1
  exact h1
 ·rw [List.getD_eq_getElem?_getD, List.getElem?_eq_none (by omega)]
  decide
theorem first_sr {X : Lx} {S : SV} (hb : bothV X.l0 X.l1 X.l2 X.l3 X.l4 X.r = 0) (most : Nat) (hm : most ≤ 100000) (w0 : World) (h0 : AW X S (X.r.map fun c => ofV c.f0) w0) (n0 : Nat) (hn : n0 ≤ w0.heap.size) (hmb : n0 ≤ S.mb) :
  Calls Try.prog 51 #[.pointer (some ⟨S.b, 0, none⟩), .int .i64 (most : Int)] w0 fun e w' => ∃ A c, e = .returned (.slice A (firstL X most).length c) ∧ (firstL X most).length ≤ c ∧ k31.R 31 w' w0.heap.size (fun _ => True) (.slice A (firstL X most).length c) (firstL X most) ∧ SrW X S (X.r.map fun c => ofV c.f0) w' ∧ Below n0 w0 w' := by
 obtain ⟨hc, hr⟩ := bothV_zero hb
 have oc := checkV_zero (X := X) hc
 have or := rowV_zero hr
 refine (first_full X S _ (okX_of oc or) (okL_of oc) (okP_of or) most hm w0 h0).mono ?_
 rintro e w' ⟨v, rfl, hR, hg⟩
 obtain ⟨A, c, rfl, hl, -⟩ := Kd.R_reads hR
 exact ⟨A, c, rfl, hl, hR, h0.sr.same (h0.same hg) (hg.block S.b (blk_lt h0.sr.blk) (fun e => h0.ne h0.sr.blk (by injection e))), (Below.refl n0 w0).grown hg hn (fun k hk => by injection hk with hk; rw [← hk]; exact hmb)⟩
def stuckV (l0 : List S53) (l1 l2 : List Bool) (l3 : List (List Bool)) (l4 : List S47) (r : List S49) : Int × Int :=
 if bothV l0 l1 l2 l3 l4 r = 0 then (if 0 < (firstL ⟨l0, l1, l2, l3, l4, r⟩ 1).length then (0, 11) else (((farV ⟨l0, l1, l2, l3, l4, r⟩ p0 0 0 0 0 : Nat) : Int), 0)) else (0, bothV l0 l1 l2 l3 l4 r)
set_option maxHeartbeats 2000000 in
set_option maxRecDepth 100000 in
theorem stuck_calls (X : Lx) (A0 A1 A2 A3 A4 Ar : Option Addr) (c0 c1 c2 c3 c4 cr : Nat) (w : World) (hin : LxIn X A0 A1 A2 A3 A4 Ar c0 c1 c2 c3 c4 cr w) (hb : bothV X.l0 X.l1 X.l2 X.l3 X.l4 X.r = 0) :
  Calls Try.prog 36 #[.agg #[.slice A0 X.l0.length c0, .slice A1 X.l1.length c1, .slice A2 X.l2.length c2, .slice A3 X.l3.length c3, .slice A4 X.l4.length c4], .slice Ar X.r.length cr] w fun e w' => e = .returned (.tuple #[.int .i64 (stuckV X.l0 X.l1 X.l2 X.l3 X.l4 X.r).1, .int .i64 (stuckV X.l0 X.l1 X.l2 X.l3 X.l4 X.r).2]) ∧ Below w.heap.size w w' := by
 have HIN := Aside0.mk hin
 clear hin
 have HX := Aside0.mk (bxAt_new (X := X) A0 A1 A2 A3 A4 c0 c1 c2 c3 c4 w)
 have HI0 := Aside0.mk (HIN.out.below ((Below.refl _ _).alloc (Nat.le_refl _) _ : Below w.heap.size w (w.alloc (.cells #[.slice A0 X.l0.length c0, .slice A1 X.l1.length c1, .slice A2 X.l2.length c2, .slice A3 X.l3.length c3, .slice A4 X.l4.length c4] 28))))
 have HZ := Aside0.mk (show (w.alloc (.cells #[.slice A0 X.l0.length c0, .slice A1 X.l1.length c1, .slice A2 X.l2.length c2, .slice A3 X.l3.length c3, .slice A4 X.l4.length c4] 28)).heap.size = w.heap.size + 1 by simp)
 have HB0 := Aside0.mk ((Below.refl _ _).alloc (Nat.le_refl _) _ : Below w.heap.size w (w.alloc (.cells #[.slice A0 X.l0.length c0, .slice A1 X.l1.length c1, .slice A2 X.l2.length c2, .slice A3 X.l3.length c3, .slice A4 X.l4.length c4] 28)))
 have HBV := Aside0.mk hb
 have HV0 := Aside0.mk (show stuckV X.l0 X.l1 X.l2 X.l3 X.l4 X.r = (if 0 < (firstL X 1).length then (0, 11) else (((farV X p0 0 0 0 0 : Nat) : Int), 0)) from if_pos hb)
 obtain ⟨hck, hrk⟩ := bothV_zero hb
 have oc := checkV_zero (X := X) hck
 have or := rowV_zero hrk
 have HFC := Aside0.mk (fun (S : SV) (W : World) (h : SrW X S (X.r.map fun c => ofV c.f0) W) => far_calls X S _ (okX_of oc or) (okL_of oc) (okP_of or) (lettersN_le (okL_of oc)) W h)
 obtain ⟨fv, hfv⟩ : ∃ x, x = farV X p0 0 0 0 0 := ⟨_, rfl⟩
 rw [← hfv] at HV0 HFC
 obtain ⟨m, hm⟩ : ∃ m, m = (firstL X 1).length := ⟨_, rfl⟩
 rw [← hm] at HV0
 have HF1 := Aside0.mk (fun (S : SV) (W : World) (h0 : AW X S (X.r.map fun c => ofV c.f0) W) (n0 : Nat) (hn : n0 ≤ W.heap.size) (hmb : n0 ≤ S.mb) => show Calls Try.prog 51 #[.pointer (some ⟨S.b, 0, none⟩), .int .i64 1] W fun e w' => ∃ A c, e = .returned (.slice A m c) ∧ m ≤ c ∧ SrW X S (X.r.map fun c => ofV c.f0) w' ∧ Below n0 W w' from by
  rw [hm]
  exact (first_sr hb 1 (by decide) W h0 n0 hn hmb).mono (fun e w' ⟨A, c, h1, h2, _, h3, h4⟩ => ⟨A, c, h1, h2, h3, h4⟩))
 clear hb hck hrk oc or hfv hm
 by_cases hm0 : 0 < m
 ·have hmz : (0 : Int) < (m : Int) := by omega
  have hmd : decide ((0 : Int) < (m : Int)) = true := decide_eq_true hmz
  have hmd2 : decide (0 < m) = true := decide_eq_true hm0
  have HV := Aside0.mk (show stuckV X.l0 X.l1 X.l2 X.l3 X.l4 X.r = (0, 11) by rw [HV0.out, if_pos hm0])
  clear HV0
  go_enter Try.func36, Try.ntmps36
  go_wp2_with first | (go_at_call 48; refine (both_calls HI0.out HBV.out).mono ?_; rintro e w1 ⟨rfl, hb1⟩; rw [HBV.out]; have HB1 := Aside0.mk (HB0.out.trans (hb1.mono (by rw [HZ.out]; omega))); have HX1 := HX.out.below hb1; obtain ⟨x0, x1, x2, x3, x4⟩ := HX1.cells; have xl := blk_lt HX1; clear hb1) | (go_at_call 50; refine (search_calls (HIN.out.below HB1.out) HBV.out).mono ?_; rintro e w2 ⟨S, rfl, haw, hb2, hmb, hsb⟩; have HAW := Aside0.mk haw; have HB2 := Aside0.mk (HB1.out.trans (hb2.mono HB1.out.size)); have HMB := Aside0.mk (Nat.le_trans HB1.out.size hmb); clear haw hb2 hmb hsb) | (go_at_call 51; refine (HF1.out S w2 HAW.out w.heap.size HB2.out.size HMB.out).mono ?_; rintro e w3 ⟨A, c, rfl, hmc, haw3, hb3⟩; have HB3 := Aside0.mk (HB2.out.trans hb3); have HAW3 := Aside0.mk haw3; clear hb3 haw3) | fail
  go_ret2
  exact ⟨by rw [HV.out]; rfl, HB3.out⟩
 ·have hmz : ¬ (0 : Int) < (m : Int) := by omega
  have hmd : decide ((0 : Int) < (m : Int)) = false := decide_eq_false hmz
  have hmd2 : decide (0 < m) = false := decide_eq_false hm0
  have HV := Aside0.mk (show stuckV X.l0 X.l1 X.l2 X.l3 X.l4 X.r = ((fv : Int), 0) by rw [HV0.out, if_neg hm0])
  clear HV0
  go_enter Try.func36, Try.ntmps36
  go_wp2_with first | (go_at_call 48; refine (both_calls HI0.out HBV.out).mono ?_; rintro e w1 ⟨rfl, hb1⟩; rw [HBV.out]; have HB1 := Aside0.mk (HB0.out.trans (hb1.mono (by rw [HZ.out]; omega))); have HX1 := HX.out.below hb1; obtain ⟨x0, x1, x2, x3, x4⟩ := HX1.cells; have xl := blk_lt HX1; clear hb1) | (go_at_call 50; refine (search_calls (HIN.out.below HB1.out) HBV.out).mono ?_; rintro e w2 ⟨S, rfl, haw, hb2, hmb, hsb⟩; have HAW := Aside0.mk haw; have HB2 := Aside0.mk (HB1.out.trans (hb2.mono HB1.out.size)); have HMB := Aside0.mk (Nat.le_trans HB1.out.size hmb); clear haw hb2 hmb hsb) | (go_at_call 51; refine (HF1.out S w2 HAW.out w.heap.size HB2.out.size HMB.out).mono ?_; rintro e w3 ⟨A, c, rfl, hmc, haw3, hb3⟩; have HB3 := Aside0.mk (HB2.out.trans hb3); have HAW3 := Aside0.mk haw3; clear hb3 haw3) | (go_at_call 71; refine (HFC.out S w3 HAW3.out).mono ?_; rintro e w4 ⟨rfl, hb4⟩; have HB4 := Aside0.mk (HB3.out.trans (hb4.mono HB3.out.size)); clear hb4) | fail
  go_ret2
  exact ⟨by rw [HV.out]; rfl, HB4.out⟩
end Go.Proofs.Ytkfebceainedfaa.P.OwnGap
namespace Go.Proofs.Ytkfebceainedfaa.P.OwnGap
open Go.RowKit Go.Shelf Go.Proofs.YtkfebceainedfaaW.PrintWords Go.Proofs.YtkfebceainedfaaW.PrintLast Go.Proofs.YtkfebceainedfaaW.PrintMore
open Go.Proofs.Ytkfebceainedfaa.OwnGap
set_option linter.unusedVariables false
set_option linter.unusedSimpArgs false
def idxI (V : Int → Bool) : List Int → Int
 | [] => -1
 | p :: l => if V p = true then 0 else if idxI V l = -1 then -1 else idxI V l + 1
theorem idxI_none {V : Int → Bool} : ∀ {l : List Int}, (∀ p ∈ l, V p = false) → idxI V l = -1
 | [], _ => rfl
 | p :: l, h => by
  rw [idxI, if_neg (by rw [h p (by simp)]; decide), if_pos (idxI_none (fun q hq => h q (by simp [hq])))]
theorem idxI_first {V : Int → Bool} : ∀ {l : List Int} (k : Nat), k < l.length → V (l.getD k 0) = true → (∀ j, j < k → V (l.getD j 0) = false) → idxI V l = (k : Int)
 | [], k, hk, _, _ => absurd hk (Nat.not_lt_zero _)
 | p :: l, 0, _, h, _ => by rw [idxI, if_pos (by simpa using h)]; rfl
 | p :: l, k + 1, hk, h, h0 => by
  have h1 : V p = false := by simpa using h0 0 (by omega)
  have ih := idxI_first (l := l) k (by simpa using hk) (by simpa using h) (fun j hj => by simpa using h0 (j + 1) (by omega))
  rw [idxI, if_neg (by rw [h1]; decide), ih, if_neg (by omega)]
  omega
theorem idxI_cases (V : Int → Bool) : ∀ l : List Int, (idxI V l = -1 ∧ ∀ p ∈ l, V p = false) ∨ (∃ k : Nat, idxI V l = (k : Int) ∧ k < l.length ∧ V (l.getD k 0) = true ∧ ∀ j, j < k → V (l.getD j 0) = false)
 | [] => .inl ⟨rfl, by simp⟩
 | p :: l => by
  by_cases hp : V p = true
  ·exact .inr ⟨0, by rw [idxI, if_pos hp]; rfl, by simp, by simpa using hp, fun j hj => absurd hj (Nat.not_lt_zero _)⟩
  ·have hp' : V p = false := by simpa using hp
   rcases idxI_cases V l with ⟨e, h⟩ | ⟨k, e, hk, h, h0⟩
   ·refine .inl ⟨by rw [idxI, if_neg hp, if_pos e], fun q hq => ?_⟩
    rcases List.mem_cons.1 hq with rfl | hq
    ·exact hp'
    ·exact h q hq
   ·refine .inr ⟨k + 1, by rw [idxI, if_neg hp, if_neg (by omega), e]; omega, by simpa using hk, by simpa using h, fun j hj => ?_⟩
    cases j with
    | zero => simpa using hp'
    | succ j => simpa using h0 j (by omega)
theorem idxI_any (V : Int → Bool) (l : List Int) : decide (0 ≤ idxI V l) = l.any V := by
 rcases idxI_cases V l with ⟨e, h⟩ | ⟨k, e, hk, h, _⟩
 ·rw [e, show l.any V = false by rw [List.any_eq_false]; intro q hq; rw [h q hq]; decide]
  rfl
 ·rw [e, show l.any V = true by
   rw [List.any_eq_true]
   refine ⟨l.getD k 0, ?_, h⟩
   rw [List.getD_eq_getElem?_getD, List.getElem?_eq_getElem hk]
   exact List.getElem_mem hk]
  exact decide_eq_true (by omega)
def PredI (g : Nat) (lb : Array Value) (V : Int → Bool) (I : World → Prop) (l : List Int) : Prop :=
 ∀ q ∈ l, ∀ W, I W → Calls Try.prog g (#[.int .i64 q] ++ lb) W fun e W' => e = .returned (.bool (V q)) ∧ I W'
set_option maxHeartbeats 2000000 in
set_option maxRecDepth 100000 in
theorem indexI_calls (g : Nat) (lb : Array Value) (eg : ∀ args w, (callFunc g args).run Try.prog w = .ok (.enter g args) w) (V : Int → Bool) (I : World → Prop) (A : Option Addr) (c : Nat) (l : List Int) (hl : l.length ≤ 1000000000) (w : World) (hI : I w) (hrow : ∀ W, I W → Kd.C (Kd.int .i64) W A l.length l) (hp : PredI g lb V I l) :
  Calls Try.prog 79 #[.slice A l.length c, .func (.func g) #[] lb] w fun e w' => e = .returned (.int .i64 (idxI V l)) ∧ I w' := by
 have HI := Aside0.mk hI
 have HROW := Aside0.mk hrow
 have HP := Aside0.mk hp
 clear hI hrow hp
 go_enter Try.func79, Try.ntmps79
 go_wp2
 go_loopg [5, 8] l.length (fun k _ s8 wr => ∃ kk : Nat, kk + k = l.length ∧ s8 = .int .i64 kk ∧ Aside0 (I wr) ∧ Aside0 (∀ j, j < kk → V (l.getD j 0) = false))
 case atStart => exact ⟨0, by omega, rfl, HI, ⟨fun j hj => absurd hj (Nat.not_lt_zero _)⟩⟩
 case round =>
  obtain ⟨kk, hkk, rfl, HW, HV⟩ := hrel
  have HKK := Aside0.mk hkk
  clear HI
  by_cases hlt : kk < l.length
  ·have hltz : (kk : Int) < (l.length : Int) := by omega
   obtain ⟨ad, rfl, e0⟩ := at_num (HROW.out wr HW.out) kk hlt
   obtain ⟨q, hq⟩ : ∃ q, q = l.getD kk 0 := ⟨_, rfl⟩
   rw [show rd l (kk : Int) = l.getD kk 0 from rfl, ← hq] at e0
   have hqm : q ∈ l := by
    rw [hq, List.getD_eq_getElem?_getD, List.getElem?_eq_getElem hlt]
    exact List.getElem_mem hlt
   have HC := Aside0.mk (HP.out q hqm wr HW.out)
   have HQ := Aside0.mk hq
   have hadl := World.block_lt_of_cell? wr _ e0
   clear hq hqm hkk
   obtain ⟨v, hv⟩ : ∃ v, v = V q := ⟨_, rfl⟩
   have HV1 := Aside0.mk hv
   rw [← hv] at HC
   clear hv
   cases v with
   | true =>
    go_wp2_with (go_at_fn g; refine HC.out.mono ?_; rintro e w' ⟨rfl, hw'⟩; have HW' := Aside0.mk hw'; clear hw')
    go_ret
    refine ⟨?_, HW'.out⟩
    rw [idxI_first kk hlt (by rw [← HQ.out]; exact HV1.out.symm) HV.out]
    rfl
   | false =>
    go_wp2_with (go_at_fn g; refine HC.out.mono ?_; rintro e w' ⟨rfl, hw'⟩; have HW' := Aside0.mk hw'; clear hw')
    go_roundg (gk - 1)
    case measure => have := HKK.out; omega
    case rel =>
     refine ⟨kk + 1, by have := HKK.out; omega, by go_num, HW', ⟨fun j hj => ?_⟩⟩
     by_cases e : j = kk
     ·subst e
      rw [← HQ.out]
      exact HV1.out.symm
     ·exact HV.out j (by omega)
  ·have hltz : ¬ (kk : Int) < (l.length : Int) := by omega
   go_wp2_with fail
   go_ret
   refine ⟨?_, HW.out⟩
   rw [idxI_none (fun p hpm => by
    obtain ⟨j, hj, rfl⟩ := List.mem_iff_getElem.1 hpm
    have := HV.out j (by omega)
    rwa [List.getD_eq_getElem?_getD, List.getElem?_eq_getElem hj] at this)]
   rfl
set_option maxHeartbeats 2000000 in
theorem containsI_calls (g : Nat) (lb : Array Value) (eg : ∀ args w, (callFunc g args).run Try.prog w = .ok (.enter g args) w) (V : Int → Bool) (I : World → Prop) (A : Option Addr) (c : Nat) (l : List Int) (hl : l.length ≤ 1000000000) (w : World) (hI : I w) (hrow : ∀ W, I W → Kd.C (Kd.int .i64) W A l.length l) (hp : PredI g lb V I l) :
  Calls Try.prog 52 #[.slice A l.length c, .func (.func g) #[] lb] w fun e w' => e = .returned (.bool (l.any V)) ∧ I w' := by
 have HC := Aside0.mk (indexI_calls g lb eg V I A c l hl w hI hrow hp)
 clear hI hrow hp
 obtain ⟨x, hx⟩ : ∃ x, x = idxI V l := ⟨_, rfl⟩
 obtain ⟨b, hb⟩ : ∃ b, b = l.any V := ⟨_, rfl⟩
 have HB := Aside0.mk (show decide (0 ≤ x) = b by rw [hx, hb]; exact idxI_any V l)
 rw [← hb]
 rw [← hx] at HC
 clear hb hx
 go_enter Try.func52, Try.ntmps52
 go_wp2_with (go_at_call 79; refine HC.out.mono ?_; rintro e w' ⟨rfl, hw'⟩; have HW' := Aside0.mk hw'; clear hw')
 go_ret
 refine ⟨?_, HW'.out⟩
 rw [← HB.out]
 rfl
def outB (n : Nat) (i : Int) : Bool := !(inB i 0 ((n : Int) - 1))
set_option maxHeartbeats 2000000 in
set_option maxRecDepth 100000 in
theorem fits1_calls (n : Nat) (A0 : Option Addr) (c0 : Nat) (hn : n ≤ 1000) (b : Nat) (i : Int) (w : World) (h0 : w.cell? ⟨b, 0, none⟩ = some (.slice A0 n c0)) :
  Calls Try.prog 53 #[.int .i64 i, .pointer (some ⟨b, 0, none⟩)] w fun e w' => e = .returned (.bool (outB n i)) ∧ Below w.heap.size w w' := by
 have hbl := World.block_lt_of_cell? w _ h0
 have hnz : (n : Int) ≤ 1000 := by omega
 obtain ⟨v, hv⟩ : ∃ v, v = inB i 0 ((n : Int) - 1) := ⟨_, rfl⟩
 have HV := Aside0.mk hv
 clear hv
 go_enter Try.func53, Try.ntmps53
 go_wp2_with first | (go_at_call 49; refine (in_calls i 0 ((n : Int) - 1) w).mono ?_; rintro e w2 ⟨rfl, hb2⟩; rw [← HV.out]; have HB2 := Aside0.mk hb2; clear hb2) | fail
 go_ret
 refine ⟨?_, HB2.out⟩
 unfold outB
 rw [← HV.out]
 rfl
end Go.Proofs.Ytkfebceainedfaa.P.OwnGap
namespace Go.Proofs.Ytkfebceainedfaa.P.OwnGap
open Go.RowKit Go.Shelf Go.Proofs.YtkfebceainedfaaW.PrintWords Go.Proofs.YtkfebceainedfaaW.PrintLast Go.Proofs.YtkfebceainedfaaW.PrintMore
open Go.Proofs.Ytkfebceainedfaa.OwnGap
set_option linter.unusedVariables false
set_option linter.unusedSimpArgs false
attribute [local go_sem] Oper.semAt_some
attribute [local go_sem] max2_int min2_int max_two min_two max_three min_three max_four min_four
structure IsI (A B : Option Addr) (n m c d bf bs : Nat) (w : World) (k f : Int) (W : World) : Prop where
 lt : bf < bs
 below : Below bf w W
 fil : FilAt A B n m c d bf W
 st : W.heap[bs]? = some (.cells #[.int .i64 0, .int .i64 0, .int .i64 0, .int .i64 0, .int .i64 k, .int .i64 f] 139 (0, 0))
theorem IsI.next {A B : Option Addr} {n m c d bf bs : Nat} {w W W' : World} {k f : Int} (h : IsI A B n m c d bf bs w k f W) (hb : Below W.heap.size W W') : IsI A B n m c d bf bs w k f W' :=
 ⟨h.lt, h.below.trans (hb.mono (by have := blk_lt h.fil; omega)), blk_below h.fil hb, blk_below h.st hb⟩
theorem IsI.set {A B : Option Addr} {n m c d bf bs : Nat} {w W : World} {k f : Int} (h : IsI A B n m c d bf bs w k f W) (k' f' : Int) : IsI A B n m c d bf bs w k' f' ((W.setCell ⟨bs, 4, none⟩ (.int .i64 k')).setCell ⟨bs, 5, none⟩ (.int .i64 f')) := by
 have hlt := h.lt
 refine ⟨hlt, (h.below.setCell (by show bf ≤ bs; omega) _).setCell (by show bf ≤ bs; omega) _, blk_far (blk_far h.fil (by show bf ≠ bs; omega) _) (by show bf ≠ bs; omega) _, ?_⟩
 have h1 := blk_set (blk_set h.st 4 (.int .i64 k')) 5 (.int .i64 f')
 simpa using h1
theorem IsI.set2 {A B : Option Addr} {n m c d bf bs : Nat} {w W : World} {k f : Int} (h : IsI A B n m c d bf bs w k f W) (k' f' : Int) : IsI A B n m c d bf bs w k' f' ((W.setCell ⟨bs, 5, none⟩ (.int .i64 f')).setCell ⟨bs, 4, none⟩ (.int .i64 k')) := by
 have hlt := h.lt
 refine ⟨hlt, (h.below.setCell (by show bf ≤ bs; omega) _).setCell (by show bf ≤ bs; omega) _, blk_far (blk_far h.fil (by show bf ≠ bs; omega) _) (by show bf ≠ bs; omega) _, ?_⟩
 have h1 := blk_set (blk_set h.st 5 (.int .i64 f')) 4 (.int .i64 k')
 simpa using h1
structure IsG (A B : Option Addr) (n m c d bf bs bc bw : Nat) (w : World) (k f : Int) (ce : S49) (s : Int × Int) (W : World) : Prop where
 is : IsI A B n m c d bf bs w k f W
 cel : W.heap[bc]? = some (.cells #[.string ce.f0, .bool true, .int .i64 ce.f2.f0, .int .i64 ce.f2.f1] 49 (0, 0))
 box : W.heap[bw]? = some (.cells #[.int .i64 s.1, .int .i64 s.2] 47 (0, 0))
theorem IsG.next {A B : Option Addr} {n m c d bf bs bc bw : Nat} {w W W' : World} {k f : Int} {ce : S49} {s : Int × Int} (h : IsG A B n m c d bf bs bc bw w k f ce s W) (hb : Below W.heap.size W W') : IsG A B n m c d bf bs bc bw w k f ce s W' :=
 ⟨h.is.next hb, blk_below h.cel hb, blk_below h.box hb⟩
theorem IsI.far {A B : Option Addr} {n m c d bf bs g o : Nat} {w W : World} {k f : Int} (h : IsI A B n m c d bf bs w k f W) (hg : bs < g) (v : Value) : IsI A B n m c d bf bs w k f (W.setCell ⟨g, o, none⟩ v) := by
 have hlt := h.lt
 exact ⟨hlt, h.below.setCell (by show bf ≤ g; omega) _, blk_far h.fil (by show bf ≠ g; omega) _, blk_far h.st (by show bs ≠ g; omega) _⟩
theorem IsG.set {A B : Option Addr} {n m c d bf bs bc bw : Nat} {w W : World} {k f : Int} {ce : S49} {s : Int × Int} (h : IsG A B n m c d bf bs bc bw w k f ce s W) (hw : bs < bw) (hc : bc < bw) (a b : Int) : IsG A B n m c d bf bs bc bw w k f ce (a, b) ((W.setCell ⟨bw, 0, none⟩ (.int .i64 a)).setCell ⟨bw, 1, none⟩ (.int .i64 b)) := by
 refine ⟨(h.is.far hw _).far hw _, blk_far (blk_far h.cel (by show bc ≠ bw; omega) _) (by show bc ≠ bw; omega) _, ?_⟩
 have h1 := blk_set (blk_set h.box 0 (.int .i64 a)) 1 (.int .i64 b)
 simpa using h1
set_option maxHeartbeats 4000000 in
set_option maxRecDepth 100000 in
theorem isf_calls (X : Lx) (S : SV) (fits : List Int) (hX : OkX X fits) (hL : OkL X) (w : World) (hS : SrW X S fits w) (ws fs : List Int) (A B : Option Addr) (c d : Nat) (hw : Kd.C (Kd.int .i64) w A ws.length ws) (hf : Kd.C (Kd.int .i64) w B fs.length fs)
  (hwi : ∀ j : Nat, j < ws.length → 0 ≤ rd ws (j : Int) ∧ rd ws (j : Int) < X.l0.length) :
  Calls Try.prog 54 #[.pointer (some ⟨S.b, 0, none⟩), .agg #[.slice A ws.length c, .slice B fs.length d]] w fun e w' => e = .returned (.bool (isF X ws fs)) ∧ Below w.heap.size w w' := by
 have HX := Aside0.mk hX
 have HL := Aside0.mk hL
 have HS := Aside0.mk hS
 have HW := Aside0.mk hw
 have HF := Aside0.mk hf
 have HWI := Aside0.mk hwi
 have hsl := blk_lt hS.blk
 clear hX hL hS hw hf hwi
 have HFB := Aside0.mk (show FilAt A B ws.length fs.length c d w.heap.size (w.alloc (.cells #[.slice A ws.length c, .slice B fs.length d] 31)) from blk_new w _)
 have HB0 := Aside0.mk ((Below.refl w.heap.size w).alloc (Nat.le_refl _) (.cells #[.slice A ws.length c, .slice B fs.length d] 31))
 have HZ0 := Aside0.mk (show (w.alloc (.cells #[.slice A ws.length c, .slice B fs.length d] 31)).heap.size = w.heap.size + 1 by simp)
 cases hin : inB (ws.length : Int) 1 8 with
 | false =>
  have HI := Aside0.mk hin
  clear hin
  go_enter Try.func54, Try.ntmps54
  go_wp2_with first | (go_at_call 49; refine (in_calls (ws.length : Int) 1 8 _).mono ?_; rintro e w1 ⟨rfl, hb1⟩; rw [HI.out]; have HB1 := Aside0.mk (HB0.out.trans (hb1.mono (by rw [HZ0.out]; omega))); clear hb1) | fail
  go_ret
  exact ⟨by unfold isF; rw [HI.out]; rfl, HB1.out⟩
 | true =>
  have HI := Aside0.mk hin
  have hwl := (inB_true.1 hin).2
  clear hin
  go_enter Try.func54, Try.ntmps54
  go_upto_region 5 with first | (go_at_call 49; refine (in_calls (ws.length : Int) 1 8 _).mono ?_; rintro e w1 ⟨rfl, hb1⟩; rw [HI.out]; have HFB1 := Aside0.mk (show FilAt A B ws.length fs.length c d w.heap.size w1 from blk_below HFB.out hb1); have HB1 := Aside0.mk (HB0.out.trans (hb1.mono (by rw [HZ0.out]; omega))); clear hb1) | fail
  obtain ⟨bf, hbf⟩ : ∃ b, b = w.heap.size := ⟨_, rfl⟩
  obtain ⟨bs, hbs⟩ : ∃ b, b = w1.heap.size := ⟨_, rfl⟩
  have HBF := Aside0.mk hbf
  refine wp_gen (fun wx => Aside0 (IsI A B ws.length fs.length c d bf bs w 0 0 wx)) ⟨?_⟩ ?_
  ·have h1 := HB1.out.size
   have h2 := blk_lt HFB1.out
   rw [hbf, hbs]
   exact ⟨h2, HB1.out.alloc h1 _, blk_alloc HFB1.out _, blk_new w1 _⟩
  rw [← hbf, ← hbs]
  clear hbf hbs HFB1 HB1 HFB HB0 HZ0
  rintro w2 HB
  have a0 := (blk_cell HB.out.fil 0).trans (show (#[Value.slice A ws.length c, Value.slice B fs.length d] : Array Value)[0]? = some _ from rfl)
  have al := blk_lt HB.out.fil
  go_upto_block 0 with fail
  clear a0 al
  go_cut [6, 8, 24] (fun s6 _ _ wx => s6 = .string (wordsV X ws) ∧ ∃ f : Int, Aside0 (mayAll X 0 0 ws = some f ∧ 0 ≤ f ∧ f < X.l1.length) ∧ Aside0 (IsI A B ws.length fs.length c d bf bs w (ws.length : Int) f wx))
  case first =>
   go_wp2_with fail
   go_loopg [6, 8, 24] ws.length (fun k s6 _ s24 wr => ∃ (j : Nat) (f : Int), j + k = ws.length ∧ s24 = .int .i64 (j : Int) ∧ s6 = .string (wordsV X (ws.take j)) ∧ Aside0 (mayAll X j f (ws.drop j) = mayAll X 0 0 ws ∧ 0 ≤ f ∧ f < X.l1.length) ∧ Aside0 (IsI A B ws.length fs.length c d bf bs w (j : Int) f wr))
   case atStart => exact ⟨0, 0, by omega, rfl, rfl, ⟨rfl, by omega, by have := HL.out.one; omega⟩, HB⟩
   case round =>
    clear HB
    obtain ⟨j, f, hj, rfl, rfl, HM, HB⟩ := hrel
    have HJN := Aside0.mk hj
    clear hj
    have HWB := Aside0.mk (show Below w.heap.size w wr by rw [← HBF.out]; exact HB.out.below)
    have HSR := Aside0.mk (HS.out.below HWB.out)
    by_cases hlt : j < ws.length
    ·have hjz : (j : Int) < (ws.length : Int) := by omega
     have hjd : decide (j < ws.length) = true := decide_eq_true hlt
     have HLT := Aside0.mk hlt
     obtain ⟨aw, rfl, y0⟩ := at_num (Kd.C_below HW.out HWB.out) j hlt
     have yl := World.block_lt_of_cell? wr _ y0
     obtain ⟨hi0, hi1⟩ := HWI.out j hlt
     have HST := Aside0.mk (mayAll_step hlt f (X := X))
     obtain ⟨i, hi⟩ : ∃ i : Nat, rd ws (j : Int) = (i : Int) := ⟨(rd ws (j : Int)).toNat, by omega⟩
     have HCT := Aside0.mk (show wordsV X (ws.take (j + 1)) = wordsV X (ws.take j) ++ (rd_T53 X.l0 (i : Int)).f0 by
      unfold wordsV
      rw [conT_succ X ws j hlt, hi]
      apply ByteArray.ext
      simp)
     obtain ⟨T, hT⟩ : ∃ T, T = wordsV X (ws.take j) := ⟨_, rfl⟩
     have hTz : T.size ≤ 64 := by
      have h := conT_len X ws (fun q hq => by
       obtain ⟨e0, e1⟩ := HWI.out q hq
       have h8 := (HL.out.wd (rd ws (q : Int)).toNat (by omega)).2.1
       rw [show (((rd ws (q : Int)).toNat : Nat) : Int) = rd ws (q : Int) by omega] at h8
       exact h8) j (by omega)
      rw [hT]
      show (conT X (ws.take j)).toArray.size ≤ 64
      rw [List.size_toArray]
      omega
     rw [← hT] at HCT
     rw [← hT]
     clear hT
     rw [hi] at y0 hi0 hi1 HST
     obtain ⟨a0', eA0, z0, z1⟩ := at_T53 HSR.out.h0 (i : Int) hi0 hi1
     simp only [Int.toNat_natCast] at z0 z1
     have HNB := Aside0.mk (show (a0'.add (i * 2)).block < w.heap.size by
      obtain ⟨a9, eA9, z9, -⟩ := at_T53 HS.out.h0 (i : Int) hi0 hi1
      rw [eA0] at eA9
      injection eA9 with eA9
      subst eA9
      simp only [Int.toNat_natCast] at z9
      exact World.block_lt_of_cell? w _ z9)
     obtain ⟨wd, hwd⟩ : ∃ wd, wd = rd_T53 X.l0 (i : Int) := ⟨_, rfl⟩
     rw [← hwd] at z0 z1 HST HCT
     have HEA := Aside0.mk eA0
     have HZW := Aside0.mk (show w.cell? (a0'.add (i * 2)) = some (.string wd.f0) from (HWB.out.cell HNB.out).symm.trans z0)
     have c0 := HSR.out.cell 0 HSR.out.e0
     rw [eA0] at c0
     have hid : decide (i < X.l0.length) = true := decide_eq_true (by omega)
     have sbl := blk_lt HSR.out.blk
     have hwz := (HL.out.wd i (by omega)).2.1
     rw [← hwd] at hwz
     have hcat : (9223372036854775807 < T.size + wd.f0.size) = False := eq_false (by omega)
     have hwd0 := (HL.out.wd i (by omega)).2.2
     rw [← hwd] at hwd0
     have HWD := Aside0.mk hwd0
     have HMY := Aside0.mk (may_calls X S fits 0 0 0 0 j f wd.f1 wr.drew (HSR.out.below (Below.drew (Below.refl _ _))) hwd0.1 hwd0.2 HM.out.2.1 (by rw [HL.out.l3]; exact HM.out.2.2) (by rw [HL.out.l3r f HM.out.2.1 HM.out.2.2]; exact hwd0.2) (by omega))
     clear hwd hi eA0 hi0 hwd0
     have s0 := (blk_cell HB.out.st 0).trans (show (#[Value.int .i64 0, .int .i64 0, .int .i64 0, .int .i64 0, .int .i64 j, .int .i64 f] : Array Value)[0]? = some _ from rfl)
     have s1 := (blk_cell HB.out.st 1).trans (show (#[Value.int .i64 0, .int .i64 0, .int .i64 0, .int .i64 0, .int .i64 j, .int .i64 f] : Array Value)[1]? = some _ from rfl)
     have s2 := (blk_cell HB.out.st 2).trans (show (#[Value.int .i64 0, .int .i64 0, .int .i64 0, .int .i64 0, .int .i64 j, .int .i64 f] : Array Value)[2]? = some _ from rfl)
     have s3 := (blk_cell HB.out.st 3).trans (show (#[Value.int .i64 0, .int .i64 0, .int .i64 0, .int .i64 0, .int .i64 j, .int .i64 f] : Array Value)[3]? = some _ from rfl)
     have s4 := (blk_cell HB.out.st 4).trans (show (#[Value.int .i64 0, .int .i64 0, .int .i64 0, .int .i64 0, .int .i64 j, .int .i64 f] : Array Value)[4]? = some _ from rfl)
     have s5 := (blk_cell HB.out.st 5).trans (show (#[Value.int .i64 0, .int .i64 0, .int .i64 0, .int .i64 0, .int .i64 j, .int .i64 f] : Array Value)[5]? = some _ from rfl)
     have sl := blk_lt HB.out.st
     obtain ⟨v, hv⟩ : ∃ v, v = mayV X j f wd.f1 := ⟨_, rfl⟩
     rw [← hv] at HMY HST
     clear hv
     have HCC := Aside0.mk (fun (W' : World) (hb : Below wr.heap.size wr W') => show W'.cell? ⟨bs, 0, none⟩ = some (.int .i64 0) ∧ W'.cell? ⟨bs, 1, none⟩ = some (.int .i64 0) ∧ W'.cell? ⟨bs, 2, none⟩ = some (.int .i64 0) ∧ W'.cell? ⟨bs, 3, none⟩ = some (.int .i64 0) ∧ W'.cell? ⟨bs, 4, none⟩ = some (.int .i64 j) ∧ W'.cell? ⟨bs, 5, none⟩ = some (.int .i64 f) ∧ W'.cell? ⟨S.b, 0, none⟩ = some (.slice (some a0') X.l0.length S.c0) ∧ W'.cell? ⟨(a0'.add (i * 2)).block, (a0'.add (i * 2)).off + 1, none⟩ = some (.int .i64 wd.f1) from
      ⟨(hb.cell (p := ⟨bs, 0, none⟩) sl).trans s0, (hb.cell (p := ⟨bs, 1, none⟩) sl).trans s1, (hb.cell (p := ⟨bs, 2, none⟩) sl).trans s2, (hb.cell (p := ⟨bs, 3, none⟩) sl).trans s3, (hb.cell (p := ⟨bs, 4, none⟩) sl).trans s4, (hb.cell (p := ⟨bs, 5, none⟩) sl).trans s5, (hb.cell (p := ⟨S.b, 0, none⟩) sbl).trans c0, (hb.cell (World.block_lt_of_cell? wr _ z1)).trans z1⟩)
     have zl := World.block_lt_of_cell? wr _ z1
     go_upto_region 8 with fail
     cases v with
     | false =>
      go_region_held3 (fun w' => w'.cell? ⟨bs, 0, none⟩ = some (.int .i64 0) ∧ w'.cell? ⟨bs, 1, none⟩ = some (.int .i64 0) ∧ w'.cell? ⟨bs, 2, none⟩ = some (.int .i64 0) ∧ w'.cell? ⟨bs, 3, none⟩ = some (.int .i64 0) ∧ w'.cell? ⟨bs, 4, none⟩ = some (.int .i64 j) ∧ w'.cell? ⟨bs, 5, none⟩ = some (.int .i64 f) ∧ w'.cell? ⟨S.b, 0, none⟩ = some (.slice (some a0') X.l0.length S.c0) ∧ w'.cell? ⟨(a0'.add (i * 2)).block, (a0'.add (i * 2)).off + 1, none⟩ = some (.int .i64 wd.f1))
       (first | exact HCC.out _ HB3.out | go_keep)
       (first | (go_at_call 80; refine HMY.out.mono ?_; rintro e w3 ⟨rfl, hb3⟩; have HB3 := Aside0.mk (show Below wr.heap.size wr w3 from (Below.drew (Below.refl _ _)).trans hb3); clear hb3))
      go_wp2_with fail
      go_ret
      have HM2 := HM.out.1
      rw [HST.out, if_neg (by simp)] at HM2
      refine ⟨?_, ?_⟩
      ·unfold isF
       rw [HI.out, if_pos rfl, ← HM2]
       rfl
      ·rw [← HBF.out]
       exact HB.out.below.trans (HB3.out.mono (by have := blk_lt HB.out.fil; omega))
     | true =>
      go_region_held3 (fun w' => w'.cell? ⟨bs, 0, none⟩ = some (.int .i64 0) ∧ w'.cell? ⟨bs, 1, none⟩ = some (.int .i64 0) ∧ w'.cell? ⟨bs, 2, none⟩ = some (.int .i64 0) ∧ w'.cell? ⟨bs, 3, none⟩ = some (.int .i64 0) ∧ w'.cell? ⟨bs, 4, none⟩ = some (.int .i64 j) ∧ w'.cell? ⟨bs, 5, none⟩ = some (.int .i64 f) ∧ w'.cell? ⟨S.b, 0, none⟩ = some (.slice (some a0') X.l0.length S.c0) ∧ w'.cell? ⟨(a0'.add (i * 2)).block, (a0'.add (i * 2)).off + 1, none⟩ = some (.int .i64 wd.f1))
       (first | exact HCC.out _ HB3.out | go_keep)
       (first | (go_at_call 80; refine HMY.out.mono ?_; rintro e w3 ⟨rfl, hb3⟩; have HB3 := Aside0.mk (show Below wr.heap.size wr w3 from (Below.drew (Below.refl _ _)).trans hb3); clear hb3))
      have HB4 := Aside0.mk (HB.out.next HB3.out)
      have HSR4 := Aside0.mk (HSR.out.below HB3.out)
      obtain ⟨s0', s1', s2', s3', s4', s5', c0', z1'⟩ := HCC.out w3 HB3.out
      clear s0 s1 s2 s3 s4 s5 c0 y0 yl HMY
      have z0' : w3.cell? (a0'.add (i * 2)) = some (.string wd.f0) := (HB3.out.cell (World.block_lt_of_cell? wr _ z0)).trans z0
      have sl' := blk_lt HB4.out.st
      have sbl' := blk_lt HSR4.out.blk
      have sf4 := blk_frozen HB4.out.st 4
      have sf5 := blk_frozen HB4.out.st 5
      have zl' := World.block_lt_of_cell? w3 _ z0'
      have hsb : S.b ≠ bs := by
       have h1 := blk_lt HS.out.blk
       have h2 := HB.out.lt
       have h3 := HBF.out
       omega
      have hab : (a0'.add (i * 2)).block ≠ bs := by
       have h1 := HNB.out
       have h2 := HB.out.lt
       have h3 := HBF.out
       omega
      have q1 : ∀ (o : Nat) (u : Value), (w3.setCell ⟨bs, o, none⟩ u).cell? ⟨S.b, 0, none⟩ = some (.slice (some a0') X.l0.length S.c0) := fun o u => (World.cell?_setCell_other _ _ _ _ (fun e => hsb (by injection e with e; exact e.symm))).trans c0'
      have q2 : ∀ (o : Nat) (u : Value), (w3.setCell ⟨bs, o, none⟩ u).cell? ⟨(a0'.add (i * 2)).block, (a0'.add (i * 2)).off + 1, none⟩ = some (.int .i64 wd.f1) := fun o u => (World.cell?_setCell_other _ _ _ _ (fun e => hab (by injection e with e; exact e.symm))).trans z1'
      clear z0 z1 zl sl sbl
      go_upto_region 10 with fail
      go_region
      all_goals
       refine wp_gen' (fun wx => Aside0 (IsI (some aw) B ws.length fs.length c d bf bs w ((j : Int) + 1) wd.f1 wx)) ⟨by first | exact (IsI.set HB4.out ((j : Int) + 1) wd.f1).next (Below.drew (Below.refl _ _)) | exact (IsI.set2 HB4.out ((j : Int) + 1) wd.f1).next (Below.drew (Below.refl _ _))⟩ ?_
       rintro wx HB5
       have HWB5 := Aside0.mk (show Below w.heap.size w wx by rw [← HBF.out]; exact HB5.out.below)
       have HSR5 := Aside0.mk (HS.out.below HWB5.out)
       have c5 := (HSR5.out.cell 0 HSR5.out.e0)
       rw [HEA.out] at c5
       have z5 : wx.cell? (a0'.add (i * 2)) = some (.string wd.f0) := (HWB5.out.cell HNB.out).trans HZW.out
       have sb5 := blk_lt HSR5.out.blk
       have zb5 := World.block_lt_of_cell? wx _ z5
       have HM5 := Aside0.mk (show mayAll X (j + 1) wd.f1 (ws.drop (j + 1)) = mayAll X 0 0 ws by
        have h := HM.out.1
        rw [HST.out] at h
        simpa only [if_true] using h)
       clear HB4 HSR4 s0' s1' s2' s3' s4' s5' c0' z1' z0' sl' sbl' sf4 sf5 zl' q1 q2 hsb hab HB3 HSR HWB HB
       go_wp2_with fail
       go_roundg (gk - 1)
       case measure => have := HJN.out; have := HLT.out; omega
       case rel => exact ⟨j + 1, wd.f1, by have := HJN.out; have := HLT.out; omega, by go_num, by rw [HCT.out], ⟨HM5.out, HWD.out⟩, by first | exact HB5 | (rw [show ((j + 1 : Nat) : Int) = (j : Int) + 1 by omega]; exact HB5)⟩
    ·have hjz : ¬ (j : Int) < (ws.length : Int) := by omega
     have hjd : decide (j < ws.length) = false := decide_eq_false hlt
     have HB9 := Aside0.mk (show IsI A B ws.length fs.length c d bf bs w (ws.length : Int) f wr by
      have h := HB.out
      rw [show (j : Int) = (ws.length : Int) by have := HJN.out; omega] at h
      exact h)
     have HE := Aside0.mk (show mayAll X 0 0 ws = some f by
      rw [← HM.out.1, List.drop_eq_nil_of_le (by omega)]
      rfl)
     go_wp2_with fail
     refine Met.intro ?_
     go_step
     (repeat apply Exists.intro)
     refine ⟨?_, rfl⟩
     exact ⟨by first | rfl | rw [List.take_of_length_le (by omega)], f, ⟨HE.out, HM.out.2⟩, HB9⟩
  case rest =>
   obtain ⟨rfl, f, HMF, HB1⟩ := hcut
   clear HB
   obtain ⟨hm0, hf0, hf1⟩ := HMF.out
   have HWB := Aside0.mk (show Below w.heap.size w wc by rw [← HBF.out]; exact HB1.out.below)
   have HSR := Aside0.mk (HS.out.below HWB.out)
   obtain ⟨T, hT⟩ : ∃ T, T = wordsV X ws := ⟨_, rfl⟩
   have HT := Aside0.mk hT
   rw [← hT]
   clear hT
   have HTZ := Aside0.mk (show T.size ≤ 64 by
    have h := conT_len X ws (fun q hq => by
     obtain ⟨e0, e1⟩ := HWI.out q hq
     have h8 := (HL.out.wd (rd ws (q : Int)).toNat (by omega)).2.1
     rw [show (((rd ws (q : Int)).toNat : Nat) : Int) = rd ws (q : Int) by omega] at h8
     exact h8) ws.length (Nat.le_refl _)
    rw [List.take_length] at h
    rw [HT.out]
    show (conT X ws).toArray.size ≤ 64
    rw [List.size_toArray]
    omega)
   have HLS := Aside0.mk (show LetS T by
    rw [HT.out]
    exact lets_words X ws (fun q hq => by
     obtain ⟨e0, e1⟩ := HWI.out q hq
     have h8 := HL.out.lt (rd ws (q : Int)).toNat (by omega)
     rw [show (((rd ws (q : Int)).toNat : Nat) : Int) = rd ws (q : Int) by omega] at h8
     exact h8))
   obtain ⟨lb, hlb⟩ : ∃ b, b = rdOf false X.l2 f := ⟨_, rfl⟩
   have HIF := Aside0.mk (show isF X ws fs = (lb && cellF X X.r fs T) by
    unfold isF
    rw [HI.out, if_pos rfl, hm0, hlb, HT.out])
   obtain ⟨fn, hfn⟩ : ∃ n : Nat, f = (n : Int) := ⟨f.toNat, by omega⟩
   obtain ⟨a2, eA2, y2⟩ := Kd.at_bool HSR.out.h2 f hf0 (by rw [HL.out.l2]; exact hf1)
   rw [← hlb] at y2
   have c2 := HSR.out.cell 2 HSR.out.e2
   rw [eA2] at c2
   have s5 := (blk_cell HB1.out.st 5).trans (show (#[Value.int .i64 0, .int .i64 0, .int .i64 0, .int .i64 0, .int .i64 (ws.length : Int), .int .i64 f] : Array Value)[5]? = some _ from rfl)
   have sl := blk_lt HB1.out.st
   have sbl := blk_lt HSR.out.blk
   have yl := World.block_lt_of_cell? wc _ y2
   have hfz : f < (X.l2.length : Int) := by rw [HL.out.l2]; exact hf1
   subst hfn
   rw [Int.toNat_natCast] at y2 yl
   have hfd : decide (fn < X.l2.length) = true := decide_eq_true (by omega)
   clear hlb eA2
   cases lb with
   | false =>
    go_upto_region 14 with first | go_quiet (fail) | fail
    go_wp2_with fail
    go_ret
    exact ⟨by rw [HIF.out]; rfl, pw_below_drewN HWB.out _⟩
   | true =>
    go_upto_region 15 with first | go_quiet (fail) | fail
    refine wp_gen (fun wx => Aside0 (IsI A B ws.length fs.length c d bf bs w (ws.length : Int) (fn : Int) wx)) ⟨HB1.out.next (pw_below_drewN (Below.refl _ _) _)⟩ ?_
    have HIF2 := Aside0.mk (show isF X ws fs = cellF X X.r fs T by rw [HIF.out, Bool.true_and])
    clear HB1 HWB HSR c2 s5 sl sbl yl y2 HIF HMF hm0 hf0 hf1 hfz hfd
    rintro w3 HB1
    have HWB := Aside0.mk (show Below w.heap.size w w3 by rw [← HBF.out]; exact HB1.out.below)
    have HSR := Aside0.mk (HS.out.below HWB.out)
    obtain ⟨Ar, hAr⟩ : ∃ A, A = S.Ar := ⟨_, rfl⟩
    have c5 := HSR.out.cell 5 HSR.out.e5
    rw [← hAr] at c5
    have HAR := Aside0.mk hAr
    have sbl := blk_lt HSR.out.blk
    clear hAr HWB HSR
    go_wp2_with fail
    go_loopg [6, 9, 10, 11, 12, 13, 14, 82] X.r.length (fun k s6 s9 _ _ _ _ _ s82 wr => ∃ (j nx : Nat) (T' : ByteArray), j + k = X.r.length ∧ s82 = .int .i64 (j : Int) ∧ s6 = .string T' ∧ s9 = .int .i64 (nx : Int) ∧ nx ≤ fs.length ∧ nx ≤ j ∧ T'.size ≤ 64 ∧ Aside0 (LetS T') ∧ Aside0 (cellF X (X.r.drop j) (fs.drop nx) T' = cellF X X.r fs T) ∧ Aside0 (IsI A B ws.length fs.length c d bf bs w (ws.length : Int) (fn : Int) wr))
    case atStart => exact ⟨0, 0, T, by omega, rfl, rfl, rfl, Nat.zero_le _, Nat.le_refl _, HTZ.out, HLS, ⟨rfl⟩, HB1⟩
    case round =>
     clear HB1 c5 sbl
     obtain ⟨j, nx, T', hj, rfl, rfl, rfl, hnx, hnj, hTz, HLT', HC, HB⟩ := hrel
     have HJN := Aside0.mk hj
     clear hj
     have HWB := Aside0.mk (show Below w.heap.size w wr by rw [← HBF.out]; exact HB.out.below)
     have HSR := Aside0.mk (HS.out.below HWB.out)
     have hrn : (X.r.length : Int) ≤ 1000 := by have := HX.out.n; omega
     by_cases hlt : j < X.r.length
     ·have hjz : (j : Int) < (X.r.length : Int) := by omega
      have hjd : decide (j < X.r.length) = true := decide_eq_true hlt
      have HLT := Aside0.mk hlt
      obtain ⟨ar, hra, y0, y1, y2, y3⟩ := at_T49 HSR.out.hr (j : Int) (by omega) (by omega)
      have hra2 : Ar = some ar := HAR.out.trans hra
      subst hra2
      clear hra
      simp only [Int.toNat_natCast] at y0 y1 y2 y3
      obtain ⟨ce, hce⟩ : ∃ ce, ce = rd_T49 X.r (j : Int) := ⟨_, rfl⟩
      rw [← hce] at y0 y1 y2 y3
      have hdr : X.r.drop j = ce :: X.r.drop (j + 1) := by
       rw [List.drop_eq_getElem_cons hlt, hce]
       simp [rd_T49, List.getD_eq_getElem?_getD, List.getElem?_eq_getElem hlt]
      have HDR := Aside0.mk hdr
      have HCE := Aside0.mk hce
      have hrl := World.block_lt_of_cell? wr _ y0
      clear hdr hce
      obtain ⟨gg, hgg⟩ : ∃ gg, gg = ce.f1 := ⟨_, rfl⟩
      rw [← hgg] at y1
      have HGG := Aside0.mk hgg
      clear hgg
      cases gg with
      | true =>
       obtain ⟨bc, hbc⟩ : ∃ b, b = wr.heap.size := ⟨_, rfl⟩
       go_upto_region 23 with fail
       refine wp_gen (fun wx => Aside0 (IsI A B ws.length fs.length c d bf bs w (ws.length : Int) (fn : Int) wx) ∧ Aside0 (wx.heap[bc]? = some (.cells #[.string ce.f0, .bool true, .int .i64 ce.f2.f0, .int .i64 ce.f2.f1] 49 (0, 0)))) ⟨⟨HB.out.next ((Below.refl _ _).alloc (Nat.le_refl _) _)⟩, ⟨by rw [hbc]; exact blk_new wr _⟩⟩ ?_
       rw [← hbc]
       clear hbc HB HWB HSR y0 y1 y2 y3 hrl
       rintro wx ⟨HB, HBC⟩
       have HWB := Aside0.mk (show Below w.heap.size w wx by rw [← HBF.out]; exact HB.out.below)
       have b1 := (blk_cell HB.out.fil 1).trans (show (#[Value.slice A ws.length c, Value.slice B fs.length d] : Array Value)[1]? = some _ from rfl)
       have bl := blk_lt HB.out.fil
       by_cases hnf : nx = fs.length
       ·have hq : ((nx : Int) == (fs.length : Int)) = true := by rw [hnf]; simp
        have hq2 : (nx == fs.length) = true := by rw [hnf]; simp
        have HR := Aside0.mk (show isF X ws fs = false by
         rw [HIF2.out, ← HC.out, HDR.out]
         unfold cellF
         rw [if_pos HGG.out.symm, if_pos (by rw [List.length_drop]; omega)])
        go_wp2_with fail
        go_ret
        exact ⟨by rw [HR.out]; rfl, HWB.out⟩
       ·have hq : ((nx : Int) == (fs.length : Int)) = false := beq_eq_false_iff_ne.2 (by omega)
        have hq2 : (nx == fs.length) = false := beq_eq_false_iff_ne.2 hnf
        have hnx2 : nx < fs.length := by omega
        have hnd : decide (nx < fs.length) = true := decide_eq_true hnx2
        obtain ⟨ab, eAb, z0⟩ := at_num (Kd.C_below HF.out HWB.out) nx hnx2
        have zl := World.block_lt_of_cell? wx _ z0
        rw [eAb] at b1
        obtain ⟨h, hh⟩ : ∃ h, h = rd fs (nx : Int) := ⟨_, rfl⟩
        rw [← hh] at z0
        have hdf : fs.drop nx = h :: fs.drop (nx + 1) := by
         rw [hh, List.drop_eq_getElem_cons hnx2]
         simp [rd, List.getD_eq_getElem?_getD, List.getElem?_eq_getElem hnx2]
        obtain ⟨mq, hmq⟩ : ∃ mq : Nat, min 10 (T'.size : Int) = (mq : Int) := ⟨(min 10 (T'.size : Int)).toNat, by omega⟩
        have hmq2 : (if (T'.size : Int) < 10 then (T'.size : Int) else 10) = (mq : Int) := by rw [← hmq]; split <;> omega
        have hmq3 : (if T'.size < 10 then (T'.size : Int) else 10) = (mq : Int) := by rw [← hmq]; split <;> omega
        obtain ⟨hb, hhb⟩ : ∃ b, b = inB h 0 (mq : Int) := ⟨_, rfl⟩
        have HHB := Aside0.mk hhb
        have HCF := Aside0.mk (show cellF X (X.r.drop j) (fs.drop nx) T' = (if hb = false then false else if (sumW X T' h.toNat).1 > ce.f2.f1 ∨ (sumW X T' h.toNat).2 < ce.f2.f0 then false else cellF X (X.r.drop (j + 1)) (fs.drop (nx + 1)) (T'.extract h.toNat T'.size)) by
         rw [HDR.out, hdf]
         conv => lhs; unfold cellF
         rw [if_pos HGG.out.symm, if_neg (by simp)]
         simp only [List.headD_cons, List.tail_cons]
         rw [hmq, hhb]
         rfl)
        have HH := Aside0.mk hh
        clear hhb hdf hh eAb
        cases hb with
        | false =>
         have HR := Aside0.mk (show isF X ws fs = false by rw [HIF2.out, ← HC.out, HCF.out]; rfl)
         go_wp2_with first | (go_at_call 49; refine (in_calls h 0 (mq : Int) wx).mono ?_; rintro e w7 ⟨rfl, hb7⟩; rw [← HHB.out]; have HB7 := Aside0.mk (HWB.out.trans (hb7.mono HWB.out.size)); clear hb7) | fail
         go_ret
         exact ⟨by rw [HR.out]; rfl, HB7.out⟩
        | true =>
         go_upto_region 25 with first | (go_at_call 49; refine (in_calls h 0 (mq : Int) wx).mono ?_; rintro e w7 ⟨rfl, hb7⟩; rw [← HHB.out]; have HB7 := Aside0.mk hb7; clear hb7) | fail
         have HB8 := Aside0.mk (HB.out.next HB7.out)
         have HBC8 := Aside0.mk (show w7.heap[bc]? = _ from blk_below HBC.out HB7.out)
         clear HB HWB HBC b1 bl z0 zl HB7
         have hHB2 := inB_true.1 HHB.out.symm
         obtain ⟨q, rfl⟩ : ∃ q : Nat, h = (q : Int) := ⟨h.toNat, by omega⟩
         have hqm : q ≤ 10 ∧ q ≤ T'.size := by omega
         have HQM := Aside0.mk hqm
         rw [Int.toNat_natCast] at HCF
         have HSZ := Aside0.mk (show bs < w7.heap.size ∧ bc < w7.heap.size from ⟨blk_lt HB8.out.st, blk_lt HBC8.out⟩)
         clear hmq hmq2 hmq3 hHB2 hqm
         obtain ⟨bw, hbw⟩ : ∃ b, b = w7.heap.size := ⟨_, rfl⟩
         go_upto_region 26 with fail
         refine wp_gen (fun wx => Aside0 (IsG A B ws.length fs.length c d bf bs bc bw w (ws.length : Int) (fn : Int) ce (sumW X T' 0) wx)) ⟨⟨HB8.out.next ((Below.refl _ _).alloc (Nat.le_refl _) _), blk_alloc HBC8.out _, by rw [hbw]; exact blk_new w7 _⟩⟩ ?_
         rw [← hbw] at HSZ
         rw [← hbw]
         clear hbw HB8 HBC8 w7
         rintro w8 HG
         have HWB := Aside0.mk (show Below w.heap.size w w8 by rw [← HBF.out]; exact HG.out.is.below)
         have b1 := (blk_cell HG.out.is.fil 1).trans (show (#[Value.slice A ws.length c, Value.slice B fs.length d] : Array Value)[1]? = some _ from rfl)
         have bl := blk_lt HG.out.is.fil
         obtain ⟨ab2, eAb2, z0⟩ := at_num (Kd.C_below HF.out HWB.out) nx hnx2
         have zl := World.block_lt_of_cell? w8 _ z0
         rw [← HH.out] at z0
         rw [eAb2] at b1
         clear eAb2
         have hq10 : (q : Int) ≤ 10 := by have := HQM.out; omega
         go_upto_region 27 with fail
         clear b1 bl z0 zl HWB
         go_loopg [13, 14, 129] q (fun k s13 s14 s129 wr => ∃ i : Nat, i + k = q ∧ s129 = .int .i64 (i : Int) ∧ Aside0 (IsG A B ws.length fs.length c d bf bs bc bw w (ws.length : Int) (fn : Int) ce (sumW X T' i) wr))
         case atStart => exact ⟨0, by omega, rfl, HG⟩
         case round =>
          clear HG w8
          obtain ⟨i, hi, rfl, HG⟩ := hrel
          have HI2 := Aside0.mk hi
          clear hi
          by_cases hiq : i < q
          ·have hiz : (i : Int) < (q : Int) := by omega
           have HIQ := Aside0.mk hiq
           have hid : decide (i < q) = true := decide_eq_true hiq
           have hiT : i < T'.size := by have := HQM.out; omega
           have hiT2 : (i : Int) < (T'.size : Int) := by omega
           obtain ⟨l0, l1⟩ := HLT'.out i hiT
           obtain ⟨a, ha⟩ : ∃ a, a = bt T' (i : Int) := ⟨_, rfl⟩
           have hbt : ((T'[i]'hiT).toNat : Int) = a := by
            rw [ha]
            unfold bt
            rw [dif_pos (by simpa using hiT)]
            simp
           rw [← ha] at l0 l1
           have HWB := Aside0.mk (show Below w.heap.size w wr by rw [← HBF.out]; exact HG.out.is.below)
           have HSR := Aside0.mk (HS.out.below HWB.out)
           obtain ⟨hw0, hw1⟩ := HSR.out.ew (a - 65).toNat (by omega)
           have y0 := HSR.out.cell _ hw0
           have y1 := HSR.out.cell _ hw1
           rw [show (((a - 65).toNat : Nat) : Int) = a - 65 by omega] at y0 y1
           obtain ⟨k0, k1, k2, k3⟩ := HX.out.w a l0 l1
           obtain ⟨g0, g1, g2, g3⟩ := sumW_le HX.out HLT'.out i (by omega)
           have HSS := Aside0.mk (show sumW X T' (i + 1) = ((sumW X T' i).1 + (rd_T47 X.l4 (a - 65)).f0, (sumW X T' i).2 + (rd_T47 X.l4 (a - 65)).f1) by rw [ha]; exact sumW_succ X T' i)
           obtain ⟨wl, hwl⟩ : ∃ x, x = (rd_T47 X.l4 (a - 65)).f0 := ⟨_, rfl⟩
           obtain ⟨wh, hwh⟩ : ∃ x, x = (rd_T47 X.l4 (a - 65)).f1 := ⟨_, rfl⟩
           rw [← hwl] at k0 k1 y0 HSS
           rw [← hwh] at k2 k3 y1 HSS
           obtain ⟨s, hs⟩ : ∃ s, s = sumW X T' i := ⟨_, rfl⟩
           rw [← hs] at g0 g1 g2 g3 HSS HG
           have g1' : s.1 ≤ 10000 := by omega
           have g3' : s.2 ≤ 10000 := by omega
           have sbl := blk_lt HSR.out.blk
           clear hwl hwh hs ha hw0 hw1 HSR g1 g3
           go_upto_region 29 with fail
           have HGL := Aside0.mk (show bw < wr.heap.size from blk_lt HG.out.box)
           go_region
           refine wp_gen' (fun wx => Aside0 (IsG A B ws.length fs.length c d bf bs bc bw w (ws.length : Int) (fn : Int) ce s wx) ∧ Aside0 (wx.heap[wr.heap.size]? = some (.cells #[.int .i64 wl, .int .i64 wh] 47 (0, 0)))) ⟨?_, ?_⟩ ?_
           ·exact ⟨HG.out.next (((Below.refl _ _).alloc (Nat.le_refl _) _).drew)⟩
           ·exact ⟨blk_new wr _⟩
           have HBW := Aside0.mk (show bs < bw ∧ bc < bw from HSZ.out)
           obtain ⟨b14, hb14⟩ : ∃ b, b = wr.heap.size := ⟨_, rfl⟩
           rw [← hb14]
           clear hb14 HG HWB y0 y1 sbl HGL
           rintro wx ⟨HG, H14⟩
           have u0 := (blk_cell HG.out.box 0).trans (show (#[Value.int .i64 s.1, .int .i64 s.2] : Array Value)[0]? = some _ from rfl)
           have u1 := (blk_cell HG.out.box 1).trans (show (#[Value.int .i64 s.1, .int .i64 s.2] : Array Value)[1]? = some _ from rfl)
           have v0 := (blk_cell H14.out 0).trans (show (#[Value.int .i64 wl, .int .i64 wh] : Array Value)[0]? = some _ from rfl)
           have v1 := (blk_cell H14.out 1).trans (show (#[Value.int .i64 wl, .int .i64 wh] : Array Value)[1]? = some _ from rfl)
           have ul := blk_lt HG.out.box
           have vl := blk_lt H14.out
           have f0 := blk_frozen HG.out.box 0
           have f1 := blk_frozen HG.out.box 1
           go_upto_region 31 with fail
           refine wp_gen (fun wx => Aside0 (IsG A B ws.length fs.length c d bf bs bc bw w (ws.length : Int) (fn : Int) ce (s.1 + wl, s.2 + wh) wx)) ⟨HG.out.set HBW.out.1 HBW.out.2 _ _⟩ ?_
           clear HG H14 u0 u1 v0 v1 ul vl f0 f1 wx
           rintro wx HG
           go_wp2_with fail
           go_roundg (gk - 1)
           case measure => have := HI2.out; have := HIQ.out; omega
           case rel => exact ⟨i + 1, by have := HI2.out; have := HIQ.out; omega, by go_num, ⟨by rw [HSS.out]; exact HG.out⟩⟩
          ·obtain rfl : i = q := by have := HI2.out; omega
           have hiz : ¬ (i : Int) < (i : Int) := by omega
           have hid : decide (i < i) = false := decide_eq_false hiq
           obtain ⟨s, hs⟩ : ∃ s, s = sumW X T' i := ⟨_, rfl⟩
           rw [← hs] at HG HCF
           clear hs
           have u0 := (blk_cell HG.out.box 0).trans (show (#[Value.int .i64 s.1, .int .i64 s.2] : Array Value)[0]? = some _ from rfl)
           have u1 := (blk_cell HG.out.box 1).trans (show (#[Value.int .i64 s.1, .int .i64 s.2] : Array Value)[1]? = some _ from rfl)
           have v2 := (blk_cell HG.out.cel 2).trans (show (#[Value.string ce.f0, .bool true, .int .i64 ce.f2.f0, .int .i64 ce.f2.f1] : Array Value)[2]? = some _ from rfl)
           have v3 := (blk_cell HG.out.cel 3).trans (show (#[Value.string ce.f0, .bool true, .int .i64 ce.f2.f0, .int .i64 ce.f2.f1] : Array Value)[3]? = some _ from rfl)
           have ul := blk_lt HG.out.box
           have vl := blk_lt HG.out.cel
           by_cases hA : ce.f2.f1 < s.1
           ·have hA1 : decide (ce.f2.f1 < s.1) = true := decide_eq_true hA
            have HR := Aside0.mk (show isF X ws fs = false by
             rw [HIF2.out, ← HC.out, HCF.out, if_neg (by decide), if_pos (.inl hA)])
            have HWB := Aside0.mk (show Below w.heap.size w wr by rw [← HBF.out]; exact HG.out.is.below)
            go_wp2_with fail
            go_ret
            exact ⟨by rw [HR.out]; rfl, HWB.out⟩
           ·have hA1 : decide (ce.f2.f1 < s.1) = false := decide_eq_false hA
            by_cases hB : s.2 < ce.f2.f0
            ·have hB1 : decide (s.2 < ce.f2.f0) = true := decide_eq_true hB
             have HR := Aside0.mk (show isF X ws fs = false by
              rw [HIF2.out, ← HC.out, HCF.out, if_neg (by decide), if_pos (.inr hB)])
             have HWB := Aside0.mk (show Below w.heap.size w wr by rw [← HBF.out]; exact HG.out.is.below)
             go_wp2_with fail
             go_ret
             exact ⟨by rw [HR.out]; rfl, HWB.out⟩
            ·have hB1 : decide (s.2 < ce.f2.f0) = false := decide_eq_false hB
             have HCN := Aside0.mk (show cellF X (X.r.drop (j + 1)) (fs.drop (nx + 1)) (T'.extract i T'.size) = cellF X X.r fs T by
              rw [← HC.out, HCF.out, if_neg (by decide), if_neg (by omega)])
             have HLE := Aside0.mk (lets_extract HLT'.out i)
             have HWB := Aside0.mk (show Below w.heap.size w wr by rw [← HBF.out]; exact HG.out.is.below)
             have b1 := (blk_cell HG.out.is.fil 1).trans (show (#[Value.slice A ws.length c, Value.slice B fs.length d] : Array Value)[1]? = some _ from rfl)
             have bl := blk_lt HG.out.is.fil
             obtain ⟨ab3, eAb3, z0⟩ := at_num (Kd.C_below HF.out HWB.out) nx hnx2
             have zl := World.block_lt_of_cell? wr _ z0
             rw [← HH.out] at z0
             rw [eAb3] at b1
             clear eAb3
             have hiT : i ≤ T'.size := HQM.out.2
             have hiT2 : (i : Int) ≤ (T'.size : Int) := by omega
             have hiTd : decide (i ≤ T'.size) = true := decide_eq_true hiT
             go_wp2_with fail
             go_roundg (X.r.length - (j + 1))
             case measure => have := HJN.out; have := HLT.out; omega
             case rel => exact ⟨j + 1, nx + 1, T'.extract i T'.size, by have := HJN.out; have := HLT.out; omega, by go_num, rfl, by first | rfl | go_num, hnx2, by omega, by rw [ByteArray.size_extract]; omega, HLE, HCN, ⟨HG.out.is⟩⟩
      | false =>
       have HCF := Aside0.mk (show cellF X (X.r.drop j) (fs.drop nx) T' = (if T'.size = 0 then false else if fitB ce.f0 (bt T' 0) = false then false else cellF X (X.r.drop (j + 1)) (fs.drop nx) (T'.extract 1 T'.size)) by
        rw [HDR.out]
        conv => lhs; unfold cellF
        rw [if_neg (by rw [← HGG.out]; simp)])
       go_upto_region 20 with fail
       refine wp_gen (fun wx => Aside0 (IsI A B ws.length fs.length c d bf bs w (ws.length : Int) (fn : Int) wx)) ⟨HB.out.next ((Below.refl _ _).alloc (Nat.le_refl _) _)⟩ ?_
       clear HB HWB HSR y0 y1 y2 y3 hrl
       rintro wx HB
       have HWB := Aside0.mk (show Below w.heap.size w wx by rw [← HBF.out]; exact HB.out.below)
       by_cases hT0 : T'.size = 0
       ·have t0 : (T'.toList == ([] : List UInt8)) = true := beq_iff_eq.mpr ((nil_size T').2 hT0)
        have HR := Aside0.mk (show isF X ws fs = false by rw [HIF2.out, ← HC.out, HCF.out, if_pos hT0])
        go_upto_region 21 with first | go_quiet (fail) | fail
        go_wp2_with fail
        go_ret
        exact ⟨by rw [HR.out]; rfl, pw_below_drewN HWB.out _⟩
       ·have t0 : (T'.toList == ([] : List UInt8)) = false := beq_eq_false_iff_ne.mpr (fun e => hT0 ((nil_size T').1 e))
        have HSR := Aside0.mk (HS.out.below HWB.out)
        obtain ⟨af, eAf, z0⟩ := Kd.at_int HSR.out.hf (j : Int) (by omega) (by omega)
        rw [Int.toNat_natCast] at z0
        have c6 := HSR.out.cell 6 HSR.out.e6
        rw [eAf] at c6
        have sbl := blk_lt HSR.out.blk
        have zl := World.block_lt_of_cell? wx _ z0
        obtain ⟨l0, l1⟩ := HLT'.out 0 (by omega)
        have hTp : 0 < T'.size := Nat.pos_of_ne_zero hT0
        have hTp2 : (0 : Int) < (T'.size : Int) := by omega
        have hbt0 : ((T'[0]'hTp).toNat : Int) = bt T' 0 := by
         unfold bt
         rw [dif_pos (by simpa using hTp)]
         rfl
        obtain ⟨a, ha⟩ : ∃ a, a = bt T' 0 := ⟨_, rfl⟩
        rw [← ha] at hbt0
        have HA := Aside0.mk (show 65 ≤ a ∧ a ≤ 90 by rw [ha]; exact ⟨l0, l1⟩)
        obtain ⟨hv, hhv⟩ : ∃ b, b = fitB ce.f0 a := ⟨_, rfl⟩
        have HFA := Aside0.mk (show gap_letters_has.f (rd fits (j : Int)) a = some hv by rw [hhv, HCE.out]; exact HX.out.f j HLT.out a HA.out.1 HA.out.2)
        have HCV := Aside0.mk (show cellF X (X.r.drop j) (fs.drop nx) T' = (if hv = false then false else cellF X (X.r.drop (j + 1)) (fs.drop nx) (T'.extract 1 T'.size)) by
         rw [HCF.out, if_neg hT0, ← ha, ← hhv])
        have hfl : (X.r.length : Int) ≤ 1000 := hrn
        clear ha hhv l0 l1 eAf
        cases hv with
        | false =>
         have HR := Aside0.mk (show isF X ws fs = false by rw [HIF2.out, ← HC.out, HCV.out]; rfl)
         go_upto_region 21 with first | go_quiet (exact Calls.quiet_of ((gap_letters_has.calls _ _ _ _ HFA.out).mono (fun _ _ h => ⟨h.1, h.2.out⟩))) | fail
         go_wp2_with fail
         go_ret
         exact ⟨by rw [HR.out]; rfl, pw_below_drewN HWB.out _⟩
        | true =>
         have HCN := Aside0.mk (show cellF X (X.r.drop (j + 1)) (fs.drop nx) (T'.extract 1 T'.size) = cellF X X.r fs T by rw [← HC.out, HCV.out]; rfl)
         have HLE := Aside0.mk (lets_extract HLT'.out 1)
         go_upto_region 22 with first | go_quiet (exact Calls.quiet_of ((gap_letters_has.calls _ _ _ _ HFA.out).mono (fun _ _ h => ⟨h.1, h.2.out⟩))) | fail
         refine wp_gen (fun wx => Aside0 (IsI A B ws.length fs.length c d bf bs w (ws.length : Int) (fn : Int) wx)) ⟨HB.out.next (pw_below_drewN (Below.refl _ _) _)⟩ ?_
         clear HB HWB HSR z0 c6 sbl zl
         rintro wy HB
         go_wp2_with fail
         go_roundg (gk - 1)
         case measure => have := HJN.out; have := HLT.out; omega
         case rel => exact ⟨j + 1, nx, T'.extract 1 T'.size, by have := HJN.out; have := HLT.out; omega, by go_num, rfl, rfl, hnx, by omega, by rw [ByteArray.size_extract]; omega, HLE, HCN, HB⟩
     ·have hjz : ¬ (j : Int) < (X.r.length : Int) := by omega
      have hjd : decide (j < X.r.length) = false := decide_eq_false hlt
      have b1 := (blk_cell HB.out.fil 1).trans (show (#[Value.slice A ws.length c, Value.slice B fs.length d] : Array Value)[1]? = some _ from rfl)
      have bl := blk_lt HB.out.fil
      have HR := Aside0.mk (show isF X ws fs = (decide (T'.size = 0) && decide ((fs.drop nx).length = 0)) by
       rw [HIF2.out, ← HC.out, List.drop_eq_nil_of_le (by omega)]
       rfl)
      by_cases hT0 : T'.size = 0
      ·have t0 : (T'.toList == ([] : List UInt8)) = true := beq_iff_eq.mpr ((nil_size T').2 hT0)
       by_cases hnf : nx = fs.length
       ·have hq : ((nx : Int) == (fs.length : Int)) = true := by rw [hnf]; simp
        have hq2 : (nx == fs.length) = true := by rw [hnf]; simp
        go_wp2_with fail
        go_ret
        refine ⟨?_, HWB.out⟩
        rw [HR.out, decide_eq_true hT0, decide_eq_true (by rw [List.length_drop]; omega)]
        rfl
       ·have hq : ((nx : Int) == (fs.length : Int)) = false := beq_eq_false_iff_ne.2 (by omega)
        have hq2 : (nx == fs.length) = false := beq_eq_false_iff_ne.2 hnf
        go_wp2_with fail
        go_ret
        refine ⟨?_, HWB.out⟩
        rw [HR.out, decide_eq_true hT0, decide_eq_false (by rw [List.length_drop]; omega)]
        rfl
      ·have t0 : (T'.toList == ([] : List UInt8)) = false := beq_eq_false_iff_ne.mpr (fun e => hT0 ((nil_size T').1 e))
       go_wp2_with fail
       go_ret
       refine ⟨?_, HWB.out⟩
       rw [HR.out, decide_eq_false hT0]
       rfl
end Go.Proofs.Ytkfebceainedfaa.P.OwnGap
