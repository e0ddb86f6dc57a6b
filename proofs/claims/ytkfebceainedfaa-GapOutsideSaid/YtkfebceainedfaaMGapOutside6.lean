/- Lemmas for the statement GapOutside of the given program, for every input that its row lets in. Conditions: none beyond those that each lemma tells. -/
import Derived.Deep.RegionHeld3
import Derived.Deep.LoopGhost
import Derived.Shelf.Abstract
import Derived.SizedLaws
import Derived.ChangeSlices
import Derived.Test.YtkfebceainedfaaMGapOutside5
set_option linter.unusedVariables false
set_option linter.unusedSimpArgs false
namespace Go.Proofs.Ytkfebceainedfaa.P.OwnGap
open Go.RowKit Go.Shelf Go.Proofs.YtkfebceainedfaaW.PrintWords Go.Proofs.YtkfebceainedfaaW.PrintLast Go.Proofs.YtkfebceainedfaaW.PrintMore
open Go.Proofs.Ytkfebceainedfaa.OwnGap
set_option linter.unusedVariables false
set_option linter.unusedSimpArgs false
attribute [local go_sem] Oper.semAt_some
def fitsV (l0 : List S53) (l1 l2 : List Bool) (l3 : List (List Bool)) (l4 : List S47) (r : List S49) (ws fs : List Int) : Int :=
 if bothV l0 l1 l2 l3 l4 r = 0 then (if ws.any (outB l0.length) = true then 3 else if isF ⟨l0, l1, l2, l3, l4, r⟩ ws fs = true then 0 else 9) else bothV l0 l1 l2 l3 l4 r
structure FiI (X : Lx) (A0 A1 A2 A3 A4 Ar : Option Addr) (c0 c1 c2 c3 c4 cr : Nat) (A B : Option Addr) (n m c d : Nat) (b : Nat) (w W : World) : Prop where
 below : Below b w W
 size : b + 2 ≤ W.heap.size
 lx : LxIn X A0 A1 A2 A3 A4 Ar c0 c1 c2 c3 c4 cr W
 bx : BxAt X A0 A1 A2 A3 A4 c0 c1 c2 c3 c4 b W
 fil : FilAt A B n m c d (b + 1) W
section
variable {X : Lx} {A0 A1 A2 A3 A4 Ar : Option Addr} {c0 c1 c2 c3 c4 cr : Nat} {A B : Option Addr} {n m c d : Nat} {w w' : World}
theorem FiI.next {b : Nat} {W W' : World} (h : FiI X A0 A1 A2 A3 A4 Ar c0 c1 c2 c3 c4 cr A B n m c d b w W) (hb : Below W.heap.size W W') : FiI X A0 A1 A2 A3 A4 Ar c0 c1 c2 c3 c4 cr A B n m c d b w W' :=
 ⟨h.below.trans (hb.mono (by have := h.size; omega)), Nat.le_trans h.size hb.size, h.lx.below hb, h.bx.below hb, blk_below h.fil hb⟩
theorem FiI.start (A B : Option Addr) (n m c d : Nat) (h : LxIn X A0 A1 A2 A3 A4 Ar c0 c1 c2 c3 c4 cr w) : FiI X A0 A1 A2 A3 A4 Ar c0 c1 c2 c3 c4 cr A B n m c d w.heap.size w ((w.alloc (.cells #[.slice A0 X.l0.length c0, .slice A1 X.l1.length c1, .slice A2 X.l2.length c2, .slice A3 X.l3.length c3, .slice A4 X.l4.length c4] 28)).alloc (.cells #[.slice A n c, .slice B m d] 31)) := by
 have h1 : Below w.heap.size w (w.alloc (.cells #[.slice A0 X.l0.length c0, .slice A1 X.l1.length c1, .slice A2 X.l2.length c2, .slice A3 X.l3.length c3, .slice A4 X.l4.length c4] 28)) := (Below.refl _ _).alloc (Nat.le_refl _) _
 refine ⟨h1.alloc (by simp) _, by simp, h.below (h1.alloc (by simp) _), blk_alloc (blk_new w _) _, ?_⟩
 have h2 := blk_new (w.alloc (.cells #[.slice A0 X.l0.length c0, .slice A1 X.l1.length c1, .slice A2 X.l2.length c2, .slice A3 X.l3.length c3, .slice A4 X.l4.length c4] 28)) (.cells #[.slice A n c, .slice B m d] 31)
 rw [World.size_alloc] at h2
 exact h2
end
theorem out_iff {n : Nat} {i : Int} : outB n i = false ↔ 0 ≤ i ∧ i < (n : Int) := by
 unfold outB
 rw [Bool.not_eq_false', inB_true]
 omega
set_option maxHeartbeats 4000000 in
set_option maxRecDepth 100000 in
theorem fits_calls (X : Lx) (A0 A1 A2 A3 A4 Ar : Option Addr) (c0 c1 c2 c3 c4 cr : Nat) (A B : Option Addr) (c d : Nat) (ws fs : List Int) (w : World) (hin : LxIn X A0 A1 A2 A3 A4 Ar c0 c1 c2 c3 c4 cr w) (hw : Kd.C (Kd.int .i64) w A ws.length ws) (hf : Kd.C (Kd.int .i64) w B fs.length fs) (hwl : ws.length ≤ 1000000000) (hb : bothV X.l0 X.l1 X.l2 X.l3 X.l4 X.r = 0) :
  Calls Try.prog 15 #[.agg #[.slice A0 X.l0.length c0, .slice A1 X.l1.length c1, .slice A2 X.l2.length c2, .slice A3 X.l3.length c3, .slice A4 X.l4.length c4], .slice Ar X.r.length cr, .agg #[.slice A ws.length c, .slice B fs.length d]] w fun e w' => e = .returned (.int .i64 (fitsV X.l0 X.l1 X.l2 X.l3 X.l4 X.r ws fs)) ∧ Below w.heap.size w w' := by
 have HI0 := Aside0.mk (FiI.start A B ws.length fs.length c d hin)
 have HW := Aside0.mk hw
 have HF := Aside0.mk hf
 have HIN := Aside0.mk hin
 clear hin hw hf
 have HBV := Aside0.mk hb
 have HV0 := Aside0.mk (show fitsV X.l0 X.l1 X.l2 X.l3 X.l4 X.r ws fs = (if ws.any (outB X.l0.length) = true then 3 else if isF X ws fs = true then 0 else 9) from if_pos hb)
 clear hb
 obtain ⟨n0, hn0⟩ : ∃ n, n = w.heap.size := ⟨_, rfl⟩
 have HN0 := Aside0.mk hn0
 go_enter Try.func15, Try.ntmps15
 go_upto_region 1 with fail
 refine wp_gen (fun wx => Aside0 (FiI X A0 A1 A2 A3 A4 Ar c0 c1 c2 c3 c4 cr A B ws.length fs.length c d n0 w wx)) ⟨by rw [hn0]; exact HI0.out⟩ ?_
 rw [← hn0]
 clear hn0 HI0
 rintro w1 HI
 obtain ⟨x0, x1, x2, x3, x4⟩ := HI.out.bx.cells
 have xl := blk_lt HI.out.bx
 go_upto_region 4 with first | (go_at_call 48; refine (both_calls HI.out.lx HBV.out).mono ?_; rintro e w2 ⟨rfl, hb1⟩; rw [HBV.out]; have HI2 := Aside0.mk (HI.out.next hb1); clear hb1) | fail
 clear x0 x1 x2 x3 x4 xl HI
 have hnl : X.l0.length ≤ 1000 := by
  have := (checkV_zero (X := X) (bothV_zero HBV.out).1).n12
  omega
 have HCN := Aside0.mk (containsI_calls 53 #[.pointer (some ⟨n0, 0, none⟩)] (fun args w => rfl) (outB X.l0.length) (FiI X A0 A1 A2 A3 A4 Ar c0 c1 c2 c3 c4 cr A B ws.length fs.length c d n0 w) A c ws hwl w2 HI2.out
  (fun W h => Kd.C_below HW.out (HN0.out ▸ h.below)) (fun q _ W h => (fits1_calls X.l0.length A0 c0 hnl n0 q W h.bx.cells.1).mono (fun e W' ⟨he, hb⟩ => ⟨he, h.next hb⟩)))
 obtain ⟨bo, hbo⟩ : ∃ b, b = ws.any (outB X.l0.length) := ⟨_, rfl⟩
 have HBO := Aside0.mk hbo
 rw [← hbo] at HCN
 clear hbo
 have a0 := (blk_cell HI2.out.fil 0).trans (show (#[Value.slice A ws.length c, Value.slice B fs.length d] : Array Value)[0]? = some _ from rfl)
 have al := blk_lt HI2.out.fil
 cases bo with
 | true =>
  have HV := Aside0.mk (show fitsV X.l0 X.l1 X.l2 X.l3 X.l4 X.r ws fs = 3 by rw [HV0.out, if_pos HBO.out.symm])
  go_wp2_with first | (go_at_call 52; refine HCN.out.mono ?_; rintro e w3 ⟨rfl, hi3⟩; have HI3 := Aside0.mk hi3; clear hi3) | fail
  go_ret
  exact ⟨by rw [HV.out]; rfl, HN0.out ▸ HI3.out.below⟩
 | false =>
  have HWI := Aside0.mk (show ∀ u ∈ ws, 0 ≤ u ∧ u < (X.l0.length : Int) by
   intro u hu
   have h := HBO.out.symm
   rw [List.any_eq_false] at h
   exact out_iff.1 (by simpa using h u hu))
  obtain ⟨bi, hbi⟩ : ∃ b, b = isF X ws fs := ⟨_, rfl⟩
  have HV := Aside0.mk (show fitsV X.l0 X.l1 X.l2 X.l3 X.l4 X.r ws fs = (if bi = true then 0 else 9) by rw [HV0.out, if_neg (by rw [← HBO.out]; decide), hbi])
  have HBI := Aside0.mk hbi
  clear hbi
  go_upto_region 6 with first | (go_at_call 52; refine HCN.out.mono ?_; rintro e w3 ⟨rfl, hi3⟩; have HI3 := Aside0.mk hi3; clear hi3) | fail
  clear a0 al HCN HI2
  obtain ⟨x0, x1, x2, x3, x4⟩ := HI3.out.bx.cells
  have xl := blk_lt HI3.out.bx
  have a0 := (blk_cell HI3.out.fil 0).trans (show (#[Value.slice A ws.length c, Value.slice B fs.length d] : Array Value)[0]? = some _ from rfl)
  have a1 := (blk_cell HI3.out.fil 1).trans (show (#[Value.slice A ws.length c, Value.slice B fs.length d] : Array Value)[1]? = some _ from rfl)
  have al := blk_lt HI3.out.fil
  have HCC := Aside0.mk (fun (W' : World) (hb : Below w3.heap.size w3 W') => show W'.cell? ⟨n0, 0, none⟩ = some (.slice A0 X.l0.length c0) ∧ W'.cell? ⟨n0, 1, none⟩ = some (.slice A1 X.l1.length c1) ∧ W'.cell? ⟨n0, 2, none⟩ = some (.slice A2 X.l2.length c2) ∧ W'.cell? ⟨n0, 3, none⟩ = some (.slice A3 X.l3.length c3) ∧ W'.cell? ⟨n0, 4, none⟩ = some (.slice A4 X.l4.length c4) ∧ W'.cell? ⟨n0 + 1, 0, none⟩ = some (.slice A ws.length c) ∧ W'.cell? ⟨n0 + 1, 1, none⟩ = some (.slice B fs.length d) from
   ⟨(hb.cell (p := ⟨n0, 0, none⟩) xl).trans x0, (hb.cell (p := ⟨n0, 1, none⟩) xl).trans x1, (hb.cell (p := ⟨n0, 2, none⟩) xl).trans x2, (hb.cell (p := ⟨n0, 3, none⟩) xl).trans x3, (hb.cell (p := ⟨n0, 4, none⟩) xl).trans x4, (hb.cell (p := ⟨n0 + 1, 0, none⟩) al).trans a0, (hb.cell (p := ⟨n0 + 1, 1, none⟩) al).trans a1⟩)
  have HSC := Aside0.mk (search_calls (w := w3.drew) (HI3.out.lx.below (Below.drew (Below.refl _ _))) HBV.out)
  have HIS := Aside0.mk (fun (S : SV) (w4 : World) (hS : AW X S (X.r.map fun c => ofV c.f0) w4) (hb : Below w3.heap.size w3 w4) => show Calls Try.prog 54 #[.pointer (some ⟨S.b, 0, none⟩), .agg #[.slice A ws.length c, .slice B fs.length d]] w4 fun e w' => e = .returned (.bool bi) ∧ Below w4.heap.size w4 w' by
   rw [HBI.out]
   obtain ⟨hc, hr⟩ := bothV_zero HBV.out
   have oc := checkV_zero (X := X) hc
   have or := rowV_zero hr
   have hb4 : Below w.heap.size w w4 := HN0.out ▸ (HI3.out.next hb).below
   exact isf_calls X S _ (okX_of oc or) (okL_of oc) w4 hS.sr ws fs A B c d (Kd.C_below HW.out hb4) (Kd.C_below HF.out hb4) (fun j hj => by
    have : rd ws (j : Int) ∈ ws := by
     rw [show rd ws (j : Int) = ws[j] by simp [rd, List.getD_eq_getElem?_getD, List.getElem?_eq_getElem hj]]
     exact List.getElem_mem hj
    exact HWI.out _ this))
  go_region_held3 (fun w' => w'.cell? ⟨n0, 0, none⟩ = some (.slice A0 X.l0.length c0) ∧ w'.cell? ⟨n0, 1, none⟩ = some (.slice A1 X.l1.length c1) ∧ w'.cell? ⟨n0, 2, none⟩ = some (.slice A2 X.l2.length c2) ∧ w'.cell? ⟨n0, 3, none⟩ = some (.slice A3 X.l3.length c3) ∧ w'.cell? ⟨n0, 4, none⟩ = some (.slice A4 X.l4.length c4) ∧ w'.cell? ⟨n0 + 1, 0, none⟩ = some (.slice A ws.length c) ∧ w'.cell? ⟨n0 + 1, 1, none⟩ = some (.slice B fs.length d))
   (first | exact HCC.out _ HB5.out | exact HCC.out _ HB4.out | go_keep)
   (first
    | (go_at_call 50; refine HSC.out.mono ?_; rintro e w4 ⟨S, rfl, haw, hb4, -, -⟩; have HAW := Aside0.mk haw; have HB4 := Aside0.mk (show Below w3.heap.size w3 w4 from (Below.drew (Below.refl _ _)).trans hb4); clear haw hb4)
    | (go_at_call 54; refine (HIS.out _ _ HAW.out HB4.out).mono ?_; rintro e w5 ⟨rfl, hb5⟩; have HB5 := Aside0.mk (show Below w3.heap.size w3 w5 from HB4.out.trans (hb5.mono HB4.out.size)); clear hb5))
  have HI5 := Aside0.mk (HI3.out.next HB5.out)
  cases bi with
  | true =>
   go_wp2_with fail
   go_ret
   exact ⟨by rw [HV.out]; rfl, HN0.out ▸ HI5.out.below⟩
  | false =>
   go_wp2_with fail
   go_ret
   exact ⟨by rw [HV.out]; rfl, HN0.out ▸ HI5.out.below⟩
end Go.Proofs.Ytkfebceainedfaa.P.OwnGap
namespace Go.Proofs.Ytkfebceainedfaa.P
open Go.RowKit Go.Proofs.YtkfebceainedfaaW.PrintWords Go.Proofs.YtkfebceainedfaaW.PrintLast Go.Proofs.YtkfebceainedfaaW.PrintMore
attribute [local go_sem] max2_int min2_int max_two min_two max_three min_three max_four min_four   -- for this text's walks alone
set_option linter.unusedVariables false
set_option linter.unusedSimpArgs false
def gap_textOf.f (l0_0 : List (S53)) (l0_1 : List Bool) (l0_2 : List Bool) (l0_3 : List (List Bool)) (l0_4 : List (S47)) (a1 : Int) : Option (ByteArray) := if 0 ≤ a1 then (if a1 < (l0_0.length : Int) then (some ((rd_T53 l0_0 a1).f0)) else (none)) else (none)
set_option maxHeartbeats 8000000 in
set_option maxRecDepth 100000 in
theorem gap_textOf.calls (A0_0 : Option Addr) (c0_0 : Nat) (l0_0 : List (S53)) (A0_1 : Option Addr) (c0_1 : Nat) (l0_1 : List Bool) (A0_2 : Option Addr) (c0_2 : Nat) (l0_2 : List Bool) (A0_3 : Option Addr) (c0_3 : Nat) (l0_3 : List (List Bool)) (A0_4 : Option Addr) (c0_4 : Nat) (l0_4 : List (S47)) (a1 : Int) (r : ByteArray) (w : World) (hr0_0 : Kd.C k53 w A0_0 l0_0.length l0_0) (hc0_0 : l0_0.length ≤ c0_0) (hr0_1 : Kd.C Kd.bool w A0_1 l0_1.length l0_1) (hc0_1 : l0_1.length ≤ c0_1) (hr0_2 : Kd.C Kd.bool w A0_2 l0_2.length l0_2) (hc0_2 : l0_2.length ≤ c0_2) (hr0_3 : Kd.C (Kd.slice 4 Kd.bool) w A0_3 l0_3.length l0_3) (hc0_3 : l0_3.length ≤ c0_3) (hr0_4 : Kd.C k47 w A0_4 l0_4.length l0_4) (hc0_4 : l0_4.length ≤ c0_4) (h : gap_textOf.f l0_0 l0_1 l0_2 l0_3 l0_4 a1 = some r) :
  Calls Try.prog 65 #[.agg #[.slice A0_0 l0_0.length c0_0, .slice A0_1 l0_1.length c0_1, .slice A0_2 l0_2.length c0_2, .slice A0_3 l0_3.length c0_3, .slice A0_4 l0_4.length c0_4], .int .i64 a1] w fun e w' => e = .returned (.string r) ∧ Below w.heap.size w w' := by
 have hu28 := Try.underlying28
 have HR0_0 := Aside0.mk hr0_0
 have HC0_0 := Aside0.mk hc0_0
 clear hr0_0 hc0_0
 have HR0_1 := Aside0.mk hr0_1
 have HC0_1 := Aside0.mk hc0_1
 clear hr0_1 hc0_1
 have HR0_2 := Aside0.mk hr0_2
 have HC0_2 := Aside0.mk hc0_2
 clear hr0_2 hc0_2
 have HR0_3 := Aside0.mk hr0_3
 have HC0_3 := Aside0.mk hc0_3
 clear hr0_3 hc0_3
 have HR0_4 := Aside0.mk hr0_4
 have HC0_4 := Aside0.mk hc0_4
 clear hr0_4 hc0_4
 have HB := Aside0.mk (Below.refl w.heap.size w)
 have H : (if 0 ≤ a1 then (if a1 < (l0_0.length : Int) then (some ((rd_T53 l0_0 a1).f0)) else (none)) else (none)) = some r := h
 clear h
 by_cases c3 : 0 ≤ a1
 ·rw [if_pos c3] at H
  have c3b0 : decide (0 ≤ a1) = true := decide_eq_true c3
  clear c3
  by_cases c4 : a1 < (l0_0.length : Int)
  ·rw [if_pos c4] at H
   have c4b0 : decide (a1 < (l0_0.length : Int)) = true := decide_eq_true c4
   clear c4
   obtain rfl := Option.some.inj H
   go_enter Try.func65, Try.ntmps65
   go_wp2_with (first | ((with_reducible refine gate_dst (N := 2) rfl ?_); refine box_event ?hg (N := 2) ?hd (cs := #[.slice A0_0 l0_0.length c0_0, .slice A0_1 l0_1.length c0_1, .slice A0_2 l0_2.length c0_2, .slice A0_3 l0_3.length c0_3, .slice A0_4 l0_4.length c0_4]) (t := 28) ?hr ?_; (case hd => rfl); (case hg => rfl); (case hr => first | (go_simp; done) | (go_simp; rfl)); intro gb364 hg w5 hbox hb; have n0_ := Aside0.mk (below_step (by repeat (first | (with_reducible first | exact HB.out | apply below_alloc | apply pw_below_drewN | apply below_drew1) | exact HB.out)) hb); have n1_ := Aside0.mk (hbox); have n2_ := Aside0.mk ((by rw [hg]; exact (below_size (by repeat (first | (with_reducible first | exact HB.out | apply below_alloc | apply pw_below_drewN | apply below_drew1) | exact HB.out))) : w.heap.size ≤ gb364)); have n3_ := Aside0.mk ((by rw [hg]; exact (below_size (by repeat (first | (with_reducible first | exact HB.out | apply below_alloc | apply pw_below_drewN | apply below_drew1) | exact HB.out))) : w.heap.size ≤ gb364)); clear HB; have HB := n0_; have BK364 := n1_; have GW364 := n2_; have GE364 := n3_; clear n0_ n1_ n2_ n3_; clear hb hbox hg; have hcz6_0 : w5.cell? ⟨gb364, 0, none⟩ = some (.slice A0_0 l0_0.length c0_0) := (blk_cell BK364.out 0).trans rfl; have hcz6_1 : w5.cell? ⟨gb364, 1, none⟩ = some (.slice A0_1 l0_1.length c0_1) := (blk_cell BK364.out 1).trans rfl; have hcz6_2 : w5.cell? ⟨gb364, 2, none⟩ = some (.slice A0_2 l0_2.length c0_2) := (blk_cell BK364.out 2).trans rfl; have hcz6_3 : w5.cell? ⟨gb364, 3, none⟩ = some (.slice A0_3 l0_3.length c0_3) := (blk_cell BK364.out 3).trans rfl; have hcz6_4 : w5.cell? ⟨gb364, 4, none⟩ = some (.slice A0_4 l0_4.length c0_4) := (blk_cell BK364.out 4).trans rfl; have hfz6_0 := blk_frozen BK364.out 0; have hfz6_1 := blk_frozen BK364.out 1; have hfz6_2 := blk_frozen BK364.out 2; have hfz6_3 := blk_frozen BK364.out 3; have hfz6_4 := blk_frozen BK364.out 4; have p365 : 0 ≤ (a1 : Int) := of_decide_eq_true (by first | (with_reducible assumption) | assumption); have q365 : a1 < (l0_0.length : Int) := of_decide_eq_true (by first | (with_reducible assumption) | assumption); obtain ⟨ad365, e365, hx365_0, hx365_1⟩ := at_T53 HR0_0.out a1 p365 q365; cases e365; replace hx365_0 := (HB.out.cell (World.block_lt_of_cell? w _ hx365_0)).trans hx365_0; replace hx365_1 := (HB.out.cell (World.block_lt_of_cell? w _ hx365_1)).trans hx365_1; replace p365 := eq_true p365; replace q365 := eq_true q365))
   go_ret
   exact ⟨by first | rfl | (simp [errW_none, errW_some] <;> rfl) | (simp [*, errW_none, errW_some] <;> rfl), by repeat (first | (with_reducible first | exact HB.out | apply below_alloc | apply pw_below_drewN | apply below_drew1 | refine below_set ?_ GE364.out) | exact HB.out)⟩
  ·rw [if_neg c4] at H
   exact absurd H (by simp)
 ·rw [if_neg c3] at H
  exact absurd H (by simp)
end Go.Proofs.Ytkfebceainedfaa.P
namespace Go.Proofs.Ytkfebceainedfaa.P.OwnGap
open Go.RowKit Go.Shelf Go.Proofs.YtkfebceainedfaaW.PrintWords Go.Proofs.YtkfebceainedfaaW.PrintLast Go.Proofs.YtkfebceainedfaaW.PrintMore
open Go.Proofs.Ytkfebceainedfaa.OwnGap
set_option linter.unusedVariables false
set_option linter.unusedSimpArgs false
attribute [local go_sem] Oper.semAt_some
theorem infoB4 : (Try.prog.info? 4).map (fun i => (i.zero, i.size, i.bytes)) = some (some (.bool false), 1, 1) := by kernel_rfl
theorem fitsV_zero {X : Lx} {ws fs : List Int} (h : fitsV X.l0 X.l1 X.l2 X.l3 X.l4 X.r ws fs = 0) : bothV X.l0 X.l1 X.l2 X.l3 X.l4 X.r = 0 ∧ isF X ws fs = true ∧ ∀ u ∈ ws, 0 ≤ u ∧ u < (X.l0.length : Int) := by
 unfold fitsV at h
 by_cases hb : bothV X.l0 X.l1 X.l2 X.l3 X.l4 X.r = 0
 ·rw [if_pos hb] at h
  cases ho : ws.any (outB X.l0.length) with
  | true =>
   rw [if_pos ho] at h
   exact absurd h (by decide)
  | false =>
   rw [if_neg (by rw [ho]; decide)] at h
   refine ⟨hb, ?_, fun u hu => ?_⟩
   ·cases hi : isF X ws fs with
    | true => rfl
    | false =>
     rw [if_neg (by rw [show isF ⟨X.l0, X.l1, X.l2, X.l3, X.l4, X.r⟩ ws fs = isF X ws fs from rfl, hi]; decide)] at h
     exact absurd h (by decide)
   ·rw [List.any_eq_false] at ho
    exact out_iff.1 (by simpa using ho u hu)
 ·rw [if_neg hb] at h
  exact absurd h hb
theorem isF_parts {X : Lx} {ws fs : List Int} (h : isF X ws fs = true) : (1 ≤ ws.length ∧ ws.length ≤ 8) ∧ PartsOk X.r fs (wordsV X ws) ∧ (partsF X.r fs (wordsV X ws)).length = X.r.length ∧ (partsF X.r fs (wordsV X ws)).flatMap (fun p => p.data.toList) = conT X ws ∧ fs.length ≤ X.r.length := by
 unfold isF at h
 by_cases hin : inB (ws.length : Int) 1 8 = true
 ·rw [if_pos hin] at h
  have hb := inB_true.1 hin
  cases hm : mayAll X 0 0 ws with
  | none => rw [hm] at h; cases h
  | some f' =>
   rw [hm] at h
   have h' : (rdOf false X.l2 f' && cellF X X.r fs (wordsV X ws)) = true := h
   rw [Bool.and_eq_true] at h'
   obtain ⟨p1, p2, p3⟩ := cellF_parts X X.r fs _ h'.2
   exact ⟨by omega, p1, p2, p3, by rw [cellF_fills X X.r fs _ h'.2]; exact List.length_filter_le _ _⟩
 ·rw [if_neg hin] at h
  cases h
theorem mem_flat_len {p : ByteArray} : ∀ {ps : List ByteArray}, p ∈ ps → p.size ≤ (ps.flatMap fun p => p.data.toList).length
 | [], h => absurd h (by simp)
 | q :: ps, h => by
  rw [List.flatMap_cons, List.length_append, data_length]
  rcases List.mem_cons.1 h with rfl | h
  ·omega
  ·have := mem_flat_len h
   omega
theorem textOf_calls {X : Lx} {A0 A1 A2 A3 A4 Ar : Option Addr} {c0 c1 c2 c3 c4 cr : Nat} {w : World} (h : LxIn X A0 A1 A2 A3 A4 Ar c0 c1 c2 c3 c4 cr w) (u : Int) (h0 : 0 ≤ u) (h1 : u < (X.l0.length : Int)) :
  Calls Try.prog 65 #[.agg #[.slice A0 X.l0.length c0, .slice A1 X.l1.length c1, .slice A2 X.l2.length c2, .slice A3 X.l3.length c3, .slice A4 X.l4.length c4], .int .i64 u] w fun e w' => e = .returned (.string (rd_T53 X.l0 u).f0) ∧ Below w.heap.size w w' :=
 gap_textOf.calls A0 c0 X.l0 A1 c1 X.l1 A2 c2 X.l2 A3 c3 X.l3 A4 c4 X.l4 u _ w h.h0 h.g0 h.h1 h.g1 h.h2 h.g2 h.h3 h.g3 h.h4 h.g4 (by unfold gap_textOf.f; rw [if_pos h0, if_pos h1])
set_option maxHeartbeats 8000000 in
set_option maxRecDepth 100000 in
theorem print_good (X : Lx) (A0 A1 A2 A3 A4 Ar : Option Addr) (c0 c1 c2 c3 c4 cr : Nat) (A B : Option Addr) (c d : Nat) (ws fs : List Int) (w : World) (hin : LxIn X A0 A1 A2 A3 A4 Ar c0 c1 c2 c3 c4 cr w) (hw : Kd.C (Kd.int .i64) w A ws.length ws) (hf : Kd.C (Kd.int .i64) w B fs.length fs) (hwl : ws.length ≤ 1000000000)
  (hb : fitsV X.l0 X.l1 X.l2 X.l3 X.l4 X.r ws fs = 0) :
  Calls Try.prog 28 #[.agg #[.slice A0 X.l0.length c0, .slice A1 X.l1.length c1, .slice A2 X.l2.length c2, .slice A3 X.l3.length c3, .slice A4 X.l4.length c4], .slice Ar X.r.length cr, .agg #[.slice A ws.length c, .slice B fs.length d]] w fun e w' => e = .returned (.tuple #[.string (printT X ws fs), .int .i64 0]) ∧ Below w.heap.size w w' := by
 obtain ⟨hbz, hisf, hub⟩ := fitsV_zero hb
 obtain ⟨hw8, hpo, hpl, hpt, hfl⟩ := isF_parts hisf
 have HFL := Aside0.mk hfl
 obtain ⟨hck, hrk⟩ := bothV_zero hbz
 have oc := checkV_zero (X := X) hck
 have or := rowV_zero hrk
 have HOL := Aside0.mk (okL_of oc)
 have HOR := Aside0.mk or
 have HBZ := Aside0.mk hbz
 have HUB := Aside0.mk hub
 have HPO := Aside0.mk hpo
 have HI0 := Aside0.mk (FiI.start A B ws.length fs.length c d hin)
 have HIN := Aside0.mk hin
 have HW := Aside0.mk hw
 have HF := Aside0.mk hf
 have HWI := Aside0.mk (fun (j : Nat) (hj : j < ws.length) => show (0 ≤ rd ws (j : Int) ∧ rd ws (j : Int) < (X.l0.length : Int)) ∧ (rd_T53 X.l0 (rd ws (j : Int))).f0.size ≤ 8 from by
  have e : rd ws (j : Int) = ws[j] := by simp [rd, List.getD_eq_getElem?_getD, List.getElem?_eq_getElem hj]
  have h1 := hub ws[j] (List.getElem_mem hj)
  rw [e]
  refine ⟨h1, ?_⟩
  have h8 := ((okL_of oc).wd ws[j].toNat (by omega)).2.1
  rw [show ((ws[j].toNat : Nat) : Int) = ws[j] by omega] at h8
  exact h8)
 have hcl : (conT X ws).length ≤ 64 := by
  have h := conT_len X ws (fun q hq => (HWI.out q hq).2) ws.length (Nat.le_refl _)
  rw [List.take_length] at h
  omega
 obtain ⟨ps, hps⟩ : ∃ ps, ps = partsF X.r fs (wordsV X ws) := ⟨_, rfl⟩
 obtain ⟨HH, hHH⟩ : ∃ H, H = hidF X.r ps := ⟨_, rfl⟩
 rw [← hps] at hpl hpt
 have hHl : HH.length = (conT X ws).length := by rw [hHH, hidF_len _ _ hpl.symm, hpt]
 have HPS := Aside0.mk hps
 have HHE := Aside0.mk hHH
 have HHL := Aside0.mk hHl
 have HPL := Aside0.mk hpl
 have HCL := Aside0.mk hcl
 have HTT := Aside0.mk (show printT X ws fs = ⟨(printW X HH 0 0 ws).toArray⟩ by unfold printT hidV; rw [← hps, ← hHH])
 have HFZ := Aside0.mk hb
 clear hfl hb hbz hisf hub hpo hpl hpt hck hrk oc or hin hw hf hps hHH hHl hcl
 obtain ⟨n0, hn0⟩ : ∃ n, n = w.heap.size := ⟨_, rfl⟩
 have HN0 := Aside0.mk hn0
 go_enter Try.func28, Try.ntmps28
 go_upto_region 1 with fail
 refine wp_gen (fun wx => Aside0 (FiI X A0 A1 A2 A3 A4 Ar c0 c1 c2 c3 c4 cr A B ws.length fs.length c d n0 w wx)) ⟨by rw [hn0]; exact HI0.out⟩ ?_
 rw [← hn0]
 clear hn0 HI0
 rintro w1 HI
 obtain ⟨x0, x1, x2, x3, x4⟩ := HI.out.bx.cells
 have xl := blk_lt HI.out.bx
 have a0 := (blk_cell HI.out.fil 0).trans (show (#[Value.slice A ws.length c, Value.slice B fs.length d] : Array Value)[0]? = some _ from rfl)
 have a1 := (blk_cell HI.out.fil 1).trans (show (#[Value.slice A ws.length c, Value.slice B fs.length d] : Array Value)[1]? = some _ from rfl)
 have al := blk_lt HI.out.fil
 have HFC := Aside0.mk (fits_calls X A0 A1 A2 A3 A4 Ar c0 c1 c2 c3 c4 cr A B c d ws fs w1 HI.out.lx (Kd.C_below HW.out (HN0.out ▸ HI.out.below)) (Kd.C_below HF.out (HN0.out ▸ HI.out.below)) hwl HBZ.out)
 rw [HFZ.out] at HFC
 go_upto_region 5 with first | (go_at_call 15; refine HFC.out.mono ?_; rintro e w2 ⟨rfl, hb1⟩; have HI3 := Aside0.mk (HI.out.next hb1); clear hb1) | fail
 clear x0 x1 x2 x3 x4 xl a0 a1 al HFC HI w1
 obtain ⟨x0, x1, x2, x3, x4⟩ := HI3.out.bx.cells
 have xl := blk_lt HI3.out.bx
 have a0 := (blk_cell HI3.out.fil 0).trans (show (#[Value.slice A ws.length c, Value.slice B fs.length d] : Array Value)[0]? = some _ from rfl)
 have a1 := (blk_cell HI3.out.fil 1).trans (show (#[Value.slice A ws.length c, Value.slice B fs.length d] : Array Value)[1]? = some _ from rfl)
 have al := blk_lt HI3.out.fil
 have HCC := Aside0.mk (fun (W' : World) (hb : Below w2.heap.size w2 W') => show W'.cell? ⟨n0, 0, none⟩ = some (.slice A0 X.l0.length c0) ∧ W'.cell? ⟨n0, 1, none⟩ = some (.slice A1 X.l1.length c1) ∧ W'.cell? ⟨n0, 2, none⟩ = some (.slice A2 X.l2.length c2) ∧ W'.cell? ⟨n0, 3, none⟩ = some (.slice A3 X.l3.length c3) ∧ W'.cell? ⟨n0, 4, none⟩ = some (.slice A4 X.l4.length c4) ∧ W'.cell? ⟨n0 + 1, 0, none⟩ = some (.slice A ws.length c) ∧ W'.cell? ⟨n0 + 1, 1, none⟩ = some (.slice B fs.length d) from
  ⟨(hb.cell (p := ⟨n0, 0, none⟩) xl).trans x0, (hb.cell (p := ⟨n0, 1, none⟩) xl).trans x1, (hb.cell (p := ⟨n0, 2, none⟩) xl).trans x2, (hb.cell (p := ⟨n0, 3, none⟩) xl).trans x3, (hb.cell (p := ⟨n0, 4, none⟩) xl).trans x4, (hb.cell (p := ⟨n0 + 1, 0, none⟩) al).trans a0, (hb.cell (p := ⟨n0 + 1, 1, none⟩) al).trans a1⟩)
 have HSC := Aside0.mk (search_calls (w := w2.drew) (HI3.out.lx.below (Below.drew (Below.refl _ _))) HBZ.out)
 have HIS := Aside0.mk (fun (S : SV) (w4 : World) (hS : AW X S (X.r.map fun c => ofV c.f0) w4) (hb : Below w2.heap.size w2 w4) => show Calls Try.prog 60 #[.pointer (some ⟨S.b, 0, none⟩), .agg #[.slice A ws.length c, .slice B fs.length d]] w4 fun e w' => ∃ v, e = .returned v ∧ Kd.string.R 9 w' w4.heap.size (fun _ => True) v ps ∧ Below w4.heap.size w4 w' by
  rw [HPS.out]
  have hb4 : Below w.heap.size w w4 := HN0.out ▸ (HI3.out.next hb).below
  exact parts_calls X S _ w4 hS.sr ws fs A B c d (Kd.C_below HW.out hb4) (Kd.C_below HF.out hb4) hw8.2 (by have := HFL.out; have := HOR.out.n24; omega) (fun j hj => (HWI.out j hj).1) (fun j hj => (HWI.out j hj).2) (by have := HOR.out.n24; omega) HPO.out)
 go_region_held3 (fun w' => w'.cell? ⟨n0, 0, none⟩ = some (.slice A0 X.l0.length c0) ∧ w'.cell? ⟨n0, 1, none⟩ = some (.slice A1 X.l1.length c1) ∧ w'.cell? ⟨n0, 2, none⟩ = some (.slice A2 X.l2.length c2) ∧ w'.cell? ⟨n0, 3, none⟩ = some (.slice A3 X.l3.length c3) ∧ w'.cell? ⟨n0, 4, none⟩ = some (.slice A4 X.l4.length c4) ∧ w'.cell? ⟨n0 + 1, 0, none⟩ = some (.slice A ws.length c) ∧ w'.cell? ⟨n0 + 1, 1, none⟩ = some (.slice B fs.length d))
  (first | exact HCC.out _ HB5.out | exact HCC.out _ HB4.out | go_keep)
  (first
   | (go_at_call 50; refine HSC.out.mono ?_; rintro e w4 ⟨S, rfl, haw, hb4, -, -⟩; have HAW := Aside0.mk haw; have HB4 := Aside0.mk (show Below w2.heap.size w2 w4 from (Below.drew (Below.refl _ _)).trans hb4); clear haw hb4)
   | (go_at_call 60; refine (HIS.out _ _ HAW.out HB4.out).mono ?_; rintro e w5 ⟨v5, rfl, hv5, hb5⟩; obtain ⟨A5, c5, rfl, hl5, hr5⟩ := Kd.R_reads hv5; have HR5 := Aside0.mk hr5; have HB5 := Aside0.mk (show Below w2.heap.size w2 w5 from HB4.out.trans (hb5.mono HB4.out.size)); clear hb5 hv5 hl5 hr5))
 have HI5 := Aside0.mk (HI3.out.next HB5.out)
 have HPZ := Aside0.mk (fun (p : ByteArray) (hp : p ∈ ps) => show p.size ≤ 64 from by
  have h1 := HHL.out
  have h2 := HCL.out
  have h3 : (ps.flatMap fun p => p.data.toList).length = (conT X ws).length := by rw [← h1, HHE.out, hidF_len _ _ HPL.out.symm]
  have h4 := mem_flat_len hp
  omega)
 clear HCC HSC HIS HI3 HB4 HB5 HAW x0 x1 x2 x3 x4 xl a0 a1 al
 obtain ⟨nb, hnb⟩ : ∃ n, n = w5.heap.size := ⟨_, rfl⟩
 have HNB := Aside0.mk hnb
 have hps24 : ps.length ≤ 24 := by rw [HPL.out]; exact HOR.out.n24
 clear hnb
 go_wp2_with fail
 go_loopg [9, 10, 11, 32] ps.length (fun k s9 _ _ s32 wr => ∃ (j : Nat) (H : List Bool), j + k = ps.length ∧ s32 = .int .i64 (j : Int) ∧ Aside0 (H ++ hidF (X.r.drop j) (ps.drop j) = HH) ∧ Aside0 (Kd.bool.R 4 wr nb (fun _ => True) s9 H) ∧ Aside0 (Below nb w5 wr ∧ nb ≤ wr.heap.size))
 case atStart => exact ⟨0, [], by omega, rfl, ⟨by rw [HHE.out]; rfl⟩, ⟨Kd.R_nil _ _ _ _ _⟩, ⟨Below.refl _ _, by rw [HNB.out]; exact Nat.le_refl _⟩⟩
 case round =>
  obtain ⟨j, H, hj, rfl, HE, HR, HB⟩ := hrel
  have HJN := Aside0.mk hj
  clear hj
  have HB5 := Aside0.mk (show Below w5.heap.size w5 wr by rw [← HNB.out]; exact HB.out.1)
  by_cases hlt : j < ps.length
  ·have hjz : (j : Int) < (ps.length : Int) := by omega
   have hjd : decide (j < ps.length) = true := decide_eq_true hlt
   have HLT := Aside0.mk hlt
   obtain ⟨ap, rfl, y0⟩ := Kd.at_string (Kd.C_below HR5.out HB5.out) (j : Int) (by omega) hjz
   rw [Int.toNat_natCast] at y0
   have hpj : rdOf ByteArray.empty ps (j : Int) = ps[j] := by simp [rdOf, List.getD_eq_getElem?_getD, List.getElem?_eq_getElem hlt]
   rw [hpj] at y0
   obtain ⟨p, hp⟩ : ∃ p, p = ps[j] := ⟨_, rfl⟩
   have hpz := HPZ.out ps[j] (List.getElem_mem hlt)
   have hrl : j < X.r.length := by rw [← HPL.out]; exact hlt
   have hdr : hidF (X.r.drop j) (ps.drop j) = List.replicate p.size (hidB (rd_T49 X.r (j : Int))) ++ hidF (X.r.drop (j + 1)) (ps.drop (j + 1)) := by
    rw [rd49_drop hrl, List.drop_eq_getElem_cons hlt, ← hp]
    rfl
   rw [← hp] at y0 hpz
   obtain ⟨hv, hhv⟩ : ∃ b, b = hidB (rd_T49 X.r (j : Int)) := ⟨_, rfl⟩
   rw [← hhv] at hdr
   have HHV := Aside0.mk hhv
   have HE2 := Aside0.mk (show H ++ (List.replicate p.size hv ++ hidF (X.r.drop (j + 1)) (ps.drop (j + 1))) = HH by rw [← hdr]; exact HE.out)
   have yl := World.block_lt_of_cell? wr _ y0
   clear hpj hp hdr hhv hrl HE
   go_wp2_with fail
   go_loopg [9, 39] p.size (fun k s9 s39 wi => ∃ (i : Nat) (H2 : List Bool), i + k = p.size ∧ s39 = .int .i64 (i : Int) ∧ Aside0 (H2 ++ (List.replicate (p.size - i) hv ++ hidF (X.r.drop (j + 1)) (ps.drop (j + 1))) = HH) ∧ Aside0 (Kd.bool.R 4 wi nb (fun _ => True) s9 H2) ∧ Aside0 (Below nb w5 wi ∧ nb ≤ wi.heap.size))
   case atStart => exact ⟨0, H, by omega, rfl, HE2, HR, HB⟩
   case round =>
    clear HR HB HB5 HE2
    obtain ⟨i, H2, hi, rfl, HE2, HR, HB⟩ := hrel
    have HIN2 := Aside0.mk hi
    clear hi
    by_cases hil : i < p.size
    ·have hiz : (i : Int) < (p.size : Int) := by omega
     have hid : decide (i < p.size) = true := decide_eq_true hil
     have HIL := Aside0.mk hil
     have HB5 := Aside0.mk (show Below w5.heap.size w5 wr by rw [← HNB.out]; exact HB.out.1)
     have HWR := Aside0.mk (show Below w.heap.size w wr by rw [← HN0.out]; exact (HI5.out.next HB5.out).below)
     have hrl : j < X.r.length := by rw [← HPL.out]; exact HLT.out
     have hrz : (j : Int) < (X.r.length : Int) := by omega
     obtain ⟨ar, rfl, z0, z1, z2, z3⟩ := at_T49 (Kd.C_below HIN.out.hr HWR.out) (j : Int) (by omega) hrz
     simp only [Int.toNat_natCast] at z0 z1 z2 z3
     obtain ⟨ce, hce⟩ : ∃ ce, ce = rd_T49 X.r (j : Int) := ⟨_, rfl⟩
     rw [← hce] at z0 z1 z2 z3
     have hrd : decide (j < X.r.length) = true := decide_eq_true hrl
     have zl := World.block_lt_of_cell? wr _ z0
     have hH2 : H2.length ≤ 64 := by
      have h := HE2.out
      have h1 := HHL.out
      have h2 := HCL.out
      rw [← h, List.length_append] at h1
      omega
     have HH2 := Aside0.mk hH2
     have HST := Aside0.mk (show (H2 ++ [hv]) ++ (List.replicate (p.size - (i + 1)) hv ++ hidF (X.r.drop (j + 1)) (ps.drop (j + 1))) = HH by
      rw [← HE2.out, show p.size - i = p.size - (i + 1) + 1 by omega, List.replicate_succ, List.append_assoc]
      rfl)
     have HVE := Aside0.mk (show hv = (ce.f1 || !(decide (ce.f0.size = 1))) by rw [HHV.out, ← hce]; rfl)
     clear hce hH2 hil
     obtain ⟨gg, hgg⟩ : ∃ g, g = ce.f1 := ⟨_, rfl⟩
     rw [← hgg] at z1 HVE
     clear hgg
     obtain ⟨sz, hsz⟩ : ∃ n, n = ce.f0.size := ⟨_, rfl⟩
     obtain ⟨q1, hq1⟩ : ∃ b, b = decide (ce.f0.size = 1) := ⟨_, rfl⟩
     have hq2 : ((ce.f0.size : Int) != 1) = !q1 := by rw [hq1]; by_cases h : ce.f0.size = 1 <;> simp [h]; omega
     have hq3 : (ce.f0.size != 1) = !q1 := by rw [hq1]; by_cases h : ce.f0.size = 1 <;> simp [h]
     rw [← hq1] at HVE
     clear hsz hq1
     cases gg with
     | true =>
      obtain rfl : hv = true := HVE.out
      go_wp2_with first | (at_builtin; refine Kd.R_append Kd.bool (w0 := w5) nb rfl (.tmp 41) (.tmp 56) 24 4 (.bool false) 1 rfl Try.underlying24 infoB4 rfl (by decide) (by omega) u9 H2 true [.bool true] (fun _ => True) (fun _ => False) rfl rfl ?aP (fun _ hk => hk.elim) ?aF ?aO ?aB ?aS ?aL ?_; (case aP => exact rfl); (case aF => exact (fun _ _ => trivial)); (case aO => exact HR.out); (case aB => exact HB.out.1); (case aS => exact HB.out.2); (case aL => have := HH2.out; omega); intro v6 w6 ho hb hg hat; have HR6 := Aside0.mk ho; have HB6 := Aside0.mk (show Below nb w5 w6 ∧ nb ≤ w6.heap.size from ⟨hb, by have h1 := hg.size; have h2 := HB.out.2; omega⟩); clear ho hb hg hat) | fail
      go_roundg (gk - 1)
      case measure => have := HIN2.out; have := HIL.out; omega
      case rel => exact ⟨i + 1, H2 ++ [true], by have := HIN2.out; have := HIL.out; omega, by go_num, HST, HR6, HB6⟩
     | false =>
      cases q1 with
      | true =>
       obtain rfl : hv = false := HVE.out
       go_wp2_with first | (at_builtin; refine Kd.R_append Kd.bool (w0 := w5) nb rfl (.tmp 41) (.tmp 56) 24 4 (.bool false) 1 rfl Try.underlying24 infoB4 rfl (by decide) (by omega) u9 H2 false [.bool false] (fun _ => True) (fun _ => False) rfl rfl ?bP (fun _ hk => hk.elim) ?bF ?bO ?bB ?bS ?bL ?_; (case bP => exact rfl); (case bF => exact (fun _ _ => trivial)); (case bO => exact HR.out); (case bB => exact HB.out.1); (case bS => exact HB.out.2); (case bL => have := HH2.out; omega); intro v6 w6 ho hb hg hat; have HR6 := Aside0.mk ho; have HB6 := Aside0.mk (show Below nb w5 w6 ∧ nb ≤ w6.heap.size from ⟨hb, by have h1 := hg.size; have h2 := HB.out.2; omega⟩); clear ho hb hg hat) | fail
       go_roundg (gk - 1)
       case measure => have := HIN2.out; have := HIL.out; omega
       case rel => exact ⟨i + 1, H2 ++ [false], by have := HIN2.out; have := HIL.out; omega, by go_num, HST, HR6, HB6⟩
      | false =>
       obtain rfl : hv = true := HVE.out
       go_wp2_with first | (at_builtin; refine Kd.R_append Kd.bool (w0 := w5) nb rfl (.tmp 41) (.tmp 56) 24 4 (.bool false) 1 rfl Try.underlying24 infoB4 rfl (by decide) (by omega) u9 H2 true [.bool true] (fun _ => True) (fun _ => False) rfl rfl ?cP (fun _ hk => hk.elim) ?cF ?cO ?cB ?cS ?cL ?_; (case cP => exact rfl); (case cF => exact (fun _ _ => trivial)); (case cO => exact HR.out); (case cB => exact HB.out.1); (case cS => exact HB.out.2); (case cL => have := HH2.out; omega); intro v6 w6 ho hb hg hat; have HR6 := Aside0.mk ho; have HB6 := Aside0.mk (show Below nb w5 w6 ∧ nb ≤ w6.heap.size from ⟨hb, by have h1 := hg.size; have h2 := HB.out.2; omega⟩); clear ho hb hg hat) | fail
       go_roundg (gk - 1)
       case measure => have := HIN2.out; have := HIL.out; omega
       case rel => exact ⟨i + 1, H2 ++ [true], by have := HIN2.out; have := HIL.out; omega, by go_num, HST, HR6, HB6⟩
    ·have hiz : ¬ (i : Int) < (p.size : Int) := by omega
     have hid : decide (i < p.size) = false := decide_eq_false hil
     have HE3 := Aside0.mk (show H2 ++ hidF (X.r.drop (j + 1)) (ps.drop (j + 1)) = HH by
      have h := HE2.out
      rw [show p.size - i = 0 by omega] at h
      simpa using h)
     go_wp2_with fail
     go_roundg (ps.length - (j + 1))
     case measure => have := HJN.out; have := HLT.out; omega
     case rel => exact ⟨j + 1, H2, by have := HJN.out; have := HLT.out; omega, by go_num, HE3, HR, HB⟩
  ·have hjz : ¬ (j : Int) < (ps.length : Int) := by omega
   have hjd : decide (j < ps.length) = false := decide_eq_false hlt
   have hHE : H = HH := by
    have h := HE.out
    rw [List.drop_eq_nil_of_le (by rw [← HPL.out]; omega), List.drop_eq_nil_of_le (by omega)] at h
    simpa [hidF] using h
   subst hHE
   obtain ⟨A9, c9, rfl, hl9, hr9⟩ := Kd.R_reads HR.out
   have HR9 := Aside0.mk hr9
   have HI6 := Aside0.mk (HI5.out.next HB5.out)
   clear hl9 hr9 HR HE
   obtain ⟨n6, hn6⟩ : ∃ n, n = wr.heap.size := ⟨_, rfl⟩
   go_upto_region 14 with fail
   refine wp_gen (fun wx => Aside0 (BD n6 wr [] (4 * 0) wx)) ⟨⟨by rw [hn6]; exact builder_new wr, by rw [hn6]; exact (Below.refl _ _).alloc (Nat.le_refl _) _, by rw [hn6]; simp, Nat.le_refl _⟩⟩ ?_
   rw [← hn6]
   have HN6 := Aside0.mk hn6
   clear hn6
   obtain ⟨w6, hw6⟩ : ∃ W, W = wr := ⟨_, rfl⟩
   rw [← hw6] at HR9 HI6 HN6 ⊢
   clear hw6 HB HB5 wr
   rintro wx HD
   have HNI := Aside0.mk (show n0 + 2 ≤ n6 by rw [HN6.out]; exact HI6.out.size)
   have HFI := Aside0.mk (fun (W : World) (D : List UInt8) (n : Nat) (h : BD n6 w6 D n W) => show FiI X A0 A1 A2 A3 A4 Ar c0 c1 c2 c3 c4 cr A B ws.length fs.length c d n0 w W from HI6.out.next (HN6.out ▸ h.below))
   have HRW := Aside0.mk (fun (W : World) (D : List UInt8) (n : Nat) (h : BD n6 w6 D n W) => show Kd.C Kd.bool W A9 H.length H from Kd.C_below HR9.out (HN6.out ▸ h.below))
   have HBW6 := Aside0.mk (show Below n0 w w6 from HI6.out.below)
   clear HI6 HR9
   obtain ⟨TOT, hTOT⟩ : ∃ l, l = printW X H 0 0 ws := ⟨_, rfl⟩
   rw [← hTOT] at HTT
   have HTOT := Aside0.mk hTOT
   clear hTOT
   have a0 := (blk_cell (HFI.out _ _ _ HD.out).fil 0).trans (show (#[Value.slice A ws.length c, Value.slice B fs.length d] : Array Value)[0]? = some _ from rfl)
   have al := blk_lt (HFI.out _ _ _ HD.out).fil
   have hwsz : ws.length ≤ 8 := hw8.2
   go_wp2_with fail
   clear a0 al
   go_loopg [13, 14, 15, 16, 17, 18, 63] ws.length (fun k s13 _ _ _ _ _ s63 wr => ∃ (j q : Nat) (D : List UInt8), j + k = ws.length ∧ s63 = .int .i64 (j : Int) ∧ s13 = .int .i64 (q : Int) ∧ q ≤ 64 ∧ Aside0 (q = (conT X (ws.take j)).length) ∧ Aside0 (D ++ printW X H j q (ws.drop j) = TOT) ∧ Aside0 (BD n6 w6 D (4 * q) wr))
   case atStart => exact ⟨0, 0, [], by omega, rfl, rfl, by omega, ⟨rfl⟩, ⟨by rw [HTOT.out]; rfl⟩, HD⟩
   case round =>
    clear HD wx
    obtain ⟨j, q, D, hj, rfl, rfl, hq, HQ, HT, HD⟩ := hrel
    have HJN := Aside0.mk hj
    clear hj
    have HFW := Aside0.mk (HFI.out _ _ _ HD.out)
    by_cases hlt : j < ws.length
    ·have hjz : (j : Int) < (ws.length : Int) := by omega
     have hjd : decide (j < ws.length) = true := decide_eq_true hlt
     have HLT := Aside0.mk hlt
     obtain ⟨aw, rfl, y0⟩ := at_num (Kd.C_below HW.out (HN0.out ▸ HFW.out.below)) j hlt
     have yl := World.block_lt_of_cell? wr _ y0
     obtain ⟨⟨hu0, hu1⟩, hu8⟩ := HWI.out j hlt
     have hdw : printW X H j q (ws.drop j) = wordW H q (decide (0 < j)) (rd_T53 X.l0 (rd ws (j : Int))).f0.data.toList ++ printW X H (j + 1) (q + (rd_T53 X.l0 (rd ws (j : Int))).f0.size) (ws.drop (j + 1)) := by
      rw [List.drop_eq_getElem_cons hlt, show ws[j] = rd ws (j : Int) by simp [rd, List.getD_eq_getElem?_getD, List.getElem?_eq_getElem hlt]]
      rfl
     have hqn : q + (rd_T53 X.l0 (rd ws (j : Int))).f0.size ≤ (conT X ws).length ∧ q + (rd_T53 X.l0 (rd ws (j : Int))).f0.size = (conT X (ws.take (j + 1))).length := by
      have e := conT_succ X ws j hlt
      have e2 : (conT X (ws.take (j + 1))).length = q + (rd_T53 X.l0 (rd ws (j : Int))).f0.size := by rw [e, List.length_append, ← HQ.out, data_length]
      refine ⟨?_, e2.symm⟩
      rw [← e2]
      conv => rhs; rw [← List.take_append_drop (j + 1) ws]
      unfold conT
      rw [List.flatMap_append, List.length_append]
      exact Nat.le_add_right _ _
     obtain ⟨u, hu⟩ : ∃ u, u = rd ws (j : Int) := ⟨_, rfl⟩
     rw [← hu] at y0 hu0 hu1 hu8 hdw hqn
     obtain ⟨T, hTe⟩ : ∃ T, T = (rd_T53 X.l0 u).f0 := ⟨_, rfl⟩
     have HTX := Aside0.mk (fun {D : List UInt8} {n : Nat} (W : World) (h : BD n6 w6 D n W) => show Calls Try.prog 65 #[.agg #[.slice A0 X.l0.length c0, .slice A1 X.l1.length c1, .slice A2 X.l2.length c2, .slice A3 X.l3.length c3, .slice A4 X.l4.length c4], .int .i64 u] W fun e w' => e = .returned (.string T) ∧ Below W.heap.size W w' by
      rw [hTe]
      exact textOf_calls (HFI.out _ _ _ h).lx u hu0 hu1)
     rw [← hTe] at hu8 hdw hqn
     have HQN := Aside0.mk hqn
     have hT8 : T.size ≤ 8 := hu8
     have HT2 := Aside0.mk (show D ++ (wordW H q (decide (0 < j) && decide (0 = 0)) (T.data.toList.drop 0) ++ printW X H (j + 1) (q + T.size) (ws.drop (j + 1))) = TOT by
      rw [List.drop_zero, decide_eq_true (rfl : 0 = 0), Bool.and_true, ← hdw]
      exact HT.out)
     obtain ⟨x0, x1, x2, x3, x4⟩ := HFW.out.bx.cells
     have xl := blk_lt HFW.out.bx
     clear hqn hdw hu hTe hu8 hu0 hu1 HT
     go_upto_region 19 with first | (go_at_call 65; refine (HTX.out _ HD.out).mono ?_; rintro e w7 ⟨rfl, h7⟩; have HD := Aside0.mk (HD.out.next h7); clear h7) | fail
     clear x0 x1 x2 x3 x4 xl HFW y0 yl
     go_loopg [13, 16, 17, 18, 72] T.size (fun k s13 _ _ _ s72 wi => ∃ (i qq : Nat) (D : List UInt8), i + k = T.size ∧ s72 = .int .i64 (i : Int) ∧ s13 = .int .i64 (qq : Int) ∧ qq ≤ 64 ∧ Aside0 (qq = q + i) ∧ Aside0 (D ++ (wordW H qq (decide (0 < j) && decide (i = 0)) (T.data.toList.drop i) ++ printW X H (j + 1) (q + T.size) (ws.drop (j + 1))) = TOT) ∧ Aside0 (BD n6 w6 D (4 * qq) wi))
     case atStart => exact ⟨0, q, D, by omega, rfl, rfl, hq, ⟨rfl⟩, HT2, HD⟩
     case round =>
      clear HD HT2
      obtain ⟨i, qq, D, hi, rfl, rfl, hqq, HQQ, HT2, HD⟩ := hrel
      have HIK := Aside0.mk hi
      clear hi
      by_cases hil : i < T.size
      ·have hiz : (i : Int) < (T.size : Int) := by omega
       have hid : decide (i < T.size) = true := decide_eq_true hil
       have HIL := Aside0.mk hil
       have hqH : qq < H.length := by
        have h1 := HQQ.out
        have h2 := HQN.out.1
        have h3 := HHL.out
        omega
       have hqz : (qq : Int) < (H.length : Int) := by omega
       have hqHd : decide (qq < H.length) = true := decide_eq_true hqH
       obtain ⟨a9, rfl, y0⟩ := Kd.at_bool (HRW.out _ _ _ HD.out) (qq : Int) (by omega) hqz
       rw [Int.toNat_natCast] at y0
       have HQH := Aside0.mk (show qq + 1 ≤ 64 by
        have h2 := HCL.out
        have h3 := HHL.out
        omega)
       have hst : wordW H qq (decide (0 < j) && decide (i = 0)) (T.data.toList.drop i) = letW (befB H qq) (H.getD qq false) (decide (0 < j) && decide (i = 0)) T[i] ++ wordW H (qq + 1) (decide (0 < j) && decide (i + 1 = 0)) (T.data.toList.drop (i + 1)) := by
        rw [List.drop_eq_getElem_cons (show i < T.data.toList.length by rw [data_length]; exact hil), decide_eq_false (show ¬ i + 1 = 0 by omega), Bool.and_false]
        rfl
       obtain ⟨hc, hhc⟩ : ∃ b, b = H.getD qq false := ⟨_, rfl⟩
       have HHC := Aside0.mk (show rdOf false H (qq : Int) = hc by rw [hhc]; rfl)
       rw [HHC.out] at y0
       obtain ⟨bj, hbj⟩ : ∃ b, b = decide (0 < j) := ⟨_, rfl⟩
       have hbj2 : decide ((0 : Int) < (j : Int)) = bj := by rw [hbj]; by_cases h : 0 < j <;> simp [h]
       have hbj3 : decide (0 < j) = bj := hbj.symm
       obtain ⟨bi, hbi⟩ : ∃ b, b = decide (i = 0) := ⟨_, rfl⟩
       have hbi2 : ((i : Int) == 0) = bi := by rw [hbi]; by_cases h : i = 0 <;> simp [h]
       have hbi3 : (i == 0) = bi := by rw [hbi]; by_cases h : i = 0 <;> simp [h]
       rw [← hhc, ← hbj, ← hbi] at hst
       rw [← hbj, ← hbi] at HT2
       obtain ⟨bb, hbb⟩ : ∃ b, b = befB H qq := ⟨_, rfl⟩
       rw [← hbb] at hst
       have HT3 := Aside0.mk (show (D ++ letW bb hc (bj && bi) T[i]) ++ (wordW H (qq + 1) (decide (0 < j) && decide (i + 1 = 0)) (T.data.toList.drop (i + 1)) ++ printW X H (j + 1) (q + T.size) (ws.drop (j + 1))) = TOT by
        rw [← HT2.out, hst, ← hbj, List.append_assoc, List.append_assoc])
       have hil2 := hil
       clear hst hhc HT2
       obtain ⟨x0, x1, x2, x3, x4⟩ := (HFI.out _ _ _ HD.out).bx.cells
       have xl := blk_lt (HFI.out _ _ _ HD.out).bx
       have yl := World.block_lt_of_cell? wr _ y0
       have HRC := Aside0.mk (fun (W : World) (D : List UInt8) (n : Nat) (h : BD n6 w6 D n W) => show W.cell? (a9.add qq) = some (.bool hc) ∧ (a9.add qq).block < W.heap.size from by
        obtain ⟨a9', e9, y9⟩ := Kd.at_bool (HRW.out _ _ _ h) (qq : Int) (by omega) hqz
        injection e9 with e9
        subst e9
        rw [Int.toNat_natCast, HHC.out] at y9
        exact ⟨y9, World.block_lt_of_cell? W _ y9⟩)
       have hbef : (qq = 0 ∧ bb = false) ∨ (0 < qq ∧ wr.cell? (a9.add (qq - 1)) = some (.bool bb)) := by
        by_cases h0 : qq = 0
        ·exact .inl ⟨h0, by rw [hbb, h0]; rfl⟩
        ·right
         refine ⟨by omega, ?_⟩
         obtain ⟨a9', e9, y9⟩ := Kd.at_bool (HRW.out _ _ _ HD.out) ((qq : Int) - 1) (by omega) (by omega)
         injection e9 with e9
         subst e9
         rw [show ((qq : Int) - 1).toNat = qq - 1 by omega] at y9
         rw [y9, hbb]
         unfold befB
         rw [if_neg h0]
         unfold rdOf
         rw [show ((qq : Int) - 1).toNat = qq - 1 by omega]
       clear hbb
       have HJB := Aside0.mk hbj
       have HIB := Aside0.mk hbi
       clear hbj hbi
       rcases hbef with ⟨h0, rfl⟩ | ⟨h0, y9⟩
       ·have hgt : decide ((0 : Int) < (qq : Int)) = false := decide_eq_false (by omega)
        have hgt2 : decide (0 < qq) = false := decide_eq_false (by omega)
        have H0 := Aside0.mk h0
        clear h0
        go_upto_region 22 with fail
        cases hc <;> cases bj <;> cases bi
        all_goals
         go_wp2_with (first
          | (go_at_call 66; (with_reducible refine (put_calls 93 93 rfl HD.out (by omega)).mono ?_); rintro e w7 ⟨rfl, h7⟩; have HD := Aside0.mk h7; clear h7; obtain ⟨x0, x1, x2, x3, x4⟩ := (HFI.out _ _ _ HD.out).bx.cells; have xl := blk_lt (HFI.out _ _ _ HD.out).bx; obtain ⟨y0, yl⟩ := HRC.out _ _ _ HD.out)
          | (go_at_call 66; (with_reducible refine (put_calls 32 32 rfl HD.out (by omega)).mono ?_); rintro e w7 ⟨rfl, h7⟩; have HD := Aside0.mk h7; clear h7; obtain ⟨x0, x1, x2, x3, x4⟩ := (HFI.out _ _ _ HD.out).bx.cells; have xl := blk_lt (HFI.out _ _ _ HD.out).bx; obtain ⟨y0, yl⟩ := HRC.out _ _ _ HD.out)
          | (go_at_call 66; (with_reducible refine (put_calls 91 91 rfl HD.out (by omega)).mono ?_); rintro e w7 ⟨rfl, h7⟩; have HD := Aside0.mk h7; clear h7; obtain ⟨x0, x1, x2, x3, x4⟩ := (HFI.out _ _ _ HD.out).bx.cells; have xl := blk_lt (HFI.out _ _ _ HD.out).bx; obtain ⟨y0, yl⟩ := HRC.out _ _ _ HD.out)
          | (go_at_call 65; refine (HTX.out _ HD.out).mono ?_; rintro e w7 ⟨rfl, h7⟩; have HD := Aside0.mk (HD.out.next h7); clear h7)
          | (go_at_call 66; (with_reducible refine (put_calls T[i] (T[i].toNat : Int) rfl HD.out (by omega)).mono ?_); rintro e w7 ⟨rfl, h7⟩; have HD := Aside0.mk h7; clear h7)
          | fail)
         go_roundg (gk - 1)
         case measure => have := HIK.out; have := HIL.out; omega
         case rel => exact ⟨i + 1, qq + 1, _, by have := HIK.out; have := HIL.out; omega, by go_num, by go_num, HQH.out, ⟨by rw [HQQ.out]; omega⟩, ⟨by have h := HT3.out; simpa [letW] using h⟩, ⟨HD.out.up (by omega)⟩⟩
       ·have hgt : decide ((0 : Int) < (qq : Int)) = true := decide_eq_true (by omega)
        have hgt2 : decide (0 < qq) = true := decide_eq_true h0
        have hq1 : (0 : Int) ≤ (qq : Int) - 1 := by omega
        have hq2 : (qq : Int) - 1 < (H.length : Int) := by omega
        have hq3 : (1 : Int) ≤ (qq : Int) := by omega
        have y9l := World.block_lt_of_cell? wr _ y9
        go_upto_region 22 with fail
        cases bb <;> cases hc <;> cases bj <;> cases bi
        all_goals
         go_wp2_with (first
          | (go_at_call 66; (with_reducible refine (put_calls 93 93 rfl HD.out (by omega)).mono ?_); rintro e w7 ⟨rfl, h7⟩; have HD := Aside0.mk h7; clear h7; obtain ⟨x0, x1, x2, x3, x4⟩ := (HFI.out _ _ _ HD.out).bx.cells; have xl := blk_lt (HFI.out _ _ _ HD.out).bx; obtain ⟨y0, yl⟩ := HRC.out _ _ _ HD.out)
          | (go_at_call 66; (with_reducible refine (put_calls 32 32 rfl HD.out (by omega)).mono ?_); rintro e w7 ⟨rfl, h7⟩; have HD := Aside0.mk h7; clear h7; obtain ⟨x0, x1, x2, x3, x4⟩ := (HFI.out _ _ _ HD.out).bx.cells; have xl := blk_lt (HFI.out _ _ _ HD.out).bx; obtain ⟨y0, yl⟩ := HRC.out _ _ _ HD.out)
          | (go_at_call 66; (with_reducible refine (put_calls 91 91 rfl HD.out (by omega)).mono ?_); rintro e w7 ⟨rfl, h7⟩; have HD := Aside0.mk h7; clear h7; obtain ⟨x0, x1, x2, x3, x4⟩ := (HFI.out _ _ _ HD.out).bx.cells; have xl := blk_lt (HFI.out _ _ _ HD.out).bx; obtain ⟨y0, yl⟩ := HRC.out _ _ _ HD.out)
          | (go_at_call 65; refine (HTX.out _ HD.out).mono ?_; rintro e w7 ⟨rfl, h7⟩; have HD := Aside0.mk (HD.out.next h7); clear h7)
          | (go_at_call 66; (with_reducible refine (put_calls T[i] (T[i].toNat : Int) rfl HD.out (by omega)).mono ?_); rintro e w7 ⟨rfl, h7⟩; have HD := Aside0.mk h7; clear h7)
          | fail)
         go_roundg (gk - 1)
         case measure => have := HIK.out; have := HIL.out; omega
         case rel => exact ⟨i + 1, qq + 1, _, by have := HIK.out; have := HIL.out; omega, by go_num, by go_num, HQH.out, ⟨by rw [HQQ.out]; omega⟩, ⟨by have h := HT3.out; simpa [letW] using h⟩, ⟨HD.out.up (by omega)⟩⟩
      ·have hiz : ¬ (i : Int) < (T.size : Int) := by omega
       have hid : decide (i < T.size) = false := decide_eq_false hil
       have hie : i = T.size := by have := HIK.out; omega
       have HT3 := Aside0.mk (show D ++ printW X H (j + 1) (q + T.size) (ws.drop (j + 1)) = TOT by
        have h := HT2.out
        rw [List.drop_eq_nil_of_le (by rw [data_length]; omega)] at h
        simpa [wordW] using h)
       have HQ3 := Aside0.mk (show qq = q + T.size by rw [HQQ.out, hie])
       have HD3 := Aside0.mk (show BD n6 w6 D (4 * qq) wr from HD.out)
       clear HT2 hie
       go_wp2_with fail
       go_roundg (ws.length - (j + 1))
       case measure => have := HJN.out; have := HLT.out; omega
       case rel => exact ⟨j + 1, qq, D, by have := HJN.out; have := HLT.out; omega, by go_num, rfl, hqq, ⟨by rw [HQ3.out]; exact HQN.out.2⟩, ⟨by rw [HQ3.out]; exact HT3.out⟩, HD3⟩
    ·have hjz : ¬ (j : Int) < (ws.length : Int) := by omega
     have hjd : decide (j < ws.length) = false := decide_eq_false hlt
     have hqe : q = H.length := by
      rw [HQ.out, List.take_of_length_le (by omega), HHL.out]
     have hq1 : 1 ≤ q := by
      rw [hqe, HHL.out]
      have h0 := HWI.out 0 (by omega)
      rw [show ((0 : Nat) : Int) = 0 from rfl] at h0
      have h1 := ((HOL.out.wd (rd ws 0).toNat (by have := h0.1; omega)).1)
      have e := conT_succ X ws 0 (by omega)
      have e2 : (conT X (ws.take 1)).length ≤ (conT X ws).length := by
       conv => rhs; rw [← List.take_append_drop 1 ws]
       unfold conT
       rw [List.flatMap_append, List.length_append]
       exact Nat.le_add_right _ _
      rw [e, List.length_append, data_length] at e2
      have h2 : (((rd ws 0).toNat : Nat) : Int) = rd ws 0 := by have := h0.1; omega
      rw [h2] at h1
      rw [show ((0 : Nat) : Int) = 0 from rfl] at e2
      omega
     obtain ⟨bb, hbb⟩ : ∃ b, b = befB H q := ⟨_, rfl⟩
     have HT3 := Aside0.mk (show D ++ (if bb = true then [93] else []) = TOT by
      rw [hbb]
      have h := HT.out
      rw [List.drop_eq_nil_of_le (by omega)] at h
      exact h)
     obtain ⟨a9, rfl, y9⟩ := Kd.at_bool (HRW.out _ _ _ HD.out) ((q : Int) - 1) (by omega) (by omega)
     rw [show ((q : Int) - 1).toNat = q - 1 by omega, show rdOf false H ((q : Int) - 1) = bb by
      rw [hbb]
      unfold befB rdOf
      rw [if_neg (by omega), show ((q : Int) - 1).toNat = q - 1 by omega]] at y9
     have hz1 : (1 : Int) ≤ (q : Int) := by omega
     have hz2 : (q : Int) - 1 < (H.length : Int) := by omega
     have hz3 : (0 : Int) ≤ (q : Int) - 1 := by omega
     have yl := World.block_lt_of_cell? wr _ y9
     clear hqe hbb HT
     cases bb
     all_goals
      go_wp2_with (first
       | (go_at_call 66; (with_reducible refine (put_calls 93 93 rfl HD.out (by omega)).mono ?_); rintro e w7 ⟨rfl, h7⟩; have HD := Aside0.mk h7; clear h7)
       | (go_at_call 67; refine (Builder_String_any n6 n6 _ _ HD.out.is (by have := HD.out.size; omega)).mono ?_; rintro e w8 ⟨rfl, h8⟩; have HB8 := Aside0.mk (HD.out.below.trans h8); clear h8)
       | fail)
      go_ret2
      refine ⟨?_, ?_⟩
      ·rw [HTT.out, ← HT3.out]
       simp
      ·rw [← HN0.out]
       exact HBW6.out.trans (HB8.out.mono (by have := HNI.out; omega))
end Go.Proofs.Ytkfebceainedfaa.P.OwnGap
namespace Go.Proofs.Ytkfebceainedfaa.P.OwnGap
open Go.RowKit Go.Shelf Go.Proofs.YtkfebceainedfaaW.PrintWords Go.Proofs.YtkfebceainedfaaW.PrintLast Go.Proofs.YtkfebceainedfaaW.PrintMore
open Go.Proofs.Ytkfebceainedfaa.OwnGap
set_option linter.unusedVariables false
set_option linter.unusedSimpArgs false
attribute [local go_sem] Oper.semAt_some
theorem R_form {α : Type} {d : Kd α} {e : Nat} {w : World} {base : Nat} {ok : Nat → Prop} {v : Value} {xs : List α} (h : d.R e w base ok v xs) (hn : 0 < xs.length) : ∃ g c cur, v = .slice (some ⟨g, 0, none⟩) xs.length c ∧ w.heap[g]? = some (.cells cur e (0, 0)) ∧ base ≤ g := by
 obtain ⟨_, inner, hown, hr⟩ := h
 rcases hown.2 with ⟨hv, h0⟩ | ⟨g, cap, cur, hv, hb, hh, hnc, hcm, hcs, _⟩
 ·omega
 ·exact ⟨g, cap, cur, hv, hh, hb⟩
theorem cell_far {W : World} {g o gm k : Nat} (h : gm ≠ g) (v : Value) : (W.setCell ⟨g, o, none⟩ v).cell? ⟨gm, k, none⟩ = W.cell? ⟨gm, k, none⟩ := World.cell?_of_block (Below.heap_setCell W _ v gm h)
theorem add0 (g k : Nat) : (⟨g, 0, none⟩ : Addr).add k = ⟨g, k, none⟩ := by cases k <;> simp [Addr.add]
theorem R60_put {W : World} {base g n c i : Nat} {xs : List S60} (h : k60.R 60 W base (fun _ => True) (.slice (some ⟨g, 0, none⟩) n c) xs) (hi : i < n) (x : S60) :
  k60.R 60 (((((W.setCell ⟨g, i * 5, none⟩ (.string x.f0)).setCell ⟨g, i * 5 + 1, none⟩ (.string x.f1)).setCell ⟨g, i * 5 + 2, none⟩ (.string x.f2)).setCell ⟨g, i * 5 + 3, none⟩ (.int .i64 x.f3.f0)).setCell ⟨g, i * 5 + 4, none⟩ (.int .i64 x.f3.f1)) base (fun _ => True) (.slice (some ⟨g, 0, none⟩) n c) (xs.set i x) := by
 have hR := Kd.R_reads' h
 obtain ⟨ad, cs, e, hcl, hK, hc⟩ := Kd.C_get hR.2.2 z60 (i : Int) (by omega) (by rw [← hR.1]; omega)
 injection e with e
 subst e
 have hs := Kd.R_seg (okp := fun k => False) h (i : Int) (by omega) (by omega) (c := cs) (seg := [.string x.f0, .string x.f1, .string x.f2, .int .i64 x.f3.f0, .int .i64 x.f3.f1]) (j := 0) hcl (fun j u hu => by
  have := hc j u hu
  rwa [add0] at this) (by show 0 + 5 ≤ 5; omega) (x' := x) (by
   rw [List.take_zero, List.nil_append, List.drop_of_length_le (by rw [hcl]; show 5 ≤ 0 + 5; omega), List.append_nil]
   exact k60_mkM _ _ _ x) (fun k hk => hk.elim)
 rw [Int.toNat_natCast] at hs
 exact hs.1
theorem R60_put0 {W : World} {base g n c i : Nat} {xs : List S60} (h : k60.R 60 W base (fun _ => True) (.slice (some ⟨g, 0, none⟩) n c) xs) (hi : i < n) (s : ByteArray) :
  k60.R 60 (W.setCell ⟨g, i * 5, none⟩ (.string s)) base (fun _ => True) (.slice (some ⟨g, 0, none⟩) n c) (xs.set i ⟨s, (xs.getD i z60).f1, (xs.getD i z60).f2, (xs.getD i z60).f3⟩) := by
 have hR := Kd.R_reads' h
 obtain ⟨ad, cs, e, hcl, hK, hc⟩ := Kd.C_get hR.2.2 z60 (i : Int) (by omega) (by rw [← hR.1]; omega)
 injection e with e
 subst e
 obtain rfl := k60_open hK
 rw [Int.toNat_natCast] at hcl hc
 have hs := Kd.R_seg (okp := fun k => False) h (i : Int) (by omega) (by omega) (c := _) (seg := [.string s]) (j := 0) hcl (fun j u hu => by
  have := hc j u hu
  rwa [add0] at this) (by show 0 + 1 ≤ 5; omega) (x' := ⟨s, (xs.getD i z60).f1, (xs.getD i z60).f2, (xs.getD i z60).f3⟩) (k60_mkM _ _ _ _) (fun k hk => hk.elim)
 rw [Int.toNat_natCast] at hs
 exact hs.1
theorem R60_cells {W : World} {base g n c i : Nat} {xs : List S60} (h : k60.R 60 W base (fun _ => True) (.slice (some ⟨g, 0, none⟩) n c) xs) (hi : i < n) :
  (W.cell? ⟨g, i * 5, none⟩ = some (.string (xs.getD i z60).f0) ∧ W.cell? ⟨g, i * 5 + 1, none⟩ = some (.string (xs.getD i z60).f1) ∧ W.cell? ⟨g, i * 5 + 2, none⟩ = some (.string (xs.getD i z60).f2) ∧ W.cell? ⟨g, i * 5 + 3, none⟩ = some (.int .i64 (xs.getD i z60).f3.f0) ∧ W.cell? ⟨g, i * 5 + 4, none⟩ = some (.int .i64 (xs.getD i z60).f3.f1)) ∧ (∀ o, W.frozen? ⟨g, o, none⟩ = false) ∧ g < W.heap.size := by
 have hR := Kd.R_reads' h
 obtain ⟨ad, cs, e, hcl, hK, hc⟩ := Kd.C_get hR.2.2 z60 (i : Int) (by omega) (by rw [← hR.1]; omega)
 injection e with e
 subst e
 obtain rfl := k60_open hK
 rw [Int.toNat_natCast] at hc
 obtain ⟨g', c', cur, hv, hh, -⟩ := R_form h (by rw [← hR.1]; omega)
 injection hv with hv
 injection hv with hv
 injection hv with hv
 subst hv
 have hc2 : ∀ j u, (([.string (xs.getD i z60).f0, .string (xs.getD i z60).f1, .string (xs.getD i z60).f2, .int .i64 (xs.getD i z60).f3.f0, .int .i64 (xs.getD i z60).f3.f1] : List Value)[j]? = some u) → W.cell? ⟨g, i * 5 + j, none⟩ = some u := fun j u hu => by
  have := hc j u hu
  rwa [add0] at this
 exact ⟨⟨hc2 0 _ rfl, hc2 1 _ rfl, hc2 2 _ rfl, hc2 3 _ rfl, hc2 4 _ rfl⟩, fun o => blk_frozen hh o, blk_lt hh⟩
theorem firstL_ok {X : Lx} (hb : bothV X.l0 X.l1 X.l2 X.l3 X.l4 X.r = 0) (most : Nat) : ∀ f ∈ firstL X most, isF X f.f0 f.f1 = true ∧ ∀ u ∈ f.f0, 0 ≤ u ∧ u < (X.l0.length : Int) := by
 intro f hf
 obtain ⟨hc, hr⟩ := bothV_zero hb
 have oc := checkV_zero (X := X) hc
 have or := rowV_zero hr
 unfold firstL at hf
 obtain ⟨⟨vs, fs⟩, hx, rfl⟩ := List.mem_map.1 hf
 exact (mem_fillF (okX_of oc or) (okL_of oc).lt vs fs).1 (List.mem_of_mem_take hx)
theorem parts_one : ∀ (r : List S49) (fs : List Int) (T : ByteArray), PartsOk r fs T → ∀ i : Nat, i < r.length → (rd_T49 r (i : Int)).f1 = false → (rdOf ByteArray.empty (partsF r fs T) (i : Int)).size = 1
 | [], fs, T, _, i, hi, _ => absurd hi (Nat.not_lt_zero _)
 | c :: r, fs, T, h, i, hi, hg => by
  unfold PartsOk at h
  unfold partsF
  cases i with
  | zero =>
   have hg2 : c.f1 = false := hg
   rw [if_neg (by rw [hg2]; decide)]
   have h1 := (h.2 hg2).1
   show (T.extract 0 1).size = 1
   rw [ByteArray.size_extract]
   omega
  | succ i =>
   have hr : rd_T49 (c :: r) ((i + 1 : Nat) : Int) = rd_T49 r (i : Int) := by simp [rd_T49]
   rw [hr] at hg
   by_cases hc : c.f1 = true
   ·rw [if_pos hc]
    have e : ∀ (a : ByteArray) (l : List ByteArray), rdOf ByteArray.empty (a :: l) ((i + 1 : Nat) : Int) = rdOf ByteArray.empty l (i : Int) := fun a l => by simp [rdOf]
    rw [e]
    exact parts_one r _ _ (h.1 hc).2.2.2 i (by simpa using hi) hg
   ·have hc2 : c.f1 = false := by simpa using hc
    rw [if_neg hc]
    have e : ∀ (a : ByteArray) (l : List ByteArray), rdOf ByteArray.empty (a :: l) ((i + 1 : Nat) : Int) = rdOf ByteArray.empty l (i : Int) := fun a l => by simp [rdOf]
    rw [e]
    exact parts_one r _ _ (h.2 hc2).2 i (by simpa using hi) hg
structure PcOk (g : Bool) (p : ByteArray) : Prop where
 z : p.size ≤ 64
 l : LetS p
 one : g = false → p.size = 1
theorem pc_ok {X : Lx} (hL : OkL X) {f : S31} (hf : isF X f.f0 f.f1 = true) (hu : ∀ u ∈ f.f0, 0 ≤ u ∧ u < (X.l0.length : Int)) (i : Nat) (hi : i < X.r.length) : PcOk (rd_T49 X.r (i : Int)).f1 (rdOf ByteArray.empty (partsF X.r f.f1 (wordsV X f.f0)) (i : Int)) := by
 obtain ⟨hw8, hpo, hpl, hpt, hfl⟩ := isF_parts hf
 have hrd : ∀ j : Nat, j < f.f0.length → 0 ≤ rd f.f0 (j : Int) ∧ rd f.f0 (j : Int) < (X.l0.length : Int) := fun j hj => by
  rw [show rd f.f0 (j : Int) = f.f0[j] by simp [rd, List.getD_eq_getElem?_getD, List.getElem?_eq_getElem hj]]
  exact hu _ (List.getElem_mem hj)
 have hwd : ∀ j : Nat, j < f.f0.length → (rd_T53 X.l0 (rd f.f0 (j : Int))).f0.size ≤ 8 := fun j hj => by
  obtain ⟨h0, h1⟩ := hrd j hj
  have h8 := (hL.wd (rd f.f0 (j : Int)).toNat (by omega)).2.1
  rwa [show (((rd f.f0 (j : Int)).toNat : Nat) : Int) = rd f.f0 (j : Int) by omega] at h8
 have hlt : LetS (wordsV X f.f0) := lets_words X f.f0 (fun j hj => by
  obtain ⟨h0, h1⟩ := hrd j hj
  have h8 := hL.lt (rd f.f0 (j : Int)).toNat (by omega)
  rwa [show (((rd f.f0 (j : Int)).toNat : Nat) : Int) = rd f.f0 (j : Int) by omega] at h8)
 have hcl : (conT X f.f0).length ≤ 64 := by
  have h := conT_len X f.f0 hwd f.f0.length (Nat.le_refl _)
  rw [List.take_length] at h
  omega
 have hip : i < (partsF X.r f.f1 (wordsV X f.f0)).length := by rw [hpl]; exact hi
 have hpe : rdOf ByteArray.empty (partsF X.r f.f1 (wordsV X f.f0)) (i : Int) = (partsF X.r f.f1 (wordsV X f.f0))[i] := by simp [rdOf, List.getD_eq_getElem?_getD, List.getElem?_eq_getElem hip]
 have hpm : (partsF X.r f.f1 (wordsV X f.f0))[i] ∈ partsF X.r f.f1 (wordsV X f.f0) := List.getElem_mem hip
 refine ⟨?_, ?_, fun hg => parts_one X.r _ _ hpo i hi hg⟩
 ·rw [hpe]
  have := mem_flat_len hpm
  rw [hpt] at this
  omega
 ·rw [hpe]
  intro k hk
  have hb : (partsF X.r f.f1 (wordsV X f.f0))[i][k] ∈ conT X f.f0 := by
   rw [← hpt]
   refine List.mem_flatMap.2 ⟨_, hpm, ?_⟩
   exact List.mem_of_getElem? (i := k) (by rw [List.getElem?_eq_getElem (by rw [data_length]; exact hk)]; rfl)
  have ha := hlt.all (((partsF X.r f.f1 (wordsV X f.f0))[i][k]).toNat : Int) (List.mem_map.2 ⟨_, hb, rfl⟩)
  unfold bt
  rw [dif_pos (by simpa using hk)]
  simpa using ha
theorem info60 : (Try.prog.info? 60).map (fun i => (i.zero, i.size, i.bytes)) = some (some (.agg #[(.string ⟨#[]⟩), (.string ⟨#[]⟩), (.string ⟨#[]⟩), (.int .i64 0), (.int .i64 0)]), 5, 64) := by kernel_rfl
def outL (X : Lx) (all : List S31) (i : Nat) : List S60 := (List.range X.r.length).map fun j => if j < i then comF X all j else z60
theorem outL_zero (X : Lx) (all : List S31) : outL X all 0 = List.replicate X.r.length z60 := by
 unfold outL
 apply List.ext_getElem
 ·simp
 ·intro n h1 h2
  simp
theorem outL_set (X : Lx) (all : List S31) (i : Nat) (hi : i < X.r.length) : (outL X all i).set i (comF X all i) = outL X all (i + 1) := by
 unfold outL
 apply List.ext_getElem
 ·simp
 ·intro n h1 h2
  rw [List.getElem_set]
  simp only [List.getElem_map, List.getElem_range]
  by_cases h : i = n
  ·subst h
   rw [if_pos rfl, if_pos (by omega)]
  ·rw [if_neg h]
   by_cases h3 : n < i
   ·rw [if_pos h3, if_pos (by omega)]
   ·rw [if_neg h3, if_neg (by omega)]
theorem outL_get (X : Lx) (all : List S31) (i : Nat) (hi : i < X.r.length) : (outL X all i).getD i z60 = z60 := by
 unfold outL
 rw [List.getD_eq_getElem?_getD, List.getElem?_map, List.getElem?_range hi]
 simp
theorem outL_all (X : Lx) (all : List S31) : outL X all X.r.length = (List.range X.r.length).map (comF X all) := by
 unfold outL
 refine List.map_congr_left fun j hj => ?_
 rw [if_pos (List.mem_range.1 hj)]
theorem metV_lt (ps : List ByteArray) (h : ∀ p ∈ ps, 0 < p.size ∧ LetS p) : metV ps < 2 ^ 26 := by
 have go : ∀ (l : List ByteArray) (n : Nat), (∀ p ∈ l, 0 < p.size ∧ LetS p) → n < 2 ^ 26 → l.foldl (fun n p => n ||| 2 ^ (bt p 0 - 65).toNat) n < 2 ^ 26 := by
  intro l
  induction l with
  | nil => intro n _ hn; exact hn
  | cons p l ih =>
   intro n hl hn
   obtain ⟨h0, h1⟩ := hl p (by simp)
   obtain ⟨l0, l1⟩ := h1 0 h0
   exact ih _ (fun q hq => hl q (by simp [hq])) (Nat.or_lt_two_pow hn (Nat.pow_lt_pow_right (by decide) (by
    have : ((0 : Nat) : Int) = 0 := rfl
    rw [this] at l0 l1
    omega)))
 exact go ps 0 h (by decide)
set_option maxHeartbeats 16000000 in
set_option maxRecDepth 100000 in
theorem shared_good (X : Lx) (A0 A1 A2 A3 A4 Ar : Option Addr) (c0 c1 c2 c3 c4 cr : Nat) (w : World) (hin : LxIn X A0 A1 A2 A3 A4 Ar c0 c1 c2 c3 c4 cr w) (hb : bothV X.l0 X.l1 X.l2 X.l3 X.l4 X.r = 0) (hn0 : 0 < (firstL X 501).length) (hn : (firstL X 501).length ≤ 500) :
  Calls Try.prog 22 #[.agg #[.slice A0 X.l0.length c0, .slice A1 X.l1.length c1, .slice A2 X.l2.length c2, .slice A3 X.l3.length c3, .slice A4 X.l4.length c4], .slice Ar X.r.length cr] w fun e w' => ∃ v, e = .returned (.tuple #[v, .int .i64 0]) ∧ Kd.R k60 60 w' w.heap.size (fun _ => True) v ((List.range X.r.length).map (comF X (firstL X 501))) ∧ Below w.heap.size w w' := by
 have HIN := Aside0.mk hin
 clear hin
 have HX := Aside0.mk (bxAt_new (X := X) A0 A1 A2 A3 A4 c0 c1 c2 c3 c4 w)
 have HI0 := Aside0.mk (HIN.out.below ((Below.refl _ _).alloc (Nat.le_refl _) _ : Below w.heap.size w (w.alloc (.cells #[.slice A0 X.l0.length c0, .slice A1 X.l1.length c1, .slice A2 X.l2.length c2, .slice A3 X.l3.length c3, .slice A4 X.l4.length c4] 28))))
 have HZ := Aside0.mk (show (w.alloc (.cells #[.slice A0 X.l0.length c0, .slice A1 X.l1.length c1, .slice A2 X.l2.length c2, .slice A3 X.l3.length c3, .slice A4 X.l4.length c4] 28)).heap.size = w.heap.size + 1 by simp)
 have HB0 := Aside0.mk ((Below.refl _ _).alloc (Nat.le_refl _) _ : Below w.heap.size w (w.alloc (.cells #[.slice A0 X.l0.length c0, .slice A1 X.l1.length c1, .slice A2 X.l2.length c2, .slice A3 X.l3.length c3, .slice A4 X.l4.length c4] 28)))
 obtain ⟨all, hal⟩ : ∃ l, l = firstL X 501 := ⟨_, rfl⟩
 have HAL := Aside0.mk hal
 have HBV := Aside0.mk hb
 have HOK := Aside0.mk (firstL_ok hb 501)
 rw [← hal] at HOK hn hn0 ⊢
 obtain ⟨hck, hrk⟩ := bothV_zero hb
 have oc := checkV_zero (X := X) hck
 have or := rowV_zero hrk
 have HOL := Aside0.mk (okL_of oc)
 have hr24 : X.r.length ≤ 24 := or.n24
 have hr1 : 1 ≤ X.r.length := or.n1
 have hz : ((all.length : Int) == 0) = false := beq_eq_false_iff_ne.2 (by omega)
 have hz2 : (all.length == 0) = false := beq_eq_false_iff_ne.2 (by omega)
 have hz3 : decide ((500 : Int) < (all.length : Int)) = false := decide_eq_false (by omega)
 have hz4 : decide (500 < all.length) = false := decide_eq_false (by omega)
 have hz5 : ¬ (500 : Int) < (all.length : Int) := by omega
 have HPC := Aside0.mk (fun (k : Nat) (hk : k < all.length) (i : Nat) (hi : i < X.r.length) => pc_ok (okL_of oc) (HOK.out all[k] (List.getElem_mem hk)).1 (HOK.out all[k] (List.getElem_mem hk)).2 i hi)
 clear hb hal hck hrk oc or
 go_enter Try.func22, Try.ntmps22
 go_upto_region 11 with first | (go_at_call 48; refine (both_calls HI0.out HBV.out).mono ?_; rintro e w1 ⟨rfl, hb1⟩; rw [HBV.out]; have HB1 := Aside0.mk (HB0.out.trans (hb1.mono (by rw [HZ.out]; omega))); have HX1 := HX.out.below hb1; obtain ⟨x0, x1, x2, x3, x4⟩ := HX1.cells; have xl := blk_lt HX1; clear hb1) | (go_at_call 50; refine (search_calls (HIN.out.below HB1.out) HBV.out).mono ?_; rintro e w2 ⟨S, rfl, haw, hb2, hmb, hsb⟩; have HAW := Aside0.mk haw; have HB2 := Aside0.mk (HB1.out.trans (hb2.mono HB1.out.size)); have HMB := Aside0.mk (Nat.le_trans HB1.out.size hmb); clear haw hb2 hmb hsb) | (go_at_call 51; refine (first_sr HBV.out 501 (by decide) w2 HAW.out w.heap.size HB2.out.size HMB.out).mono ?_; rintro e w3 ⟨A5, c5, rfl, hc5, hr5, hs5, hb3⟩; rw [← HAL.out] at hc5 hr5 ⊢; have HR5 := Aside0.mk (Kd.R_reads' hr5).2.2; have HS5 := Aside0.mk hs5; have HB3 := Aside0.mk (HB2.out.trans hb3); clear hc5 hr5 hs5 hb3) | fail
 have HLI := Aside0.mk (HIN.out.below HB3.out)
 obtain ⟨n0, hn0'⟩ : ∃ n, n = w.heap.size := ⟨_, rfl⟩
 rw [← hn0'] at HB3 ⊢
 have HN00 := Aside0.mk hn0'
 clear hn0' x0 x1 x2 x3 x4 xl HX1 HB1 HB2 HMB HAW w1 w2 HX HI0 HZ HB0
 go_upto_region 12 with first
  | (refine Kd.R_make k60 (w0 := w3) w3.heap.size 60 rfl rfl 56 (.tmp 42) (.tmp 42) rfl (X.r.length : Int) rfl rfl Try.underlying56 (.agg #[(.string ⟨#[]⟩), (.string ⟨#[]⟩), (.string ⟨#[]⟩), (.int .i64 0), (.int .i64 0)]) 64 info60 rfl (by decide) (by decide) z60 (ok := fun _ => True) (okp := fun _ => False) ?mz (fun _ _ => trivial) trivial (by omega) ?ml (Below.refl _ _) (Nat.le_refl _) ?_; (case mz => exact k60_mkM _ _ _ z60); (case ml => rw [Int.toNat_natCast]; omega); rw [Int.toNat_natCast]; intro v10 w4 hr10 hb10 hg10 hat10; have HR10 := Aside0.mk hr10; have HB10 := Aside0.mk hb10; clear hr10 hb10 hg10 hat10)
  | fail
 obtain ⟨g, c10, cur, hv10, -, hg0⟩ := R_form HR10.out (by rw [List.length_replicate]; omega)
 rw [List.length_replicate] at hv10
 subst hv10
 have HG0 := Aside0.mk hg0
 have HR10 := Aside0.mk (show k60.R 60 w4 w3.heap.size (fun _ => True) (.slice (some ⟨g, 0, none⟩) X.r.length c10) (outL X all 0) by rw [outL_zero]; exact HR10.out)
 obtain ⟨m1, hm1⟩ : ∃ m, m = w3.heap.size := ⟨_, rfl⟩
 rw [← hm1] at HR10 HB10 HG0
 have HM1 := Aside0.mk hm1
 clear hg0 hm1
 go_wp2_with fail
 go_loopg [13, 14, 15, 16, 17, 18, 19, 20, 21, 46] X.r.length (fun gh _ _ _ _ _ _ _ _ _ s46 wr => ∃ i : Nat, i + gh = X.r.length ∧ s46 = .int .i64 (i : Int) ∧ Aside0 (k60.R 60 wr m1 (fun _ => True) (.slice (some ⟨g, 0, none⟩) X.r.length c10) (outL X all i)) ∧ Aside0 (Below m1 w3 wr ∧ m1 ≤ wr.heap.size))
 case atStart => exact ⟨0, by omega, rfl, HR10, ⟨HB10.out, by have := HB10.out.size; rw [HM1.out]; exact this⟩⟩
 case round =>
  clear HR10 HB10
  obtain ⟨i, hi, rfl, HR, HB⟩ := hrel
  have HIN1 := Aside0.mk hi
  clear hi
  by_cases hlt : i < X.r.length
  ·have hiz : (i : Int) < (X.r.length : Int) := by omega
   have hid : decide (i < X.r.length) = true := decide_eq_true hlt
   have HLT := Aside0.mk hlt
   have HLW := Aside0.mk (HLI.out.below (HM1.out ▸ HB.out.1))
   obtain ⟨ar, rfl, z0, z1, z2, z3⟩ := at_T49 HLW.out.hr (i : Int) (by omega) hiz
   simp only [Int.toNat_natCast] at z0 z1 z2 z3
   obtain ⟨ce, hce⟩ : ∃ ce, ce = rd_T49 X.r (i : Int) := ⟨_, rfl⟩
   rw [← hce] at z0 z1 z2 z3
   have zl := World.block_lt_of_cell? wr _ z0
   have HPI := Aside0.mk (fun (k : Nat) (hk : k < all.length) => HPC.out k hk i hlt)
   have HCF := Aside0.mk (show comF X all i = comC ce.f1 (pcsV X i all) by rw [hce]; rfl)
   rw [← hce] at HPI
   obtain ⟨b14, hb14⟩ : ∃ b, b = wr.heap.size := ⟨_, rfl⟩
   have HB14 := Aside0.mk hb14
   clear hce
   go_upto_region 20 with fail
   refine wp_gen (fun wx => Aside0 (k60.R 60 wx m1 (fun _ => True) (.slice (some ⟨g, 0, none⟩) X.r.length c10) (outL X all i)) ∧ Aside0 (Below m1 w3 wx ∧ m1 ≤ wx.heap.size) ∧ Aside0 (wx.heap[b14]? = some (.cells #[.string ce.f0, .bool ce.f1, .int .i64 ce.f2.f0, .int .i64 ce.f2.f1] 49 (0, 0)))) ⟨⟨Kd.R_alloc HR.out _⟩, ⟨HB.out.1.alloc HB.out.2 _, by have := HB.out.2; simp; omega⟩, ⟨by rw [hb14]; exact blk_new wr _⟩⟩ ?_
   rw [← hb14]
   clear hb14 z0 z1 z2 z3 zl HR HB HLW HB14 wr
   rintro wo ⟨HR, HB, H14⟩
   obtain ⟨nb, hnb⟩ : ∃ n, n = wo.heap.size := ⟨_, rfl⟩
   have HNB := Aside0.mk hnb
   clear hnb
   obtain ⟨ps, hps⟩ : ∃ ps, ps = pcsV X i all := ⟨_, rfl⟩
   rw [← hps] at HCF
   have HPL := Aside0.mk (show ps.length = all.length by rw [hps]; simp [pcsV])
   have HPE := Aside0.mk (fun (k : Nat) (hk : k < all.length) (hk2 : k < ps.length) => show ps[k] = rdOf ByteArray.empty (partsF X.r all[k].f1 (wordsV X all[k].f0)) (i : Int) by
    simp only [hps, pcsV, List.getElem_map])
   obtain ⟨gg, hgg⟩ : ∃ g, g = ce.f1 := ⟨_, rfl⟩
   rw [← hgg] at HCF HPI H14
   clear hgg hps
   cases gg with
   | false =>
    go_loopg [15, 16, 17, 18, 19, 20, 21, 53] all.length (fun gh s15 s16 s17 s18 _ _ _ s53 wi => ∃ k : Nat, k + gh = all.length ∧ s53 = .int .i64 (k : Int) ∧ s15 = .int .u32 (metV (ps.take k) : Nat) ∧ s16 = .slice none 0 0 ∧ s17 = .string ⟨#[]⟩ ∧ s18 = .string ⟨#[]⟩ ∧ Aside0 (Below nb wo wi ∧ nb ≤ wi.heap.size))
    case atStart => exact ⟨0, by omega, rfl, rfl, rfl, rfl, rfl, ⟨Below.refl _ _, by rw [HNB.out]; exact Nat.le_refl _⟩⟩
    case round =>
     obtain ⟨k, hk, rfl, rfl, rfl, rfl, rfl, HW⟩ := hrel
     have HKN := Aside0.mk hk
     clear hk
     by_cases hkl : k < all.length
     ·have hkz : (k : Int) < (all.length : Int) := by omega
      have hkd : decide (k < all.length) = true := decide_eq_true hkl
      have HKL := Aside0.mk hkl
      have HB3 := Aside0.mk (show Below w3.heap.size w3 wr by rw [← HM1.out]; exact HB.out.1.trans (HW.out.1.mono (by have := HB.out.2; rw [HNB.out]; exact this)))
      obtain ⟨a5, A6, c6, A7, c7, rfl, y0, y1, l0, g0, l1, g1⟩ := at_T31 (Kd.C_below HR5.out HB3.out) (k : Int) (by omega) hkz
      rw [Int.toNat_natCast] at y0 y1
      have hfe : rd_T31 all (k : Int) = all[k] := by simp [rd_T31, List.getD_eq_getElem?_getD, List.getElem?_eq_getElem hkl]
      obtain ⟨hisf, hub⟩ := HOK.out all[k] (List.getElem_mem hkl)
      obtain ⟨hw8, hpo, hpl, hpt, hfl⟩ := isF_parts hisf
      obtain ⟨p, hp⟩ : ∃ p, p = rdOf ByteArray.empty (partsF X.r all[k].f1 (wordsV X all[k].f0)) (i : Int) := ⟨_, rfl⟩
      have hkp : k < ps.length := by rw [HPL.out]; exact hkl
      have hpk : ps[k] = p := by rw [HPE.out k hkl hkp, hp]
      have HPO := Aside0.mk (show PcOk _ p by rw [hp]; exact HPI.out k hkl)
      have HTK := Aside0.mk (show ps.take (k + 1) = ps.take k ++ [p] by rw [List.take_add_one, List.getElem?_eq_getElem hkp, hpk]; rfl)
      obtain ⟨pf, hpf⟩ : ∃ l, l = partsF X.r all[k].f1 (wordsV X all[k].f0) := ⟨_, rfl⟩
      rw [hfe] at y0 y1 l0 g0 l1 g1
      obtain ⟨f0, hf0⟩ : ∃ l, l = all[k].f0 := ⟨_, rfl⟩
      obtain ⟨f1, hf1⟩ : ∃ l, l = all[k].f1 := ⟨_, rfl⟩
      have HPT := Aside0.mk (fun (W : World) (hW : Below wr.heap.size wr W) => show Calls Try.prog 60 #[.pointer (some ⟨S.b, 0, none⟩), .agg #[.slice A6 f0.length c6, .slice A7 f1.length c7]] W fun e w' => ∃ v, e = .returned v ∧ Kd.string.R 9 w' W.heap.size (fun _ => True) v pf ∧ Below W.heap.size W w' by
       rw [hpf, hf0, hf1]
       exact parts_calls X S _ W (HS5.out.below (HB3.out.trans (hW.mono HB3.out.size))) all[k].f0 all[k].f1 A6 A7 c6 c7 (Kd.C_below g0 hW) (Kd.C_below g1 hW) hw8.2 (by omega) (fun j hj => by
        rw [show rd all[k].f0 (j : Int) = all[k].f0[j] by simp [rd, List.getD_eq_getElem?_getD, List.getElem?_eq_getElem hj]]
        exact hub _ (List.getElem_mem hj)) (fun j hj => by
        rw [show rd all[k].f0 (j : Int) = all[k].f0[j] by simp [rd, List.getD_eq_getElem?_getD, List.getElem?_eq_getElem hj]]
        obtain ⟨u0, u1⟩ := hub _ (List.getElem_mem hj)
        have h8 := (HOL.out.wd all[k].f0[j].toNat (by omega)).2.1
        rwa [show ((all[k].f0[j].toNat : Nat) : Int) = all[k].f0[j] by omega] at h8) (by omega) hpo)
      rw [← hpf] at hp hpl
      rw [← hf0] at y0
      rw [← hf1] at y1
      have hpz : (i : Int) < (pf.length : Int) := by rw [hpl]; exact hiz
      have hpd : decide (i < pf.length) = true := decide_eq_true (by rw [hpl]; exact HLT.out)
      have HPP := Aside0.mk hp
      have yl := World.block_lt_of_cell? wr _ y0
      clear hfe hisf hub hw8 hpo hpt hfl hp hpk hpf hf0 hf1 l0 g0 l1 g1 hpl hkp
      obtain ⟨b20, hb20⟩ : ∃ b, b = wr.heap.size := ⟨_, rfl⟩
      have H14r := Aside0.mk (show wr.heap[b14]? = _ from (HW.out.1.block b14 (by rw [HNB.out]; exact blk_lt H14.out)).trans H14.out)
      go_upto_region 22 with fail
      refine wp_gen (fun wx => Aside0 (Below wr.heap.size wr wx) ∧ Aside0 (FilAt A6 A7 f0.length f1.length c6 c7 b20 wx)) ⟨⟨(Below.refl _ _).alloc (Nat.le_refl _) _⟩, ⟨by rw [hb20]; exact blk_new wr _⟩⟩ ?_
      rw [← hb20]
      have HB20 := Aside0.mk hb20
      clear hb20 y0 y1 yl
      rintro wx ⟨HX1, HF1⟩
      have HXX := Aside0.mk (show Below wr.heap.size wr wx by rw [← HB20.out]; exact HX1.out)
      have y0 := (blk_cell HF1.out 0).trans (show (#[Value.slice A6 f0.length c6, Value.slice A7 f1.length c7] : Array Value)[0]? = some (Value.slice A6 f0.length c6) from rfl)
      have y1 := (blk_cell HF1.out 1).trans (show (#[Value.slice A6 f0.length c6, Value.slice A7 f1.length c7] : Array Value)[1]? = some (Value.slice A7 f1.length c7) from rfl)
      have yl := blk_lt HF1.out
      go_upto_region 23 with first
       | (go_at_call 60; refine (HPT.out wx HXX.out).mono ?_; rintro e w7 ⟨v7, rfl, hv7, hb7⟩; obtain ⟨A8, c8, rfl, -, hr8⟩ := Kd.R_reads hv7; obtain ⟨a8, rfl, z8⟩ := Kd.at_string hr8 (i : Int) (by omega) hpz; rw [Int.toNat_natCast, ← HPP.out] at z8; have zl8 := World.block_lt_of_cell? w7 _ z8; have HX7 := Aside0.mk (HXX.out.trans (hb7.mono HXX.out.size)); clear hb7 hr8 hv7)
       | fail
      refine wp_gen (fun wx => Aside0 (Below wr.heap.size wr wx)) ⟨HX7.out⟩ ?_
      clear y0 y1 yl z8 zl8 HX7 HF1 HX1 HXX HPT HPP wx w7
      rintro wx HX1
      have HW2 := Aside0.mk (show Below nb wo wx ∧ nb ≤ wx.heap.size from ⟨HW.out.1.trans (HX1.out.mono HW.out.2), Nat.le_trans HW.out.2 HX1.out.size⟩)
      have H14x := Aside0.mk (show wx.heap[b14]? = _ from blk_below H14r.out HX1.out)
      have e14 := (blk_cell H14x.out 1).trans (show (#[Value.string ce.f0, .bool false, .int .i64 ce.f2.f0, .int .i64 ce.f2.f1] : Array Value)[1]? = some (Value.bool false) from rfl)
      have l14 := blk_lt H14x.out
      have hpz64 := HPO.out.z
      have hp1 : p.size = 1 := HPO.out.one rfl
      have hp0 : 0 < p.size := by omega
      have hp0z : (0 : Int) < (p.size : Int) := by omega
      have hp0d : decide (0 < p.size) = true := decide_eq_true hp0
      obtain ⟨q0, q1⟩ := HPO.out.l 0 hp0
      rw [show ((0 : Nat) : Int) = 0 from rfl] at q0 q1
      obtain ⟨a, ha⟩ : ∃ a, a = bt p 0 := ⟨_, rfl⟩
      have hbt : ((p[0]'hp0).toNat : Int) = a := by
       rw [ha]
       unfold bt
       rw [dif_pos (by simpa using hp0)]
       rfl
      rw [← ha] at q0 q1
      have HMS := Aside0.mk (show metV (ps.take (k + 1)) = metV (ps.take k) ||| 2 ^ (a - 65).toNat by rw [HTK.out, ha]; unfold metV; rw [foldl_snoc])
      obtain ⟨m, hm⟩ : ∃ m, m = metV (ps.take k) := ⟨_, rfl⟩
      have hml : m < 2 ^ 26 := by
       rw [hm]
       refine metV_lt _ (fun q hq => ?_)
       obtain ⟨j, hj, rfl⟩ := List.mem_iff_getElem.1 (List.mem_of_mem_take hq)
       have hja : j < all.length := by rw [← HPL.out]; exact hj
       rw [HPE.out j hja hj]
       have h := HPI.out j hja
       exact ⟨by have := h.one rfl; omega, h.l⟩
      rw [← hm] at HMS ⊢
      have HWT := Aside0.mk (show gap_letters_with.f (m : Int) a = some ((m ||| 2 ^ (a - 65).toNat : Nat) : Int) by
       have h := with_mask m (a - 65).toNat hml (by omega)
       rwa [show (65 + ((a - 65).toNat : Int)) = a by omega] at h)
      have hmz : (m : Int) < 4294967296 := by omega
      clear hm ha
      go_wp2_with first
       | (go_at_call 58; refine (gap_letters_with.calls _ _ _ _ HWT.out).mono ?_; rintro e w8 ⟨rfl, hd8⟩; have HD8 := Aside0.mk hd8.below; clear hd8)
       | fail
      go_roundg (gk - 1)
      case measure => have := HKN.out; have := HKL.out; omega
      case rel => exact ⟨k + 1, by have := HKN.out; have := HKL.out; omega, by go_num, by rw [HMS.out], rfl, rfl, rfl, ⟨HW2.out.1.trans (HD8.out.mono HW2.out.2), Nat.le_trans HW2.out.2 HD8.out.size⟩⟩
     ·have hkz : ¬ (k : Int) < (all.length : Int) := by omega
      have hkd : decide (k < all.length) = false := decide_eq_false hkl
      have hmt : metV (ps.take k) = metV ps := by rw [List.take_of_length_le (by rw [HPL.out]; omega)]
      rw [hmt]
      obtain ⟨m, hm⟩ : ∃ m, m = metV ps := ⟨_, rfl⟩
      have hml : m < 2 ^ 26 := by
       rw [hm]
       refine metV_lt _ (fun q hq => ?_)
       obtain ⟨j, hj, rfl⟩ := List.mem_iff_getElem.1 hq
       have hja : j < all.length := by rw [← HPL.out]; exact hj
       rw [HPE.out j hja hj]
       have h := HPI.out j hja
       exact ⟨by have := h.one rfl; omega, h.l⟩
      have HCE := Aside0.mk (show comF X all i = ⟨textV m, ⟨#[]⟩, ⟨#[]⟩, z47⟩ by rw [HCF.out, hm]; rfl)
      rw [← hm]
      clear hmt hm
      have HTX := Aside0.mk (text_calls m hml wr)
      have H14r := Aside0.mk (show wr.heap[b14]? = _ from (HW.out.1.block b14 (by rw [HNB.out]; exact blk_lt H14.out)).trans H14.out)
      have e14 := (blk_cell H14r.out 1).trans (show (#[Value.string ce.f0, .bool false, .int .i64 ce.f2.f0, .int .i64 ce.f2.f1] : Array Value)[1]? = some (Value.bool false) from rfl)
      have l14 := blk_lt H14r.out
      have HRr := Aside0.mk (Kd.R_below HR.out (HNB.out ▸ HW.out.1))
      obtain ⟨tx, htx⟩ : ∃ t, t = textV m := ⟨_, rfl⟩
      rw [← htx] at HTX HCE
      clear htx
      go_wp2_with first
       | (go_at_call 59; refine HTX.out.mono ?_; rintro e w8 ⟨rfl, hb8⟩; have HR8 := Aside0.mk (Kd.R_below HRr.out hb8); have HB8 := Aside0.mk hb8; obtain ⟨⟨k0, k1, k2, k3, k4⟩, kf, kl⟩ := R60_cells HR8.out HLT.out; have kf0 := kf (i * 5); clear hb8 kf)
       | fail
      go_roundg (X.r.length - (i + 1))
      case measure => have := HIN1.out; have := HLT.out; omega
      case rel =>
       have hw3 : Below m1 w3 w8 := HB.out.1.trans ((HW.out.1.mono (by rw [HNB.out]; exact HB.out.2)).trans (HB8.out.mono (by have h1 := HW.out.2; have h2 := HB.out.2; rw [← HNB.out] at h2; omega)))
       refine ⟨i + 1, by have := HIN1.out; have := HLT.out; omega, by go_num, ⟨?_⟩, ⟨hw3.setCell HG0.out _, ?_⟩⟩
       ·have h := R60_put0 HR8.out HLT.out tx
        rw [outL_get X all i HLT.out, show (⟨tx, z60.f1, z60.f2, z60.f3⟩ : S60) = comF X all i from HCE.out.symm, outL_set X all i HLT.out] at h
        exact h
       ·have h1 := hw3.size
        have h2 := HB8.out.size
        have h3 := HB.out.2
        have h4 := HW.out.2
        rw [← HNB.out] at h3
        show m1 ≤ (w8.heap.modify _ _).size
        rw [Array.size_modify]
        omega
   | true =>
    go_loopg [15, 16, 17, 18, 19, 20, 21, 53] all.length (fun gh s15 s16 s17 s18 _ _ _ s53 wi => ∃ (k : Nat) (hd tl : ByteArray), k + gh = all.length ∧ s53 = .int .i64 (k : Int) ∧ s17 = .string hd ∧ s18 = .string tl ∧ hd.size ≤ 64 ∧ tl.size ≤ 64 ∧ Aside0 (0 < k → hd = (ps.take k).foldl comV (ps.headD ByteArray.empty) ∧ tl = ((ps.take k).map turnV).foldl comV (turnV (ps.headD ByteArray.empty))) ∧ Aside0 ((Kd.int .i64).R 3 wi nb (fun _ => True) s16 (manyV (ps.take k))) ∧ Aside0 (Below nb wo wi ∧ nb ≤ wi.heap.size))
    case atStart => exact ⟨0, ⟨#[]⟩, ⟨#[]⟩, by omega, rfl, rfl, rfl, by decide, by decide, ⟨fun h => absurd h (by decide)⟩, ⟨Kd.R_nil _ _ _ _ _⟩, ⟨Below.refl _ _, by rw [HNB.out]; exact Nat.le_refl _⟩⟩
    case round =>
     obtain ⟨k, hd, tl, hk, rfl, rfl, rfl, hdz, tlz, HT, HRM, HW⟩ := hrel
     have HKN := Aside0.mk hk
     clear hk
     by_cases hkl : k < all.length
     ·have hkz : (k : Int) < (all.length : Int) := by omega
      have hkd : decide (k < all.length) = true := decide_eq_true hkl
      have HKL := Aside0.mk hkl
      have HB3 := Aside0.mk (show Below w3.heap.size w3 wr by rw [← HM1.out]; exact HB.out.1.trans (HW.out.1.mono (by have := HB.out.2; rw [HNB.out]; exact this)))
      obtain ⟨a5, A6, c6, A7, c7, rfl, y0, y1, l0, g0, l1, g1⟩ := at_T31 (Kd.C_below HR5.out HB3.out) (k : Int) (by omega) hkz
      rw [Int.toNat_natCast] at y0 y1
      have hfe : rd_T31 all (k : Int) = all[k] := by simp [rd_T31, List.getD_eq_getElem?_getD, List.getElem?_eq_getElem hkl]
      obtain ⟨hisf, hub⟩ := HOK.out all[k] (List.getElem_mem hkl)
      obtain ⟨hw8, hpo, hpl, hpt, hfl⟩ := isF_parts hisf
      obtain ⟨p, hp⟩ : ∃ p, p = rdOf ByteArray.empty (partsF X.r all[k].f1 (wordsV X all[k].f0)) (i : Int) := ⟨_, rfl⟩
      have hkp : k < ps.length := by rw [HPL.out]; exact hkl
      have hpk : ps[k] = p := by rw [HPE.out k hkl hkp, hp]
      have HPO := Aside0.mk (show PcOk _ p by rw [hp]; exact HPI.out k hkl)
      have HTK := Aside0.mk (show ps.take (k + 1) = ps.take k ++ [p] by rw [List.take_add_one, List.getElem?_eq_getElem hkp, hpk]; rfl)
      obtain ⟨pf, hpf⟩ : ∃ l, l = partsF X.r all[k].f1 (wordsV X all[k].f0) := ⟨_, rfl⟩
      rw [hfe] at y0 y1 l0 g0 l1 g1
      obtain ⟨f0, hf0⟩ : ∃ l, l = all[k].f0 := ⟨_, rfl⟩
      obtain ⟨f1, hf1⟩ : ∃ l, l = all[k].f1 := ⟨_, rfl⟩
      have HPT := Aside0.mk (fun (W : World) (hW : Below wr.heap.size wr W) => show Calls Try.prog 60 #[.pointer (some ⟨S.b, 0, none⟩), .agg #[.slice A6 f0.length c6, .slice A7 f1.length c7]] W fun e w' => ∃ v, e = .returned v ∧ Kd.string.R 9 w' W.heap.size (fun _ => True) v pf ∧ Below W.heap.size W w' by
       rw [hpf, hf0, hf1]
       exact parts_calls X S _ W (HS5.out.below (HB3.out.trans (hW.mono HB3.out.size))) all[k].f0 all[k].f1 A6 A7 c6 c7 (Kd.C_below g0 hW) (Kd.C_below g1 hW) hw8.2 (by omega) (fun j hj => by
        rw [show rd all[k].f0 (j : Int) = all[k].f0[j] by simp [rd, List.getD_eq_getElem?_getD, List.getElem?_eq_getElem hj]]
        exact hub _ (List.getElem_mem hj)) (fun j hj => by
        rw [show rd all[k].f0 (j : Int) = all[k].f0[j] by simp [rd, List.getD_eq_getElem?_getD, List.getElem?_eq_getElem hj]]
        obtain ⟨u0, u1⟩ := hub _ (List.getElem_mem hj)
        have h8 := (HOL.out.wd all[k].f0[j].toNat (by omega)).2.1
        rwa [show ((all[k].f0[j].toNat : Nat) : Int) = all[k].f0[j] by omega] at h8) (by omega) hpo)
      rw [← hpf] at hp hpl
      rw [← hf0] at y0
      rw [← hf1] at y1
      have hpz : (i : Int) < (pf.length : Int) := by rw [hpl]; exact hiz
      have hpd : decide (i < pf.length) = true := decide_eq_true (by rw [hpl]; exact HLT.out)
      have HPP := Aside0.mk hp
      have yl := World.block_lt_of_cell? wr _ y0
      clear hfe hisf hub hw8 hpo hpt hfl hp hpk hpf hf0 hf1 l0 g0 l1 g1 hpl hkp
      obtain ⟨b20, hb20⟩ : ∃ b, b = wr.heap.size := ⟨_, rfl⟩
      have H14r := Aside0.mk (show wr.heap[b14]? = _ from (HW.out.1.block b14 (by rw [HNB.out]; exact blk_lt H14.out)).trans H14.out)
      go_upto_region 22 with fail
      refine wp_gen (fun wx => Aside0 (Below wr.heap.size wr wx) ∧ Aside0 (FilAt A6 A7 f0.length f1.length c6 c7 b20 wx)) ⟨⟨(Below.refl _ _).alloc (Nat.le_refl _) _⟩, ⟨by rw [hb20]; exact blk_new wr _⟩⟩ ?_
      rw [← hb20]
      have HB20 := Aside0.mk hb20
      clear hb20 y0 y1 yl
      rintro wx ⟨HX1, HF1⟩
      have HXX := Aside0.mk (show Below wr.heap.size wr wx by rw [← HB20.out]; exact HX1.out)
      have y0 := (blk_cell HF1.out 0).trans (show (#[Value.slice A6 f0.length c6, Value.slice A7 f1.length c7] : Array Value)[0]? = some (Value.slice A6 f0.length c6) from rfl)
      have y1 := (blk_cell HF1.out 1).trans (show (#[Value.slice A6 f0.length c6, Value.slice A7 f1.length c7] : Array Value)[1]? = some (Value.slice A7 f1.length c7) from rfl)
      have yl := blk_lt HF1.out
      go_upto_region 23 with first
       | (go_at_call 60; refine (HPT.out wx HXX.out).mono ?_; rintro e w7 ⟨v7, rfl, hv7, hb7⟩; obtain ⟨A8, c8, rfl, -, hr8⟩ := Kd.R_reads hv7; obtain ⟨a8, rfl, z8⟩ := Kd.at_string hr8 (i : Int) (by omega) hpz; rw [Int.toNat_natCast, ← HPP.out] at z8; have zl8 := World.block_lt_of_cell? w7 _ z8; have HX7 := Aside0.mk (HXX.out.trans (hb7.mono HXX.out.size)); clear hb7 hr8 hv7)
       | fail
      refine wp_gen (fun wx => Aside0 (Below wr.heap.size wr wx)) ⟨HX7.out⟩ ?_
      clear y0 y1 yl z8 zl8 HX7 HF1 HX1 HXX HPT HPP wx w7
      rintro wx HX1
      have HW2 := Aside0.mk (show Below nb wo wx ∧ nb ≤ wx.heap.size from ⟨HW.out.1.trans (HX1.out.mono HW.out.2), Nat.le_trans HW.out.2 HX1.out.size⟩)
      have H14x := Aside0.mk (show wx.heap[b14]? = _ from blk_below H14r.out HX1.out)
      have e14 := (blk_cell H14x.out 1).trans (show (#[Value.string ce.f0, .bool true, .int .i64 ce.f2.f0, .int .i64 ce.f2.f1] : Array Value)[1]? = some (Value.bool true) from rfl)
      have l14 := blk_lt H14x.out
      have hpz64 := HPO.out.z
      have HRM := Aside0.mk (Kd.R_below HRM.out HX1.out)
      have HML := Aside0.mk (show (manyV (ps.take k)).length ≤ 500 by unfold manyV; rw [List.length_map, List.length_take]; omega)
      have HMS := Aside0.mk (show manyV (ps.take (k + 1)) = manyV (ps.take k) ++ [(p.size : Int)] by rw [HTK.out]; unfold manyV; rw [List.map_append]; rfl)
      obtain ⟨tp, htp⟩ : ∃ t, t = turnV p := ⟨_, rfl⟩
      have htz : tp.size ≤ 64 := by rw [htp, turnV_size]; exact hpz64
      have HTC := Aside0.mk (fun (W : World) => show Calls Try.prog 61 #[.string p] W fun e w' => e = .returned (.string tp) ∧ Below W.heap.size W w' by rw [htp]; exact turned_calls p W (by omega))
      have HTP := Aside0.mk htp
      clear htp
      by_cases hk0 : k = 0
      ·have hk1 : ((k : Int) == 0) = true := by rw [hk0]; rfl
       have hk2 : (k == 0) = true := by rw [hk0]; rfl
       have HHD := Aside0.mk (show ps.headD ByteArray.empty = p ∧ ps.take (k + 1) = [p] by
        have h := HTK.out
        rw [hk0, List.take_zero, List.nil_append] at h
        rw [hk0]
        refine ⟨?_, h⟩
        cases ps with
        | nil => simp at h
        | cons q qs => simpa using h)
       clear hk0
       go_wp2_with first
        | (at_builtin; refine Kd.R_append (Kd.int .i64) (w0 := wo) nb rfl (.tmp 72) (.tmp 75) 22 3 (.int .i64 0) 8 rfl Try.underlying22 info3 rfl (by decide) (by omega) u16 (manyV (ps.take k)) (p.size : Int) [.int .i64 (p.size : Int)] (fun _ => True) (fun _ => False) rfl rfl ?aaP (fun _ hk => hk.elim) ?aaF ?aaO ?aaB ?aaS ?aaL ?_; (case aaP => exact rfl); (case aaF => exact (fun _ _ => trivial)); (case aaO => exact HRM.out); (case aaB => exact HW2.out.1); (case aaS => exact HW2.out.2); (case aaL => have := HML.out; omega); intro v6 w6 ho hb hg hat; have HRM := Aside0.mk ho; have HW2 := Aside0.mk (show Below nb wo w6 ∧ nb ≤ w6.heap.size from ⟨hb, by have h1 := hg.size; have h2 := HW2.out.2; omega⟩); clear ho hb hg hat)
        | (go_at_call 61; refine (HTC.out _).mono ?_; rintro e w8 ⟨rfl, hb8⟩; have HRM := Aside0.mk (Kd.R_below HRM.out hb8); have HW2 := Aside0.mk (show Below nb wo w8 ∧ nb ≤ w8.heap.size from ⟨HW2.out.1.trans (hb8.mono HW2.out.2), Nat.le_trans HW2.out.2 hb8.size⟩); clear hb8)
        | (go_at_call 62; (with_reducible refine (common_calls p p (by omega) _).mono ?_); rintro e w8 ⟨rfl, hb8⟩; have HRM := Aside0.mk (Kd.R_below HRM.out hb8); have HW2 := Aside0.mk (show Below nb wo w8 ∧ nb ≤ w8.heap.size from ⟨HW2.out.1.trans (hb8.mono HW2.out.2), Nat.le_trans HW2.out.2 hb8.size⟩); clear hb8)
        | (go_at_call 62; (with_reducible refine (common_calls tp tp (by omega) _).mono ?_); rintro e w8 ⟨rfl, hb8⟩; have HRM := Aside0.mk (Kd.R_below HRM.out hb8); have HW2 := Aside0.mk (show Below nb wo w8 ∧ nb ≤ w8.heap.size from ⟨HW2.out.1.trans (hb8.mono HW2.out.2), Nat.le_trans HW2.out.2 hb8.size⟩); clear hb8)
        | fail
       go_roundg (gk - 1)
       case measure => have := HKN.out; have := HKL.out; omega
       case rel =>
        refine ⟨k + 1, comV p p, comV tp tp, by have := HKN.out; have := HKL.out; omega, by go_num, rfl, rfl, Nat.le_trans (comV_size _ _) hpz64, Nat.le_trans (comV_size _ _) htz, ⟨fun _ => ?_⟩, ⟨by rw [HMS.out]; exact HRM.out⟩, HW2⟩
        rw [HHD.out.1, HHD.out.2, HTP.out]
        exact ⟨rfl, rfl⟩
      ·have hk1 : ((k : Int) == 0) = false := beq_eq_false_iff_ne.2 (by omega)
       have hk2 : (k == 0) = false := beq_eq_false_iff_ne.2 hk0
       have HK0 := Aside0.mk (show 0 < k by omega)
       clear hk0
       go_wp2_with first
        | (at_builtin; refine Kd.R_append (Kd.int .i64) (w0 := wo) nb rfl (.tmp 72) (.tmp 75) 22 3 (.int .i64 0) 8 rfl Try.underlying22 info3 rfl (by decide) (by omega) u16 (manyV (ps.take k)) (p.size : Int) [.int .i64 (p.size : Int)] (fun _ => True) (fun _ => False) rfl rfl ?baP (fun _ hk => hk.elim) ?baF ?baO ?baB ?baS ?baL ?_; (case baP => exact rfl); (case baF => exact (fun _ _ => trivial)); (case baO => exact HRM.out); (case baB => exact HW2.out.1); (case baS => exact HW2.out.2); (case baL => have := HML.out; omega); intro v6 w6 ho hb hg hat; have HRM := Aside0.mk ho; have HW2 := Aside0.mk (show Below nb wo w6 ∧ nb ≤ w6.heap.size from ⟨hb, by have h1 := hg.size; have h2 := HW2.out.2; omega⟩); clear ho hb hg hat)
        | (go_at_call 61; refine (HTC.out _).mono ?_; rintro e w8 ⟨rfl, hb8⟩; have HRM := Aside0.mk (Kd.R_below HRM.out hb8); have HW2 := Aside0.mk (show Below nb wo w8 ∧ nb ≤ w8.heap.size from ⟨HW2.out.1.trans (hb8.mono HW2.out.2), Nat.le_trans HW2.out.2 hb8.size⟩); clear hb8)
        | (go_at_call 62; (with_reducible refine (common_calls hd p (by omega) _).mono ?_); rintro e w8 ⟨rfl, hb8⟩; have HRM := Aside0.mk (Kd.R_below HRM.out hb8); have HW2 := Aside0.mk (show Below nb wo w8 ∧ nb ≤ w8.heap.size from ⟨HW2.out.1.trans (hb8.mono HW2.out.2), Nat.le_trans HW2.out.2 hb8.size⟩); clear hb8)
        | (go_at_call 62; (with_reducible refine (common_calls tl tp (by omega) _).mono ?_); rintro e w8 ⟨rfl, hb8⟩; have HRM := Aside0.mk (Kd.R_below HRM.out hb8); have HW2 := Aside0.mk (show Below nb wo w8 ∧ nb ≤ w8.heap.size from ⟨HW2.out.1.trans (hb8.mono HW2.out.2), Nat.le_trans HW2.out.2 hb8.size⟩); clear hb8)
        | fail
       go_roundg (gk - 1)
       case measure => have := HKN.out; have := HKL.out; omega
       case rel =>
        refine ⟨k + 1, comV hd p, comV tl tp, by have := HKN.out; have := HKL.out; omega, by go_num, rfl, rfl, Nat.le_trans (comV_size _ _) hdz, Nat.le_trans (comV_size _ _) tlz, ⟨fun _ => ?_⟩, ⟨by rw [HMS.out]; exact HRM.out⟩, HW2⟩
        obtain ⟨h1, h2⟩ := HT.out HK0.out
        rw [HTK.out, List.map_append, foldl_snoc, List.map_cons, List.map_nil, foldl_snoc, ← h1, ← h2, HTP.out]
        exact ⟨rfl, rfl⟩
     ·have hkz : ¬ (k : Int) < (all.length : Int) := by omega
      have hkd : decide (k < all.length) = false := decide_eq_false hkl
      have hke : k = all.length := by have := HKN.out; omega
      have hpt : ps.take k = ps := List.take_of_length_le (by rw [HPL.out]; omega)
      obtain ⟨ht1, ht2⟩ := HT.out (by omega)
      rw [hpt] at ht1 ht2
      have HRM := Aside0.mk (show (Kd.int .i64).R 3 wr nb (fun _ => True) u16 (manyV ps) by have h := HRM.out; rw [hpt] at h; exact h)
      have hml : (manyV ps).length = all.length := by unfold manyV; rw [List.length_map, HPL.out]
      obtain ⟨gm, cm, curm, rfl, -, hgmn⟩ := R_form HRM.out (by omega)
      have HNE := Aside0.mk (show gm ≠ g by have h := (R60_cells HR.out HLT.out).2.2; rw [← HNB.out] at h; omega)
      have hmc := (Kd.R_reads' HRM.out).2
      obtain ⟨am, hame, y0⟩ := at_num hmc.2 0 (by omega)
      injection hame with hame
      subst hame
      rw [add0] at y0
      obtain ⟨f0, hf0⟩ : ∃ x, x = rd (manyV ps) 0 := ⟨_, rfl⟩
      have hf1 : f0 = (manyV ps).headD 0 := by
       rw [hf0]
       cases hm : manyV ps with
       | nil => rfl
       | cons q qs => rfl
      rw [show rd (manyV ps) ((0 : Nat) : Int) = f0 by rw [hf0]; rfl] at y0
      obtain ⟨sp, hsp⟩ : ∃ s, s = endsV (f0, f0) (manyV ps) := ⟨_, rfl⟩
      have HCE := Aside0.mk (show comF X all i = ⟨⟨#[]⟩, hd, turnV tl, ⟨sp.1, sp.2⟩⟩ by rw [HCF.out, ht1, ht2, hsp, hf1]; rfl)
      have HEN := Aside0.mk (fun (W : World) (hW : Below wr.heap.size wr W) => show Calls Try.prog 63 #[.int .i64 f0, .slice (some ⟨gm, 0, none⟩) (manyV ps).length cm] W fun e w' => e = .returned (.agg #[.int .i64 sp.1, .int .i64 sp.2]) ∧ Below W.heap.size W w' by
       rw [hsp]
       exact ends_calls f0 _ cm (manyV ps) W (Kd.C_below hmc.2 hW) hmc.1 (by omega))
      obtain ⟨tt, htt⟩ : ∃ t, t = turnV tl := ⟨_, rfl⟩
      rw [← htt] at HCE
      have HTC := Aside0.mk (fun (W : World) => show Calls Try.prog 61 #[.string tl] W fun e w' => e = .returned (.string tt) ∧ Below W.heap.size W w' by rw [htt]; exact turned_calls tl W (by omega))
      have H14r := Aside0.mk (show wr.heap[b14]? = _ from (HW.out.1.block b14 (by rw [HNB.out]; exact blk_lt H14.out)).trans H14.out)
      have e14 := (blk_cell H14r.out 1).trans (show (#[Value.string ce.f0, .bool true, .int .i64 ce.f2.f0, .int .i64 ce.f2.f1] : Array Value)[1]? = some (Value.bool true) from rfl)
      have l14 := blk_lt H14r.out
      have HRr := Aside0.mk (Kd.R_below HR.out (HNB.out ▸ HW.out.1))
      have hm0 : 0 < (manyV ps).length := by omega
      have hm0z : (0 : Int) < ((manyV ps).length : Int) := by omega
      have hm0d : decide (0 < (manyV ps).length) = true := decide_eq_true hm0
      have yl := World.block_lt_of_cell? wr _ y0
      obtain ⟨ml, hmle⟩ : ∃ n, n = (manyV ps).length := ⟨_, rfl⟩
      rw [← hmle] at hm0 hm0z hm0d HEN ⊢
      have HYC := Aside0.mk (fun (W : World) (hW : Below wr.heap.size wr W) => show W.cell? ⟨gm, 0, none⟩ = some (.int .i64 f0) from (hW.cell (p := ⟨gm, 0, none⟩) yl).trans y0)
      clear hf0 hf1 hsp htt ht1 ht2 hpt hml hmc hmle hke HRM HT
      go_upto_region 31 with fail
      have hgl : g < wr.heap.size := (R60_cells HRr.out HLT.out).2.2
      go_region_held3 (fun w' => w'.cell? ⟨gm, 0, none⟩ = some (.int .i64 f0))
       (first | exact HYC.out _ HB9.out | exact HYC.out _ HB8.out | (rw [cell_far HNE.out, cell_far HNE.out, cell_far HNE.out, cell_far HNE.out, cell_far HNE.out]; exact HYC.out _ HB9.out) | go_keep)
       (first
        | (go_at_call 61; refine (HTC.out _).mono ?_; rintro e w8 ⟨rfl, hb8⟩; have HB8 := Aside0.mk (show Below wr.heap.size wr w8 from (Below.drew (Below.refl _ _)).trans hb8); clear hb8)
        | (go_at_call 63; refine (HEN.out _ HB8.out).mono ?_; rintro e w9 ⟨rfl, hb9⟩; have HB9 := Aside0.mk (show Below wr.heap.size wr w9 from HB8.out.trans (hb9.mono HB8.out.size)); have HR9 := Aside0.mk (Kd.R_below HRr.out HB9.out); obtain ⟨⟨k0, k1, k2, k3, k4⟩, kf, kl⟩ := R60_cells HR9.out HLT.out; have kf0 := kf (i * 5); have kf1 := kf (i * 5 + 1); have kf2 := kf (i * 5 + 2); have kf3 := kf (i * 5 + 3); have kf4 := kf (i * 5 + 4); clear hb9 kf))
      go_wp2_with fail
      go_roundg (X.r.length - (i + 1))
      case measure => have := HIN1.out; have := HLT.out; omega
      case rel =>
       have hw3 : Below m1 w3 w9 := HB.out.1.trans ((HW.out.1.mono (by rw [HNB.out]; exact HB.out.2)).trans (HB9.out.mono (by have h1 := HW.out.2; have h2 := HB.out.2; rw [← HNB.out] at h2; omega)))
       refine ⟨i + 1, by have := HIN1.out; have := HLT.out; omega, by go_num, ⟨?_⟩, ⟨((((hw3.setCell HG0.out _).setCell HG0.out _).setCell HG0.out _).setCell HG0.out _).setCell HG0.out _, ?_⟩⟩
       ·have h := R60_put HR9.out HLT.out ⟨⟨#[]⟩, hd, tt, ⟨sp.1, sp.2⟩⟩
        have e : (outL X all i).set i ⟨⟨#[]⟩, hd, tt, ⟨sp.1, sp.2⟩⟩ = outL X all (i + 1) := by
         rw [← HCE.out]
         exact outL_set X all i HLT.out
        rw [e] at h
        exact h
       ·have h1 := hw3.size
        have h2 := HB9.out.size
        have h3 := HB.out.2
        have h4 := HW.out.2
        rw [← HNB.out] at h3
        simp only [World.size_setCell]
        omega
  ·have hiz : ¬ (i : Int) < (X.r.length : Int) := by omega
   have hid : decide (i < X.r.length) = false := decide_eq_false hlt
   have hie : i = X.r.length := by have := HIN1.out; omega
   have HFIN := Aside0.mk (show k60.R 60 wr m1 (fun _ => True) (.slice (some ⟨g, 0, none⟩) X.r.length c10) ((List.range X.r.length).map (comF X all)) by
    have h := HR.out
    rw [hie, outL_all] at h
    exact h)
   clear hie HR
   go_wp2_with fail
   go_ret2
   have hz0 : w.heap.size ≤ m1 := by rw [HM1.out]; exact HB3.out.size
   have hb9 : Below w.heap.size w wr := by
    have h := HB3.out
    rw [HN00.out] at h
    exact h.trans (HB.out.1.mono hz0)
   refine ⟨_, rfl, ?_, ?_⟩
   ·first
     | exact Kd.R_lower HFIN.out hz0
     | (rw [HN00.out]; exact Kd.R_lower HFIN.out hz0)
   ·first
     | exact hb9
     | (rw [HN00.out]; exact hb9)
end Go.Proofs.Ytkfebceainedfaa.P.OwnGap
namespace Go.Proofs.Ytkfebceainedfaa.P.OwnGap
open Go.RowKit Go.Proofs.YtkfebceainedfaaW.PrintWords Go.Proofs.YtkfebceainedfaaW.PrintLast Go.Proofs.YtkfebceainedfaaW.PrintMore
open Go.Proofs.Ytkfebceainedfaa.OwnGap
def aw0 : List S53 := [(⟨(⟨#[68, 73, 83]⟩ : ByteArray), 0⟩ : S53), (⟨(⟨#[77, 65, 78, 73, 66, 86, 83]⟩ : ByteArray), 1⟩ : S53), (⟨(⟨#[68, 69, 73, 83]⟩ : ByteArray), 0⟩ : S53), (⟨(⟨#[77, 65, 78, 73, 83]⟩ : ByteArray), 1⟩ : S53)]
def aw1 : List Bool := [true, false]
def aw2 : List Bool := [false, true]
def aw3 : List (List Bool) := [[false, true], [false, false]]
def aw4 : List S47 := (List.range 26).map fun i => if i = 8 then ⟨1, 2⟩ else if i = 12 then ⟨4, 4⟩ else ⟨2, 3⟩
def awr : List S49 := [(⟨(⟨#[68]⟩ : ByteArray), false, (⟨0, 0⟩ : S47)⟩ : S49), (⟨(⟨#[]⟩ : ByteArray), false, (⟨0, 0⟩ : S47)⟩ : S49), (⟨(⟨#[83]⟩ : ByteArray), false, (⟨0, 0⟩ : S47)⟩ : S49), (⟨(⟨#[]⟩ : ByteArray), true, (⟨8, 14⟩ : S47)⟩ : S49), (⟨(⟨#[83]⟩ : ByteArray), false, (⟨0, 0⟩ : S47)⟩ : S49)]
def aws : List S49 := [(⟨(⟨#[68]⟩ : ByteArray), false, (⟨0, 0⟩ : S47)⟩ : S49), (⟨(⟨#[]⟩ : ByteArray), false, (⟨0, 0⟩ : S47)⟩ : S49), (⟨(⟨#[88]⟩ : ByteArray), false, (⟨0, 0⟩ : S47)⟩ : S49), (⟨(⟨#[]⟩ : ByteArray), true, (⟨0, 9⟩ : S47)⟩ : S49)]
def awC : List S60 := [(⟨(⟨#[68]⟩ : ByteArray), (⟨#[]⟩ : ByteArray), (⟨#[]⟩ : ByteArray), (⟨0, 0⟩ : S47)⟩ : S60), (⟨(⟨#[73]⟩ : ByteArray), (⟨#[]⟩ : ByteArray), (⟨#[]⟩ : ByteArray), (⟨0, 0⟩ : S47)⟩ : S60), (⟨(⟨#[83]⟩ : ByteArray), (⟨#[]⟩ : ByteArray), (⟨#[]⟩ : ByteArray), (⟨0, 0⟩ : S47)⟩ : S60), (⟨(⟨#[]⟩ : ByteArray), (⟨#[77, 65, 78, 73]⟩ : ByteArray), (⟨#[]⟩ : ByteArray), (⟨4, 6⟩ : S47)⟩ : S60), (⟨(⟨#[83]⟩ : ByteArray), (⟨#[]⟩ : ByteArray), (⟨#[]⟩ : ByteArray), (⟨0, 0⟩ : S47)⟩ : S60)]
theorem aw_list : listV aw0 aw1 aw2 aw3 aw4 awr 0 9 = ([⟨[0, 1], [6]⟩, ⟨[0, 3], [4]⟩], 0) := by kernel_rfl
def awX (r : List S49) : Lx := ⟨aw0, aw1, aw2, aw3, aw4, r⟩
theorem aw_print : printT (awX awr) [0, 3] [4] = ⟨#[68, 91, 73, 93, 83, 32, 91, 77, 65, 78, 73, 93, 83]⟩ := by kernel_rfl
theorem aw_fits : fitsV aw0 aw1 aw2 aw3 aw4 awr [0, 3] [4] = 0 := by kernel_rfl
theorem aw_first : (firstL (awX awr) 501).length = 2 := by kernel_rfl
theorem aw_shared : (List.range awr.length).map (comF (awX awr) (firstL (awX awr) 501)) = awC := by kernel_rfl
theorem aw_both : bothV aw0 aw1 aw2 aw3 aw4 awr = 0 ∧ bothV aw0 aw1 aw2 aw3 aw4 aws = 0 := ⟨by kernel_rfl, by kernel_rfl⟩
theorem aw_stuck : stuckV aw0 aw1 aw2 aw3 aw4 aws = (2, 0) := by kernel_rfl
end Go.Proofs.Ytkfebceainedfaa.P.OwnGap
namespace Go.Proofs.Ytkfebceainedfaa.P.OwnGap
open Go.RowKit Go.Shelf Go.Proofs.YtkfebceainedfaaW.PrintWords Go.Proofs.YtkfebceainedfaaW.PrintLast Go.Proofs.YtkfebceainedfaaW.PrintMore
open Go.Proofs.Ytkfebceainedfaa.OwnGap Go.Proofs.Ytkfebceainedfaa.P.OwnUrn
set_option linter.unusedVariables false
set_option linter.unusedSimpArgs false
attribute [local go_sem] Oper.semAt_some
theorem C_blk {α : Type} (d : Kd α) {w : World} {b : Nat} {xs : List α} {cs : List Value} {t : TypeId} (hb : w.heap[b]? = some (.cells cs.toArray t (0, 0))) (hm : xs.length ≤ 1000) (hr : Reps (d.K w) d.sz xs cs) : d.C w (some ⟨b, 0, none⟩) xs.length xs := by
 refine ⟨rfl, by omega, fun _ => ⟨_, rfl, fun j q hj => ?_⟩⟩
 have hjl : j < xs.length := (List.getElem?_eq_some_iff.1 hj).1
 have hle : j * d.sz + d.sz ≤ cs.length := by
  rw [hr.1, ← Nat.succ_mul]
  exact Nat.mul_le_mul_right _ hjl
 refine ⟨(cs.drop (j * d.sz)).take d.sz, by rw [List.length_take, List.length_drop]; omega, hr.2 j q hj, fun i u hu => ?_⟩
 have hi : i < d.sz := by
  have := (List.getElem?_eq_some_iff.1 hu).1
  rw [List.length_take] at this
  omega
 have e : ((⟨b, 0, none⟩ : Addr).add (j * d.sz + i)) = ⟨b, j * d.sz + i, none⟩ := by
  cases h : j * d.sz + i <;> simp [Addr.add]
 rw [e, blk_cell hb (j * d.sz + i), List.getElem?_toArray]
 rw [List.getElem?_take_of_lt hi, List.getElem?_drop] at hu
 exact hu
theorem Ft_blk {α : Type} (d : Kd α) {w : World} {b m : Nat} {xs : List α} (cs : List Value) {t : TypeId} (hb : w.heap[b]? = some (.cells cs.toArray t (0, 0))) (hmb : m ≤ b) (hm : xs.length ≤ 1000) (hr : ∀ W, KeepUp m w W → Reps (d.K W) d.sz xs cs) : Ft d (some ⟨b, 0, none⟩) xs m w :=
 fun W hW => C_blk d (hW.blk hb hmb) hm (hr W hW)
def allocs (w : World) : List Obj → World
 | [] => w
 | o :: os => allocs (w.alloc o) os
theorem allocs_below : ∀ (os : List Obj) (w : World) (n : Nat) (w0 : World), n ≤ w.heap.size → Below n w0 w → Below n w0 (allocs w os)
 | [], w, n, w0, _, h => h
 | o :: os, w, n, w0, hn, h => allocs_below os _ n w0 (by rw [World.size_alloc]; omega) (h.alloc hn o)
theorem allocs_at : ∀ (os : List Obj) (w : World) (j : Nat) (o : Obj), os[j]? = some o → (allocs w os).heap[w.heap.size + j]? = some o
 | [], w, j, o, h => by simp at h
 | a :: os, w, 0, o, h => by
  rw [List.getElem?_cons_zero] at h
  injection h with h
  subst h
  have h1 := allocs_below os (w.alloc a) (w.alloc a).heap.size (w.alloc a) (Nat.le_refl _) (Below.refl _ _)
  exact (h1.block _ (blk_lt (blk_new w a))).trans (blk_new w a)
 | a :: os, w, j + 1, o, h => by
  have h1 := allocs_at os (w.alloc a) j o (by simpa using h)
  rw [World.size_alloc, Nat.add_assoc, Nat.add_comm 1 j] at h1
  exact h1
def lwO (n : Nat) : List Obj := [.cells #[.slice none 0 0, .slice none 0 0, .slice none 0 0, .slice none 0 0, .slice none 0 0] 28, .cells #[.string ⟨#[68, 73, 83]⟩, .int .i64 0, .string ⟨#[77, 65, 78, 73, 66, 86, 83]⟩, .int .i64 1, .string ⟨#[68, 69, 73, 83]⟩, .int .i64 0, .string ⟨#[77, 65, 78, 73, 83]⟩, .int .i64 1] 53, .cells #[.bool true, .bool false] 4, .cells #[.bool false, .bool true] 4, .cells #[.bool false, .bool true] 4, .cells #[.bool false, .bool false] 4, .cells #[.slice (some ⟨n + 4, 0, none⟩) 2 2, .slice (some ⟨n + 5, 0, none⟩) 2 2] 24, .cells #[.slice (some ⟨n + 1, 0, none⟩) 4 4, .slice (some ⟨n + 2, 0, none⟩) 2 2, .slice (some ⟨n + 3, 0, none⟩) 2 2, .slice (some ⟨n + 6, 0, none⟩) 2 2, .slice none 0 0] 28]
structure LwI (w : World) (n i : Nat) (v : Value) (wr : World) : Prop where
 b : Below n w wr
 k : ∀ j o, j < 7 → (lwO n)[j]? = some o → wr.heap[n + j]? = some o
 x : wr.heap[n + 7]? = some (.cells #[.slice (some ⟨n + 1, 0, none⟩) 4 4, .slice (some ⟨n + 2, 0, none⟩) 2 2, .slice (some ⟨n + 3, 0, none⟩) 2 2, .slice (some ⟨n + 6, 0, none⟩) 2 2, v] 28 (0, 0))
 r : Kd.R k47 47 wr (n + 8) (fun _ => True) v (aw4.take i)
theorem LwI.next {w wr wy : World} {n i : Nat} {v : Value} (h : LwI w n i v wr) (hb : Below wr.heap.size wr wy) : LwI w n i v wy :=
 ⟨h.b.trans (hb.mono (by have := blk_lt h.x; omega)), fun j o hj ho => blk_below (h.k j o hj ho) hb, blk_below h.x hb, Kd.R_below h.r hb⟩
theorem LwI.app {w wr wy : World} {n i : Nat} {v v' : Value} {l : List S47} (h : LwI w n i v wr) (hg : wr.grownBy wy v.ownBlock) (hr : Kd.R k47 47 wy (n + 8) (fun _ => True) v' l) (hl : l = aw4.take (i + 1)) : LwI w n (i + 1) v' (wy.setCell ⟨n + 7, 4, none⟩ v') := by
 have hlt : ∀ k, v.ownBlock = some k → n + 8 ≤ k := fun k hk => Kd.R_base h.r k hk
 have hkeep : ∀ k o, wr.heap[k]? = some o → k < n + 8 → wy.heap[k]? = some o := fun k o ho hk => (hg.block k (blk_lt ho) (fun e => by have := hlt k e.symm; omega)).trans ho
 subst hl
 refine ⟨?_, fun j o hj ho => ?_, ?_, ?_⟩
 ·exact (h.b.grown hg (by have := blk_lt h.x; omega) (fun k hk => by have := hlt k hk; omega)).setCell (Nat.le_add_right _ _) _
 ·have h1 := hkeep _ _ (h.k j o hj ho) (by omega)
  exact (Below.heap_setCell wy ⟨n + 7, 4, none⟩ v' (n + j) (by show n + j ≠ n + 7; omega)).trans h1
 ·exact blk_put (hkeep _ _ h.x (by omega)) 4 _ rfl
 ·exact Kd.R_mono (Kd.R_far (Kd.R_bound hr) (fun k hk => by have := hk.2.1; show k ≠ n + 7; omega) v') (fun _ _ => trivial)
def putS (W : World) (b : Nat) (u0 u1 : Value) : World := (W.setCell ⟨b, 0, none⟩ u0).setCell ⟨b, 1, none⟩ u1
theorem putS_blk {W : World} {b t : Nat} {v0 v1 : Value} (h : W.heap[b]? = some (.cells #[v0, v1] t (0, 0))) (u0 u1 : Value) : (putS W b u0 u1).heap[b]? = some (.cells #[u0, u1] t (0, 0)) := blk_put (blk_put h 0 u0 rfl) 1 u1 rfl
theorem LwI.put {w wr : World} {n i b : Nat} {v : Value} (h : LwI w n i v wr) (hb : n + 8 ≤ b) (hr : Kd.R k47 47 wr (n + 8) (fun k => k ≠ b) v (aw4.take i)) (u0 u1 : Value) : LwI w n i v (putS wr b u0 u1) := by
 have hs : ∀ k, k ≠ b → (putS wr b u0 u1).heap[k]? = wr.heap[k]? := fun k hk => (Below.heap_setCell _ ⟨b, 1, none⟩ u1 k hk).trans (Below.heap_setCell wr ⟨b, 0, none⟩ u0 k hk)
 exact ⟨(h.b.setCell (by show n ≤ b; omega) u0).setCell (by show n ≤ b; omega) u1, fun j o hj ho => (hs _ (by omega)).trans (h.k j o hj ho), (hs _ (by omega)).trans h.x, Kd.R_mono (Kd.R_far (Kd.R_far hr (p := ⟨b, 0, none⟩) (fun k hk => hk) u0) (p := ⟨b, 1, none⟩) (fun k hk => hk) u1) (fun _ _ => trivial)⟩
theorem aw4_step {i : Nat} (h : i < 26) : aw4.take (i + 1) = aw4.take i ++ [if i = 8 then ⟨1, 2⟩ else if i = 12 then ⟨4, 4⟩ else ⟨2, 3⟩] := by
 rw [List.take_add_one]
 congr 1
 unfold aw4
 rw [List.getElem?_map, List.getElem?_range h]
 rfl
theorem span26 (a b : Int) (w : World) : Calls Try.prog 26 #[.int .i64 a, .int .i64 b] w fun e w' => e = .returned (.agg #[.int .i64 a, .int .i64 b]) ∧ Below w.heap.size w w' := cippuslaw02_span.calls a b a b w rfl
set_option maxHeartbeats 4000000 in
set_option maxRecDepth 100000 in
theorem lexicon_calls (r : List S49) (w : World) (m : Nat) (hm : m ≤ w.heap.size) : Calls Try.prog 42 #[] w fun e w' => ∃ (A0 A1 A2 A3 A4 : Option Addr) (c0 c1 c2 c3 c4 : Nat), e = .returned (.agg #[.slice A0 aw0.length c0, .slice A1 aw1.length c1, .slice A2 aw2.length c2, .slice A3 aw3.length c3, .slice A4 aw4.length c4]) ∧ LxF ⟨aw0, aw1, aw2, aw3, aw4, r⟩ A0 A1 A2 A3 A4 c0 c1 c2 c3 c4 m w' ∧ Below w.heap.size w w' := by
 obtain ⟨n, hn⟩ : ∃ n, n = w.heap.size := ⟨_, rfl⟩
 have HN := Aside0.mk hn
 have HM := Aside0.mk hm
 clear hm
 go_enter Try.func42, Try.ntmps42
 go_upto_region 2 with fail
 refine wp_gen (fun wx => Aside0 (Below w.heap.size w wx ∧ ∀ j o, (lwO n)[j]? = some o → wx.heap[n + j]? = some o)) ⟨?_⟩ ?_
 ·have hw := allocs_below (lwO n) w w.heap.size w (Nat.le_refl _) (Below.refl _ _)
  have ha := allocs_at (lwO n) w
  rw [← hn] at ha
  have e : ∀ W, W = allocs w (lwO n) → Below w.heap.size w W ∧ ∀ j o, (lwO n)[j]? = some o → W.heap[n + j]? = some o := by
   rintro W rfl
   exact ⟨hw, ha⟩
  refine e _ ?_
  unfold lwO
  simp only [allocs, World.size_alloc, hn]
 rw [← hn]
 rintro w1 HS
 rw [show n + 1 + 1 + 1 + 1 + 1 + 1 + 1 = n + 7 by omega]
 have HI := Aside0.mk (show LwI w n 0 (.slice none 0 0) w1 from ⟨HS.out.1, fun j o _ ho => HS.out.2 j o ho, HS.out.2 7 _ rfl, Kd.R_nil _ _ _ _ _⟩)
 clear HS hn
 go_wp2_with fail
 go_loopg [2] 26 (fun gh s2 wr => ∃ (i : Nat) (v : Value), i + gh = 26 ∧ s2 = .int .i32 (65 + (i : Int)) ∧ Aside0 (LwI w n i v wr))
 case atStart => exact ⟨0, _, rfl, rfl, HI⟩
 case round =>
  clear HI
  obtain ⟨i, v, hi, rfl, HI⟩ := hrel
  have HIN := Aside0.mk hi
  by_cases hlt : i < 26
  ·by_cases h8 : i = 8
   ·have HAS := Aside0.mk (show aw4.take (i + 1) = aw4.take i ++ [⟨1, 2⟩] by rw [aw4_step hlt]; rw [if_pos h8])
    have hcz : 65 + (i : Int) ≤ 90 := by omega
    have hcd : decide (65 + (i : Int) ≤ 90) = true := decide_eq_true hcz
    have HLT := Aside0.mk hlt
    have HF4 := Aside0.mk (show ((aw4.take i).length + 1) * 16 ≤ 140737488355328 by rw [List.length_take]; omega)
    have hv : (i : Int) = 8 := by omega
    have he1 : (65 + (i : Int) = 73) := by omega
    have he1d : decide (65 + (i : Int) = 73) = true := decide_eq_true he1
    have he1b : ((65 + (i : Int)) == 73) = true := by simpa using he1
    clear h8 hlt hi hv
    go_upto_region 6 with first | (go_at_call 26; refine (span26 2 3 _).mono ?_; rintro e w2 ⟨rfl, hb⟩; have HI2 := Aside0.mk (HI.out.next hb); clear hb) | fail
    obtain ⟨b3, hb3⟩ : ∃ b, b = w2.heap.size := ⟨_, rfl⟩
    refine wp_gen (fun wx => Aside0 (LwI w n i v wx ∧ wx.heap[b3]? = some (.cells #[.int .i64 2, .int .i64 3] 47 (0, 0)) ∧ n + 8 ≤ b3 ∧ Kd.R k47 47 wx (n + 8) (fun k => k ≠ b3) v (aw4.take i))) ⟨⟨HI2.out.next ((Below.refl _ _).alloc (Nat.le_refl _) _), by rw [hb3]; exact blk_new w2 _, by have := blk_lt HI2.out.x; omega, Kd.R_alloc (Kd.R_mono (Kd.R_bound HI2.out.r) (fun k hk => by have := hk.2.2.1; omega)) _⟩⟩ ?_
    rw [← hb3]
    clear hb3 HI2 HI
    rintro wa HIA
    have y0 := (blk_cell HIA.out.2.1 0).trans (show (#[Value.int .i64 2, .int .i64 3] : Array Value)[0]? = some _ from rfl)
    have y1 := (blk_cell HIA.out.2.1 1).trans (show (#[Value.int .i64 2, .int .i64 3] : Array Value)[1]? = some _ from rfl)
    have yl := blk_lt HIA.out.2.1
    go_upto_region 11 with first | (go_at_call 26; refine (span26 1 2 _).mono ?_; rintro e w3 ⟨rfl, hb⟩; have HI3 := Aside0.mk (show LwI w n i v w3 ∧ w3.heap[b3]? = some (.cells #[.int .i64 2, .int .i64 3] 47 (0, 0)) ∧ Kd.R k47 47 w3 (n + 8) (fun k => k ≠ b3) v (aw4.take i) from ⟨HIA.out.1.next hb, blk_below HIA.out.2.1 hb, Kd.R_below HIA.out.2.2.2 hb⟩); have z0 := (hb.cell (p := ⟨b3, 0, none⟩) yl).trans y0; have z1 := (hb.cell (p := ⟨b3, 1, none⟩) yl).trans y1; have g0 := blk_frozen HI3.out.2.1 0; have g1 := blk_frozen HI3.out.2.1 1; clear hb) | fail
    refine wp_gen (fun wx => Aside0 (LwI w n i v wx ∧ wx.heap[b3]? = some (.cells #[.int .i64 1, .int .i64 2] 47 (0, 0)) ∧ n + 8 ≤ b3)) ⟨⟨HI3.out.1.put HIA.out.2.2.1 HI3.out.2.2 _ _, putS_blk HI3.out.2.1 _ _, HIA.out.2.2.1⟩⟩ ?_
    clear HI3 HIA y0 y1 yl z0 z1 g0 g1
    rintro wb HIB
    have x4 := (blk_cell HIB.out.1.x 4).trans (show _ = some v from rfl)
    have xl := blk_lt HIB.out.1.x
    have y0 := (blk_cell HIB.out.2.1 0).trans (show (#[Value.int .i64 1, .int .i64 2] : Array Value)[0]? = some _ from rfl)
    have y1 := (blk_cell HIB.out.2.1 1).trans (show (#[Value.int .i64 1, .int .i64 2] : Array Value)[1]? = some _ from rfl)
    have yl := blk_lt HIB.out.2.1
    go_wp2_with first
     | (at_builtin; refine Kd.R_append k47 (w0 := wb) (n + 8) rfl (.tmp 28) (.tmp 30) 26 47 (.agg #[.int .i64 0, .int .i64 0]) 16 rfl Try.underlying26 infoL47 rfl (by decide) (by omega) v (aw4.take i) ⟨1, 2⟩ [.int .i64 1, .int .i64 2] (fun _ => True) (fun _ => False) rfl rfl ?aP (fun _ hk => hk.elim) ?aF ?aO ?aB ?aS ?aL ?_; (case aP => exact k47_mkM _ _ _ _); (case aF => exact (fun _ _ => trivial)); (case aO => exact HIB.out.1.r); (case aB => exact Below.refl _ _); (case aS => exact blk_lt HIB.out.1.x); (case aL => exact HF4.out); intro v6 w6 ho hb hg hat; have HO6 := Aside0.mk ho; have HG6 := Aside0.mk hg; obtain ⟨A6, n6, c6, rfl⟩ := R_sl ho; have qx := (hg.block (n + 7) (blk_lt HIB.out.1.x) (fun e => by have := Kd.R_base HIB.out.1.r _ e.symm; omega)).trans HIB.out.1.x; have q4 := (blk_cell qx 4).trans (show _ = some v from rfl); have ql := blk_lt qx; have qf := blk_frozen qx 4; clear ho hb hg hat)
     | fail
    go_roundg (gk - 1)
    case measure => have := HIN.out; have := HLT.out; omega
    case rel => exact ⟨i + 1, _, by have := HIN.out; have := HLT.out; omega, by go_num, ⟨HIB.out.1.app HG6.out HO6.out HAS.out.symm⟩⟩
   by_cases h12 : i = 12
   ·have HAS := Aside0.mk (show aw4.take (i + 1) = aw4.take i ++ [⟨4, 4⟩] by rw [aw4_step hlt]; rw [if_neg h8, if_pos h12])
    have hcz : 65 + (i : Int) ≤ 90 := by omega
    have hcd : decide (65 + (i : Int) ≤ 90) = true := decide_eq_true hcz
    have HLT := Aside0.mk hlt
    have HF4 := Aside0.mk (show ((aw4.take i).length + 1) * 16 ≤ 140737488355328 by rw [List.length_take]; omega)
    have hne1 : ¬ (65 + (i : Int) = 73) := by omega
    have hne1d : decide (65 + (i : Int) = 73) = false := decide_eq_false hne1
    have hne1b : ((65 + (i : Int)) == 73) = false := by simpa using hne1
    have hne2 : (65 + (i : Int) = 77) := by omega
    have hne2d : decide (65 + (i : Int) = 77) = true := decide_eq_true hne2
    have hne2b : ((65 + (i : Int)) == 77) = true := by simpa using hne2
    clear h8 h12 hlt hi
    go_upto_region 6 with first | (go_at_call 26; refine (span26 2 3 _).mono ?_; rintro e w2 ⟨rfl, hb⟩; have HI2 := Aside0.mk (HI.out.next hb); clear hb) | fail
    obtain ⟨b3, hb3⟩ : ∃ b, b = w2.heap.size := ⟨_, rfl⟩
    refine wp_gen (fun wx => Aside0 (LwI w n i v wx ∧ wx.heap[b3]? = some (.cells #[.int .i64 2, .int .i64 3] 47 (0, 0)) ∧ n + 8 ≤ b3 ∧ Kd.R k47 47 wx (n + 8) (fun k => k ≠ b3) v (aw4.take i))) ⟨⟨HI2.out.next ((Below.refl _ _).alloc (Nat.le_refl _) _), by rw [hb3]; exact blk_new w2 _, by have := blk_lt HI2.out.x; omega, Kd.R_alloc (Kd.R_mono (Kd.R_bound HI2.out.r) (fun k hk => by have := hk.2.2.1; omega)) _⟩⟩ ?_
    rw [← hb3]
    clear hb3 HI2 HI
    rintro wa HIA
    have y0 := (blk_cell HIA.out.2.1 0).trans (show (#[Value.int .i64 2, .int .i64 3] : Array Value)[0]? = some _ from rfl)
    have y1 := (blk_cell HIA.out.2.1 1).trans (show (#[Value.int .i64 2, .int .i64 3] : Array Value)[1]? = some _ from rfl)
    have yl := blk_lt HIA.out.2.1
    go_upto_region 11 with first | (go_at_call 26; refine (span26 4 4 _).mono ?_; rintro e w3 ⟨rfl, hb⟩; have HI3 := Aside0.mk (show LwI w n i v w3 ∧ w3.heap[b3]? = some (.cells #[.int .i64 2, .int .i64 3] 47 (0, 0)) ∧ Kd.R k47 47 w3 (n + 8) (fun k => k ≠ b3) v (aw4.take i) from ⟨HIA.out.1.next hb, blk_below HIA.out.2.1 hb, Kd.R_below HIA.out.2.2.2 hb⟩); have z0 := (hb.cell (p := ⟨b3, 0, none⟩) yl).trans y0; have z1 := (hb.cell (p := ⟨b3, 1, none⟩) yl).trans y1; have g0 := blk_frozen HI3.out.2.1 0; have g1 := blk_frozen HI3.out.2.1 1; clear hb) | fail
    refine wp_gen (fun wx => Aside0 (LwI w n i v wx ∧ wx.heap[b3]? = some (.cells #[.int .i64 4, .int .i64 4] 47 (0, 0)) ∧ n + 8 ≤ b3)) ⟨⟨HI3.out.1.put HIA.out.2.2.1 HI3.out.2.2 _ _, putS_blk HI3.out.2.1 _ _, HIA.out.2.2.1⟩⟩ ?_
    clear HI3 HIA y0 y1 yl z0 z1 g0 g1
    rintro wb HIB
    have x4 := (blk_cell HIB.out.1.x 4).trans (show _ = some v from rfl)
    have xl := blk_lt HIB.out.1.x
    have y0 := (blk_cell HIB.out.2.1 0).trans (show (#[Value.int .i64 4, .int .i64 4] : Array Value)[0]? = some _ from rfl)
    have y1 := (blk_cell HIB.out.2.1 1).trans (show (#[Value.int .i64 4, .int .i64 4] : Array Value)[1]? = some _ from rfl)
    have yl := blk_lt HIB.out.2.1
    go_wp2_with first
     | (at_builtin; refine Kd.R_append k47 (w0 := wb) (n + 8) rfl (.tmp 28) (.tmp 30) 26 47 (.agg #[.int .i64 0, .int .i64 0]) 16 rfl Try.underlying26 infoL47 rfl (by decide) (by omega) v (aw4.take i) ⟨4, 4⟩ [.int .i64 4, .int .i64 4] (fun _ => True) (fun _ => False) rfl rfl ?aP (fun _ hk => hk.elim) ?aF ?aO ?aB ?aS ?aL ?_; (case aP => exact k47_mkM _ _ _ _); (case aF => exact (fun _ _ => trivial)); (case aO => exact HIB.out.1.r); (case aB => exact Below.refl _ _); (case aS => exact blk_lt HIB.out.1.x); (case aL => exact HF4.out); intro v6 w6 ho hb hg hat; have HO6 := Aside0.mk ho; have HG6 := Aside0.mk hg; obtain ⟨A6, n6, c6, rfl⟩ := R_sl ho; have qx := (hg.block (n + 7) (blk_lt HIB.out.1.x) (fun e => by have := Kd.R_base HIB.out.1.r _ e.symm; omega)).trans HIB.out.1.x; have q4 := (blk_cell qx 4).trans (show _ = some v from rfl); have ql := blk_lt qx; have qf := blk_frozen qx 4; clear ho hb hg hat)
     | fail
    go_roundg (gk - 1)
    case measure => have := HIN.out; have := HLT.out; omega
    case rel => exact ⟨i + 1, _, by have := HIN.out; have := HLT.out; omega, by go_num, ⟨HIB.out.1.app HG6.out HO6.out HAS.out.symm⟩⟩
   have HAS := Aside0.mk (show aw4.take (i + 1) = aw4.take i ++ [⟨2, 3⟩] by rw [aw4_step hlt]; rw [if_neg h8, if_neg h12])
   have hcz : 65 + (i : Int) ≤ 90 := by omega
   have hcd : decide (65 + (i : Int) ≤ 90) = true := decide_eq_true hcz
   have HLT := Aside0.mk hlt
   have HF4 := Aside0.mk (show ((aw4.take i).length + 1) * 16 ≤ 140737488355328 by rw [List.length_take]; omega)
   have hne1 : ¬ (65 + (i : Int) = 73) := by omega
   have hne1d : decide (65 + (i : Int) = 73) = false := decide_eq_false hne1
   have hne1b : ((65 + (i : Int)) == 73) = false := by simpa using hne1
   have hne2 : ¬ (65 + (i : Int) = 77) := by omega
   have hne2d : decide (65 + (i : Int) = 77) = false := decide_eq_false hne2
   have hne2b : ((65 + (i : Int)) == 77) = false := by simpa using hne2
   clear h8 h12 hlt hi
   go_upto_region 6 with first | (go_at_call 26; refine (span26 2 3 _).mono ?_; rintro e w2 ⟨rfl, hb⟩; have HI2 := Aside0.mk (HI.out.next hb); clear hb) | fail
   obtain ⟨b3, hb3⟩ : ∃ b, b = w2.heap.size := ⟨_, rfl⟩
   refine wp_gen (fun wx => Aside0 (LwI w n i v wx ∧ wx.heap[b3]? = some (.cells #[.int .i64 2, .int .i64 3] 47 (0, 0)) ∧ n + 8 ≤ b3)) ⟨⟨HI2.out.next ((Below.refl _ _).alloc (Nat.le_refl _) _), by rw [hb3]; exact blk_new w2 _, by have := blk_lt HI2.out.x; omega⟩⟩ ?_
   rw [← hb3]
   clear hb3 HI2 HI
   rintro wb HIB
   have x4 := (blk_cell HIB.out.1.x 4).trans (show _ = some v from rfl)
   have xl := blk_lt HIB.out.1.x
   have y0 := (blk_cell HIB.out.2.1 0).trans (show (#[Value.int .i64 2, .int .i64 3] : Array Value)[0]? = some _ from rfl)
   have y1 := (blk_cell HIB.out.2.1 1).trans (show (#[Value.int .i64 2, .int .i64 3] : Array Value)[1]? = some _ from rfl)
   have yl := blk_lt HIB.out.2.1
   go_wp2_with first
    | (at_builtin; refine Kd.R_append k47 (w0 := wb) (n + 8) rfl (.tmp 28) (.tmp 30) 26 47 (.agg #[.int .i64 0, .int .i64 0]) 16 rfl Try.underlying26 infoL47 rfl (by decide) (by omega) v (aw4.take i) ⟨2, 3⟩ [.int .i64 2, .int .i64 3] (fun _ => True) (fun _ => False) rfl rfl ?aP (fun _ hk => hk.elim) ?aF ?aO ?aB ?aS ?aL ?_; (case aP => exact k47_mkM _ _ _ _); (case aF => exact (fun _ _ => trivial)); (case aO => exact HIB.out.1.r); (case aB => exact Below.refl _ _); (case aS => exact blk_lt HIB.out.1.x); (case aL => exact HF4.out); intro v6 w6 ho hb hg hat; have HO6 := Aside0.mk ho; have HG6 := Aside0.mk hg; obtain ⟨A6, n6, c6, rfl⟩ := R_sl ho; have qx := (hg.block (n + 7) (blk_lt HIB.out.1.x) (fun e => by have := Kd.R_base HIB.out.1.r _ e.symm; omega)).trans HIB.out.1.x; have q4 := (blk_cell qx 4).trans (show _ = some v from rfl); have ql := blk_lt qx; have qf := blk_frozen qx 4; clear ho hb hg hat)
    | fail
   go_roundg (gk - 1)
   case measure => have := HIN.out; have := HLT.out; omega
   case rel => exact ⟨i + 1, _, by have := HIN.out; have := HLT.out; omega, by go_num, ⟨HIB.out.1.app HG6.out HO6.out HAS.out.symm⟩⟩
  ·have hcz : ¬ 65 + (i : Int) ≤ 90 := by omega
   have hcd : decide (65 + (i : Int) ≤ 90) = false := decide_eq_false hcz
   have HE := Aside0.mk (show LwI w n 26 v wr by have h := HI.out; rwa [show i = 26 by omega] at h)
   clear hlt hi HI
   obtain ⟨A4, c4, hv⟩ := Kd.R_slice HE.out.r
   rw [show (aw4.take 26).length = 26 from rfl] at hv
   subst hv
   have x0 := (blk_cell HE.out.x 0).trans (show _ = some (.slice (some ⟨n + 1, 0, none⟩) 4 4) from rfl)
   have x1 := (blk_cell HE.out.x 1).trans (show _ = some (.slice (some ⟨n + 2, 0, none⟩) 2 2) from rfl)
   have x2 := (blk_cell HE.out.x 2).trans (show _ = some (.slice (some ⟨n + 3, 0, none⟩) 2 2) from rfl)
   have x3 := (blk_cell HE.out.x 3).trans (show _ = some (.slice (some ⟨n + 6, 0, none⟩) 2 2) from rfl)
   have x4 := (blk_cell HE.out.x 4).trans (show _ = some (.slice A4 26 c4) from rfl)
   have xl := blk_lt HE.out.x
   have y := HE.out.k 0 _ (by omega) rfl
   rw [Nat.add_zero] at y
   have y0 := (blk_cell y 0).trans (show _ = some (.slice none 0 0) from rfl)
   have y1 := (blk_cell y 1).trans (show _ = some (.slice none 0 0) from rfl)
   have y2 := (blk_cell y 2).trans (show _ = some (.slice none 0 0) from rfl)
   have y3 := (blk_cell y 3).trans (show _ = some (.slice none 0 0) from rfl)
   have y4 := (blk_cell y 4).trans (show _ = some (.slice none 0 0) from rfl)
   have g0 := blk_frozen y 0
   have g1 := blk_frozen y 1
   have g2 := blk_frozen y 2
   have g3 := blk_frozen y 3
   have g4 := blk_frozen y 4
   have hne : n ≠ n + 7 := by omega
   have yl := blk_lt y
   have HY := Aside0.mk y
   clear y
   go_wp2_with fail
   obtain ⟨wz, hwz⟩ : ∃ W, W = put5 wr n (.slice (some ⟨n + 1, 0, none⟩) 4 4) (.slice (some ⟨n + 2, 0, none⟩) 2 2) (.slice (some ⟨n + 3, 0, none⟩) 2 2) (.slice (some ⟨n + 6, 0, none⟩) 2 2) (.slice A4 26 c4) := ⟨_, rfl⟩
   have hk : ∀ j o, 0 < j → j < 7 → (lwO n)[j]? = some o → wz.heap[n + j]? = some o := fun j o h0 hj ho => by
    rw [hwz]
    obtain ⟨cs, t, rfl⟩ : ∃ cs t, o = .cells cs t (0, 0) := by
     unfold lwO at ho
     match j, hj, ho with
     | 0, _, ho => exact ⟨_, _, (Option.some.inj ho).symm⟩
     | 1, _, ho => exact ⟨_, _, (Option.some.inj ho).symm⟩
     | 2, _, ho => exact ⟨_, _, (Option.some.inj ho).symm⟩
     | 3, _, ho => exact ⟨_, _, (Option.some.inj ho).symm⟩
     | 4, _, ho => exact ⟨_, _, (Option.some.inj ho).symm⟩
     | 5, _, ho => exact ⟨_, _, (Option.some.inj ho).symm⟩
     | 6, _, ho => exact ⟨_, _, (Option.some.inj ho).symm⟩
    exact put5_far (HE.out.k j _ hj ho) (by omega) _ _ _ _ _
   have h1 := hk 1 _ (by omega) (by omega) rfl
   have h2 := hk 2 _ (by omega) (by omega) rfl
   have h3 := hk 3 _ (by omega) (by omega) rfl
   have h4 := hk 4 _ (by omega) (by omega) rfl
   have h5 := hk 5 _ (by omega) (by omega) rfl
   have h6 := hk 6 _ (by omega) (by omega) rfl
   have hmn : m ≤ n := by rw [HN.out]; exact HM.out
   have hr : Kd.R k47 47 wz (n + 8) (fun _ => True) (.slice A4 26 c4) aw4 := by
    rw [hwz]
    have h := Kd.R_bound HE.out.r
    rw [show aw4.take 26 = aw4 from rfl] at h
    have hne : ∀ k, (True ∧ n + 8 ≤ k ∧ k < wr.heap.size ∧ ∃ q, q ∈ 47 :: k47.E ∧ ∃ cells, wr.heap[k]? = some (.cells cells q (0, 0))) → k ≠ n := fun k hk => by omega
    exact Kd.R_mono (Kd.R_far (Kd.R_far (Kd.R_far (Kd.R_far (Kd.R_far h (p := ⟨n, 0, none⟩) hne _) (p := ⟨n, 1, none⟩) hne _) (p := ⟨n, 2, none⟩) hne _) (p := ⟨n, 3, none⟩) hne _) (p := ⟨n, 4, none⟩) hne _) (fun _ _ => trivial)
   have hbw : Below n w wz := by
    rw [hwz]
    exact ((((HE.out.b.setCell (Nat.le_refl n) _).setCell (Nat.le_refl n) _).setCell (Nat.le_refl n) _).setCell (Nat.le_refl n) _).setCell (Nat.le_refl n) _
   have hp := put5_blk HY.out (.slice (some ⟨n + 1, 0, none⟩) 4 4) (.slice (some ⟨n + 2, 0, none⟩) 2 2) (.slice (some ⟨n + 3, 0, none⟩) 2 2) (.slice (some ⟨n + 6, 0, none⟩) 2 2) (.slice A4 26 c4)
   rw [← hwz] at hp
   refine bodyPost_ret (results_cell_row rfl _ _ n 28 _ (0, 0) _ rfl (show (put5 wr n (.slice (some ⟨n + 1, 0, none⟩) 4 4) (.slice (some ⟨n + 2, 0, none⟩) 2 2) (.slice (some ⟨n + 3, 0, none⟩) 2 2) (.slice (some ⟨n + 6, 0, none⟩) 2 2) (.slice A4 26 c4)).heap[n]? = _ from by rw [← hwz]; exact hp) Try.underlying28 rfl (by kernel_rfl)) rfl ?_
   refine ⟨_, _, _, _, _, _, _, _, _, _, rfl, ?_⟩
   show LxF ⟨aw0, aw1, aw2, aw3, aw4, r⟩ _ _ _ _ _ _ _ _ _ _ m (put5 wr n (.slice (some ⟨n + 1, 0, none⟩) 4 4) (.slice (some ⟨n + 2, 0, none⟩) 2 2) (.slice (some ⟨n + 3, 0, none⟩) 2 2) (.slice (some ⟨n + 6, 0, none⟩) 2 2) (.slice A4 26 c4)) ∧ Below w.heap.size w (put5 wr n (.slice (some ⟨n + 1, 0, none⟩) 4 4) (.slice (some ⟨n + 2, 0, none⟩) 2 2) (.slice (some ⟨n + 3, 0, none⟩) 2 2) (.slice (some ⟨n + 6, 0, none⟩) 2 2) (.slice A4 26 c4))
   rw [← hwz, ← HN.out]
   have hB : ∀ W : World, ∀ a b : Bool, Reps (Kd.bool.K W) 1 [a, b] [.bool a, .bool b] := fun W a b => Reps.one rfl (Reps.one rfl (Reps.none _ _))
   refine ⟨⟨Ft_blk k53 _ h1 (by omega) (show aw0.length ≤ 1000 by decide) (fun W _ => Reps.c2 (k53_mk W _) (Reps.c2 (k53_mk W _) (Reps.c2 (k53_mk W _) (Reps.c2 (k53_mk W _) (Reps.none _ _))))), Ft_blk Kd.bool _ h2 (by omega) (show aw1.length ≤ 1000 by decide) (fun W _ => hB W _ _), Ft_blk Kd.bool _ h3 (by omega) (show aw2.length ≤ 1000 by decide) (fun W _ => hB W _ _), Ft_blk (Kd.slice 4 Kd.bool) _ h6 (by omega) (show aw3.length ≤ 1000 by decide) (fun W hW => Reps.one ⟨_, _, rfl, by decide, C_blk Kd.bool (hW.blk h4 (by omega)) (by decide) (hB W _ _)⟩ (Reps.one ⟨_, _, rfl, by decide, C_blk Kd.bool (hW.blk h5 (by omega)) (by decide) (hB W _ _)⟩ (Reps.none _ _))), Ft.ofR hr (by omega), show aw0.length ≤ 4 by decide, show aw1.length ≤ 2 by decide, show aw2.length ≤ 2 by decide, show aw3.length ≤ 2 by decide, (Kd.R_reads' hr).2.1⟩, hbw⟩
end Go.Proofs.Ytkfebceainedfaa.P.OwnGap
namespace Go.Proofs.Ytkfebceainedfaa.P.OwnGap
open Go.RowKit Go.Shelf Go.Proofs.YtkfebceainedfaaW.PrintWords Go.Proofs.YtkfebceainedfaaW.PrintLast Go.Proofs.YtkfebceainedfaaW.PrintMore
open Go.Proofs.Ytkfebceainedfaa.OwnGap
set_option linter.unusedVariables false
set_option linter.unusedSimpArgs false
attribute [local go_sem] Oper.semAt_some
theorem C_litG {α : Type} (d : Kd α) (w : World) {xs : List α} {cs : List Value} (t : TypeId) (hm : xs.length ≤ 1000) (hr : Reps (d.K (w.alloc (.cells cs.toArray t))) d.sz xs cs) : d.C (w.alloc (.cells cs.toArray t)) (some ⟨w.heap.size, 0, none⟩) xs.length xs := by
 refine ⟨rfl, by omega, fun _ => ⟨_, rfl, fun j q hj => ?_⟩⟩
 have hjl : j < xs.length := (List.getElem?_eq_some_iff.1 hj).1
 have hle : j * d.sz + d.sz ≤ cs.length := by
  rw [hr.1, ← Nat.succ_mul]
  exact Nat.mul_le_mul_right _ hjl
 refine ⟨(cs.drop (j * d.sz)).take d.sz, by rw [List.length_take, List.length_drop]; omega, hr.2 j q hj, fun i u hu => ?_⟩
 have hi : i < d.sz := by
  have := (List.getElem?_eq_some_iff.1 hu).1
  rw [List.length_take] at this
  omega
 have e : ((⟨w.heap.size, 0, none⟩ : Addr).add (j * d.sz + i)) = ⟨w.heap.size, j * d.sz + i, none⟩ := by
  cases h : j * d.sz + i <;> simp [Addr.add]
 rw [e, blk_cell (blk_new w _) (j * d.sz + i), List.getElem?_toArray]
 rw [List.getElem?_take_of_lt hi, List.getElem?_drop] at hu
 exact hu
theorem lex42 (r : List S49) (w : World) (m : Nat) (hm : m ≤ w.heap.size) : Calls Try.prog 42 #[] w fun e w' => ∃ (A0 A1 A2 A3 A4 : Option Addr) (c0 c1 c2 c3 c4 : Nat), e = .returned (.agg #[.slice A0 (awX r).l0.length c0, .slice A1 (awX r).l1.length c1, .slice A2 (awX r).l2.length c2, .slice A3 (awX r).l3.length c3, .slice A4 (awX r).l4.length c4]) ∧ LxF (awX r) A0 A1 A2 A3 A4 c0 c1 c2 c3 c4 m w' ∧ Below w.heap.size w w' := by
 exact lexicon_calls r w m hm
theorem row43 (w : World) (m : Nat) (hm : m ≤ w.heap.size) : Calls Try.prog 43 #[.int .i64 8, .int .i64 14] w fun e w' => ∃ (A : Option Addr) (c : Nat), e = .returned (.slice A awr.length c) ∧ (Ft k49 A awr m w' ∧ awr.length ≤ c) ∧ Below w.heap.size w w' := by
 refine (cippuslaw02_row.calls 8 14 awr w (by kernel_rfl)).mono ?_
 rintro e w' ⟨v0, rfl, h0, hb⟩
 obtain ⟨A0, c0, rfl⟩ := Kd.R_slice h0
 exact ⟨A0, c0, rfl, ⟨Ft.ofR h0 hm, (Kd.R_reads' h0).2.1⟩, hb⟩
theorem stop45 (w : World) (m : Nat) (hm : m ≤ w.heap.size) : Calls Try.prog 45 #[] w fun e w' => ∃ (A : Option Addr) (c : Nat), e = .returned (.slice A aws.length c) ∧ (Ft k49 A aws m w' ∧ aws.length ≤ c) ∧ Below w.heap.size w w' := by
 refine (cippuslaw02_stop.calls aws w (by kernel_rfl)).mono ?_
 rintro e w' ⟨v0, rfl, h0, hb⟩
 obtain ⟨A0, c0, rfl⟩ := Kd.R_slice h0
 exact ⟨A0, c0, rfl, ⟨Ft.ofR h0 hm, (Kd.R_reads' h0).2.1⟩, hb⟩
theorem brief44 (w : World) : Calls Try.prog 44 #[] w fun e w' => ∃ (A B : Option Addr) (c d : Nat), e = .returned (.agg #[.slice A 2 c, .slice B 1 d]) ∧ ((Kd.C (Kd.int .i64) w' A 2 [0, 3] ∧ 2 ≤ c) ∧ Kd.C (Kd.int .i64) w' B 1 [4] ∧ 1 ≤ d) ∧ Below w.heap.size w w' := by
 refine (cippuslaw02_brief.calls [0, 3] [4] w (by kernel_rfl)).mono ?_
 rintro e w' ⟨v0, v1, rfl, h0, h1, hb⟩
 obtain ⟨A0, c0, rfl⟩ := Kd.R_slice h0
 obtain ⟨A1, c1, rfl⟩ := Kd.R_slice h1
 exact ⟨A0, A1, c0, c1, rfl, ⟨⟨(Kd.R_reads' h0).2.2, (Kd.R_reads' h0).2.1⟩, (Kd.R_reads' h1).2.2, (Kd.R_reads' h1).2.1⟩, hb⟩
theorem long46 (w : World) : Calls Try.prog 46 #[] w fun e w' => ∃ (A B : Option Addr) (c d : Nat), e = .returned (.agg #[.slice A 2 c, .slice B 1 d]) ∧ ((Kd.C (Kd.int .i64) w' A 2 [0, 1] ∧ 2 ≤ c) ∧ Kd.C (Kd.int .i64) w' B 1 [6] ∧ 1 ≤ d) ∧ Below w.heap.size w w' := by
 refine (cippuslaw02_long.calls [0, 1] [6] w (by kernel_rfl)).mono ?_
 rintro e w' ⟨v0, v1, rfl, h0, h1, hb⟩
 obtain ⟨A0, c0, rfl⟩ := Kd.R_slice h0
 obtain ⟨A1, c1, rfl⟩ := Kd.R_slice h1
 exact ⟨A0, A1, c0, c1, rfl, ⟨⟨(Kd.R_reads' h0).2.2, (Kd.R_reads' h0).2.1⟩, (Kd.R_reads' h1).2.2, (Kd.R_reads' h1).2.1⟩, hb⟩
theorem aw_fils {w : World} {A B C D : Option Addr} {a b c d : Nat} (hA : Kd.C (Kd.int .i64) w A 2 [0, 1] ∧ 2 ≤ a) (hB : Kd.C (Kd.int .i64) w B 1 [6] ∧ 1 ≤ b) (hC : Kd.C (Kd.int .i64) w C 2 [0, 3] ∧ 2 ≤ c) (hD : Kd.C (Kd.int .i64) w D 1 [4] ∧ 1 ≤ d) :
  Kd.C k31 (w.alloc (.cells #[.slice A 2 a, .slice B 1 b, .slice C 2 c, .slice D 1 d] 31)) (some ⟨w.heap.size, 0, none⟩) 2 [⟨[0, 1], [6]⟩, ⟨[0, 3], [4]⟩] :=
 C_litG k31 w (xs := [⟨[0, 1], [6]⟩, ⟨[0, 3], [4]⟩]) (cs := [.slice A 2 a, .slice B 1 b, .slice C 2 c, .slice D 1 d]) 31 (by decide)
  (Reps.c2 (k31_mk _ ⟨[0, 1], [6]⟩ hA.2 (Kd.C_alloc hA.1 _) hB.2 (Kd.C_alloc hB.1 _)) (Reps.c2 (k31_mk _ ⟨[0, 3], [4]⟩ hC.2 (Kd.C_alloc hC.1 _) hD.2 (Kd.C_alloc hD.1 _)) (Reps.none _ _)))
theorem aw_coms (w : World) : Kd.C k60 (w.alloc (.cells #[.string ⟨#[68]⟩, .string ⟨#[]⟩, .string ⟨#[]⟩, .int .i64 0, .int .i64 0, .string ⟨#[73]⟩, .string ⟨#[]⟩, .string ⟨#[]⟩, .int .i64 0, .int .i64 0, .string ⟨#[83]⟩, .string ⟨#[]⟩, .string ⟨#[]⟩, .int .i64 0, .int .i64 0, .string ⟨#[]⟩, .string ⟨#[77, 65, 78, 73]⟩, .string ⟨#[]⟩, .int .i64 4, .int .i64 6, .string ⟨#[83]⟩, .string ⟨#[]⟩, .string ⟨#[]⟩, .int .i64 0, .int .i64 0] 60)) (some ⟨w.heap.size, 0, none⟩) 5 awC :=
 C_litG k60 w (xs := awC) 60 (by decide) (Reps.c5 (k60_mk _ _) (Reps.c5 (k60_mk _ _) (Reps.c5 (k60_mk _ _) (Reps.c5 (k60_mk _ _) (Reps.c5 (k60_mk _ _) (Reps.none _ _))))))
end Go.Proofs.Ytkfebceainedfaa.P.OwnGap
namespace Go.Proofs.Ytkfebceainedfaa.P.OwnGap
open Go.RowKit Go.Shelf Go.Proofs.YtkfebceainedfaaW.PrintWords Go.Proofs.YtkfebceainedfaaW.PrintLast Go.Proofs.YtkfebceainedfaaW.PrintMore
open Go.Proofs.Ytkfebceainedfaa.OwnGap
set_option linter.unusedVariables false
set_option linter.unusedSimpArgs false
attribute [local go_sem] Oper.semAt_some
set_option maxHeartbeats 4000000 in
set_option maxRecDepth 100000 in
theorem awake_calls (w : World) : Calls Try.prog 13 #[] w fun e w' => e = .returned (.bool true) ∧ Below w.heap.size w w' := by
 go_enter Try.func13, Try.ntmps13
 go_upto_region 2 with first
  | (go_at_call 42; refine (lex42 awr _ _ (Nat.le_refl _)).mono ?_; rintro e w1 ⟨A0, A1, A2, A3, A4, c0, c1, c2, c3, c4, rfl, hX, hb⟩; have HX := Aside0.mk hX; have HB := Aside0.mk hb; clear hX hb)
  | (go_at_call 43; refine (row43 _ w.heap.size HB.out.size).mono ?_; rintro e w2 ⟨Ar, cr, rfl, hR, hb⟩; have HR := Aside0.mk hR; have HX2 := Aside0.mk (HX.out.step (KeepUp.of_below hb)); have HB2 := Aside0.mk (HB.out.trans (hb.mono HB.out.size)); clear hR hb HX HB)
  | (go_at_call 14; refine (list_calls (awX awr) A0 A1 A2 A3 A4 Ar c0 c1 c2 c3 c4 cr 0 9 _ (HX2.out.inn HR.out.1 HR.out.2) aw_both.1 rfl rfl).mono ?_; rw [show listV (awX awr).l0 (awX awr).l1 (awX awr).l2 (awX awr).l3 (awX awr).l4 (awX awr).r 0 9 = _ from aw_list]; rintro e w3 ⟨v3, rfl, hl, hb⟩; obtain ⟨Al, cl, rfl⟩ := Kd.V_slice hl; have HL := Aside0.mk (Kd.V_reads' hl).2; have HB3 := Aside0.mk (HB2.out.trans (hb.mono HB2.out.size)); clear hl hb HX2 HB2 HR)
  | fail
 go_upto_region 3 with first
  | (go_at_call 42; refine (lex42 awr _ w.heap.size HB3.out.size).mono ?_; rintro e w4 ⟨A0, A1, A2, A3, A4, c0, c1, c2, c3, c4, rfl, hX, hb⟩; have HX := Aside0.mk hX; have HL4 := Aside0.mk (And.intro HL.out.1 (Kd.C_below HL.out.2 hb)); have HB := Aside0.mk (HB3.out.trans (hb.mono HB3.out.size)); clear hX hb HB3 HL)
  | (go_at_call 43; refine (row43 _ w.heap.size HB.out.size).mono ?_; rintro e w5 ⟨Ar, cr, rfl, hR, hb⟩; have HR := Aside0.mk hR; have HX2 := Aside0.mk (HX.out.step (KeepUp.of_below hb)); have HL5 := Aside0.mk (And.intro HL4.out.1 (Kd.C_below HL4.out.2 hb)); have HB2 := Aside0.mk (HB.out.trans (hb.mono HB.out.size)); clear hR hb HX HB HL4)
  | (go_at_call 22; refine (shared_good (awX awr) A0 A1 A2 A3 A4 Ar c0 c1 c2 c3 c4 cr _ (HX2.out.inn HR.out.1 HR.out.2) aw_both.1 (by rw [aw_first]; decide) (by rw [aw_first]; decide)).mono ?_; rw [show (List.range (awX awr).r.length).map (comF (awX awr) (firstL (awX awr) 501)) = _ from aw_shared]; rintro e w6 ⟨v6, rfl, hl, hb⟩; obtain ⟨As, cs, rfl⟩ := Kd.R_slice hl; have HS := Aside0.mk (Kd.R_reads' hl).2; have HL6 := Aside0.mk (And.intro HL5.out.1 (Kd.C_below HL5.out.2 hb)); have HB3 := Aside0.mk (HB2.out.trans (hb.mono HB2.out.size)); clear hl hb HX2 HB2 HR HL5)
  | fail
 go_upto_region 4 with first
  | (go_at_call 42; refine (lex42 awr _ w.heap.size HB3.out.size).mono ?_; rintro e w7 ⟨A0, A1, A2, A3, A4, c0, c1, c2, c3, c4, rfl, hX, hb⟩; have HX := Aside0.mk hX; have HL7 := Aside0.mk (And.intro HL6.out.1 (Kd.C_below HL6.out.2 hb)); have HS7 := Aside0.mk (And.intro HS.out.1 (Kd.C_below HS.out.2 hb)); have HB := Aside0.mk (HB3.out.trans (hb.mono HB3.out.size)); clear hX hb HB3 HL6 HS)
  | (go_at_call 43; refine (row43 _ w.heap.size HB.out.size).mono ?_; rintro e w8 ⟨Ar, cr, rfl, hR, hb⟩; have HR := Aside0.mk hR; have HX2 := Aside0.mk (HX.out.step (KeepUp.of_below hb)); have HL8 := Aside0.mk (And.intro HL7.out.1 (Kd.C_below HL7.out.2 hb)); have HS8 := Aside0.mk (And.intro HS7.out.1 (Kd.C_below HS7.out.2 hb)); have HB2 := Aside0.mk (HB.out.trans (hb.mono HB.out.size)); clear hR hb HX HB HL7 HS7)
  | (go_at_call 44; refine (brief44 _).mono ?_; rintro e w9 ⟨Ba, Bb, ca, cb, rfl, hF, hb⟩; have HF := Aside0.mk hF; have HR9 := Aside0.mk (And.intro (HR.out.1.step (KeepUp.of_below hb)) HR.out.2); have HX9 := Aside0.mk (HX2.out.step (KeepUp.of_below hb)); have HL9 := Aside0.mk (And.intro HL8.out.1 (Kd.C_below HL8.out.2 hb)); have HS9 := Aside0.mk (And.intro HS8.out.1 (Kd.C_below HS8.out.2 hb)); have HB9 := Aside0.mk (HB2.out.trans (hb.mono HB2.out.size)); clear hF hb HX2 HB2 HL8 HS8 HR)
  | (go_at_call 28; refine (print_good (awX awr) A0 A1 A2 A3 A4 Ar c0 c1 c2 c3 c4 cr Ba Bb ca cb [0, 3] [4] _ (HX9.out.inn HR9.out.1 HR9.out.2) HF.out.1.1 HF.out.2.1 (by decide) aw_fits).mono ?_; rw [show printT (awX awr) [0, 3] [4] = _ from aw_print]; rintro e w10 ⟨rfl, hb⟩; have HL10 := Aside0.mk (And.intro HL9.out.1 (Kd.C_below HL9.out.2 hb)); have HS10 := Aside0.mk (And.intro HS9.out.1 (Kd.C_below HS9.out.2 hb)); have HB10 := Aside0.mk (HB9.out.trans (hb.mono HB9.out.size)); clear hb HX9 HB9 HR9 HL9 HS9 HF)
  | fail
 go_upto_region 5 with first
  | (go_at_call 42; refine (lex42 aws _ w.heap.size HB10.out.size).mono ?_; rintro e w11 ⟨A0, A1, A2, A3, A4, c0, c1, c2, c3, c4, rfl, hX, hb⟩; have HX := Aside0.mk hX; have HL11 := Aside0.mk (And.intro HL10.out.1 (Kd.C_below HL10.out.2 hb)); have HS11 := Aside0.mk (And.intro HS10.out.1 (Kd.C_below HS10.out.2 hb)); have HB := Aside0.mk (HB10.out.trans (hb.mono HB10.out.size)); clear hX hb HB10 HL10 HS10)
  | (go_at_call 45; refine (stop45 _ w.heap.size HB.out.size).mono ?_; rintro e w12 ⟨Ar, cr, rfl, hR, hb⟩; have HR := Aside0.mk hR; have HX2 := Aside0.mk (HX.out.step (KeepUp.of_below hb)); have HL12 := Aside0.mk (And.intro HL11.out.1 (Kd.C_below HL11.out.2 hb)); have HS12 := Aside0.mk (And.intro HS11.out.1 (Kd.C_below HS11.out.2 hb)); have HB2 := Aside0.mk (HB.out.trans (hb.mono HB.out.size)); clear hR hb HX HB HL11 HS11)
  | (go_at_call 36; refine (stuck_calls (awX aws) A0 A1 A2 A3 A4 Ar c0 c1 c2 c3 c4 cr _ (HX2.out.inn HR.out.1 HR.out.2) aw_both.2).mono ?_; rw [show stuckV (awX aws).l0 (awX aws).l1 (awX aws).l2 (awX aws).l3 (awX aws).l4 (awX aws).r = _ from aw_stuck]; rintro e w13 ⟨rfl, hb⟩; have HL13 := Aside0.mk (And.intro HL12.out.1 (Kd.C_below HL12.out.2 hb)); have HS13 := Aside0.mk (And.intro HS12.out.1 (Kd.C_below HS12.out.2 hb)); have HB13 := Aside0.mk (HB2.out.trans (hb.mono HB2.out.size)); clear hb HX2 HB2 HR HL12 HS12)
  | fail
 go_wp2_with first
  | (go_at_call 46; refine (long46 _).mono ?_; rintro e w14 ⟨Ba, Bb, ca, cb, rfl, hF, hb⟩; have HF := Aside0.mk hF; have HL14 := Aside0.mk (And.intro HL13.out.1 (Kd.C_below HL13.out.2 hb)); have HS14 := Aside0.mk (And.intro HS13.out.1 (Kd.C_below HS13.out.2 hb)); have HB14 := Aside0.mk (HB13.out.trans (hb.mono HB13.out.size)); clear hF hb HL13 HS13 HB13)
  | (go_at_call 44; refine (brief44 _).mono ?_; rintro e w15 ⟨Bc, Bd, cc, cd, rfl, hG, hb⟩; have HFG := Aside0.mk (And.intro (And.intro (And.intro (Kd.C_below HF.out.1.1 hb) HF.out.1.2) (And.intro (Kd.C_below HF.out.2.1 hb) HF.out.2.2)) hG); have HL15 := Aside0.mk (And.intro HL14.out.1 (Kd.C_below HL14.out.2 hb)); have HS15 := Aside0.mk (And.intro HS14.out.1 (Kd.C_below HS14.out.2 hb)); have HB15 := Aside0.mk (HB14.out.trans (hb.mono HB14.out.size)); clear hG hb HL14 HS14 HB14 HF)
  | (go_at_call 21; refine (cippuskit_SameFillings.calls 100 Al cl [⟨[0, 1], [6]⟩, ⟨[0, 3], [4]⟩] _ 2 [⟨[0, 1], [6]⟩, ⟨[0, 3], [4]⟩] true _ (Kd.C_alloc HL15.out.2 _) HL15.out.1 (aw_fils HFG.out.1.1 HFG.out.1.2 HFG.out.2.1 HFG.out.2.2) (by decide) (by kernel_rfl)).mono ?_; rintro e w16 ⟨rfl, hb⟩; have hb2 := ((Below.refl w15.heap.size w15).alloc (Nat.le_refl _) _).trans (hb.mono (by simp)); have HS16 := Aside0.mk (And.intro HS15.out.1 (Kd.C_below HS15.out.2 hb2)); have HB16 := Aside0.mk (HB15.out.trans (hb2.mono HB15.out.size)); clear hb hb2 HL15 HFG HB15 HS15)
  | (go_at_call 26; refine (cippuslaw02_span.calls 4 6 4 6 _ (by kernel_rfl)).mono ?_; rintro e w17 ⟨rfl, hb⟩; have HS17 := Aside0.mk (And.intro HS16.out.1 (Kd.C_below HS16.out.2 hb)); have HB17 := Aside0.mk (HB16.out.trans (hb.mono HB16.out.size)); clear hb HB16 HS16)
  | (go_at_call 47; refine (cippuskit_SameCommons.calls 100 As cs awC _ 5 awC true _ (Kd.C_alloc HS17.out.2 _) HS17.out.1 (aw_coms _) (by decide) (by kernel_rfl)).mono ?_; rintro e w18 ⟨rfl, ⟨nd, rfl⟩⟩)
  | fail
 go_ret
 exact ⟨rfl, pw_below_drewN (HB17.out.alloc HB17.out.size _) _⟩
end Go.Proofs.Ytkfebceainedfaa.P.OwnGap
namespace Go.Proofs.Ytkfebceainedfaa.P.OwnGap
open Go.RowKit Go.Shelf Go.Proofs.YtkfebceainedfaaW.PrintWords Go.Proofs.YtkfebceainedfaaW.PrintLast Go.Proofs.YtkfebceainedfaaW.PrintMore
open Go.Proofs.Ytkfebceainedfaa.OwnGap
set_option linter.unusedVariables false
set_option linter.unusedSimpArgs false
end Go.Proofs.Ytkfebceainedfaa.P.OwnGap
namespace Go.Proofs.Ytkfebceainedfaa.P.OwnGap
open Go.RowKit Go.Shelf Go.Proofs.YtkfebceainedfaaW.PrintWords Go.Proofs.YtkfebceainedfaaW.PrintLast Go.Proofs.YtkfebceainedfaaW.PrintMore
open Go.Proofs.Ytkfebceainedfaa.OwnGap Go.Proofs.Ytkfebceainedfaa.P.OwnUrn
set_option linter.unusedVariables false
set_option linter.unusedSimpArgs false
attribute [local go_sem] Oper.semAt_some
def BothOk (X : Lx) : Prop := bothV X.l0 X.l1 X.l2 X.l3 X.l4 X.r = 0
theorem BothOk.c {X : Lx} (h : BothOk X) : OkC X := checkV_zero (bothV_zero h).1
theorem BothOk.r {X : Lx} (h : BothOk X) : OkR X.r := rowV_zero (bothV_zero h).2
theorem BothOk.l {X : Lx} (h : BothOk X) : ∀ j : Nat, j < X.l0.length → LetS (rd_T53 X.l0 (j : Int)).f0 := fun j hj => (wordV_zero (h.c.wd j hj)).2.1
theorem BothOk.mem {X : Lx} (h : BothOk X) (vs fs : List Int) : (vs, fs) ∈ fillF X 8 [] 0 [p0] ↔ isF X vs fs = true ∧ ∀ u ∈ vs, 0 ≤ u ∧ u < X.l0.length := mem_fillF (okX_of h.c h.r) h.l vs fs
theorem listV_all {X : Lx} (h : BothOk X) (n : Nat) (hn : n ≤ 500) : listV X.l0 X.l1 X.l2 X.l3 X.l4 X.r 0 (n : Int) = (firstL X n, 0) := by
 have h1 : (inB 0 0 500 && inB (n : Int) 0 500) = true := by
  rw [Bool.and_eq_true, inB_true, inB_true]
  omega
 have h2 : (min (0 + (n : Int)) 500).toNat = n := by omega
 unfold listV
 rw [if_pos (show bothV X.l0 X.l1 X.l2 X.l3 X.l4 X.r = 0 from h), if_pos h1, h2]
 have h3 : (min (0 : Int) ((firstL X n).length : Int)).toNat = 0 := by omega
 show ((firstL X n).drop (min (0 : Int) ((firstL X n).length : Int)).toNat, (0 : Int)) = _
 rw [h3, List.drop_zero]
theorem isF_cells {X : Lx} {vs fs : List Int} (h : isF X vs fs = true) : (1 ≤ vs.length ∧ vs.length ≤ 8) ∧ cellF X X.r fs (wordsV X vs) = true := by
 unfold isF at h
 by_cases hin : inB (vs.length : Int) 1 8 = true
 ·rw [if_pos hin] at h
  have hb := inB_true.1 hin
  cases hm : mayAll X 0 0 vs with
  | none => rw [hm] at h; cases h
  | some f' =>
   rw [hm] at h
   have h' : (rdOf false X.l2 f' && cellF X X.r fs (wordsV X vs)) = true := h
   rw [Bool.and_eq_true] at h'
   exact ⟨by omega, h'.2⟩
 ·rw [if_neg hin] at h
  cases h
theorem fitsV_of {X : Lx} (hb : BothOk X) {vs fs : List Int} (h : isF X vs fs = true) (hr : ∀ u ∈ vs, 0 ≤ u ∧ u < (X.l0.length : Int)) : fitsV X.l0 X.l1 X.l2 X.l3 X.l4 X.r vs fs = 0 := by
 unfold fitsV
 rw [if_pos (show bothV X.l0 X.l1 X.l2 X.l3 X.l4 X.r = 0 from hb), if_neg, if_pos h]
 rw [Bool.not_eq_true, List.any_eq_false]
 intro u hu
 rw [Bool.not_eq_true]
 exact out_iff.2 (hr u hu)
theorem get31 {l : List S31} {i : Nat} (h : i < l.length) : rd_T31 l (i : Int) = l[i] := by simp [rd_T31, List.getD_eq_getElem?_getD, h]
theorem firstL_mem {X : Lx} (h : BothOk X) {n : Nat} {x : S31} (hx : x ∈ firstL X n) : isF X x.f0 x.f1 = true ∧ ∀ u ∈ x.f0, 0 ≤ u ∧ u < (X.l0.length : Int) := by
 unfold firstL at hx
 obtain ⟨y, hy, rfl⟩ := List.mem_map.1 hx
 exact (h.mem y.1 y.2).1 (List.mem_of_mem_take hy)
theorem firstL_len {X : Lx} {n : Nat} : (firstL X n).length = min n (fillF X 8 [] 0 [p0]).length := by
 unfold firstL
 rw [List.length_map, List.length_take]
structure GtS (X : Lx) (A0 A1 A2 A3 A4 Ar Bw Bf : Option Addr) (c0 c1 c2 c3 c4 cr dw df : Nat) (us fs : List Int) (n3 : Nat) (w wx : World) : Prop where
 below : Below w.heap.size w wx
 lx : LxIn X A0 A1 A2 A3 A4 Ar c0 c1 c2 c3 c4 cr wx
 cw : Kd.C (Kd.int .i64) wx Bw us.length us ∧ us.length ≤ dw
 cf : Kd.C (Kd.int .i64) wx Bf fs.length fs ∧ fs.length ≤ df
 b3 : BxAt X A0 A1 A2 A3 A4 c0 c1 c2 c3 c4 n3 wx
 b5 : wx.heap[n3 + 1]? = some (.cells #[.slice Bw us.length dw, .slice Bf fs.length df] 31 (0, 0))
theorem GtS.next {X : Lx} {A0 A1 A2 A3 A4 Ar Bw Bf : Option Addr} {c0 c1 c2 c3 c4 cr dw df : Nat} {us fs : List Int} {n3 : Nat} {w wx wy : World} (h : GtS X A0 A1 A2 A3 A4 Ar Bw Bf c0 c1 c2 c3 c4 cr dw df us fs n3 w wx) (hb : Below wx.heap.size wx wy) : GtS X A0 A1 A2 A3 A4 Ar Bw Bf c0 c1 c2 c3 c4 cr dw df us fs n3 w wy :=
 ⟨h.below.trans (hb.mono h.below.size), h.lx.below hb, ⟨Kd.C_below h.cw.1 hb, h.cw.2⟩, ⟨Kd.C_below h.cf.1 hb, h.cf.2⟩, h.b3.below hb, blk_below h.b5 hb⟩
theorem GtS.start {X : Lx} {A0 A1 A2 A3 A4 Ar Bw Bf : Option Addr} {c0 c1 c2 c3 c4 cr dw df m : Nat} {us fs : List Int} {w w2 : World} (hb : Below w.heap.size w w2) (hX : LxF X A0 A1 A2 A3 A4 c0 c1 c2 c3 c4 m w2) (hr : Ft k49 Ar X.r m w2 ∧ Ft (Kd.int .i64) Bw us m w2 ∧ Ft (Kd.int .i64) Bf fs m w2 ∧ X.r.length ≤ cr ∧ us.length ≤ dw ∧ fs.length ≤ df) :
  GtS X A0 A1 A2 A3 A4 Ar Bw Bf c0 c1 c2 c3 c4 cr dw df us fs w2.heap.size w ((w2.alloc (.cells #[.slice A0 X.l0.length c0, .slice A1 X.l1.length c1, .slice A2 X.l2.length c2, .slice A3 X.l3.length c3, .slice A4 X.l4.length c4] 28)).alloc (.cells #[.slice Bw us.length dw, .slice Bf fs.length df] 31)) := by
 have h1 := (Below.refl w2.heap.size w2).alloc (Nat.le_refl _) (.cells #[.slice A0 X.l0.length c0, .slice A1 X.l1.length c1, .slice A2 X.l2.length c2, .slice A3 X.l3.length c3, .slice A4 X.l4.length c4] 28)
 have h2 := h1.alloc (by simp) (.cells #[.slice Bw us.length dw, .slice Bf fs.length df] 31)
 refine ⟨hb.trans (h2.mono hb.size), (hX.inn hr.1 hr.2.2.2.1).below h2, ⟨Kd.C_below hr.2.1.now h2, hr.2.2.2.2.1⟩, ⟨Kd.C_below hr.2.2.1.now h2, hr.2.2.2.2.2⟩, blk_alloc (bxAt_new A0 A1 A2 A3 A4 c0 c1 c2 c3 c4 w2) _, ?_⟩
 have h := blk_new (w2.alloc (.cells #[.slice A0 X.l0.length c0, .slice A1 X.l1.length c1, .slice A2 X.l2.length c2, .slice A3 X.l3.length c3, .slice A4 X.l4.length c4] 28)) (.cells #[.slice Bw us.length dw, .slice Bf fs.length df] 31)
 rw [World.size_alloc] at h
 exact h
end Go.Proofs.Ytkfebceainedfaa.P.OwnGap
namespace Go.Proofs.Ytkfebceainedfaa.P.OwnGap
open Go.RowKit Go.Shelf Go.Proofs.YtkfebceainedfaaW.PrintWords Go.Proofs.YtkfebceainedfaaW.PrintLast Go.Proofs.YtkfebceainedfaaW.PrintMore
open Go.Proofs.Ytkfebceainedfaa.OwnGap Go.Proofs.Ytkfebceainedfaa.P.OwnUrn
set_option linter.unusedVariables false
set_option linter.unusedSimpArgs false
attribute [local go_sem] Oper.semAt_some
def ofL (l : List UInt8) : ByteArray := ⟨l.toArray⟩
theorem ofL_size (l : List UInt8) : (ofL l).size = l.length := by show l.toArray.size = _; rw [List.size_toArray]
theorem ofL_app (a b : List UInt8) : ofL a ++ ofL b = ofL (a ++ b) := by
 apply ByteArray.ext
 rw [ByteArray.data_append]
 show a.toArray ++ b.toArray = (a ++ b).toArray
 simp
theorem ofL_str (s : ByteArray) : ofL s.data.toList = s := by
 apply ByteArray.ext
 show s.data.toList.toArray = s.data
 rw [Array.toArray_toList]
theorem ofL_bt {l : List UInt8} {i : Nat} (h : i < l.length) : bt (ofL l) (i : Int) = (l[i].toNat : Int) := by
 unfold bt
 rw [dif_pos (by rw [Int.toNat_natCast, ofL_size]; exact h)]
 rfl
theorem ofL_one (x : UInt8) : strOfNums [(x.toNat : Int)] = ofL [x] := by
 apply ByteArray.ext
 simp [strOfNums, ofL]
theorem runO_len : ∀ (t : List UInt8) (s s' : Os), runO s t = some s' → s'.o.length ≤ s.o.length + t.length ∧ s'.w.length ≤ s.w.length + t.length
 | [], s, s', h => by
  obtain rfl : s = s' := by simpa [runO] using h
  simp
 | c :: t, s, s', h => by
  rw [runO] at h
  obtain ⟨s1, h1, h2⟩ := Option.bind_eq_some_iff.1 h
  have ih := runO_len t s1 s' h2
  have : s1.o.length ≤ s.o.length + 1 ∧ s1.w.length ≤ s.w.length + 1 := by
   unfold stepO at h1
   split at h1
   ·split at h1
    ·cases h1
    ·injection h1 with h1; rw [← h1]; simp
   ·injection h1 with h1
    rw [← h1]
    constructor
    ·show (if s.i = false ∧ c ≠ 32 then s.o ++ [c] else s.o).length ≤ _
     split <;> simp
    ·show (s.w ++ [c]).length ≤ _
     simp
  rw [List.length_cons]
  omega
theorem runO_step {D : List UInt8} {i : Nat} (hi : i < D.length) {s f st : Os} (hf : runO s D = some f) (hst : runO s (D.take i) = some st) : ∃ st', stepO st D[i] = some st' ∧ runO s (D.take (i + 1)) = some st' := by
 have h1 : runO s (D.take (i + 1)) = (stepO st D[i]).bind fun s' => runO s' [] := by
  rw [List.take_add_one, List.getElem?_eq_getElem hi, Option.toList_some, runO_append, hst, Option.bind_some, runO]
 cases h2 : stepO st D[i] with
 | none =>
  rw [h2, Option.bind_none] at h1
  rw [← List.take_append_drop (i + 1) D, runO_append, h1, Option.bind_none] at hf
  cases hf
 | some st' => exact ⟨st', rfl, by rw [h1, h2]; rfl⟩
theorem shownF_snoc : ∀ (r : List S49) (c : S49), shownF (r ++ [c]) = shownF r ++ (if c.f0.size = 1 then c.f0.data.toList else [])
 | [], c => by simp [shownF]
 | d :: r, c => by rw [List.cons_append, shownF, shownF, shownF_snoc r c, List.append_assoc]
theorem shownF_len : ∀ r : List S49, (shownF r).length ≤ r.length
 | [] => Nat.le_refl _
 | c :: r => by
  have := shownF_len r
  rw [shownF, List.length_append, List.length_cons]
  by_cases h : c.f0.size = 1
  ·rw [if_pos h, Array.length_toList]
   have : c.f0.data.size = 1 := h
   omega
  ·rw [if_neg h]
   simp
   omega
theorem shownF_take {r : List S49} {i : Nat} (hi : i < r.length) : shownF (r.take (i + 1)) = shownF (r.take i) ++ (if (rd_T49 r (i : Int)).f0.size = 1 then (rd_T49 r (i : Int)).f0.data.toList else []) := by
 rw [List.take_add_one, List.getElem?_eq_getElem hi, Option.toList_some, shownF_snoc, show rd_T49 r (i : Int) = r[i] by simp [rd_T49, List.getD_eq_getElem?_getD, hi]]
theorem dueF_snoc (X : Lx) : ∀ (us : List Int) (i : Nat) (u : Int), dueF X i (us ++ [u]) = dueF X i us ++ ((if 0 < i + us.length then [32] else []) ++ (rd_T53 X.l0 u).f0.data.toList)
 | [], i, u => by simp [dueF]
 | v :: us, i, u => by
  rw [List.cons_append, dueF, dueF, dueF_snoc X us, List.length_cons, show i + 1 + us.length = i + (us.length + 1) by omega]
  simp only [List.append_assoc]
theorem dueF_take (X : Lx) {us : List Int} {j : Nat} (hj : j < us.length) : dueF X 0 (us.take (j + 1)) = dueF X 0 (us.take j) ++ ((if 0 < j then [32] else []) ++ (rd_T53 X.l0 (rd us (j : Int))).f0.data.toList) := by
 rw [List.take_add_one, List.getElem?_eq_getElem hj, Option.toList_some, dueF_snoc, List.length_take, Nat.zero_add, Nat.min_eq_left (by omega), show rd us (j : Int) = us[j] by simp [rd, List.getD_eq_getElem?_getD, hj]]
theorem dueF_len (X : Lx) : ∀ (us : List Int) (i : Nat), (∀ u ∈ us, (rd_T53 X.l0 u).f0.size ≤ 8) → (dueF X i us).length ≤ 9 * us.length
 | [], i, h => by simp [dueF]
 | u :: us, i, h => by
  have ih := dueF_len X us (i + 1) (fun v hv => h v (by simp [hv]))
  have h1 := h u (by simp)
  have h2 : (rd_T53 X.l0 u).f0.data.toList.length = (rd_T53 X.l0 u).f0.size := by rw [Array.length_toList]; rfl
  rw [dueF, List.length_append, List.length_append, List.length_cons, h2]
  by_cases hi : 0 < i
  ·rw [if_pos hi]; simp; omega
  ·rw [if_neg hi]; simp; omega
theorem wordW_len (H : List Bool) : ∀ (t : List UInt8) (q : Nat) (bl : Bool), (wordW H q bl t).length ≤ 4 * t.length
 | [], q, bl => by simp [wordW]
 | a :: t, q, bl => by
  have ih := wordW_len H t (q + 1) false
  have h1 := letW_len (befB H q) (H.getD q false) bl a
  rw [wordW, List.length_append, List.length_cons]
  omega
theorem printW_len (X : Lx) (H : List Bool) : ∀ (us : List Int) (i q : Nat), (∀ u ∈ us, (rd_T53 X.l0 u).f0.size ≤ 8) → (printW X H i q us).length ≤ 32 * us.length + 1
 | [], i, q, h => by rw [printW]; split <;> simp
 | u :: us, i, q, h => by
  have ih := printW_len X H us (i + 1) (q + (rd_T53 X.l0 u).f0.size) (fun v hv => h v (by simp [hv]))
  have h1 := wordW_len H (rd_T53 X.l0 u).f0.data.toList q (decide (0 < i))
  have h2 : (rd_T53 X.l0 u).f0.data.toList.length = (rd_T53 X.l0 u).f0.size := by rw [Array.length_toList]; rfl
  have h3 := h u (by simp)
  rw [printW, List.length_append, List.length_cons]
  omega
theorem step91 {s s' : Os} {c : UInt8} (h : stepO s c = some s') (hc : c = 91) : s.i = false ∧ s.l ≠ 93 ∧ s' = ⟨s.o, s.w, true, c⟩ := by
 subst hc
 unfold stepO at h
 rw [if_pos (.inl rfl)] at h
 split at h
 ·cases h
 ·rename_i hn
  injection h with h
  refine ⟨?_, fun e => hn (by simp [e]), h.symm⟩
  cases hi : s.i with
  | false => rfl
  | true => exact absurd (by simp [hi]) hn
theorem step93 {s s' : Os} {c : UInt8} (h : stepO s c = some s') (hc : c = 93) : s.i = true ∧ s.l ≠ 91 ∧ s' = ⟨s.o, s.w, false, c⟩ := by
 subst hc
 unfold stepO at h
 rw [if_pos (.inr rfl)] at h
 split at h
 ·cases h
 ·rename_i hn
  injection h with h
  refine ⟨?_, fun e => hn (by simp [e]), h.symm⟩
  cases hi : s.i with
  | true => rfl
  | false => exact absurd (by simp [hi]) hn
theorem stepX {s s' : Os} {c : UInt8} (h : stepO s c = some s') (h1 : c ≠ 91) (h2 : c ≠ 93) : s' = ⟨if s.i = false ∧ c ≠ 32 then s.o ++ [c] else s.o, s.w ++ [c], s.i, c⟩ := by
 unfold stepO at h
 rw [if_neg (by simp [h1, h2])] at h
 injection h with h
 exact h.symm
theorem u8_ne {a b : UInt8} (h : a ≠ b) : (a.toNat : Int) ≠ (b.toNat : Int) := fun e => h (UInt8.toNat_inj.1 (by omega))
theorem print_run {X : Lx} (h : BothOk X) {vs fs : List Int} (hf : isF X vs fs = true) (hb : ∀ u ∈ vs, 0 ≤ u ∧ u < (X.l0.length : Int)) :
  ∃ l, runO ⟨[], [], false, 0⟩ (printW X (hidV X vs fs) 0 0 vs) = some ⟨shownF X.r, dueF X 0 vs, false, l⟩ := by
 obtain ⟨hw8, hc⟩ := isF_cells hf
 have hlet : ∀ u ∈ vs, (rd_T53 X.l0 u).f0.data.toList ≠ [] ∧ ∀ a ∈ (rd_T53 X.l0 u).f0.data.toList, LetU a := fun u hu => by
  obtain ⟨u0, u1⟩ := hb u hu
  obtain ⟨j, rfl⟩ : ∃ j : Nat, u = (j : Int) := ⟨u.toNat, by omega⟩
  obtain ⟨z1, z2, -, -⟩ := wordV_zero (h.c.wd j (by omega))
  refine ⟨fun e => ?_, fun a ha => ?_⟩
  ·have := congrArg List.length e
   rw [Array.length_toList, List.length_nil] at this
   have h3 : (rd_T53 X.l0 (j : Int)).f0.size = 0 := this
   omega
  ·obtain ⟨i, hi, rfl⟩ := List.mem_iff_getElem.1 ha
   have hi2 : i < (rd_T53 X.l0 (j : Int)).f0.size := by rw [Array.length_toList] at hi; exact hi
   have h3 := z2 i hi2
   have h4 : bt (rd_T53 X.l0 (j : Int)).f0 (i : Int) = (((rd_T53 X.l0 (j : Int)).f0.data.toList[i]'hi).toNat : Int) := by
    unfold bt
    rw [dif_pos (by rw [Int.toNat_natCast]; exact hi2)]
    rfl
   rw [h4] at h3
   refine ⟨fun e => ?_, fun e => ?_, fun e => ?_⟩ <;> (rw [e] at h3; revert h3; decide)
 obtain ⟨l, hl⟩ := run_print X (hidV X vs fs) vs 0 0 [] [] 0 hlet (by decide)
 refine ⟨l, ?_⟩
 have e1 : befB (hidV X vs fs) 0 = false := rfl
 rw [e1] at hl
 rw [hl, List.nil_append, List.nil_append]
 have e2 := vis_shown X X.r fs (wordsV X vs) (fun c hc2 => by
  obtain ⟨i, hi, rfl⟩ := List.mem_iff_getElem.1 hc2
  have := h.r.cell i hi
  rwa [show rd_T49 X.r (i : Int) = X.r[i] by simp [rd_T49, List.getD_eq_getElem?_getD, hi]] at this) hc
 rw [show (wordsV X vs).data.toList = conT X vs from List.toList_toArray] at e2
 unfold hidV
 rw [e2]
end Go.Proofs.Ytkfebceainedfaa.P.OwnGap
namespace Go.Proofs.Ytkfebceainedfaa.P.OwnGap
open Go.RowKit Go.Shelf Go.Proofs.YtkfebceainedfaaW.PrintWords Go.Proofs.YtkfebceainedfaaW.PrintLast Go.Proofs.YtkfebceainedfaaW.PrintMore
open Go.Proofs.Ytkfebceainedfaa.OwnGap Go.Proofs.Ytkfebceainedfaa.P.OwnUrn
set_option linter.unusedVariables false
set_option linter.unusedSimpArgs false
attribute [local go_sem] Oper.semAt_some
theorem wrapO (i : Nat) (h : i ≤ 100000) : wrap64 ((i : Int) + 1) = ((i + 1 : Nat) : Int) := by simp [wrap64]; omega
set_option maxHeartbeats 8000000 in
set_option maxRecDepth 100000 in
theorem gapOutside_calls (a0 : Option Addr) (n0 : Nat) (nums : List Int) (w : World) (hC : Kd.C (Kd.int .i64) w a0 nums.length nums) (hc : nums.length ≤ n0) (hn : nums.length < 4611686018427387904) :
  Calls Try.prog 6 #[.slice a0 nums.length n0] w fun e w' => e = .returned (.bool true) ∧ Below w.heap.size w w' := by
 obtain ⟨a, b, hu⟩ := urn_ok nums hn
 have HC := Aside0.mk hC
 have HCC := Aside0.mk hc
 have HU := Aside0.mk hu
 clear hC hc hu hn
 go_enter Try.func6, Try.ntmps6
 go_upto_region 2 with first
  | (go_at_call 12; refine (cippuskit_NewUrn.calls a0 n0 nums a b w w (Below.refl _ _) HC.out HCC.out HU.out).mono ?_; rintro e w1 ⟨g, rfl, hi, hb, -⟩; have HI1 := Aside0.mk hi; have HB1 := Aside0.mk hb; clear hi hb)
  | (go_at_call 11; refine (made_all g a b 6 3 (by decide) (by decide) w _ HI1.out HB1.out).mono ?_; rintro e w2 ⟨X, us, fs, is, z0, z1, A0, A1, A2, A3, A4, Ar, Bw, Bf, c0, c1, c2, c3, c4, cr, dw, df, rfl, hX, hr, hp, -, hb, -⟩; have HX := Aside0.mk hX; have HR := Aside0.mk hr; have HP := Aside0.mk hp; have HB2 := Aside0.mk hb; clear hX hr hp hb)
  | fail
 obtain ⟨n3, hn3⟩ : ∃ n, n = w2.heap.size := ⟨_, rfl⟩
 refine wp_gen (fun wx => Aside0 (GtS X A0 A1 A2 A3 A4 Ar Bw Bf c0 c1 c2 c3 c4 cr dw df us fs n3 w wx)) ⟨by rw [hn3]; exact GtS.start HB2.out HX.out HR.out⟩ ?_
 rw [← hn3]
 clear hn3 HX HR HB2 HI1 HB1
 rintro w3 HS
 cases is with
 | false =>
  go_wp2_with first | (go_at_call 13; refine (awake_calls _).mono ?_; rintro e w4 ⟨rfl, hb⟩; have HB4 := Aside0.mk hb; clear hb) | fail
  go_ret
  exact ⟨rfl, (HS.out.next HB4.out).below⟩
 | true =>
  have HBO := Aside0.mk (show BothOk X from (HP.out.row rfl).both)
  have HLZ := Aside0.mk (show 1 ≤ X.r.length ∧ X.r.length ≤ 24 by have h1 := HBO.out.r.n1; have h2 := HBO.out.r.n24; omega)
  obtain ⟨L, hL⟩ : ∃ L, L = firstL X 40 := ⟨_, rfl⟩
  have HLN := Aside0.mk (show 1 ≤ L.length ∧ L.length ≤ 40 by
   rw [hL, firstL_len]
   have h := (HBO.out.mem us fs).2 ⟨(HP.out.row rfl).isF, (HP.out.row rfl).b⟩
   have := List.length_pos_of_mem h
   omega)
  have HLV := Aside0.mk (show listV X.l0 X.l1 X.l2 X.l3 X.l4 X.r 0 40 = (L, 0) by rw [hL]; exact listV_all HBO.out 40 (by decide))
  have HMM := Aside0.mk (show ∀ x ∈ L, isF X x.f0 x.f1 = true ∧ ∀ u ∈ x.f0, 0 ≤ u ∧ u < (X.l0.length : Int) by rw [hL]; exact fun x hx => firstL_mem HBO.out hx)
  have hl0 : ((L.length : Int) == 0) = false := beq_eq_false_iff_ne.mpr (by have := HLN.out; omega)
  have hl1 : (L.length == 0) = false := beq_eq_false_iff_ne.mpr (by have := HLN.out; omega)
  clear hL HP
  obtain ⟨x0, x1, x2, x3, x4⟩ := HS.out.b3.cells
  have xl := blk_lt HS.out.b3
  go_upto_region 5 with first
   | (go_at_call 14; refine (list_calls X A0 A1 A2 A3 A4 Ar c0 c1 c2 c3 c4 cr 0 40 _ HS.out.lx HBO.out rfl rfl).mono ?_; rw [HLV.out]; rintro e w4 ⟨v4, rfl, hl, hb⟩; obtain ⟨Al, cl, rfl⟩ := Kd.V_slice hl; have HL := Aside0.mk (Kd.V_reads' hl).2; have HS4 := Aside0.mk (HS.out.next hb); clear hl hb)
   | fail
  clear x0 x1 x2 x3 x4 xl HS
  go_wp2_with fail
  go_loopg [9, 10] X.r.length (fun gh s9 s10 wr => ∃ i : Nat, i + gh = X.r.length ∧ s10 = .int .i64 (i : Int) ∧ s9 = .string (ofL (shownF (X.r.take i))) ∧ Aside0 (GtS X A0 A1 A2 A3 A4 Ar Bw Bf c0 c1 c2 c3 c4 cr dw df us fs n3 w wr) ∧ Aside0 (L.length ≤ cl ∧ Kd.C k31 wr Al L.length L))
  case atStart => exact ⟨0, by omega, rfl, rfl, HS4, HL⟩
  case round =>
   clear HS4 HL hl0 hl1
   obtain ⟨i, hi, rfl, rfl, HS, HL⟩ := hrel
   have HI := Aside0.mk hi
   by_cases hlt : i < X.r.length
   ·have hz : (i : Int) < (X.r.length : Int) := by omega
    have hd : decide (i < X.r.length) = true := decide_eq_true hlt
    have hd2 : decide ((i : Int) < (X.r.length : Int)) = true := decide_eq_true hz
    have h0 : (0 : Int) ≤ (i : Int) := by omega
    have hw := wrapO i (by have := HLZ.out; omega)
    have HLT := Aside0.mk hlt
    obtain ⟨ad, rfl, e0, -, -, -⟩ := at_T49 HS.out.lx.hr (i : Int) h0 hz
    rw [Int.toNat_natCast] at e0
    have el := World.block_lt_of_cell? wr _ e0
    have HTK := Aside0.mk (shownF_take hlt)
    have hT := shownF_len (X.r.take i)
    rw [List.length_take] at hT
    obtain ⟨T, hTT⟩ : ∃ T, T = shownF (X.r.take i) := ⟨_, rfl⟩
    obtain ⟨s, hs⟩ : ∃ s, s = (rd_T49 X.r (i : Int)).f0 := ⟨_, rfl⟩
    rw [← hTT] at HTK hT ⊢
    rw [← hs] at HTK e0
    have hTs := ofL_size T
    clear hi hlt hTT hs
    by_cases h1 : s.size = 1
    ·have hb : ((s.size : Int) == 1) = true := by rw [h1]; rfl
     have hsz : ((ofL T).size : Int) + (s.size : Int) ≤ 100 := by have := HLZ.out; omega
     have hsz2 : (ofL T).size + s.size ≤ 100 := by have := HLZ.out; omega
     have HC1 := Aside0.mk (show ofL T ++ s = ofL (T ++ s.data.toList) by rw [← ofL_app, ofL_str])
     rw [if_pos h1] at HTK
     clear h1 hT hTs
     go_wp2_with fail
     go_roundg (gk - 1)
     case measure => have := HI.out; have := HLT.out; omega
     case rel => exact ⟨i + 1, by have := HI.out; have := HLT.out; omega, by go_num, by rw [HC1.out, HTK.out], HS, HL⟩
    ·have hb : ((s.size : Int) == 1) = false := beq_eq_false_iff_ne.mpr (by omega)
     rw [if_neg h1, List.append_nil] at HTK
     clear h1 hT hTs
     go_wp2_with fail
     go_roundg (gk - 1)
     case measure => have := HI.out; have := HLT.out; omega
     case rel => exact ⟨i + 1, by have := HI.out; have := HLT.out; omega, by go_num, by rw [HTK.out], HS, HL⟩
   ·have hz : ¬ (i : Int) < (X.r.length : Int) := by omega
    have hd : decide (i < X.r.length) = false := decide_eq_false hlt
    have hd2 : decide ((i : Int) < (X.r.length : Int)) = false := decide_eq_false hz
    rw [show X.r.take i = X.r from List.take_of_length_le (by omega)]
    clear hi hlt
    go_wp2_with fail
    go_loopg [11] L.length (fun gh s11 wr => ∃ k : Nat, k + gh = L.length ∧ s11 = .int .i64 (k : Int) ∧ Aside0 (GtS X A0 A1 A2 A3 A4 Ar Bw Bf c0 c1 c2 c3 c4 cr dw df us fs n3 w wr) ∧ Aside0 (L.length ≤ cl ∧ Kd.C k31 wr Al L.length L))
    case atStart => exact ⟨0, by omega, rfl, HS, HL⟩
    case round =>
     clear HS HL hz hd hd2
     obtain ⟨k, hi, rfl, HS, HL⟩ := hrel
     have HI := Aside0.mk hi
     obtain ⟨go, hgo⟩ : ∃ x, x = gk := ⟨_, rfl⟩
     have HGO := Aside0.mk hgo
     clear hgo
     by_cases hlt : k < L.length
     ·have hz : (k : Int) < (L.length : Int) := by omega
      have hd : decide (k < L.length) = true := decide_eq_true hlt
      have hd2 : decide ((k : Int) < (L.length : Int)) = true := decide_eq_true hz
      have h0 : (0 : Int) ≤ (k : Int) := by omega
      have HW := Aside0.mk (wrapO k (by have := HLN.out; omega))
      have HLT := Aside0.mk hlt
      obtain ⟨ad, Ai, ci, Bi, di, had, e0, e1, k0, g0, k1, g1⟩ := at_T31 HL.out.2 (k : Int) h0 hz
      rw [Int.toNat_natCast] at e0 e1
      obtain rfl := had
      obtain ⟨hF, hU⟩ := HMM.out (rd_T31 L (k : Int)) (by rw [get31 hlt]; exact List.getElem_mem hlt)
      obtain ⟨vs, hvs⟩ : ∃ vs, vs = (rd_T31 L (k : Int)).f0 := ⟨_, rfl⟩
      obtain ⟨gs, hgs⟩ : ∃ gs, gs = (rd_T31 L (k : Int)).f1 := ⟨_, rfl⟩
      have HVS := Aside0.mk hvs
      rw [← hvs] at e0 k0 g0 hF hU
      rw [← hgs] at e1 k1 g1 hF
      have HFI := Aside0.mk (fitsV_of HBO.out hF hU)
      have HU8 := Aside0.mk (isF_cells hF).1
      obtain ⟨ll, hrun⟩ := print_run HBO.out hF hU
      have HW8 := Aside0.mk (show ∀ u ∈ vs, (rd_T53 X.l0 u).f0.size ≤ 8 from fun u hu => by
       obtain ⟨j, rfl⟩ : ∃ j : Nat, u = (j : Int) := ⟨u.toNat, by have := (hU u hu).1; omega⟩
       obtain ⟨z1, -⟩ := wordV_zero (HBO.out.c.wd j (by have := (hU _ hu).2; omega))
       omega)
      obtain ⟨D, hD⟩ : ∃ D, D = printW X (hidV X vs gs) 0 0 vs := ⟨_, rfl⟩
      rw [← hD] at hrun
      have HRUN := Aside0.mk hrun
      have HDL := Aside0.mk (show D.length ≤ 300 by have := printW_len X (hidV X vs gs) vs 0 0 HW8.out; have := HU8.out; rw [hD]; omega)
      have HPT := Aside0.mk (show printT X vs gs = ofL D by rw [hD]; rfl)
      have HUU := Aside0.mk hU
      have HGI := Aside0.mk (And.intro (And.intro k0 g0) (And.intro k1 g1))
      clear hi hlt k0 g0 k1 g1 hF hU hvs hgs hrun hD
      obtain ⟨x0, x1, x2, x3, x4⟩ := HS.out.b3.cells
      have xl := blk_lt HS.out.b3
      have el := World.block_lt_of_cell? wr _ e0
      have HCC2 := Aside0.mk (fun (w' : World) (hb : Below wr.heap.size wr w') => show w'.cell? ⟨n3, 0, none⟩ = some (.slice A0 X.l0.length c0) ∧ w'.cell? ⟨n3, 1, none⟩ = some (.slice A1 X.l1.length c1) ∧ w'.cell? ⟨n3, 2, none⟩ = some (.slice A2 X.l2.length c2) ∧ w'.cell? ⟨n3, 3, none⟩ = some (.slice A3 X.l3.length c3) ∧ w'.cell? ⟨n3, 4, none⟩ = some (.slice A4 X.l4.length c4) ∧ w'.cell? (ad.add (k * 2)) = some (.slice Ai vs.length ci) ∧ w'.cell? ⟨(ad.add (k * 2)).block, (ad.add (k * 2)).off + 1, none⟩ = some (.slice Bi gs.length di) from
       ⟨(hb.cell (p := ⟨n3, 0, none⟩) xl).trans x0, (hb.cell (p := ⟨n3, 1, none⟩) xl).trans x1, (hb.cell (p := ⟨n3, 2, none⟩) xl).trans x2, (hb.cell (p := ⟨n3, 3, none⟩) xl).trans x3, (hb.cell (p := ⟨n3, 4, none⟩) xl).trans x4, (hb.cell el).trans e0, (hb.cell (p := ⟨(ad.add (k * 2)).block, (ad.add (k * 2)).off + 1, none⟩) el).trans e1⟩)
      go_upto_region 16 with fail
      go_region_held3 (fun w' => w'.cell? ⟨n3, 0, none⟩ = some (.slice A0 X.l0.length c0) ∧ w'.cell? ⟨n3, 1, none⟩ = some (.slice A1 X.l1.length c1) ∧ w'.cell? ⟨n3, 2, none⟩ = some (.slice A2 X.l2.length c2) ∧ w'.cell? ⟨n3, 3, none⟩ = some (.slice A3 X.l3.length c3) ∧ w'.cell? ⟨n3, 4, none⟩ = some (.slice A4 X.l4.length c4) ∧ w'.cell? (ad.add (k * 2)) = some (.slice Ai vs.length ci) ∧ w'.cell? ⟨(ad.add (k * 2)).block, (ad.add (k * 2)).off + 1, none⟩ = some (.slice Bi gs.length di))
       (first | exact HCC2.out _ HB5.out | exact HCC2.out _ (Below.drew (Below.refl _ _)))
       (first | (go_at_call 28; refine (print_good X A0 A1 A2 A3 A4 Ar c0 c1 c2 c3 c4 cr Ai Bi ci di vs gs _ (HS.out.next (Below.drew (Below.refl _ _))).lx (Kd.C_below HGI.out.1.2 (Below.drew (Below.refl _ _))) (Kd.C_below HGI.out.2.2 (Below.drew (Below.refl _ _))) (by have := HU8.out; omega) HFI.out).mono ?_; rw [HPT.out]; rintro e w5 ⟨rfl, hb⟩; have HB5 := Aside0.mk (show Below wr.heap.size wr w5 from (Below.drew (Below.refl _ _)).trans hb); clear hb))
      have HS5 := Aside0.mk (HS.out.next HB5.out)
      have HL5 := Aside0.mk (And.intro HL.out.1 (Kd.C_below HL.out.2 HB5.out))
      have HGJ := Aside0.mk (And.intro (Kd.C_below HGI.out.1.2 HB5.out) HGI.out.1.1)
      clear x0 x1 x2 x3 x4 xl e0 e1 el HCC2 HGI HB5 HS HL hz hd hd2 h0
      have hDs := ofL_size D
      go_wp2_with fail
      go_loopg [14, 15, 16, 17, 18] D.length (fun gh s14 s15 s16 s17 s18 wx => ∃ (j : Nat) (st : Os), j + gh = D.length ∧ runO ⟨[], [], false, 0⟩ (D.take j) = some st ∧ s18 = .int .i64 (j : Int) ∧ s14 = .string (ofL st.o) ∧ s15 = .string (ofL st.w) ∧ s16 = .bool st.i ∧ s17 = .int .u8 (st.l.toNat : Int) ∧ Aside0 (Below w5.heap.size w5 wx))
      case atStart => exact ⟨0, ⟨[], [], false, 0⟩, by omega, rfl, rfl, rfl, rfl, rfl, rfl, ⟨Below.refl _ _⟩⟩
      case round =>
       obtain ⟨j, st, hj, hst, rfl, rfl, rfl, rfl, rfl, HB⟩ := hrel
       have HJ := Aside0.mk hj
       by_cases hlt : j < D.length
       ·have hz : (j : Int) < ((ofL D).size : Int) := by omega
        have hzz : (j : Int) < (D.length : Int) := by omega
        have hd : decide (j < (ofL D).size) = true := decide_eq_true (by omega)
        have hd2 : decide ((j : Int) < ((ofL D).size : Int)) = true := decide_eq_true hz
        have hd3 : decide (j < D.length) = true := decide_eq_true hlt
        have h0 : (0 : Int) ≤ (j : Int) := by omega
        have hw := wrapO j (by have := HDL.out; omega)
        have HJT := Aside0.mk hlt
        have hbt := bt_at (ofL D) (j : Int) (by rw [Int.toNat_natCast, hDs]; exact hlt)
        simp only [Int.toNat_natCast] at hbt
        rw [ofL_bt hlt] at hbt
        obtain ⟨st', hs1, hs2⟩ := runO_step hlt HRUN.out hst
        obtain ⟨hl1, hl2⟩ := runO_len _ _ _ hst
        rw [List.length_take] at hl1 hl2
        have hl3 : st.o.length ≤ 300 ∧ st.w.length ≤ 300 := by
         have e1 : st.o.length ≤ 0 + min j D.length := hl1
         have e2 : st.w.length ≤ 0 + min j D.length := hl2
         have := HDL.out
         omega
        have HS2 := Aside0.mk hs2
        have HS1 := Aside0.mk hs1
        have HL3 := Aside0.mk hl3
        obtain ⟨x, hx⟩ : ∃ x, x = D[j] := ⟨_, rfl⟩
        rw [← hx] at hbt HS1
        have HX := Aside0.mk hx
        clear hj hst hs1 hs2 hl1 hl2 hl3 hx
        go_upto_region 22 with fail
        by_cases h91 : x = 91
        ·obtain ⟨g1, g2, rfl⟩ := step91 HS1.out h91
         have hx : (x.toNat : Int) = 91 := by rw [h91]; rfl
         have hl9 : decide ((st.l.toNat : Int) = 93) = false := decide_eq_false (u8_ne g2)
         have hl9' : ((st.l.toNat : Int) == 93) = false := beq_eq_false_iff_ne.mpr (u8_ne g2)
         clear g2
         go_wp2_with fail
         go_roundg (gk - 1)
         case measure => have := HJ.out; have := HJT.out; omega
         case rel => exact ⟨j + 1, _, by have := HJ.out; have := HJT.out; omega, HS2.out, by go_num, rfl, rfl, rfl, by first | rfl | rw [hx], HB⟩
        ·by_cases h93 : x = 93
         ·obtain ⟨g1, g2, rfl⟩ := step93 HS1.out h93
          have hx : (x.toNat : Int) = 93 := by rw [h93]; rfl
          have hl9 : decide ((st.l.toNat : Int) = 91) = false := decide_eq_false (u8_ne g2)
          have hl9' : ((st.l.toNat : Int) == 91) = false := beq_eq_false_iff_ne.mpr (u8_ne g2)
          clear g2
          go_wp2_with fail
          go_roundg (gk - 1)
          case measure => have := HJ.out; have := HJT.out; omega
          case rel => exact ⟨j + 1, _, by have := HJ.out; have := HJT.out; omega, HS2.out, by go_num, rfl, rfl, rfl, by first | rfl | rw [hx], HB⟩
         ·obtain rfl := stepX HS1.out h91 h93
          have n91 : decide ((x.toNat : Int) = 91) = false := decide_eq_false (u8_ne h91)
          have m91 : ((x.toNat : Int) == 91) = false := beq_eq_false_iff_ne.mpr (u8_ne h91)
          have n93 : decide ((x.toNat : Int) = 93) = false := decide_eq_false (u8_ne h93)
          have m93 : ((x.toNat : Int) == 93) = false := beq_eq_false_iff_ne.mpr (u8_ne h93)
          have hcv := conv_byte wr (x.toNat : Int)
          have hcv2 := conv_byte (wr.alloc (.cells #[.int .u8 (x.toNat : Int)] 5)) (x.toNat : Int)
          rw [ofL_one] at hcv hcv2
          rw [World.size_alloc] at hcv2
          have z1 : ((ofL st.w).size : Int) + ((ofL [x]).size : Int) ≤ 1000 := by rw [ofL_size, ofL_size]; have := HL3.out; simp; omega
          have z2 : (ofL st.w).size + (ofL [x]).size ≤ 1000 := by omega
          have z3 : ((ofL st.o).size : Int) + ((ofL [x]).size : Int) ≤ 1000 := by rw [ofL_size, ofL_size]; have := HL3.out; simp; omega
          have z4 : (ofL st.o).size + (ofL [x]).size ≤ 1000 := by omega
          clear h91 h93
          cases hin : st.i with
          | true =>
           have HX2 := Aside0.mk (show (if st.i = false ∧ x ≠ 32 then st.o ++ [x] else st.o) = st.o from if_neg (fun h => by rw [hin] at h; cases h.1))
           go_wp2_with fail
           go_roundg (gk - 1)
           case measure => have := HJ.out; have := HJT.out; omega
           case rel => exact ⟨j + 1, _, by have := HJ.out; have := HJT.out; omega, HS2.out, by go_num, by rw [HX2.out], by rw [ofL_app], by first | rfl | rw [hin], rfl, ⟨HB.out.alloc HB.out.size _⟩⟩
          | false =>
           by_cases h32 : x = 32
           ·have hx : ((x.toNat : Int) != 32) = false := by rw [h32]; rfl
            have HX2 := Aside0.mk (show (if st.i = false ∧ x ≠ 32 then st.o ++ [x] else st.o) = st.o from if_neg (fun h => h.2 h32))
            clear h32
            go_wp2_with fail
            go_roundg (gk - 1)
            case measure => have := HJ.out; have := HJT.out; omega
            case rel => exact ⟨j + 1, _, by have := HJ.out; have := HJT.out; omega, HS2.out, by go_num, by rw [HX2.out], by rw [ofL_app], by first | rfl | rw [hin], rfl, ⟨HB.out.alloc HB.out.size _⟩⟩
           ·have hx : ((x.toNat : Int) != 32) = true := bne_iff_ne.mpr (u8_ne h32)
            have HX2 := Aside0.mk (show (if st.i = false ∧ x ≠ 32 then st.o ++ [x] else st.o) = st.o ++ [x] from if_pos ⟨hin, h32⟩)
            clear h32
            go_wp2_with fail
            go_roundg (gk - 1)
            case measure => have := HJ.out; have := HJT.out; omega
            case rel => exact ⟨j + 1, _, by have := HJ.out; have := HJT.out; omega, HS2.out, by go_num, by rw [HX2.out, ofL_app], by rw [ofL_app], by first | rfl | rw [hin], rfl, ⟨(HB.out.alloc HB.out.size _).alloc (by have := HB.out.size; simp; omega) _⟩⟩
       ·have hz : ¬ (j : Int) < ((ofL D).size : Int) := by omega
        have hd : decide (j < (ofL D).size) = false := decide_eq_false (by omega)
        have hd2 : decide ((j : Int) < ((ofL D).size : Int)) = false := decide_eq_false hz
        have hd3 : decide (j < D.length) = false := decide_eq_false hlt
        rw [show D.take j = D from List.take_of_length_le (by omega), HRUN.out] at hst
        injection hst with hst
        subst hst
        have HS6 := Aside0.mk (HS5.out.next HB.out)
        have HL6 := Aside0.mk (And.intro HL5.out.1 (Kd.C_below HL5.out.2 HB.out))
        have HGK := Aside0.mk (And.intro (Kd.C_below HGJ.out.1 HB.out) HGJ.out.2)
        clear hj hlt HB HS5 HL5 HGJ
        go_wp2_with fail
        go_loopg [20, 21] vs.length (fun gh s20 s21 wx => ∃ j : Nat, j + gh = vs.length ∧ s21 = .int .i64 (j : Int) ∧ s20 = .string (ofL (dueF X 0 (vs.take j))) ∧ Aside0 (GtS X A0 A1 A2 A3 A4 Ar Bw Bf c0 c1 c2 c3 c4 cr dw df us fs n3 w wx) ∧ Aside0 (L.length ≤ cl ∧ Kd.C k31 wx (some ad) L.length L))
        case atStart => exact ⟨0, by omega, rfl, rfl, HS6, HL6⟩
        case round =>
         clear HS6 HL6 HGK hz hd hd2 hd3
         obtain ⟨j, hj, rfl, rfl, HS, HL⟩ := hrel
         have HJ := Aside0.mk hj
         have hzk : (k : Int) < (L.length : Int) := by have := HLT.out; omega
         have hdk : decide (k < L.length) = true := decide_eq_true HLT.out
         have hk0 : (0 : Int) ≤ (k : Int) := by omega
         obtain ⟨ad2, Aj, cj, Bj, dj, had, e0, -, k0, g0, -, -⟩ := at_T31 HL.out.2 (k : Int) hk0 hzk
         rw [Int.toNat_natCast] at e0
         obtain rfl : ad = ad2 := by injection had
         rw [← HVS.out] at e0 g0
         have el := World.block_lt_of_cell? wr _ e0
         clear had k0
         by_cases hlt : j < vs.length
         ·have hz : (j : Int) < (vs.length : Int) := by omega
          have hd : decide (j < vs.length) = true := decide_eq_true hlt
          have hd2 : decide ((j : Int) < (vs.length : Int)) = true := decide_eq_true hz
          have h0 : (0 : Int) ≤ (j : Int) := by omega
          have hw := wrapO j (by have := HU8.out; omega)
          have HJT := Aside0.mk hlt
          obtain ⟨x0, x1, x2, x3, x4⟩ := HS.out.b3.cells
          have xl := blk_lt HS.out.b3
          obtain ⟨ld, hld, g1⟩ := Kd.at_int g0 (j : Int) h0 hz
          rw [Int.toNat_natCast] at g1
          subst hld
          have gl := World.block_lt_of_cell? wr _ g1
          have hmem : rd vs (j : Int) ∈ vs := rd_mem hlt
          obtain ⟨b0, b1⟩ := HUU.out _ hmem
          have h8 := HW8.out _ hmem
          obtain ⟨q, hq⟩ : ∃ q : Nat, rd vs (j : Int) = (q : Int) := ⟨(rd vs (j : Int)).toNat, by omega⟩
          have hdt := dueF_take X hlt
          have hdl := dueF_len X (vs.take j) 0 (fun u hu => HW8.out u (List.mem_of_mem_take hu))
          rw [List.length_take] at hdl
          rw [hq] at g1 b0 b1 h8 hdt
          obtain ⟨aw, hA, p0, -⟩ := at_T53 HS.out.lx.h0 (q : Int) b0 b1
          subst hA
          rw [Int.toNat_natCast] at p0
          have pl := World.block_lt_of_cell? wr _ p0
          have hq2 : decide (q < X.l0.length) = true := decide_eq_true (by omega)
          obtain ⟨T, hT⟩ : ∃ T, T = dueF X 0 (vs.take j) := ⟨_, rfl⟩
          obtain ⟨s, hs⟩ : ∃ s, s = (rd_T53 X.l0 (q : Int)).f0 := ⟨_, rfl⟩
          rw [← hT] at hdt hdl ⊢
          rw [← hs] at hdt h8 p0
          have HDT := Aside0.mk hdt
          have hTs := ofL_size T
          have hTl : (ofL T).size ≤ 100 := by have := HU8.out; omega
          have h32 : (⟨#[32]⟩ : ByteArray) = ofL [32] := rfl
          clear hj hlt hq hdt hdl hT hs hmem g0
          by_cases hj0 : 0 < j
          ·have hg : decide (0 < j) = true := decide_eq_true hj0
           have hg2 : decide ((0 : Int) < (j : Int)) = true := decide_eq_true (by omega)
           have z1 : (ofL T).size + (⟨#[32]⟩ : ByteArray).size ≤ 1000 := by rw [show (⟨#[32]⟩ : ByteArray).size = 1 from rfl]; omega
           have z2 : ((ofL T).size : Int) + ((⟨#[32]⟩ : ByteArray).size : Int) ≤ 1000 := by omega
           have z3 : (ofL T ++ (⟨#[32]⟩ : ByteArray)).size + s.size ≤ 1000 := by rw [ByteArray.size_append, show (⟨#[32]⟩ : ByteArray).size = 1 from rfl]; omega
           have z4 : ((ofL T ++ (⟨#[32]⟩ : ByteArray)).size : Int) + (s.size : Int) ≤ 1000 := by omega
           have HR1 := Aside0.mk (show (ofL T ++ (⟨#[32]⟩ : ByteArray)) ++ s = ofL (dueF X 0 (vs.take (j + 1))) by
            rw [HDT.out, if_pos hj0, h32, ofL_app, ← ofL_app _ (_ ++ _), ← ofL_app _ s.data.toList, ofL_str, ← ofL_app, ByteArray.append_assoc])
           clear hj0 h32
           go_wp2_with fail
           go_quiet (fail)
           go_wp2_with fail
           go_roundg (gk - 1)
           case measure => have := HJ.out; have := HJT.out; omega
           case rel => exact ⟨j + 1, by have := HJ.out; have := HJT.out; omega, by go_num, by rw [HR1.out], ⟨HS.out.next (pw_below_drewN (Below.refl _ _) _)⟩, ⟨HL.out⟩⟩
          ·have hg : decide (0 < j) = false := decide_eq_false hj0
           have hg2 : decide ((0 : Int) < (j : Int)) = false := decide_eq_false (by omega)
           have z3 : (ofL T).size + s.size ≤ 1000 := by omega
           have z4 : ((ofL T).size : Int) + (s.size : Int) ≤ 1000 := by omega
           have HR1 := Aside0.mk (show ofL T ++ s = ofL (dueF X 0 (vs.take (j + 1))) by
            rw [HDT.out, if_neg hj0, List.nil_append, ← ofL_app, ofL_str])
           clear hj0 h32
           go_wp2_with fail
           go_quiet (fail)
           go_wp2_with fail
           go_roundg (gk - 1)
           case measure => have := HJ.out; have := HJT.out; omega
           case rel => exact ⟨j + 1, by have := HJ.out; have := HJT.out; omega, by go_num, by rw [HR1.out], ⟨HS.out.next (pw_below_drewN (Below.refl _ _) _)⟩, ⟨HL.out⟩⟩
         ·have hz : ¬ (j : Int) < (vs.length : Int) := by omega
          have hd : decide (j < vs.length) = false := decide_eq_false hlt
          have hd2 : decide ((j : Int) < (vs.length : Int)) = false := decide_eq_false hz
          rw [show vs.take j = vs from List.take_of_length_le (by omega)]
          clear hj hlt g0
          go_wp2_with fail
          go_roundg (go - 1)
          case measure => have := HI.out; have := HLT.out; have := HGO.out; omega
          case rel => exact ⟨k + 1, by have := HI.out; have := HLT.out; have := HGO.out; omega, by have := HW.out; go_num, HS, HL⟩
     ·have hz : ¬ (k : Int) < (L.length : Int) := by omega
      have hd : decide (k < L.length) = false := decide_eq_false hlt
      have hd2 : decide ((k : Int) < (L.length : Int)) = false := decide_eq_false hz
      clear hi hlt
      go_wp2_with first
       | (go_at_call 13; refine (awake_calls _).mono ?_; rintro e w10 ⟨rfl, hb⟩; have HS10 := Aside0.mk (HS.out.next hb); clear hb)
       | fail
      go_ret
      exact ⟨rfl, HS10.out.below⟩
end Go.Proofs.Ytkfebceainedfaa.P.OwnGap
namespace Go.Proofs.YtkfebceainedfaaW.PrintWords
open Go.ChangeShapes Go.WideShapes
theorem sized_ints {H : Type} {enc : TypeId × Value → H} {P : Program} {W : World} {base : Nat} {spare : Nat → Bool} {held : Bool} {t e : TypeId} {k : IntKind} {a : Option Addr} {len cap : Nat} {d : DataW H} {ps : List MemPlace} {ts : List TypeId} {ds : List (DataW H)} {j : Nat}
  (hsz : (DataW.weightsEach P ts ds).all (· ≤ reachBytes) = true) (ht : ts[j]? = some t) (hd : ds[j]? = some d) (hu : P.underlying t = some (.slice e)) (he : P.underlying e = some (.int k)) (hc : P.cellsOf e = 1) {B : Nat} (hB : P.bytesOf e = B)
  (h : DataW.Trod enc P W base spare held t (.slice a len cap) d ps) : len * B ≤ 140737488351232 := by
 obtain ⟨fuel, hf⟩ := h
 rcases open_ints hu he hc hf with ⟨hcs, _⟩ | ⟨x, l, c, zs, hcs, _, hl, _, hz, hx, _, _⟩
 ·simp [Value.cells] at hcs
  obtain ⟨rfl, rfl, rfl⟩ := hcs
  simp
 ·simp [Value.cells] at hcs
  obtain ⟨rfl, rfl, rfl⟩ := hcs
  obtain ⟨hx, _⟩ := Prod.mk.inj hx
  subst hx
  have z := sized_slice hsz ht hd hu
  rw [hB] at z
  have hl2 : len ≤ zs.length := by
   rw [hz]
   split
   ·exact hl
   ·exact Nat.le_refl _
  have h1 : (lits (H := H) k (zs.take len)).length + (lits (H := H) k (zs.drop len)).length = zs.length := by
   simp [lits]
   omega
  rw [h1] at z
  exact Nat.le_trans (Nat.mul_le_mul_right _ hl2) z
end Go.Proofs.YtkfebceainedfaaW.PrintWords
