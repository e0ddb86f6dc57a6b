/- Lemmas for the statement GapOutside of the given program, for every input that its row lets in. Conditions: none beyond those that each lemma tells. -/
import Derived.Sort.CutIn
import Derived.Shelf.Abstract
import Derived.Deep.LoopGhost
import Derived.Deep.RegionHeld3
import Derived.Laws.Rows
import Derived.Test.YtkfebceainedfaaMGapOutside3
set_option linter.unusedVariables false
set_option linter.unusedSimpArgs false
namespace Go.Proofs.Ytkfebceainedfaa.P.OwnGap
open Go.RowKit Go.Proofs.YtkfebceainedfaaW.PrintWords Go.Proofs.YtkfebceainedfaaW.PrintLast Go.Proofs.YtkfebceainedfaaW.PrintMore
open Go.Proofs.Ytkfebceainedfaa.OwnGap
set_option linter.unusedVariables false
set_option linter.unusedSimpArgs false
structure OkD (X : Lx) (p : Pth) : Prop where
 i : p.i ≤ X.r.length
 m : p.m ≤ 1000
 g : p.fs.length + ((List.range' p.i (X.r.length - p.i)).filter (rwOf X).gap).length ≤ 3
theorem OkD.room {X : Lx} {p : Pth} (h : OkD X p) (hl : p.i < X.r.length) (hg : (rwOf X).gap p.i = true) : p.fs.length < 3 := by
 have := h.g
 obtain ⟨d, hd⟩ : ∃ d, X.r.length - p.i = d + 1 := ⟨X.r.length - p.i - 1, by omega⟩
 rw [hd, List.range'_succ, List.filter_cons_of_pos hg, List.length_cons] at this
 omega
theorem OkD.next {X : Lx} {p : Pth} (h : OkD X p) (hs : shutB (rwOf X) p = true) : OkD X (shutP (rwOf X) p) := by
 have hp : shutP (rwOf X) p = ⟨p.i + 1, 0, 0, 0, p.fs ++ [(p.m : Int)]⟩ := if_pos hs
 have hs' : p.i < X.r.length ∧ (rwOf X).gap p.i = true := by
  unfold shutB at hs
  rw [Bool.and_eq_true, Bool.and_eq_true] at hs
  exact ⟨of_decide_eq_true hs.1, hs.2.1⟩
 rw [hp]
 refine ⟨by show p.i + 1 ≤ X.r.length; omega, by show 0 ≤ 1000; omega, ?_⟩
 have := h.g
 obtain ⟨d, hd⟩ : ∃ d, X.r.length - p.i = d + 1 := ⟨X.r.length - p.i - 1, by omega⟩
 show (p.fs ++ [(p.m : Int)]).length + ((List.range' (p.i + 1) (X.r.length - (p.i + 1))).filter (rwOf X).gap).length ≤ 3
 rw [hd, List.range'_succ, List.filter_cons_of_pos hs'.2, List.length_cons] at this
 rw [show X.r.length - (p.i + 1) = d by omega, List.length_append, List.length_singleton]
 omega
theorem doneP_shut {R : Rw} {p : Pth} (hl : p.i < R.n) : doneP R p = if shutB R p = true then doneP R (shutP R p) else none := by
 obtain ⟨d, hd⟩ : ∃ d, R.n - p.i = d + 1 := ⟨R.n - p.i - 1, by omega⟩
 have hb : shutB R p = (R.gap p.i && okW R p.i p.l p.h) := by
  unfold shutB
  rw [decide_eq_true hl]
  rfl
 by_cases hs : shutB R p = true
 ·have hp : shutP R p = ⟨p.i + 1, 0, 0, 0, p.fs ++ [(p.m : Int)]⟩ := if_pos hs
  rw [if_pos hs, hp]
  unfold doneP
  rw [hd, doneF]
  rw [hb, Bool.and_eq_true] at hs
  rw [if_pos hs, show R.n - (p.i + 1) = d by omega]
 ·rw [if_neg hs]
  unfold doneP
  rw [hd, doneF]
  rw [hb, Bool.and_eq_true] at hs
  rw [if_neg hs]
theorem doneP_end {R : Rw} {p : Pth} (hl : p.i = R.n) : doneP R p = some p.fs := by
 unfold doneP
 rw [hl, Nat.sub_self]
 rfl
theorem set8_far {W : World} {b g t : Nat} {cs : Array Value} (h : W.heap[b]? = some (.cells cs t (0, 0))) (hb : b ≠ g) (u0 u1 u2 u3 u4 u5 u6 u7 : Value) : ((((((((W.setCell ⟨g, 0, none⟩ u0).setCell ⟨g, 1, none⟩ u1).setCell ⟨g, 2, none⟩ u2).setCell ⟨g, 3, none⟩ u3).setCell ⟨g, 4, none⟩ u4).setCell ⟨g, 5, none⟩ u5).setCell ⟨g, 6, none⟩ u6).setCell ⟨g, 7, none⟩ u7).heap[b]? = some (.cells cs t (0, 0)) :=
 blk_far (blk_far (blk_far (blk_far (blk_far (blk_far (blk_far (blk_far h hb _) hb _) hb _) hb _) hb _) hb _) hb _) hb _
theorem PB.next {w wx wy : World} {p : Pth} (h : PB w wx p) (hb : Below wx.heap.size wx wy) : PB w wy p := ⟨h.below.trans (hb.mono h.below.size), blk_below h.pat hb, let ⟨q, hq⟩ := h.res; ⟨q, blk_below hq hb⟩⟩
theorem PB.put {w wx : World} {p q : Pth} (h : PB w wx p) {u0 u1 u2 u3 u4 u5 u6 u7 : Value} (hu : pC q = #[u0, u1, u2, u3, u4, u5, u6, u7]) : PB w ((((((((wx.setCell ⟨w.heap.size, 0, none⟩ u0).setCell ⟨w.heap.size, 1, none⟩ u1).setCell ⟨w.heap.size, 2, none⟩ u2).setCell ⟨w.heap.size, 3, none⟩ u3).setCell ⟨w.heap.size, 4, none⟩ u4).setCell ⟨w.heap.size, 5, none⟩ u5).setCell ⟨w.heap.size, 6, none⟩ u6).setCell ⟨w.heap.size, 7, none⟩ u7) q :=
 ⟨set8_below h.below (Nat.le_refl _) _ _ _ _ _ _ _ _, by unfold PAt; rw [hu]; exact set8_blk (show wx.heap[w.heap.size]? = some (.cells #[_, _, _, _, _, _, _, _] 154 (0, 0)) from h.pat) _ _ _ _ _ _ _ _, let ⟨z, hz⟩ := h.res; ⟨z, set8_far hz (by simp) _ _ _ _ _ _ _ _⟩⟩
structure RelD (X : Lx) (w wr : World) (p q : Pth) (b : Bool) : Prop where
 pb : PB w wr q
 ok : OkD X q
 h : doneP (rwOf X) p = if b = true then doneP (rwOf X) q else none
def DoneOut (X : Lx) (p : Pth) (w : World) (e : Ending) (w' : World) : Prop := ∃ (q : Pth) (b : Bool), e = .returned (.tuple #[.agg (pC q), .bool b]) ∧ (doneP (rwOf X) p = if b = true then some q.fs else none) ∧ (b = true → q.fs.length ≤ 3) ∧ Below w.heap.size w w'
def mD (n b : Nat) (v : Value) (wr : World) : Nat :=
 match v, wr.cell? ⟨b, 0, none⟩ with
 | .bool true, some (.int _ i) => 1 + (n - i.toNat)
 | _, _ => 0
theorem mD_true {n : Nat} {w wr : World} {q : Pth} (h : PB w wr q) : mD n w.heap.size (.bool true) wr = 1 + (n - q.i) := by
 unfold mD
 rw [h.pat.cells.1]
 simp
theorem mD_false {n b : Nat} {wr : World} : mD n b (.bool false) wr = 0 := by
 unfold mD
 rfl
set_option maxHeartbeats 1000000 in
set_option maxRecDepth 100000 in
theorem done_calls (X : Lx) (S : SV) (fits : List Int) (hn : X.r.length ≤ 1000) (p : Pth) (w : World) (hS : SrW X S fits w) (hO : OkD X p) :
  Calls Try.prog 97 #[.pointer (some ⟨S.b, 0, none⟩), .agg (pC p)] w (DoneOut X p w) := by
 have HS := Aside0.mk hS
 have HOP := Aside0.mk hO
 clear hS hO
 unfold pC
 go_enter Try.func97, Try.ntmps97
 go_wp2
 go_loopw [6] (fun v wr => ∃ (q : Pth) (b : Bool), v = .bool b ∧ Aside0 (RelD X w wr p q b)) (fun v wr => mD X.r.length w.heap.size v wr)
 case atStart => exact ⟨p, true, rfl, ⟨⟨PB.start w p, HOP.out, rfl⟩⟩⟩
 case round =>
  obtain ⟨q, b, rfl, HR⟩ := hrel
  have HB := Aside0.mk HR.out.pb
  have HO := Aside0.mk HR.out.ok
  have HD := Aside0.mk HR.out.h
  clear HR
  rcases b with _ | _
  ·have HFIN := Aside0.mk (show doneP (rwOf X) p = none from HD.out)
   have HLEN := Aside0.mk (show q.fs.length ≤ 3 ∨ True from .inr trivial)
   obtain ⟨e0, e1, e2, e3, e4, e5, e6, e7⟩ := HB.out.pat.cells
   have hpl := blk_lt HB.out.pat
   obtain ⟨z, hz⟩ := HB.out.res
   obtain ⟨⟨q0, q1, q2, q3, q4, q5, q6, q7⟩, f0, f1, f2, f3, f4, f5, f6, f7⟩ := res_cells hz
   have hql := blk_lt hz
   have HZ := Aside0.mk hz
   clear hz
   go_wp2_with (first | (go_quiet (fail); clear f0 f1 f2 f3 f4 f5 f6 f7 q0 q1 q2 q3 q4 q5 q6 q7; obtain ⟨⟨q0, q1, q2, q3, q4, q5, q6, q7⟩, f0, f1, f2, f3, f4, f5, f6, f7⟩ := res_cells (show (wr.drewN nq).heap[w.heap.size + 1]? = _ from HZ.out)) | fail)
   refine bodyPost_ret (results_ct rfl _ _ (w.heap.size + 1) 154 _ (0, 0) _ rfl (set8_blk HZ.out _ _ _ _ _ _ _ _) Try.underlying154 rfl (by kernel_rfl)) rfl ⟨q, false, rfl, HFIN.out.trans rfl, fun h => absurd h (by decide), set8_below (HB.out.drewN _).below (by omega) _ _ _ _ _ _ _ _⟩
  ·have hS2 := HS.out.below HB.out.below
   have hc5 := hS2.cell 5 hS2.e5
   have hbl := blk_lt hS2.blk
   clear hS2
   by_cases hlt : q.i < X.r.length
   ·have hl1 : decide ((q.i : Int) < (X.r.length : Int)) = true := decide_eq_true (by omega)
    have HLT := Aside0.mk hlt
    obtain ⟨e0, e1, e2, e3, e4, e5, e6, e7⟩ := HB.out.pat.cells
    have HSH := Aside0.mk (show ∀ (W : World) (h : SrW X S fits W), Calls Try.prog 90 #[.pointer (some ⟨S.b, 0, none⟩), .agg (pC q)] W fun e w' => e = .returned (.tuple #[.agg (pC (shutP (rwOf X) q)), .bool (shutB (rwOf X) q)]) ∧ Below W.heap.size W w' from
     fun W h => shut_calls X S fits q W h HO.out.i hn HO.out.m (fun hl hg => HO.out.room hl hg))
    obtain ⟨q2, hq2⟩ : ∃ q2, q2 = shutP (rwOf X) q := ⟨_, rfl⟩
    obtain ⟨b2, hb2⟩ : ∃ b2, b2 = shutB (rwOf X) q := ⟨_, rfl⟩
    rw [← hq2, ← hb2] at HSH
    have HQ2 := Aside0.mk hq2
    have HB2 := Aside0.mk hb2
    clear hq2 hb2
    have hpl := blk_lt HB.out.pat
    go_wp2_with (first | (go_at_call 90; refine (HSH.out _ (HS.out.below (HB.out.drewN _).below)).mono ?_; rintro e w2 ⟨rfl, hB2⟩; unfold pC; have HB3 := Aside0.mk ((HB.out.drewN _).next hB2); clear hB2 e0 e1 e2 e3 e4 e5 e6 e7 hpl; obtain ⟨⟨e0, e1, e2, e3, e4, e5, e6, e7⟩, g0, g1, g2, g3, g4, g5, g6, g7⟩ := cells8 (show w2.heap[w.heap.size]? = some (.cells #[_, _, _, _, _, _, _, _] 154 (0, 0)) from HB3.out.pat); have hpl := blk_lt HB3.out.pat) | go_quiet (fail) | fail)
    have HP := HB3.out.put (q := q2) rfl
    refine ⟨⟨q2, b2, rfl, ⟨⟨HP, ?_, ?_⟩⟩⟩, ?_⟩
    ·rcases hbb : b2 with _ | _
     ·have h2 : shutB (rwOf X) q = false := by rw [← HB2.out]; exact hbb
      rw [HQ2.out, show shutP (rwOf X) q = q from if_neg (by rw [h2]; decide)]
      exact HO.out
     ·rw [HQ2.out]
      exact HO.out.next (by rw [← HB2.out]; exact hbb)
    ·rw [HD.out]
     simp only [if_true]
     rw [doneP_shut (show q.i < (rwOf X).n from HLT.out), ← HB2.out, ← HQ2.out]
    ·rw [mD_true HB.out]
     rcases hbb : b2 with _ | _
     ·rw [mD_false]; omega
     ·rw [mD_true HP, HQ2.out, show shutP (rwOf X) q = ⟨q.i + 1, 0, 0, 0, q.fs ++ [(q.m : Int)]⟩ from if_pos (by rw [← HB2.out]; exact hbb)]
      have := HLT.out
      show 1 + (X.r.length - (q.i + 1)) < _
      omega
   ·have hl1 : decide ((q.i : Int) < (X.r.length : Int)) = false := decide_eq_false (by omega)
    have HFIN := Aside0.mk (show doneP (rwOf X) p = some q.fs by
     rw [HD.out, if_pos rfl]
     exact doneP_end (by have := HO.out.i; show q.i = X.r.length; omega))
    have HLEN := Aside0.mk (show q.fs.length ≤ 3 by have := HO.out.g; omega)
    obtain ⟨e0, e1, e2, e3, e4, e5, e6, e7⟩ := HB.out.pat.cells
    have hpl := blk_lt HB.out.pat
    obtain ⟨z, hz⟩ := HB.out.res
    obtain ⟨⟨q0, q1, q2, q3, q4, q5, q6, q7⟩, f0, f1, f2, f3, f4, f5, f6, f7⟩ := res_cells hz
    have hql := blk_lt hz
    have HZ := Aside0.mk hz
    clear hz
    go_wp2_with (first | (go_quiet (fail); clear f0 f1 f2 f3 f4 f5 f6 f7 q0 q1 q2 q3 q4 q5 q6 q7; obtain ⟨⟨q0, q1, q2, q3, q4, q5, q6, q7⟩, f0, f1, f2, f3, f4, f5, f6, f7⟩ := res_cells (show (wr.drewN nq).heap[w.heap.size + 1]? = _ from HZ.out)) | fail)
    refine bodyPost_ret (results_ct rfl _ _ (w.heap.size + 1) 154 _ (0, 0) _ rfl (set8_blk HZ.out _ _ _ _ _ _ _ _) Try.underlying154 rfl (by kernel_rfl)) rfl ⟨q, true, rfl, HFIN.out.trans rfl, fun _ => HLEN.out, set8_below (HB.out.drewN _).below (by omega) _ _ _ _ _ _ _ _⟩
end Go.Proofs.Ytkfebceainedfaa.P.OwnGap
namespace Go.Proofs.Ytkfebceainedfaa.P.OwnGap
open Go.RowKit Go.Shelf Go.Proofs.YtkfebceainedfaaW.PrintWords Go.Proofs.YtkfebceainedfaaW.PrintLast Go.Proofs.YtkfebceainedfaaW.PrintMore
open Go.Proofs.Ytkfebceainedfaa.OwnGap
set_option linter.unusedVariables false
set_option linter.unusedSimpArgs false
structure AB (X : Lx) (S : SV) (fits : List Int) (w : World) (p : Pth) (k f : Int) (wx : World) : Prop where
 aw : AW X S fits wx
 gr : w.grownBy wx (some S.mb)
 hs : SpAt wx w.heap.size S
 hx : StAt wx (w.heap.size + 1) p k f
theorem AB.start {X : Lx} {S : SV} {fits : List Int} {w : World} (h : AW X S fits w) (p : Pth) (k f : Int) : AB X S fits w p k f ((w.alloc (.cells #[.pointer (some ⟨S.b, 0, none⟩)] 92)).alloc (.cells (stC p k f) 139)) :=
 have hb : Below w.heap.size w ((w.alloc (.cells #[.pointer (some ⟨S.b, 0, none⟩)] 92)).alloc (.cells (stC p k f) 139)) := ((Below.refl _ _).alloc (Nat.le_refl _) _).alloc (by simp) _
 ⟨h.below hb, grown_below hb _, blk_alloc (blk_new w _) _, by
  have h2 := blk_new (w.alloc (.cells #[.pointer (some ⟨S.b, 0, none⟩)] 92)) (.cells (stC p k f) 139)
  rw [World.size_alloc] at h2
  exact h2⟩
theorem AB.next {X : Lx} {S : SV} {fits : List Int} {w wx wy : World} {p : Pth} {k f : Int} (h : AB X S fits w p k f wx) (hb : Below wx.heap.size wx wy) : AB X S fits w p k f wy :=
 ⟨h.aw.below hb, grown_trans h.gr (grown_below hb _), blk_below h.hs hb, blk_below h.hx hb⟩
theorem AB.alloc {X : Lx} {S : SV} {fits : List Int} {w wx : World} {p : Pth} {k f : Int} (h : AB X S fits w p k f wx) (o : Obj) : AB X S fits w p k f (wx.alloc o) := h.next ((Below.refl _ _).alloc (Nat.le_refl _) _)
theorem AB.drewN {X : Lx} {S : SV} {fits : List Int} {w wx : World} {p : Pth} {k f : Int} (h : AB X S fits w p k f wx) (n : Nat) : AB X S fits w p k f (wx.drewN n) := h.next (pw_below_drewN (Below.refl _ _) n)
theorem AB.grown {X : Lx} {S : SV} {fits : List Int} {w wx wy : World} {p : Pth} {k f : Int} (h : AB X S fits w p k f wx) (hg : wx.grownBy wy (some S.mb)) (ha : AW X S fits wy) : AB X S fits w p k f wy :=
 ⟨ha, grown_trans h.gr hg, h.aw.keep hg h.hs, h.aw.keep hg h.hx⟩
def aliveW (X : Lx) (p : Pth) (k : Nat) (f : Int) (w : S53) : Bool := mayV X k f w.f1 && (wordF (rwOf X) [spotP p] (bytesOf w.f0)).any fun q => aliveV X q (k + 1) w.f1
theorem aliveV_words (X : Lx) (p : Pth) (k : Nat) (f : Int) : aliveV X p k f = (endV X p k f || X.l0.any (aliveW X p k f)) := aliveV_step X p k f
theorem any_take_succ {α : Type} (F : α → Bool) (l : List α) (j : Nat) (hj : j < l.length) : (l.take (j + 1)).any F = ((l.take j).any F || F l[j]) := by
 rw [List.take_add_one, List.getElem?_eq_getElem hj, List.any_append]
 simp
theorem any_of_take {α : Type} {F : α → Bool} {l : List α} {j : Nat} (h : (l.take j).any F = true) : l.any F = true := by
 rw [List.any_eq_true] at h ⊢
 obtain ⟨x, hx, h⟩ := h
 exact ⟨x, List.mem_of_mem_take hx, h⟩
theorem rd53 (l : List S53) (j : Nat) (hj : j < l.length) : rd_T53 l (j : Int) = l[j] := by
 unfold rd_T53
 simp [List.getD_eq_getElem?_getD, hj]
theorem word_full (X : Lx) (S : SV) (fits : List Int) (hX : OkX X fits) (hL : OkL X) (l : List Pth) (hl : ∀ q ∈ l, OkP X q) (hn : cntL (rwOf X) l 8 ≤ 1000000000) (j : Nat) (hj : j < X.l0.length) (A : Option Addr) (c : Nat) (hlc : l.length ≤ c) (w : World) (hS : SrW X S fits w) (hrow : Kd.C kP w A l.length l) :
  Calls Try.prog 99 #[.pointer (some ⟨S.b, 0, none⟩), .slice A l.length c, .string (rd_T53 X.l0 (j : Int)).f0] w fun e w' => ∃ v, e = .returned v ∧ PR w w' v (wordF (rwOf X) l (bytesOf (rd_T53 X.l0 (j : Int)).f0)) ∧ Below w.heap.size w w' := by
 have h1 := hL.wd j hj
 have h2 := hL.lt j hj
 exact word_calls X S fits hX.n ⟨fun a h3 h4 p w hS hO => letter_calls X S fits ⟨hX⟩ a h3 h4 _ p w rfl hS hO⟩ _ h1.1 (by omega) ⟨h2⟩ A c l hlc w hS hrow ⟨wk_ok hX l hl hn _ h1.2.1 h2⟩
theorem word_okP {X : Lx} {fits : List Int} (hX : OkX X fits) (hL : OkL X) (l : List Pth) (hl : ∀ q ∈ l, OkP X q) (j : Nat) (hj : j < X.l0.length) : ∀ q ∈ wordF (rwOf X) l (bytesOf (rd_T53 X.l0 (j : Int)).f0), OkP X q :=
 wordF_ok X hX.ww _ l (take_bytes (hL.lt j hj)) hl
theorem word_len {X : Lx} {fits : List Int} (hX : OkX X fits) (hL : OkL X) (l : List Pth) (hl : ∀ q ∈ l, OkP X q) (hn : cntL (rwOf X) l 8 ≤ 1000000000) (j : Nat) (hj : j < X.l0.length) : (wordF (rwOf X) l (bytesOf (rd_T53 X.l0 (j : Int)).f0)).length ≤ 1000000000 := by
 have h := (wk_ok hX l hl hn (rd_T53 X.l0 (j : Int)).f0 (hL.wd j hj).2.1 (hL.lt j hj) _ (Nat.le_refl _)).1
 rwa [wk_all] at h
theorem keyOf_spot {X : Lx} {fits : List Int} (hX : OkX X fits) (hL : OkL X) {p : Pth} (hp : OkP X (spotP p)) {f : Int} (hf0 : 0 ≤ f) (hf1 : f < X.l1.length) (k : Nat) (hk : k ≤ 8) : ∃ t, Go.keyOf Try.prog 139 (stV p.i p.m p.l p.h (k : Int) f) = some t := by
 have h1 : p.i ≤ X.r.length := hp.i
 have h2 : p.m ≤ 10 := hp.m
 have h3 : 0 ≤ p.l := hp.l0
 have h4 : p.l ≤ p.m * 1000 := hp.l1
 have h5 : 0 ≤ p.h := hp.h0
 have h6 : p.h ≤ p.m * 1000 := hp.h1
 have h7 := hX.n
 have h8 := hL.f8
 refine keyOf_state _ _ _ _ _ _ ?_ ?_ ?_ ?_ ?_ ?_ <;> (unfold w64; omega)
set_option maxHeartbeats 4000000 in
set_option maxRecDepth 100000 in
theorem alive_step (X : Lx) (S : SV) (fits : List Int) (hX : OkX X fits) (hL : OkL X) (k : Nat) (hk : k ≤ 8) (hRec : k < 8 → Rec X S fits (k + 1) ((k : Int) + 1)) : Rec X S fits k (k : Int) := by
 intro p f hf0 hf1 hp w hw
 have HX := Aside0.mk hX
 have HL := Aside0.mk hL
 have HREC := Aside0.mk hRec
 have HP := Aside0.mk hp
 have HS := Aside0.mk (AB.start hw p (k : Int) f)
 obtain ⟨lit, hlit⟩ := keyOf_spot hX hL hp hf0 hf1 k hk
 have HLIT := Aside0.mk hlit
 obtain ⟨av, hav⟩ : ∃ av, av = aliveV X p k f := ⟨_, rfl⟩
 have HAV := Aside0.mk hav
 rw [← hav]
 clear hX hL hRec hp hw hlit hav
 unfold stC
 go_enter Try.func102, Try.ntmps102
 go_upto_region 1 with fail
 refine wp_gen (fun wx => Aside0 (AB X S fits w p (k : Int) f wx)) HS ?_
 clear HS
 rintro wx HB
 have hs := HB.out.hs.cell
 have hl1 := blk_lt HB.out.hs
 obtain ⟨x0, x1, x2, x3, x4, x5⟩ := HB.out.hx.cells
 have hl2 := blk_lt HB.out.hx
 have e59 := HB.out.aw.sr.cell 59 HB.out.aw.sr.em
 have hl3 := blk_lt HB.out.aw.sr.blk
 have hz : (zeroValue 4).run Try.prog wx.drew = .ok (.bool false) wx.drew := by kernel_rfl
 obtain ⟨v, b, hlook, hv⟩ := (HB.out.aw.memo.keep (W' := wx.drew) rfl).look law139 (T := 126) (by kernel_rfl) hz HLIT.out
 have hlk := hlook true
 simp only [if_true, stV] at hlk
 clear hlook hz
 have HV := Aside0.mk hv
 clear hv
 go_region
 refine wp_gen' (fun wy => Aside0 (AB X S fits w p (k : Int) f wy)) ⟨HB.out.next ((Below.refl _ _).drew)⟩ ?_
 clear hs hl1 x0 x1 x2 x3 x4 x5 hl2 e59 hl3 hlk
 have HV2 := Aside0.mk (show (b = true ∧ v = .bool av) ∨ (b = false ∧ v = .bool false) by
  rcases HV.out with ⟨h1, h2, _⟩ | ⟨h1, h2, _⟩
  ·exact .inl ⟨h1, by rw [HAV.out]; exact h2.at_key⟩
  ·exact .inr ⟨h1, h2⟩)
 clear HB HV
 rintro wy HB
 clear wx
 rcases HV2.out with ⟨rfl, rfl⟩ | ⟨rfl, rfl⟩
 ·clear HV2
  go_wp2_with fail
  go_ret
  exact ⟨rfl, HB.out.aw, HB.out.gr⟩
 clear HV2
 obtain ⟨lb, hlb⟩ : ∃ lb, lb = (decide (0 < k) && rdOf false X.l2 f) := ⟨_, rfl⟩
 have HLB := Aside0.mk hlb
 clear hlb
 go_upto_region 5 with fail
 go_cut [7, 34] (fun s7 s34 wx => s7 = .bool false ∧ s34 = .bool lb ∧ Aside0 (AB X S fits w p (k : Int) f wx))
 case first =>
  have hs := HB.out.hs.cell
  have hl1 := blk_lt HB.out.hs
  obtain ⟨x0, x1, x2, x3, x4, x5⟩ := HB.out.hx.cells
  have hl2 := blk_lt HB.out.hx
  by_cases hk0 : k = 0
  ·have hd1 : decide (0 < k) = false := decide_eq_false (by omega)
   have HE := Aside0.mk (show lb = false by rw [HLB.out, hd1]; rfl)
   clear hk0
   go_wp2_with first | go_quiet (fail) | fail
   refine Met.intro ?_
   go_step
   (repeat apply Exists.intro)
   refine ⟨?_, rfl⟩
   exact ⟨rfl, by rw [HE.out], ⟨HB.out.drewN _⟩⟩
  ·have hd1 : decide (0 < k) = true := decide_eq_true (by omega)
   have hfl : f < (X.l2.length : Int) := by rw [HL.out.l2]; exact hf1
   obtain ⟨a2, eA2, y2⟩ := Kd.at_bool HB.out.aw.sr.h2 f hf0 hfl
   have c2 := HB.out.aw.sr.cell 2 HB.out.aw.sr.e2
   rw [eA2] at c2
   have hl3 := blk_lt HB.out.aw.sr.blk
   have hl4 := World.block_lt_of_cell? wy _ y2
   have HE := Aside0.mk (show lb = rdOf false X.l2 f by rw [HLB.out, hd1]; rfl)
   rw [← HE.out] at y2
   clear hk0 eA2
   go_wp2_with first | go_quiet (fail) | fail
   refine Met.intro ?_
   go_step
   (repeat apply Exists.intro)
   refine ⟨?_, rfl⟩
   exact ⟨rfl, rfl, ⟨HB.out.drewN _⟩⟩
 case rest =>
  obtain ⟨rfl, rfl, HB1⟩ := hcut
  clear HB
  obtain ⟨eb, heb⟩ : ∃ eb, eb = endV X p k f := ⟨_, rfl⟩
  have HEB := Aside0.mk heb
  clear heb
  go_upto_if 34 with fail
  go_cut [7] (fun s7 wx => s7 = .bool eb ∧ Aside0 (AB X S fits w p (k : Int) f wx))
  case first =>
   cases lb with
   | false =>
    have HE := Aside0.mk (show eb = false by rw [HEB.out]; unfold endV; rw [← Bool.and_assoc, ← HLB.out]; rfl)
    go_wp2_with fail
    refine Met.intro ?_
    go_step
    (repeat apply Exists.intro)
    refine ⟨?_, rfl⟩
    exact ⟨by rw [HE.out], HB1⟩
   | true =>
    have HD := Aside0.mk (fun (W : World) (h : SrW X S fits W) => show Calls Try.prog 97 #[.pointer (some ⟨S.b, 0, none⟩), .agg #[.int .i64 (p.i : Int), .int .i64 (p.m : Int), .int .i64 p.l, .int .i64 p.h, .int .i64 0, .int .i64 0, .int .i64 0, .int .i64 0]] W (DoneOut X (spotP p) W) from
     done_calls X S fits HX.out.n (spotP p) W h ⟨HP.out.i, by have := HP.out.m; omega, HP.out.g⟩)
    have hs := HB1.out.hs.cell
    have hl1 := blk_lt HB1.out.hs
    obtain ⟨x0, x1, x2, x3, x4, x5⟩ := HB1.out.hx.cells
    have hl2 := blk_lt HB1.out.hx
    go_wp2_with (go_at_call 97; refine (HD.out _ HB1.out.aw.sr).mono ?_; rintro e w2 ⟨q, db, rfl, hd, -, hB2⟩; have HB2 := Aside0.mk (HB1.out.next hB2); have HDB := Aside0.mk hd; clear hd hB2; unfold pC)
    refine Met.intro ?_
    go_step
    (repeat apply Exists.intro)
    refine ⟨?_, rfl⟩
    refine ⟨?_, HB2⟩
    rw [HEB.out]
    unfold endV
    rw [← Bool.and_assoc, ← HLB.out, HDB.out]
    cases db <;> rfl
  case rest =>
   obtain ⟨rfl, HB⟩ := hcut
   clear HB1
   have hs := HB.out.hs.cell
   have hl1 := blk_lt HB.out.hs
   have c0 := HB.out.aw.sr.cell 0 HB.out.aw.sr.e0
   obtain ⟨A0v, hA0v⟩ : ∃ A, A = S.A0 := ⟨_, rfl⟩
   rw [← hA0v] at c0
   have HA0 := Aside0.mk hA0v
   clear hA0v
   have hl3 := blk_lt HB.out.aw.sr.blk
   go_upto_block 0 with fail
   clear hs hl1 c0 hl3
   go_cut [7] (fun s7 wx => s7 = .bool av ∧ Aside0 (AB X S fits w p (k : Int) f wx))
   case first =>
    go_wp2_with fail
    go_loopg [7, 49] X.l0.length (fun n s7 s49 wr => ∃ j : Nat, j + n = X.l0.length ∧ s49 = .int .i64 (j : Int) ∧ s7 = .bool (eb || (X.l0.take j).any (aliveW X p k f)) ∧ Aside0 (AB X S fits w p (k : Int) f wr))
    case atStart => exact ⟨0, by omega, rfl, by simp, HB⟩
    case round =>
     clear HB
     obtain ⟨j, hjn, rfl, rfl, HB⟩ := hrel
     have HJN := Aside0.mk hjn
     clear hjn
     obtain ⟨ib, hib⟩ : ∃ ib, ib = (eb || (X.l0.take j).any (aliveW X p k f)) := ⟨_, rfl⟩
     rw [← hib]
     have HIB := Aside0.mk hib
     clear hib
     by_cases hj : j < X.l0.length
     ·have hn0 : (X.l0.length : Int) ≤ 1000 := by have := HL.out.n0; omega
      have hjz : (j : Int) < (X.l0.length : Int) := by omega
      have hjd : decide (j < X.l0.length) = true := decide_eq_true hj
      obtain ⟨a0, eA0, y0, y1⟩ := at_T53 HB.out.aw.sr.h0 (j : Int) (by omega) (by omega)
      simp only [Int.toNat_natCast] at y0 y1
      obtain ⟨wd, hwd⟩ : ∃ wd, wd = rd_T53 X.l0 (j : Int) := ⟨_, rfl⟩
      rw [← hwd] at y0 y1
      have HWD := Aside0.mk hwd
      rw [← HA0.out] at eA0
      subst eA0
      clear hwd
      have hl4 := World.block_lt_of_cell? wr _ y0
      go_upto_region 10 with fail
      obtain ⟨bw, hbw⟩ : ∃ b, b = wr.heap.size := ⟨_, rfl⟩
      refine wp_gen (fun wx => Aside0 (AB X S fits w p (k : Int) f wx) ∧ Aside0 (WdAt wx bw wd)) ⟨⟨HB.out.alloc _⟩, ⟨by rw [hbw]; exact blk_new wr _⟩⟩ ?_
      rw [← hbw]
      clear hbw HB y0 y1 hl4
      rintro wx ⟨HB, HBW⟩
      clear wr
      have HTS := Aside0.mk (show (eb || (X.l0.take (j + 1)).any (aliveW X p k f)) = (ib || aliveW X p k f wd) by
       rw [any_take_succ _ _ _ hj, ← Bool.or_assoc, ← HIB.out, HWD.out, rd53 _ _ hj])
      have HJ := Aside0.mk hj
      cases ib with
      | true =>
       have HA := Aside0.mk (show true = av by
        rw [HAV.out, aliveV_words, ← HEB.out]
        have h1 := HIB.out
        cases heb2 : eb with
        | true => rfl
        | false =>
         rw [heb2, Bool.false_or] at h1
         rw [any_of_take h1.symm]
         rfl)
       go_wp2_with fail
       refine Met.intro ?_
       go_step
       (repeat apply Exists.intro)
       refine ⟨?_, rfl⟩
       exact ⟨by rw [HA.out], HB⟩
      | false =>
       have hs := HB.out.hs.cell
       have hl1 := blk_lt HB.out.hs
       obtain ⟨x0, x1, x2, x3, x4, x5⟩ := HB.out.hx.cells
       have hl2 := blk_lt HB.out.hx
       obtain ⟨w0, w1⟩ := HBW.out.cells
       have hl3 := blk_lt HBW.out
       have h5 := HL.out.wd j hj
       rw [← HWD.out] at h5
       obtain ⟨h5a, h5b, h5c, h5d⟩ := h5
       have HMY := Aside0.mk (fun (W : World) (h : SrW X S fits W) => may_calls X S fits (p.i : Int) (p.m : Int) p.l p.h k f wd.f1 W h h5c h5d hf0 (by rw [HL.out.l3]; exact hf1) (by rw [HL.out.l3r f hf0 hf1]; exact h5d) (by omega))
       obtain ⟨mv, hmv⟩ : ∃ mv, mv = mayV X k f wd.f1 := ⟨_, rfl⟩
       rw [← hmv] at HMY
       have HMV := Aside0.mk hmv
       clear hmv
       have HAW := Aside0.mk (show aliveW X p k f wd = (mv && (wordF (rwOf X) [spotP p] (bytesOf wd.f0)).any fun q => aliveV X q (k + 1) wd.f1) by rw [HMV.out]; rfl)
       cases mv with
       | false =>
        go_wp2_with (go_at_call 80; refine (HMY.out _ HB.out.aw.sr).mono ?_; rintro e w2 ⟨rfl, hB2⟩; have HB2 := Aside0.mk (HB.out.next hB2); clear hB2)
        go_roundg (gk - 1)
        case measure => have := HJN.out; have := HJ.out; omega
        case rel => exact ⟨j + 1, by have := HJN.out; have := HJ.out; omega, by go_num, by rw [HTS.out, HAW.out]; rfl, HB2⟩
       | true =>
        have hk8 : k < 8 := by
         by_cases h : k < 8
         ·exact h
         ·have h2 := HMV.out
          rw [mayV_full (by omega)] at h2
          cases h2
        have HR := Aside0.mk (HREC.out hk8)
        have hok : ∀ q ∈ [spotP p], OkP X q := fun q hq => by rw [List.mem_singleton] at hq; subst hq; exact HP.out
        have hcn := Nat.le_trans (cnt_one HP.out 8 (by omega)) (show 1030301 ≤ 1000000000 by omega)
        obtain ⟨ls, hls⟩ : ∃ ls, ls = wordF (rwOf X) [spotP p] (bytesOf wd.f0) := ⟨_, rfl⟩
        have HLOK := Aside0.mk (show ∀ q ∈ ls, OkP X q by rw [hls, HWD.out]; exact word_okP HX.out HL.out _ hok j hj)
        have HLLN := Aside0.mk (show ls.length ≤ 1000000000 by rw [hls, HWD.out]; exact word_len HX.out HL.out _ hok hcn j hj)
        have HWF := Aside0.mk (fun (W : World) (b : Nat) (h : AW X S fits W) (hb : PAt W b (spotP p)) => show Calls Try.prog 99 #[.pointer (some ⟨S.b, 0, none⟩), .slice (some ⟨b, 0, none⟩) 1 1, .string wd.f0] W fun e w' => ∃ v, e = .returned v ∧ PR W w' v ls ∧ Below W.heap.size W w' by
         rw [hls, HWD.out]
         exact word_full X S fits HX.out HL.out [spotP p] hok hcn j hj (some ⟨b, 0, none⟩) 1 (Nat.le_refl _) W h.sr (C_one hb))
        rw [← hls] at HAW
        have hln := HLLN.out
        clear hls hok hcn
        go_wp2_with (first
         | (go_at_call 80; refine (HMY.out _ HB.out.aw.sr).mono ?_; rintro e w2 ⟨rfl, hB2⟩; have HB2 := Aside0.mk (HB.out.next hB2); have HBW2 := Aside0.mk (show WdAt w2 bw wd from blk_below HBW.out hB2); clear hB2 hs hl1 x0 x1 x2 x3 x4 x5 hl2 w0 w1 hl3; have hs := HB2.out.hs.cell; have hl1 := blk_lt HB2.out.hs; obtain ⟨x0, x1, x2, x3, x4, x5⟩ := HB2.out.hx.cells; have hl2 := blk_lt HB2.out.hx; obtain ⟨w0, w1⟩ := HBW2.out.cells; have hl3 := blk_lt HBW2.out)
         | (go_at_call 99; refine (HWF.out _ _ (HB2.out.alloc _).aw (blk_new w2 _)).mono ?_; rintro e w3 ⟨v, rfl, hv, hB3⟩; obtain ⟨Av, cv, rfl, hcv, hrv⟩ := Kd.R_reads hv; have HB3 := Aside0.mk ((HB2.out.alloc _).next hB3); have HBW3 := Aside0.mk (show WdAt w3 bw wd from blk_below (blk_alloc HBW2.out _) hB3); have HRV := Aside0.mk hrv; clear hB3 hv hrv))
        have HRW := Aside0.mk (fun (W : World) (hg : w3.grownBy W (some S.mb)) => C_same (d := kP) (W := w3) (W' := W) (fun _ _ h => h) (HB3.out.aw.same hg) HRV.out)
        have HCT := Aside0.mk (contains_calls 109 #[.pointer (some ⟨w.heap.size, 0, none⟩), .pointer (some ⟨w.heap.size + 1, 0, none⟩), .pointer (some ⟨bw, 0, none⟩)] (enters_of Try.func109 (by kernel_rfl) rfl) (fun q => aliveV X q (k + 1) wd.f1)
         (fun W => C9 X S fits w.heap.size (w.heap.size + 1) bw p (k : Int) f wd W ∧ w3.grownBy W (some S.mb)) Av cv ls hln w3 ⟨⟨HB3.out.aw, HB3.out.hs, HB3.out.hx, HBW3.out⟩, grown_below (Below.refl _ _) _⟩ (fun W hW => HRW.out W hW.2)
         (fun q hq W hW => (fun109_calls X S fits w.heap.size (w.heap.size + 1) bw p k f hk wd h5c h5d HR.out q (HLOK.out q hq) W hW.1).mono (fun e W' h => ⟨h.1, hW.1.grown h.2.2 h.2.1, grown_trans hW.2 h.2.2⟩)))
        obtain ⟨ab, hab⟩ : ∃ ab, ab = ls.any fun q => aliveV X q (k + 1) wd.f1 := ⟨_, rfl⟩
        rw [← hab] at HCT HAW
        clear hab
        go_at_call 108
        refine HCT.out.mono ?_
        rintro e w4 ⟨rfl, hC4, hG4⟩
        have HB4 := Aside0.mk (HB3.out.grown hG4 hC4.aw)
        clear hC4 hG4
        go_wp2_with fail
        go_roundg (gk - 1)
        case measure => have := HJN.out; have := HJ.out; omega
        case rel => exact ⟨j + 1, by have := HJN.out; have := HJ.out; omega, by go_num, by rw [HTS.out, HAW.out]; rfl, HB4⟩
     ·have hn0 : (X.l0.length : Int) ≤ 1000 := by have := HL.out.n0; omega
      have hjz : ¬ (j : Int) < (X.l0.length : Int) := by omega
      have hjd : decide (j < X.l0.length) = false := decide_eq_false hj
      have HA := Aside0.mk (show ib = av by rw [HIB.out, HAV.out, aliveV_words, ← HEB.out, List.take_of_length_le (by omega)])
      go_wp2_with fail
      refine Met.intro ?_
      go_step
      (repeat apply Exists.intro)
      refine ⟨?_, rfl⟩
      exact ⟨by rw [HA.out], HB⟩
   case rest =>
    obtain ⟨rfl, HB1⟩ := hcut
    clear HB
    have HBD := Aside0.mk (HB1.out.next ((Below.refl _ _).drew))
    obtain ⟨o, hupd, hm1, -, -⟩ := HBD.out.aw.memo.update law139 (T := 126) (E := 4) (val := .bool av) (by kernel_rfl) HLIT.out ⟨p, k, f, rfl, by rw [HAV.out]⟩
    have HM1 := Aside0.mk hm1
    simp only [stV] at hupd
    clear hm1
    have hs := HB1.out.hs.cell
    have hl1 := blk_lt HB1.out.hs
    obtain ⟨x0, x1, x2, x3, x4, x5⟩ := HB1.out.hx.cells
    have hl2 := blk_lt HB1.out.hx
    have e59 := HB1.out.aw.sr.cell 59 HB1.out.aw.sr.em
    have hl3 := blk_lt HB1.out.aw.sr.blk
    go_upto_region 14 with fail
    go_region
    go_wp2_with fail
    go_ret
    exact ⟨rfl, HBD.out.aw.put o HM1.out, grown_trans HBD.out.gr (grown_put _ _ _)⟩
theorem alive_calls (X : Lx) (S : SV) (fits : List Int) (hX : OkX X fits) (hL : OkL X) : ∀ (n k : Nat), k + n = 8 → Rec X S fits k (k : Int)
 | 0, k, hk => alive_step X S fits hX hL k (by omega) (fun h => by omega)
 | n + 1, k, hk => alive_step X S fits hX hL k (by omega) (fun h => by
  have := alive_calls X S fits hX hL n (k + 1) (by omega)
  rwa [show ((k + 1 : Nat) : Int) = (k : Int) + 1 by omega] at this)
end Go.Proofs.Ytkfebceainedfaa.P.OwnGap
namespace Go.Proofs.Ytkfebceainedfaa.P.OwnGap
open Go.RowKit Go.Shelf Go.Proofs.YtkfebceainedfaaW.PrintWords Go.Proofs.YtkfebceainedfaaW.PrintLast Go.Proofs.YtkfebceainedfaaW.PrintMore
open Go.Proofs.Ytkfebceainedfaa.OwnGap
set_option linter.unusedVariables false
set_option linter.unusedSimpArgs false
abbrev Fil := List Int × List Int
def fillK (X : Lx) (ws : List Int) (f : Int) (l : List Pth) : List Fil := fillF X (8 - ws.length) ws f l
def fillW (X : Lx) (ws : List Int) (f : Int) (l : List Pth) (x : S53 × Nat) : List Fil :=
 if mayV X ws.length f x.1.f1 = true then fillK X (ws ++ [(x.2 : Int)]) x.1.f1 ((wordF (rwOf X) l (bytesOf x.1.f0)).filter fun q => aliveV X q (ws.length + 1) x.1.f1) else []
theorem fillK_step (X : Lx) (ws : List Int) (f : Int) (l : List Pth) (hw : ws.length ≤ 8) : fillK X ws f l = endsF X ws f l ++ (X.l0.zipIdx).flatMap (fillW X ws f l) := by
 unfold fillK
 by_cases h8 : ws.length < 8
 ·obtain ⟨d, hd⟩ : ∃ d, 8 - ws.length = d + 1 := ⟨7 - ws.length, by omega⟩
  rw [hd, fillF]
  congr 1
  apply flatMap_eq
  intro x _
  unfold fillW fillK aliveV
  rw [List.length_append, List.length_singleton, show 8 - (ws.length + 1) = d by omega]
 ·rw [show 8 - ws.length = 0 by omega, fillF]
  have : (X.l0.zipIdx).flatMap (fillW X ws f l) = [] := by
   rw [List.flatMap_eq_nil_iff]
   intro x _
   unfold fillW
   rw [mayV_full (by omega)]
   rfl
  rw [this, List.append_nil]
def fillsTo (X : Lx) (ws : List Int) (f : Int) (l : List Pth) (j : Nat) : List Fil := ((X.l0.zipIdx).take j).flatMap (fillW X ws f l)
theorem fillsTo_zero (X : Lx) (ws : List Int) (f : Int) (l : List Pth) : fillsTo X ws f l 0 = [] := rfl
theorem fillsTo_succ (X : Lx) (ws : List Int) (f : Int) (l : List Pth) (j : Nat) (hj : j < X.l0.length) : fillsTo X ws f l (j + 1) = fillsTo X ws f l j ++ fillW X ws f l (rd_T53 X.l0 (j : Int), j) := by
 unfold fillsTo
 rw [List.take_add_one, List.flatMap_append]
 have h : (X.l0.zipIdx)[j]? = some (rd_T53 X.l0 (j : Int), j) := by
  rw [List.getElem?_zipIdx, List.getElem?_eq_getElem hj, rd53 _ _ hj]
  simp
 rw [h]
 simp
theorem fillsTo_all (X : Lx) (ws : List Int) (f : Int) (l : List Pth) (j : Nat) (hj : X.l0.length ≤ j) (hw : ws.length ≤ 8) : fillK X ws f l = endsF X ws f l ++ fillsTo X ws f l j := by
 rw [fillK_step X ws f l hw]
 unfold fillsTo
 rw [List.take_of_length_le (by rw [List.length_zipIdx]; exact hj)]
def endsTo (X : Lx) (ws : List Int) (l : List Pth) (j : Nat) : List Fil := ((l.take j).filterMap (doneP (rwOf X))).map fun fs => (ws, fs)
theorem endsTo_succ (X : Lx) (ws : List Int) (l : List Pth) (j : Nat) (hj : j < l.length) : endsTo X ws l (j + 1) = endsTo X ws l j ++ (match doneP (rwOf X) (l.getD j zP) with | some fs => [(ws, fs)] | none => []) := by
 unfold endsTo
 rw [List.take_add_one, List.filterMap_append, List.map_append, List.getElem?_eq_getElem hj, List.getD_eq_getElem?_getD, List.getElem?_eq_getElem hj]
 congr 1
 simp only [Option.toList, Option.getD_some, List.filterMap_cons, List.filterMap_nil]
 cases doneP (rwOf X) l[j] <;> rfl
theorem endsTo_all (X : Lx) (ws : List Int) (f : Int) (l : List Pth) (j : Nat) (hj : l.length ≤ j) (hc : (decide (0 < ws.length) && rdOf false X.l2 f) = true) : endsF X ws f l = endsTo X ws l j := by
 unfold endsF endsTo
 rw [if_pos hc, List.take_of_length_le hj]
theorem endsF_none (X : Lx) (ws : List Int) (f : Int) (l : List Pth) (hc : (decide (0 < ws.length) && rdOf false X.l2 f) = false) : endsF X ws f l = [] := by
 unfold endsF
 rw [if_neg (by rw [hc]; decide)]
structure KpF (n0 : Nat) (W W' : World) : Prop where
 os : W'.os = W.os
 tape : W'.tape = W.tape
 output : W'.output = W.output
 size : W.heap.size ≤ W'.heap.size
 block : ∀ (k : Nat) (o : Obj), W.heap[k]? = some o → (k < n0 ∨ ∃ c t fr, o = .cells c t fr ∧ t ≠ 31 ∧ t ≠ 37) → W'.heap[k]? = some o
structure WK (n0 mb : Nat) (W W' : World) : Prop where
 os : W'.os = W.os
 tape : W'.tape = W.tape
 output : W'.output = W.output
 size : W.heap.size ≤ W'.heap.size
 block : ∀ (k : Nat) (o : Obj), W.heap[k]? = some o → k ≠ mb → (k < n0 ∨ ∃ c t fr, o = .cells c t fr ∧ t ≠ 31 ∧ t ≠ 37) → W'.heap[k]? = some o
section
variable {n0 mb : Nat} {W W' W'' : World}
theorem KpF.refl (n0 : Nat) (W : World) : KpF n0 W W := ⟨rfl, rfl, rfl, Nat.le_refl _, fun _ _ h _ => h⟩
theorem KpF.trans (h : KpF n0 W W') (k : KpF n0 W' W'') : KpF n0 W W'' := ⟨k.os.trans h.os, k.tape.trans h.tape, k.output.trans h.output, Nat.le_trans h.size k.size, fun i o h1 h2 => k.block i o (h.block i o h1 h2) h2⟩
theorem KpF.of_below (h : Below W.heap.size W W') : KpF n0 W W' := ⟨h.os, h.tape, h.output, h.size, fun k o h1 _ => (h.block k (Array.getElem?_eq_some_iff.1 h1).1).trans h1⟩
theorem WK.refl (n0 mb : Nat) (W : World) : WK n0 mb W W := ⟨rfl, rfl, rfl, Nat.le_refl _, fun _ _ h _ _ => h⟩
theorem WK.trans (h : WK n0 mb W W') (k : WK n0 mb W' W'') : WK n0 mb W W'' := ⟨k.os.trans h.os, k.tape.trans h.tape, k.output.trans h.output, Nat.le_trans h.size k.size, fun i o h1 h2 h3 => k.block i o (h.block i o h1 h2 h3) h2 h3⟩
theorem WK.of_grown (h : W.grownBy W' (some mb)) : WK n0 mb W W' := ⟨h.os, h.tape, h.output, h.size, fun k o h1 h2 _ => (h.block k (Array.getElem?_eq_some_iff.1 h1).1 (fun e => h2 (by injection e))).trans h1⟩
theorem WK.of_below (h : Below W.heap.size W W') : WK n0 mb W W' := WK.of_grown (grown_below h _)
theorem WK.of_kp (h : KpF n0 W W') : WK n0 mb W W' := ⟨h.os, h.tape, h.output, h.size, fun k o h1 _ h3 => h.block k o h1 h3⟩
theorem WK.km (h : WK n0 mb W W') (hn : n0 ≤ W.heap.size) : KM n0 mb W W' := ⟨h.os, h.tape, h.output, h.size, fun k h1 h2 => by
 obtain ⟨o, ho⟩ : ∃ o, W.heap[k]? = some o := ⟨_, Array.getElem?_eq_getElem (by omega)⟩
 rw [ho]
 exact h.block k o ho h2 (.inl h1)⟩
theorem WK.cells (h : WK n0 mb W W') {b : Nat} {c : Array Value} {t : TypeId} {fr : Nat × Nat} (hb : W.heap[b]? = some (.cells c t fr)) (hm : b ≠ mb) (h1 : t ≠ 31) (h2 : t ≠ 37) : W'.heap[b]? = some (.cells c t fr) := h.block b _ hb hm (.inr ⟨c, t, fr, rfl, h1, h2⟩)
structure Rd {α : Type} (d : Kd α) (t : TypeId) (W : World) (A : Option Addr) (xs : List α) : Prop where
 c : d.C W A xs.length xs
 t : ∀ ad, A = some ad → 0 < xs.length → ∃ c fr, W.heap[ad.block]? = some (.cells c t fr)
theorem Rd.wk {α : Type} {d : Kd α} {t : TypeId} {A : Option Addr} {xs : List α} (hK : ∀ x cs, d.K W x cs → d.K W' x cs) (h1 : t ≠ 31) (h2 : t ≠ 37) (hm : ∃ es ck, W.heap[mb]? = some (.map es ck)) (h : Rd d t W A xs) (hk : WK n0 mb W W') : Rd d t W' A xs := by
 have hb : ∀ ad, A = some ad → 0 < xs.length → W'.heap[ad.block]? = W.heap[ad.block]? := by
  intro ad he hn
  obtain ⟨c, fr, hb⟩ := h.t ad he hn
  rw [hb]
  refine hk.cells hb ?_ h1 h2
  intro e
  obtain ⟨es, ck, hm⟩ := hm
  rw [e, hm] at hb
  simp at hb
 refine ⟨⟨h.c.1, h.c.2.1, fun hn => ?_⟩, fun ad he hn => ?_⟩
 ·obtain ⟨ad, he, hc⟩ := h.c.2.2 hn
  refine ⟨ad, he, fun j p hj => ?_⟩
  obtain ⟨cs, q1, q2, q3⟩ := hc j p hj
  refine ⟨cs, q1, hK _ _ q2, fun i u hu => ?_⟩
  rw [World.cell?_of_block (w := W) (w' := W') (by rw [add_block]; exact hb ad he hn)]
  exact q3 i u hu
 ·obtain ⟨c, fr, hc⟩ := h.t ad he hn
  exact ⟨c, fr, (hb ad he hn).trans hc⟩
theorem Rd.of_R {α : Type} {d : Kd α} {t base : Nat} {ok : Nat → Prop} {v : Value} {xs : List α} (h : d.R t W base ok v xs) : ∃ A c, v = .slice A xs.length c ∧ xs.length ≤ c ∧ Rd d t W A xs := by
 obtain ⟨A, c, rfl, hc, hC⟩ := Kd.R_reads h
 refine ⟨A, c, rfl, hc, hC, fun ad he hn => ?_⟩
 obtain ⟨cells, hb⟩ := Kd.R_typed h ad.block (by rw [he]; rfl)
 exact ⟨cells, _, hb⟩
theorem Rd.below {α : Type} {d : Kd α} {t : TypeId} {A : Option Addr} {xs : List α} (h : Rd d t W A xs) (hb : Below W.heap.size W W') : Rd d t W' A xs :=
 ⟨Kd.C_below h.c hb, fun ad he hn => by
  obtain ⟨c, fr, hc⟩ := h.t ad he hn
  exact ⟨c, fr, blk_below hc hb⟩⟩
end
def capF (bs byy bn : Nat) : Array Value := #[.pointer (some ⟨bs, 0, none⟩), .pointer (some ⟨byy, 0, none⟩), .pointer (some ⟨bn, 0, none⟩)]
structure FW (X : Lx) (S : SV) (fits : List Int) (w0 : World) (lr bs byy bn : Nat) (W : World) : Prop where
 km : KM w0.heap.size S.mb w0 W
 memo : MemoAt Try.prog 139 (AliveR X) W S.mb
 hs : SpAt W bs S
 hy : W.heap[byy]? = some (.cells #[.func (.yield lr) #[] #[]] 97 (0, 0))
 hn : W.heap[bn]? = some (.cells #[.func (.func 96) #[] (capF bs byy bn)] 161 (0, 0))
section
variable {X : Lx} {S : SV} {fits : List Int} {w0 W W' : World} {lr bs byy bn : Nat}
theorem FW.aw (h : FW X S fits w0 lr bs byy bn W) (h0 : AW X S fits w0) : AW X S fits W := h0.km h.km h.memo
theorem FW.map (h : FW X S fits w0 lr bs byy bn W) : ∃ es ck, W.heap[S.mb]? = some (.map es ck) := by
 obtain ⟨es, ck, hb, _⟩ := h.memo
 exact ⟨es, ck, hb⟩
theorem FW.ne (h : FW X S fits w0 lr bs byy bn W) {b : Nat} {cs : Array Value} {t : TypeId} {fr : Nat × Nat} (hb : W.heap[b]? = some (.cells cs t fr)) : b ≠ S.mb := by
 rintro rfl
 obtain ⟨es, ck, hm⟩ := h.map
 rw [hb] at hm
 simp at hm
theorem FW.wk (h : FW X S fits w0 lr bs byy bn W) (hk : WK w0.heap.size S.mb W W') (hm : MemoAt Try.prog 139 (AliveR X) W' S.mb) : FW X S fits w0 lr bs byy bn W' :=
 ⟨h.km.trans (hk.km h.km.size), hm, hk.cells h.hs (h.ne h.hs) (by decide) (by decide), hk.cells h.hy (h.ne h.hy) (by decide) (by decide), hk.cells h.hn (h.ne h.hn) (by decide) (by decide)⟩
theorem FW.mlt (h : FW X S fits w0 lr bs byy bn W) : S.mb < W.heap.size := by
 obtain ⟨es, ck, hb⟩ := h.map
 exact (Array.getElem?_eq_some_iff.1 hb).1
theorem FW.below (h : FW X S fits w0 lr bs byy bn W) (hb : Below W.heap.size W W') : FW X S fits w0 lr bs byy bn W' := h.wk (WK.of_below hb) (h.memo.keep (hb.block S.mb h.mlt))
theorem FW.kp (h : FW X S fits w0 lr bs byy bn W) (h0 : AW X S fits w0) (hk : KpF w0.heap.size W W') : FW X S fits w0 lr bs byy bn W' := by
 obtain ⟨es, ck, hb⟩ := h.map
 exact h.wk (WK.of_kp hk) (h.memo.keep (by rw [hb]; exact hk.block S.mb _ hb (.inl h0.mlt)))
end
end Go.Proofs.Ytkfebceainedfaa.P.OwnGap
namespace Go.Proofs.Ytkfebceainedfaa.P.OwnGap
open Go.RowKit Go.Shelf Go.Proofs.YtkfebceainedfaaW.PrintWords Go.Proofs.YtkfebceainedfaaW.PrintLast Go.Proofs.YtkfebceainedfaaW.PrintMore
open Go.Proofs.Ytkfebceainedfaa.OwnGap
set_option linter.unusedVariables false
set_option linter.unusedSimpArgs false
def Yld (w0 : World) (lr most : Nat) (J : List Fil → World → Prop) : Prop := ∀ (m : Nat) (pre : List Fil) (v1 v2 : Value) (ws fs : List Int) (W1 : World), J pre W1 → pre.length < most → kI.R 3 W1 w0.heap.size (fun _ => True) v1 ws → kI.R 3 W1 w0.heap.size (fun _ => True) v2 fs →
 YieldAt Fence.wide m Try.prog lr #[.agg #[v1, v2]] W1 fun e W' => e = .returned (.bool (decide (pre.length + 1 < most))) ∧ J (pre ++ [(ws, fs)]) W' ∧ KpF w0.heap.size W1 W'
def JIt (mb : Nat) (J : List Fil → World → Prop) : Prop := ∀ s A B, J s A → A.grownBy B (some mb) → J s B
structure BW (X : Lx) (S : SV) (fits : List Int) (w0 : World) (lr bs byy bn : Nat) (ws : List Int) (Aw : Option Addr) (k cw : Nat) (l : List Pth) (Al : Option Addr) (bv : Nat) (W wx : World) : Prop where
 fw : FW X S fits w0 lr bs byy bn wx
 hv : wx.heap[bv]? = some (.cells #[.slice Aw k cw] 22 (0, 0))
 rw : Rd kI 3 wx Aw ws
 rl : Rd kP 154 wx Al l
 wk : WK w0.heap.size S.mb W wx
section
variable {X : Lx} {S : SV} {fits : List Int} {w0 : World} {lr bs byy bn : Nat} {ws : List Int} {Aw : Option Addr} {k cw : Nat} {l : List Pth} {Al : Option Addr} {bv : Nat} {W wx wy : World}
theorem BW.wk' (h : BW X S fits w0 lr bs byy bn ws Aw k cw l Al bv W wx) (hk : WK w0.heap.size S.mb wx wy) (hm : MemoAt Try.prog 139 (AliveR X) wy S.mb) : BW X S fits w0 lr bs byy bn ws Aw k cw l Al bv W wy :=
 ⟨h.fw.wk hk hm, hk.cells h.hv (h.fw.ne h.hv) (by decide) (by decide), h.rw.wk (W := wx) (W' := wy) (fun _ _ h => h) (by decide) (by decide) h.fw.map hk, h.rl.wk (W := wx) (W' := wy) (fun _ _ h => h) (by decide) (by decide) h.fw.map hk, h.wk.trans hk⟩
theorem BW.below (h : BW X S fits w0 lr bs byy bn ws Aw k cw l Al bv W wx) (hb : Below wx.heap.size wx wy) : BW X S fits w0 lr bs byy bn ws Aw k cw l Al bv W wy := h.wk' (WK.of_below hb) (h.fw.below hb).memo
theorem BW.alloc (h : BW X S fits w0 lr bs byy bn ws Aw k cw l Al bv W wx) (o : Obj) : BW X S fits w0 lr bs byy bn ws Aw k cw l Al bv W (wx.alloc o) := h.below ((Below.refl _ _).alloc (Nat.le_refl _) _)
theorem BW.kp (h : BW X S fits w0 lr bs byy bn ws Aw k cw l Al bv W wx) (h0 : AW X S fits w0) (hk : KpF w0.heap.size wx wy) : BW X S fits w0 lr bs byy bn ws Aw k cw l Al bv W wy := h.wk' (WK.of_kp hk) (h.fw.kp h0 hk).memo
end
theorem fills_row {W : World} {b : Nat} {p : Pth} (h : PAt W b p) (hl : p.fs.length ≤ 3) : Kd.C kI W (some ⟨b, 4, none⟩) p.fs.length p.fs := by
 refine ⟨rfl, by omega, fun _ => ⟨_, rfl, fun j x hj => ⟨[.int .i64 x], rfl, rfl, fun i u hu => ?_⟩⟩⟩
 have hj3 : j < p.fs.length := (List.getElem?_eq_some_iff.1 hj).1
 have hi : i = 0 := by
  have := (List.getElem?_eq_some_iff.1 hu).1
  simpa using this
 subst hi
 have hx : fG p.fs j = x := by
  unfold fG
  rw [List.getD_eq_getElem?_getD, hj]
  rfl
 simp only [List.getElem?_cons_zero, Option.some.injEq] at hu
 subst hu
 rw [← hx, show ((⟨b, 4, none⟩ : Addr).add (j * kI.sz + 0)) = ⟨b, 4 + j, none⟩ by simp [Addr.add, show kI.sz = 1 from rfl], blk_cell h]
 rcases (by omega : j = 0 ∨ j = 1 ∨ j = 2) with rfl | rfl | rfl
 ·rfl
 ·rfl
 ·rfl
theorem jt_below {mb : Nat} {J : List Fil → World → Prop} (hJ : JIt mb J) {s : List Fil} {A B : World} (h : J s A) (hb : Below A.heap.size A B) : J s B := hJ s A B h (grown_below hb _)
theorem Rd.of_R' {α : Type} {d : Kd α} {t base n : Nat} {ok : Nat → Prop} {W : World} {v : Value} {xs : List α} (h : d.R t W base ok v xs) (hn : xs.length = n) : ∃ A c, v = .slice A n c ∧ n ≤ c ∧ Rd d t W A xs := by
 obtain ⟨A, c, rfl, hc, hr⟩ := Rd.of_R h
 exact ⟨A, c, by rw [hn], by rw [← hn]; exact hc, hr⟩
theorem row_one {W : World} {b : Nat} {x : Int} (h : W.cell? ⟨b, 0, none⟩ = some (.int .i64 x)) : ReadsRow (fun (y : Int) cs => cs = [.int .i64 y]) 1 W (some ⟨b, 0, none⟩) 1 [x] := by
 refine ⟨rfl, by decide, fun _ => ⟨_, rfl, fun j p hj => ⟨[.int .i64 p], rfl, rfl, fun i u hu => ?_⟩⟩⟩
 have hj0 : j = 0 := by
  have := (List.getElem?_eq_some_iff.1 hj).1
  simpa using this
 subst hj0
 have hi : i = 0 := by
  have := (List.getElem?_eq_some_iff.1 hu).1
  simpa using this
 subst hi
 simp only [List.getElem?_cons_zero, Option.some.injEq] at hj hu
 subst hj
 subst hu
 exact h
theorem fillK_cut (X : Lx) (ws : List Int) (f : Int) (l : List Pth) (hw : ws.length ≤ 8) (j : Nat) : ∃ r, fillK X ws f l = endsF X ws f l ++ (fillsTo X ws f l j ++ r) := by
 rw [fillK_step X ws f l hw]
 refine ⟨((X.l0.zipIdx).drop j).flatMap (fillW X ws f l), ?_⟩
 congr 1
 unfold fillsTo
 rw [← List.flatMap_append, List.take_append_drop]
theorem endsF_cut (X : Lx) (ws : List Int) (f : Int) (l : List Pth) (j : Nat) (hc : (decide (0 < ws.length) && rdOf false X.l2 f) = true) : ∃ r, endsF X ws f l = endsTo X ws l j ++ r := by
 rw [endsTo_all X ws f l l.length (Nat.le_refl _) hc]
 unfold endsTo
 refine ⟨((l.drop j).filterMap (doneP (rwOf X))).map fun fs => (ws, fs), ?_⟩
 rw [← List.map_append, ← List.filterMap_append, List.take_append_drop, List.take_length]
def WalkOut (X : Lx) (S : SV) (w0 : World) (most : Nat) (J : List Fil → World → Prop) (ws : List Int) (f : Int) (l : List Pth) (pre : List Fil) (W : World) (e : Ending) (W' : World) : Prop :=
 e = .returned (.bool (decide ((pre ++ fillK X ws f l).length < most))) ∧ J ((pre ++ fillK X ws f l).take most) W' ∧ WK w0.heap.size S.mb W W' ∧ MemoAt Try.prog 139 (AliveR X) W' S.mb
def WalkC (X : Lx) (S : SV) (fits : List Int) (w0 : World) (lr bs byy bn most : Nat) (J : List Fil → World → Prop) (k : Nat) : Prop :=
 ∀ (ws : List Int) (f : Int) (l : List Pth) (Aw Al : Option Addr) (cw cl : Nat) (pre : List Fil) (W : World), ws.length = k → 0 ≤ f → f < X.l1.length → (∀ q ∈ l, OkP X q) → cntL (rwOf X) l (8 * (8 - k)) ≤ 1000000000 → k ≤ cw → l.length ≤ cl →
  Rd kI 3 W Aw ws → Rd kP 154 W Al l → FW X S fits w0 lr bs byy bn W → J pre W → pre.length < most →
  Calls Try.prog 96 #[.slice Aw k cw, .int .i64 f, .slice Al l.length cl, .pointer (some ⟨bs, 0, none⟩), .pointer (some ⟨byy, 0, none⟩), .pointer (some ⟨bn, 0, none⟩)] W (WalkOut X S w0 most J ws f l pre W)
theorem cnt_tmono (g : Nat) : ∀ t : Nat, cnt g t ≤ cnt g (t + 1) := by
 intro t
 cases g with
 | zero => rw [cnt_none, cnt_none]; exact Nat.le_refl _
 | succ g => rw [cnt_step]; omega
theorem cntL_tmono (R : Rw) (l : List Pth) {t u : Nat} (h : t ≤ u) : cntL R l t ≤ cntL R l u := by
 induction h with
 | refl => exact Nat.le_refl _
 | step _ ih =>
  refine Nat.le_trans ih ?_
  unfold cntL
  clear ih
  induction l with
  | nil => exact Nat.le_refl _
  | cons p l ih => simp only [List.map_cons, List.sum_cons]; exact Nat.add_le_add (cnt_tmono _ _) ih
theorem cntL_filter (R : Rw) (V : Pth → Bool) (l : List Pth) (t : Nat) : cntL R (l.filter V) t ≤ cntL R l t := by
 unfold cntL
 induction l with
 | nil => exact Nat.le_refl _
 | cons p l ih =>
  by_cases h : V p = true
  ·rw [List.filter_cons_of_pos h]; simp only [List.map_cons, List.sum_cons]; omega
  ·rw [List.filter_cons_of_neg h]; simp only [List.map_cons, List.sum_cons]; omega
theorem cnt_word {X : Lx} {fits : List Int} (hX : OkX X fits) (hL : OkL X) {l : List Pth} (hl : ∀ q ∈ l, OkP X q) {k : Nat} (hk : k < 8) (hc : cntL (rwOf X) l (8 * (8 - k)) ≤ 1000000000) (j : Nat) (hj : j < X.l0.length) (V : Pth → Bool) :
  cntL (rwOf X) ((wordF (rwOf X) l (bytesOf (rd_T53 X.l0 (j : Int)).f0)).filter V) (8 * (8 - (k + 1))) ≤ 1000000000 := by
 refine Nat.le_trans (cntL_filter _ _ _ _) (Nat.le_trans (wordF_cnt (rwOf X) _ l _ (fun q hq => (hl q hq).i)) (Nat.le_trans (cntL_tmono _ _ ?_) hc))
 rw [bytesOf_length]
 have := (hL.wd j hj).2.1
 omega
end Go.Proofs.Ytkfebceainedfaa.P.OwnGap
namespace Go.Proofs.Ytkfebceainedfaa.P.OwnGap
open Go.RowKit Go.Shelf Go.Proofs.YtkfebceainedfaaW.PrintWords Go.Proofs.YtkfebceainedfaaW.PrintLast Go.Proofs.YtkfebceainedfaaW.PrintMore
open Go.Proofs.Ytkfebceainedfaa.OwnGap
set_option linter.unusedVariables false
set_option linter.unusedSimpArgs false
@[go_sem] theorem run_store_func {P : Program} {w : World} (a : Addr) (m : Mode) (f : Fn) (i c : Array Value) : (store a (.func f i c) m).run P w = stored P w a (.func f i c) m := run_store P w a _ m rfl
set_option maxHeartbeats 1000000 in
theorem fillings_calls (S : SV) (w : World) : Calls Try.prog 78 #[.pointer (some ⟨S.b, 0, none⟩)] w fun e w' =>
  e = .returned (.func (.func 95) #[] #[.pointer (some ⟨w.heap.size, 0, none⟩)]) ∧ w' = w.alloc (.cells #[.pointer (some ⟨S.b, 0, none⟩)] 92) := by
 go_enter Try.func78, Try.ntmps78
 go_wp2_with fail
 go_ret
 exact ⟨rfl, rfl⟩
structure FI (X : Lx) (S : SV) (fits : List Int) (w0 : World) (bs : Nat) (W : World) : Prop where
 km : KM w0.heap.size S.mb w0 W
 memo : MemoAt Try.prog 139 (AliveR X) W S.mb
 hs : SpAt W bs S
theorem FI.below {X : Lx} {S : SV} {fits : List Int} {w0 W W' : World} {bs : Nat} (h : FI X S fits w0 bs W) (h0 : AW X S fits w0) (hb : Below W.heap.size W W') : FI X S fits w0 bs W' :=
 ⟨h.km.trans (KM.below (hb.mono h.km.size)), h.memo.keep (hb.block S.mb (Nat.lt_of_lt_of_le h0.mlt h.km.size)), blk_below h.hs hb⟩
set_option maxHeartbeats 1000000 in
set_option maxRecDepth 100000 in
theorem fil95_calls (X : Lx) (S : SV) (fits : List Int) (w0 : World) (h0 : AW X S fits w0) (hp0 : OkP X p0) (hone : 1 ≤ X.l1.length) (lr bs most : Nat) (hm : 0 < most) (J : List Fil → World → Prop) (hJ : JIt S.mb J) (hWC : ∀ byy bn, WalkC X S fits w0 lr bs byy bn most J 0)
  (W : World) (hW : FI X S fits w0 bs W) (hj : J [] W) :
  Calls Try.prog 95 #[.func (.yield lr) #[] #[], .pointer (some ⟨bs, 0, none⟩)] W fun e W' => (∃ v, e = .returned v) ∧ J ((fillF X 8 [] 0 [p0]).take most) W' := by
 have HW := Aside0.mk hW
 have HJ := Aside0.mk hj
 have HJJ := Aside0.mk hJ
 have HWC := Aside0.mk hWC
 have H0 := Aside0.mk h0
 have HP := Aside0.mk hp0
 clear hW hj hJ hWC h0 hp0
 go_enter Try.func95, Try.ntmps95
 go_upto_region 2 with fail
 obtain ⟨byy, hbyy⟩ : ∃ b, b = W.heap.size := ⟨_, rfl⟩
 refine wp_gen (fun wx => Aside0 (wx.heap[byy]? = some (.cells #[.func (.yield lr) #[] #[]] 97 (0, 0)) ∧ wx.heap[byy + 1]? = some (.cells #[.nilFunc] 161 (0, 0)) ∧ Below W.heap.size W wx) ∧ Aside0 (wx.heap.size = byy + 2)) ?_ ?_
 ·have b2 := blk_new (W.alloc (.cells #[.func (.yield lr) #[] #[]] 97)) (.cells #[.nilFunc] 161)
  rw [World.size_alloc] at b2
  rw [hbyy]
  exact ⟨⟨blk_alloc (blk_new W _) _, b2, ((Below.refl _ _).alloc (Nat.le_refl _) _).alloc (by simp) _⟩, ⟨by simp⟩⟩
 rw [← hbyy]
 have HBY := Aside0.mk hbyy
 clear hbyy
 rintro w1 ⟨H1, HS1⟩
 have hcf := (blk_cell H1.out.2.1 0).trans (show (#[Value.nilFunc] : Array Value)[0]? = some _ from rfl)
 have hff := blk_frozen H1.out.2.1 0
 have hll := blk_lt H1.out.2.1
 go_upto_region 3 with fail
 refine wp_gen (fun wx => Aside0 (FW X S fits w0 lr bs byy (byy + 1) wx) ∧ Aside0 (J [] wx)) ?_ ?_
 ·obtain ⟨a1, a2, a3⟩ := H1.out
  have hB : Below W.heap.size W (w1.setCell ⟨byy + 1, 0, none⟩ (.func (.func 96) #[] (capF bs byy (byy + 1)))) := by
   rw [← HBY.out]
   exact a3.setCell (p := ⟨byy + 1, 0, none⟩) (by simp) _
  have h2 := blk_set a2 0 (.func (.func 96) #[] (capF bs byy (byy + 1)))
  have hI := HW.out.below H0.out hB
  exact ⟨⟨⟨hI.km, hI.memo, hI.hs, (Below.heap_setCell w1 ⟨byy + 1, 0, none⟩ _ _ (by simp)).trans a1, h2.trans (by simp)⟩⟩, ⟨jt_below HJJ.out HJ.out hB⟩⟩
 clear hcf hff hll HS1 H1 w1
 rintro w1 ⟨HF, HJ1⟩
 have hnn := (blk_cell HF.out.hn 0).trans (show (#[Value.func (.func 96) #[] (capF bs byy (byy + 1))] : Array Value)[0]? = some _ from rfl)
 simp only [capF] at hnn
 have hnl := blk_lt HF.out.hn
 have HC1 := Aside0.mk (show Calls Try.prog 96 #[.slice none 0 0, .int .i64 0, .slice (some ⟨w1.heap.size, 0, none⟩) 1 1, .pointer (some ⟨bs, 0, none⟩), .pointer (some ⟨byy, 0, none⟩), .pointer (some ⟨byy + 1, 0, none⟩)] (w1.alloc (.cells (pC p0) 154)) fun e W' => (∃ v, e = .returned v) ∧ J ((fillF X 8 [] 0 [p0]).take most) W' from by
  have hb : Below w1.heap.size w1 (w1.alloc (.cells (pC p0) 154)) := (Below.refl _ _).alloc (Nat.le_refl _) _
  have h := HWC.out byy (byy + 1) [] 0 [p0] none (some ⟨w1.heap.size, 0, none⟩) 0 1 [] (w1.alloc (.cells (pC p0) 154)) rfl (by omega) (by omega) (fun q hq => by rw [List.mem_singleton] at hq; rw [hq]; exact HP.out) (Nat.le_trans (cnt_one HP.out _ (by omega)) (by omega)) (Nat.le_refl _) (Nat.le_refl _)
   ⟨Kd.C_nil _ _, fun ad he => by cases he⟩ ⟨C_one (blk_new w1 _), fun ad he _ => by injection he with he; subst he; exact ⟨_, _, blk_new w1 _⟩⟩ (HF.out.below hb) (jt_below HJJ.out HJ1.out hb) hm
  refine h.mono ?_
  rintro e W' ⟨rfl, hj2, -, -⟩
  exact ⟨⟨_, rfl⟩, by simpa [fillK] using hj2⟩)
 rw [show pC p0 = #[.int .i64 0, .int .i64 0, .int .i64 0, .int .i64 0, .int .i64 0, .int .i64 0, .int .i64 0, .int .i64 0] from rfl] at HC1
 go_wp2_with first | (go_at_call 96; refine HC1.out.mono ?_; rintro e w2 ⟨⟨v, rfl⟩, hj2⟩; have HJ2 := Aside0.mk hj2; clear hj2) | fail
 go_end0
 exact ⟨⟨_, rfl⟩, HJ2.out⟩
structure Fx where
 v1 : Value
 v2 : Value
 ws : List Int
 fs : List Int
def Fx.fil (x : Fx) : Fil := (x.ws, x.fs)
def fxE (x : Fx) : Array Value := #[.agg #[x.v1, x.v2]]
def fxM (n0 : Nat) (x : Fx) (W : World) : Prop := kI.R 3 W n0 (fun _ => True) x.v1 x.ws ∧ kI.R 3 W n0 (fun _ => True) x.v2 x.fs
theorem yieldAny {m : Nat} (m' : Nat) {P : Program} {l : Nat} {args : Array Value} {W : World} {R : Ending → World → Prop} (h : YieldAt Fence.wide m P l args W R) : YieldAt Fence.wide m' P l args W R := by
 obtain ⟨fn, tmps, assign, body, hy, hR⟩ := h
 exact ⟨fn, tmps, assign, body, hy, hR.1, fun c cs _ => hR.2 c cs (room_wide _)⟩
theorem fil_seq (X : Lx) (S : SV) (fits : List Int) (w0 : World) (h0 : AW X S fits w0) (hp0 : OkP X p0) (hone : 1 ≤ X.l1.length) (n bs most : Nat) (hm : 0 < most) (hWC : ∀ lr byy bn J, JIt S.mb J → Yld w0 lr most J → WalkC X S fits w0 lr bs byy bn most J 0)
  (w : World) (hW : FI X S fits w0 bs w) :
  SeqS Fence.wide n Try.prog 95 #[.pointer (some ⟨bs, 0, none⟩)] fxE (fxM w0.heap.size) (KpF w0.heap.size) (fun A B => A.grownBy B (some S.mb)) most (fun xs => xs.map Fx.fil = (fillF X 8 [] 0 [p0]).take most) w := by
 intro lr J W hb hJ hY hj
 refine callsIn_wide.2 ?_
 have h := fil95_calls X S fits w0 h0 hp0 hone lr bs most hm (fun s W => ∃ xs : List Fx, xs.map Fx.fil = s ∧ J xs W) (fun s A B h hg => by
   obtain ⟨xs, e, h⟩ := h
   exact ⟨xs, e, hJ xs A B h hg⟩)
  (fun byy bn => hWC lr byy bn _ (fun s A B h hg => by
   obtain ⟨xs, e, h⟩ := h
   exact ⟨xs, e, hJ xs A B h hg⟩) (fun m pre v1 v2 ws fs W1 hj1 hlen hr1 hr2 => by
   obtain ⟨xs, rfl, hj1⟩ := hj1
   rw [List.length_map] at hlen ⊢
   refine YieldAt.mono (yieldAny m (hY xs ⟨v1, v2, ws, fs⟩ W1 hj1 ⟨hr1, hr2⟩ hlen)) ?_
   rintro e W' ⟨rfl, hj2, hk⟩
   exact ⟨rfl, ⟨xs ++ [⟨v1, v2, ws, fs⟩], by rw [List.map_append]; rfl, hj2⟩, hk⟩))
  W (hW.below h0 hb) ⟨[], rfl, hj⟩
 refine h.mono ?_
 rintro e W' ⟨hv, xs, e2, hj2⟩
 exact ⟨hv, xs, e2, hj2⟩
end Go.Proofs.Ytkfebceainedfaa.P.OwnGap
namespace Go.Proofs.Ytkfebceainedfaa.P.OwnGap
open Go.RowKit Go.Shelf Go.Proofs.YtkfebceainedfaaW.PrintWords Go.Proofs.YtkfebceainedfaaW.PrintLast Go.Proofs.YtkfebceainedfaaW.PrintMore
open Go.Proofs.Ytkfebceainedfaa.OwnGap
set_option linter.unusedVariables false
set_option linter.unusedSimpArgs false
set_option maxHeartbeats 8000000 in
set_option maxRecDepth 100000 in
theorem walk_try (X : Lx) (S : SV) (fits : List Int) (hX : OkX X fits) (hL : OkL X) (w0 : World) (h0 : AW X S fits w0) (lr bs byy bn most : Nat) (J : List Fil → World → Prop) (hJ : JIt S.mb J) (hY : Yld w0 lr most J)
    (ws : List Int) (f : Int) (l : List Pth) (Aw Al : Option Addr) (k cw cl : Nat) (pre : List Fil) (W : World) (hwk : ws.length = k) (hk : k ≤ 8) (hf0 : 0 ≤ f) (hf1 : f < X.l1.length) (hok : ∀ q ∈ l, OkP X q) (hcnt : cntL (rwOf X) l (8 * (8 - k)) ≤ 1000000000) (hcw : k ≤ cw) (hcl : l.length ≤ cl)
    (hrw : Rd kI 3 W Aw ws) (hrl : Rd kP 154 W Al l) (hW : FW X S fits w0 lr bs byy bn W) (hj : J pre W) (hpre : pre.length < most) (hrec : k < 8 → WalkC X S fits w0 lr bs byy bn most J (k + 1)) :
    Calls Try.prog 96 #[.slice Aw k cw, .int .i64 f, .slice Al l.length cl, .pointer (some ⟨bs, 0, none⟩), .pointer (some ⟨byy, 0, none⟩), .pointer (some ⟨bn, 0, none⟩)] W (WalkOut X S w0 most J ws f l pre W) := by
  have HWK := Aside0.mk hwk
  have HREC := Aside0.mk hrec
  have HX := Aside0.mk hX
  have HL := Aside0.mk hL
  have H0 := Aside0.mk h0
  have HJJ := Aside0.mk hJ
  have HYY := Aside0.mk hY
  have HOK := Aside0.mk hok
  have HCN := Aside0.mk hcnt
  have HCW := Aside0.mk hcw
  have HCL := Aside0.mk hcl
  have hlen : l.length ≤ 1000000000 := Nat.le_trans (cntL_length _ _ _) hcnt
  have HB := Aside0.mk (show BW X S fits w0 lr bs byy bn ws Aw k cw l Al W.heap.size W (W.alloc (.cells #[.slice Aw k cw] 22)) from
    have hb : Below W.heap.size W (W.alloc (.cells #[.slice Aw k cw] 22)) := (Below.refl _ _).alloc (Nat.le_refl _) _
    ⟨hW.below hb, blk_new W _, hrw.below hb, hrl.below hb, WK.of_below hb⟩)
  have HJ0 := Aside0.mk (show J pre (W.alloc (.cells #[.slice Aw k cw] 22)) from jt_below hJ hj ((Below.refl _ _).alloc (Nat.le_refl _) _))
  have HPR := Aside0.mk hpre
  clear hrec hwk hX hL h0 hJ hY hok hcnt hcw hcl hrw hrl hW hj hpre
  go_enter Try.func96, Try.ntmps96
  go_upto_region 1 with fail
  obtain ⟨bv, hbv⟩ : ∃ b, b = W.heap.size := ⟨_, rfl⟩
  rw [← hbv] at HB ⊢
  refine wp_gen (fun wx => Aside0 (BW X S fits w0 lr bs byy bn ws Aw k cw l Al bv W wx) ∧ Aside0 (J pre wx)) ⟨HB, HJ0⟩ ?_
  clear HB HJ0 hbv
  rintro wx ⟨HB, HJ⟩
  go_upto_block 0 with fail
  go_cut [] (fun wx => Aside0 (BW X S fits w0 lr bs byy bn ws Aw k cw l Al bv W wx) ∧ Aside0 (J (pre ++ endsF X ws f l) wx) ∧ (pre ++ endsF X ws f l).length < most)
  case first =>
    go_wp2_with fail
    obtain ⟨lf, hlf⟩ : ∃ lf, lf = rdOf false X.l2 f := ⟨_, rfl⟩
    have HLF := Aside0.mk hlf
    by_cases hE : 0 < k ∧ lf = true
    · obtain ⟨hw0, rfl⟩ := hE
      have HE := Aside0.mk (show (decide (0 < ws.length) && rdOf false X.l2 f) = true by rw [HWK.out, ← hlf, decide_eq_true hw0]; rfl)
      have HW0 := Aside0.mk hw0
      have g0 : ((k : Int) == 0) = false := beq_eq_false_iff_ne.2 (by omega)
      clear hlf hw0
      go_loopg [19] l.length (fun n s19 wr => ∃ j : Nat, j + n = l.length ∧ s19 = .int .i64 (j : Int) ∧ Aside0 (BW X S fits w0 lr bs byy bn ws Aw k cw l Al bv W wr) ∧ Aside0 (J (pre ++ endsTo X ws l j) wr) ∧ (pre ++ endsTo X ws l j).length < most)
      case atStart => exact ⟨0, by omega, rfl, HB, ⟨by rw [show endsTo X ws l 0 = [] from rfl, List.append_nil]; exact HJ.out⟩, by rw [show endsTo X ws l 0 = [] from rfl, List.append_nil]; exact HPR.out⟩
      case round =>
        clear HB HJ
        obtain ⟨j, hjn, rfl, HB, HJ, hlt⟩ := hrel
        have HJN := Aside0.mk hjn
        have HLT := Aside0.mk hlt
        clear hjn hlt
        by_cases hj : j < l.length
        · have hjz : (j : Int) < (l.length : Int) := by omega
          obtain ⟨ad, rfl, e0, e1, e2, e3, e4, e5, e6, e7⟩ := at_P HB.out.rl.c j hj
          obtain ⟨q, hq⟩ : ∃ q, q = l.getD j zP := ⟨_, rfl⟩
          rw [← hq] at e0 e1 e2 e3 e4 e5 e6 e7
          have hqm : q ∈ l := by
            rw [hq, List.getD_eq_getElem?_getD, List.getElem?_eq_getElem hj]
            exact List.getElem_mem hj
          have HQO := Aside0.mk (HOK.out q hqm)
          have HTS := Aside0.mk (show endsTo X ws l (j + 1) = endsTo X ws l j ++ (match doneP (rwOf X) q with | some fs => [(ws, fs)] | none => []) by rw [hq]; exact endsTo_succ X ws l j hj)
          have HJ1 := Aside0.mk hj
          have hadl := World.block_lt_of_cell? wr _ e0
          clear hq hqm
          go_upto_region 4 with fail
          obtain ⟨b11, hb11⟩ : ∃ b, b = wr.heap.size := ⟨_, rfl⟩
          refine wp_gen (fun wx => Aside0 (BW X S fits w0 lr bs byy bn ws Aw k cw l (some ad) bv W wx) ∧ Aside0 (J (pre ++ endsTo X ws l j) wx) ∧ Aside0 (PAt wx b11 q)) ⟨⟨HB.out.alloc _⟩, ⟨jt_below HJJ.out HJ.out ((Below.refl _ _).alloc (Nat.le_refl _) _)⟩, ⟨by rw [hb11]; exact blk_new wr _⟩⟩ ?_
          rw [← hb11]
          clear hb11 HB HJ e0 e1 e2 e3 e4 e5 e6 e7 hadl
          rintro wx ⟨HB, HJ, H11⟩
          clear wr
          obtain ⟨e0, e1, e2, e3, e4, e5, e6, e7⟩ := H11.out.cells
          have hpl := blk_lt H11.out
          have hs := HB.out.fw.hs.cell
          have hl1 := blk_lt HB.out.fw.hs
          have hv := (blk_cell HB.out.hv 0).trans (show (#[Value.slice Aw k cw] : Array Value)[0]? = some _ from rfl)
          have hl2 := blk_lt HB.out.hv
          have hsr := (HB.out.fw.aw H0.out).sr
          have c2 := hsr.cell 2 hsr.e2
          have hl3 := blk_lt hsr.blk
          obtain ⟨a2, eA2, y2⟩ := Kd.at_bool hsr.h2 f hf0 (by rw [HL.out.l2]; exact hf1)
          rw [eA2] at c2
          rw [← HLF.out] at y2
          have hl4 := World.block_lt_of_cell? wx _ y2
          have hfl : f < (X.l2.length : Int) := by rw [HL.out.l2]; exact hf1
          have HD := Aside0.mk (show Calls Try.prog 97 #[.pointer (some ⟨S.b, 0, none⟩), .agg #[.int .i64 (q.i : Int), .int .i64 (q.m : Int), .int .i64 q.l, .int .i64 q.h, .int .i64 (fG q.fs 0), .int .i64 (fG q.fs 1), .int .i64 (fG q.fs 2), .int .i64 (q.fs.length : Int)]] wx (DoneOut X q wx) from
            done_calls X S fits HX.out.n q wx hsr ⟨HQO.out.i, by have := HQO.out.m; omega, HQO.out.g⟩)
          clear hsr eA2
          go_upto_region 6 with (go_at_call 97; refine HD.out.mono ?_; rintro e w2 ⟨q2, db, rfl, hd, hdl, hB2⟩; have HB2 := Aside0.mk (HB.out.below hB2); have HJ2 := Aside0.mk (jt_below HJJ.out HJ.out hB2); have HDB := Aside0.mk hd; have HDL := Aside0.mk hdl; clear hd hdl hB2; unfold pC)
          obtain ⟨b12, hb12⟩ : ∃ b, b = w2.heap.size := ⟨_, rfl⟩
          refine wp_gen (fun wx => Aside0 (BW X S fits w0 lr bs byy bn ws Aw k cw l (some ad) bv W wx) ∧ Aside0 (J (pre ++ endsTo X ws l j) wx) ∧ Aside0 (PAt wx b12 q2)) ⟨⟨HB2.out.alloc _⟩, ⟨jt_below HJJ.out HJ2.out ((Below.refl _ _).alloc (Nat.le_refl _) _)⟩, ⟨by rw [hb12]; exact blk_new w2 _⟩⟩ ?_
          rw [← hb12]
          clear hb12 HB HJ H11 HB2 HJ2 HD e0 e1 e2 e3 e4 e5 e6 e7 hpl hs hl1 hv hl2 c2 hl3 y2 hl4
          rintro wz ⟨HB, HJ, H12⟩
          clear w2 wx
          have HDLN := Aside0.mk (fun (W' : World) (hb : Below wz.heap.size wz W') => show Calls Try.prog 98 #[.slice Aw k cw] W' fun e w' => ∃ v, e = .returned v ∧ kI.R 3 w' W'.heap.size (fun _ => True) v ws ∧ Below W'.heap.size W' w' by
            have h := clone_calls Aw cw ws W' (HB.out.rw.below hb).c (by rw [HWK.out]; omega)
            rw [HWK.out] at h
            exact h)
          cases db with
          | false =>
            have HDN := Aside0.mk (show doneP (rwOf X) q = none from HDB.out)
            go_quiet (fail)
            go_wp2_with fail
            go_roundg (gk - 1)
            case measure => have := HJN.out; have := HJ1.out; omega
            case rel =>
              have hts := HTS.out
              rw [HDN.out, List.append_nil] at hts
              refine ⟨j + 1, by have := HJN.out; have := HJ1.out; omega, by go_num, ⟨HB.out.below (pw_below_drewN (Below.refl _ _) _)⟩, ?_, ?_⟩
              · rw [hts]; exact ⟨jt_below HJJ.out HJ.out (pw_below_drewN (Below.refl _ _) _)⟩
              · rw [hts]; exact HLT.out
          | true =>
            have HDS := Aside0.mk (show doneP (rwOf X) q = some q2.fs from HDB.out)
            have hq3 : q2.fs.length ≤ 3 := HDL.out rfl
            have hq3z : (q2.fs.length : Int) ≤ 3 := by omega
            have HCL2 := Aside0.mk (fun (W' : World) (hb : Below wz.heap.size wz W') => show Calls Try.prog 98 #[.slice (some ⟨b12, 4, none⟩) q2.fs.length 3] W' fun e w' => ∃ v, e = .returned v ∧ kI.R 3 w' W'.heap.size (fun _ => True) v q2.fs ∧ Below W'.heap.size W' w' from
              clone_calls (some ⟨b12, 4, none⟩) 3 q2.fs W' (fills_row (blk_below H12.out hb) hq3) (by omega))
            have hyy := (blk_cell HB.out.fw.hy 0).trans (show (#[Value.func (.yield lr) #[] #[]] : Array Value)[0]? = some _ from rfl)
            have hyl := blk_lt HB.out.fw.hy
            have hv := (blk_cell HB.out.hv 0).trans (show (#[Value.slice Aw k cw] : Array Value)[0]? = some _ from rfl)
            have hl2 := blk_lt HB.out.hv
            have e7 := H12.out.cells.2.2.2.2.2.2.2
            have hpl := blk_lt H12.out
            have HN0 := Aside0.mk (show w0.heap.size ≤ wz.heap.size from HB.out.fw.km.size)
            obtain ⟨gb, hgb⟩ : ∃ gb, gb = decide ((pre ++ endsTo X ws l j).length + 1 < most) := ⟨_, rfl⟩
            have HGB := Aside0.mk hgb
            have HYA := Aside0.mk (fun (v1 v2 : Value) (W1 : World) (h1 : J (pre ++ endsTo X ws l j) W1) (h2 : kI.R 3 W1 w0.heap.size (fun _ => True) v1 ws) (h3 : kI.R 3 W1 w0.heap.size (fun _ => True) v2 q2.fs) => show YieldAt Fence.wide 0 Try.prog lr #[.agg #[v1, v2]] W1 fun e W' => e = .returned (.bool gb) ∧ J (pre ++ endsTo X ws l j ++ [(ws, q2.fs)]) W' ∧ KpF w0.heap.size W1 W' from by
              rw [hgb]
              exact HYY.out 0 _ v1 v2 ws q2.fs W1 h1 HLT.out h2 h3)
            clear hgb
            have HBD := Aside0.mk (show Below wz.heap.size wz wz.drew from below_drew (Below.refl _ _))
            have hmix : Try.prog.follows Departure.mixedOrders = true := by kernel_rfl
            have HTS2 := Aside0.mk (show pre ++ endsTo X ws l (j + 1) = pre ++ endsTo X ws l j ++ [(ws, q2.fs)] by rw [HTS.out, HDS.out, List.append_assoc])
            have HGB2 := Aside0.mk (show gb = decide ((pre ++ endsTo X ws l (j + 1)).length < most) by rw [HTS2.out, List.length_append, HGB.out]; rfl)
            refine (wpIn_wide (n := 1)).1 ?_
            gi_region_with_o (first
              | (refine ⟨trivial, ?_⟩; gi_at_call 98; refine (callsIn_wide.2 (HDLN.out wz.drew HBD.out)).mono ?_; rintro e w3 ⟨v1, rfl, hv1, hB3⟩; obtain ⟨A1, c1, rfl⟩ := Kd.R_slice hv1; have HV1 := Aside0.mk hv1; have HB3 := Aside0.mk (show Below wz.heap.size wz w3 from (below_drew (Below.refl _ _)).trans hB3); have hyy3 := (HB3.out.cell (p := ⟨byy, 0, none⟩) hyl).trans hyy; have hv3 := (HB3.out.cell (p := ⟨bv, 0, none⟩) hl2).trans hv; have e73 := (HB3.out.cell (p := ⟨b12, 7, none⟩) hpl).trans e7; clear hv1 hB3)
              | (refine ⟨trivial, ?_⟩; gi_at_call 98; refine (callsIn_wide.2 (HCL2.out w3 HB3.out)).mono ?_; rintro e w4 ⟨v2, rfl, hv2, hB4⟩; obtain ⟨A2, c2, rfl⟩ := Kd.R_slice hv2; have HB4 := Aside0.mk (HB3.out.trans (hB4.mono HB3.out.size)); have hyy4 := (HB4.out.cell (p := ⟨byy, 0, none⟩) hyl).trans hyy; have HV1n := Aside0.mk (Kd.R_lower (Kd.R_below HV1.out hB4) HN0.out); have HV2n := Aside0.mk (Kd.R_lower hv2 (Nat.le_trans HN0.out HB3.out.size)); obtain ⟨fn, tmps, assign, body, hyr, hR⟩ := HYA.out _ _ w4 (jt_below HJJ.out HJ.out HB4.out) HV1n.out HV2n.out; have HYR := Aside0.mk hyr; have HR := Aside0.mk hR; clear hv2 hB4 hR hyr)
              | (rw [HYR.out, Oper.uponIn_round]; refine ⟨fun h => Nat.le_refl 1, ?_⟩; refine HR.out.mono ?_; rintro e w5 ⟨rfl, hj5, hk5⟩; have HJ5 := Aside0.mk hj5; have HK5 := Aside0.mk hk5; clear hj5 hk5))
            all_goals
              rw [← HTS2.out] at HJ5
              have HB5 := Aside0.mk ((HB.out.below HB4.out).kp H0.out HK5.out)
              cases gb with
              | true =>
                have HLT5 := Aside0.mk (of_decide_eq_true HGB2.out.symm)
                go_wp2_with fail
                go_roundg (gk - 1)
                case measure => have := HJN.out; have := HJ1.out; omega
                case rel => exact ⟨j + 1, by have := HJN.out; have := HJ1.out; omega, by go_num, HB5, HJ5, HLT5.out⟩
              | false =>
                have HLT5 := Aside0.mk (of_decide_eq_false HGB2.out.symm)
                obtain ⟨r1, hr1⟩ := fillK_cut X ws f l (by rw [HWK.out]; exact hk) 0
                obtain ⟨r2, hr2⟩ := endsF_cut X ws f l (j + 1) HE.out
                have HALL := Aside0.mk (show pre ++ fillK X ws f l = (pre ++ endsTo X ws l (j + 1)) ++ (r2 ++ (fillsTo X ws f l 0 ++ r1)) by rw [hr1, hr2, List.append_assoc, List.append_assoc])
                clear hr1 hr2
                go_wp2_with fail
                go_ret
                refine ⟨?_, ?_, HB5.out.wk, HB5.out.fw.memo⟩
                · rw [HALL.out, decide_eq_false (by rw [List.length_append]; have := HLT5.out; omega)]
                  rfl
                · rw [HALL.out, List.take_append_of_le_length (by have := HLT5.out; omega)]
                  have := HLT.out
                  rw [List.take_of_length_le (by rw [HTS2.out, List.length_append, List.length_singleton]; omega)]
                  exact HJ5.out
        · have hjz : ¬ (j : Int) < (l.length : Int) := by omega
          go_wp2_with fail
          refine Met.intro ?_
          go_step
          (repeat apply Exists.intro)
          refine ⟨?_, rfl⟩
          rw [endsTo_all X ws f l j (by omega) HE.out]
          exact ⟨HB, HJ, HLT.out⟩
    · have HE := Aside0.mk (show endsF X ws f l = [] from endsF_none X ws f l (by
        rw [HWK.out, ← hlf]
        by_cases h : 0 < k
        · have : lf = false := by
            cases lf with
            | false => rfl
            | true => exact absurd ⟨h, rfl⟩ hE
          rw [this, Bool.and_false]
        · rw [decide_eq_false h]; rfl))
      clear hlf
      go_loopg [19] l.length (fun n s19 wr => s19 = .int .i64 0 ∧ wr = wx)
      case atStart => exact ⟨rfl, rfl⟩
      case round =>
        obtain ⟨rfl, rfl⟩ := hrel
        by_cases hj : 0 < l.length
        · have hjz : (0 : Int) < (l.length : Int) := by omega
          obtain ⟨ad, rfl, e0, e1, e2, e3, e4, e5, e6, e7⟩ := at_P HB.out.rl.c 0 hj
          rw [Nat.zero_mul, Addr.add_zero'] at e0 e1 e2 e3 e4 e5 e6 e7
          have hadl := World.block_lt_of_cell? wr _ e0
          have hs := HB.out.fw.hs.cell
          have hl1 := blk_lt HB.out.fw.hs
          have hv := (blk_cell HB.out.hv 0).trans (show (#[Value.slice Aw k cw] : Array Value)[0]? = some _ from rfl)
          have hl2 := blk_lt HB.out.hv
          have hsr := (HB.out.fw.aw H0.out).sr
          have c2 := hsr.cell 2 hsr.e2
          have hl3 := blk_lt hsr.blk
          obtain ⟨a2, eA2, y2⟩ := Kd.at_bool hsr.h2 f hf0 (by rw [HL.out.l2]; exact hf1)
          rw [eA2] at c2
          rw [← HLF.out] at y2
          have hl4 := World.block_lt_of_cell? wr _ y2
          have hfl : f < (X.l2.length : Int) := by rw [HL.out.l2]; exact hf1
          clear hsr eA2
          by_cases hw : k = 0
          · have g0 : ((k : Int) == 0) = true := by rw [hw]; rfl
            clear hw
            go_wp2_with fail
            refine Met.intro ?_
            go_step
            (repeat apply Exists.intro)
            refine ⟨?_, rfl⟩
            rw [HE.out, List.append_nil]
            exact ⟨⟨HB.out.alloc _⟩, ⟨jt_below HJJ.out HJ.out ((Below.refl _ _).alloc (Nat.le_refl _) _)⟩, HPR.out⟩
          · have hlf : lf = false := by
              cases hh : lf with
              | false => rfl
              | true => exact absurd ⟨by omega, hh⟩ hE
            have g0 : ((k : Int) == 0) = false := beq_eq_false_iff_ne.2 (by omega)
            subst hlf
            clear hw
            go_wp2_with fail
            refine Met.intro ?_
            go_step
            (repeat apply Exists.intro)
            refine ⟨?_, rfl⟩
            rw [HE.out, List.append_nil]
            exact ⟨⟨HB.out.alloc _⟩, ⟨jt_below HJJ.out HJ.out ((Below.refl _ _).alloc (Nat.le_refl _) _)⟩, HPR.out⟩
        · have hjz : ¬ (0 : Int) < (l.length : Int) := by omega
          go_wp2_with fail
          refine Met.intro ?_
          go_step
          (repeat apply Exists.intro)
          refine ⟨?_, rfl⟩
          rw [HE.out, List.append_nil]
          exact ⟨HB, HJ, HPR.out⟩
  case rest =>
    obtain ⟨HB1, HJ1, hlt⟩ := hcut
    have HLT := Aside0.mk hlt
    clear HB HJ hlt
    have hs := HB1.out.fw.hs.cell
    have hl1 := blk_lt HB1.out.fw.hs
    have hsr := (HB1.out.fw.aw H0.out).sr
    have c0 := hsr.cell 0 hsr.e0
    have hl3 := blk_lt hsr.blk
    clear hsr
    obtain ⟨A0v, hA0v⟩ : ∃ A, A = S.A0 := ⟨_, rfl⟩
    rw [← hA0v] at c0
    have HA0 := Aside0.mk hA0v
    clear hA0v
    go_upto_block 2 with fail
    clear hs hl1 c0 hl3
    obtain ⟨pe, hpe⟩ : ∃ pe, pe = pre ++ endsF X ws f l := ⟨_, rfl⟩
    rw [← hpe] at HJ1 HLT
    have HPE := Aside0.mk hpe
    clear hpe
    go_wp2_with fail
    go_loopg [64] X.l0.length (fun n s64 wr => ∃ j : Nat, j + n = X.l0.length ∧ s64 = .int .i64 (j : Int) ∧ Aside0 (BW X S fits w0 lr bs byy bn ws Aw k cw l Al bv W wr) ∧ Aside0 (J (pe ++ fillsTo X ws f l j) wr) ∧ (pe ++ fillsTo X ws f l j).length < most)
    case atStart => exact ⟨0, by omega, rfl, HB1, ⟨by rw [fillsTo_zero, List.append_nil]; exact HJ1.out⟩, by rw [fillsTo_zero, List.append_nil]; exact HLT.out⟩
    case round =>
      clear HB1 HJ1 HLT
      obtain ⟨j, hjn, rfl, HB, HJ, hlt⟩ := hrel
      have HJN := Aside0.mk hjn
      have HLT := Aside0.mk hlt
      clear hjn hlt
      have hn0 : (X.l0.length : Int) ≤ 1000 := by have := HL.out.n0; omega
      by_cases hj : j < X.l0.length
      · have hjz : (j : Int) < (X.l0.length : Int) := by omega
        have hjd : decide (j < X.l0.length) = true := decide_eq_true hj
        obtain ⟨a0, eA0, y0, y1⟩ := at_T53 (HB.out.fw.aw H0.out).sr.h0 (j : Int) (by omega) (by omega)
        simp only [Int.toNat_natCast] at y0 y1
        obtain ⟨wd, hwd⟩ : ∃ wd, wd = rd_T53 X.l0 (j : Int) := ⟨_, rfl⟩
        rw [← hwd] at y0 y1
        have HWD := Aside0.mk hwd
        rw [← HA0.out] at eA0
        subst eA0
        have HTS := Aside0.mk (show fillsTo X ws f l (j + 1) = fillsTo X ws f l j ++ fillW X ws f l (wd, j) by rw [hwd]; exact fillsTo_succ X ws f l j hj)
        have HJ1 := Aside0.mk hj
        clear hwd
        have hl4 := World.block_lt_of_cell? wr _ y0
        go_upto_region 12 with fail
        obtain ⟨bw, hbw⟩ : ∃ b, b = wr.heap.size := ⟨_, rfl⟩
        refine wp_gen (fun wx => Aside0 (BW X S fits w0 lr bs byy bn ws Aw k cw l Al bv W wx) ∧ Aside0 (J (pe ++ fillsTo X ws f l j) wx) ∧ Aside0 (WdAt wx bw wd)) ⟨⟨HB.out.alloc _⟩, ⟨jt_below HJJ.out HJ.out ((Below.refl _ _).alloc (Nat.le_refl _) _)⟩, ⟨by rw [hbw]; exact blk_new wr _⟩⟩ ?_
        rw [← hbw]
        clear hbw HB HJ y0 y1 hl4
        rintro wx ⟨HB, HJ, HBW⟩
        clear wr
        have h5 := HL.out.wd j hj
        rw [← HWD.out] at h5
        obtain ⟨h5a, h5b, h5c, h5d⟩ := h5
        have HMY := Aside0.mk (may_calls X S fits 0 0 0 0 k f wd.f1 wx (HB.out.fw.aw H0.out).sr h5c h5d hf0 (by rw [HL.out.l3]; exact hf1) (by rw [HL.out.l3r f hf0 hf1]; exact h5d) (by omega))
        obtain ⟨mv, hmv⟩ : ∃ mv, mv = mayV X k f wd.f1 := ⟨_, rfl⟩
        rw [← hmv] at HMY
        have HMV := Aside0.mk hmv
        clear hmv
        have hs := HB.out.fw.hs.cell
        have hl1 := blk_lt HB.out.fw.hs
        have hv := (blk_cell HB.out.hv 0).trans (show (#[Value.slice Aw k cw] : Array Value)[0]? = some _ from rfl)
        have hl2 := blk_lt HB.out.hv
        obtain ⟨d0, d1⟩ := HBW.out.cells
        have hl3 := blk_lt HBW.out
        cases mv with
        | false =>
          have HFW := Aside0.mk (show fillW X ws f l (wd, j) = [] by unfold fillW; rw [HWK.out, ← HMV.out]; rfl)
          go_wp2_with (go_at_call 80; refine HMY.out.mono ?_; rintro e w2 ⟨rfl, hB2⟩; have HB2 := Aside0.mk (HB.out.below hB2); have HJ2 := Aside0.mk (jt_below HJJ.out HJ.out hB2); clear hB2)
          go_roundg (gk - 1)
          case measure => have := HJN.out; have := HJ1.out; omega
          case rel =>
            have hts := HTS.out
            rw [HFW.out, List.append_nil] at hts
            refine ⟨j + 1, by have := HJN.out; have := HJ1.out; omega, by go_num, HB2, ?_, ?_⟩
            · rw [hts]; exact HJ2
            · rw [hts]; exact HLT.out
        | true =>
          have hk8 : k < 8 := by
            by_cases h : k < 8
            · exact h
            · have h2 := HMV.out
              rw [mayV_full (by omega)] at h2
              cases h2
          have HK8 := Aside0.mk hk8
          have HAL := Aside0.mk (show Rec X S fits (k + 1) ((k : Int) + 1) by
            have := alive_calls X S fits HX.out HL.out (8 - (k + 1)) (k + 1) (by omega)
            rwa [show ((k + 1 : Nat) : Int) = (k : Int) + 1 by omega] at this)
          obtain ⟨lw, hlw⟩ : ∃ lw, lw = wordF (rwOf X) l (bytesOf wd.f0) := ⟨_, rfl⟩
          have hc8 : cntL (rwOf X) l 8 ≤ 1000000000 := Nat.le_trans (cntL_tmono _ _ (by omega)) HCN.out
          have HLOK := Aside0.mk (show ∀ q ∈ lw, OkP X q by rw [hlw, HWD.out]; exact word_okP HX.out HL.out _ HOK.out j hj)
          have HLLN := Aside0.mk (show lw.length ≤ 1000000000 by rw [hlw, HWD.out]; exact word_len HX.out HL.out _ HOK.out hc8 j hj)
          have HWF := Aside0.mk (fun (w2 : World) (h : BW X S fits w0 lr bs byy bn ws Aw k cw l Al bv W w2) => show Calls Try.prog 99 #[.pointer (some ⟨S.b, 0, none⟩), .slice Al l.length cl, .string wd.f0] w2 fun e w' => ∃ v, e = .returned v ∧ PR w2 w' v lw ∧ Below w2.heap.size w2 w' by
            rw [hlw, HWD.out]
            exact word_full X S fits HX.out HL.out l HOK.out hc8 j hj Al cl HCL.out w2 (h.fw.aw H0.out).sr h.rl.c)
          obtain ⟨nx, hnx⟩ : ∃ nx, nx = lw.filter fun q => aliveV X q (k + 1) wd.f1 := ⟨_, rfl⟩
          have HST := Aside0.mk (fun (w2 : World) (h : C10 X S fits bs bv bw Aw k cw wd w2) (v : Value) (w : World) (hb : Below w2.heap.size w2 w) (hr : kP.R 154 w w2.heap.size (fun _ => True) v lw) => show Calls Try.prog 100 #[v, .func (.func 101) #[] #[.pointer (some ⟨bs, 0, none⟩), .pointer (some ⟨bv, 0, none⟩), .pointer (some ⟨bw, 0, none⟩)]] w fun e w' => ∃ v', e = .returned v' ∧ kP.R 154 w' w2.heap.size (fun _ => True) v' nx ∧ AW X S fits w' ∧ w2.grownBy w' (some S.mb) by
            rw [hnx]
            exact strike_calls X S fits bs bv bw Aw k cw (by omega) wd h5c h5d HAL.out w2 h v lw HLLN.out HLOK.out w hb hr)
          have HNOK := Aside0.mk (show ∀ q ∈ nx, OkP X q by rw [hnx]; exact fun q hq => HLOK.out q ((List.mem_filter.1 hq).1))
          have HNC := Aside0.mk (show cntL (rwOf X) nx (8 * (8 - (k + 1))) ≤ 1000000000 by rw [hnx, hlw, HWD.out]; exact cnt_word HX.out HL.out HOK.out hk8 HCN.out j hj _)
          have HFW := Aside0.mk (show fillW X ws f l (wd, j) = fillK X (ws ++ [(j : Int)]) wd.f1 nx by
            unfold fillW
            rw [HWK.out, ← HMV.out, if_pos rfl, hnx, hlw])
          clear hlw hnx hc8
          go_upto_region 15 with (first
            | (go_at_call 80; refine HMY.out.mono ?_; rintro e w2 ⟨rfl, hB2⟩; have HB2 := Aside0.mk (HB.out.below hB2); have HJ2 := Aside0.mk (jt_below HJJ.out HJ.out hB2); have HBW2 := Aside0.mk (show WdAt w2 bw wd from blk_below HBW.out hB2); clear hB2 hs hl1 hv hl2 d0 d1 hl3; have hs := HB2.out.fw.hs.cell; have hl1 := blk_lt HB2.out.fw.hs; obtain ⟨d0, d1⟩ := HBW2.out.cells; have hl3 := blk_lt HBW2.out)
            | (go_at_call 99; refine (HWF.out w2 HB2.out).mono ?_; rintro e w3 ⟨v, rfl, hv3, hB3⟩; have HV3 := Aside0.mk hv3; have HB3 := Aside0.mk hB3; clear hB3 hv3)
            | (go_at_call 100; refine (HST.out w2 ⟨HB2.out.fw.aw H0.out, HB2.out.fw.hs, HB2.out.hv, HBW2.out⟩ v w3 HB3.out HV3.out).mono ?_; rintro e w4 ⟨v', rfl, hv4, hA4, hG4⟩; obtain ⟨A4, c4, rfl, hc4, hr4⟩ := Rd.of_R hv4; have HR4 := Aside0.mk hr4; have HC4 := Aside0.mk hc4; have HB4 := Aside0.mk (HB2.out.wk' (WK.of_grown hG4) hA4.memo); have HJ4 := Aside0.mk (HJJ.out _ _ _ HJ2.out hG4); have HBW4 := Aside0.mk (show WdAt w4 bw wd from (HB2.out.fw.aw H0.out).keep hG4 HBW2.out); clear hv4 hA4 hG4 hr4 hc4))
          clear hs hl1 d0 d1 hl3
          by_cases hz : nx.length = 0
          · have hzd : decide (0 < nx.length) = false := decide_eq_false (by omega)
            have HNIL := Aside0.mk (show fillW X ws f l (wd, j) = [] by
              rw [HFW.out, List.eq_nil_of_length_eq_zero hz]
              exact fillF_nil X _ _ _)
            clear hz
            go_quiet (fail)
            go_wp2_with fail
            go_roundg (gk - 1)
            case measure => have := HJN.out; have := HJ1.out; omega
            case rel =>
              have hts := HTS.out
              rw [HNIL.out, List.append_nil] at hts
              refine ⟨j + 1, by have := HJN.out; have := HJ1.out; omega, by go_num, ⟨HB4.out.below (pw_below_drewN (Below.refl _ _) _)⟩, ?_, ?_⟩
              · rw [hts]; exact ⟨jt_below HJJ.out HJ4.out (pw_below_drewN (Below.refl _ _) _)⟩
              · rw [hts]; exact HLT.out
          · have hzd : decide (0 < nx.length) = true := decide_eq_true (by omega)
            have en := (blk_cell HB4.out.fw.hn 0).trans (show (#[Value.func (.func 96) #[] (capF bs byy bn)] : Array Value)[0]? = some _ from rfl)
            simp only [capF] at en
            have enl := blk_lt HB4.out.fw.hn
            have ev := (blk_cell HB4.out.hv 0).trans (show (#[Value.slice Aw k cw] : Array Value)[0]? = some _ from rfl)
            have evl := blk_lt HB4.out.hv
            have d1 := HBW4.out.cells.2
            have dl := blk_lt HBW4.out
            have HBD := Aside0.mk (show Below w4.heap.size w4 w4.drew from below_drew (Below.refl _ _))
            have HBA := Aside0.mk (show Below w4.heap.size w4 (w4.alloc (.cells #[.int .i64 (j : Int)] 3)).drew from below_drew ((Below.refl _ _).alloc (Nat.le_refl _) _))
            have HCLN := Aside0.mk (fun (W' : World) (hb : Below w4.heap.size w4 W') => show Calls Try.prog 98 #[.slice Aw k cw] W' fun e w' => ∃ v, e = .returned v ∧ kI.R 3 w' w4.heap.size (fun _ => True) v ws ∧ Below W'.heap.size W' w' by
              have h := clone_calls Aw cw ws W' (HB4.out.rw.below hb).c (by rw [HWK.out]; omega)
              rw [HWK.out] at h
              refine h.mono ?_
              rintro e w' ⟨v, rfl, hr, hb2⟩
              exact ⟨v, rfl, Kd.R_lower hr hb.size, hb2⟩)
            have HLEN := Aside0.mk (show (ws ++ [(j : Int)]).length = k + 1 by rw [List.length_append, HWK.out]; rfl)
            obtain ⟨gb, hgb⟩ : ∃ gb, gb = decide ((pe ++ fillsTo X ws f l j ++ fillK X (ws ++ [(j : Int)]) wd.f1 nx).length < most) := ⟨_, rfl⟩
            have HGB := Aside0.mk hgb
            have HRC := Aside0.mk (fun (A6 : Option Addr) (c6 : Nat) (w6 : World) (hb : Below w4.heap.size w4 w6) (hc : k + 1 ≤ c6) (hr : Rd kI 3 w6 A6 (ws ++ [(j : Int)])) => show Calls Try.prog 96 #[.slice A6 (k + 1) c6, .int .i64 wd.f1, .slice A4 nx.length c4, .pointer (some ⟨bs, 0, none⟩), .pointer (some ⟨byy, 0, none⟩), .pointer (some ⟨bn, 0, none⟩)] w6
                fun e W' => e = .returned (.bool gb) ∧ J ((pe ++ fillsTo X ws f l j ++ fillW X ws f l (wd, j)).take most) W' ∧ WK w0.heap.size S.mb w6 W' ∧ MemoAt Try.prog 139 (AliveR X) W' S.mb ∧ BW X S fits w0 lr bs byy bn ws Aw k cw l Al bv W W' ∧ WdAt W' bw wd by
              have h := HREC.out hk8 (ws ++ [(j : Int)]) wd.f1 nx A6 A4 c6 c4 (pe ++ fillsTo X ws f l j) w6 HLEN.out h5c h5d HNOK.out HNC.out hc HC4.out hr (HR4.out.below hb) (HB4.out.fw.below hb) (jt_below HJJ.out HJ4.out hb) HLT.out
              unfold WalkOut at h
              rw [← hgb, ← HFW.out] at h
              refine h.mono ?_
              rintro e W' ⟨h1, h2, h3, h4⟩
              have hw6 : WdAt w6 bw wd := blk_below HBW4.out hb
              exact ⟨h1, h2, h3, h4, (HB4.out.below hb).wk' h3 h4, h3.cells hw6 ((HB4.out.fw.below hb).ne hw6) (by decide) (by decide)⟩)
            have HS4 := Aside0.mk (fun (W' : World) (h : Below w4.heap.size w4 W') => (show W'.cell? ⟨bn, 0, none⟩ = some (.func (.func 96) #[] #[.pointer (some ⟨bs, 0, none⟩), .pointer (some ⟨byy, 0, none⟩), .pointer (some ⟨bn, 0, none⟩)]) ∧ W'.cell? ⟨bv, 0, none⟩ = some (.slice Aw k cw) ∧ W'.cell? ⟨bw, 1, none⟩ = some (.int .i64 wd.f1) from
              ⟨(h.cell (p := ⟨bn, 0, none⟩) enl).trans en, (h.cell (p := ⟨bv, 0, none⟩) evl).trans ev, (h.cell (p := ⟨bw, 1, none⟩) dl).trans d1⟩))
            clear hz hgb hk8
            go_region_held3 (fun w' => w'.cell? ⟨bn, 0, none⟩ = some (.func (.func 96) #[] #[.pointer (some ⟨bs, 0, none⟩), .pointer (some ⟨byy, 0, none⟩), .pointer (some ⟨bn, 0, none⟩)]) ∧ w'.cell? ⟨bv, 0, none⟩ = some (.slice Aw k cw) ∧ w'.cell? ⟨bw, 1, none⟩ = some (.int .i64 wd.f1))
              (first
                | exact HS4.out _ HBD.out
                | exact HS4.out _ HBA.out
                | exact HS7.out
                | exact HS4.out _ HB6.out
                | exact HS4.out _ HB5.out
                | exact HS4.out _ (HB5.out.alloc HZ5.out _)
                | go_keep)
              (first
                | (go_at_call 98; refine (HCLN.out w4.drew HBD.out).mono ?_; rintro e w5 ⟨v5, rfl, hv5, hB5⟩; obtain ⟨A5, c5, rfl, -, -⟩ := Rd.of_R' hv5 HWK.out; have HV5 := Aside0.mk hv5; have HB5 := Aside0.mk (show Below w4.heap.size w4 w5 from HBD.out.trans hB5); have HZ5 := Aside0.mk HB5.out.size; have VA := Aside0.mk trivial; clear hv5 hB5)
                | (go_at_call 98; refine (HCLN.out (w4.alloc (.cells #[.int .i64 (j : Int)] 3)).drew HBA.out).mono ?_; rintro e w5 ⟨v5, rfl, hv5, hB5⟩; obtain ⟨A5, c5, rfl, -, -⟩ := Rd.of_R' hv5 HWK.out; have HV5 := Aside0.mk hv5; have HJB := Aside0.mk (show w5.heap[w4.heap.size]? = some (.cells #[.int .i64 (j : Int)] 3 (0, 0)) from blk_below (show (w4.alloc (.cells #[.int .i64 (j : Int)] 3)).drew.heap[w4.heap.size]? = _ from blk_new w4 _) hB5); have HB5 := Aside0.mk (show Below w4.heap.size w4 w5 from HBA.out.trans (hB5.mono HBA.out.size)); have HZ5 := Aside0.mk HB5.out.size; clear hv5 hB5)
                | (go_at_call 96; refine (HRC.out A6 c6 w6 HB6.out HC6.out HR6.out).mono ?_; rintro e w7 ⟨rfl, hj7, hk7, hm7, hb7, hw7⟩; have HJ7 := Aside0.mk hj7; have HB7 := Aside0.mk hb7; have HW7 := Aside0.mk hw7; have HS7 := Aside0.mk (show w7.cell? ⟨bn, 0, none⟩ = some (.func (.func 96) #[] #[.pointer (some ⟨bs, 0, none⟩), .pointer (some ⟨byy, 0, none⟩), .pointer (some ⟨bn, 0, none⟩)]) ∧ w7.cell? ⟨bv, 0, none⟩ = some (.slice Aw k cw) ∧ w7.cell? ⟨bw, 1, none⟩ = some (.int .i64 wd.f1) from ⟨(blk_cell hb7.fw.hn 0).trans rfl, (blk_cell hb7.hv 0).trans rfl, hw7.cells.2⟩); clear hj7 hk7 hm7 hb7 hw7)
                | (refine Kd.R_append_rows_step kI (w0 := w4) (Rr := fun y cs => cs = [.int .i64 y]) w4.heap.size rfl _ _ 22 3 (.int .i64 0) 8 rfl Try.underlying22 (by kernel_rfl) rfl (by decide) (by omega) (.slice A5 k c5) ws [(j : Int)] (some ⟨w5.heap.size, 0, none⟩) 1 1 (fun _ => True) (fun _ => False) rfl rfl (Kd.R_alloc HV5.out _) (row_one (blk_cell (blk_new w5 _) 0)) ?_ (fun _ h => h.elim) (fun _ _ => trivial) (HB5.out.alloc HZ5.out _) (by have := HZ5.out; simp; omega) ?_ ?_
                   · exact fun x cs h => h
                   · (rw [HWK.out]; omega)
                   intro v6 w6 hv6 hB6 hG6 hat6
                   obtain ⟨A6, c6, rfl, hc6, hr6⟩ := Rd.of_R' hv6 HLEN.out
                   have HR6 := Aside0.mk hr6
                   have HC6 := Aside0.mk hc6
                   have HB6 := Aside0.mk hB6
                   clear hv6 hB6 hG6 hat6 hr6 hc6)
                | (refine Kd.R_append_rows_step kI (w0 := w4) (Rr := fun y cs => cs = [.int .i64 y]) w4.heap.size rfl _ _ 22 3 (.int .i64 0) 8 rfl Try.underlying22 (by kernel_rfl) rfl (by decide) (by omega) (.slice A5 k c5) ws [(j : Int)] (some ⟨w4.heap.size, 0, none⟩) 1 1 (fun _ => True) (fun _ => False) rfl rfl HV5.out (row_one (blk_cell HJB.out 0)) ?_ (fun _ h => h.elim) (fun _ _ => trivial) HB5.out HZ5.out ?_ ?_
                   · exact fun x cs h => h
                   · (rw [HWK.out]; omega)
                   intro v6 w6 hv6 hB6 hG6 hat6
                   obtain ⟨A6, c6, rfl, hc6, hr6⟩ := Rd.of_R' hv6 HLEN.out
                   have HR6 := Aside0.mk hr6
                   have HC6 := Aside0.mk hc6
                   have HB6 := Aside0.mk hB6
                   clear hv6 hB6 hG6 hat6 hr6 hc6))
            all_goals
              have HTS2 := Aside0.mk (show pe ++ fillsTo X ws f l (j + 1) = pe ++ fillsTo X ws f l j ++ fillW X ws f l (wd, j) by rw [HTS.out, List.append_assoc])
              have HGB2 := Aside0.mk (show gb = decide ((pe ++ fillsTo X ws f l (j + 1)).length < most) by rw [HTS2.out, HFW.out]; exact HGB.out)
              rw [← HTS2.out] at HJ7
              cases gb with
              | true =>
                have hlt7 := of_decide_eq_true HGB2.out.symm
                have HLT7 := Aside0.mk hlt7
                rw [List.take_of_length_le (Nat.le_of_lt hlt7)] at HJ7
                clear hlt7
                go_wp2_with fail
                go_roundg (gk - 1)
                case measure => have := HJN.out; have := HJ1.out; omega
                case rel => exact ⟨j + 1, by have := HJN.out; have := HJ1.out; omega, by go_num, HB7, HJ7, HLT7.out⟩
              | false =>
                have HLT7 := Aside0.mk (of_decide_eq_false HGB2.out.symm)
                obtain ⟨rr, hrr⟩ := fillK_cut X ws f l (by rw [HWK.out]; exact hk) (j + 1)
                have HALL := Aside0.mk (show pre ++ fillK X ws f l = (pe ++ fillsTo X ws f l (j + 1)) ++ rr by rw [hrr, HPE.out, List.append_assoc, List.append_assoc])
                clear hrr
                go_wp2_with fail
                go_ret
                refine ⟨?_, ?_, HB7.out.wk, HB7.out.fw.memo⟩
                · rw [HALL.out, decide_eq_false (by rw [List.length_append]; have := HLT7.out; omega)]
                  rfl
                · rw [HALL.out, List.take_append_of_le_length (by have := HLT7.out; omega)]
                  exact HJ7.out
      · have hjz : ¬ (j : Int) < (X.l0.length : Int) := by omega
        have hjd : decide (j < X.l0.length) = false := decide_eq_false hj
        have HALL := Aside0.mk (show pre ++ fillK X ws f l = pe ++ fillsTo X ws f l j by rw [HPE.out, List.append_assoc, ← fillsTo_all X ws f l j (by omega) (by rw [HWK.out]; exact hk)])
        go_wp2_with fail
        go_ret
        refine ⟨?_, ?_, HB.out.wk, HB.out.fw.memo⟩
        · rw [HALL.out, decide_eq_true HLT.out]
          rfl
        · rw [HALL.out, List.take_of_length_le (Nat.le_of_lt HLT.out)]
          exact HJ.out
end Go.Proofs.Ytkfebceainedfaa.P.OwnGap
namespace Go.Proofs.Ytkfebceainedfaa.P.OwnGap
open Go.RowKit Go.Shelf Go.Proofs.YtkfebceainedfaaW.PrintWords Go.Proofs.YtkfebceainedfaaW.PrintLast Go.Proofs.YtkfebceainedfaaW.PrintMore
open Go.Proofs.Ytkfebceainedfaa.OwnGap
set_option linter.unusedVariables false
set_option linter.unusedSimpArgs false
attribute [local go_sem] Oper.semAt_some
def fil31 (x : Fil) : S31 := ⟨x.1, x.2⟩
def fx31 (x : Fx) : S31 := ⟨x.ws, x.fs⟩
structure KI (S : SV) (w0 : World) (bm bl most : Nat) (xs : List Fx) (W : World) : Prop where
 l : ∃ v, W.heap[bl]? = some (.cells #[v] 37 (0, 0)) ∧ k31.R 31 W w0.heap.size (fun _ => True) v (xs.map fx31)
 m : W.heap[bm]? = some (.cells #[.int .i64 (most : Int)] 3 (0, 0))
 km : KM w0.heap.size S.mb w0 W
theorem R_cells {α : Type} {d : Kd α} {e base : Nat} {W W' : World} {v : Value} {xs : List α} (h : d.R e W base (fun _ => True) v xs) (hs : ∀ k c t fr, base ≤ k → W.heap[k]? = some (.cells c t fr) → W'.heap[k]? = W.heap[k]?) : d.R e W' base (fun _ => True) v xs :=
 Kd.R_mono (Kd.R_step (Kd.R_bound h) (fun k hk _ => by
  obtain ⟨_, hb, _, q, _, cells, hc⟩ := hk
  exact hs k _ _ _ hb hc)) (fun _ _ => trivial)
section
variable {S : SV} {w0 : World} {bm bl most : Nat} {xs : List Fx} {W W' : World}
theorem KI.grown (h : KI S w0 bm bl most xs W) (h1 : w0.heap.size ≤ bm) (h2 : w0.heap.size ≤ bl) {row : Option Nat} (hg : W.grownBy W' row) (hr : ∀ r, row = some r → r = S.mb ∧ r < w0.heap.size ∨ (w0.heap.size ≤ r ∧ ∀ c t fr, W.heap[r]? ≠ some (.cells c t fr))) : KI S w0 bm bl most xs W' := by
 have hc : ∀ {k : Nat} {c : Array Value} {t : TypeId} {fr : Nat × Nat}, w0.heap.size ≤ k → W.heap[k]? = some (.cells c t fr) → W'.heap[k]? = W.heap[k]? := fun {k c t fr} hk hb => hg.block k (Array.getElem?_eq_some_iff.1 hb).1 (fun e => by
  rcases hr k e.symm with ⟨_, h⟩ | ⟨_, h⟩
  ·omega
  ·exact h _ _ _ hb)
 obtain ⟨v, hv, hR⟩ := h.l
 refine ⟨⟨v, (hc h2 hv).trans hv, R_cells hR (fun k c t fr hk hb => hc hk hb)⟩, (hc h1 h.m).trans h.m, ?_⟩
 refine h.km.trans ⟨hg.os, hg.tape, hg.output, hg.size, fun k hk hne => hg.block k (Nat.lt_of_lt_of_le hk h.km.size) (fun e => ?_)⟩
 rcases hr k e.symm with ⟨h, _⟩ | ⟨h, _⟩
 ·exact hne h
 ·omega
theorem KI.below (h : KI S w0 bm bl most xs W) (h1 : w0.heap.size ≤ bm) (h2 : w0.heap.size ≤ bl) (hb : Below W.heap.size W W') : KI S w0 bm bl most xs W' := h.grown h1 h2 (grown_below hb none) (fun r e => by cases e)
theorem fxM.below {n0 : Nat} {x : Fx} (h : fxM n0 x W) (hb : Below W.heap.size W W') : fxM n0 x W' := ⟨Kd.R_below h.1 hb, Kd.R_below h.2 hb⟩
end
theorem KpF.book {n0 : Nat} {w : World} (hn : n0 ≤ w.heap.size) (W : World) (l : Nat) (o o' : Obj) (hl : w.heap.size ≤ l) (h : W.heap[l]? = some o) (hc : o.isCells = false) (hw : o.isWalk = false) : KpF n0 W (W.putObj l o') :=
 ⟨rfl, rfl, rfl, by simp [World.putObj], fun k o2 hk h2 => (World.putObj_heap_other (fun e => by
  rcases h2 with h2 | ⟨c, t, fr, rfl, _⟩
  ·omega
  ·rw [e, h] at hk
   injection hk with hk
   subst hk
   simp [Obj.isCells] at hc)).trans hk⟩
theorem k31_E {q : Nat} (h : q ∈ k31.E) : q = 3 := by
 rw [show k31.E = [3, 3] from rfl] at h
 simpa using h
theorem KI.app {S : SV} {w0 : World} {bm bl most : Nat} {pre : List Fx} {W w5 : World} {B : Nat} (h1 : w0.heap.size ≤ bm) (h2 : bl = bm + 1) (hI : KI S w0 bm bl most pre W) {v v' : Value} (hv : W.heap[bl]? = some (.cells #[v] 37 (0, 0))) {inner : List Value}
  (hown : W.ownsRow w0.heap.size 31 2 v (pre.map fx31).length inner) (hr : Reps (k31.M W w0.heap.size (fun k => True ∧ some k ≠ v.ownBlock)) 2 (pre.map fx31) inner) {x : Fx} (hM : fxM w0.heap.size x W) (o : Obj)
  (ho5 : w5.ownsRow w0.heap.size 31 2 v' ((pre.map fx31).length + 1) (inner ++ [x.v1, x.v2])) (hg : (W.alloc o).grownBy w5 v.ownBlock) :
  KI S w0 bm bl most (pre ++ [x]) (w5.setCell ⟨bl, 0, none⟩ v') ∧ KpF w0.heap.size W (w5.setCell ⟨bl, 0, none⟩ v') ∧ KeepsFrom B W (w5.setCell ⟨bl, 0, none⟩ v') := by
 have hty : ∀ k, v.ownBlock = some k → w0.heap.size ≤ k ∧ ∃ cells, W.heap[k]? = some (.cells cells 31 (0, 0)) := fun k hk => ⟨own_base hown k hk, own_typed hown k hk⟩
 have hk : ∀ (b : Nat) (u : Obj), W.heap[b]? = some u → (b < w0.heap.size ∨ ∀ cells, u ≠ .cells cells 31 (0, 0)) → w5.heap[b]? = some u := fun b u hb h3 => by
  have hlt : b < W.heap.size := (Array.getElem?_eq_some_iff.1 hb).1
  refine (hg.block b (by simp; omega) (fun e => ?_)).trans ((Below.heap_alloc W o b hlt).trans hb)
  obtain ⟨h4, cells, hc⟩ := hty b e.symm
  rcases h3 with h3 | h3
  ·omega
  ·rw [hb] at hc
   injection hc with hc
   exact h3 _ hc
 have hk2 : ∀ (b : Nat) (u : Obj), W.heap[b]? = some u → (b < w0.heap.size ∨ ∀ cells, u ≠ .cells cells 31 (0, 0)) → b ≠ bl → (w5.setCell ⟨bl, 0, none⟩ v').heap[b]? = some u := fun b u hb h3 hne => (Below.heap_setCell w5 ⟨bl, 0, none⟩ v' b hne).trans (hk b u hb h3)
 have hsz : W.heap.size ≤ (w5.setCell ⟨bl, 0, none⟩ v').heap.size := by have := hg.size; simp [World.setCell] at this ⊢; omega
 have hbl5 := hk bl _ hv (.inr fun cells e => by injection e with _ e; exact absurd e (by decide))
 have hty5 : ∀ k, v'.ownBlock = some k → ∃ cells, w5.heap[k]? = some (.cells cells 31 (0, 0)) := fun k hk => own_typed ho5 k hk
 have hstep : ∀ {ok : Nat → Prop} {q : S31} {c : List Value}, k31.M W w0.heap.size ok q c → k31.M (w5.setCell ⟨bl, 0, none⟩ v') w0.heap.size (fun k => True ∧ some k ≠ v'.ownBlock) q c := by
  intro ok q c h
  have hb := k31.M_bound h
  have hs : ∀ k, (ok k ∧ w0.heap.size ≤ k ∧ k < W.heap.size ∧ ∃ q, q ∈ k31.E ∧ ∃ cells, W.heap[k]? = some (.cells cells q (0, 0))) → w5.heap[k]? = W.heap[k]? ∧ k ≠ bl ∧ ∃ cells, W.heap[k]? = some (.cells cells 3 (0, 0)) := by
   rintro k ⟨_, _, _, q, hq, cells, hc⟩
   obtain rfl := k31_E hq
   refine ⟨(hk k _ hc (.inr fun _ e => by injection e with _ e; exact absurd e (by decide))).trans hc.symm, ?_, cells, hc⟩
   rintro rfl
   rw [hv] at hc
   injection hc with hc
   injection hc with _ hc
   exact absurd hc (by decide)
  refine k31.M_mono (fun k hk3 => ⟨trivial, fun e => ?_⟩) (k31.M_move (fun k hk3 => (Below.heap_setCell w5 ⟨bl, 0, none⟩ v' k (hs k hk3).2.1).trans (hs k hk3).1) hb)
  obtain ⟨e1, _, cells, hc⟩ := hs k hk3
  obtain ⟨cells', hc'⟩ := hty5 k e.symm
  rw [e1, hc] at hc'
  injection hc' with hc'
  injection hc' with _ hc'
  exact absurd hc' (by decide)
 refine ⟨⟨⟨v', ?_, fun _ _ => trivial, inner ++ [x.v1, x.v2], ?_, ?_⟩, ?_, ?_⟩, ⟨?_, ?_, ?_, hsz, fun k u hu h3 => ?_⟩, ⟨hsz, fun k u hB hu hc => ?_⟩⟩
 ·simpa using blk_set hbl5 0 v'
 ·rw [List.map_append, List.length_append]
  refine own_setCell ho5 (fun e => ?_) _
  obtain ⟨cells, hc⟩ := hty5 bl e.symm
  rw [hbl5] at hc
  injection hc with hc
  injection hc with _ hc
  exact absurd hc (by decide)
 ·rw [List.map_append]
  exact (hr.imp_ (fun _ _ hq => hstep hq)).snoc (hstep (k31_mkM W w0.heap.size (fun _ => True) (fx31 x) hM.1 hM.2)) rfl
 ·exact hk2 bm _ hI.m (.inr fun _ e => by injection e with _ e; exact absurd e (by decide)) (by omega)
 ·refine hI.km.trans ⟨hg.os, hg.tape, hg.output, hsz, fun k hk3 hne => ?_⟩
  obtain ⟨u, hu⟩ : ∃ u, W.heap[k]? = some u := ⟨_, Array.getElem?_eq_getElem (Nat.lt_of_lt_of_le hk3 hI.km.size)⟩
  rw [hu]
  exact hk2 k u hu (.inl hk3) (by omega)
 ·exact hg.os
 ·exact hg.tape
 ·exact hg.output
 ·rcases h3 with h3 | ⟨c, t, fr, rfl, h3, h4⟩
  ·exact hk2 k u hu (.inl h3) (by omega)
  ·refine hk2 k _ hu (.inr fun cells e => by injection e with _ e; exact h3 e) (fun e => ?_)
   subst e
   rw [hv] at hu
   injection hu with hu
   injection hu with _ hu
   exact h4 hu.symm
 ·refine hk2 k u hu (.inr fun cells e => by subst e; simp [Obj.isCells] at hc) (fun e => ?_)
  subst e
  rw [hv] at hu
  injection hu with hu
  subst hu
  simp [Obj.isCells] at hc
theorem app_far {W w5 : World} {n0 n : Nat} {v : Value} {inner : List Value} (hown : W.ownsRow n0 31 2 v n inner) (o : Obj) (hg : (W.alloc o).grownBy w5 v.ownBlock) {b : Nat} {c : Array Value} {t : TypeId} {fr : Nat × Nat} (hb : W.heap[b]? = some (.cells c t fr)) (ht : t ≠ 31) : w5.heap[b]? = some (.cells c t fr) := by
 have hlt : b < W.heap.size := (Array.getElem?_eq_some_iff.1 hb).1
 refine (hg.block b (by simp; omega) (fun e => ?_)).trans ((Below.heap_alloc W o b hlt).trans hb)
 obtain ⟨cells, hc⟩ := own_typed hown b e.symm
 rw [hb] at hc
 injection hc with hc
 injection hc with _ hc
 exact ht hc
def AxF (S : SV) (w0 : World) (bm bl bs most : Nat) (x : Fx) (a' : Act) (W : World) : Prop :=
 ∃ Bx, bl < Bx ∧ W.heap[Bx]? = some (.cells #[x.v1, x.v2] 31 (0, 0)) ∧ fxM w0.heap.size x W ∧
  a' = { tmps := #[.pointer (some ⟨S.b, 0, none⟩), .int .i64 (most : Int), undef, .pointer (some ⟨bm, 0, none⟩), .slice none 0 0, .pointer (some ⟨bl, 0, none⟩), .pointer (some ⟨Bx, 0, none⟩), .int .i64 (most : Int), .bool false, .pointer (some ⟨S.b, 0, none⟩), .func (.func 95) #[] #[.pointer (some ⟨bs, 0, none⟩)], .agg #[x.v1, x.v2], undef, undef, undef, undef, undef, undef, undef, undef, undef], defers := [] }
set_option maxHeartbeats 2000000 in
set_option maxRecDepth 100000 in
theorem first_calls (X : Lx) (S : SV) (fits : List Int) (hp0 : OkP X p0) (hone : 1 ≤ X.l1.length) (most : Nat) (hms : most ≤ 100000) (w0 : World) (h0 : AW X S fits w0)
  (hWC : ∀ lr bs byy bn J, JIt S.mb J → Yld w0 lr most J → 0 < most → WalkC X S fits w0 lr bs byy bn most J 0) :
  Calls Try.prog 51 #[.pointer (some ⟨S.b, 0, none⟩), .int .i64 (most : Int)] w0 fun e w' => ∃ v, e = .returned v ∧ k31.R 31 w' w0.heap.size (fun _ => True) v (((fillF X 8 [] 0 [p0]).take most).map fil31) ∧ w0.grownBy w' (some S.mb) := by
 have H0 := Aside0.mk h0
 have HP := Aside0.mk hp0
 have HWC := Aside0.mk hWC
 clear h0 hp0 hWC
 by_cases hm : most = 0
 ·have hmd : ((most : Int) == 0) = true := by rw [hm]; rfl
  have HM := Aside0.mk hm
  have HB := Aside0.mk (show Below w0.heap.size w0 ((w0.alloc (.cells #[.int .i64 (most : Int)] 3)).alloc (.cells #[.slice none 0 0] 37)) from ((Below.refl _ _).alloc (Nat.le_refl _) _).alloc (by simp) _)
  clear hm
  go_enter Try.func51, Try.ntmps51
  go_wp2_with fail
  go_ret
  exact ⟨_, rfl, by rw [HM.out]; exact Kd.R_nil _ _ _ _ _, grown_below HB.out _⟩
 ·have hmd : ((most : Int) == 0) = false := beq_eq_false_iff_ne.2 (by omega)
  have hm0 : 0 < most := by omega
  clear hm
  refine (callsIn_wide (n := 9)).1 ?_
  refine callsIn_of_wp_marks Try.func51 rfl trivial ?_ rfl
  simp only [Try.ntmps51, List.size_toArray, List.length_cons, List.length_nil, Nat.reduceAdd, Nat.reduceSub, Array.replicate_succ, Array.replicate_zero, List.push_toArray, List.append_toArray, List.nil_append, List.cons_append]
  refine wpIn_wide.2 ?_
  go_upto_region 2 with fail
  obtain ⟨bm, hbm⟩ : ∃ b, b = w0.heap.size := ⟨_, rfl⟩
  have HBM := Aside0.mk hbm
  refine wp_gen (fun wx => Aside0 (KI S w0 bm (bm + 1) most [] wx) ∧ Aside0 (MemoAt Try.prog 139 (AliveR X) wx S.mb ∧ wx.heap.size = bm + 2)) ?_ ?_
  ·have b2 := blk_new (w0.alloc (.cells #[.int .i64 (most : Int)] 3)) (.cells #[.slice none 0 0] 37)
   rw [World.size_alloc] at b2
   have hB : Below w0.heap.size w0 ((w0.alloc (.cells #[.int .i64 (most : Int)] 3)).alloc (.cells #[.slice none 0 0] 37)) := ((Below.refl _ _).alloc (Nat.le_refl _) _).alloc (by simp) _
   rw [hbm]
   exact ⟨⟨⟨⟨_, b2, Kd.R_nil _ _ _ _ _⟩, blk_alloc (blk_new w0 _) _, KM.below hB⟩⟩, ⟨H0.out.memo.keep (hB.block S.mb H0.out.mlt), by simp⟩⟩
  rw [← hbm]
  clear hbm
  rintro w1 ⟨HI, HS1⟩
  have em := (blk_cell HI.out.m 0).trans (show (#[Value.int .i64 (most : Int)] : Array Value)[0]? = some _ from rfl)
  have eml := blk_lt HI.out.m
  go_upto_block 0 with first | (go_at_call 78; refine (fillings_calls S _).mono ?_; rintro e w2 ⟨rfl, rfl⟩) | fail
  obtain ⟨bs, hbs⟩ : ∃ b, b = w1.heap.size := ⟨_, rfl⟩
  have HSP := Aside0.mk (show SpAt (w1.alloc (.cells #[.pointer (some ⟨S.b, 0, none⟩)] 92)) bs S by rw [hbs]; exact blk_new w1 _)
  have HB1 := Aside0.mk (show Below w1.heap.size w1 (w1.alloc (.cells #[.pointer (some ⟨S.b, 0, none⟩)] 92)) from (Below.refl _ _).alloc (Nat.le_refl _) _)
  have HBS := Aside0.mk (show bs = bm + 2 by rw [hbs]; exact HS1.out.2)
  have HZ := Aside0.mk (show (w1.alloc (.cells #[.pointer (some ⟨S.b, 0, none⟩)] 92)).heap.size = bm + 3 by have := HS1.out.2; simp; omega)
  rw [← hbs]
  clear hbs em eml
  have HI2 := Aside0.mk (HI.out.below (by have := HBM.out; omega) (by have := HBM.out; omega) HB1.out)
  have HM2 := Aside0.mk (HS1.out.1.keep (HB1.out.block S.mb (by have := H0.out.mlt; have := HI.out.km.size; omega)))
  clear HI HS1 HB1
  revert HSP HI2 HM2 HZ
  generalize (w1.alloc (.cells #[.pointer (some ⟨S.b, 0, none⟩)] 92)) = W0
  intro HSP HZ HI2 HM2
  go_wp2_with fail
  refine (wpIn_wide (n := 9)).1 ?_
  refine wpIn_rangeFunc_S (α := Fx) rfl (by decide) (gf := 95) (lb := #[.pointer (some ⟨bs, 0, none⟩)]) rfl trivial (enters_of Try.func95 (by kernel_rfl) rfl) hm0 0
   (fil_seq X S fits w0 H0.out HP.out hone 8 bs most hm0 (fun lr byy bn J h1 h2 => HWC.out lr bs byy bn J h1 h2 hm0) W0 ⟨HI2.out.km, HM2.out, HSP.out⟩)
   (fun h k => h.trans k) (KpF.book HI2.out.km.size) ?it (Below.refl _ _) (fun _ => rfl)
   (fun pre W => KI S w0 bm (bm + 1) most pre W ∧ bm + 2 < W.heap.size) ?own ?abide ⟨HI2.out, by rw [HZ.out]; omega⟩ (AxF S w0 bm (bm + 1) bs most) ?hAx ?assign ?body ?done
  case it =>
   intro A B k o hk hg hA hc
   exact (hg.block k (Array.getElem?_eq_some_iff.1 hA).1 (fun e => by injection e; have := H0.out.mlt; have := HI2.out.km.size; omega)).trans hA
  case own =>
   intro s W W' row hs hg hr
   refine ⟨hs.1.grown (by have := HBM.out; omega) (by have := HBM.out; omega) hg (fun r e => .inr ⟨by have := (hr r e).1; have := HI2.out.km.size; omega, fun c t fr hb => ?_⟩), Nat.lt_of_lt_of_le hs.2 hg.size⟩
   obtain ⟨_, o, ho, hc⟩ := hr r e
   rw [hb] at ho
   injection ho with ho
   subst ho
   simp [Obj.isCells] at hc
  case abide =>
   intro s A B hs hg
   exact ⟨hs.1.grown (by have := HBM.out; omega) (by have := HBM.out; omega) hg (fun r e => .inl ⟨by injection e with e; exact e.symm, by injection e with e; rw [← e]; exact H0.out.mlt⟩), Nat.lt_of_lt_of_le hs.2 hg.size⟩
  case hAx =>
   rintro x a' _ W W' row ⟨Bx, h1, h2, h3, rfl⟩ hg hr
   have hc : ∀ {k : Nat} {c : Array Value} {t : TypeId} {fr : Nat × Nat}, W.heap[k]? = some (.cells c t fr) → W'.heap[k]? = W.heap[k]? := fun {k c t fr} hb => hg.block k (Array.getElem?_eq_some_iff.1 hb).1 (fun e => by
    obtain ⟨_, o, ho, hc⟩ := hr k e.symm
    rw [hb] at ho
    injection ho with ho
    subst ho
    simp [Obj.isCells] at hc)
   exact ⟨Bx, h1, (hc h2).trans h2, ⟨R_cells h3.1 (fun k c t fr _ hb => hc hb), R_cells h3.2 (fun k c t fr _ hb => hc hb)⟩, rfl⟩
  case assign =>
   rintro lr pre ⟨v1, v2, ws, fs⟩ W K hi hmx hK
   obtain ⟨A1, c1, e1⟩ := Kd.R_slice hmx.1
   obtain ⟨A2, c2, e2⟩ := Kd.R_slice hmx.2
   dsimp only at e1 e2
   subst e1
   subst e2
   have HKK := Aside0.mk hK
   have HII := Aside0.mk hi
   have HMX := Aside0.mk hmx
   clear hK hi hmx
   simp only [fxE]
   gi_wp2
   have hb : Below W.heap.size W (W.alloc (.cells #[.slice A1 ws.length c1, .slice A2 fs.length c2] 31)) := (Below.refl _ _).alloc (Nat.le_refl _) _
   refine HKK.out _ _ ((KeepsOthers.alloc _ _).from _) (KpF.of_below hb) ⟨HII.out.1.below (by have := HBM.out; omega) (by have := HBM.out; omega) hb, by have := HII.out.2; simp; omega⟩ ⟨W.heap.size, by have := HII.out.2; omega, blk_new W _, HMX.out.below hb, rfl⟩
  case body =>
   rintro lr pre ⟨v1, v2, ws, fs⟩ a' W ⟨hi, hsz⟩ ⟨Bx, hBx, hSx, hMx, rfl⟩ hlen
   obtain ⟨A1, c1, e1⟩ := Kd.R_slice hMx.1
   obtain ⟨A2, c2, e2⟩ := Kd.R_slice hMx.2
   dsimp only at e1 e2 hSx
   subst e1
   subst e2
   have HII := Aside0.mk hi
   have HSX := Aside0.mk hSx
   have HMX := Aside0.mk hMx
   have HLEN := Aside0.mk hlen
   have HSZ := Aside0.mk hsz
   have HBX := Aside0.mk hBx
   have em := (blk_cell hi.m 0).trans (show (#[Value.int .i64 (most : Int)] : Array Value)[0]? = some _ from rfl)
   have eml := blk_lt hi.m
   obtain ⟨v, hv, hR⟩ := hi.l
   have ev := (blk_cell hv 0).trans (show (#[v] : Array Value)[0]? = some v from rfl)
   have evl := blk_lt hv
   have evf := blk_frozen hv 0
   have x0 := (blk_cell hSx 0).trans (show (#[Value.slice A1 ws.length c1, Value.slice A2 fs.length c2] : Array Value)[0]? = some _ from rfl)
   have x1 := (blk_cell hSx 1).trans (show (#[Value.slice A1 ws.length c1, Value.slice A2 fs.length c2] : Array Value)[1]? = some _ from rfl)
   have hxl := blk_lt hSx
   have HV := Aside0.mk hv
   have HR := Aside0.mk hR
   clear hi hsz hSx hMx hlen hv hR hBx
   obtain ⟨-, inner, hown, hrep⟩ := HR.out
   obtain ⟨Av, cv, rfl⟩ := own_slice hown
   have HOWN := Aside0.mk hown
   have HREP := Aside0.mk hrep
   have HPL := Aside0.mk (show (pre.map fx31).length = pre.length from List.length_map ..)
   have hinf : (Try.prog.info? 31).map (fun i => (i.zero, i.size, i.bytes)) = some (some (.agg #[.slice none 0 0, .slice none 0 0]), 2, 48) := by kernel_rfl
   obtain ⟨inf, hi0, hi1, hi2, hi3⟩ : ∃ inf, Try.prog.info? 31 = some inf ∧ inf.zero = some (.agg #[.slice none 0 0, .slice none 0 0]) ∧ inf.size = 2 ∧ inf.bytes = 48 := by
    rw [Option.map_eq_some_iff] at hinf
    obtain ⟨inf, e1, e2⟩ := hinf
    injection e2 with e2 e3
    injection e3 with e3 e4
    exact ⟨inf, e1, e2, e3, e4⟩
   have HINF := Aside0.mk (show Try.prog.info? 31 = some inf ∧ inf.zero = some (.agg #[.slice none 0 0, .slice none 0 0]) ∧ inf.size = 2 ∧ inf.bytes = 48 from ⟨hi0, hi1, hi2, hi3⟩)
   have HOW2 := Aside0.mk (fun o => show (W.alloc o).ownsRow w0.heap.size 31 2 (.slice Av (pre.map fx31).length cv) (pre.map fx31).length inner from own_move HOWN.out (fun k hk => by
    obtain ⟨_, h2⟩ := own_typed HOWN.out k hk
    exact Below.heap_alloc _ _ _ (blk_lt h2)))
   have HNC := Aside0.mk (show ∀ j u, [Value.slice A1 ws.length c1, Value.slice A2 fs.length c2][j]? = some u → (W.alloc (.cells #[.slice A1 ws.length c1, .slice A2 fs.length c2] 31)).cell? ((⟨W.heap.size, 0, none⟩ : Addr).add j) = some u from fun j u hj => by
    rw [show ((⟨W.heap.size, 0, none⟩ : Addr).add j) = ⟨W.heap.size, j, none⟩ by cases j <;> simp [Addr.add], blk_cell (blk_new W _), ← hj]
    simp)
   have HLE := Aside0.mk (show (pre.map fx31).length < most by rw [HPL.out]; exact HLEN.out)
   have hml : (pre.map fx31).length ≤ 100000 := by have := HLE.out; omega
   clear hown hrep hinf hi0 hi1 hi2 hi3
   obtain ⟨pl, hpl⟩ : ∃ pl, pl = (pre.map fx31).length := ⟨_, rfl⟩
   rw [← hpl] at hml HLE HOW2 HOWN HPL ev HV HREP
   have HPLE := Aside0.mk hpl
   clear hpl
   dsimp only
   by_cases hlast : pl + 1 = most
   ·have hq : (((pl + 1 : Nat) : Int) == (most : Int)) = true := by rw [hlast]; simp
    have hq2 : (pl + 1 == most) = true := by rw [hlast]; simp
    have hq3 : ((pl : Int) + 1 == (most : Int)) = true := by rw [← hlast]; simp
    have HLAST := Aside0.mk hlast
    clear hlast
    gi_wp2_with (first | (gi_at_builtin; refine wpListIn_append_own _ rfl _ _ 37 rfl w0.heap.size 31 inf (.agg #[.slice none 0 0, .slice none 0 0]) 2 48 (by kernel_rfl) HINF.out.1 HINF.out.2.1 HINF.out.2.2.1 HINF.out.2.2.2 rfl (by decide) _ pl inner rfl (HOW2.out _) ⟨W.heap.size, 0, none⟩ 1 1 [.slice A1 ws.length c1, .slice A2 fs.length c2] rfl rfl HNC.out (by intro u hu; simp at hu; rcases hu with rfl | rfl <;> rfl) (by unfold maxLen; omega) (by omega) (by have := HII.out.km.size; simp; omega) ?_; rintro v' w5 hown5 hgr5 hnil5; obtain ⟨sb5, sc5, rfl⟩ := own_slice hown5; have HO5 := Aside0.mk hown5; have HG5 := Aside0.mk hgr5; have HA := Aside0.mk (KI.app (B := W0.heap.size) (x := ⟨.slice A1 ws.length c1, .slice A2 fs.length c2, ws, fs⟩) (by have := HBM.out; omega) rfl HII.out HV.out (by rw [← HPLE.out]; exact HOWN.out) HREP.out HMX.out _ (by rw [← HPLE.out]; exact hown5) hgr5); have hb5 := app_far HOWN.out _ hgr5 HV.out (by decide); have hm5 := app_far HOWN.out _ hgr5 HII.out.m (by decide); have f1 := blk_cell hb5 0; have f2 := blk_frozen hb5 0; have f3 := blk_lt hb5; have f4 := blk_cell hm5 0; have f5 := blk_lt hm5; simp only [List.getElem?_toArray, List.getElem?_cons_zero] at f1 f4; clear hb5 hm5 hown5 hgr5 hnil5))
    obtain ⟨a1, a2, a3⟩ := HA.out
    exact ⟨rfl, a3, a2, ⟨a1, by have := HSZ.out; have := a2.size; omega⟩, by rw [List.length_append, List.length_singleton, ← HPL.out]; have := HLAST.out; omega⟩
   ·have hlt7 : pl + 1 < most := by have := HLE.out; omega
    have hq : (((pl + 1 : Nat) : Int) == (most : Int)) = false := beq_eq_false_iff_ne.2 (by omega)
    have hq2 : (pl + 1 == most) = false := beq_eq_false_iff_ne.2 hlast
    have hq3 : ((pl : Int) + 1 == (most : Int)) = false := beq_eq_false_iff_ne.2 (by omega)
    have HLT7 := Aside0.mk hlt7
    clear hlast hlt7
    gi_wp2_with (first | (gi_at_builtin; refine wpListIn_append_own _ rfl _ _ 37 rfl w0.heap.size 31 inf (.agg #[.slice none 0 0, .slice none 0 0]) 2 48 (by kernel_rfl) HINF.out.1 HINF.out.2.1 HINF.out.2.2.1 HINF.out.2.2.2 rfl (by decide) _ pl inner rfl (HOW2.out _) ⟨W.heap.size, 0, none⟩ 1 1 [.slice A1 ws.length c1, .slice A2 fs.length c2] rfl rfl HNC.out (by intro u hu; simp at hu; rcases hu with rfl | rfl <;> rfl) (by unfold maxLen; omega) (by omega) (by have := HII.out.km.size; simp; omega) ?_; rintro v' w5 hown5 hgr5 hnil5; obtain ⟨sb5, sc5, rfl⟩ := own_slice hown5; have HO5 := Aside0.mk hown5; have HG5 := Aside0.mk hgr5; have HA := Aside0.mk (KI.app (B := W0.heap.size) (x := ⟨.slice A1 ws.length c1, .slice A2 fs.length c2, ws, fs⟩) (by have := HBM.out; omega) rfl HII.out HV.out (by rw [← HPLE.out]; exact HOWN.out) HREP.out HMX.out _ (by rw [← HPLE.out]; exact hown5) hgr5); have hb5 := app_far HOWN.out _ hgr5 HV.out (by decide); have hm5 := app_far HOWN.out _ hgr5 HII.out.m (by decide); have f1 := blk_cell hb5 0; have f2 := blk_frozen hb5 0; have f3 := blk_lt hb5; have f4 := blk_cell hm5 0; have f5 := blk_lt hm5; simp only [List.getElem?_toArray, List.getElem?_cons_zero] at f1 f4; clear hb5 hm5 hown5 hgr5 hnil5))
    obtain ⟨a1, a2, a3⟩ := HA.out
    exact ⟨a3, a2, ⟨a1, by have := HSZ.out; have := a2.size; omega⟩, by rw [List.length_append, List.length_singleton, ← HPL.out]; exact HLT7.out⟩
  case done =>
   rintro D xs W hD hS ⟨hi, hsz⟩ hK
   obtain ⟨v, hv, hR⟩ := hi.l
   have HRES := Aside0.mk (show k31.R 31 (W.putObj D (.deferred none)) w0.heap.size (fun _ => True) v (((fillF X 8 [] 0 [p0]).take most).map fil31) by
    rw [← hS, List.map_map]
    exact R_cells hR (fun k c t fr _ hb => World.putObj_heap_other (fun e => by rw [e, hK] at hb; cases hb)))
   have hput : KM w0.heap.size S.mb W (W.putObj D (.deferred none)) := ⟨rfl, rfl, rfl, by simp [World.putObj], fun k hk hne => World.putObj_heap_other (fun e => by have := HI2.out.km.size; omega)⟩
   have HGR := Aside0.mk (hi.km.trans hput).grownBy
   clear hput
   have ev := (blk_cell hv 0).trans (show (#[v] : Array Value)[0]? = some v from rfl)
   have evl := blk_lt hv
   have HKD := Aside0.mk hK
   clear hi hv hR hK hS
   constructor
   ·go_wp2_with fail
    refine ⟨by simp, .inl ⟨_, _, rfl, run_takeDeferred HKD.out, ?_⟩⟩
    refine ⟨v, ?_, ⟨_, rfl, HRES.out, HGR.out⟩⟩
    exact results_tmp (fn := Try.f51) (t := 4) rfl _ _ _
   ·gi_wp2
    go_wp2_with fail
    refine ⟨by simp, .inl ⟨_, _, rfl, run_takeDeferred HKD.out, ?_⟩⟩
    refine ⟨v, ?_, ⟨_, rfl, HRES.out, HGR.out⟩⟩
    exact results_tmp (fn := Try.f51) (t := 4) rfl _ _ _
theorem walk_calls (X : Lx) (S : SV) (fits : List Int) (hX : OkX X fits) (hL : OkL X) (w0 : World) (h0 : AW X S fits w0) (lr bs byy bn most : Nat) (J : List Fil → World → Prop) (hJ : JIt S.mb J) (hY : Yld w0 lr most J) : ∀ (n k : Nat), k + n = 8 → WalkC X S fits w0 lr bs byy bn most J k
 | 0, k, hk => fun ws f l Aw Al cw cl pre W h1 h2 h3 h4 h5 h6 h7 h8 h9 h10 h11 h12 => walk_try X S fits hX hL w0 h0 lr bs byy bn most J hJ hY ws f l Aw Al k cw cl pre W h1 (by omega) h2 h3 h4 h5 h6 h7 h8 h9 h10 h11 h12 (fun h => by omega)
 | n + 1, k, hk => fun ws f l Aw Al cw cl pre W h1 h2 h3 h4 h5 h6 h7 h8 h9 h10 h11 h12 => walk_try X S fits hX hL w0 h0 lr bs byy bn most J hJ hY ws f l Aw Al k cw cl pre W h1 (by omega) h2 h3 h4 h5 h6 h7 h8 h9 h10 h11 h12 (fun h => walk_calls X S fits hX hL w0 h0 lr bs byy bn most J hJ hY n (k + 1) (by omega))
theorem first_full (X : Lx) (S : SV) (fits : List Int) (hX : OkX X fits) (hL : OkL X) (hp0 : OkP X p0) (most : Nat) (hms : most ≤ 100000) (w0 : World) (h0 : AW X S fits w0) :
  Calls Try.prog 51 #[.pointer (some ⟨S.b, 0, none⟩), .int .i64 (most : Int)] w0 fun e w' => ∃ v, e = .returned v ∧ k31.R 31 w' w0.heap.size (fun _ => True) v (((fillF X 8 [] 0 [p0]).take most).map fil31) ∧ w0.grownBy w' (some S.mb) :=
 first_calls X S fits hp0 hL.one most hms w0 h0 (fun lr bs byy bn J hJ hY hm => walk_calls X S fits hX hL w0 h0 lr bs byy bn most J hJ hY 8 0 (by omega))
end Go.Proofs.Ytkfebceainedfaa.P.OwnGap
namespace Go.Proofs.Ytkfebceainedfaa.P.OwnGap
open Go.RowKit Go.Shelf Go.Proofs.YtkfebceainedfaaW.PrintWords Go.Proofs.YtkfebceainedfaaW.PrintLast Go.Proofs.YtkfebceainedfaaW.PrintMore
open Go.Proofs.Ytkfebceainedfaa.OwnGap
set_option linter.unusedVariables false
set_option linter.unusedSimpArgs false
attribute [local go_sem] Oper.semAt_some
attribute [local go_sem] max2_int min2_int max_two min_two max_three min_three max_four min_four
def firstL (X : Lx) (most : Nat) : List S31 := ((fillF X 8 [] 0 [p0]).take most).map fil31
def listV (l0 : List S53) (l1 l2 : List Bool) (l3 : List (List Bool)) (l4 : List S47) (r : List S49) (a b : Int) : List S31 × Int :=
 if bothV l0 l1 l2 l3 l4 r = 0 then (if (inB a 0 500 && inB b 0 500) = true then ((firstL ⟨l0, l1, l2, l3, l4, r⟩ (min (a + b) 500).toNat).drop (min a (firstL ⟨l0, l1, l2, l3, l4, r⟩ (min (a + b) 500).toNat).length).toNat, 0) else ([], 1)) else ([], bothV l0 l1 l2 l3 l4 r)
section
variable {X : Lx} {A0 A1 A2 A3 A4 Ar : Option Addr} {c0 c1 c2 c3 c4 cr : Nat} {w w' : World}
theorem search_calls (h : LxIn X A0 A1 A2 A3 A4 Ar c0 c1 c2 c3 c4 cr w) (hb : bothV X.l0 X.l1 X.l2 X.l3 X.l4 X.r = 0) : Calls Try.prog 50 #[.agg #[.slice A0 X.l0.length c0, .slice A1 X.l1.length c1, .slice A2 X.l2.length c2, .slice A3 X.l3.length c3, .slice A4 X.l4.length c4], .slice Ar X.r.length cr] w fun e w' =>
   ∃ S, e = .returned (.pointer (some ⟨S.b, 0, none⟩)) ∧ AW X S (X.r.map fun c => ofV c.f0) w' ∧ Below w.heap.size w w' ∧ w.heap.size ≤ S.mb ∧ w.heap.size ≤ S.b := by
 obtain ⟨hc, hr⟩ := bothV_zero hb
 have oc := checkV_zero (X := X) hc
 have or := rowV_zero hr
 have h4 := h.h4
 have g4 := h.g4
 rw [oc.l4] at h4 g4 ⊢
 exact searchOf_calls X A0 A1 A2 A3 A4 Ar c0 c1 c2 c3 c4 cr w h.h0 h.h1 h.h2 h.h3 h4 h.hr h.g0 h.g1 h.g2 h.g3 g4 h.gr (by have := or.n24; omega) (let_of or)
theorem first_of {S : SV} (hb : bothV X.l0 X.l1 X.l2 X.l3 X.l4 X.r = 0) (most : Nat) (hm : most ≤ 100000) (w0 : World) (h0 : AW X S (X.r.map fun c => ofV c.f0) w0) (n0 : Nat) (hn : n0 ≤ w0.heap.size) (hmb : n0 ≤ S.mb) :
  Calls Try.prog 51 #[.pointer (some ⟨S.b, 0, none⟩), .int .i64 (most : Int)] w0 fun e w' => ∃ A c, e = .returned (.slice A (firstL X most).length c) ∧ (firstL X most).length ≤ c ∧ k31.R 31 w' w0.heap.size (fun _ => True) (.slice A (firstL X most).length c) (firstL X most) ∧ Below n0 w0 w' := by
 obtain ⟨hc, hr⟩ := bothV_zero hb
 have oc := checkV_zero (X := X) hc
 have or := rowV_zero hr
 refine (first_full X S _ (okX_of oc or) (okL_of oc) (okP_of or) most hm w0 h0).mono ?_
 rintro e w' ⟨v, rfl, hR, hg⟩
 obtain ⟨A, c, rfl, hl, -⟩ := Kd.R_reads hR
 exact ⟨A, c, rfl, hl, hR, (Below.refl n0 w0).grown hg hn (fun k hk => by injection hk with hk; rw [← hk]; exact hmb)⟩
end
theorem V_cut {L : List S31} {q c base base0 : Nat} {A : Option Addr} {w5 : World} (hR : k31.R 31 w5 base0 (fun _ => True) (.slice A L.length c) L) (hb : base ≤ base0) (hq : q ≤ L.length) (hc : L.length ≤ c) :
  (c = q → Kd.V k31 31 w5 base (fun k => base ≤ k) (.slice A (L.length - q) 0) (L.drop q)) ∧ (¬ c = q → Kd.V k31 31 w5 base (fun k => base ≤ k) (.slice (Option.map (fun x => x.add (q * 2)) A) (L.length - q) (c - q)) (L.drop q)) := by
 have hF := Kd.F_cut (c := c) (Kd.F_mono (Kd.R_F (Kd.R_bound hR)) (fun k hk => Nat.le_trans hb hk.2.1)) hq hc
 have hV := Kd.V_mk (e := 31) (base := base) (c := c - q) (by rw [List.length_drop]; omega) hF
 rw [List.length_drop] at hV
 exact ⟨fun h => by rw [if_pos h, show c - q = 0 by omega] at hV; exact hV, fun h => by rw [if_neg h] at hV; exact hV⟩
set_option maxHeartbeats 4000000 in
set_option maxRecDepth 100000 in
theorem list_calls (X : Lx) (A0 A1 A2 A3 A4 Ar : Option Addr) (c0 c1 c2 c3 c4 cr : Nat) (a b : Int) (w : World) (hin : LxIn X A0 A1 A2 A3 A4 Ar c0 c1 c2 c3 c4 cr w) (hb : bothV X.l0 X.l1 X.l2 X.l3 X.l4 X.r = 0) (ha : inB a 0 500 = true) (hb5 : inB b 0 500 = true) :
  Calls Try.prog 14 #[.agg #[.slice A0 X.l0.length c0, .slice A1 X.l1.length c1, .slice A2 X.l2.length c2, .slice A3 X.l3.length c3, .slice A4 X.l4.length c4], .slice Ar X.r.length cr, .int .i64 a, .int .i64 b] w fun e w' => ∃ v0_ : Value, e = .returned (.tuple #[v0_, .int .i64 (listV X.l0 X.l1 X.l2 X.l3 X.l4 X.r a b).2]) ∧ Kd.V k31 31 w' w.heap.size (fun k_ => (w.heap.size ≤ k_)) v0_ (listV X.l0 X.l1 X.l2 X.l3 X.l4 X.r a b).1 ∧ Below w.heap.size w w' := by
 have HIN := Aside0.mk hin
 clear hin
 have HX := Aside0.mk (bxAt_new (X := X) A0 A1 A2 A3 A4 c0 c1 c2 c3 c4 w)
 have HI0 := Aside0.mk (HIN.out.below ((Below.refl _ _).alloc (Nat.le_refl _) _ : Below w.heap.size w (w.alloc (.cells #[.slice A0 X.l0.length c0, .slice A1 X.l1.length c1, .slice A2 X.l2.length c2, .slice A3 X.l3.length c3, .slice A4 X.l4.length c4] 28))))
 have HZ := Aside0.mk (show (w.alloc (.cells #[.slice A0 X.l0.length c0, .slice A1 X.l1.length c1, .slice A2 X.l2.length c2, .slice A3 X.l3.length c3, .slice A4 X.l4.length c4] 28)).heap.size = w.heap.size + 1 by simp)
 have HB0 := Aside0.mk ((Below.refl _ _).alloc (Nat.le_refl _) _ : Below w.heap.size w (w.alloc (.cells #[.slice A0 X.l0.length c0, .slice A1 X.l1.length c1, .slice A2 X.l2.length c2, .slice A3 X.l3.length c3, .slice A4 X.l4.length c4] 28)))
 have HBV := Aside0.mk hb
 have HV0 := Aside0.mk (show listV X.l0 X.l1 X.l2 X.l3 X.l4 X.r a b = (if (inB a 0 500 && inB b 0 500) = true then ((firstL X (min (a + b) 500).toNat).drop (min a (firstL X (min (a + b) 500).toNat).length).toNat, 0) else ([], 1)) from if_pos hb)
 clear hb
 have h1 := inB_true.1 ha
 have h2 := inB_true.1 hb5
 obtain ⟨m, hm⟩ : ∃ m : Nat, min (a + b) 500 = (m : Int) := ⟨(min (a + b) 500).toNat, by omega⟩
 have hm5 : m ≤ 500 := by omega
 obtain ⟨L, hL⟩ : ∃ L, L = firstL X m := ⟨_, rfl⟩
 obtain ⟨q, hq⟩ : ∃ q : Nat, min a (L.length : Int) = (q : Int) := ⟨(min a (L.length : Int)).toNat, by omega⟩
 have hqL : q ≤ L.length := by omega
 have hm2 : (if 500 < a + b then 500 else a + b) = (m : Int) := by rw [← hm]; split <;> omega
 have hq2 : (if (L.length : Int) < a then (L.length : Int) else a) = (q : Int) := by rw [← hq]; split <;> omega
 have HV := Aside0.mk (show listV X.l0 X.l1 X.l2 X.l3 X.l4 X.r a b = (L.drop q, 0) by rw [HV0.out, ha, hb5, hm, Int.toNat_natCast, ← hL, hq]; rfl)
 have HA := Aside0.mk ha
 have HB := Aside0.mk hb5
 have HL := Aside0.mk hL
 clear HV0 ha hb5 hL
 go_enter Try.func14, Try.ntmps14
 go_wp2_with first | (go_at_call 48; refine (both_calls HI0.out HBV.out).mono ?_; rintro e w1 ⟨rfl, hb1⟩; rw [HBV.out]; have HB1 := Aside0.mk (HB0.out.trans (hb1.mono (by rw [HZ.out]; omega))); have HX1 := HX.out.below hb1; have HXA := Aside0.mk HX1; clear hb1) | ((fail_if_success (have h_ := HB2.out)); go_at_call 49; refine (in_calls a 0 500 w1).mono ?_; rintro e w2 ⟨rfl, hb2⟩; rw [HA.out]; have HB2 := Aside0.mk (HB1.out.trans (hb2.mono HB1.out.size)); have HX2 := Aside0.mk (HXA.out.below hb2); clear hb2) | (go_at_call 49; refine (in_calls b 0 500 w2).mono ?_; rintro e w3 ⟨rfl, hb3⟩; rw [HB.out]; have HB3 := Aside0.mk (HB2.out.trans (hb3.mono HB2.out.size)); have HX3 := HX2.out.below hb3; obtain ⟨x0, x1, x2, x3, x4⟩ := HX3.cells; have xl := blk_lt HX3; clear hb3) | (go_at_call 50; refine (search_calls (HIN.out.below HB3.out) HBV.out).mono ?_; rintro e w4 ⟨S, rfl, haw, hb4, hmb, hsb⟩; have HAW := Aside0.mk haw; have HB4 := Aside0.mk (HB3.out.trans (hb4.mono HB3.out.size)); have HMB := Aside0.mk (Nat.le_trans HB3.out.size hmb); clear haw hb4 hmb hsb) | (go_at_call 51; refine (first_of HBV.out m (by omega) w4 HAW.out w.heap.size HB4.out.size HMB.out).mono ?_; rintro e w5 ⟨A, c, rfl, hlc, hR, hb5⟩; rw [← HL.out] at hlc hR ⊢; have HB5 := Aside0.mk (HB4.out.trans hb5); have HR5 := Aside0.mk hR; have HZ5 := Aside0.mk HB4.out.size; clear hR hb5) | fail
 all_goals
  go_ret2
  refine ⟨_, by rw [HV.out]; rfl, ?_, HB5.out⟩
  rw [HV.out]
  first
   | exact (V_cut HR5.out HZ5.out hqL hlc).2 (by assumption)
   | exact (V_cut HR5.out HZ5.out hqL hlc).1 (by assumption)
end Go.Proofs.Ytkfebceainedfaa.P.OwnGap
namespace Go.Proofs.Ytkfebceainedfaa.P.OwnGap
open Go.RowKit Go.Shelf Go.Proofs.YtkfebceainedfaaW.PrintWords Go.Proofs.YtkfebceainedfaaW.PrintLast Go.Proofs.YtkfebceainedfaaW.PrintMore
open Go.Proofs.Ytkfebceainedfaa.OwnGap
set_option linter.unusedVariables false
set_option linter.unusedSimpArgs false
end Go.Proofs.Ytkfebceainedfaa.P.OwnGap
namespace Go.Proofs.Ytkfebceainedfaa.P.OwnGap
open Go.RowKit Go.Shelf Go.Proofs.YtkfebceainedfaaW.PrintWords Go.Proofs.YtkfebceainedfaaW.PrintLast Go.Proofs.YtkfebceainedfaaW.PrintMore
open Go.Proofs.Ytkfebceainedfaa.OwnGap
set_option linter.unusedVariables false
set_option linter.unusedSimpArgs false
attribute [local go_sem] Oper.semAt_some
def KeepUp (m : Nat) (w W : World) : Prop := w.heap.size ≤ W.heap.size ∧ ∀ k, m ≤ k → k < w.heap.size → W.heap[k]? = w.heap[k]?
theorem KeepUp.refl (m : Nat) (w : World) : KeepUp m w w := ⟨Nat.le_refl _, fun _ _ _ => rfl⟩
theorem KeepUp.trans {m : Nat} {w W V : World} (h : KeepUp m w W) (k : KeepUp m W V) : KeepUp m w V := ⟨Nat.le_trans h.1 k.1, fun i hm hi => (k.2 i hm (Nat.lt_of_lt_of_le hi h.1)).trans (h.2 i hm hi)⟩
theorem KeepUp.of_keep {m g : Nat} {w W : World} (h : KeepBut w W g none) (hg : g < m) : KeepUp m w W := ⟨h.1, fun i hm hi => h.2 i hi (by omega) (by simp)⟩
theorem KeepUp.of_below {m : Nat} {w W : World} (h : Below w.heap.size w W) : KeepUp m w W := ⟨h.size, fun i hm hi => h.block i hi⟩
theorem KeepUp.set {m : Nat} {w W : World} {p : Addr} (h : KeepUp m w W) (hp : p.block < m) (u : Value) : KeepUp m w (W.setCell p u) :=
 ⟨by simpa [World.setCell] using h.1, fun i hi hl => (Below.heap_setCell W p u i (by omega)).trans (h.2 i hi hl)⟩
theorem KeepUp.blk {m b : Nat} {w W : World} {o : Obj} (h : KeepUp m w W) (hb : w.heap[b]? = some o) (hm : m ≤ b) : W.heap[b]? = some o := (h.2 b hm (blk_lt hb)).trans hb
def Ft {α : Type} (d : Kd α) (A : Option Addr) (l : List α) (m : Nat) (w : World) : Prop := ∀ W, KeepUp m w W → d.C W A l.length l
theorem Ft.step {α : Type} {d : Kd α} {A : Option Addr} {l : List α} {m : Nat} {w W : World} (h : Ft d A l m w) (k : KeepUp m w W) : Ft d A l m W := fun V hV => h V (k.trans hV)
theorem Ft.now {α : Type} {d : Kd α} {A : Option Addr} {l : List α} {m : Nat} {w : World} (h : Ft d A l m w) : d.C w A l.length l := h w (KeepUp.refl m w)
theorem Ft.but {α : Type} {d : Kd α} {A : Option Addr} {l : List α} {m g : Nat} {w : World} (h : Ft d A l m w) (hg : g < m) : ∀ W, KeepBut w W g none → d.C W A l.length l := fun W hW => h W (KeepUp.of_keep hW hg)
theorem Ft.far {α : Type} {d : Kd α} {A : Option Addr} {l : List α} {m g : Nat} {w : World} (h : Ft d A l m w) (hg : g < m) (hs : 0 < d.sz) : ∀ ad, A = some ad → 0 < l.length → ad.block ≠ g := by
 rintro ad rfl hn
 exact Kd.foot_ne (h.but hg) hn hs
theorem Ft.ofR {α : Type} {d : Kd α} {A : Option Addr} {c e base m : Nat} {ok : Nat → Prop} {l : List α} {w : World} (h : d.R e w base ok (.slice A l.length c) l) (hm : m ≤ base) : Ft d A l m w := fun W hW =>
 (Kd.R_reads' (Kd.R_move (Kd.R_bound h) (fun k hk => hW.2 k (Nat.le_trans hm hk.2.1) hk.2.2.1))).2.2
theorem Ft.ofN {α : Type} {d : Kd α} {A : Option Addr} {c e base m : Nat} {ok : Nat → Prop} {l : List α} {w : World} (h : Kd.N d e w base ok (.slice A l.length c) l) (hm : m ≤ base) (hok : ∀ k, ok k → base ≤ k) : Ft d A l m w := fun W hW =>
 (Kd.N_reads' (Kd.N_step h (fun k ho hlt => hW.2 k (Nat.le_trans hm (hok k ho)) hlt))).2.2
structure LxF (X : Lx) (A0 A1 A2 A3 A4 : Option Addr) (c0 c1 c2 c3 c4 : Nat) (m : Nat) (w : World) : Prop where
 h0 : Ft k53 A0 X.l0 m w
 h1 : Ft Kd.bool A1 X.l1 m w
 h2 : Ft Kd.bool A2 X.l2 m w
 h3 : Ft (Kd.slice 4 Kd.bool) A3 X.l3 m w
 h4 : Ft k47 A4 X.l4 m w
 k0 : X.l0.length ≤ c0
 k1 : X.l1.length ≤ c1
 k2 : X.l2.length ≤ c2
 k3 : X.l3.length ≤ c3
 k4 : X.l4.length ≤ c4
theorem LxF.step {X : Lx} {A0 A1 A2 A3 A4 : Option Addr} {c0 c1 c2 c3 c4 m : Nat} {w w' : World} (h : LxF X A0 A1 A2 A3 A4 c0 c1 c2 c3 c4 m w) (hk : KeepUp m w w') : LxF X A0 A1 A2 A3 A4 c0 c1 c2 c3 c4 m w' :=
 ⟨h.h0.step hk, h.h1.step hk, h.h2.step hk, h.h3.step hk, h.h4.step hk, h.k0, h.k1, h.k2, h.k3, h.k4⟩
theorem LxF.inn {X : Lx} {A0 A1 A2 A3 A4 Ar : Option Addr} {c0 c1 c2 c3 c4 cr m : Nat} {w : World} (h : LxF X A0 A1 A2 A3 A4 c0 c1 c2 c3 c4 m w) (hr : Ft k49 Ar X.r m w) (hc : X.r.length ≤ cr) : LxIn X A0 A1 A2 A3 A4 Ar c0 c1 c2 c3 c4 cr w :=
 ⟨h.h0.now, h.h1.now, h.h2.now, h.h3.now, h.h4.now, hr.now, h.k0, h.k1, h.k2, h.k3, h.k4, hc⟩
structure MdW (w0 w : World) (g : Nat) (a b : Int) (wx : World) : Prop where
 i : IsS83 w0 wx g a b
 b : Below w0.heap.size w0 wx
 k : KeepBut w wx g none
theorem MdW.alloc {w0 w wx : World} {g : Nat} {a b : Int} (h : MdW w0 w g a b wx) (o : Obj) : MdW w0 w g a b (wx.alloc o) := ⟨h.i.alloc o, below_alloc h.b o, keep_alloc h.k o⟩
theorem MdW.drew {w0 w wx : World} {g : Nat} {a b : Int} (h : MdW w0 w g a b wx) : MdW w0 w g a b wx.drew := ⟨h.i.drew, below_drew1 h.b, keep_drew h.k⟩
theorem MdW.below {w0 w wx wy : World} {g : Nat} {a b : Int} (h : MdW w0 w g a b wx) (hb : Below wx.heap.size wx wy) : MdW w0 w g a b wy := ⟨h.i.below hb, h.b.trans (hb.mono h.b.size), h.k.trans (KeepBut.of_below hb g none) (.inl rfl)⟩
theorem MdW.set {w0 w wx : World} {g : Nat} {a b : Int} (h : MdW w0 w g a b wx) {p : Addr} (hp : w.heap.size ≤ p.block) (hg : g < w.heap.size) (u : Value) : MdW w0 w g a b (wx.setCell p u) := ⟨h.i.far (by omega) u, h.b.setCell (by have := h.i.ge; omega) u, keep_far h.k hp u⟩
theorem MdW.call {w0 w wx wy : World} {g : Nat} {a b c d : Int} (h : MdW w0 w g a b wx) (hi : IsS83 w0 wy g c d) (hb : Below w0.heap.size w0 wy) (hk : KeepBut wx wy g none) : MdW w0 w g c d wy := ⟨hi, hb, h.k.trans hk (.inl rfl)⟩
theorem MdW.start {w0 w : World} {g : Nat} {a b : Int} (hi : IsS83 w0 w g a b) (hb : Below w0.heap.size w0 w) : MdW w0 w g a b w := ⟨hi, hb, KeepBut.refl _ _ _⟩
theorem lex38 (g : Nat) (s0 s1 a1 a2 : Int) (X : Lx) (r6 r7 : Int) (w0 w : World) (m : Nat) (hm : m ≤ w.heap.size) (hI : IsS83 w0 w g s0 s1) (hB : Below w0.heap.size w0 w) (h : cippuskit_LexiconOf.f s0 s1 a1 a2 = some (X.l0, X.l1, X.l2, X.l3, X.l4, r6, r7)) :
  Calls Try.prog 38 #[.pointer (some ⟨g, 0, none⟩), .int .i64 a1, .int .i64 a2] w fun e w' => ∃ (A0 A1 A2 A3 A4 : Option Addr) (c0 c1 c2 c3 c4 : Nat), e = .returned (.agg #[.slice A0 X.l0.length c0, .slice A1 X.l1.length c1, .slice A2 X.l2.length c2, .slice A3 X.l3.length c3, .slice A4 X.l4.length c4]) ∧ LxF X A0 A1 A2 A3 A4 c0 c1 c2 c3 c4 m w' ∧ IsS83 w0 w' g r6 r7 ∧ Below w0.heap.size w0 w' ∧ KeepBut w w' g none := by
 refine (cippuskit_LexiconOf.calls g s0 s1 a1 a2 X.l0 X.l1 X.l2 X.l3 X.l4 r6 r7 w0 w hI hB h).mono ?_
 rintro e w' ⟨v0, v1, v2, v3, v4, rfl, h0, h1, h2, h3, h4, hi, hb, hk⟩
 obtain ⟨A0, c0, rfl⟩ := Kd.R_slice h0
 obtain ⟨A1, c1, rfl⟩ := Kd.R_slice h1
 obtain ⟨A2, c2, rfl⟩ := Kd.R_slice h2
 obtain ⟨A3, c3, rfl⟩ := Kd.N_slice h3
 obtain ⟨A4, c4, rfl⟩ := Kd.R_slice h4
 exact ⟨A0, A1, A2, A3, A4, c0, c1, c2, c3, c4, rfl, ⟨Ft.ofR h0 hm, Ft.ofR h1 hm, Ft.ofR h2 hm, Ft.ofN h3 hm (fun k hk => hk.1), Ft.ofR h4 hm, (Kd.R_reads' h0).2.1, (Kd.R_reads' h1).2.1, (Kd.R_reads' h2).2.1, (Kd.N_reads' h3).2.1, (Kd.R_reads' h4).2.1⟩, hi, hb, hk⟩
end Go.Proofs.Ytkfebceainedfaa.P.OwnGap
namespace Go.Proofs.Ytkfebceainedfaa.P
open Go.RowKit Go.Proofs.YtkfebceainedfaaW.PrintWords Go.Proofs.YtkfebceainedfaaW.PrintLast Go.Proofs.YtkfebceainedfaaW.PrintMore
attribute [local go_sem] max2_int min2_int max_two min_two max_three min_three max_four min_four   -- for this text's walks alone
set_option linter.unusedVariables false
set_option linter.unusedSimpArgs false
def cippuskit_Ints.f (l0 : List Int) : Option (List Int) := (some (([] : List Int) : List Int)).bind fun y192 => (if y192.length + l0.length < 17592186044416 then (some (y192 ++ l0)) else (none))
set_option maxHeartbeats 8000000 in
set_option maxRecDepth 100000 in
theorem cippuskit_Ints.calls (A0 : Option Addr) (c0 : Nat) (l0 : List Int) (r : List Int) (w : World) (hr0 : Kd.C (Kd.int .i64) w A0 l0.length l0) (hc0 : l0.length ≤ c0) (h : cippuskit_Ints.f l0 = some r) :
  Calls Try.prog 56 #[.slice A0 l0.length c0] w fun e w' => ∃ v0_ : Value, e = .returned (v0_) ∧ Kd.R (Kd.int .i64) 3 w' w.heap.size (fun _ => True) v0_ r ∧ Below w.heap.size w w' := by
 have HR0 := Aside0.mk hr0
 have HC0 := Aside0.mk hc0
 clear hr0 hc0
 have HB := Aside0.mk (Below.refl w.heap.size w)
 have H : ((some (([] : List Int) : List Int)).bind fun y192 => (if y192.length + l0.length < 17592186044416 then (some (y192 ++ l0)) else (none))) = some r := h
 clear h
 obtain ⟨y192, hy192⟩ : ∃ y_ : List Int, y_ = (([] : List Int)) := ⟨_, rfl⟩
 replace H : (if y192.length + l0.length < 17592186044416 then (some (y192 ++ l0)) else (none)) = some r := by first | (rw [hy192]; with_reducible exact H) | (have H2_ := (Option.bind_some _ _).symm.trans H; rw [hy192]; with_reducible exact H2_) | (have H2_ := (Option.bind_some _ _).symm.trans H; with_reducible exact H2_) | with_reducible exact H | (rw [hy192]; exact H) | exact H
 have Ny192 := Aside0.mk hy192
 clear hy192
 by_cases c2 : y192.length + l0.length < 17592186044416
 ·rw [if_pos c2] at H
  have LMc2 := Aside0.mk c2
  clear c2
  obtain ⟨y195, hy195⟩ : ∃ y_ : List Int, y_ = (y192 ++ l0) := ⟨_, rfl⟩
  replace H : (some y195) = some r := by first | (rw [hy195]; with_reducible exact H) | (have H2_ := (Option.bind_some _ _).symm.trans H; rw [hy195]; with_reducible exact H2_) | (have H2_ := (Option.bind_some _ _).symm.trans H; with_reducible exact H2_) | with_reducible exact H | (rw [hy195]; exact H) | exact H
  have Ny195 := Aside0.mk hy195
  clear hy195
  obtain rfl := Option.some.inj H
  go_enter Try.func56, Try.ntmps56
  go_wp2_with (first | ((with_reducible refine gate_dst (N := 3) rfl ?_); refine Kd.R_lit (Kd.int .i64) _ 3 ?hg (N := 3) ?hd (xs := ([] : List Int)) (inner := []) (ok := fun _ => True) (okp := fun _ => True) ?hr ?hp (fun _ hk => hk) trivial (Below.refl _ _) (Nat.le_refl _) (by simp) ?_; (case hd => rfl); (case hg => rfl); (case hr => first | (go_simp; done) | (go_simp; rfl)); (case hp => exact (Reps.none _ _)); intro v193 w3 ho4 hb hg_ hnew_; clear hg_ hnew_; (first | rw [← Ny192.out] at ho4 | (simp only [Int.reduceToNat] at ho4; rw [← Ny192.out] at ho4)); have HO194 := Aside0.mk (Kd.R_lower ho4 (below_size (uB HB))); replace HB := Aside0.mk (below_step (uB HB) hb); clear hb ho4) | ((with_reducible refine gate_builtin (b := .append) (xs := #[.tmp 3, .tmp 4]) rfl ?_); at_builtin; refine Kd.R_append_rows (Kd.int .i64) (w0 := w) w.heap.size rfl (.tmp 3) (.tmp 4) 22 3 (.int .i64 0) 8 rfl Try.underlying22 info3 rfl (by decide) (by omega) v193 y192 l0 _ _ _ (fun _ => True) (fun _ => False) rfl rfl ?aO ?aR (fun _ _ h => h) (fun _ h => h.elim) ?aF ?aB ?aS ?aL ?_; (case aR => exact uD (Kd.C_below HR0.out HB.out)); (case aB => exact (uB HB)); (case aF => exact (fun _ _ => trivial)); (case aO => exact (uR HO194)); (case aS => exact (below_size (uB HB))); (case aL => have := LMc2.out; omega); intro v196 w5 ho hb hg hat; rw [← Ny195.out] at ho; replace HB := Aside0.mk (hb); have HO197 := Aside0.mk (ho); clear ho hb hg hat))
  go_ret
  exact ⟨_, uE, uR HO197, uB HB⟩
 ·rw [if_neg c2] at H
  exact absurd H (by simp)
end Go.Proofs.Ytkfebceainedfaa.P
namespace Go.Proofs.Ytkfebceainedfaa.P.OwnUrn
open Go.RowKit Go.Proofs.YtkfebceainedfaaW.PrintWords Go.Proofs.YtkfebceainedfaaW.PrintLast Go.Proofs.YtkfebceainedfaaW.PrintMore
open Go.Proofs.Ytkfebceainedfaa.P.OwnGap
set_option linter.unusedVariables false
set_option linter.unusedSimpArgs false
def wideLo (l4 : List S47) (s : ByteArray) : Nat → Int
 | 0 => 0
 | k + 1 => wideLo l4 s k + (rd_T47 l4 (bt s (k : Int) - 65)).f0
def wideHi (l4 : List S47) (s : ByteArray) : Nat → Int
 | 0 => 0
 | k + 1 => wideHi l4 s k + (rd_T47 l4 (bt s (k : Int) - 65)).f1
structure RelX (w wr : World) (l4 : List S47) (s : ByteArray) (k : Nat) (bx : Array Value) : Prop where
 below : Below w.heap.size w wr
 box : wr.heap[w.heap.size]? = some (.cells bx 28 (0, 0))
 res : wr.heap[w.heap.size + 1]? = some (.cells #[.int .i64 0, .int .i64 0] 47 (0, 0))
 sum : wr.heap[w.heap.size + 2]? = some (.cells #[.int .i64 (wideLo l4 s k), .int .i64 (wideHi l4 s k)] 47 (0, 0))
theorem wideLo_le (l4 : List S47) (s : ByteArray) (hw : ∀ i : Nat, i < s.size → 0 ≤ (rd_T47 l4 (bt s (i : Int) - 65)).f0 ∧ (rd_T47 l4 (bt s (i : Int) - 65)).f0 ≤ 1000000) : ∀ k, k ≤ s.size → 0 ≤ wideLo l4 s k ∧ wideLo l4 s k ≤ k * 1000000
 | 0, _ => by rw [wideLo]; omega
 | k + 1, hk => by
  have := wideLo_le l4 s hw k (by omega)
  have := hw k (by omega)
  rw [wideLo]
  omega
theorem wideHi_le (l4 : List S47) (s : ByteArray) (hw : ∀ i : Nat, i < s.size → 0 ≤ (rd_T47 l4 (bt s (i : Int) - 65)).f1 ∧ (rd_T47 l4 (bt s (i : Int) - 65)).f1 ≤ 1000000) : ∀ k, k ≤ s.size → 0 ≤ wideHi l4 s k ∧ wideHi l4 s k ≤ k * 1000000
 | 0, _ => by rw [wideHi]; omega
 | k + 1, hk => by
  have := wideHi_le l4 s hw k (by omega)
  have := hw k (by omega)
  rw [wideHi]
  omega
set_option maxHeartbeats 1000000 in
set_option maxRecDepth 100000 in
theorem wideOf_calls (v0 v1 v2 v3 : Value) (h0 : v0.oneCell' = true) (A4 : Option Addr) (c4 : Nat) (l4 : List S47) (s : ByteArray) (w : World) (hr : Kd.C k47 w A4 l4.length l4) (hc : l4.length ≤ c4)
  (hs : s.size ≤ 1000000) (hb : ∀ i : Nat, i < s.size → 65 ≤ bt s (i : Int) ∧ bt s (i : Int) - 65 < l4.length)
  (hw0 : ∀ i : Nat, i < s.size → 0 ≤ (rd_T47 l4 (bt s (i : Int) - 65)).f0 ∧ (rd_T47 l4 (bt s (i : Int) - 65)).f0 ≤ 1000000)
  (hw1 : ∀ i : Nat, i < s.size → 0 ≤ (rd_T47 l4 (bt s (i : Int) - 65)).f1 ∧ (rd_T47 l4 (bt s (i : Int) - 65)).f1 ≤ 1000000) (a0 a1 a2 a3 : Option Addr) (n0 n1 n2 n3 c0 c1 c2 c3 : Nat) :
  Calls Try.prog 57 #[.agg #[.slice a0 n0 c0, .slice a1 n1 c1, .slice a2 n2 c2, .slice a3 n3 c3, .slice A4 l4.length c4], .string s] w fun e w' => e = .returned (.agg #[.int .i64 (wideLo l4 s s.size), .int .i64 (wideHi l4 s s.size)]) ∧ Below w.heap.size w w' := by
 have HR := Aside0.mk hr
 have HBT := Aside0.mk hb
 have HL := Aside0.mk (wideLo_le l4 s hw0)
 have HH := Aside0.mk (wideHi_le l4 s hw1)
 have HW0 := Aside0.mk hw0
 have HW1 := Aside0.mk hw1
 clear hr hb hw0 hw1 h0
 go_enter Try.func57, Try.ntmps57
 go_wp2
 go_loopw [6] (fun v wr => ∃ k : Nat, v = .int .i64 k ∧ k ≤ s.size ∧ Aside0 (RelX w wr l4 s k #[.slice a0 n0 c0, .slice a1 n1 c1, .slice a2 n2 c2, .slice a3 n3 c3, .slice A4 l4.length c4])) (fun v wr => s.size - (intOf v).toNat)
 case atStart =>
  refine ⟨0, rfl, by omega, ⟨⟨?_, ?_, ?_, ?_⟩⟩⟩
  ·exact (((Below.refl _ _).alloc (Nat.le_refl _) _).alloc (by simp) _).alloc (by simp; omega) _
  ·exact blk_alloc (blk_alloc (blk_new w _) _) _
  ·simpa using blk_alloc (blk_new (w.alloc (.cells #[.slice a0 n0 c0, .slice a1 n1 c1, .slice a2 n2 c2, .slice a3 n3 c3, .slice A4 l4.length c4] 28)) (.cells #[.int .i64 0, .int .i64 0] 47)) (.cells #[.int .i64 0, .int .i64 0] 47)
  ·simpa [wideLo, wideHi] using blk_new ((w.alloc (.cells #[.slice a0 n0 c0, .slice a1 n1 c1, .slice a2 n2 c2, .slice a3 n3 c3, .slice A4 l4.length c4] 28)).alloc (.cells #[.int .i64 0, .int .i64 0] 47)) (.cells #[.int .i64 0, .int .i64 0] 47)
 case round =>
  obtain ⟨k, rfl, hk, HX⟩ := hrel
  by_cases hlt : k < s.size
  ·obtain ⟨a, ha⟩ : ∃ a, a = bt s (k : Int) := ⟨_, rfl⟩
   have hab := HBT.out k hlt
   rw [← ha] at hab
   obtain ⟨k0, k1⟩ := HW0.out k hlt
   obtain ⟨k2, k3⟩ := HW1.out k hlt
   rw [← ha] at k0 k1 k2 k3
   have ha255 := (bt_range s (k : Int)).2
   rw [← ha] at ha255
   have hbtr : ((s[k]'hlt).toNat : Int) = a := by
    have := bt_at s (k : Int) (by simpa using hlt)
    simp only [Int.toNat_natCast] at this
    rw [this, ha]
   obtain ⟨ad, rfl, y0, y1⟩ := at_T47 (Kd.C_below HR.out HX.out.below) (a - 65) (by omega) (by omega)
   have ey0 : wideLo l4 s (k + 1) = wideLo l4 s k + (rd_T47 l4 (a - 65)).f0 := by rw [wideLo, ha]
   have ey1 : wideHi l4 s (k + 1) = wideHi l4 s k + (rd_T47 l4 (a - 65)).f1 := by rw [wideHi, ha]
   obtain ⟨m0, m1⟩ := HL.out k hk
   obtain ⟨m2, m3⟩ := HH.out k hk
   obtain ⟨wl, hwl⟩ : ∃ x, x = (rd_T47 l4 (a - 65)).f0 := ⟨_, rfl⟩
   obtain ⟨wh, hwh⟩ : ∃ x, x = (rd_T47 l4 (a - 65)).f1 := ⟨_, rfl⟩
   obtain ⟨sl, hsl⟩ : ∃ x, x = wideLo l4 s k := ⟨_, rfl⟩
   obtain ⟨sh, hsh⟩ : ∃ x, x = wideHi l4 s k := ⟨_, rfl⟩
   rw [← hwl] at y0 k0 k1 ey0
   rw [← hwh] at y1 k2 k3 ey1
   rw [← hsl] at m0 m1 ey0
   rw [← hsh] at m2 m3 ey1
   have HE := Aside0.mk (⟨ey0, ey1⟩ : wideLo l4 s (k + 1) = sl + wl ∧ wideHi l4 s (k + 1) = sh + wh)
   have b4 := (blk_cell HX.out.box 4).trans (show (#[Value.slice a0 n0 c0, .slice a1 n1 c1, .slice a2 n2 c2, .slice a3 n3 c3, .slice (some ad) l4.length c4] : Array Value)[4]? = some (.slice (some ad) l4.length c4) from rfl)
   have hbl := blk_lt HX.out.box
   have hpl := World.block_lt_of_cell? wr _ y0
   have HSUM := Aside0.mk (show wr.heap[w.heap.size + 2]? = some (.cells #[.int .i64 sl, .int .i64 sh] 47 (0, 0)) by rw [hsl, hsh]; exact HX.out.sum)
   clear ey0 ey1 hwl hwh hsl hsh ha
   go_upto_region 5 with fail
   go_region
   obtain ⟨b7, hb7⟩ : ∃ b, b = wr.heap.size := ⟨_, rfl⟩
   refine wp_gen' (fun wx => Aside0 (Below w.heap.size w wx ∧ wx.heap[w.heap.size]? = some (.cells #[.slice a0 n0 c0, .slice a1 n1 c1, .slice a2 n2 c2, .slice a3 n3 c3, .slice (some ad) l4.length c4] 28 (0, 0)) ∧ wx.heap[w.heap.size + 1]? = some (.cells #[.int .i64 0, .int .i64 0] 47 (0, 0)) ∧ wx.heap[w.heap.size + 2]? = some (.cells #[.int .i64 sl, .int .i64 sh] 47 (0, 0)) ∧ wx.heap[b7]? = some (.cells #[.int .i64 wl, .int .i64 wh] 47 (0, 0)))) ⟨⟨(HX.out.below.alloc HX.out.below.size _).drew, blk_alloc HX.out.box _, blk_alloc HX.out.res _, blk_alloc HSUM.out _, by rw [hb7]; exact blk_new wr _⟩⟩ ?_
   have hb72 : w.heap.size + 2 < b7 := by rw [hb7]; exact blk_lt HSUM.out
   rw [← hb7]
   clear hb7 HX y0 y1 b4 hbl hpl HSUM
   clear wr
   rintro wx HY
   obtain ⟨hB, hbox, hres, hsum, hnew⟩ := HY.out
   have s0 := (blk_cell hsum 0).trans (show (#[Value.int .i64 sl, .int .i64 sh] : Array Value)[0]? = some (Value.int .i64 sl) from rfl)
   have s1 := (blk_cell hsum 1).trans (show (#[Value.int .i64 sl, .int .i64 sh] : Array Value)[1]? = some (Value.int .i64 sh) from rfl)
   have t0 := (blk_cell hnew 0).trans (show (#[Value.int .i64 wl, .int .i64 wh] : Array Value)[0]? = some (Value.int .i64 wl) from rfl)
   have t1 := (blk_cell hnew 1).trans (show (#[Value.int .i64 wl, .int .i64 wh] : Array Value)[1]? = some (Value.int .i64 wh) from rfl)
   have f0 := blk_frozen hsum 0
   have f1 := blk_frozen hsum 1
   have z0 := blk_lt hsum
   have z1 := blk_lt hnew
   clear hB hbox hres hsum hnew
   go_upto_region 6 with fail
   go_region
   refine wp_gen' (fun wz => Aside0 (RelX w wz l4 s (k + 1) #[.slice a0 n0 c0, .slice a1 n1 c1, .slice a2 n2 c2, .slice a3 n3 c3, .slice (some ad) l4.length c4])) ⟨⟨((HY.out.1.setCell (by show w.heap.size ≤ w.heap.size + 2; omega) _).setCell (by show w.heap.size ≤ w.heap.size + 2; omega) _).drew, blk_far (blk_far HY.out.2.1 (by show w.heap.size ≠ w.heap.size + 2; omega) _) (by show w.heap.size ≠ w.heap.size + 2; omega) _, blk_far (blk_far HY.out.2.2.1 (by show w.heap.size + 1 ≠ w.heap.size + 2; omega) _) (by show w.heap.size + 1 ≠ w.heap.size + 2; omega) _, by
    have h1 := blk_set HY.out.2.2.2.1 0 (.int .i64 (sl + wl))
    have h2 := blk_set h1 1 (.int .i64 (sh + wh))
    rw [HE.out.1, HE.out.2]
    exact h2⟩⟩ ?_
   clear s0 s1 t0 t1 f0 f1 z0 z1 HY
   rintro wz HZ
   go_wp2_with fail
   refine ⟨⟨k + 1, by go_num, hlt, HZ⟩, ?_⟩
   simp [intOf]
   omega
  ·have hke : k = s.size := by omega
   have q0 := (blk_cell HX.out.res 0).trans (show (#[Value.int .i64 0, .int .i64 0] : Array Value)[0]? = some (Value.int .i64 0) from rfl)
   have q1 := (blk_cell HX.out.res 1).trans (show (#[Value.int .i64 0, .int .i64 0] : Array Value)[1]? = some (Value.int .i64 0) from rfl)
   have s0 := (blk_cell HX.out.sum 0).trans (show (#[Value.int .i64 (wideLo l4 s k), .int .i64 (wideHi l4 s k)] : Array Value)[0]? = some (Value.int .i64 (wideLo l4 s k)) from rfl)
   have s1 := (blk_cell HX.out.sum 1).trans (show (#[Value.int .i64 (wideLo l4 s k), .int .i64 (wideHi l4 s k)] : Array Value)[1]? = some (Value.int .i64 (wideHi l4 s k)) from rfl)
   have f0 := blk_frozen HX.out.res 0
   have f1 := blk_frozen HX.out.res 1
   have z0 := blk_lt HX.out.sum
   have z1 := blk_lt HX.out.res
   rw [← hke]
   go_wp2_with fail
   refine bodyPost_ret (results_cell_row rfl _ _ (w.heap.size + 1) 47 _ (0, 0) _ rfl (blk_set (blk_set HX.out.res 0 _) 1 _) Try.underlying47 rfl (by kernel_rfl)) rfl ⟨rfl, (HX.out.below.setCell (by show w.heap.size ≤ w.heap.size + 1; omega) _).setCell (by show w.heap.size ≤ w.heap.size + 1; omega) _⟩
end Go.Proofs.Ytkfebceainedfaa.P.OwnUrn
namespace Go.Proofs.Ytkfebceainedfaa.P.OwnUrn
open Go.RowKit Go.Proofs.YtkfebceainedfaaW.PrintWords Go.Proofs.YtkfebceainedfaaW.PrintLast Go.Proofs.YtkfebceainedfaaW.PrintMore
open Go.Proofs.Ytkfebceainedfaa.P.OwnGap
def wideAt (l4 : List S47) (s : ByteArray) (i : Nat) : Bool :=
 decide ((65 ≤ bt s (i : Int) ∧ bt s (i : Int) - 65 < l4.length) ∧ (0 ≤ (rd_T47 l4 (bt s (i : Int) - 65)).f0 ∧ (rd_T47 l4 (bt s (i : Int) - 65)).f0 ≤ 1000000) ∧ (0 ≤ (rd_T47 l4 (bt s (i : Int) - 65)).f1 ∧ (rd_T47 l4 (bt s (i : Int) - 65)).f1 ≤ 1000000))
def wideOf (_l0 : List S53) (_l1 _l2 : List Bool) (_l3 : List (List Bool)) (l4 : List S47) (s : ByteArray) : Option (Int × Int) :=
 if s.size ≤ 1000000 ∧ (List.range s.size).all (wideAt l4 s) = true then some (wideLo l4 s s.size, wideHi l4 s s.size) else none
theorem wideOf_total (l0 : List S53) (l1 l2 : List Bool) (l3 : List (List Bool)) (A0 A1 A2 A3 A4 : Option Addr) (c0 c1 c2 c3 c4 : Nat) (l4 : List S47) (s : ByteArray) (r1 r2 : Int) (w : World) (hr : Kd.C k47 w A4 l4.length l4) (hc : l4.length ≤ c4) (h : wideOf l0 l1 l2 l3 l4 s = some (r1, r2)) :
  Calls Try.prog 57 #[.agg #[.slice A0 l0.length c0, .slice A1 l1.length c1, .slice A2 l2.length c2, .slice A3 l3.length c3, .slice A4 l4.length c4], .string s] w fun e w' => e = .returned (.agg #[.int .i64 r1, .int .i64 r2]) ∧ Below w.heap.size w w' := by
 unfold wideOf at h
 by_cases hb : s.size ≤ 1000000 ∧ (List.range s.size).all (wideAt l4 s) = true
 case neg => rw [if_neg hb] at h; cases h
 rw [if_pos hb] at h
 simp only [Option.some.injEq, Prod.mk.injEq] at h
 obtain ⟨rfl, rfl⟩ := h
 have hA : ∀ i : Nat, i < s.size → _ := fun i hi => of_decide_eq_true (List.all_eq_true.1 hb.2 i (List.mem_range.2 hi))
 exact wideOf_calls (.slice A0 l0.length c0) (.slice A1 l1.length c1) (.slice A2 l2.length c2) (.slice A3 l3.length c3) rfl A4 c4 l4 s w hr hc hb.1 (fun i hi => (hA i hi).1) (fun i hi => (hA i hi).2.1) (fun i hi => (hA i hi).2.2) A0 A1 A2 A3 _ _ _ _ c0 c1 c2 c3
end Go.Proofs.Ytkfebceainedfaa.P.OwnUrn
namespace Go.Proofs.Ytkfebceainedfaa.P
open Go.RowKit Go.Proofs.YtkfebceainedfaaW.PrintWords Go.Proofs.YtkfebceainedfaaW.PrintLast Go.Proofs.YtkfebceainedfaaW.PrintMore
attribute [local go_sem] max2_int min2_int max_two min_two max_three min_three max_four min_four   -- for this text's walks alone
set_option linter.unusedVariables false
set_option linter.unusedSimpArgs false
def cippuskit_WideOf.f (l0_0 : List (S53)) (l0_1 : List (Bool)) (l0_2 : List (Bool)) (l0_3 : List (List Bool)) (l0_4 : List (S47)) (a1 : ByteArray) : Option (Int × Int) := OwnUrn.wideOf l0_0 l0_1 l0_2 l0_3 l0_4 a1
theorem cippuskit_WideOf.calls (A0_0 : Option Addr) (c0_0 : Nat) (l0_0 : List (S53)) (A0_1 : Option Addr) (c0_1 : Nat) (l0_1 : List (Bool)) (A0_2 : Option Addr) (c0_2 : Nat) (l0_2 : List (Bool)) (A0_3 : Option Addr) (c0_3 : Nat) (l0_3 : List (List Bool)) (A0_4 : Option Addr) (c0_4 : Nat) (l0_4 : List (S47)) (a1 : ByteArray) (r1 : Int) (r2 : Int) (w : World) (hr0_0 : Kd.C k53 w A0_0 l0_0.length l0_0) (hc0_0 : l0_0.length ≤ c0_0) (hr0_1 : Kd.C Kd.bool w A0_1 l0_1.length l0_1) (hc0_1 : l0_1.length ≤ c0_1) (hr0_2 : Kd.C Kd.bool w A0_2 l0_2.length l0_2) (hc0_2 : l0_2.length ≤ c0_2) (hr0_3 : Kd.C (Kd.slice 4 Kd.bool) w A0_3 l0_3.length l0_3) (hc0_3 : l0_3.length ≤ c0_3) (hr0_4 : Kd.C k47 w A0_4 l0_4.length l0_4) (hc0_4 : l0_4.length ≤ c0_4) (h : cippuskit_WideOf.f l0_0 l0_1 l0_2 l0_3 l0_4 a1 = some (r1, r2)) :
  Calls Try.prog 57 #[.agg #[.slice A0_0 l0_0.length c0_0, .slice A0_1 l0_1.length c0_1, .slice A0_2 l0_2.length c0_2, .slice A0_3 l0_3.length c0_3, .slice A0_4 l0_4.length c0_4], .string a1] w fun e w' => e = .returned (.agg #[.int .i64 r1, .int .i64 r2]) ∧ Below w.heap.size w w' := by
 exact OwnUrn.wideOf_total l0_0 l0_1 l0_2 l0_3 A0_0 A0_1 A0_2 A0_3 A0_4 c0_0 c0_1 c0_2 c0_3 c0_4 l0_4 a1 r1 r2 w hr0_4 hc0_4 h
end Go.Proofs.Ytkfebceainedfaa.P
namespace Go.Proofs.Ytkfebceainedfaa.P
open Go.RowKit Go.Proofs.YtkfebceainedfaaW.PrintWords Go.Proofs.YtkfebceainedfaaW.PrintLast Go.Proofs.YtkfebceainedfaaW.PrintMore
attribute [local go_sem] max2_int min2_int max_two min_two max_three min_three max_four min_four   -- for this text's walks alone
set_option linter.unusedVariables false
set_option linter.unusedSimpArgs false
def cippuskit_Urn_Of.f (s0_0 : Int) (s0_1 : Int) (a1_0 : Int) (a1_1 : Int) : Option (Int × Int × Int) := (cippuskit_Urn_From.f s0_0 s0_1 a1_0 a1_1).bind fun bt199 => ((cippuskit_Urn_Any.f bt199.2.1 bt199.2.2 (([a1_0, a1_1, bt199.1] : List Int))).bind fun bt205 => (some (bt205.1, bt205.2.1, bt205.2.2)))
def cippuskit_Urn_Of.T1 : Bool × List (List Nat × List Nat) := (true, [([], []), ([], []), ([1], [1]), ([], []), ([3], [3]), ([], []), ([], []), ([6], [6]), ([], []), ([8], [8]), ([5, 7, 9], [5, 7, 9]), ([2, 4, 10], [2, 4, 10]), ([0, 11, 10], [0, 11]), ([12, 12, 0, 1, 2, 3, 4, 5, 6, 7, 8, 9, 10, 11, 12], [12])])
def cippuskit_Urn_Of.B1 : List Nat := [0, 0, 2, 0, 8, 0, 0, 64, 0, 256, 992, 2046, 4095, 8191]
theorem cippuskit_Urn_Of.tab1 : rtab .any (opsOf Try.f73 1) = cippuskit_Urn_Of.T1 := by kernel_rfl
theorem cippuskit_Urn_Of.bits1 : waitsOk cippuskit_Urn_Of.T1.2 cippuskit_Urn_Of.B1 = true := by kernel_rfl
set_option maxHeartbeats 8000000 in
set_option maxRecDepth 100000 in
theorem cippuskit_Urn_Of.calls (g : Nat) (s0_0 : Int) (s0_1 : Int) (a1_0 : Int) (a1_1 : Int) (r1 : Int) (r2 : Int) (r3 : Int) (w0 w : World) (hI : IsS83 w0 w g s0_0 s0_1) (hB : Below w0.heap.size w0 w) (h : cippuskit_Urn_Of.f s0_0 s0_1 a1_0 a1_1 = some (r1, r2, r3)) :
  Calls Try.prog 73 #[.pointer (some ⟨g, 0, none⟩), .agg #[.int .i64 a1_0, .int .i64 a1_1]] w fun e w' => e = .returned (.int .i64 r1) ∧ IsS83 w0 w' g r2 r3 ∧ Below w0.heap.size w0 w' ∧ KeepBut w w' g none := by
 have hu47 := Try.underlying47
 have HI0 := Aside0.mk hI
 have HK := Aside0.mk (KeepBut.refl w g none)
 have HL := Aside0.mk hB.size
 clear hI
 have HW0 := Aside0.mk hB.size
 have HB := Aside0.mk hB
 clear hB
 have H : ((cippuskit_Urn_From.f s0_0 s0_1 a1_0 a1_1).bind fun bt199 => ((cippuskit_Urn_Any.f bt199.2.1 bt199.2.2 (([a1_0, a1_1, bt199.1] : List Int))).bind fun bt205 => (some (bt205.1, bt205.2.1, bt205.2.2)))) = some (r1, r2, r3) := h
 clear h
 replace H := Option.bind_eq_some_iff.mp H
 obtain ⟨⟨t199, t200, t201⟩, A30, H⟩ := H
 replace H : ((cippuskit_Urn_Any.f t200 t201 (([a1_0, a1_1, t199] : List Int))).bind fun bt205 => (some (bt205.1, bt205.2.1, bt205.2.2))) = some (r1, r2, r3) := H
 have A3 := Aside0.mk A30
 clear A30
 obtain ⟨y202, hy202⟩ : ∃ y_ : List Int, y_ = (([a1_0, a1_1, t199] : List Int)) := ⟨_, rfl⟩
 replace H : ((cippuskit_Urn_Any.f t200 t201 y202).bind fun bt205 => (some (bt205.1, bt205.2.1, bt205.2.2))) = some (r1, r2, r3) := by first | (rw [hy202]; with_reducible exact H) | (have H2_ := (Option.bind_some _ _).symm.trans H; rw [hy202]; with_reducible exact H2_) | (have H2_ := (Option.bind_some _ _).symm.trans H; with_reducible exact H2_) | with_reducible exact H | (rw [hy202]; exact H) | exact H
 have Ny202 := Aside0.mk hy202
 clear hy202
 replace H := Option.bind_eq_some_iff.mp H
 obtain ⟨⟨t205, t206, t207⟩, A40, H⟩ := H
 replace H : (some (t205, t206, t207)) = some (r1, r2, r3) := H
 have A4 := Aside0.mk A40
 clear A40
 simp only [Option.some.injEq, Prod.mk.injEq] at H
 obtain ⟨rfl, rfl, rfl⟩ := H
 go_enter Try.func73, Try.ntmps73
 try go_wp2_with (first | ((with_reducible refine gate_dst (N := 3) rfl ?_); refine box_event ?hg (N := 3) ?hd (cs := #[.int .i64 a1_0, .int .i64 a1_1]) (t := 47) ?hr ?_; (case hd => rfl); (case hg => rfl); (case hr => first | (go_simp; done) | (go_simp; rfl)); intro gb198 hg w5 hbox hb; replace HB := Aside0.mk (below_step (uB HB) hb); have BK198 := Aside0.mk (hbox); have GW198 := Aside0.mk ((by rw [hg]; exact (keep_size (w := w) (g := g) (row := none) (uK HK)) : w.heap.size ≤ gb198)); have GE198 := Aside0.mk ((Nat.le_trans HW0.out (by rw [hg]; exact (keep_size (w := w) (g := g) (row := none) (uK HK)) : w.heap.size ≤ gb198) : w0.heap.size ≤ gb198)); have NB0_198 := Aside0.mk ((by rw [hg]; exact Nat.ne_of_lt (IsS83.lt (show IsS83 w0 _ g s0_0 s0_1 from uI HI0)) : g ≠ gb198)); have NB198_0 := Aside0.mk ((by rw [hg]; exact Nat.ne_of_gt (IsS83.lt (show IsS83 w0 _ g s0_0 s0_1 from uI HI0)) : gb198 ≠ g)); replace HI0 := Aside0.mk (IsS83.below (uI HI0) hb); replace HK := Aside0.mk (KeepBut.trans (uK HK) (KeepBut.of_below hb g none) (.inl rfl)); clear hb hbox hg))
 replace BK198 := Aside0.mk (blk_drew BK198.out)
 replace HI0 := Aside0.mk (IsS83.drew HI0.out)
 replace HK := Aside0.mk (keep_drew HK.out)
 replace HB := Aside0.mk (below_drew1 HB.out)
 refine start_ (n := 14) (S := fun w' => w'.cell? ⟨gb198, 0, none⟩ = some (.int .i64 a1_0) ∧ w'.cell? ⟨gb198, 1, none⟩ = some (.int .i64 a1_1)) (ds := []) #[ff,ff,ff,ff,ff,ff,ff,ff,ff,ff,ff,ff,ff,ff] (by kernel_rfl) rfl rfl ⟨(blk_cell BK198.out 0).trans rfl, (blk_cell BK198.out 1).trans rfl⟩ (fun hHeld => ?_); refine with_tabW cippuskit_Urn_Of.tab1 cippuskit_Urn_Of.bits1 (fun HT_ HW_ => ?_)
 generalize w5.drew = w6 at BK198 HI0 HK HB hHeld ⊢
 refine pure_ (i := 0) (N := some 5) (v := ?_) (a' := ?_) #[tt,ff,ff,ff,ff,ff,ff,ff,ff,ff,ff,ff,ff,ff] rfl rfl (any_of HT_.out (by kernel_rfl)) (fun _ _ _ h => h) (Or.inl ⟨by rfl, ?_⟩) ?_ ?_
 rotate_left
 ·intro w'
  go_simp
  with_reducible rfl
 rotate_left
 ·exact uP
 refine pure_ (i := 1) (N := some 6) (v := ?_) (a' := ?_) #[tt,tt,ff,ff,ff,ff,ff,ff,ff,ff,ff,ff,ff,ff] rfl rfl (any_of HT_.out (by kernel_rfl)) (fun _ _ _ h => h) (Or.inl ⟨by rfl, ?_⟩) ?_ ?_
 rotate_left
 ·intro w'
  go_simp
  with_reducible rfl
 rotate_left
 ·exact uP
 refine pure_ (i := 3) (N := some 8) (v := ?_) (a' := ?_) #[tt,tt,ff,tt,ff,ff,ff,ff,ff,ff,ff,ff,ff,ff] rfl rfl (any_of HT_.out (by kernel_rfl)) (fun _ _ _ h => h) (Or.inl ⟨by rfl, ?_⟩) ?_ ?_
 rotate_left
 ·intro w'
  go_simp
  with_reducible rfl
 rotate_left
 ·exact uP
 refine pure_ (i := 5) (N := some 10) (v := ?_) (a' := ?_) #[tt,tt,ff,tt,ff,tt,ff,ff,ff,ff,ff,ff,ff,ff] rfl rfl (any_of HT_.out (by kernel_rfl)) (fun _ _ _ h => h) (Or.inl ⟨by rfl, ?_⟩) ?_ ?_
 rotate_left
 ·intro w'
  go_simp
  with_reducible rfl
 rotate_left
 ·exact uP
 refine pure_ (i := 6) (N := some 11) (v := ?_) (a' := ?_) #[tt,tt,ff,tt,ff,tt,tt,ff,ff,ff,ff,ff,ff,ff] rfl rfl (any_of HT_.out (by kernel_rfl)) (fun _ _ _ h => h) (Or.inl ⟨by rfl, ?_⟩) ?_ ?_
 rotate_left
 ·intro w'
  go_simp
  with_reducible rfl
 rotate_left
 ·exact uP
 refine pure_ (i := 8) (N := some 13) (v := ?_) (a' := ?_) #[tt,tt,ff,tt,ff,tt,tt,ff,tt,ff,ff,ff,ff,ff] rfl rfl (any_of HT_.out (by kernel_rfl)) (fun _ _ _ h => h) (Or.inl ⟨by rfl, ?_⟩) ?_ ?_
 rotate_left
 ·intro w'
  go_simp
  with_reducible rfl
 rotate_left
 ·exact uP
 refine take_ (i := 2) (N := some 7) (v := ?_) (a' := ?_) #[tt,tt,tt,tt,ff,tt,tt,ff,tt,ff,ff,ff,ff,ff] rfl rfl (take_ofW HT_.out HW_.out (by kernel_rfl)) (fun _ _ _ h => h) (Or.inl ⟨by rfl, ?_⟩) hHeld ?_ ?_
 rotate_left
 ·rintro w' ⟨s0, s1⟩
  go_simp
  with_reducible rfl
 rotate_left
 ·exact uP
 refine take_ (i := 4) (N := some 9) (v := ?_) (a' := ?_) #[tt,tt,tt,tt,tt,tt,tt,ff,tt,ff,ff,ff,ff,ff] rfl rfl (take_ofW HT_.out HW_.out (by kernel_rfl)) (fun _ _ _ h => h) (Or.inl ⟨by rfl, ?_⟩) hHeld ?_ ?_
 rotate_left
 ·rintro w' ⟨s0, s1⟩
  go_simp
  with_reducible rfl
 rotate_left
 ·exact uP
 refine take_ (i := 7) (N := some 12) (v := ?_) (a' := ?_) #[tt,tt,tt,tt,tt,tt,tt,tt,tt,ff,ff,ff,ff,ff] rfl rfl (take_ofW HT_.out HW_.out (by kernel_rfl)) (fun _ _ _ h => h) (Or.inl ⟨by rfl, ?_⟩) hHeld ?_ ?_
 rotate_left
 ·rintro w' ⟨s0, s1⟩
  go_simp
  with_reducible rfl
 rotate_left
 ·exact uP
 refine take_ (i := 9) (N := some 14) (v := ?_) (a' := ?_) #[tt,tt,tt,tt,tt,tt,tt,tt,tt,tt,ff,ff,ff,ff] rfl rfl (take_ofW HT_.out HW_.out (by kernel_rfl)) (fun _ _ _ h => h) (Or.inl ⟨by rfl, ?_⟩) hHeld ?_ ?_
 rotate_left
 ·rintro w' ⟨s0, s1⟩
  go_simp
  with_reducible rfl
 rotate_left
 ·exact uP
 refine one_ (i := 10) (N := some 15) #[tt,tt,tt,tt,tt,tt,tt,tt,tt,tt,tt,ff,ff,ff] rfl rfl (one_of HT_.out (by kernel_rfl)) (by decide) (fun K hK => ?_)
 refine goes_ Try.func18 (by kernel_rfl) rfl #[.pointer (some ⟨g, 0, none⟩), .int .i64 a1_0, .int .i64 a1_1] (by rfl) rfl rfl uA ?_
 with_reducible refine (cippuskit_Urn_From.calls g s0_0 s0_1 a1_0 a1_1 t199 t200 t201 w0 _ ?side1 ?side2 A3.out).mono ?_
 (case side1 => exact uI HI0)
 (case side2 => exact uB HB)
 rintro e w7 ⟨rfl, hi, hb, hk⟩
 refine ⟨_, rfl, ?_⟩
 replace BK198 := Aside0.mk (KeepBut.blk hk (uk BK198) NB198_0.out (by simp))
 replace HK := Aside0.mk (KeepBut.trans (uK HK) hk (.inl rfl))
 replace HB := Aside0.mk (hb)
 replace HI0 := Aside0.mk (hi)
 (try clear hb)
 (try clear hb2)
 (try clear hk)
 (try clear hi)
 refine hK.out _ _ ⟨(blk_cell BK198.out 0).trans rfl, (blk_cell BK198.out 1).trans rfl⟩ (fun hHeld => ?_)
 clear hK K
 refine norm_ (a' := ?_) ?_ ?_
 rotate_left
 ·show Act.put _ (some 15) _ = _
  simp only [Act.put, List.setIfInBounds_toArray, List.set_cons_zero, List.set_cons_succ, i64_w, i32_w]
  rfl
 refine one_ (i := 11) (N := some 16) #[tt,tt,tt,tt,tt,tt,tt,tt,tt,tt,tt,tt,ff,ff] rfl rfl (one_of HT_.out (by kernel_rfl)) (by decide) (fun K hK => ?_)
 refine Kd.R_lit_step (Kd.int .i64) _ 3 ?hg (N := 16) ?hd (xs := ([a1_0, a1_1, t199] : List Int)) (inner := [.int .i64 a1_0, .int .i64 a1_1, .int .i64 t199]) (ok := fun _ => True) (okp := fun _ => True) ?hr ?hp (fun _ hk => hk) trivial (Below.refl _ _) (Nat.le_refl _) (by simp) ?_; (case hd => rfl); (case hg => rfl); (case hr => first | (go_simp; done) | (go_simp; rfl)); (case hp => exact (Reps.one (show Kd.M (Kd.int .i64) _ _ _ a1_0 [.int .i64 a1_0] from rfl) (Reps.one (show Kd.M (Kd.int .i64) _ _ _ a1_1 [.int .i64 a1_1] from rfl) (Reps.one (show Kd.M (Kd.int .i64) _ _ _ t199 [.int .i64 t199] from rfl) (Reps.none _ _)))))
 intro v203 w8 ho9 hb hg_ hnew_
 clear hg_ hnew_
 (first | rw [← Ny202.out] at ho9 | (simp only [Int.reduceToNat] at ho9; rw [← Ny202.out] at ho9))
 have HO204 := Aside0.mk (Kd.R_lower ho9 (keep_size (w := w) (g := g) (row := none) (uK HK)))
 replace BK198 := Aside0.mk (blk_below (uk BK198) hb)
 replace HB := Aside0.mk (below_step (uB HB) hb)
 replace HI0 := Aside0.mk (IsS83.below (uI HI0) hb)
 replace HK := Aside0.mk (KeepBut.trans (uK HK) (KeepBut.of_below hb g none) (.inl rfl))
 clear hb ho9
 obtain ⟨Ao10, co10, eo10⟩ := Kd.R_slice HO204.out
 (first | subst eo10 | (injection eo10 with f1_ f2_ f3_; have f4_ := f1_.symm; have f5_ := f3_.symm; clear f1_ f2_ f3_; subst f4_; subst f5_))
 refine hK.out _ _ ⟨(blk_cell BK198.out 0).trans rfl, (blk_cell BK198.out 1).trans rfl⟩ (fun hHeld => ?_)
 clear hK K
 refine norm_ (a' := ?_) ?_ ?_
 rotate_left
 ·show Act.put _ (some 16) _ = _
  simp only [Act.put, List.setIfInBounds_toArray, List.set_cons_zero, List.set_cons_succ, i64_w, i32_w]
  rfl
 refine one_ (i := 12) (N := some 17) #[tt,tt,tt,tt,tt,tt,tt,tt,tt,tt,tt,tt,tt,ff] rfl rfl (one_of HT_.out (by kernel_rfl)) (by decide) (fun K hK => ?_)
 refine goes_ Try.func32 (by kernel_rfl) rfl #[.pointer (some ⟨g, 0, none⟩), .slice Ao10 y202.length co10] (by rfl) rfl rfl uA ?_
 with_reducible refine (cippuskit_Urn_Any.calls g t200 t201 _ _ y202 t205 t206 t207 w0 _ ?side1 ?side2 ?side3 ?side4 ?side5 A4.out).mono ?_
 (case side1 => exact uI HI0)
 (case side2 => exact uB HB)
 (case side3 => exact uD (Kd.R_reads' HO204.out).2.2)
 (case side4 => exact (Kd.R_reads' HO204.out).2.1)
 (case side5 => exact far_slice (IsS83.own_ne HI0.out HO204.out (by decide)))
 rintro e w11 ⟨rfl, hi, hb, hk⟩
 refine ⟨_, rfl, ?_⟩
 replace BK198 := Aside0.mk (KeepBut.blk hk (uk BK198) NB198_0.out (by simp))
 replace HO204 := Aside0.mk (Kd.R_mono (Kd.R_keep (IsS83.apart (show IsS83 w0 _ g t200 t201 from uI HI0) (uR HO204) (by decide)) hk (fun _ h => h.2)) (fun _ h => h.1))
 replace HK := Aside0.mk (KeepBut.trans (uK HK) hk (.inl rfl))
 replace HB := Aside0.mk (hb)
 replace HI0 := Aside0.mk (hi)
 (try clear hb)
 (try clear hb2)
 (try clear hk)
 (try clear hi)
 refine hK.out _ _ ⟨(blk_cell BK198.out 0).trans rfl, (blk_cell BK198.out 1).trans rfl⟩ (fun hHeld => ?_)
 clear hK K
 refine norm_ (a' := ?_) ?_ ?_
 rotate_left
 ·show Act.put _ (some 17) _ = _
  simp only [Act.put, List.setIfInBounds_toArray, List.set_cons_zero, List.set_cons_succ, i64_w, i32_w]
  rfl
 refine pure_ (i := 13) (N := some 4) (v := ?_) (a' := ?_) #[tt,tt,tt,tt,tt,tt,tt,tt,tt,tt,tt,tt,tt,tt] rfl rfl (any_of HT_.out (by kernel_rfl)) (fun _ _ _ h => h) (Or.inl ⟨by rfl, ?_⟩) ?_ ?_
 rotate_left
 ·intro w'
  go_simp
  with_reducible rfl
 rotate_left
 ·exact uP
 refine done_ (done_of HT_.out (by kernel_rfl)) ?_
 try go_wp2
 go_ret
 exact ⟨uE, uI HI0, uB HB, uK HK⟩
end Go.Proofs.Ytkfebceainedfaa.P
namespace Go.Proofs.Ytkfebceainedfaa.P
open Go.RowKit Go.Proofs.YtkfebceainedfaaW.PrintWords Go.Proofs.YtkfebceainedfaaW.PrintLast Go.Proofs.YtkfebceainedfaaW.PrintMore
attribute [local go_sem] max2_int min2_int max_two min_two max_three min_three max_four min_four   -- for this text's walks alone
set_option linter.unusedVariables false
set_option linter.unusedSimpArgs false
def cippuskit_squareOf.l0 : Nat → Int → ByteArray → Int → Int → Int → Option (ByteArray × Bool × Int × Int × Int × Int)
 | 0, _, _, _, _, _ => none
 | k + 1, x1, x5, x6, x1000, x1001 => if x6 ≤ 74 then (if x6 = x1 then ((some (([x6] : List Int) : List Int)).bind fun y212 => (if x5.size + (strOfNums y212).size ≤ 9223372036854775807 then (cippuskit_squareOf.l0 k x1 (x5 ++ (strOfNums y212)) ((x6 + 1) % 256) x1000 x1001) else (none))) else ((cippuskit_Urn_Odds.f x1000 x1001 1 4).bind fun bt215 => (if bt215.1 = true then ((some (([x6] : List Int) : List Int)).bind fun y218 => (if x5.size + (strOfNums y218).size ≤ 9223372036854775807 then (cippuskit_squareOf.l0 k x1 (x5 ++ (strOfNums y218)) ((x6 + 1) % 256) bt215.2.1 bt215.2.2) else (none))) else (cippuskit_squareOf.l0 k x1 x5 ((x6 + 1) % 256) bt215.2.1 bt215.2.2)))) else (some (x5, false, 0, 0, x1000, x1001))
def cippuskit_squareOf.f (k : Nat) (s0_0 : Int) (s0_1 : Int) (a1 : Int) : Option (ByteArray × Bool × Int × Int × Int × Int) := (cippuskit_Urn_Up.f s0_0 s0_1 4).bind fun bt209 => (if bt209.1 = 0 then (some ((⟨#[]⟩ : ByteArray), false, 0, 0, bt209.2.1, bt209.2.2)) else (if bt209.1 = 1 then (cippuskit_squareOf.l0 k a1 (⟨#[]⟩ : ByteArray) 65 bt209.2.1 bt209.2.2) else (some (strOfNums (([a1] : List Int)), false, 0, 0, bt209.2.1, bt209.2.2))))
set_option maxHeartbeats 8000000 in
set_option maxRecDepth 100000 in
theorem cippuskit_squareOf.calls (k : Nat) (g : Nat) (s0_0 : Int) (s0_1 : Int) (a1 : Int) (r1 : ByteArray) (r2 : Bool) (r3 : Int) (r4 : Int) (r5 : Int) (r6 : Int) (w0 w : World) (hI : IsS83 w0 w g s0_0 s0_1) (hB : Below w0.heap.size w0 w) (h : cippuskit_squareOf.f k s0_0 s0_1 a1 = some (r1, r2, r3, r4, r5, r6)) :
  Calls Try.prog 74 #[.pointer (some ⟨g, 0, none⟩), .int .u8 a1] w fun e w' => e = .returned (.agg #[.string r1, .bool r2, .int .i64 r3, .int .i64 r4]) ∧ IsS83 w0 w' g r5 r6 ∧ Below w0.heap.size w0 w' ∧ KeepBut w w' g none := by
 have hu49 := Try.underlying49
 have HI0 := Aside0.mk hI
 have HK := Aside0.mk (KeepBut.refl w g none)
 have HL := Aside0.mk hB.size
 clear hI
 have HW0 := Aside0.mk hB.size
 have HB := Aside0.mk hB
 clear hB
 have H : ((cippuskit_Urn_Up.f s0_0 s0_1 4).bind fun bt209 => (if bt209.1 = 0 then (some ((⟨#[]⟩ : ByteArray), false, 0, 0, bt209.2.1, bt209.2.2)) else (if bt209.1 = 1 then (cippuskit_squareOf.l0 k a1 (⟨#[]⟩ : ByteArray) 65 bt209.2.1 bt209.2.2) else (some (strOfNums (([a1] : List Int)), false, 0, 0, bt209.2.1, bt209.2.2))))) = some (r1, r2, r3, r4, r5, r6) := h
 clear h
 replace H := Option.bind_eq_some_iff.mp H
 obtain ⟨⟨t209, t210, t211⟩, A30, H⟩ := H
 replace H : (if t209 = 0 then (some ((⟨#[]⟩ : ByteArray), false, 0, 0, t210, t211)) else (if t209 = 1 then (cippuskit_squareOf.l0 k a1 (⟨#[]⟩ : ByteArray) 65 t210 t211) else (some (strOfNums (([a1] : List Int)), false, 0, 0, t210, t211)))) = some (r1, r2, r3, r4, r5, r6) := H
 have A3 := Aside0.mk A30
 clear A30
 by_cases c4 : t209 = 0
 ·rw [if_pos c4] at H
  have c4b0 : (t209 == 0) = true := beq_iff_eq.mpr c4
  have c4b1 : (t209 != 0) = false := bne_eq_false_iff_eq.mpr c4
  clear c4
  simp only [Option.some.injEq, Prod.mk.injEq] at H
  obtain ⟨rfl, rfl, rfl, rfl, rfl, rfl⟩ := H
  go_enter Try.func74, Try.ntmps74
  go_wp2_with (first | ((with_reducible refine gate_dst (N := 4) rfl ?_); refine box_event ?hg (N := 4) ?hd (cs := #[.string (⟨#[]⟩ : ByteArray), .bool false, .int .i64 0, .int .i64 0]) (t := 49) ?hr ?_; (case hd => rfl); (case hg => rfl); (case hr => first | (go_simp; done) | (go_simp; rfl)); intro gb208 hg w5 hbox hb; replace HB := Aside0.mk (below_step (uB HB) hb); have BK208 := Aside0.mk (hbox); have GW208 := Aside0.mk ((by rw [hg]; exact (keep_size (w := w) (g := g) (row := none) (uK HK)) : w.heap.size ≤ gb208)); have GE208 := Aside0.mk ((Nat.le_trans HW0.out (by rw [hg]; exact (keep_size (w := w) (g := g) (row := none) (uK HK)) : w.heap.size ≤ gb208) : w0.heap.size ≤ gb208)); have NB0_208 := Aside0.mk ((by rw [hg]; exact Nat.ne_of_lt (IsS83.lt (show IsS83 w0 _ g s0_0 s0_1 from uI HI0)) : g ≠ gb208)); have NB208_0 := Aside0.mk ((by rw [hg]; exact Nat.ne_of_gt (IsS83.lt (show IsS83 w0 _ g s0_0 s0_1 from uI HI0)) : gb208 ≠ g)); replace HI0 := Aside0.mk (IsS83.below (uI HI0) hb); replace HK := Aside0.mk (KeepBut.trans (uK HK) (KeepBut.of_below hb g none) (.inl rfl)); clear hb hbox hg) | ((with_reducible refine gate_callee (f := 30) rfl ?_); refine goesL_ (some 8) rfl rfl Try.func30 (by kernel_rfl) rfl #[.pointer (some ⟨g, 0, none⟩), .int .i64 4] rfl uA ?_; (with_reducible refine (cippuskit_Urn_Up.calls g s0_0 s0_1 4 t209 t210 t211 w0 _ ?side1 ?side2 A3.out).mono ?_); (case side1 => exact uI HI0); (case side2 => exact uB HB); rintro e w6 ⟨rfl, hi, hb, hk⟩; refine ⟨_, rfl, ?_⟩; replace BK208 := Aside0.mk (KeepBut.blk hk (uk BK208) NB208_0.out (by simp)); replace HK := Aside0.mk (KeepBut.trans (uK HK) hk (.inl rfl)); replace HB := Aside0.mk (hb); replace HI0 := Aside0.mk (hi); (try clear hb); (try clear hb2); (try clear hk); (try clear hi); have hnb7 := NB208_0.out; have hnc7 := NB0_208.out; have hcz8_0 := uc (w := w6) BK208 0; have hcz8_1 := uc (w := w6) BK208 1; have hcz8_2 := uc (w := w6) BK208 2; have hcz8_3 := uc (w := w6) BK208 3; have hfz8_0 := blk_frozen BK208.out 0; have hfz8_1 := blk_frozen BK208.out 1; have hfz8_2 := blk_frozen BK208.out 2; have hfz8_3 := blk_frozen BK208.out 3))
  refine bodyPost_ret (results_cell_row rfl _ _ gb208 49 #[.string (⟨#[]⟩ : ByteArray), .bool false, .int .i64 0, .int .i64 0] (0, 0) _ rfl (by (with_reducible repeat (first | refine blk_drewN ?_ _ | refine blk_drew ?_ | refine blk_alloc ?_ _)); refine blk_put (cs := #[.string (⟨#[]⟩ : ByteArray), .bool false, .int .i64 0, .int .i64 0]) ?_ 3 _ rfl; (with_reducible repeat (first | refine blk_drewN ?_ _ | refine blk_drew ?_ | refine blk_alloc ?_ _)); refine blk_put (cs := #[.string (⟨#[]⟩ : ByteArray), .bool false, .int .i64 0, .int .i64 0]) ?_ 2 _ rfl; (with_reducible repeat (first | refine blk_drewN ?_ _ | refine blk_drew ?_ | refine blk_alloc ?_ _)); refine blk_put (cs := #[.string (⟨#[]⟩ : ByteArray), .bool false, .int .i64 0, .int .i64 0]) ?_ 1 _ rfl; (with_reducible repeat (first | refine blk_drewN ?_ _ | refine blk_drew ?_ | refine blk_alloc ?_ _)); refine blk_put (cs := #[.string (⟨#[]⟩ : ByteArray), .bool false, .int .i64 0, .int .i64 0]) ?_ 0 _ rfl; (with_reducible repeat (first | refine blk_drewN ?_ _ | refine blk_drew ?_ | refine blk_alloc ?_ _)); exact BK208.out) Try.underlying49 rfl (by kernel_rfl)) rfl ?_
  exact ⟨uE, uI HI0, uB HB, uK HK⟩
 ·rw [if_neg c4] at H
  have c4b0 : (t209 == 0) = false := beq_eq_false_iff_ne.mpr c4
  have c4b1 : (t209 != 0) = true := bne_iff_ne.mpr c4
  by_cases c9 : t209 = 1
  ·rw [if_pos c9] at H
   have c9b0 : (t209 == 1) = true := beq_iff_eq.mpr c9
   have c9b1 : (t209 != 1) = false := bne_eq_false_iff_eq.mpr c9
   clear c9
   have H' := Aside0.mk H
   clear H
   go_enter Try.func74, Try.ntmps74
   go_wp2_with (first | ((with_reducible refine gate_dst (N := 4) rfl ?_); refine box_event ?hg (N := 4) ?hd (cs := #[.string (⟨#[]⟩ : ByteArray), .bool false, .int .i64 0, .int .i64 0]) (t := 49) ?hr ?_; (case hd => rfl); (case hg => rfl); (case hr => first | (go_simp; done) | (go_simp; rfl)); intro gb208 hg w10 hbox hb; replace HB := Aside0.mk (below_step (uB HB) hb); have BK208 := Aside0.mk (hbox); have GW208 := Aside0.mk ((by rw [hg]; exact (keep_size (w := w) (g := g) (row := none) (uK HK)) : w.heap.size ≤ gb208)); have GE208 := Aside0.mk ((Nat.le_trans HW0.out (by rw [hg]; exact (keep_size (w := w) (g := g) (row := none) (uK HK)) : w.heap.size ≤ gb208) : w0.heap.size ≤ gb208)); have NB0_208 := Aside0.mk ((by rw [hg]; exact Nat.ne_of_lt (IsS83.lt (show IsS83 w0 _ g s0_0 s0_1 from uI HI0)) : g ≠ gb208)); have NB208_0 := Aside0.mk ((by rw [hg]; exact Nat.ne_of_gt (IsS83.lt (show IsS83 w0 _ g s0_0 s0_1 from uI HI0)) : gb208 ≠ g)); replace HI0 := Aside0.mk (IsS83.below (uI HI0) hb); replace HK := Aside0.mk (KeepBut.trans (uK HK) (KeepBut.of_below hb g none) (.inl rfl)); clear hb hbox hg) | ((with_reducible refine gate_callee (f := 30) rfl ?_); refine goesL_ (some 8) rfl rfl Try.func30 (by kernel_rfl) rfl #[.pointer (some ⟨g, 0, none⟩), .int .i64 4] rfl uA ?_; (with_reducible refine (cippuskit_Urn_Up.calls g s0_0 s0_1 4 t209 t210 t211 w0 _ ?side1 ?side2 A3.out).mono ?_); (case side1 => exact uI HI0); (case side2 => exact uB HB); rintro e w11 ⟨rfl, hi, hb, hk⟩; refine ⟨_, rfl, ?_⟩; replace BK208 := Aside0.mk (KeepBut.blk hk (uk BK208) NB208_0.out (by simp)); replace HK := Aside0.mk (KeepBut.trans (uK HK) hk (.inl rfl)); replace HB := Aside0.mk (hb); replace HI0 := Aside0.mk (hi); (try clear hb); (try clear hb2); (try clear hk); (try clear hi)))
   go_loopg [5, 6] k (fun kq v5 v6 w' => ∃ (x5_1 : ByteArray) (x6_1 : Int) (x1000_1 : Int) (x1001_1 : Int), v5 = .string x5_1 ∧ v6 = .int .u8 x6_1 ∧ Aside0 (cippuskit_squareOf.l0 kq a1 x5_1 x6_1 x1000_1 x1001_1 = some (r1, r2, r3, r4, r5, r6)) ∧ Aside0 (kq ≤ k) ∧ Aside0 (w'.heap[gb208]? = some (.cells #[.string (⟨#[]⟩ : ByteArray), .bool false, .int .i64 0, .int .i64 0] 49 (0, 0))) ∧ Aside0 (IsS83 w0 w' g x1000_1 x1001_1) ∧ Aside0 (KeepBut w w' g none) ∧ Aside0 (Below w0.heap.size w0 w'))
   case atStart => exact ⟨((⟨#[]⟩ : ByteArray)), (65), (t210), (t211), uS, uS, H', ⟨Nat.le_refl _⟩, ⟨uk BK208⟩, ⟨uI HI0⟩, ⟨uK HK⟩, ⟨uB HB⟩⟩
   case round =>
    clear H'
    try clear p2
    try clear c3
    try clear c4
    try clear c4b0
    try clear c4b1
    try clear c7
    try clear c9
    try clear c9b0
    try clear c9b1
    try clear hcz8_0
    try clear hcz8_1
    try clear hcz8_2
    try clear hcz8_3
    try clear hfz8_0
    try clear hfz8_1
    try clear hfz8_2
    try clear hfz8_3
    obtain ⟨x5_1, x6_1, x1000_1, x1001_1, rfl, rfl, HA, HK1, BK208, HI0, HK, HB⟩ := hrel
    cases gk with
    | zero => exact absurd HA.out (by simp [cippuskit_squareOf.l0])
    | succ k1 =>
     have H := HA.out
     clear HA
     simp only [cippuskit_squareOf.l0] at H
     by_cases c12 : x6_1 ≤ 74
     ·rw [if_pos c12] at H
      have c12b0 : decide (x6_1 ≤ 74) = true := decide_eq_true c12
      clear c12
      by_cases c13 : x6_1 = a1
      ·rw [if_pos c13] at H
       have c13b0 : (x6_1 == a1) = true := beq_iff_eq.mpr c13
       have c13b1 : (x6_1 != a1) = false := bne_eq_false_iff_eq.mpr c13
       clear c13
       obtain ⟨y212, hy212⟩ : ∃ y_ : List Int, y_ = (([x6_1] : List Int)) := ⟨_, rfl⟩
       replace H : (if x5_1.size + (strOfNums y212).size ≤ 9223372036854775807 then (cippuskit_squareOf.l0 k1 a1 (x5_1 ++ (strOfNums y212)) ((x6_1 + 1) % 256) x1000_1 x1001_1) else (none)) = some (r1, r2, r3, r4, r5, r6) := by first | (rw [hy212]; with_reducible exact H) | (have H2_ := (Option.bind_some _ _).symm.trans H; rw [hy212]; with_reducible exact H2_) | (have H2_ := (Option.bind_some _ _).symm.trans H; with_reducible exact H2_) | with_reducible exact H | (rw [hy212]; exact H) | exact H
       have Ny212 := Aside0.mk hy212
       clear hy212
       by_cases c14 : x5_1.size + (strOfNums y212).size ≤ 9223372036854775807
       ·rw [if_pos c14] at H
        have c14b0 := eq_true c14
        have c14b1 : decide (x5_1.size + (strOfNums y212).size ≤ 9223372036854775807) = true := decide_eq_true c14
        try have c14b2 : (9223372036854775807 < x5_1.size + (strOfNums y212).size) = False := eq_false (Nat.not_lt.2 c14)
        have H' := Aside0.mk H
        clear H
        go_wp2_with (first | ((with_reducible refine gate_dst (N := 27) rfl ?_); refine Kd.R_lit (Kd.int .u8) _ 5 ?hg (N := 27) ?hd (xs := ([x6_1] : List Int)) (inner := [.int .u8 x6_1]) (ok := fun _ => True) (okp := fun _ => True) ?hr ?hp (fun _ hk => hk) trivial (Below.refl _ _) (Nat.le_refl _) (by simp) ?_; (case hd => rfl); (case hg => rfl); (case hr => first | (go_simp; done) | (go_simp; rfl)); (case hp => exact (Reps.one (show Kd.M (Kd.int .u8) _ _ _ x6_1 [.int .u8 x6_1] from rfl) (Reps.none _ _))); intro v213 w15 ho16 hb hg_ hnew_; clear hg_ hnew_; (first | rw [← Ny212.out] at ho16 | (simp only [Int.reduceToNat] at ho16; rw [← Ny212.out] at ho16)); have HO214 := Aside0.mk (Kd.R_lower ho16 (keep_size (w := w) (g := g) (row := none) (uK HK))); replace BK208 := Aside0.mk (blk_below (uk BK208) hb); replace HB := Aside0.mk (below_step (uB HB) hb); replace HI0 := Aside0.mk (IsS83.below (uI HI0) hb); replace HK := Aside0.mk (KeepBut.trans (uK HK) (KeepBut.of_below hb g none) (.inl rfl)); clear hb ho16; have hcv17 := own_string (P := Try.prog) Try.underlying67 Try.underlying5 Try.underlying9 (Kd.own_of_R HO214.out)))
        go_roundg k1
        case measure => have := HK1.out; omega
        case rel => exact ⟨(x5_1 ++ (strOfNums y212)), ((x6_1 + 1) % 256), (x1000_1), (x1001_1), uS, uS, H', ⟨by have := HK1.out; omega⟩, ⟨uk BK208⟩, ⟨uI HI0⟩, ⟨uK HK⟩, ⟨uB HB⟩⟩
       ·rw [if_neg c14] at H
        exact absurd H (by simp)
      ·rw [if_neg c13] at H
       have c13b0 : (x6_1 == a1) = false := beq_eq_false_iff_ne.mpr c13
       have c13b1 : (x6_1 != a1) = true := bne_iff_ne.mpr c13
       replace H := Option.bind_eq_some_iff.mp H
       obtain ⟨⟨t215, t216, t217⟩, A180, H⟩ := H
       replace H : (if t215 = true then ((some (([x6_1] : List Int) : List Int)).bind fun y218 => (if x5_1.size + (strOfNums y218).size ≤ 9223372036854775807 then (cippuskit_squareOf.l0 k1 a1 (x5_1 ++ (strOfNums y218)) ((x6_1 + 1) % 256) t216 t217) else (none))) else (cippuskit_squareOf.l0 k1 a1 x5_1 ((x6_1 + 1) % 256) t216 t217)) = some (r1, r2, r3, r4, r5, r6) := H
       have A18 := Aside0.mk A180
       clear A180
       by_cases c19 : t215 = true
       ·subst c19
        have H1 : ((some (([x6_1] : List Int) : List Int)).bind fun y218 => (if x5_1.size + (strOfNums y218).size ≤ 9223372036854775807 then (cippuskit_squareOf.l0 k1 a1 (x5_1 ++ (strOfNums y218)) ((x6_1 + 1) % 256) t216 t217) else (none))) = some (r1, r2, r3, r4, r5, r6) := by rw [if_pos rfl] at H; exact H
        clear H
        have H := H1
        clear H1
        obtain ⟨y218, hy218⟩ : ∃ y_ : List Int, y_ = (([x6_1] : List Int)) := ⟨_, rfl⟩
        replace H : (if x5_1.size + (strOfNums y218).size ≤ 9223372036854775807 then (cippuskit_squareOf.l0 k1 a1 (x5_1 ++ (strOfNums y218)) ((x6_1 + 1) % 256) t216 t217) else (none)) = some (r1, r2, r3, r4, r5, r6) := by first | (rw [hy218]; with_reducible exact H) | (have H2_ := (Option.bind_some _ _).symm.trans H; rw [hy218]; with_reducible exact H2_) | (have H2_ := (Option.bind_some _ _).symm.trans H; with_reducible exact H2_) | with_reducible exact H | (rw [hy218]; exact H) | exact H
        have Ny218 := Aside0.mk hy218
        clear hy218
        by_cases c20 : x5_1.size + (strOfNums y218).size ≤ 9223372036854775807
        ·rw [if_pos c20] at H
         have c20b0 := eq_true c20
         have c20b1 : decide (x5_1.size + (strOfNums y218).size ≤ 9223372036854775807) = true := decide_eq_true c20
         try have c20b2 : (9223372036854775807 < x5_1.size + (strOfNums y218).size) = False := eq_false (Nat.not_lt.2 c20)
         have H' := Aside0.mk H
         clear H
         go_wp2_with (first | (go_at_call 31; (with_reducible refine (cippuskit_Urn_Odds.calls g x1000_1 x1001_1 1 4 true t216 t217 w0 _ ?side1 ?side2 A18.out).mono ?_); (case side1 => exact uI HI0); (case side2 => exact uB HB); rintro e w21 ⟨rfl, hi, hb, hk⟩; replace BK208 := Aside0.mk (KeepBut.blk hk (uk BK208) NB208_0.out (by simp)); replace HK := Aside0.mk (KeepBut.trans (uK HK) hk (.inl rfl)); replace HB := Aside0.mk (hb); replace HI0 := Aside0.mk (hi); (try clear hb); (try clear hb2); (try clear hk); (try clear hi)) | ((with_reducible refine gate_dst (N := 27) rfl ?_); refine Kd.R_lit (Kd.int .u8) _ 5 ?hg (N := 27) ?hd (xs := ([x6_1] : List Int)) (inner := [.int .u8 x6_1]) (ok := fun _ => True) (okp := fun _ => True) ?hr ?hp (fun _ hk => hk) trivial (Below.refl _ _) (Nat.le_refl _) (by simp) ?_; (case hd => rfl); (case hg => rfl); (case hr => first | (go_simp; done) | (go_simp; rfl)); (case hp => exact (Reps.one (show Kd.M (Kd.int .u8) _ _ _ x6_1 [.int .u8 x6_1] from rfl) (Reps.none _ _))); intro v219 w22 ho23 hb hg_ hnew_; clear hg_ hnew_; (first | rw [← Ny218.out] at ho23 | (simp only [Int.reduceToNat] at ho23; rw [← Ny218.out] at ho23)); have HO220 := Aside0.mk (Kd.R_lower ho23 (keep_size (w := w) (g := g) (row := none) (uK HK))); replace BK208 := Aside0.mk (blk_below (uk BK208) hb); replace HB := Aside0.mk (below_step (uB HB) hb); replace HI0 := Aside0.mk (IsS83.below (uI HI0) hb); replace HK := Aside0.mk (KeepBut.trans (uK HK) (KeepBut.of_below hb g none) (.inl rfl)); clear hb ho23; have hcv24 := own_string (P := Try.prog) Try.underlying67 Try.underlying5 Try.underlying9 (Kd.own_of_R HO220.out)))
         go_roundg k1
         case measure => have := HK1.out; omega
         case rel => exact ⟨(x5_1 ++ (strOfNums y218)), ((x6_1 + 1) % 256), (t216), (t217), uS, uS, H', ⟨by have := HK1.out; omega⟩, ⟨uk BK208⟩, ⟨uI HI0⟩, ⟨uK HK⟩, ⟨uB HB⟩⟩
        ·rw [if_neg c20] at H
         exact absurd H (by simp)
       ·replace c19 := Bool.eq_false_iff.mpr c19
        subst c19
        have H1 : (cippuskit_squareOf.l0 k1 a1 x5_1 ((x6_1 + 1) % 256) t216 t217) = some (r1, r2, r3, r4, r5, r6) := by rw [if_neg (show ¬ (false = true) by decide)] at H; exact H
        clear H
        have H := H1
        clear H1
        have H' := Aside0.mk H
        clear H
        go_wp2_with (first | (go_at_call 31; (with_reducible refine (cippuskit_Urn_Odds.calls g x1000_1 x1001_1 1 4 false t216 t217 w0 _ ?side1 ?side2 A18.out).mono ?_); (case side1 => exact uI HI0); (case side2 => exact uB HB); rintro e w25 ⟨rfl, hi, hb, hk⟩; replace BK208 := Aside0.mk (KeepBut.blk hk (uk BK208) NB208_0.out (by simp)); replace HK := Aside0.mk (KeepBut.trans (uK HK) hk (.inl rfl)); replace HB := Aside0.mk (hb); replace HI0 := Aside0.mk (hi); (try clear hb); (try clear hb2); (try clear hk); (try clear hi)))
        go_roundg k1
        case measure => have := HK1.out; omega
        case rel => exact ⟨(x5_1), ((x6_1 + 1) % 256), (t216), (t217), uS, uS, H', ⟨by have := HK1.out; omega⟩, ⟨uk BK208⟩, ⟨uI HI0⟩, ⟨uK HK⟩, ⟨uB HB⟩⟩
     ·rw [if_neg c12] at H
      have c12b0 : decide (x6_1 ≤ 74) = false := decide_eq_false c12
      clear c12
      simp only [Option.some.injEq, Prod.mk.injEq] at H
      obtain ⟨rfl, rfl, rfl, rfl, rfl, rfl⟩ := H
      have hnb26 := NB208_0.out
      have hnc26 := NB0_208.out
      have hcz27_0 := uc (w := wr) BK208 0
      have hcz27_1 := uc (w := wr) BK208 1
      have hcz27_2 := uc (w := wr) BK208 2
      have hcz27_3 := uc (w := wr) BK208 3
      have hfz27_0 := blk_frozen BK208.out 0
      have hfz27_1 := blk_frozen BK208.out 1
      have hfz27_2 := blk_frozen BK208.out 2
      have hfz27_3 := blk_frozen BK208.out 3
      go_wp2
      refine bodyPost_ret (results_cell_row rfl _ _ gb208 49 #[.string x5_1, .bool false, .int .i64 0, .int .i64 0] (0, 0) _ rfl (by (with_reducible repeat (first | refine blk_drewN ?_ _ | refine blk_drew ?_ | refine blk_alloc ?_ _)); refine blk_put (cs := #[.string x5_1, .bool false, .int .i64 0, .int .i64 0]) ?_ 3 _ rfl; (with_reducible repeat (first | refine blk_drewN ?_ _ | refine blk_drew ?_ | refine blk_alloc ?_ _)); refine blk_put (cs := #[.string x5_1, .bool false, .int .i64 0, .int .i64 0]) ?_ 2 _ rfl; (with_reducible repeat (first | refine blk_drewN ?_ _ | refine blk_drew ?_ | refine blk_alloc ?_ _)); refine blk_put (cs := #[.string x5_1, .bool false, .int .i64 0, .int .i64 0]) ?_ 1 _ rfl; (with_reducible repeat (first | refine blk_drewN ?_ _ | refine blk_drew ?_ | refine blk_alloc ?_ _)); refine blk_put (cs := #[.string (⟨#[]⟩ : ByteArray), .bool false, .int .i64 0, .int .i64 0]) ?_ 0 _ rfl; (with_reducible repeat (first | refine blk_drewN ?_ _ | refine blk_drew ?_ | refine blk_alloc ?_ _)); exact BK208.out) Try.underlying49 rfl (by kernel_rfl)) rfl ?_
      exact ⟨uE, uI HI0, uB HB, uK HK⟩
  ·rw [if_neg c9] at H
   have c9b0 : (t209 == 1) = false := beq_eq_false_iff_ne.mpr c9
   have c9b1 : (t209 != 1) = true := bne_iff_ne.mpr c9
   obtain ⟨y221, hy221⟩ : ∃ y_ : List Int, y_ = (([a1] : List Int)) := ⟨_, rfl⟩
   replace H : (some (strOfNums y221, false, 0, 0, t210, t211)) = some (r1, r2, r3, r4, r5, r6) := by first | (rw [hy221]; with_reducible exact H) | (have H2_ := (Option.bind_some _ _).symm.trans H; rw [hy221]; with_reducible exact H2_) | (have H2_ := (Option.bind_some _ _).symm.trans H; with_reducible exact H2_) | with_reducible exact H | (rw [hy221]; exact H) | exact H
   have Ny221 := Aside0.mk hy221
   clear hy221
   simp only [Option.some.injEq, Prod.mk.injEq] at H
   obtain ⟨rfl, rfl, rfl, rfl, rfl, rfl⟩ := H
   go_enter Try.func74, Try.ntmps74
   go_wp2_with (first | ((with_reducible refine gate_dst (N := 4) rfl ?_); refine box_event ?hg (N := 4) ?hd (cs := #[.string (⟨#[]⟩ : ByteArray), .bool false, .int .i64 0, .int .i64 0]) (t := 49) ?hr ?_; (case hd => rfl); (case hg => rfl); (case hr => first | (go_simp; done) | (go_simp; rfl)); intro gb208 hg w28 hbox hb; replace HB := Aside0.mk (below_step (uB HB) hb); have BK208 := Aside0.mk (hbox); have GW208 := Aside0.mk ((by rw [hg]; exact (keep_size (w := w) (g := g) (row := none) (uK HK)) : w.heap.size ≤ gb208)); have GE208 := Aside0.mk ((Nat.le_trans HW0.out (by rw [hg]; exact (keep_size (w := w) (g := g) (row := none) (uK HK)) : w.heap.size ≤ gb208) : w0.heap.size ≤ gb208)); have NB0_208 := Aside0.mk ((by rw [hg]; exact Nat.ne_of_lt (IsS83.lt (show IsS83 w0 _ g s0_0 s0_1 from uI HI0)) : g ≠ gb208)); have NB208_0 := Aside0.mk ((by rw [hg]; exact Nat.ne_of_gt (IsS83.lt (show IsS83 w0 _ g s0_0 s0_1 from uI HI0)) : gb208 ≠ g)); replace HI0 := Aside0.mk (IsS83.below (uI HI0) hb); replace HK := Aside0.mk (KeepBut.trans (uK HK) (KeepBut.of_below hb g none) (.inl rfl)); clear hb hbox hg) | ((with_reducible refine gate_callee (f := 30) rfl ?_); refine goesL_ (some 8) rfl rfl Try.func30 (by kernel_rfl) rfl #[.pointer (some ⟨g, 0, none⟩), .int .i64 4] rfl uA ?_; (with_reducible refine (cippuskit_Urn_Up.calls g s0_0 s0_1 4 t209 t210 t211 w0 _ ?side1 ?side2 A3.out).mono ?_); (case side1 => exact uI HI0); (case side2 => exact uB HB); rintro e w29 ⟨rfl, hi, hb, hk⟩; refine ⟨_, rfl, ?_⟩; replace BK208 := Aside0.mk (KeepBut.blk hk (uk BK208) NB208_0.out (by simp)); replace HK := Aside0.mk (KeepBut.trans (uK HK) hk (.inl rfl)); replace HB := Aside0.mk (hb); replace HI0 := Aside0.mk (hi); (try clear hb); (try clear hb2); (try clear hk); (try clear hi)) | ((with_reducible refine gate_dst (N := 33) rfl ?_); refine Kd.R_lit (Kd.int .u8) _ 5 ?hg (N := 33) ?hd (xs := ([a1] : List Int)) (inner := [.int .u8 a1]) (ok := fun _ => True) (okp := fun _ => True) ?hr ?hp (fun _ hk => hk) trivial (Below.refl _ _) (Nat.le_refl _) (by simp) ?_; (case hd => rfl); (case hg => rfl); (case hr => first | (go_simp; done) | (go_simp; rfl)); (case hp => exact (Reps.one (show Kd.M (Kd.int .u8) _ _ _ a1 [.int .u8 a1] from rfl) (Reps.none _ _))); intro v222 w30 ho31 hb hg_ hnew_; clear hg_ hnew_; (first | rw [← Ny221.out] at ho31 | (simp only [Int.reduceToNat] at ho31; rw [← Ny221.out] at ho31)); have HO223 := Aside0.mk (Kd.R_lower ho31 (keep_size (w := w) (g := g) (row := none) (uK HK))); replace BK208 := Aside0.mk (blk_below (uk BK208) hb); replace HB := Aside0.mk (below_step (uB HB) hb); replace HI0 := Aside0.mk (IsS83.below (uI HI0) hb); replace HK := Aside0.mk (KeepBut.trans (uK HK) (KeepBut.of_below hb g none) (.inl rfl)); clear hb ho31; have hcv32 := own_string (P := Try.prog) Try.underlying67 Try.underlying5 Try.underlying9 (Kd.own_of_R HO223.out); have hnb33 := NB208_0.out; have hnc33 := NB0_208.out; have hcz34_0 := uc (w := w30) BK208 0; have hcz34_1 := uc (w := w30) BK208 1; have hcz34_2 := uc (w := w30) BK208 2; have hcz34_3 := uc (w := w30) BK208 3; have hfz34_0 := blk_frozen BK208.out 0; have hfz34_1 := blk_frozen BK208.out 1; have hfz34_2 := blk_frozen BK208.out 2; have hfz34_3 := blk_frozen BK208.out 3))
   refine bodyPost_ret (results_cell_row rfl _ _ gb208 49 #[.string (strOfNums y221), .bool false, .int .i64 0, .int .i64 0] (0, 0) _ rfl (by (with_reducible repeat (first | refine blk_drewN ?_ _ | refine blk_drew ?_ | refine blk_alloc ?_ _)); refine blk_put (cs := #[.string (strOfNums y221), .bool false, .int .i64 0, .int .i64 0]) ?_ 3 _ rfl; (with_reducible repeat (first | refine blk_drewN ?_ _ | refine blk_drew ?_ | refine blk_alloc ?_ _)); refine blk_put (cs := #[.string (strOfNums y221), .bool false, .int .i64 0, .int .i64 0]) ?_ 2 _ rfl; (with_reducible repeat (first | refine blk_drewN ?_ _ | refine blk_drew ?_ | refine blk_alloc ?_ _)); refine blk_put (cs := #[.string (strOfNums y221), .bool false, .int .i64 0, .int .i64 0]) ?_ 1 _ rfl; (with_reducible repeat (first | refine blk_drewN ?_ _ | refine blk_drew ?_ | refine blk_alloc ?_ _)); refine blk_put (cs := #[.string (⟨#[]⟩ : ByteArray), .bool false, .int .i64 0, .int .i64 0]) ?_ 0 _ rfl; (with_reducible repeat (first | refine blk_drewN ?_ _ | refine blk_drew ?_ | refine blk_alloc ?_ _)); exact BK208.out) Try.underlying49 rfl (by kernel_rfl)) rfl ?_
   exact ⟨uE, uI HI0, uB HB, uK HK⟩
end Go.Proofs.Ytkfebceainedfaa.P
namespace Go.Proofs.Ytkfebceainedfaa.P.OwnUrn
open Go.RowKit Go.Proofs.YtkfebceainedfaaW.PrintWords Go.Proofs.YtkfebceainedfaaW.PrintLast Go.Proofs.YtkfebceainedfaaW.PrintMore
open Go.Proofs.Ytkfebceainedfaa.P.OwnGap
set_option linter.unusedVariables false
set_option linter.unusedSimpArgs false
theorem rowGo_ok : ∀ (n : Nat) (l : List Bool) (s : St), ∃ r s', rowGo n l s = some (r, s') ∧ r.length = l.length + n
 | 0, l, s => ⟨l, s, rfl, rfl⟩
 | n + 1, l, s => by
  obtain ⟨v, a, b, e⟩ := odds_ok s.1 s.2 1 2 (by decide)
  obtain ⟨r, s', h, hl⟩ := rowGo_ok n (l ++ [v]) (a, b)
  refine ⟨r, s', ?_, by rw [hl, List.length_append, List.length_singleton]; omega⟩
  rw [rowGo, e]
  exact h
theorem formsGo_ok (f : Nat) : ∀ (n : Nat) (F L : List Bool) (N : List (List Bool)) (s : St), (∀ x ∈ N, x.length = f) →
  ∃ F' L' N' s', formsGo f n F L N s = some (F', L', N', s') ∧ F'.length = F.length + n ∧ L'.length = L.length + n ∧ N'.length = N.length + n ∧ ∀ x ∈ N', x.length = f
 | 0, F, L, N, s, h => ⟨F, L, N, s, rfl, rfl, rfl, rfl, h⟩
 | n + 1, F, L, N, s, h => by
  obtain ⟨v, a, b, e⟩ := odds_ok s.1 s.2 2 3 (by decide)
  obtain ⟨v2, a2, b2, e2⟩ := odds_ok a b 2 3 (by decide)
  obtain ⟨r, s3, e3, hr⟩ := rowGo_ok f [] (a2, b2)
  obtain ⟨F', L', N', s', h1, h2, h3, h4, h5⟩ := formsGo_ok f n (F ++ [v]) (L ++ [v2]) (N ++ [r]) s3 (fun x hx => by
   rcases List.mem_append.1 hx with hx | hx
   ·exact h x hx
   ·rw [List.mem_singleton] at hx
    rw [hx, hr]
    simp)
  refine ⟨F', L', N', s', ?_, ?_, ?_, ?_, h5⟩
  ·rw [formsGo, e, Option.bind_some, e2, Option.bind_some, e3]
   exact h1
  all_goals
   rw [List.length_append, List.length_singleton] at *
   omega
theorem bt_append_lt {s t : ByteArray} {i : Nat} (h : i < s.size) : bt (s ++ t) (i : Int) = bt s (i : Int) := by
 unfold bt
 simp [ByteArray.get!, ByteArray.data_append, Array.getElem?_append, h, getElem!_def]
 omega
theorem last_byte (s : ByteArray) (u : UInt8) (hh : s.size < (s ++ (⟨#[u]⟩ : ByteArray)).size) : (s ++ (⟨#[u]⟩ : ByteArray))[s.size]'hh = u := by
 have h2 : (s ++ (⟨#[u]⟩ : ByteArray)).data = s.data ++ #[u] := ByteArray.data_append
 show (s ++ (⟨#[u]⟩ : ByteArray)).data[s.data.size]'hh = u
 simp only [h2]
 simp only [Array.append_singleton]
 first | exact Array.getElem_push_eq | simp [Array.getElem_push]
theorem bt_append_last {s : ByteArray} {c : Int} (h0 : 0 ≤ c) (h1 : c ≤ 255) : bt (s ++ strOfNums [c]) (s.size : Int) = c := by
 have hh : s.size < (s ++ (⟨#[UInt8.ofNat c.toNat]⟩ : ByteArray)).size := by rw [ByteArray.size_append]; show _ < _ + 1; omega
 have e := last_byte s (UInt8.ofNat c.toNat) hh
 unfold bt
 rw [dif_pos (by rw [Int.toNat_natCast]; exact hh)]
 simp only [Int.toNat_natCast]
 show ((s ++ (⟨#[UInt8.ofNat c.toNat]⟩ : ByteArray))[s.size].toNat : Int) = c
 rw [e]
 simp
 omega
theorem size_one (c : Int) : (strOfNums [c]).size = 1 := by simp [strOfNums, ByteArray.size]
def smallB (a : Int) : Bool := inB a 65 74
def textJ (s : ByteArray) : Bool := (List.range s.size).all fun i => smallB (bt s (i : Int))
theorem textJ_iff {s : ByteArray} : textJ s = true ↔ ∀ i : Nat, i < s.size → 65 ≤ bt s (i : Int) ∧ bt s (i : Int) ≤ 74 := by
 unfold textJ
 rw [range_all]
 exact ⟨fun h i hi => inB_true.1 (h i hi), fun h i hi => inB_true.2 (h i hi)⟩
theorem textJ_B {s : ByteArray} (h : textJ s = true) : textB s = true := by
 unfold textB
 rw [range_all]
 intro i hi
 have := textJ_iff.1 h i hi
 exact inB_true.2 ⟨this.1, by omega⟩
theorem letter_small {c : Int} (h : c ∈ [65, 66, 66, 73]) : smallB (IntKind.u8.wrap c) = true := by
 simp only [List.mem_cons, List.mem_nil_iff, or_false] at h
 rcases h with rfl | rfl | rfl | rfl <;> decide
theorem text_step {t : ByteArray} {c : Int} (ht : textJ t = true) (h : c ∈ [65, 66, 66, 73]) : textJ (t ++ strOfNums [IntKind.u8.wrap c]) = true := by
 have hc := inB_true.1 (letter_small h)
 unfold textJ at ht ⊢
 rw [range_all] at ht ⊢
 intro i hi
 rw [ByteArray.size_append, size_one] at hi
 rcases Nat.lt_or_ge i t.size with h2 | h2
 ·rw [bt_append_lt h2]
  exact ht i h2
 ·obtain rfl : i = t.size := by omega
  rw [bt_append_last (by omega) (by omega)]
  exact letter_small h
theorem textGo_ok : ∀ (n : Nat) (t : ByteArray) (s : St), textJ t = true → ∃ t' s', textGo n t s = some (t', s') ∧ t'.size = t.size + n ∧ textJ t' = true
 | 0, t, s, h => ⟨t, s, rfl, rfl, h⟩
 | n + 1, t, s, h => by
  obtain ⟨v, a, b, e, hv⟩ := any_ok s.1 s.2 [65, 66, 66, 73] (by decide) (by decide)
  obtain ⟨t', s', h1, h2, h3⟩ := textGo_ok n (t ++ strOfNums [IntKind.u8.wrap v]) (a, b) (text_step h hv)
  refine ⟨t', s', ?_, by rw [h2, ByteArray.size_append, size_one]; omega, h3⟩
  rw [textGo, e]
  exact h1
structure WOk (F L : Nat) (l : List S53) : Prop where
 wd : ∀ x ∈ l, (1 ≤ x.f0.size ∧ x.f0.size ≤ L) ∧ textJ x.f0 = true ∧ 0 ≤ x.f1 ∧ x.f1 < F
 ne : l.Pairwise (fun a b => sameW a b = false)
theorem wordsGo_ok (F L : Nat) (hF : 1 ≤ F ∧ F ≤ 900) (hL : 1 ≤ L ∧ L ≤ 800) : ∀ (n : Nat) (l : List S53) (s : St), WOk F L l → ∃ r s', wordsGo (F : Int) (L : Int) n l s = some (r, s') ∧ WOk F L r ∧ r.length ≤ l.length + n ∧ (0 < l.length + n → 0 < r.length)
 | 0, l, s, h => ⟨l, s, rfl, h, Nat.le_refl _, fun h => by simpa using h⟩
 | n + 1, l, s, h => by
  obtain ⟨v, a, b, e, hv0, hv1⟩ := up_ok s.1 s.2 (F : Int) (by omega)
  obtain ⟨k, a2, b2, e2, hk0, hk1⟩ := from_ok a b 1 (L : Int) (by decide) (by decide) (by omega) (by omega)
  obtain ⟨t, s3, e3, ht1, ht2⟩ := textGo_ok k.toNat ⟨#[]⟩ (a2, b2) rfl
  have hts : t.size = k.toNat := by rw [ht1]; show 0 + _ = _; omega
  have hg : wordsGo (F : Int) (L : Int) (n + 1) l s = wordsGo (F : Int) (L : Int) n (if l.any (fun x => sameW x ⟨t, v⟩) = true then l else l ++ [⟨t, v⟩]) s3 := by
   rw [wordsGo, e, Option.bind_some]
   simp only
   rw [e2, Option.bind_some, e3]
   rfl
  by_cases hb : l.any (fun x => sameW x ⟨t, v⟩) = true
  ·rw [if_pos hb] at hg
   obtain ⟨r, s', h1, h2, h3, h4⟩ := wordsGo_ok F L hF hL n l s3 h
   have hl : 0 < l.length := by
    cases l with
    | nil => simp at hb
    | cons => simp
   exact ⟨r, s', by rw [hg]; exact h1, h2, by omega, fun _ => h4 (by omega)⟩
  ·rw [if_neg hb] at hg
   have hw : WOk F L (l ++ [⟨t, v⟩]) := by
    refine ⟨fun x hx => ?_, ?_⟩
    ·rcases List.mem_append.1 hx with hx | hx
     ·exact h.wd x hx
     ·rw [List.mem_singleton] at hx
      subst hx
      exact ⟨⟨by simp only; omega, by simp only; omega⟩, ht2, hv0, by simp only; omega⟩
    ·rw [List.pairwise_append]
     refine ⟨h.ne, List.pairwise_singleton _ _, fun x hx y hy => ?_⟩
     rw [List.mem_singleton] at hy
     subst hy
     rw [Bool.eq_false_iff]
     exact fun e => hb (List.any_eq_true.2 ⟨x, hx, e⟩)
   obtain ⟨r, s', h1, h2, h3, h4⟩ := wordsGo_ok F L hF hL n _ s3 hw
   rw [List.length_append, List.length_singleton] at h3 h4
   exact ⟨r, s', by rw [hg]; exact h1, h2, by omega, fun _ => h4 (by omega)⟩
theorem span_ok (s : St) (m : Int) (hm : m ∈ [2, 6]) : ∃ a b s', cippuskit_Urn_Span.f s.1 s.2 1 m = some (a, b, s') ∧ 1 ≤ a ∧ a ≤ b ∧ b ≤ 6 := by
 have h6 : 2 ≤ m ∧ m ≤ 6 := by
  simp only [List.mem_cons, List.mem_nil_iff, or_false] at hm
  omega
 obtain ⟨v, a, b, e, h0, h1⟩ := from_ok s.1 s.2 1 m (by decide) (by decide) (by omega) (by omega)
 obtain ⟨v2, a2, b2, e2, h2, h3⟩ := up_ok a b 3 (by decide)
 obtain ⟨v3, a3, b3, e3, h4, h5⟩ := up_ok a2 b2 6 (by decide)
 obtain ⟨v4, a4, b4, e4, h7, h8⟩ := from_ok a3 b3 v m (by omega) (by omega) (by omega) (by omega)
 obtain ⟨v5, a5, b5, e5, h9⟩ := any_ok a4 b4 [v, mn m (wrap64 (v + v2)), mn m (wrap64 (v + v3)), v4] (by simp) (by simp)
 refine ⟨v, v5, (a5, b5), ?_, h0, ?_⟩
 ·unfold cippuskit_Urn_Span.f
  rw [e, Option.bind_some, e2, Option.bind_some, e3, Option.bind_some, e4, Option.bind_some, e5, Option.bind_some]
 ·have w2 : wrap64 (v + v2) = v + v2 := by simp [wrap64]; omega
  have w3 : wrap64 (v + v3) = v + v3 := by simp [wrap64]; omega
  rw [w2, w3] at h9
  have hmn : ∀ x y : Int, mn x y = x ∧ x ≤ y ∨ mn x y = y ∧ y ≤ x := fun x y => by unfold mn; split <;> omega
  simp only [List.mem_cons, List.mem_nil_iff, or_false] at h9
  rcases hmn m (v + v2) with ⟨q, q'⟩ | ⟨q, q'⟩ <;> rcases hmn m (v + v3) with ⟨p, p'⟩ | ⟨p, p'⟩ <;> rw [q, p] at h9 <;> omega
theorem widGo_ok : ∀ (n : Nat) (l : List S47) (s : St), (∀ x ∈ l, 1 ≤ x.f0 ∧ x.f0 ≤ x.f1 ∧ x.f1 ≤ 6) → ∃ r s', widGo n l s = some (r, s') ∧ r.length = l.length + n ∧ ∀ x ∈ r, 1 ≤ x.f0 ∧ x.f0 ≤ x.f1 ∧ x.f1 ≤ 6
 | 0, l, s, h => ⟨l, s, rfl, rfl, h⟩
 | n + 1, l, s, h => by
  obtain ⟨v, a, b, e, hv⟩ := any_ok s.1 s.2 [2, 6] (by decide) (by decide)
  obtain ⟨x, y, s2, e2, h1, h2, h3⟩ := span_ok (a, b) v hv
  obtain ⟨r, s', h4, h5, h6⟩ := widGo_ok n (l ++ [⟨x, y⟩]) s2 (fun z hz => by
   rcases List.mem_append.1 hz with hz | hz
   ·exact h z hz
   ·rw [List.mem_singleton] at hz
    subst hz
    exact ⟨h1, h2, h3⟩)
  refine ⟨r, s', ?_, by rw [h5, List.length_append, List.length_singleton]; omega, h6⟩
  rw [widGo, e, Option.bind_some]
  simp only
  rw [show cippuskit_Urn_Span.f a b 1 v = some (x, y, s2) from e2]
  exact h4
theorem firstF_all {f : Nat → Int} {R : Int} : ∀ (rem i : Nat), (∀ j, i ≤ j → j < i + rem → f j = 0) → firstF f R rem i = R
 | 0, i, h => rfl
 | rem + 1, i, h => by
  unfold firstF
  rw [if_pos (h i (Nat.le_refl _) (by omega))]
  exact firstF_all rem (i + 1) (fun j h1 h2 => h j (by omega) (by omega))
theorem get53 {l : List S53} {i : Nat} (h : i < l.length) : rd_T53 l (i : Int) = l[i] := by simp [rd_T53, List.getD_eq_getElem?_getD, h]
theorem wordV_ok {F L i : Nat} {l : List S53} (hF : 1 ≤ F) (hL : L ≤ 8) (h : WOk F L l) (hi : i < l.length) : wordV l F i = 0 := by
 obtain ⟨⟨h1, h2⟩, h3, h4, h5⟩ := h.wd l[i] (List.getElem_mem hi)
 unfold wordV
 rw [get53 hi, ifF (inB_true.2 ⟨by omega, by omega⟩), ifF (textJ_B h3), ifF (inB_true.2 ⟨h4, by omega⟩), if_neg]
 intro e
 obtain ⟨x, hx, hs⟩ := List.any_eq_true.1 e
 obtain ⟨j, hj, rfl⟩ := List.mem_take_iff_getElem.1 hx
 have hp := List.pairwise_iff_getElem.1 h.ne j i (by omega) hi (by omega)
 rw [sameW_comm, hp] at hs
 cases hs
theorem checkV_ok {F L : Nat} {l0 : List S53} {l1 l2 : List Bool} {l3 : List (List Bool)} {l4 : List S47} (hF : 1 ≤ F ∧ F ≤ 5) (hL : L ≤ 8) (h1 : l1.length = F) (h2 : l2.length = F) (h3 : l3.length = F) (h3r : ∀ x ∈ l3, x.length = F) (h0 : WOk F L l0) (h0l : 0 < l0.length ∧ l0.length ≤ 12) (h4 : l4.length = 26) (h4r : ∀ x ∈ l4, 1 ≤ x.f0 ∧ x.f0 ≤ x.f1 ∧ x.f1 ≤ 6) : checkV l0 l1 l2 l3 l4 = 0 := by
 unfold checkV
 rw [if_neg (by omega), if_neg (by omega), if_neg (by omega), if_neg (by omega), firstF_all _ _ (fun j _ hj => ?_), if_neg (by omega), if_neg (by omega), firstF_all _ _ (fun j _ hj => ?_), if_neg (by omega), firstF_all _ _ (fun j _ hj => ?_)]
 ·have hj2 : j < l4.length := by omega
  have e : rd_T47 l4 (j : Int) = l4[j] := by simp [rd_T47, List.getD_eq_getElem?_getD, hj2]
  obtain ⟨g1, g2, g3⟩ := h4r l4[j] (List.getElem_mem hj2)
  unfold spanAt spanV
  rw [e, inB_true.2 ⟨g1, by omega⟩, inB_true.2 ⟨by omega, by omega⟩, if_neg (by decide), if_neg (by omega)]
 ·rw [h1]
  exact wordV_ok hF.1 hL h0 (by omega)
 ·have hj2 : j < l3.length := by omega
  have e : rd_L1 l3 (j : Int) = l3[j] := by simp [rd_L1, List.getD_eq_getElem?_getD, hj2]
  unfold formAt
  rw [e, h3r l3[j] (List.getElem_mem hj2), h1, if_pos rfl]
theorem lexiconOf_ok (s0 s1 : Int) (W L : Nat) (hW : 1 ≤ W ∧ W ≤ 12) (hL : 1 ≤ L ∧ L ≤ 8) : ∃ (F : Nat) (r1 : List S53) (r2 r3 : List Bool) (r4 : List (List Bool)) (r5 : List S47) (r6 r7 : Int), lexiconOf s0 s1 (W : Int) (L : Int) = some (r1, r2, r3, r4, r5, r6, r7) ∧ (1 ≤ F ∧ F ≤ 3) ∧ r2.length = F ∧ r3.length = F ∧ r4.length = F ∧ (∀ x ∈ r4, x.length = F) ∧ WOk F L r1 ∧ (0 < r1.length ∧ r1.length ≤ W) ∧ r5.length = 26 ∧ ∀ x ∈ r5, 1 ≤ x.f0 ∧ x.f0 ≤ x.f1 ∧ x.f1 ≤ 6 := by
 obtain ⟨v, a, b, e, h0, h1⟩ := from_ok s0 s1 1 3 (by decide) (by decide) (by decide) (by decide)
 obtain ⟨F, rfl⟩ : ∃ F : Nat, v = (F : Int) := ⟨v.toNat, by omega⟩
 obtain ⟨F', L', N', sT, g1, g2, g3, g4, g5⟩ := formsGo_ok F F [] [] [] (a, b) (fun x hx => by simp at hx)
 obtain ⟨n, a2, b2, e2, h2, h3⟩ := from_ok sT.1 sT.2 1 (W : Int) (by decide) (by decide) (by omega) (by omega)
 obtain ⟨wl, sW, k1, k2, k3, k4⟩ := wordsGo_ok F L (by omega) (by omega) n.toNat [] (a2, b2) ⟨fun x hx => by simp at hx, List.Pairwise.nil⟩
 obtain ⟨dl, sD, d1, d2, d3⟩ := widGo_ok 26 [] sW (fun x hx => by simp at hx)
 simp only [List.length_nil, Nat.zero_add] at g2 g3 g4 k3 k4 d2
 refine ⟨F, wl, F'.set 0 true, L'.set (F - 1) true, N', dl, sD.1, sD.2, ?_, by omega, by rw [List.length_set]; exact g2, by rw [List.length_set]; exact g3, g4, g5, k2, ⟨k4 (by omega), by omega⟩, d2, d3⟩
 unfold lexiconOf
 rw [if_pos (by omega), e, Option.bind_some]
 simp only [Int.toNat_natCast]
 rw [g1, Option.bind_some, e2, Option.bind_some]
 simp only
 rw [k1, Option.bind_some, d1, Option.bind_some]
theorem lexiconOf_check {F W L : Nat} {r1 : List S53} {r2 r3 : List Bool} {r4 : List (List Bool)} {r5 : List S47} (hW : W ≤ 12) (hL : L ≤ 8) (hF : 1 ≤ F ∧ F ≤ 3) (h2 : r2.length = F) (h3 : r3.length = F) (h4 : r4.length = F) (h4r : ∀ x ∈ r4, x.length = F) (h1 : WOk F L r1) (h1l : 0 < r1.length ∧ r1.length ≤ W) (h5 : r5.length = 26) (h5r : ∀ x ∈ r5, 1 ≤ x.f0 ∧ x.f0 ≤ x.f1 ∧ x.f1 ≤ 6) : checkV r1 r2 r3 r4 r5 = 0 :=
 checkV_ok (by omega) hL h2 h3 h4 h4r h1 (by omega) h5 h5r
end Go.Proofs.Ytkfebceainedfaa.P.OwnUrn
namespace Go.Proofs.Ytkfebceainedfaa.P.OwnUrn
open Go.RowKit Go.Proofs.YtkfebceainedfaaW.PrintWords Go.Proofs.YtkfebceainedfaaW.PrintLast Go.Proofs.YtkfebceainedfaaW.PrintMore
open Go.Proofs.Ytkfebceainedfaa.P.OwnGap
set_option linter.unusedVariables false
set_option linter.unusedSimpArgs false
def EvP {α : Type} (g : Nat → Option α) (P : α → Prop) : Prop := ∃ r, Ev g r ∧ P r
theorem EvP.now {α : Type} {P : α → Prop} {r : α} (h : P r) : EvP (fun _ => some r) P := ⟨r, Ev.now r, h⟩
theorem EvP.step {α : Type} {P : α → Prop} {g f : Nat → Option α} (h : ∀ k, g (k + 1) = f k) (k : EvP f P) : EvP g P := by
 obtain ⟨r, h1, h2⟩ := k
 exact ⟨r, Ev.step h h1, h2⟩
theorem EvP.congr {α : Type} {P : α → Prop} {g f : Nat → Option α} (h : ∀ k, g k = f k) (k : EvP f P) : EvP g P := by
 obtain ⟨r, h1, h2⟩ := k
 exact ⟨r, Ev.congr h h1, h2⟩
theorem EvP.pos {α : Type} {P : α → Prop} {c : Prop} [Decidable c] {g f : Nat → Option α} (hc : c) (h : EvP g P) : EvP (fun k => if c then g k else f k) P := by
 obtain ⟨r, h1, h2⟩ := h
 exact ⟨r, Ev.if_pos' hc h1, h2⟩
theorem EvP.neg {α : Type} {P : α → Prop} {c : Prop} [Decidable c] {g f : Nat → Option α} (hc : ¬ c) (h : EvP f P) : EvP (fun k => if c then g k else f k) P := by
 obtain ⟨r, h1, h2⟩ := h
 exact ⟨r, Ev.if_neg' hc h1, h2⟩
theorem EvP.bind {α β : Type} {P : β → Prop} {g : Nat → Option α} {f : Nat → α → Option β} {a : α} (h : Ev g a) (k : EvP (fun n => f n a) P) : EvP (fun n => (g n).bind (f n)) P := by
 obtain ⟨r, h1, h2⟩ := k
 exact ⟨r, Ev.bind h h1, h2⟩
theorem EvP.draw {α β : Type} {P : β → Prop} {o : Option α} {f : Nat → α → Option β} {a : α} (h : o = some a) (k : EvP (fun n => f n a) P) : EvP (fun n => o.bind (f n)) P := by
 subst h
 exact k
theorem EvP.then {α β : Type} {P : β → Prop} {Q : α → Prop} {g : Nat → Option α} {f : Nat → α → Option β} (h : EvP g Q) (k : ∀ a, Q a → EvP (fun n => f n a) P) : EvP (fun n => (g n).bind (f n)) P := by
 obtain ⟨a, h1, h2⟩ := h
 exact EvP.bind h1 (k a h2)
theorem EvP.imp {α : Type} {P Q : α → Prop} {g : Nat → Option α} (h : EvP g P) (k : ∀ a, P a → Q a) : EvP g Q := by
 obtain ⟨a, h1, h2⟩ := h
 exact ⟨a, h1, k a h2⟩
structure MLx (X : Lx) (F L : Nat) : Prop where
 f : 1 ≤ F ∧ F ≤ 3
 l : 1 ≤ L ∧ L ≤ 5
 h1 : X.l1.length = F
 h2 : X.l2.length = F
 h3 : X.l3.length = F
 h3r : ∀ x ∈ X.l3, x.length = F
 w : WOk F L X.l0
 n : 0 < X.l0.length ∧ X.l0.length ≤ 12
 h4 : X.l4.length = 26
 h4r : ∀ x ∈ X.l4, 1 ≤ x.f0 ∧ x.f0 ≤ x.f1 ∧ x.f1 ≤ 6
theorem MLx.row {X : Lx} {F L : Nat} (h : MLx X F L) (r : List S49) : MLx ⟨X.l0, X.l1, X.l2, X.l3, X.l4, r⟩ F L := ⟨h.f, h.l, h.h1, h.h2, h.h3, h.h3r, h.w, h.n, h.h4, h.h4r⟩
theorem MLx.check {X : Lx} {F L : Nat} (h : MLx X F L) : checkV X.l0 X.l1 X.l2 X.l3 X.l4 = 0 :=
 lexiconOf_check (W := 12) (L := L) (by omega) (by have := h.l; omega) h.f h.h1 h.h2 h.h3 h.h3r h.w ⟨h.n.1, h.n.2⟩ h.h4 h.h4r
theorem mem53 {l : List S53} {u : Int} (h : 0 ≤ u ∧ u < (l.length : Int)) : rd_T53 l u ∈ l := by
 obtain ⟨i, rfl⟩ : ∃ i : Nat, u = (i : Int) := ⟨u.toNat, by omega⟩
 rw [get53 (by omega)]
 exact List.getElem_mem _
theorem MLx.word {X : Lx} {F L : Nat} (h : MLx X F L) {u : Int} (hu : 0 ≤ u ∧ u < (X.l0.length : Int)) : (1 ≤ (rd_T53 X.l0 u).f0.size ∧ (rd_T53 X.l0 u).f0.size ≤ L) ∧ textJ (rd_T53 X.l0 u).f0 = true ∧ 0 ≤ (rd_T53 X.l0 u).f1 ∧ (rd_T53 X.l0 u).f1 < F := h.w.wd _ (mem53 hu)
theorem MLx.next {X : Lx} {F L : Nat} (h : MLx X F L) {f : Int} (hf : 0 ≤ f ∧ f < F) : ((rd_L1 X.l3 f).length : Int) = F := by
 obtain ⟨i, rfl⟩ : ∃ i : Nat, f = (i : Int) := ⟨f.toNat, by omega⟩
 have hi : i < X.l3.length := by have := h.h3; omega
 have e : rd_L1 X.l3 (i : Int) = X.l3[i] := by simp [rd_L1, List.getD_eq_getElem?_getD, hi]
 rw [e, h.h3r _ (List.getElem_mem hi)]
theorem mayAll_snoc (X : Lx) (u : Int) : ∀ (l : List Int) (k : Nat) (f : Int), mayAll X k f (l ++ [u]) = (mayAll X k f l).bind fun g => if mayV X (k + l.length) g (rd_T53 X.l0 u).f1 = true then some (rd_T53 X.l0 u).f1 else none
 | [], k, f => rfl
 | a :: l, k, f => by
  rw [List.cons_append, mayAll, mayAll]
  by_cases h : mayV X k f (rd_T53 X.l0 a).f1 = true
  ·rw [if_pos h, if_pos h, mayAll_snoc X u l, List.length_cons, show k + 1 + l.length = k + (l.length + 1) by omega]
  ·rw [if_neg h, if_neg h]
   rfl
structure Tx (X : Lx) (l : List Int) : Prop where
 b : ∀ u ∈ l, 0 ≤ u ∧ u < (X.l0.length : Int)
 m : ∃ f, mayAll X 0 0 l = some f ∧ (l ≠ [] → f = (rd_T53 X.l0 (rd l ((l.length : Int) - 1))).f1)
theorem Tx.nil (X : Lx) : Tx X [] := ⟨by simp, 0, rfl, fun h => absurd rfl h⟩
theorem rd_last (l : List Int) (u : Int) : rd (l ++ [u]) (((l ++ [u]).length : Int) - 1) = u := by
 rw [List.length_append, List.length_singleton, show (((l.length + 1 : Nat) : Int) - 1) = (l.length : Int) by omega]
 simp [rd, List.getD_eq_getElem?_getD]
theorem Tx.snoc {X : Lx} {l : List Int} {u : Int} (h : Tx X l) (hl : l.length < 8) (hu : 0 ≤ u ∧ u < (X.l0.length : Int)) (h1 : l = [] → rdOf false X.l1 (rd_T53 X.l0 u).f1 = true) (h2 : l ≠ [] → rdOf false (rd_L1 X.l3 (rd_T53 X.l0 (rd l ((l.length : Int) - 1))).f1) (rd_T53 X.l0 u).f1 = true) : Tx X (l ++ [u]) := by
 refine ⟨fun v hv => ?_, (rd_T53 X.l0 u).f1, ?_, fun _ => by rw [rd_last]⟩
 ·rcases List.mem_append.1 hv with hv | hv
  ·exact h.b v hv
  ·rw [List.mem_singleton] at hv
   subst hv
   exact hu
 ·obtain ⟨f, hf, hlf⟩ := h.m
  rw [mayAll_snoc, hf, Option.bind_some, if_pos]
  by_cases he : l = []
  ·rw [mayV_zero (by rw [he]; rfl)]
   exact h1 he
  ·have : 0 < l.length := List.length_pos_iff.2 he
   rw [mayV_next (by omega) (by omega), hlf he]
   exact h2 he
theorem Tx.last {X : Lx} {l : List Int} (h : Tx X l) (hl : l ≠ []) : 0 ≤ rd l ((l.length : Int) - 1) ∧ rd l ((l.length : Int) - 1) < (X.l0.length : Int) := by
 have h0 : 0 < l.length := List.length_pos_iff.2 hl
 refine h.b _ ?_
 have e : rd l ((l.length : Int) - 1) = l[l.length - 1]'(by omega) := by
  rw [show ((l.length : Int) - 1) = ((l.length - 1 : Nat) : Int) by omega]
  simp [rd, List.getD_eq_getElem?_getD, List.getElem?_eq_getElem (show l.length - 1 < l.length by omega)]
 rw [e]
 exact List.getElem_mem _
def TxGood (X : Lx) (r : List Int × Bool × Int × Int) : Prop := r.2.1 = true → (∀ u ∈ r.1, 0 ≤ u ∧ u < (X.l0.length : Int)) ∧ (1 ≤ r.1.length ∧ r.1.length ≤ 4) ∧ ∃ f, mayAll X 0 0 r.1 = some f ∧ rdOf false X.l2 f = true
theorem Tx.good {X : Lx} {l : List Int} (h : Tx X l) (hl : l ≠ []) (h4 : l.length ≤ 4) (a b : Int) (hL : rdOf false X.l2 (rd_T53 X.l0 (rd l ((l.length : Int) - 1))).f1 = true) : TxGood X (l, true, a, b) := by
 intro _
 obtain ⟨f, hf, hlf⟩ := h.m
 exact ⟨h.b, ⟨List.length_pos_iff.2 hl, h4⟩, f, hf, by rw [hlf hl]; exact hL⟩
end Go.Proofs.Ytkfebceainedfaa.P.OwnUrn
namespace Go.Proofs.Ytkfebceainedfaa.P.OwnUrn
open Go.RowKit Go.Proofs.YtkfebceainedfaaW.PrintWords Go.Proofs.YtkfebceainedfaaW.PrintLast Go.Proofs.YtkfebceainedfaaW.PrintMore
open Go.Proofs.Ytkfebceainedfaa.P.OwnGap
set_option linter.unusedVariables false
set_option linter.unusedSimpArgs false
def HasB (s : ByteArray) (a : Int) : Prop := ∃ i : Nat, i < s.size ∧ bt s (i : Int) = a
theorem HasB.fit {s : ByteArray} {a : Int} (h : HasB s a) : fitB s a = true := by
 obtain ⟨i, hi, rfl⟩ := h
 unfold fitB
 rw [Bool.or_eq_true]
 right
 rw [List.contains_iff_mem, ← rd_bytesOf]
 have hl : i < (bytesOf s).length := by rw [bytesOf_length]; exact hi
 rw [show rd (bytesOf s) (i : Int) = (bytesOf s)[i] by simp [rd, List.getD_eq_getElem?_getD, List.getElem?_eq_getElem hl]]
 exact List.getElem_mem _
theorem size_snoc (s : ByteArray) (c : Int) : (s ++ strOfNums [c]).size = s.size + 1 := by rw [ByteArray.size_append, size_one]
theorem HasB.old {s : ByteArray} {a : Int} (c : Int) (h : HasB s a) : HasB (s ++ strOfNums [c]) a := by
 obtain ⟨i, hi, e⟩ := h
 exact ⟨i, by rw [size_snoc]; omega, by rw [bt_append_lt hi]; exact e⟩
theorem HasB.new {s : ByteArray} {c : Int} (h0 : 0 ≤ c) (h1 : c ≤ 255) : HasB (s ++ strOfNums [c]) c := ⟨s.size, by rw [size_snoc]; omega, bt_append_last h0 h1⟩
def AscTo (s : ByteArray) (c : Int) : Prop := ∀ i : Nat, i < s.size → ascAt s i = true ∧ bt s (i : Int) < c
theorem AscTo.snoc {s : ByteArray} {c : Int} (h : AscTo s c) (h0 : 65 ≤ c) (h1 : c ≤ 90) : AscTo (s ++ strOfNums [c]) (c + 1) := by
 intro i hi
 rw [size_snoc] at hi
 rcases Nat.lt_or_ge i s.size with h2 | h2
 ·obtain ⟨h3, h4⟩ := h i h2
  refine ⟨?_, by rw [bt_append_lt h2]; omega⟩
  unfold ascAt at h3 ⊢
  rw [bt_append_lt h2]
  rcases Nat.eq_zero_or_pos i with h5 | h5
  ·subst h5
   exact h3
  ·rw [show (i : Int) - 1 = ((i - 1 : Nat) : Int) by omega] at h3 ⊢
   rw [bt_append_lt (by omega)]
   exact h3
 ·obtain rfl : i = s.size := by omega
  rw [bt_append_last (by omega) (by omega)]
  refine ⟨?_, by omega⟩
  unfold ascAt
  rw [bt_append_last (by omega) (by omega), show capB c = true from inB_true.2 ⟨h0, h1⟩, Bool.true_and, Bool.or_eq_true]
  rcases Nat.eq_zero_or_pos s.size with h5 | h5
  ·left
   exact decide_eq_true h5
  ·right
   rw [show (s.size : Int) - 1 = ((s.size - 1 : Nat) : Int) by omega, bt_append_lt (by omega)]
   exact decide_eq_true (h (s.size - 1) (by omega)).2
theorem AscTo.weak {s : ByteArray} {c d : Int} (h : AscTo s c) (hd : c ≤ d) : AscTo s d := fun i hi => ⟨(h i hi).1, by have := (h i hi).2; omega⟩
theorem AscTo.asc {s : ByteArray} {c : Int} (h : AscTo s c) : ascB s = true := range_all.2 fun i hi => (h i hi).1
def SqGood (a : Int) (r : ByteArray × Bool × Int × Int × Int × Int) : Prop := (ascB r.1 = true ∧ fitB r.1 a = true) ∧ r.2.1 = false ∧ r.2.2.1 = 0 ∧ r.2.2.2.1 = 0
set_option maxRecDepth 20000 in
theorem square_l0 (a : Int) (ha : 65 ≤ a ∧ a ≤ 74) : ∀ (m j : Nat) (s : ByteArray) (s0 s1 : Int), j + m = 10 → s.size ≤ j → AscTo s (65 + (j : Int)) → (a < 65 + (j : Int) → HasB s a) → EvP (fun k => cippuskit_squareOf.l0 k a s (65 + (j : Int)) s0 s1) (SqGood a)
 | 0, j, s, s0, s1, hj, hs, hA, hH => by
  refine EvP.step (fun k => by rw [cippuskit_squareOf.l0]) ?_
  exact EvP.neg (by omega) (EvP.now ⟨⟨hA.asc, (hH (by omega)).fit⟩, rfl, rfl, rfl⟩)
 | m + 1, j, s, s0, s1, hj, hs, hA, hH => by
  have e1 : (65 + (j : Int) + 1) % 256 = 65 + ((j + 1 : Nat) : Int) := by omega
  have e2 : (strOfNums [65 + (j : Int)]).size = 1 := size_one _
  refine EvP.step (fun k => by rw [cippuskit_squareOf.l0]) ?_
  refine EvP.pos (by omega) ?_
  rw [e1]
  have hput : ∀ s0 s1, EvP (fun k => cippuskit_squareOf.l0 k a (s ++ strOfNums [65 + (j : Int)]) (65 + ((j + 1 : Nat) : Int)) s0 s1) (SqGood a) := fun s0 s1 =>
   square_l0 a ha m (j + 1) _ s0 s1 (by omega) (by rw [size_snoc]; omega) (by
    have := hA.snoc (by omega) (by omega)
    rw [show 65 + ((j + 1 : Nat) : Int) = 65 + (j : Int) + 1 by omega]
    exact this) (fun h => by
    by_cases h2 : a = 65 + (j : Int)
    ·rw [h2]
     exact HasB.new (by omega) (by omega)
    ·exact (hH (by omega)).old _)
  by_cases he : 65 + (j : Int) = a
  ·refine EvP.pos he (EvP.draw rfl (EvP.pos ?_ (hput s0 s1)))
   rw [e2]
   omega
  ·refine EvP.neg he ?_
   obtain ⟨o, x, y, e⟩ := odds_ok s0 s1 1 4 (by decide)
   refine EvP.draw e ?_
   cases o with
   | true =>
    refine EvP.pos rfl (EvP.draw rfl (EvP.pos ?_ (hput x y)))
    rw [e2]
    omega
   | false =>
    exact EvP.neg (by simp) (square_l0 a ha m (j + 1) s x y (by omega) (by omega) (hA.weak (by omega)) (fun h => hH (by omega)))
theorem square_ev (a : Int) (ha : 65 ≤ a ∧ a ≤ 74) (s0 s1 : Int) : EvP (fun k => cippuskit_squareOf.f k s0 s1 a) (SqGood a) := by
 unfold cippuskit_squareOf.f
 obtain ⟨v, x, y, e, v0, v1⟩ := up_ok s0 s1 4 (by decide)
 refine EvP.draw e ?_
 by_cases h0 : v = 0
 ·exact EvP.pos h0 (EvP.now ⟨⟨rfl, rfl⟩, rfl, rfl, rfl⟩)
 ·refine EvP.neg h0 ?_
  by_cases h1 : v = 1
  ·exact EvP.pos h1 (square_l0 a ha 10 0 ⟨#[]⟩ x y rfl (Nat.le_refl _) (fun i hi => absurd hi (Nat.not_lt_zero _)) (fun h => by omega))
  ·refine EvP.neg h1 (EvP.now ⟨⟨?_, ?_⟩, rfl, rfl, rfl⟩)
   ·have h : AscTo ((⟨#[]⟩ : ByteArray) ++ strOfNums [a]) (a + 1) := AscTo.snoc (fun i hi => absurd hi (Nat.not_lt_zero _)) ha.1 (by omega)
    have e2 : (⟨#[]⟩ : ByteArray) ++ strOfNums [a] = strOfNums [a] := by simp [ByteArray.ext_iff]
    rw [e2] at h
    exact h.asc
   ·have h : HasB ((⟨#[]⟩ : ByteArray) ++ strOfNums [a]) a := HasB.new (by omega) (by omega)
    have e2 : (⟨#[]⟩ : ByteArray) ++ strOfNums [a] = strOfNums [a] := by simp [ByteArray.ext_iff]
    rw [e2] at h
    exact h.fit
theorem MLx.wide {X : Lx} {F L : Nat} (hM : MLx X F L) {a : Int} (ha : 65 ≤ a ∧ a ≤ 90) : 1 ≤ (rd_T47 X.l4 (a - 65)).f0 ∧ (rd_T47 X.l4 (a - 65)).f0 ≤ (rd_T47 X.l4 (a - 65)).f1 ∧ (rd_T47 X.l4 (a - 65)).f1 ≤ 6 := by
 obtain ⟨i, hi⟩ : ∃ i : Nat, a - 65 = (i : Int) := ⟨(a - 65).toNat, by omega⟩
 have h4 := hM.h4
 have hl : i < X.l4.length := by omega
 rw [hi, show rd_T47 X.l4 (i : Int) = X.l4[i] by simp [rd_T47, List.getD_eq_getElem?_getD, hl]]
 exact hM.h4r _ (List.getElem_mem hl)
theorem wide_bounds {X : Lx} {F L : Nat} (hM : MLx X F L) {s : ByteArray} (hs : textJ s = true) : ∀ k : Nat, k ≤ s.size → 0 ≤ wideLo X.l4 s k ∧ wideLo X.l4 s k ≤ wideHi X.l4 s k ∧ wideHi X.l4 s k ≤ 6 * (k : Int)
 | 0, _ => by simp [wideLo, wideHi]
 | k + 1, hk => by
  obtain ⟨h1, h2, h3⟩ := wide_bounds hM hs k (by omega)
  have hb := textJ_iff.1 hs k (by omega)
  obtain ⟨w1, w2, w3⟩ := hM.wide (a := bt s (k : Int)) ⟨hb.1, by omega⟩
  rw [wideLo, wideHi]
  omega
theorem wideLo_congr {l4 : List S47} {s t : ByteArray} : ∀ k : Nat, (∀ j : Nat, j < k → bt s (j : Int) = bt t (j : Int)) → wideLo l4 s k = wideLo l4 t k ∧ wideHi l4 s k = wideHi l4 t k
 | 0, _ => ⟨rfl, rfl⟩
 | k + 1, h => by
  obtain ⟨h1, h2⟩ := wideLo_congr k (fun j hj => h j (by omega))
  rw [wideLo, wideLo, wideHi, wideHi, h1, h2, h k (by omega)]
  exact ⟨rfl, rfl⟩
theorem sumW_wide (X : Lx) (T : ByteArray) : ∀ k : Nat, sumW X T k = (wideLo X.l4 T k, wideHi X.l4 T k)
 | 0 => rfl
 | k + 1 => by rw [sumW_succ, sumW_wide X T k, wideLo, wideHi]
theorem bt_extract2 (T : ByteArray) (a b k : Nat) (hk : a + k < b) (hb : b ≤ T.size) : bt (T.extract a b) (k : Int) = bt T ((a + k : Nat) : Int) := by
 have h1 : k < (T.extract a b).size := by rw [ByteArray.size_extract]; omega
 unfold bt
 rw [dif_pos (by rw [Int.toNat_natCast]; exact h1), dif_pos (by rw [Int.toNat_natCast]; omega)]
 simp only [Int.toNat_natCast]
 rw [ByteArray.getElem_extract]
theorem textJ_extract {T : ByteArray} (h : textJ T = true) (a b : Nat) (hb : b ≤ T.size) : textJ (T.extract a b) = true := by
 rw [textJ_iff] at h ⊢
 intro i hi
 rw [ByteArray.size_extract] at hi
 rw [bt_extract2 T a b i (by omega) hb]
 exact h _ (by omega)
theorem extract_extract {T : ByteArray} {p q : Nat} (h : p + q ≤ T.size) : (T.extract p T.size).extract q (T.extract p T.size).size = T.extract (p + q) T.size := by
 rw [ByteArray.size_extract]
 apply ByteArray.ext
 rw [ByteArray.data_extract, ByteArray.data_extract, ByteArray.data_extract, Array.extract_extract]
 congr 1
 omega
theorem wideOf_ok {X : Lx} {F L : Nat} (hM : MLx X F L) {s : ByteArray} (hs : textJ s = true) (hz : s.size ≤ 1000) : wideOf X.l0 X.l1 X.l2 X.l3 X.l4 s = some (wideLo X.l4 s s.size, wideHi X.l4 s s.size) := by
 unfold wideOf
 rw [if_pos]
 refine ⟨by omega, ?_⟩
 rw [range_all]
 intro i hi
 have hb := textJ_iff.1 hs i hi
 obtain ⟨w1, w2, w3⟩ := hM.wide (a := bt s (i : Int)) ⟨hb.1, by omega⟩
 have h4 := hM.h4
 unfold wideAt
 refine decide_eq_true ⟨⟨hb.1, by omega⟩, ⟨by omega, by omega⟩, by omega, by omega⟩
theorem of_ok (s0 s1 lo hi : Int) (h0 : 0 ≤ lo) (h1 : lo ≤ hi) (h2 : hi ≤ 100) : ∃ v a b, cippuskit_Urn_Of.f s0 s1 lo hi = some (v, a, b) ∧ lo ≤ v ∧ v ≤ hi := by
 obtain ⟨v, a, b, e, v0, v1⟩ := from_ok s0 s1 lo hi (by omega) (by omega) (by omega) (by omega)
 obtain ⟨v2, a2, b2, e2, v3⟩ := any_ok a b [lo, hi, v] (by simp) (by simp)
 refine ⟨v2, a2, b2, ?_, ?_⟩
 ·unfold cippuskit_Urn_Of.f
  rw [e, Option.bind_some, e2, Option.bind_some]
 ·simp only [List.mem_cons, List.mem_nil_iff, or_false] at v3
  omega
structure RT (X : Lx) (T : ByteArray) (p n : Nat) (r : List S49) (fs : List Int) : Prop where
 c : ∀ R0 : List S49, cellF ⟨X.l0, X.l1, X.l2, X.l3, X.l4, R0⟩ r fs (T.extract p T.size) = true
 v : ∀ c ∈ r, cellV c = 0
 g : fs.length = (r.filter fun c => c.f1).length
 n : n + fs.length ≤ 2
 l : r.length ≤ (T.size - p) + fs.length
 ne : p < T.size → r ≠ []
theorem RT.end_ {X : Lx} {T : ByteArray} {n : Nat} (hn : n ≤ 2) : RT X T T.size n [] [] := by
 refine ⟨fun R0 => ?_, by simp, rfl, by simpa using hn, by simp, fun h => absurd h (Nat.lt_irrefl _)⟩
 rw [cellF, ByteArray.size_extract, Bool.and_eq_true]
 exact ⟨decide_eq_true (by omega), rfl⟩
theorem RT.gap {X : Lx} {T : ByteArray} {p q n : Nat} {r : List S49} {fs : List Int} {c : S49} (h : RT X T (p + q) (n + 1) r fs) (hp : p + q ≤ T.size) (hq : q ≤ 10) (hg : c.f1 = true) (hv : cellV c = 0) (h1 : wideLo X.l4 (T.extract p T.size) q ≤ c.f2.f1) (h2 : c.f2.f0 ≤ wideHi X.l4 (T.extract p T.size) q) : RT X T p n (c :: r) ((q : Int) :: fs) := by
 refine ⟨fun R0 => ?_, fun d hd => ?_, ?_, ?_, ?_, fun _ => by simp⟩
 ·rw [cellF, if_pos hg, if_neg (by simp), List.headD_cons, List.tail_cons, if_neg, Int.toNat_natCast, sumW_wide, if_neg, extract_extract hp]
  ·exact h.c R0
  ·simp only
   omega
  ·rw [Bool.not_eq_false, inB_true, ByteArray.size_extract]
   omega
 ·rcases List.mem_cons.1 hd with rfl | hd
  ·exact hv
  ·exact h.v d hd
 ·rw [List.filter_cons_of_pos hg, List.length_cons, List.length_cons, h.g]
 ·rw [List.length_cons]
  have := h.n
  omega
 ·rw [List.length_cons, List.length_cons]
  have := h.l
  omega
theorem RT.cell {X : Lx} {T : ByteArray} {p n : Nat} {r : List S49} {fs : List Int} {c : S49} (h : RT X T (p + 1) n r fs) (hp : p < T.size) (hg : c.f1 = false) (hv : cellV c = 0) (hf : fitB c.f0 (bt T (p : Int)) = true) : RT X T p n (c :: r) fs := by
 refine ⟨fun R0 => ?_, fun d hd => ?_, ?_, h.n, ?_, fun _ => by simp⟩
 ·have hb : bt (T.extract p T.size) 0 = bt T (p : Int) := by
   have := bt_extract T p 0 (by omega)
   simpa using this
  rw [cellF, if_neg (by rw [hg]; decide), if_neg (by rw [ByteArray.size_extract]; omega), hb, if_neg (by rw [hf]; decide), extract_extract (by omega)]
  exact h.c R0
 ·rcases List.mem_cons.1 hd with rfl | hd
  ·exact hv
  ·exact h.v d hd
 ·rw [List.filter_cons_of_neg (by rw [hg]; decide), h.g]
 ·rw [List.length_cons]
  have := h.l
  omega
theorem wordsV_snoc (X : Lx) (l : List Int) (u : Int) : wordsV X l ++ (rd_T53 X.l0 u).f0 = wordsV X (l ++ [u]) := by
 apply ByteArray.ext
 rw [ByteArray.data_append]
 show (conT X l).toArray ++ (rd_T53 X.l0 u).f0.data = (conT X (l ++ [u])).toArray
 rw [show conT X (l ++ [u]) = conT X l ++ (rd_T53 X.l0 u).f0.data.toList by simp [conT]]
 simp
theorem wordsV_take {X : Lx} {l : List Int} {i : Nat} (hi : i < l.length) : wordsV X (l.take (i + 1)) = wordsV X (l.take i) ++ (rd_T53 X.l0 (rd l (i : Int))).f0 := by
 rw [wordsV_snoc]
 congr 1
 rw [List.take_add_one, List.getElem?_eq_getElem hi]
 simp [rd, List.getD_eq_getElem?_getD, List.getElem?_eq_getElem hi]
theorem rd_mem {l : List Int} {i : Nat} (hi : i < l.length) : rd l (i : Int) ∈ l := by
 rw [show rd l (i : Int) = l[i] by simp [rd, List.getD_eq_getElem?_getD, List.getElem?_eq_getElem hi]]
 exact List.getElem_mem _
theorem words_small {X : Lx} {F L : Nat} (hM : MLx X F L) {ws : List Int} (hb : ∀ u ∈ ws, 0 ≤ u ∧ u < (X.l0.length : Int)) : ∀ i : Nat, i ≤ ws.length → i ≤ (wordsV X (ws.take i)).size ∧ (wordsV X (ws.take i)).size ≤ i * L
 | 0, _ => by
  rw [List.take_zero]
  exact ⟨Nat.zero_le _, Nat.zero_le _⟩
 | i + 1, hi => by
  obtain ⟨h1, h2⟩ := words_small hM hb i (by omega)
  obtain ⟨h3, -⟩ := hM.word (hb _ (rd_mem (l := ws) (i := i) (by omega)))
  rw [wordsV_take (by omega), ByteArray.size_append, Nat.succ_mul]
  omega
theorem textJ_words {X : Lx} {F L : Nat} (hM : MLx X F L) {ws : List Int} (hb : ∀ u ∈ ws, 0 ≤ u ∧ u < (X.l0.length : Int)) : textJ (wordsV X ws) = true := by
 rw [textJ_iff]
 intro k hk
 have hk2 : k < (conT X ws).length := by
  have : (wordsV X ws).size = (conT X ws).length := by show (conT X ws).toArray.size = _; rw [List.size_toArray]
  omega
 have e : bt (wordsV X ws) (k : Int) = (((conT X ws)[k]'hk2).toNat : Int) := by
  unfold bt
  rw [dif_pos (by simpa using hk)]
  rfl
 rw [e]
 obtain ⟨i, hi, hb3⟩ := List.mem_flatMap.1 (List.getElem_mem hk2)
 obtain ⟨-, hJ, -⟩ := hM.word (hb i hi)
 have hb2 : (((conT X ws)[k]'hk2).toNat : Int) ∈ bytesOf (rd_T53 X.l0 i).f0 := List.mem_map.2 ⟨_, hb3, rfl⟩
 obtain ⟨j, hj, ej⟩ := List.mem_iff_getElem.1 hb2
 have := textJ_iff.1 hJ j (by rw [bytesOf_length] at hj; exact hj)
 rw [← rd_bytesOf, show rd (bytesOf (rd_T53 X.l0 i).f0) (j : Int) = (bytesOf (rd_T53 X.l0 i).f0)[j] by simp [rd, List.getD_eq_getElem?_getD, List.getElem?_eq_getElem hj], ej] at this
 exact this
def gapB (c : S49) : Bool := c.f1
theorem rowF_ok {r : List S49} (hv : ∀ c ∈ r, cellV c = 0) : ∀ (rem i n : Nat), i + rem = r.length → n + ((r.drop i).filter gapB).length ≤ 3 → rowF r rem i n = 0
 | 0, i, n, _, _ => rfl
 | rem + 1, i, n, hi, hn => by
  have hl : i < r.length := by omega
  have e : rd_T49 r (i : Int) = r[i] := by simp [rd_T49, List.getD_eq_getElem?_getD, hl]
  rw [List.drop_eq_getElem_cons hl] at hn
  rw [rowF, e, if_pos (hv _ (List.getElem_mem hl))]
  by_cases hg : r[i].f1 = true
  ·rw [List.filter_cons_of_pos (p := gapB) hg, List.length_cons] at hn
   rw [if_pos hg, if_neg (by omega)]
   exact rowF_ok hv rem (i + 1) (n + 1) (by omega) (by omega)
  ·rw [List.filter_cons_of_neg (p := gapB) (by simpa [gapB] using hg)] at hn
   rw [if_neg hg]
   exact rowF_ok hv rem (i + 1) n (by omega) (by omega)
theorem rowV_ok {r : List S49} (h0 : r ≠ []) (h24 : r.length ≤ 24) (hv : ∀ c ∈ r, cellV c = 0) (hg : (r.filter fun c => c.f1).length ≤ 3) : rowV r = 0 := by
 have := List.length_pos_iff.2 h0
 unfold rowV
 rw [if_neg (by omega), if_neg (by omega)]
 exact rowF_ok hv r.length 0 0 (by omega) (by rw [List.drop_zero, Nat.zero_add]; exact hg)
end Go.Proofs.Ytkfebceainedfaa.P.OwnUrn
namespace Go.Proofs.Ytkfebceainedfaa.P.OwnGap
open Go.RowKit Go.Shelf Go.Proofs.YtkfebceainedfaaW.PrintWords Go.Proofs.YtkfebceainedfaaW.PrintLast Go.Proofs.YtkfebceainedfaaW.PrintMore
open Go.Proofs.Ytkfebceainedfaa.OwnGap Go.Proofs.Ytkfebceainedfaa.P.OwnUrn
set_option linter.unusedVariables false
set_option linter.unusedSimpArgs false
attribute [local go_sem] Oper.semAt_some
attribute [local go_sem] max2_int min2_int max_two min_two max_three min_three max_four min_four
structure RwS (X : Lx) (A0 A1 A2 A3 A4 : Option Addr) (c0 c1 c2 c3 c4 n4 n7 n10 g : Nat) (w0 w : World) (ws : List Int) (vw : Value) (fs : List Int) (vf : Value) (r : List S49) (vr : Value) (a b : Int) (wx : World) : Prop where
 m : MdW w0 w g a b wx
 b4 : BxAt X A0 A1 A2 A3 A4 c0 c1 c2 c3 c4 n4 wx
 b7 : wx.heap[n7]? = some (.cells #[.slice none 0 0, .slice none 0 0] 31 (0, 0))
 b10 : wx.heap[n10]? = some (.cells #[vw, vf] 31 (0, 0))
 rw : Kd.R (Kd.int .i64) 3 wx w.heap.size (fun _ => True) vw ws
 rf : Kd.R (Kd.int .i64) 3 wx w.heap.size (fun _ => True) vf fs
 rr : k49.R 49 wx w.heap.size (fun _ => True) vr r
 d : ∀ k, vw.ownBlock = some k → vf.ownBlock ≠ some k
section
variable {X : Lx} {A0 A1 A2 A3 A4 : Option Addr} {c0 c1 c2 c3 c4 n4 n7 n10 g : Nat} {w0 w : World} {ws : List Int} {vw : Value} {fs fs' : List Int} {vf vf' : Value} {r r' : List S49} {vr vr' : Value} {a b a' b' : Int} {wx wy : World}
theorem RwS.call (h : RwS X A0 A1 A2 A3 A4 c0 c1 c2 c3 c4 n4 n7 n10 g w0 w ws vw fs vf r vr a b wx) (hg : g < w.heap.size ∧ g < n4 ∧ g < n7 ∧ g < n10) (hi : IsS83 w0 wy g a' b') (hb : Below w0.heap.size w0 wy) (hk : KeepBut wx wy g none) : RwS X A0 A1 A2 A3 A4 c0 c1 c2 c3 c4 n4 n7 n10 g w0 w ws vw fs vf r vr a' b' wy := by
 have hm : ∀ k, w.heap.size ≤ k → k < wx.heap.size → wy.heap[k]? = wx.heap[k]? := fun k h1 h2 => hk.2 k h2 (by omega) (by simp)
 exact ⟨h.m.call hi hb hk, hk.blk h.b4 (by omega) (by simp), hk.blk h.b7 (by omega) (by simp), hk.blk h.b10 (by omega) (by simp), R_st h.rw hm, R_st h.rf hm, R_st h.rr hm, h.d⟩
theorem RwS.next (h : RwS X A0 A1 A2 A3 A4 c0 c1 c2 c3 c4 n4 n7 n10 g w0 w ws vw fs vf r vr a b wx) (hg : g < w.heap.size ∧ g < n4 ∧ g < n7 ∧ g < n10) (hb : Below wx.heap.size wx wy) : RwS X A0 A1 A2 A3 A4 c0 c1 c2 c3 c4 n4 n7 n10 g w0 w ws vw fs vf r vr a b wy :=
 h.call hg (h.m.i.below hb) (h.m.b.trans (hb.mono h.m.b.size)) (KeepBut.of_below hb g none)
theorem RwS.grow (h : RwS X A0 A1 A2 A3 A4 c0 c1 c2 c3 c4 n4 n7 n10 g w0 w ws vw fs vf r vr a b wx) (hg : g < w.heap.size) (hw0 : w0.heap.size ≤ w.heap.size) {row : Option Nat} (hr : ∀ k, row = some k → w.heap.size ≤ k) (hG : wx.grownBy wy row) : MdW w0 w g a b wy :=
 ⟨h.m.i.grown hG (fun e => by have := hr g e.symm; omega), h.m.b.grown hG h.m.b.size (fun k hk => Nat.le_trans hw0 (hr k hk)), ⟨Nat.le_trans h.m.k.1 hG.size, fun i h1 h2 h3 => (hG.block i (Nat.lt_of_lt_of_le h1 h.m.k.1) (fun e => by have := hr i e.symm; omega)).trans (h.m.k.2 i h1 h2 h3)⟩⟩
theorem RwS.appR (h : RwS X A0 A1 A2 A3 A4 c0 c1 c2 c3 c4 n4 n7 n10 g w0 w ws vw fs vf r vr a b wx) (hg : g < w.heap.size) (hw0 : w0.heap.size ≤ w.heap.size) (hG : wx.grownBy wy vr.ownBlock) (hR : k49.R 49 wy w.heap.size (fun _ => True) vr' r') : RwS X A0 A1 A2 A3 A4 c0 c1 c2 c3 c4 n4 n7 n10 g w0 w ws vw fs vf r' vr' a b wy :=
 ⟨h.grow hg hw0 (Kd.R_base h.rr) hG, (hG.block n4 (blk_lt h.b4) (Kd.R_ne h.rr h.b4 (by decide))).trans h.b4, (hG.block n7 (blk_lt h.b7) (Kd.R_ne h.rr h.b7 (by decide))).trans h.b7, (hG.block n10 (blk_lt h.b10) (Kd.R_ne h.rr h.b10 (by decide))).trans h.b10, R_oth rfl h.rw hG (ne_ty h.rw h.rr (by decide)), R_oth rfl h.rf hG (ne_ty h.rf h.rr (by decide)), hR, h.d⟩
theorem RwS.appF (h : RwS X A0 A1 A2 A3 A4 c0 c1 c2 c3 c4 n4 n7 n10 g w0 w ws vw fs vf r vr a b wx) (hg : g < w.heap.size) (hw0 : w0.heap.size ≤ w.heap.size) (h4 : n4 ≠ n10 ∧ n7 ≠ n10 ∧ w.heap.size ≤ n10) (hG : wx.grownBy wy vf.ownBlock) (hat : Hat wx vf vf') (hR : Kd.R (Kd.int .i64) 3 wy w.heap.size (fun _ => True) vf' fs') : RwS X A0 A1 A2 A3 A4 c0 c1 c2 c3 c4 n4 n7 n10 g w0 w ws vw fs' vf' r vr a b (wy.setCell ⟨n10, 1, none⟩ vf') := by
 have hb4 := (hG.block n4 (blk_lt h.b4) (Kd.R_ne h.rf h.b4 (by decide))).trans h.b4
 have hb7 := (hG.block n7 (blk_lt h.b7) (Kd.R_ne h.rf h.b7 (by decide))).trans h.b7
 have hb10 := (hG.block n10 (blk_lt h.b10) (Kd.R_ne h.rf h.b10 (by decide))).trans h.b10
 have hrw : Kd.R (Kd.int .i64) 3 wy w.heap.size (fun _ => True) vw ws := R_oth rfl h.rw hG (fun k hk e => h.d k hk e.symm)
 have hrr : k49.R 49 wy w.heap.size (fun _ => True) vr r := R_oth rfl h.rr hG (ne_ty h.rr h.rf (by decide))
 refine ⟨(h.grow hg hw0 (Kd.R_base h.rf) hG).set h4.2.2 hg _, blk_far hb4 h4.1 _, blk_far hb7 h4.2.1 _, blk_put (cs := #[vw, vf]) hb10 1 _ rfl, R_fb rfl hrw (fun e => Kd.R_ne hrw hb10 (by decide) e.symm) _, R_fb rfl hR (fun e => Kd.R_ne hR hb10 (by decide) e.symm) _, R_fb rfl hrr (fun e => Kd.R_ne hrr hb10 (by decide) e.symm) _, ne_swap (ne_grow (ne_swap h.d) (Kd.R_lt h.rw) hat)⟩
end
structure RwI (X : Lx) (T : ByteArray) (p : Nat) (r : List S49) (fs : List Int) : Prop where
 k : ∀ r2 fs2, RT X T p fs.length r2 fs2 → RT X T 0 0 (r ++ r2) (fs ++ fs2)
 le : p ≤ T.size
 n : fs.length ≤ 2
 l : r.length ≤ p + fs.length
theorem RwI.start (X : Lx) (T : ByteArray) : RwI X T 0 [] [] := ⟨fun _ _ h => h, Nat.zero_le _, by decide, by decide⟩
theorem RwI.cell {X : Lx} {T : ByteArray} {p : Nat} {r : List S49} {fs : List Int} (h : RwI X T p r fs) {c : S49} (hp : p < T.size) (hg : c.f1 = false) (hv : cellV c = 0) (hf : fitB c.f0 (bt T (p : Int)) = true) : RwI X T (p + 1) (r ++ [c]) fs :=
 ⟨fun r2 fs2 h2 => by rw [List.append_assoc]; exact h.k _ _ (h2.cell hp hg hv hf), hp, h.n, by have := h.l; rw [List.length_append, List.length_singleton]; omega⟩
theorem RwI.gap {X : Lx} {T : ByteArray} {p q : Nat} {r : List S49} {fs : List Int} (h : RwI X T p r fs) {c : S49} (hp : p + q ≤ T.size) (hq : q ≤ 10) (hn : fs.length < 2) (hg : c.f1 = true) (hv : cellV c = 0) (h1 : wideLo X.l4 (T.extract p T.size) q ≤ c.f2.f1) (h2 : c.f2.f0 ≤ wideHi X.l4 (T.extract p T.size) q) : RwI X T (p + q) (r ++ [c]) (fs ++ [(q : Int)]) :=
 ⟨fun r2 fs2 h3 => by
  rw [List.append_assoc, List.append_assoc]
  rw [List.length_append, List.length_singleton] at h3
  exact h.k _ _ (h3.gap hp hq hg hv h1 h2), hp, by rw [List.length_append, List.length_singleton]; omega, by have := h.l; rw [List.length_append, List.length_append, List.length_singleton, List.length_singleton]; omega⟩
theorem gap_good {X : Lx} {F L : Nat} (hM : MLx X F L) {T : ByteArray} (hT : textJ T = true) {p q : Nat} (hq1 : p + q ≤ T.size) (hq2 : q ≤ 4) {t u z lo : Int} (t0 : wideLo X.l4 (T.extract p (p + q)) q ≤ t) (t1 : t ≤ wideHi X.l4 (T.extract p (p + q)) q) (u0 : 0 ≤ u ∧ u ≤ 3) (z0 : 0 ≤ z ∧ z ≤ 3) (hlo : lo = mx 0 (t - u)) :
  cellV ⟨⟨#[]⟩, true, ⟨lo, t + z⟩⟩ = 0 ∧ wideLo X.l4 (T.extract p T.size) q ≤ t + z ∧ lo ≤ wideHi X.l4 (T.extract p T.size) q := by
 have hz : (T.extract p (p + q)).size = q := by rw [ByteArray.size_extract]; omega
 obtain ⟨b1, b2, b3⟩ := wide_bounds hM (textJ_extract hT p (p + q) hq1) q (by omega)
 have hmx : 0 ≤ lo ∧ lo ≤ t := by rw [hlo]; unfold mx; split <;> omega
 obtain ⟨e1, e2⟩ := wideLo_congr (l4 := X.l4) (s := T.extract p T.size) (t := T.extract p (p + q)) q (fun j hj => by
  rw [bt_extract T p j (by omega), bt_extract2 T p (p + q) j (by omega) hq1])
 refine ⟨?_, by rw [e1]; omega, by rw [e2]; omega⟩
 show spanV lo (t + z) 0 1000 = 0
 unfold spanV
 rw [inB_true.2 ⟨hmx.1, by omega⟩, inB_true.2 ⟨by omega, by omega⟩, if_neg (by decide), if_neg (by omega)]
theorem wrap4 (i : Nat) (h : i ≤ 1000) : wrap64 ((i : Int) + 1) = ((i + 1 : Nat) : Int) := by simp [wrap64]; omega
set_option maxHeartbeats 8000000 in
set_option maxRecDepth 100000 in
theorem row_walk {X : Lx} {F L : Nat} (hM : MLx X F L) {g m : Nat} {s0 s1 : Int} {A0 A1 A2 A3 A4 A : Option Addr} {c0 c1 c2 c3 c4 c : Nat} {ws : List Int} {w0 w : World} (hm : g < m ∧ m ≤ w.heap.size) (hI : IsS83 w0 w g s0 s1) (hB : Below w0.heap.size w0 w) (hX : LxF X A0 A1 A2 A3 A4 c0 c1 c2 c3 c4 m w) (hw : Ft (Kd.int .i64) A ws m w) (hc : ws.length ≤ c) (hb : ∀ u ∈ ws, 0 ≤ u ∧ u < (X.l0.length : Int)) (h4 : ws.length ≤ 4) :
  Calls Try.prog 40 #[.pointer (some ⟨g, 0, none⟩), .agg #[.slice A0 X.l0.length c0, .slice A1 X.l1.length c1, .slice A2 X.l2.length c2, .slice A3 X.l3.length c3, .slice A4 X.l4.length c4], .slice A ws.length c] w fun e w' => ∃ (r : List S49) (fs : List Int) (r4 r5 : Int) (Ar Bw Bf : Option Addr) (cr dw df : Nat), e = .returned (.tuple #[.slice Ar r.length cr, .agg #[.slice Bw ws.length dw, .slice Bf fs.length df]]) ∧ RT X (wordsV X ws) 0 0 r fs ∧ (Ft k49 Ar r m w' ∧ Ft (Kd.int .i64) Bw ws m w' ∧ Ft (Kd.int .i64) Bf fs m w' ∧ r.length ≤ cr ∧ ws.length ≤ dw ∧ fs.length ≤ df) ∧ IsS83 w0 w' g r4 r5 ∧ Below w0.heap.size w0 w' ∧ KeepBut w w' g none := by
 have HM := Aside0.mk hM
 have HG := Aside0.mk hm
 have HX := Aside0.mk hX
 have HW := Aside0.mk hw
 have HC := Aside0.mk hc
 have HB := Aside0.mk hb
 have H4 := Aside0.mk h4
 have HS0 := Aside0.mk (MdW.start hI hB)
 have HW0 := Aside0.mk hB.size
 clear hM hm hX hw hc hb h4 hI hB
 obtain ⟨n4, hn4⟩ : ∃ n, n = w.heap.size := ⟨_, rfl⟩
 have HN4 := Aside0.mk hn4
 go_enter Try.func40, Try.ntmps40
 go_upto_region 1 with fail
 refine wp_gen (fun wx => Aside0 (MdW w0 w g s0 s1 wx ∧ BxAt X A0 A1 A2 A3 A4 c0 c1 c2 c3 c4 n4 wx ∧ wx.heap[n4 + 1]? = some (.cells #[.slice none 0 0, .slice none 0 0] 31 (0, 0)))) ⟨⟨(HS0.out.alloc _).alloc _, by rw [hn4]; exact blk_alloc (bxAt_new A0 A1 A2 A3 A4 c0 c1 c2 c3 c4 w) _, by rw [hn4]; have h2 := blk_new (w.alloc (.cells #[.slice A0 X.l0.length c0, .slice A1 X.l1.length c1, .slice A2 X.l2.length c2, .slice A3 X.l3.length c3, .slice A4 X.l4.length c4] 28)) (.cells #[.slice none 0 0, .slice none 0 0] 31); rw [World.size_alloc] at h2; exact h2⟩⟩ ?_
 rw [← hn4]
 clear hn4 HS0
 rintro w1 HS
 go_wp2_with fail
 go_loopg [8, 9] ws.length (fun gh s8 s9 wr => ∃ i : Nat, i + gh = ws.length ∧ s9 = .int .i64 (i : Int) ∧ s8 = .string (wordsV X (ws.take i)) ∧ Aside0 (MdW w0 w g s0 s1 wr ∧ BxAt X A0 A1 A2 A3 A4 c0 c1 c2 c3 c4 n4 wr ∧ wr.heap[n4 + 1]? = some (.cells #[.slice none 0 0, .slice none 0 0] 31 (0, 0))))
 case atStart => exact ⟨0, by omega, rfl, rfl, HS⟩
 case round =>
  clear HS
  obtain ⟨i, hi, rfl, rfl, HS⟩ := hrel
  have HI := Aside0.mk hi
  by_cases hlt : i < ws.length
  ·have hz : (i : Int) < (ws.length : Int) := by omega
   have hd : decide (i < ws.length) = true := decide_eq_true hlt
   have hd2 : decide ((i : Int) < (ws.length : Int)) = true := decide_eq_true hz
   have h0 : (0 : Int) ≤ (i : Int) := by omega
   have HLT := Aside0.mk hlt
   have hw := wrap4 i (by have := H4.out; omega)
   obtain ⟨x0, x1, x2, x3, x4⟩ := HS.out.2.1.cells
   have xl := blk_lt HS.out.2.1
   obtain ⟨ld, hld, g0⟩ := Kd.at_int (HW.out.but HG.out.1 wr HS.out.1.k) (i : Int) h0 hz
   rw [Int.toNat_natCast] at g0
   subst hld
   have gl := World.block_lt_of_cell? wr _ g0
   obtain ⟨b0, b1⟩ := HB.out _ (rd_mem hlt)
   obtain ⟨q, hq⟩ : ∃ q : Nat, rd ws (i : Int) = (q : Int) := ⟨(rd ws (i : Int)).toNat, by omega⟩
   have HT := Aside0.mk (wordsV_take (X := X) hlt)
   obtain ⟨-, hz1⟩ := words_small HM.out HB.out i (by omega)
   obtain ⟨hz2, -⟩ := HM.out.word (HB.out _ (rd_mem hlt))
   have hz3 : i * L ≤ 4 * 5 := Nat.mul_le_mul (by have := H4.out; omega) HM.out.l.2
   have hz4 := HM.out.l
   rw [hq] at g0 b0 b1 HT hz2
   obtain ⟨ad, hA, p0, -⟩ := at_T53 (HX.out.h0.but HG.out.1 wr HS.out.1.k) (q : Int) b0 b1
   subst hA
   rw [Int.toNat_natCast] at p0
   have pl := World.block_lt_of_cell? wr _ p0
   have hq2 : decide (q < X.l0.length) = true := decide_eq_true (by omega)
   obtain ⟨T, hT⟩ : ∃ T, T = wordsV X (ws.take i) := ⟨_, rfl⟩
   rw [← hT] at HT hz1 ⊢
   obtain ⟨s, hs⟩ : ∃ s, s = (rd_T53 X.l0 (q : Int)).f0 := ⟨_, rfl⟩
   rw [← hs] at HT hz2 p0
   have hsz : (T.size : Int) + (s.size : Int) ≤ 100 := by omega
   have hsz2 : T.size + s.size ≤ 100 := by omega
   clear hi hlt hq hT hs hz1 hz2 hz3 hz4
   go_wp2_with fail
   go_quiet (fail)
   go_wp2_with fail
   go_roundg (gk - 1)
   case measure => have := HI.out; have := HLT.out; omega
   case rel => exact ⟨i + 1, by have := HI.out; have := HLT.out; omega, by go_num, by rw [HT.out], ⟨⟨HS.out.1.i.drewN _, pw_below_drewN HS.out.1.b _, keep_drewN HS.out.1.k _⟩, HS.out.2.1, HS.out.2.2⟩⟩
  ·have hz : ¬ (i : Int) < (ws.length : Int) := by omega
   have hd : decide (i < ws.length) = false := decide_eq_false hlt
   have hd2 : decide ((i : Int) < (ws.length : Int)) = false := decide_eq_false hz
   obtain ⟨-, hz1⟩ := words_small HM.out HB.out ws.length (Nat.le_refl _)
   have hz3 : ws.length * L ≤ 4 * 5 := Nat.mul_le_mul H4.out HM.out.l.2
   rw [List.take_length] at hz1
   rw [show ws.take i = ws from List.take_of_length_le (by omega)]
   have HJ := Aside0.mk (textJ_words HM.out HB.out)
   obtain ⟨T, hT⟩ : ∃ T, T = wordsV X ws := ⟨_, rfl⟩
   rw [← hT] at hz1 HJ ⊢
   have HTZ := Aside0.mk (show T.size ≤ 20 by omega)
   have HTE := Aside0.mk hT
   clear hi hlt hz1 hz3 hT
   go_upto_region 6 with fail
   have HCI := Aside0.mk (HW.out.but HG.out.1 wr HS.out.1.k)
   go_upto_region 7 with first
    | (go_at_call 56; refine (cippuskit_Ints.calls A c ws ws wr HCI.out HC.out (by unfold cippuskit_Ints.f; simp; have := H4.out; omega)).mono ?_; rintro e w2 ⟨vw, rfl, hR, hb⟩; obtain ⟨Bw, dw, rfl⟩ := Kd.R_slice hR; have HRW := Aside0.mk (Kd.R_lower hR HS.out.1.k.1); have HM2 := Aside0.mk (HS.out.1.below hb); have HB4 := Aside0.mk (HS.out.2.1.below hb); have HB7 := Aside0.mk (blk_below HS.out.2.2 hb); clear hR hb)
    | fail
   obtain ⟨n10, hn10⟩ : ∃ n, n = w2.heap.size := ⟨_, rfl⟩
   have HGG := Aside0.mk (show (g < w.heap.size ∧ g < n4 ∧ g < n4 + 1 ∧ g < n10) ∧ n4 ≠ n10 ∧ n4 + 1 ≠ n10 ∧ w.heap.size ≤ n10 by have := HG.out; have := HN4.out; have := blk_lt HB7.out; omega)
   refine wp_gen (fun wx => Aside0 (RwS X A0 A1 A2 A3 A4 c0 c1 c2 c3 c4 n4 (n4 + 1) n10 g w0 w ws (.slice Bw ws.length dw) [] (.slice none 0 0) [] (.slice none 0 0) s0 s1 wx)) ⟨⟨HM2.out.alloc _, blk_alloc HB4.out _, blk_alloc HB7.out _, by rw [hn10]; exact blk_new w2 _, Kd.R_alloc HRW.out _, Kd.R_nil _ _ _ _ _, Kd.R_nil _ _ _ _ _, fun k _ => by simp [Value.ownBlock]⟩⟩ ?_
   rw [← hn10]
   clear hn10 HM2 HB4 HB7 HRW HCI HS
   rintro w3 HR
   go_wp2_with fail
   go_loopg [11, 12] (T.size + 2) (fun gh s11 s12 wr => ∃ (p : Nat) (r : List S49) (fs : List Int) (vr vf : Value) (a b : Int), (T.size - p) + (2 - fs.length) = gh ∧ s12 = .int .i64 (p : Int) ∧ s11 = vr ∧ Aside0 (RwI X T p r fs) ∧ Aside0 (RwS X A0 A1 A2 A3 A4 c0 c1 c2 c3 c4 n4 (n4 + 1) n10 g w0 w ws (.slice Bw ws.length dw) fs vf r vr a b wr))
   case atStart => exact ⟨0, [], [], _, _, s0, s1, rfl, rfl, rfl, ⟨RwI.start X T⟩, HR⟩
   case round =>
    clear HR hz hd hd2
    obtain ⟨p, r, fs, vr, vf, a, b, hgh, rfl, rfl, HI, HR⟩ := hrel
    have HGH := Aside0.mk hgh
    obtain ⟨Bf, df, rfl⟩ := Kd.R_slice HR.out.rf
    obtain ⟨Ar, cr, rfl⟩ := Kd.R_slice HR.out.rr
    by_cases hlt : p < T.size
    ·have hz : (p : Int) < (T.size : Int) := by omega
     have hd : decide (p < T.size) = true := decide_eq_true hlt
     have hd2 : decide ((p : Int) < (T.size : Int)) = true := decide_eq_true hz
     have h0 : (0 : Int) ≤ (p : Int) := by omega
     have HLT := Aside0.mk hlt
     have HPZ := Aside0.mk (show p ≤ 20 by have := HTZ.out; omega)
     clear hgh hlt
     go_upto_region 10 with fail
     have y1 := (blk_cell HR.out.b10 1).trans (show _ = some (.slice Bf fs.length df) from rfl)
     have yl := blk_lt HR.out.b10
     go_cut [47] (fun s47 wx => ∃ (bk : Bool) (a b : Int), s47 = .bool bk ∧ Aside0 (bk = true → fs.length < 2) ∧ Aside0 (RwS X A0 A1 A2 A3 A4 c0 c1 c2 c3 c4 n4 (n4 + 1) n10 g w0 w ws (.slice Bw ws.length dw) fs (.slice Bf fs.length df) r (.slice Ar r.length cr) a b wx))
     case first =>
      by_cases hf : fs.length < 2
      ·have hf1 : decide (fs.length < 2) = true := decide_eq_true hf
       have hf2 : decide ((fs.length : Int) < 2) = true := decide_eq_true (by omega)
       have HF := Aside0.mk hf
       obtain ⟨ob, a', b', ho⟩ := odds_ok a b 1 4 (by decide)
       have HO := Aside0.mk ho
       clear hf ho
       go_wp2_with first
        | (go_at_call 31; refine (cippuskit_Urn_Odds.calls g a b 1 4 _ a' b' w0 _ HR.out.m.i HR.out.m.b HO.out).mono ?_; rintro e w4 ⟨rfl, hi, hb, hk⟩; have HR4 := Aside0.mk (HR.out.call HGG.out.1 hi hb hk); clear hi hb hk)
        | fail
       refine Met.intro ?_
       go_step
       (repeat apply Exists.intro)
       refine ⟨?_, rfl⟩
       exact ⟨ob, a', b', rfl, ⟨fun _ => HF.out⟩, HR4⟩
      ·have hf1 : decide (fs.length < 2) = false := decide_eq_false hf
       have hf2 : decide ((fs.length : Int) < 2) = false := decide_eq_false (by omega)
       clear hf
       go_wp2_with fail
       refine Met.intro ?_
       go_step
       (repeat apply Exists.intro)
       refine ⟨?_, rfl⟩
       exact ⟨false, a, b, rfl, ⟨fun h => by cases h⟩, HR⟩
     case rest =>
      obtain ⟨bk, a, b, rfl, HBK, HR⟩ := hcut
      clear y1 yl
      cases bk with
      | false =>
       have hb2 := textJ_iff.1 HJ.out p HLT.out
       have hbt := bt_at T (p : Int) (by simpa using HLT.out)
       simp only [Int.toNat_natCast] at hbt
       obtain ⟨⟨q1, q2, q3, q4, a', b'⟩, ⟨K, e⟩, ⟨k1, k2⟩, k3, k4, k5⟩ := square_ev (bt T (p : Int)) hb2 a b
       simp only at k1 k2 k3 k4 k5
       subst k3 k4 k5
       have HE := Aside0.mk (e K (Nat.le_refl _))
       have HCV := Aside0.mk (show cellV ⟨q1, false, ⟨0, 0⟩⟩ = 0 by
        unfold cellV
        rw [if_neg (by simp), if_neg (by show ¬ ascB q1 = false; rw [k1]; decide), if_pos ⟨rfl, rfl⟩])
       have HFB := Aside0.mk k2
       have HRL := Aside0.mk (show (r.length + 1) * 40 ≤ 140737488355328 by have := HI.out.l; have := HI.out.n; have := HPZ.out; omega)
       have hw := wrap4 p (by have := HPZ.out; omega)
       clear hb2 e k1 k2
       go_wp2_with first
        | (go_at_call 74; refine (cippuskit_squareOf.calls K g a b (bt T (p : Int)) q1 false 0 0 a' b' w0 _ HR.out.m.i HR.out.m.b HE.out).mono ?_; rintro e w4 ⟨rfl, hi, hb, hk⟩; have HR4 := Aside0.mk (HR.out.call HGG.out.1 hi hb hk); clear hi hb hk)
        | (at_builtin; refine Kd.R_append k49 (w0 := w4) w.heap.size rfl (.tmp 89) (.tmp 95) 29 49 (.agg #[(.string ⟨#[]⟩), (.bool false), (.int .i64 0), (.int .i64 0)]) 40 rfl Try.underlying29 info49 rfl (by decide) (by omega) (.slice Ar r.length cr) r (⟨q1, false, ⟨0, 0⟩⟩ : S49) [.string q1, .bool false, .int .i64 0, .int .i64 0] (fun _ => True) (fun _ => False) rfl rfl ?aP (fun _ hk => hk.elim) ?aF ?aO ?aB ?aS ?aL ?_; (case aP => exact k49_mkM _ _ _ (⟨q1, false, ⟨0, 0⟩⟩ : S49)); (case aF => exact (fun _ _ => trivial)); (case aO => exact HR4.out.rr); (case aB => exact Below.refl _ _); (case aS => exact HR4.out.m.k.1); (case aL => exact HRL.out); intro v6 w6 ho hb hg hat; have HR6 := Aside0.mk (HR4.out.appR HGG.out.1.1 HW0.out hg ho); clear ho hb hg hat)
        | fail
       go_roundg (gk - 1)
       case measure => have := HGH.out; have := HLT.out; omega
       case rel => exact ⟨p + 1, _, fs, _, _, a', b', by have := HGH.out; have := HLT.out; omega, by go_num, rfl, ⟨HI.out.cell HLT.out rfl HCV.out HFB.out⟩, HR6⟩
      | true =>
       have HF := Aside0.mk (HBK.out rfl)
       obtain ⟨v, a1, b1, hv, v0, v1⟩ := up_ok a b 5 (by decide)
       have HV := Aside0.mk hv
       have hTP : wrap64 ((T.size : Int) - (p : Int)) = (T.size : Int) - (p : Int) := by have := HTZ.out; have := HPZ.out; simp [wrap64]; omega
       obtain ⟨q, hq⟩ : ∃ q : Nat, (if v < (T.size : Int) - (p : Int) then v else (T.size : Int) - (p : Int)) = (q : Int) := ⟨(if v < (T.size : Int) - (p : Int) then v else (T.size : Int) - (p : Int)).toNat, by have := HLT.out; split <;> omega⟩
       have HQ := Aside0.mk (show p + q ≤ T.size ∧ q ≤ 4 by have := HLT.out; clear hTP; split at hq <;> omega)
       clear hv v0 v1
       go_upto_region 12 with first
        | (go_at_call 30; refine (cippuskit_Urn_Up.calls g a b 5 v a1 b1 w0 _ HR.out.m.i HR.out.m.b HV.out).mono ?_; rintro e w4 ⟨rfl, hi, hb, hk⟩; have HR4 := Aside0.mk (HR.out.call HGG.out.1 hi hb hk); clear hi hb hk)
        | fail
       have hz1 : (T.extract p (p + q)).size = q := by rw [ByteArray.size_extract]; have := HQ.out; omega
       have hJ2 := textJ_extract HJ.out p (p + q) HQ.out.1
       obtain ⟨b1', b2', b3'⟩ := wide_bounds HM.out hJ2 q (by omega)
       have hwo := wideOf_ok HM.out hJ2 (by have := HQ.out; omega)
       rw [hz1] at hwo
       obtain ⟨pe, hpe⟩ : ∃ pe, pe = p + q := ⟨_, rfl⟩
       have HPE := Aside0.mk hpe
       rw [← hpe] at hwo b1' b2' b3'
       obtain ⟨lo, hlo⟩ : ∃ lo, lo = wideLo X.l4 (T.extract p pe) q := ⟨_, rfl⟩
       obtain ⟨hh, hhh⟩ : ∃ hh, hh = wideHi X.l4 (T.extract p pe) q := ⟨_, rfl⟩
       rw [← hlo, ← hhh] at hwo b2'
       rw [← hlo] at b1'
       rw [← hhh] at b3'
       have HLH := Aside0.mk (And.intro hlo hhh)
       have HBD := Aside0.mk (show 0 ≤ lo ∧ lo ≤ hh ∧ hh ≤ 24 by have := HQ.out; omega)
       have HWD := Aside0.mk (fun (W : World) (hk : KeepBut w W g none) => show Calls Try.prog 57 #[.agg #[.slice A0 X.l0.length c0, .slice A1 X.l1.length c1, .slice A2 X.l2.length c2, .slice A3 X.l3.length c3, .slice A4 X.l4.length c4], .string (T.extract p pe)] W fun e w' => e = .returned (.agg #[.int .i64 lo, .int .i64 hh]) ∧ Below W.heap.size W w' from
        cippuskit_WideOf.calls A0 c0 X.l0 A1 c1 X.l1 A2 c2 X.l2 A3 c3 X.l3 A4 c4 X.l4 _ lo hh W (HX.out.h0.but HG.out.1 W hk) HX.out.k0 (HX.out.h1.but HG.out.1 W hk) HX.out.k1 (HX.out.h2.but HG.out.1 W hk) HX.out.k2 (HX.out.h3.but HG.out.1 W hk) HX.out.k3 (HX.out.h4.but HG.out.1 W hk) HX.out.k4 hwo)
       clear hq hz1 hJ2 b1' b2' b3' hwo hlo hhh
       obtain ⟨x0, x1, x2, x3, x4⟩ := HR4.out.b4.cells
       have xl := blk_lt HR4.out.b4
       have hpq : wrap64 ((p : Int) + (q : Int)) = (pe : Int) := by have := HPZ.out; have := HQ.out; simp [wrap64]; omega
       have hpq2 : IntKind.i64.wrap ((p : Int) + (q : Int)) = (pe : Int) := by rw [i64_w]; exact hpq
       have hs0 : p ≤ pe := by omega
       have hs3 : pe ≤ T.size := by have := HQ.out; omega
       have hs1 : (p : Int) ≤ (pe : Int) := by omega
       have hs2 : (pe : Int) ≤ (T.size : Int) := by have := HQ.out; omega
       have HCC := Aside0.mk (fun (W' : World) (hb : Below w4.heap.size w4 W') => show W'.cell? ⟨n4, 0, none⟩ = some (.slice A0 X.l0.length c0) ∧ W'.cell? ⟨n4, 1, none⟩ = some (.slice A1 X.l1.length c1) ∧ W'.cell? ⟨n4, 2, none⟩ = some (.slice A2 X.l2.length c2) ∧ W'.cell? ⟨n4, 3, none⟩ = some (.slice A3 X.l3.length c3) ∧ W'.cell? ⟨n4, 4, none⟩ = some (.slice A4 X.l4.length c4) from
        ⟨(hb.cell (p := ⟨n4, 0, none⟩) xl).trans x0, (hb.cell (p := ⟨n4, 1, none⟩) xl).trans x1, (hb.cell (p := ⟨n4, 2, none⟩) xl).trans x2, (hb.cell (p := ⟨n4, 3, none⟩) xl).trans x3, (hb.cell (p := ⟨n4, 4, none⟩) xl).trans x4⟩)
       clear hpe
       go_cut [14] (fun s14 wx => ∃ n14 : Nat, s14 = .pointer (some ⟨n14, 0, none⟩) ∧ Aside0 (RwS X A0 A1 A2 A3 A4 c0 c1 c2 c3 c4 n4 (n4 + 1) n10 g w0 w ws (.slice Bw ws.length dw) fs (.slice Bf fs.length df) r (.slice Ar r.length cr) a1 b1 wx ∧ wx.heap[n14]? = some (.cells #[.int .i64 lo, .int .i64 hh] 47 (0, 0))))
       case first =>
        have HDR := Aside0.mk (show Below w4.heap.size w4 w4.drew from Below.drew (Below.refl _ _))
        have HDA := Aside0.mk (show Below w4.heap.size w4 (w4.alloc (.cells #[.int .i64 0, .int .i64 0] 47)).drew from Below.drew ((Below.refl _ _).alloc (Nat.le_refl _) _))
        have HZ := Aside0.mk (blk_drew (blk_new w4 (.cells #[.int .i64 0, .int .i64 0] 47)))
        go_region_held3 (fun w' => w'.cell? ⟨n4, 0, none⟩ = some (.slice A0 X.l0.length c0) ∧ w'.cell? ⟨n4, 1, none⟩ = some (.slice A1 X.l1.length c1) ∧ w'.cell? ⟨n4, 2, none⟩ = some (.slice A2 X.l2.length c2) ∧ w'.cell? ⟨n4, 3, none⟩ = some (.slice A3 X.l3.length c3) ∧ w'.cell? ⟨n4, 4, none⟩ = some (.slice A4 X.l4.length c4))
         (first | exact HCC.out _ HDR.out | exact HCC.out _ HDA.out | exact HCC.out _ HB5.out | exact HCC.out _ (HB5.out.alloc HB5.out.size _) | exact HCC.out _ ((HB5.out.setCell (Nat.le_refl _) _).setCell (Nat.le_refl _) _))
         (first
          | (go_at_call 57; refine (HWD.out _ (HR4.out.next HGG.out.1 HDR.out).m.k).mono ?_; rintro e w5 ⟨rfl, hb⟩; have HB5 := Aside0.mk (show Below w4.heap.size w4 w5 from HDR.out.trans hb); clear hb)
          | (go_at_call 57; refine (HWD.out _ (HR4.out.next HGG.out.1 HDA.out).m.k).mono ?_; rintro e w5 ⟨rfl, hb⟩; have HB5 := Aside0.mk (show Below w4.heap.size w4 w5 from HDA.out.trans (hb.mono HDA.out.size)); have hz := blk_below HZ.out hb; have y0 := (blk_cell hz 0).trans (show _ = some (.int .i64 0) from rfl); have y1 := (blk_cell hz 1).trans (show _ = some (.int .i64 0) from rfl); have yl := blk_lt hz; have f0 := blk_frozen hz 0; have f1 := blk_frozen hz 1; clear hb))
        all_goals
         go_wp2_with fail
         refine Met.intro ?_
         go_step
         (repeat apply Exists.intro)
         refine ⟨?_, rfl⟩
         first
          | exact ⟨_, rfl, ⟨HR4.out.next HGG.out.1 (HB5.out.alloc HB5.out.size _), blk_new _ _⟩⟩
          | exact ⟨_, rfl, ⟨HR4.out.next HGG.out.1 ((HB5.out.setCell (Nat.le_refl _) _).setCell (Nat.le_refl _) _), blk_put (cs := #[.int .i64 lo, .int .i64 0]) (blk_put (cs := #[.int .i64 0, .int .i64 0]) hz 0 _ rfl) 1 _ rfl⟩⟩
       case rest =>
        obtain ⟨n14, rfl, HR6⟩ := hcut
        clear x0 x1 x2 x3 x4 xl hpq hpq2 hs0 hs1 hs2 hs3 HR4 HR HCC HWD
        have HGN := Aside0.mk HR6.out.2
        obtain ⟨t, a2, b2, ht, t0, t1⟩ := of_ok a1 b1 lo hh HBD.out.1 HBD.out.2.1 (by have := HBD.out; omega)
        obtain ⟨u, a3, b3, hu, u0, u1⟩ := up_ok a2 b2 3 (by decide)
        obtain ⟨z, a4, b4, hv, z0, z1⟩ := up_ok a3 b3 3 (by decide)
        have HT1 := Aside0.mk ht
        have HU1 := Aside0.mk hu
        have HV1 := Aside0.mk hv
        have HTUZ := Aside0.mk (show (lo ≤ t ∧ t ≤ hh) ∧ (0 ≤ u ∧ u ≤ 3) ∧ (0 ≤ z ∧ z ≤ 3) by omega)
        have y0 := (blk_cell HR6.out.2 0).trans (show _ = some (.int .i64 lo) from rfl)
        have y1 := (blk_cell HR6.out.2 1).trans (show _ = some (.int .i64 hh) from rfl)
        have yl := blk_lt HR6.out.2
        have hw1 : wrap64 (t - u) = t - u := by have := HBD.out; have := HTUZ.out; simp [wrap64]; omega
        have hw2 : wrap64 (t + z) = t + z := by have := HBD.out; have := HTUZ.out; clear hw1; simp [wrap64]; omega
        obtain ⟨lw, hlw⟩ : ∃ lw, lw = mx 0 (t - u) := ⟨_, rfl⟩
        have hlw2 : (if 0 < wrap64 (t - u) then wrap64 (t - u) else 0) = lw := by rw [hw1, hlw]; rfl
        have HLW := Aside0.mk hlw
        clear ht hu hv t0 t1 u0 u1 z0 z1 hlw hw1
        have HRL := Aside0.mk (show (r.length + 1) * 40 ≤ 140737488355328 by have := HI.out.l; have := HI.out.n; have := HPZ.out; omega)
        go_upto_region 15 with first
         | (go_at_call 73; refine (cippuskit_Urn_Of.calls g a1 b1 lo hh t a2 b2 w0 _ HR6.out.1.m.i HR6.out.1.m.b HT1.out).mono ?_; rintro e w7 ⟨rfl, hi, hb, hk⟩; have HR7 := Aside0.mk (HR6.out.1.call HGG.out.1 hi hb hk); clear hi hb hk y0 y1 yl)
         | ((fail_if_success (have h_ := HR8.out)); go_at_call 30; refine (cippuskit_Urn_Up.calls g a2 b2 3 u a3 b3 w0 _ HR7.out.m.i HR7.out.m.b HU1.out).mono ?_; rintro e w8 ⟨rfl, hi, hb, hk⟩; have HR8 := Aside0.mk (HR7.out.call HGG.out.1 hi hb hk); clear hi hb hk)
         | (go_at_call 30; refine (cippuskit_Urn_Up.calls g a3 b3 3 z a4 b4 w0 _ HR8.out.m.i HR8.out.m.b HV1.out).mono ?_; rintro e w9 ⟨rfl, hi, hb, hk⟩; have HR9 := Aside0.mk (HR8.out.call HGG.out.1 hi hb hk); clear hi hb hk)
         | (at_builtin; refine Kd.R_append k49 (w0 := w9) w.heap.size rfl (.tmp 66) (.tmp 78) 29 49 (.agg #[(.string ⟨#[]⟩), (.bool false), (.int .i64 0), (.int .i64 0)]) 40 rfl Try.underlying29 info49 rfl (by decide) (by omega) (.slice Ar r.length cr) r (⟨⟨#[]⟩, true, ⟨lw, t + z⟩⟩ : S49) [.string ⟨#[]⟩, .bool true, .int .i64 lw, .int .i64 (t + z)] (fun _ => True) (fun _ => False) rfl rfl ?aP (fun _ hk => hk.elim) ?aF ?aO ?aB ?aS ?aL ?_; (case aP => exact k49_mkM _ _ _ (⟨⟨#[]⟩, true, ⟨lw, t + z⟩⟩ : S49)); (case aF => exact (fun _ _ => trivial)); (case aO => exact HR9.out.rr); (case aB => exact Below.refl _ _); (case aS => exact HR9.out.m.k.1); (case aL => exact HRL.out); intro v10 w10 ho hb hg hat; have HR10 := Aside0.mk (HR9.out.appR HGG.out.1.1 HW0.out hg ho); clear ho hb hg hat)
         | fail
        have HFL := Aside0.mk (show (fs.length + 1) * 8 ≤ 140737488355328 by have := HI.out.n; omega)
        have y1 := (blk_cell HR10.out.b10 1).trans (show _ = some (.slice Bf fs.length df) from rfl)
        have yl := blk_lt HR10.out.b10
        have hpq : wrap64 ((p : Int) + (q : Int)) = ((p + q : Nat) : Int) := by have := HPZ.out; have := HQ.out; simp [wrap64]; omega
        obtain ⟨g1, g2, g3⟩ := gap_good HM.out HJ.out HQ.out.1 HQ.out.2 (t := t) (u := u) (z := z) (lo := lw) (by rw [← HPE.out, ← HLH.out.1]; exact HTUZ.out.1.1) (by rw [← HPE.out, ← HLH.out.2]; exact HTUZ.out.1.2) HTUZ.out.2.1 HTUZ.out.2.2 HLW.out
        have HGP := Aside0.mk (HI.out.gap (c := ⟨⟨#[]⟩, true, ⟨lw, t + z⟩⟩) HQ.out.1 (by have := HQ.out; omega) HF.out rfl g1 g2 g3)
        clear g1 g2 g3 hlw2 hw2
        go_wp2_with first
         | (at_builtin; refine Kd.R_append (Kd.int .i64) (w0 := w10) w.heap.size rfl (.tmp 81) (.tmp 83) 22 3 (.int .i64 0) 8 rfl Try.underlying22 info3 rfl (by decide) (by omega) (.slice Bf fs.length df) fs (q : Int) [.int .i64 (q : Int)] (fun _ => True) (fun _ => False) rfl rfl ?aP (fun _ hk => hk.elim) ?aF ?aO ?aB ?aS ?aL ?_; (case aP => exact rfl); (case aF => exact (fun _ _ => trivial)); (case aO => exact HR10.out.rf); (case aB => exact Below.refl _ _); (case aS => exact HR10.out.m.k.1); (case aL => exact HFL.out); intro v11 w11 ho hb hg hat; obtain ⟨B11, d11, rfl⟩ := Kd.R_slice ho; have HR11 := Aside0.mk (HR10.out.appF HGG.out.1.1 HW0.out HGG.out.2 hg hat ho); have hb10 := (hg.block n10 (blk_lt HR10.out.b10) (Kd.R_ne HR10.out.rf HR10.out.b10 (by decide))).trans HR10.out.b10; have e1 := (blk_cell hb10 1).trans (show _ = some (.slice Bf fs.length df) from rfl); have el := blk_lt hb10; have ef := blk_frozen hb10 1; clear ho hb hg hat)
         | fail
        go_roundg (gk - (1 + q))
        case measure => have := HGH.out; have := HF.out; omega
        case rel => exact ⟨p + q, _, _, _, _, a4, b4, by have := HGH.out; have := HF.out; have := HQ.out; rw [List.length_append, List.length_singleton]; omega, by rw [hpq], rfl, HGP, by have h := HR11; rw [show (fs ++ [(q : Int)]).length = fs.length + 1 by simp] at h; exact h⟩
    ·have hz : ¬ (p : Int) < (T.size : Int) := by omega
     have hd : decide (p < T.size) = false := decide_eq_false hlt
     have hd2 : decide ((p : Int) < (T.size : Int)) = false := decide_eq_false hz
     clear hgh
     have y0 := (blk_cell HR.out.b10 0).trans (show _ = some (.slice Bw ws.length dw) from rfl)
     have y1 := (blk_cell HR.out.b10 1).trans (show _ = some (.slice Bf fs.length df) from rfl)
     have yl := blk_lt HR.out.b10
     go_upto_region 18 with fail
     have x0 := (blk_cell HR.out.b7 0).trans (show _ = some (.slice none 0 0) from rfl)
     have x1 := (blk_cell HR.out.b7 1).trans (show _ = some (.slice none 0 0) from rfl)
     have xl := blk_lt HR.out.b7
     have f0 := blk_frozen HR.out.b7 0
     have f1 := blk_frozen HR.out.b7 1
     have hne1 : n4 + 1 ≠ n10 := HGG.out.2.2.1
     have hne2 : n10 ≠ n4 + 1 := fun e => hne1 e.symm
     have HE := Aside0.mk (show p = T.size by have := HI.out.le; omega)
     clear hlt hz hd hd2
     go_region
     have hF := blk_drew (blk_put (cs := #[.slice Bw ws.length dw, .slice none 0 0]) (blk_put (cs := #[.slice none 0 0, .slice none 0 0]) HR.out.b7 0 (.slice Bw ws.length dw) rfl) 1 (.slice Bf fs.length df) rfl)
     have n1 : (Value.slice Ar r.length cr).ownBlock ≠ some (n4 + 1) := fun e => Kd.R_ne HR.out.rr HR.out.b7 (by decide) e.symm
     have n2 : (Value.slice Bw ws.length dw).ownBlock ≠ some (n4 + 1) := fun e => Kd.R_ne HR.out.rw HR.out.b7 (by decide) e.symm
     have n3 : (Value.slice Bf fs.length df).ownBlock ≠ some (n4 + 1) := fun e => Kd.R_ne HR.out.rf HR.out.b7 (by decide) e.symm
     have HRR := Aside0.mk (R_st (R_fb (o := 1) rfl (R_fb (o := 0) rfl HR.out.rr n1 (.slice Bw ws.length dw)) n1 (.slice Bf fs.length df)) (fun k _ _ => rfl : ∀ k, _ → _ → ((wr.setCell ⟨n4 + 1, 0, none⟩ (.slice Bw ws.length dw)).setCell ⟨n4 + 1, 1, none⟩ (.slice Bf fs.length df)).drew.heap[k]? = _))
     have HRW := Aside0.mk (R_st (R_fb (o := 1) rfl (R_fb (o := 0) rfl HR.out.rw n2 (.slice Bw ws.length dw)) n2 (.slice Bf fs.length df)) (fun k _ _ => rfl : ∀ k, _ → _ → ((wr.setCell ⟨n4 + 1, 0, none⟩ (.slice Bw ws.length dw)).setCell ⟨n4 + 1, 1, none⟩ (.slice Bf fs.length df)).drew.heap[k]? = _))
     have HRF := Aside0.mk (R_st (R_fb (o := 1) rfl (R_fb (o := 0) rfl HR.out.rf n3 (.slice Bw ws.length dw)) n3 (.slice Bf fs.length df)) (fun k _ _ => rfl : ∀ k, _ → _ → ((wr.setCell ⟨n4 + 1, 0, none⟩ (.slice Bw ws.length dw)).setCell ⟨n4 + 1, 1, none⟩ (.slice Bf fs.length df)).drew.heap[k]? = _))
     have HMF := Aside0.mk (((HR.out.m.set (p := ⟨n4 + 1, 0, none⟩) (by show w.heap.size ≤ n4 + 1; have := HN4.out; omega) HGG.out.1.1 (.slice Bw ws.length dw)).set (p := ⟨n4 + 1, 1, none⟩) (by show w.heap.size ≤ n4 + 1; have := HN4.out; omega) HGG.out.1.1 (.slice Bf fs.length df)).drew)
     have HRT := Aside0.mk (show RT X (wordsV X ws) 0 0 r fs by
      have h := HI.out.k [] [] (by rw [HE.out]; exact RT.end_ HI.out.n)
      rw [List.append_nil, List.append_nil, HTE.out] at h
      exact h)
     clear x0 x1 xl f0 f1 y0 y1 yl hne1 hne2 n1 n2 n3
     go_wp2_with fail
     refine bodyPost_ret (results_list (rs := [.tmp 6, .cell 7 31]) rfl (by simp) (.tmp (.cell (n4 + 1) 31 #[.slice Bw ws.length dw, .slice Bf fs.length df] (0, 0) _ rfl hF Try.underlying31 rfl (by kernel_rfl) .nil))) rfl ?_
     exact ⟨r, fs, _, _, Ar, Bw, Bf, cr, dw, df, rfl, HRT.out, ⟨Ft.ofR HRR.out HG.out.2, Ft.ofR HRW.out HG.out.2, Ft.ofR HRF.out HG.out.2, (Kd.R_reads' HRR.out).2.1, (Kd.R_reads' HRW.out).2.1, (Kd.R_reads' HRF.out).2.1⟩, HMF.out.i, HMF.out.b, HMF.out.k⟩
end Go.Proofs.Ytkfebceainedfaa.P.OwnGap
namespace Go.Proofs.Ytkfebceainedfaa.P.OwnGap
open Go.RowKit Go.Shelf Go.Proofs.YtkfebceainedfaaW.PrintWords Go.Proofs.YtkfebceainedfaaW.PrintLast Go.Proofs.YtkfebceainedfaaW.PrintMore
open Go.Proofs.Ytkfebceainedfaa.OwnGap
set_option linter.unusedVariables false
set_option linter.unusedSimpArgs false
attribute [local go_sem] Oper.semAt_some
theorem bet_calls (a lo hi : Int) (h : inB a lo hi = true) (w : World) : Calls Try.prog 87 #[.int .i64 a, .int .i64 lo, .int .i64 hi] w fun e w' => e = .returned (.bool true) ∧ Below w.heap.size w w' :=
 (cippusref02_between.calls a lo hi _ w (by rw [in_r, h])).mono fun _ _ h => ⟨h.1, h.2.below⟩
theorem capr_calls (a : Int) (h : capB a = true) (w : World) : Calls Try.prog 104 #[.int .u8 a] w fun e w' => e = .returned (.bool true) ∧ Drawn0 w w' :=
 cippusref02_capital.calls a _ w (by rw [cap_r, h])
theorem wrapS (i : Nat) (h : i ≤ 1000) : wrap64 ((i : Int) + 1) = ((i + 1 : Nat) : Int) := by simp [wrap64]; omega
set_option maxHeartbeats 2000000 in
set_option maxRecDepth 100000 in
theorem forms_ok {X : Lx} {A0 A1 A2 A3 A4 Ar : Option Addr} {c0 c1 c2 c3 c4 cr : Nat} {w : World} (hin : LxIn X A0 A1 A2 A3 A4 Ar c0 c1 c2 c3 c4 cr w) (hc : OkC X) :
  Calls Try.prog 85 #[.agg #[.slice A0 X.l0.length c0, .slice A1 X.l1.length c1, .slice A2 X.l2.length c2, .slice A3 X.l3.length c3, .slice A4 X.l4.length c4]] w fun e w' => e = .returned (.int .i64 0) ∧ Below w.heap.size w w' := by
 have HIN := Aside0.mk hin
 have HC := Aside0.mk hc
 have q1 := hc.f1
 have q2 := hc.f5
 have q3 := hc.l2
 have q4 := hc.l3
 have z1 : ((X.l1.length : Int) == 0) = false := beq_eq_false_iff_ne.mpr (by omega)
 have z2 : decide ((X.l1.length : Int) > 5) = false := decide_eq_false (by omega)
 have z3 : decide (5 < X.l1.length) = false := decide_eq_false (by omega)
 have z4 : decide (5 < (X.l1.length : Int)) = false := decide_eq_false (by omega)
 have z5 : ((X.l2.length : Int) != (X.l1.length : Int)) = false := by simp [q3]
 have z6 : ((X.l3.length : Int) != (X.l1.length : Int)) = false := by simp [q4]
 clear hin hc q1 q2 q3 q4
 obtain ⟨n1, hn1⟩ : ∃ n, n = w.heap.size := ⟨_, rfl⟩
 have HN1 := Aside0.mk hn1
 go_enter Try.func85, Try.ntmps85
 go_upto_region 1 with fail
 refine wp_gen (fun wx => Aside0 (BxS n1 #[.slice A0 X.l0.length c0, .slice A1 X.l1.length c1, .slice A2 X.l2.length c2, .slice A3 X.l3.length c3, .slice A4 X.l4.length c4] 28 w wx)) ⟨by rw [hn1]; exact BxS.start _ _ w⟩ ?_
 rw [← hn1]
 clear hn1
 rintro w1 HS
 have x1 := (HS.out.cell 1).trans (show _ = some (.slice A1 X.l1.length c1) from rfl)
 have x2 := (HS.out.cell 2).trans (show _ = some (.slice A2 X.l2.length c2) from rfl)
 have x3 := (HS.out.cell 3).trans (show _ = some (.slice A3 X.l3.length c3) from rfl)
 have xl := blk_lt HS.out.2
 go_wp2_with fail
 go_loopg [4] X.l1.length (fun gh s4 wr => ∃ i : Nat, i + gh = X.l1.length ∧ s4 = .int .i64 (i : Int) ∧ Aside0 (BxS n1 #[.slice A0 X.l0.length c0, .slice A1 X.l1.length c1, .slice A2 X.l2.length c2, .slice A3 X.l3.length c3, .slice A4 X.l4.length c4] 28 w wr))
 case atStart => exact ⟨0, by omega, rfl, HS⟩
 case round =>
  clear HS x1 x2 x3 xl z1 z2 z3 z4 z5 z6
  obtain ⟨i, hi, rfl, HS⟩ := hrel
  have HI := Aside0.mk hi
  by_cases hlt : i < X.l1.length
  ·have hz : (i : Int) < (X.l1.length : Int) := by omega
   have hz3 : (i : Int) < (X.l3.length : Int) := by have := HC.out.l3; omega
   have hd : decide (i < X.l1.length) = true := decide_eq_true hlt
   have hd2 : decide ((i : Int) < (X.l1.length : Int)) = true := decide_eq_true hz
   have h0 : (0 : Int) ≤ (i : Int) := by omega
   have hi5 := wrapS i (by have := HC.out.f5; omega)
   have HLT := Aside0.mk hlt
   obtain ⟨nd, An, cn, hA3, r0, -, -⟩ := at_L1 (Kd.C_below HIN.out.h3 (by rw [← HN1.out]; exact HS.out.1)) (i : Int) h0 hz3
   rw [Int.toNat_natCast] at r0
   subst hA3
   have rl := World.block_lt_of_cell? wr _ r0
   rw [HC.out.l3r i hlt] at r0
   have z7 : ((X.l1.length : Int) != (X.l1.length : Int)) = false := by simp
   have x3 := (HS.out.cell 3).trans (show _ = some (.slice (some nd) X.l3.length c3) from rfl)
   have xl := blk_lt HS.out.2
   clear hi hlt
   go_wp2_with fail
   go_roundg (gk - 1)
   case measure => have := HI.out; have := HLT.out; omega
   case rel => exact ⟨i + 1, by have := HI.out; have := HLT.out; omega, by go_num, HS⟩
  ·have hz : ¬ (i : Int) < (X.l1.length : Int) := by omega
   have hd : decide (i < X.l1.length) = false := decide_eq_false hlt
   have hd2 : decide ((i : Int) < (X.l1.length : Int)) = false := decide_eq_false hz
   clear hi hlt
   go_wp2_with fail
   go_ret
   exact ⟨rfl, HN1.out ▸ HS.out.1⟩
set_option maxHeartbeats 2000000 in
set_option maxRecDepth 100000 in
theorem rword_ok {X : Lx} {A0 A1 A2 A3 A4 Ar : Option Addr} {c0 c1 c2 c3 c4 cr : Nat} {w : World} (hin : LxIn X A0 A1 A2 A3 A4 Ar c0 c1 c2 c3 c4 cr w) (hc : OkC X) {i : Nat} (hi : i < X.l0.length) :
  Calls Try.prog 86 #[.agg #[.slice A0 X.l0.length c0, .slice A1 X.l1.length c1, .slice A2 X.l2.length c2, .slice A3 X.l3.length c3, .slice A4 X.l4.length c4], .slice A0 i c0, .agg #[.string (rd_T53 X.l0 (i : Int)).f0, .int .i64 (rd_T53 X.l0 (i : Int)).f1]] w fun e w' => e = .returned (.int .i64 0) ∧ Below w.heap.size w w' := by
 have hu53 := Try.underlying53
 obtain ⟨h1, h2, h3, h4⟩ := wordV_zero (hc.wd i hi)
 have hn12 := hc.n12
 obtain ⟨x, hx⟩ : ∃ x, x = rd_T53 X.l0 (i : Int) := ⟨_, rfl⟩
 rw [← hx] at h1 h2 h3 h4 ⊢
 obtain ⟨n0, hn0⟩ : ∃ n, n = w.heap.size := ⟨_, rfl⟩
 have HN0 := Aside0.mk hn0
 have HR := Aside0.mk hin.h0
 have HN := Aside0.mk (show ∀ j : Nat, j < i → ¬ ((rd_T53 X.l0 (j : Int)).f0.toList = x.f0.toList ∧ (rd_T53 X.l0 (j : Int)).f1 = x.f1) from fun j hj e => by
  have h := List.any_eq_false.1 h4 (rd_T53 X.l0 (j : Int)) (by
   rw [show rd_T53 X.l0 (j : Int) = X.l0[j] by simp [rd_T53, List.getD_eq_getElem?_getD, show j < X.l0.length by omega]]
   exact List.mem_take_iff_getElem.2 ⟨j, by omega, rfl⟩)
  simp [sameW, e.1, e.2] at h)
 have HI12 := Aside0.mk (show i < X.l0.length ∧ i ≤ 12 by omega)
 have HI1 := Aside0.mk (inB_true.2 h1)
 have hf1 := hc.f1
 have hf5 := hc.f5
 have hw1 : wrap64 ((X.l1.length : Int) - 1) = (X.l1.length : Int) - 1 := wrap64_small (by omega) (by omega)
 have hw2 : IntKind.i64.wrap ((X.l1.length : Int) - 1) = (X.l1.length : Int) - 1 := by rw [i64_w]; exact hw1
 have HI3 := Aside0.mk (inB_true.2 h3)
 have HT := Aside0.mk h2
 have HZ := Aside0.mk h1.2
 clear hin hc hi h1 h2 h3 h4 hn12 hx hf1 hf5
 go_enter Try.func86, Try.ntmps86
 go_upto_region 1 with fail
 refine wp_gen (fun wx => Aside0 (Bx2 n0 #[.slice A0 X.l0.length c0, .slice A1 X.l1.length c1, .slice A2 X.l2.length c2, .slice A3 X.l3.length c3, .slice A4 X.l4.length c4] 28 #[.string x.f0, .int .i64 x.f1] 53 w wx)) ⟨by rw [hn0]; exact Bx2.start _ _ _ _ w⟩ ?_
 rw [← hn0]
 clear hn0
 rintro w1 HS
 have y0 := (HS.out.cell 0).trans (show _ = some (.string x.f0) from rfl)
 have yl := blk_lt HS.out.2
 go_wp2_with first
  | (go_at_call 87; refine (bet_calls x.f0.size 1 8 HI1.out w1).mono ?_; rintro e w2 ⟨rfl, hb⟩; have HS2 := Aside0.mk (HS.out.next hb); clear y0 yl hb)
  | fail
 go_loopg [7] x.f0.size (fun gh v7 wr => ∃ i : Nat, i + gh = x.f0.size ∧ v7 = .int .i64 (i : Int) ∧ Aside0 (Bx2 n0 #[.slice A0 X.l0.length c0, .slice A1 X.l1.length c1, .slice A2 X.l2.length c2, .slice A3 X.l3.length c3, .slice A4 X.l4.length c4] 28 #[.string x.f0, .int .i64 x.f1] 53 w wr))
 case atStart => exact ⟨0, by omega, rfl, HS2⟩
 case round =>
  clear HS HS2
  obtain ⟨j, hj, rfl, HS⟩ := hrel
  have HJ := Aside0.mk hj
  have y0 := (HS.out.cell 0).trans (show _ = some (.string x.f0) from rfl)
  have y1 := (HS.out.cell 1).trans (show _ = some (.int .i64 x.f1) from rfl)
  have yl := blk_lt HS.out.2
  by_cases hlt : j < x.f0.size
  ·have hz : (j : Int) < (x.f0.size : Int) := by omega
   have hd : decide (j < x.f0.size) = true := decide_eq_true hlt
   have hd2 : decide ((j : Int) < (x.f0.size : Int)) = true := decide_eq_true hz
   have h0 : (0 : Int) ≤ (j : Int) := by omega
   have hw := wrapS j (by have := HZ.out; omega)
   have HLT := Aside0.mk hlt
   have hb := bt_at x.f0 (j : Int) (by simpa using hlt)
   simp only [Int.toNat_natCast] at hb
   have HCB := Aside0.mk (show capB (bt x.f0 (j : Int)) = true from inB_true.2 (HT.out j hlt))
   clear hj
   go_wp2_with first
    | (go_at_call 104; refine (capr_calls _ HCB.out wr).mono ?_; rintro e w2 ⟨rfl, hb5⟩; have HS2 := Aside0.mk (HS.out.next hb5.below); clear hb5)
    | fail
   go_roundg (gk - 1)
   case measure => have := HJ.out; have := HLT.out; omega
   case rel => exact ⟨j + 1, by have := HJ.out; have := HLT.out; omega, by go_num, HS2⟩
  ·have hz : ¬ (j : Int) < (x.f0.size : Int) := by omega
   have hd : decide (j < x.f0.size) = false := decide_eq_false hlt
   have hd2 : decide ((j : Int) < (x.f0.size : Int)) = false := decide_eq_false hz
   have x1 := (HS.out.1.cell 1).trans (show _ = some (.slice A1 X.l1.length c1) from rfl)
   have xl := blk_lt HS.out.1.2
   clear hj hlt
   go_wp2_with first
    | (go_at_call 87; refine (bet_calls x.f1 0 ((X.l1.length : Int) - 1) HI3.out wr).mono ?_; rintro e w2 ⟨rfl, hb⟩; have HS2 := Aside0.mk (HS.out.next hb); clear y0 y1 yl hb x1 xl)
    | fail
   go_loopg [8] i (fun gh v8 wr => ∃ j : Nat, j + gh = i ∧ v8 = .int .i64 (j : Int) ∧ Aside0 (Bx2 n0 #[.slice A0 X.l0.length c0, .slice A1 X.l1.length c1, .slice A2 X.l2.length c2, .slice A3 X.l3.length c3, .slice A4 X.l4.length c4] 28 #[.string x.f0, .int .i64 x.f1] 53 w wr))
   case atStart => exact ⟨0, by omega, rfl, HS2⟩
   case round =>
    clear HS HS2 hz hd hd2
    obtain ⟨j, hj, rfl, HS⟩ := hrel
    have HJ := Aside0.mk hj
    by_cases hlt : j < i
    ·have hz : (j : Int) < (i : Int) := by omega
     have hd : decide (j < i) = true := decide_eq_true hlt
     have hd2 : decide ((j : Int) < (i : Int)) = true := decide_eq_true hz
     have h0 : (0 : Int) ≤ (j : Int) := by omega
     have hzl : (j : Int) < (X.l0.length : Int) := by have := HI12.out; omega
     have hw := wrapS j (by have := HI12.out; omega)
     have HLT := Aside0.mk hlt
     obtain ⟨ad, rfl, e0, e1⟩ := at_T53 (Kd.C_below HR.out (HN0.out ▸ HS.out.1.1)) (j : Int) h0 hzl
     rw [Int.toNat_natCast] at e0 e1
     have el := World.block_lt_of_cell? wr _ e0
     have hne : ¬ (rd_T53 X.l0 (j : Int)).f0.toList = x.f0.toList ∨ ((rd_T53 X.l0 (j : Int)).f0.toList = x.f0.toList ∧ ¬ (rd_T53 X.l0 (j : Int)).f1 = x.f1) := by
      by_cases ht : (rd_T53 X.l0 (j : Int)).f0.toList = x.f0.toList
      ·exact .inr ⟨ht, fun e => HN.out j hlt ⟨ht, e⟩⟩
      ·exact .inl ht
     have y0 := (HS.out.cell 0).trans (show _ = some (.string x.f0) from rfl)
     have y1 := (HS.out.cell 1).trans (show _ = some (.int .i64 x.f1) from rfl)
     have yl := blk_lt HS.out.2
     clear hj hlt
     rcases hne with hne | ⟨ht, hne⟩
     all_goals
      go_wp2_with fail
      go_quiet (fail)
      go_wp2_with fail
      go_roundg (gk - 1)
      case measure => have := HJ.out; have := HLT.out; omega
      case rel => exact ⟨j + 1, by have := HJ.out; have := HLT.out; omega, by go_num, ⟨HS.out.drewN _⟩⟩
    ·have hz : ¬ (j : Int) < (i : Int) := by omega
     have hd : decide (j < i) = false := decide_eq_false hlt
     have hd2 : decide ((j : Int) < (i : Int)) = false := decide_eq_false hz
     clear hj hlt
     go_wp2_with fail
     go_ret
     exact ⟨rfl, HN0.out ▸ HS.out.1.1⟩
end Go.Proofs.Ytkfebceainedfaa.P.OwnGap
