/- Lemmas for the statement GapTrue of the given program, for every input that its row lets in. Conditions: none beyond those that each lemma tells. -/
import Derived.Deep.RegionHeld3
import Derived.Deep.LoopGhost
import Derived.Shelf.Abstract
import Derived.Deep.AppendLies
import Derived.WalkKit
import Derived.Laws.CopyOwn
import Derived.Lib.SliceRun
import Derived.RangeFuncNested
import Derived.RangeFuncBound
import Derived.RangeFuncCalls
import Derived.RangeFuncLeaves
import Derived.Shelf.RegionOpen
import Derived.OwnWalkIn
import Derived.TacticsInMore
import Derived.LoopNIn
import Derived.LoopIn
import Derived.Maps.OwnIn
import Derived.Test.YtkfebceainedfaaMGapTrue2
set_option linter.unusedVariables false
set_option linter.unusedSimpArgs false
namespace Go.Proofs.Ytkfebceainedfaa.P.OwnGap
open Go.RowKit Go.Proofs.YtkfebceainedfaaW.PrintWords Go.Proofs.YtkfebceainedfaaW.PrintLast Go.Proofs.YtkfebceainedfaaW.PrintMore
open Go.Proofs.Ytkfebceainedfaa.OwnGap
set_option linter.unusedVariables false
set_option linter.unusedSimpArgs false
def gapsFrom (R : Rw) (i rem : Nat) : Nat := ((List.range' i rem).filter R.gap).length
theorem gapsFrom_gap {R : Rw} {i rem : Nat} (h : R.gap i = true) : gapsFrom R i (rem + 1) = gapsFrom R (i + 1) rem + 1 := by
 unfold gapsFrom
 rw [List.range'_succ, List.filter_cons_of_pos h, List.length_cons]
theorem gapsFrom_cell {R : Rw} {i rem : Nat} (h : R.gap i = false) : gapsFrom R i (rem + 1) = gapsFrom R (i + 1) rem := by
 unfold gapsFrom
 rw [List.range'_succ, List.filter_cons_of_neg (by rw [h]; decide)]
set_option maxRecDepth 20000 in
theorem letterF_ok (X : Lx) (a : Int) (hw : 0 ≤ (rwOf X).wl a ∧ (rwOf X).wl a ≤ 1000 ∧ 0 ≤ (rwOf X).wh a ∧ (rwOf X).wh a ≤ 1000) : ∀ (rem i m : Nat) (l h : Int) (fs : List Int), i + rem = X.r.length → m ≤ 10 → 0 ≤ l → l ≤ m * 1000 → 0 ≤ h → h ≤ m * 1000 → fs.length + gapsFrom (rwOf X) i rem ≤ 3 →
  ∀ q ∈ letterF (rwOf X) rem i m l h fs a, OkP X q
 | 0, i, m, l, h, fs, hi, hm, h0, h1, h2, h3, hg, q, hq => by
  rw [letterF] at hq
  exact absurd hq (by simp)
 | rem + 1, i, m, l, h, fs, hi, hm, h0, h1, h2, h3, hg, q, hq => by
  rw [letterF_succ] at hq
  by_cases hgap : (rwOf X).gap i = false
  ·rw [if_pos hgap] at hq
   rw [gapsFrom_cell hgap] at hg
   by_cases hf : (rwOf X).fit i a = true
   ·rw [if_pos hf, List.mem_singleton] at hq
    subst hq
    refine ⟨by show i + 1 ≤ X.r.length; omega, by show 0 ≤ 10; omega, by show (0 : Int) ≤ 0; omega, by show (0 : Int) ≤ ((0 : Nat) : Int) * 1000; omega, by show (0 : Int) ≤ 0; omega, by show (0 : Int) ≤ ((0 : Nat) : Int) * 1000; omega, ?_⟩
    show fs.length + gapsFrom (rwOf X) (i + 1) (X.r.length - (i + 1)) ≤ 3
    rw [show X.r.length - (i + 1) = rem by omega]
    exact hg
   ·rw [if_neg hf] at hq
    exact absurd hq (by simp)
  ·have hgap' : (rwOf X).gap i = true := by simpa using hgap
   rw [if_neg hgap] at hq
   have hg0 := hg
   rw [gapsFrom_gap hgap'] at hg
   rcases List.mem_append.1 hq with hq | hq
   ·by_cases hk : okW (rwOf X) i l h = true
    ·rw [if_pos hk] at hq
     exact letterF_ok X a hw rem (i + 1) 0 0 0 (fs ++ [(m : Int)]) (by omega) (by omega) (by omega) (by omega) (by omega) (by omega) (by rw [List.length_append, List.length_singleton]; omega) q hq
    ·rw [if_neg hk] at hq
     exact absurd hq (by simp)
   ·by_cases hk : m + 1 ≤ 10 ∧ l + (rwOf X).wl a ≤ (rwOf X).hi i
    ·rw [if_pos hk, List.mem_singleton] at hq
     subst hq
     refine ⟨by show i ≤ X.r.length; omega, by show m + 1 ≤ 10; omega, by show 0 ≤ l + (rwOf X).wl a; omega, by show l + (rwOf X).wl a ≤ ((m + 1 : Nat) : Int) * 1000; omega, by show 0 ≤ h + (rwOf X).wh a; omega, by show h + (rwOf X).wh a ≤ ((m + 1 : Nat) : Int) * 1000; omega, ?_⟩
     show fs.length + gapsFrom (rwOf X) i (X.r.length - i) ≤ 3
     rw [show X.r.length - i = rem + 1 by omega]
     exact hg0
    ·rw [if_neg hk] at hq
     exact absurd hq (by simp)
theorem letterP_ok (X : Lx) (a : Int) (hw : 0 ≤ (rwOf X).wl a ∧ (rwOf X).wl a ≤ 1000 ∧ 0 ≤ (rwOf X).wh a ∧ (rwOf X).wh a ≤ 1000) (p : Pth) (hp : OkP X p) : ∀ q ∈ letterP (rwOf X) p a, OkP X q :=
 letterF_ok X a hw _ _ _ _ _ _ (by show p.i + (X.r.length - p.i) = _; have := hp.i; omega) hp.m hp.l0 hp.l1 hp.h0 hp.h1 hp.g
theorem wordF_ok (X : Lx) (hw : ∀ a : Int, 65 ≤ a → a ≤ 90 → 0 ≤ (rwOf X).wl a ∧ (rwOf X).wl a ≤ 1000 ∧ 0 ≤ (rwOf X).wh a ∧ (rwOf X).wh a ≤ 1000) : ∀ (t : List Int) (l : List Pth), (∀ a ∈ t, 65 ≤ a ∧ a ≤ 90) → (∀ q ∈ l, OkP X q) → ∀ q ∈ wordF (rwOf X) l t, OkP X q
 | [], l, ht, hl, q, hq => hl q hq
 | a :: t, l, ht, hl, q, hq => by
  unfold wordF at hq
  have ha := ht a (by simp)
  refine wordF_ok X hw t _ (fun b hb => ht b (by simp [hb])) ?_ q hq
  intro x hx
  obtain ⟨p, hp, hx⟩ := List.mem_flatMap.1 hx
  exact letterP_ok X a (hw a ha.1 ha.2) p (hl p hp) x hx
def cnt : Nat → Nat → Nat
 | _, 0 => 1
 | 0, _ + 1 => 1
 | g + 1, t + 1 => cnt g (t + 1) + cnt (g + 1) t
theorem cnt_zero (g : Nat) : cnt g 0 = 1 := by rw [cnt]
theorem cnt_none (t : Nat) : cnt 0 t = 1 := by
 cases t with
 | zero => rw [cnt]
 | succ t => rw [cnt]
theorem cnt_step (g t : Nat) : cnt (g + 1) (t + 1) = cnt g (t + 1) + cnt (g + 1) t := by rw [cnt]
theorem cnt_pos (g : Nat) : ∀ t : Nat, 1 ≤ cnt g t
 | 0 => by rw [cnt_zero]; exact Nat.le_refl _
 | t + 1 => by
  cases g with
  | zero => rw [cnt_none]; exact Nat.le_refl _
  | succ g =>
   rw [cnt_step]
   have := cnt_pos (g + 1) t
   omega
theorem cnt_mono (t g : Nat) : cnt g t ≤ cnt (g + 1) t := by
 cases t with
 | zero => rw [cnt_zero, cnt_zero]; exact Nat.le_refl _
 | succ t => rw [cnt_step]; omega
theorem cnt_up {t : Nat} : ∀ {g g' : Nat}, g ≤ g' → cnt g t ≤ cnt g' t := by
 intro g g' h
 induction h with
 | refl => exact Nat.le_refl _
 | step _ ih => exact Nat.le_trans ih (cnt_mono t _)
theorem cnt_le : ∀ g t : Nat, cnt g t ≤ (t + 1) ^ g
 | 0, t => by rw [cnt_none, Nat.pow_zero]; exact Nat.le_refl _
 | g + 1, 0 => by rw [cnt_zero]; simp
 | g + 1, t + 1 => by
  rw [cnt_step]
  have h1 := cnt_le g (t + 1)
  have h2 := cnt_le (g + 1) t
  have h3 : (t + 1) ^ (g + 1) ≤ (t + 1 + 1) ^ g * (t + 1) := by
   rw [Nat.pow_succ]
   exact Nat.mul_le_mul_right _ (Nat.pow_le_pow_left (Nat.le_succ _) _)
  have h4 : (t + 1 + 1) ^ (g + 1) = (t + 1 + 1) ^ g * (t + 1) + (t + 1 + 1) ^ g := by
   rw [Nat.pow_succ, Nat.mul_succ]
  omega
theorem letterF_cnt (R : Rw) (a : Int) (t : Nat) : ∀ (rem i m : Nat) (l h : Int) (fs : List Int), i + rem = R.n →
  ((letterF R rem i m l h fs a).map fun q => cnt (gapsFrom R q.i (R.n - q.i)) t).sum ≤ cnt (gapsFrom R i rem) (t + 1)
 | 0, i, m, l, h, fs, hi => by
  rw [letterF]
  simp
 | rem + 1, i, m, l, h, fs, hi => by
  rw [letterF_succ]
  by_cases hgap : R.gap i = false
  ·rw [if_pos hgap, gapsFrom_cell hgap]
   by_cases hf : R.fit i a = true
   ·rw [if_pos hf]
    simp only [List.map_cons, List.map_nil, List.sum_cons, List.sum_nil, Nat.add_zero]
    rw [show R.n - (i + 1) = rem by omega]
    cases gapsFrom R (i + 1) rem with
    | zero => rw [cnt_none, cnt_none]; exact Nat.le_refl _
    | succ g => rw [cnt_step]; omega
   ·rw [if_neg hf]
    simp
  ·have hgap' : R.gap i = true := by simpa using hgap
   rw [if_neg hgap, gapsFrom_gap hgap', List.map_append, List.sum_append, cnt_step]
   refine Nat.add_le_add ?_ ?_
   ·by_cases hk : okW R i l h = true
    ·rw [if_pos hk]
     exact letterF_cnt R a t rem (i + 1) 0 0 0 _ (by omega)
    ·rw [if_neg hk]
     simp
   ·by_cases hk : m + 1 ≤ 10 ∧ l + R.wl a ≤ R.hi i
    ·rw [if_pos hk]
     simp only [List.map_cons, List.map_nil, List.sum_cons, List.sum_nil, Nat.add_zero]
     rw [show R.n - i = rem + 1 by omega, gapsFrom_gap hgap']
     exact Nat.le_refl _
    ·rw [if_neg hk]
     simp
def cntL (R : Rw) (l : List Pth) (t : Nat) : Nat := (l.map fun q => cnt (gapsFrom R q.i (R.n - q.i)) t).sum
theorem cntL_flat (R : Rw) (a : Int) (t : Nat) : ∀ l : List Pth, (∀ q ∈ l, q.i ≤ R.n) → cntL R (l.flatMap (letterP R · a)) t ≤ cntL R l (t + 1)
 | [], _ => Nat.le_refl _
 | p :: l, hl => by
  unfold cntL
  rw [List.flatMap_cons, List.map_append, List.sum_append, List.map_cons, List.sum_cons]
  refine Nat.add_le_add ?_ (cntL_flat R a t l (fun q hq => hl q (by simp [hq])))
  have := hl p (by simp)
  exact letterF_cnt R a t _ _ _ _ _ _ (by omega)
theorem cntL_length (R : Rw) (l : List Pth) (t : Nat) : l.length ≤ cntL R l t := by
 induction l with
 | nil => exact Nat.zero_le _
 | cons p l ih =>
  unfold cntL at ih ⊢
  rw [List.map_cons, List.sum_cons, List.length_cons]
  have := cnt_pos (gapsFrom R p.i (R.n - p.i)) t
  omega
theorem wordF_cnt (R : Rw) : ∀ (u : List Int) (l : List Pth) (t : Nat), (∀ q ∈ l, q.i ≤ R.n) → cntL R (wordF R l u) t ≤ cntL R l (t + u.length)
 | [], l, t, _ => Nat.le_refl _
 | a :: u, l, t, hl => by
  unfold wordF
  refine Nat.le_trans (wordF_cnt R u _ t ?_) ?_
  ·intro q hq
   obtain ⟨p, hp, hq⟩ := List.mem_flatMap.1 hq
   have := hl p hp
   exact letterF_le R a _ _ _ _ _ _ (by omega) q hq
  ·have := cntL_flat R a (t + u.length) l hl
   rw [List.length_cons, show t + (u.length + 1) = t + u.length + 1 by omega]
   exact this
end Go.Proofs.Ytkfebceainedfaa.P.OwnGap
namespace Go.Proofs.Ytkfebceainedfaa.P.OwnGap
open Go.RowKit Go.Proofs.YtkfebceainedfaaW.PrintWords Go.Proofs.YtkfebceainedfaaW.PrintLast Go.Proofs.YtkfebceainedfaaW.PrintMore
open Go.Proofs.Ytkfebceainedfaa.OwnGap
set_option linter.unusedVariables false
set_option linter.unusedSimpArgs false
def mayV (X : Lx) (words : Nat) (form f : Int) : Bool := if words = 0 then rdOf false X.l1 f else if words < 8 then rdOf false (rd_L1 X.l3 form) f else false
theorem mayV_zero {X : Lx} {k : Nat} {form f : Int} (h : k = 0) : mayV X k form f = rdOf false X.l1 f := if_pos h
theorem mayV_next {X : Lx} {k : Nat} {form f : Int} (h : k ≠ 0) (h8 : k < 8) : mayV X k form f = rdOf false (rd_L1 X.l3 form) f := (if_neg h).trans (if_pos h8)
theorem mayV_full {X : Lx} {k : Nat} {form f : Int} (h8 : 8 ≤ k) : mayV X k form f = false := (if_neg (by omega)).trans (if_neg (by omega))
set_option maxHeartbeats 1000000 in
set_option maxRecDepth 100000 in
theorem may_calls (X : Lx) (S : SV) (fits : List Int) (i m : Int) (l h : Int) (k : Nat) (form f : Int) (w : World) (hS : SrW X S fits w)
  (hf0 : 0 ≤ f) (hf1 : f < X.l1.length) (hg0 : 0 ≤ form) (hg1 : form < X.l3.length) (hg2 : f < (rd_L1 X.l3 form).length) (hk : k ≤ 1000) :
  Calls Try.prog 80 #[.pointer (some ⟨S.b, 0, none⟩), .agg #[.int .i64 i, .int .i64 m, .int .i64 l, .int .i64 h, .int .i64 (k : Int), .int .i64 form], .int .i64 f] w fun e w' => e = .returned (.bool (mayV X k form f)) ∧ Below w.heap.size w w' := by
 have HB := Aside0.mk (show Below w.heap.size w (w.alloc (.cells #[.int .i64 i, .int .i64 m, .int .i64 l, .int .i64 h, .int .i64 (k : Int), .int .i64 form] 139)) from (Below.refl _ _).alloc (Nat.le_refl _) _)
 have hb := blk_new w (.cells #[.int .i64 i, .int .i64 m, .int .i64 l, .int .i64 h, .int .i64 (k : Int), .int .i64 form] 139)
 have hS2 := hS.below HB.out
 have hbl := blk_lt hS.blk
 have b4 := (blk_cell hb 4).trans rfl
 have b5 := (blk_cell hb 5).trans rfl
 obtain ⟨a1, eA1, y1⟩ := Kd.at_bool hS2.h1 f hf0 hf1
 have c1 := hS2.cell 1 hS2.e1
 rw [eA1] at c1
 obtain ⟨a3, A0, c0, eA3, y3, hc0, hrow⟩ := at_L1 hS2.h3 form hg0 hg1
 have c3 := hS2.cell 3 hS2.e3
 rw [eA3] at c3
 obtain ⟨a4, eA4, y4⟩ := Kd.at_bool hrow f hf0 hg2
 rw [eA4] at y3
 have hbl2 := blk_lt hS2.blk
 clear hS hS2 hb hrow
 by_cases hz : k = 0
 ·rw [mayV_zero hz]
  have h0 : ((k : Int) == 0) = true := by rw [hz]; rfl
  clear hz
  go_enter Try.func80, Try.ntmps80
  go_wp2_with fail
  go_ret
  exact ⟨rfl, HB.out⟩
 ·have h0 : ((k : Int) == 0) = false := by simp; omega
  by_cases h8 : k < 8
  ·rw [mayV_next hz h8]
   have h8' : (k : Int) < 8 := by omega
   have h8d : decide ((k : Int) < 8) = true := decide_eq_true h8'
   go_enter Try.func80, Try.ntmps80
   go_wp2_with first | go_quiet (fail) | fail
   go_ret
   exact ⟨rfl, by first | exact HB.out | exact pw_below_drewN HB.out _ | exact pw_below_drewN (pw_below_drewN HB.out _) _⟩
  ·rw [mayV_full (by omega)]
   have h8' : ¬ (k : Int) < 8 := by omega
   have h8d : decide ((k : Int) < 8) = false := decide_eq_false h8'
   go_enter Try.func80, Try.ntmps80
   go_wp2_with first | go_quiet (fail) | fail
   go_ret
   exact ⟨rfl, by first | exact HB.out | exact pw_below_drewN HB.out _ | exact pw_below_drewN (pw_below_drewN HB.out _) _⟩
end Go.Proofs.Ytkfebceainedfaa.P.OwnGap
namespace Go.Proofs.Ytkfebceainedfaa.P.OwnGap
open Go.RowKit Go.Proofs.YtkfebceainedfaaW.PrintWords Go.Proofs.YtkfebceainedfaaW.PrintLast Go.Proofs.YtkfebceainedfaaW.PrintMore
open Go.Proofs.Ytkfebceainedfaa.OwnGap
set_option linter.unusedVariables false
set_option linter.unusedSimpArgs false
def spotP (p : Pth) : Pth := ⟨p.i, p.m, p.l, p.h, []⟩
def addFs (fs : List Int) (p : Pth) : Pth := ⟨p.i, p.m, p.l, p.h, fs ++ p.fs⟩
theorem spotP_add (fs : List Int) (p : Pth) : spotP (addFs fs p) = spotP p := rfl
theorem addFs_spot (p : Pth) : addFs p.fs (spotP p) = p := by
 obtain ⟨i, m, l, h, fs⟩ := p
 show (⟨i, m, l, h, fs ++ []⟩ : Pth) = _
 rw [List.append_nil]
theorem letterF_add (R : Rw) (a : Int) (fs : List Int) : ∀ (rem i m : Nat) (l h : Int) (gs : List Int), letterF R rem i m l h (fs ++ gs) a = (letterF R rem i m l h gs a).map (addFs fs)
 | 0, i, m, l, h, gs => by rw [letterF, letterF]; rfl
 | rem + 1, i, m, l, h, gs => by
  rw [letterF_succ, letterF_succ]
  by_cases hg : R.gap i = false
  ·rw [if_pos hg, if_pos hg]
   by_cases hf : R.fit i a = true
   ·rw [if_pos hf, if_pos hf]; rfl
   ·rw [if_neg hf, if_neg hf]; rfl
  ·rw [if_neg hg, if_neg hg, List.map_append]
   congr 1
   ·by_cases hk : okW R i l h = true
    ·rw [if_pos hk, if_pos hk, List.append_assoc]
     exact letterF_add R a fs rem (i + 1) 0 0 0 (gs ++ [(m : Int)])
    ·rw [if_neg hk, if_neg hk]; rfl
   ·by_cases hk : m + 1 ≤ 10 ∧ l + R.wl a ≤ R.hi i
    ·rw [if_pos hk, if_pos hk]; rfl
    ·rw [if_neg hk, if_neg hk]; rfl
theorem letterP_add (R : Rw) (a : Int) (fs : List Int) (p : Pth) : letterP R (addFs fs p) a = (letterP R p a).map (addFs fs) := letterF_add R a fs _ _ _ _ _ _
theorem flat_add (R : Rw) (a : Int) (fs : List Int) : ∀ l : List Pth, (l.map (addFs fs)).flatMap (letterP R · a) = (l.flatMap (letterP R · a)).map (addFs fs)
 | [] => rfl
 | p :: l => by rw [List.map_cons, List.flatMap_cons, List.flatMap_cons, List.map_append, letterP_add, flat_add R a fs l]
theorem wordF_add (R : Rw) (fs : List Int) : ∀ (t : List Int) (l : List Pth), wordF R (l.map (addFs fs)) t = (wordF R l t).map (addFs fs)
 | [], l => rfl
 | a :: t, l => by
  show wordF R ((l.map (addFs fs)).flatMap (letterP R · a)) t = (wordF R (l.flatMap (letterP R · a)) t).map (addFs fs)
  rw [flat_add]
  exact wordF_add R fs t _
theorem wordF_flat (R : Rw) : ∀ (u : List Int) (l : List Pth), wordF R l u = l.flatMap fun q => wordF R [q] u
 | [], l => by
  show l = l.flatMap fun q => [q]
  induction l with
  | nil => rfl
  | cons p l ih => rw [List.flatMap_cons, ← ih]; rfl
 | a :: u, l => by
  show wordF R (l.flatMap (letterP R · a)) u = l.flatMap fun q => wordF R ([q].flatMap (letterP R · a)) u
  rw [wordF_flat R u, List.flatMap_assoc]
  apply flatMap_eq
  intro q _
  rw [List.flatMap_cons, List.flatMap_nil, List.append_nil]
  exact (wordF_flat R u _).symm
theorem doneF_add (R : Rw) (fs : List Int) : ∀ (rem i m : Nat) (l h : Int) (gs : List Int), doneF R rem i m l h (fs ++ gs) = (doneF R rem i m l h gs).map (fs ++ ·)
 | 0, i, m, l, h, gs => rfl
 | rem + 1, i, m, l, h, gs => by
  rw [doneF, doneF]
  by_cases hk : R.gap i = true ∧ okW R i l h = true
  ·rw [if_pos hk, if_pos hk, List.append_assoc]
   exact doneF_add R fs rem (i + 1) 0 0 0 (gs ++ [(m : Int)])
  ·rw [if_neg hk, if_neg hk]; rfl
theorem doneP_add (R : Rw) (fs : List Int) (p : Pth) : doneP R (addFs fs p) = (doneP R p).map (fs ++ ·) := doneF_add R fs _ _ _ _ _ _
theorem doneP_spot (R : Rw) (p : Pth) : (doneP R (spotP p)).isSome = (doneP R p).isSome := by
 conv => rhs; rw [← addFs_spot p, doneP_add]
 cases doneP R (spotP p) <;> rfl
def endV (X : Lx) (p : Pth) (k : Nat) (f : Int) : Bool := decide (0 < k) && (rdOf false X.l2 f && (doneP (rwOf X) (spotP p)).isSome)
def aliveF (X : Lx) : Nat → Pth → Nat → Int → Bool
 | 0, p, k, f => endV X p k f
 | n + 1, p, k, f => endV X p k f || X.l0.any fun w => mayV X k f w.f1 && (wordF (rwOf X) [spotP p] (bytesOf w.f0)).any fun q => aliveF X n q (k + 1) w.f1
def aliveV (X : Lx) (p : Pth) (k : Nat) (f : Int) : Bool := aliveF X (8 - k) p k f
theorem aliveV_step (X : Lx) (p : Pth) (k : Nat) (f : Int) : aliveV X p k f = (endV X p k f || X.l0.any fun w => mayV X k f w.f1 && (wordF (rwOf X) [spotP p] (bytesOf w.f0)).any fun q => aliveV X q (k + 1) w.f1) := by
 unfold aliveV
 by_cases hk : k < 8
 ·rw [show 8 - k = 8 - (k + 1) + 1 by omega, aliveF]
 ·rw [show 8 - k = 0 by omega, aliveF]
  have : (X.l0.any fun w => mayV X k f w.f1 && (wordF (rwOf X) [spotP p] (bytesOf w.f0)).any fun q => aliveF X (8 - (k + 1)) q (k + 1) w.f1) = false := by
   rw [List.any_eq_false]
   intro w _
   rw [mayV_full (by omega)]
   simp
  rw [this, Bool.or_false]
theorem aliveF_spot (X : Lx) : ∀ (n : Nat) (p q : Pth) (k : Nat) (f : Int), spotP p = spotP q → aliveF X n p k f = aliveF X n q k f
 | 0, p, q, k, f, h => by rw [aliveF, aliveF]; unfold endV; rw [h]
 | n + 1, p, q, k, f, h => by rw [aliveF, aliveF]; unfold endV; rw [h]
theorem aliveV_spot {X : Lx} {p q : Pth} {k : Nat} {f : Int} (h : spotP p = spotP q) : aliveV X p k f = aliveV X q k f := aliveF_spot X _ p q k f h
end Go.Proofs.Ytkfebceainedfaa.P.OwnGap
namespace Go.Proofs.Ytkfebceainedfaa.P.OwnGap
open Go.RowKit Go.Shelf Go.Proofs.YtkfebceainedfaaW.PrintWords Go.Proofs.YtkfebceainedfaaW.PrintLast Go.Proofs.YtkfebceainedfaaW.PrintMore
open Go.Proofs.Ytkfebceainedfaa.OwnGap
set_option linter.unusedVariables false
set_option linter.unusedSimpArgs false
def Same (W W' : World) : Prop := ∀ a v, W.cell? a = some v → W'.cell? a = some v
theorem same_grown {W W' : World} {mb : Nat} {es : Array MapEntry} {ck : Nat} (hm : W.heap[mb]? = some (.map es ck)) (hg : W.grownBy W' (some mb)) : Same W W' := by
 intro a v h
 by_cases e : a.block = mb
 ·exfalso
  subst e
  simp [World.cell?, hm] at h
 ·have hlt := World.block_lt_of_cell? W a h
  rw [World.cell?_of_block (hg.block a.block hlt (fun h2 => e (by injection h2)))]
  exact h
theorem C_same {α : Type} {d : Kd α} {W W' : World} (hK : ∀ x cs, d.K W x cs → d.K W' x cs) (hs : Same W W') {A : Option Addr} {n : Nat} {xs : List α} (h : d.C W A n xs) : d.C W' A n xs := by
 refine ⟨h.1, h.2.1, fun hn => ?_⟩
 obtain ⟨ad, he, hc⟩ := h.2.2 hn
 refine ⟨ad, he, fun j p hj => ?_⟩
 obtain ⟨cs, h1, h2, h3⟩ := hc j p hj
 exact ⟨cs, h1, hK _ _ h2, fun i u hu => hs _ _ (h3 i u hu)⟩
theorem C_same2 {α : Type} {d : Kd α} {e : Nat} {W W' : World} (hK : ∀ x cs, d.K W x cs → d.K W' x cs) (hs : Same W W') {A : Option Addr} {n : Nat} {xs : List (List α)} (h : (Kd.slice e d).C W A n xs) : (Kd.slice e d).C W' A n xs :=
 C_same (d := Kd.slice e d) (W := W) (fun x cs h => by
  obtain ⟨A, c, h1, h2, h3⟩ := h
  exact ⟨A, c, h1, h2, C_same hK hs h3⟩) hs h
theorem SrW.same {X : Lx} {S : SV} {fits : List Int} {W W' : World} (h : SrW X S fits W) (hs : Same W W') (hb : W'.heap[S.b]? = W.heap[S.b]?) : SrW X S fits W' :=
 { h with blk := hb.trans h.blk, h0 := C_same (W := W) (W' := W') (fun _ _ h => h) hs h.h0, h1 := C_same (W := W) (W' := W') (fun _ _ h => h) hs h.h1, h2 := C_same (W := W) (W' := W') (fun _ _ h => h) hs h.h2, h3 := C_same2 (W := W) (W' := W') (fun _ _ h => h) hs h.h3, hr := C_same (W := W) (W' := W') (fun _ _ h => h) hs h.hr, hf := C_same (W := W) (W' := W') (fun _ _ h => h) hs h.hf }
def AliveR (X : Lx) (key val : Value) : Prop := ∃ (p : Pth) (k : Nat) (f : Int), key = stV p.i p.m p.l p.h k f ∧ val = .bool (aliveV X p k f)
theorem AliveR.at_key {X : Lx} {p : Pth} {k : Nat} {f : Int} {val : Value} (h : AliveR X (stV p.i p.m p.l p.h k f) val) : val = .bool (aliveV X p k f) := by
 obtain ⟨q, k', f', hk, rfl⟩ := h
 simp only [stV, Value.agg.injEq, Array.mk.injEq, List.cons.injEq, Value.int.injEq, and_true, true_and] at hk
 obtain ⟨h1, h2, h3, h4, h5, rfl⟩ := hk
 obtain rfl : k = k' := by omega
 rw [aliveV_spot (show spotP q = spotP p by
  unfold spotP
  rw [show q.i = p.i by omega, show q.m = p.m by omega, h3, h4])]
structure AW (X : Lx) (S : SV) (fits : List Int) (W : World) : Prop where
 sr : SrW X S fits W
 memo : MemoAt Try.prog 139 (AliveR X) W S.mb
theorem AW.mlt {X : Lx} {S : SV} {fits : List Int} {W : World} (h : AW X S fits W) : S.mb < W.heap.size := by
 obtain ⟨es, ck, hb, _⟩ := h.memo
 exact blk_lt' hb
where
 blk_lt' {W : World} {b : Nat} {o : Obj} (h : W.heap[b]? = some o) : b < W.heap.size := (Array.getElem?_eq_some_iff.1 h).1
theorem AW.below {X : Lx} {S : SV} {fits : List Int} {W W' : World} (h : AW X S fits W) (hb : Below W.heap.size W W') : AW X S fits W' :=
 ⟨h.sr.below hb, h.memo.keep (hb.block S.mb h.mlt)⟩
theorem AW.map {X : Lx} {S : SV} {fits : List Int} {W : World} (h : AW X S fits W) : ∃ es ck, W.heap[S.mb]? = some (.map es ck) := by
 obtain ⟨es, ck, hb, _⟩ := h.memo
 exact ⟨es, ck, hb⟩
theorem AW.ne {X : Lx} {S : SV} {fits : List Int} {W : World} (h : AW X S fits W) {b : Nat} {cs : Array Value} {t : TypeId} {fr : Nat × Nat} (hb : W.heap[b]? = some (.cells cs t fr)) : b ≠ S.mb := by
 rintro rfl
 obtain ⟨es, ck, hm⟩ := h.map
 rw [hb] at hm
 simp at hm
theorem AW.keep {X : Lx} {S : SV} {fits : List Int} {W W' : World} (h : AW X S fits W) (hg : W.grownBy W' (some S.mb)) {b : Nat} {cs : Array Value} {t : TypeId} {fr : Nat × Nat} (hb : W.heap[b]? = some (.cells cs t fr)) : W'.heap[b]? = some (.cells cs t fr) :=
 (hg.block b (Array.getElem?_eq_some_iff.1 hb).1 (fun e => h.ne hb (by injection e))).trans hb
theorem AW.same {X : Lx} {S : SV} {fits : List Int} {W W' : World} (h : AW X S fits W) (hg : W.grownBy W' (some S.mb)) : Same W W' := by
 obtain ⟨es, ck, hm⟩ := h.map
 exact same_grown hm hg
theorem AW.put {X : Lx} {S : SV} {fits : List Int} {W : World} (h : AW X S fits W) (o : Obj) (hm : MemoAt Try.prog 139 (AliveR X) (W.putObj S.mb o) S.mb) : AW X S fits (W.putObj S.mb o) :=
 ⟨h.sr.same (h.same (grown_putObj W S.mb o)) (World.putObj_heap_other (h.ne h.sr.blk)), hm⟩
where
 grown_putObj (W : World) (k : Nat) (o : Obj) : W.grownBy (W.putObj k o) (some k) := ⟨rfl, rfl, rfl, by simp [World.putObj], fun i _ hi => World.putObj_heap_other (fun e => hi (by rw [e]))⟩
theorem grown_put (W : World) (k : Nat) (o : Obj) : W.grownBy (W.putObj k o) (some k) := ⟨rfl, rfl, rfl, by simp [World.putObj], fun i _ hi => World.putObj_heap_other (fun e => hi (by rw [e]))⟩
theorem grown_below {W W' : World} (h : Below W.heap.size W W') (m : Option Nat) : W.grownBy W' m := ⟨h.os, h.tape, h.output, h.size, fun k hk _ => h.block k hk⟩
theorem grown_trans {W W' W'' : World} {m : Option Nat} (h : W.grownBy W' m) (k : W'.grownBy W'' m) : W.grownBy W'' m := ⟨k.os.trans h.os, k.tape.trans h.tape, k.output.trans h.output, Nat.le_trans h.size k.size, fun i hi hne => (k.block i (Nat.lt_of_lt_of_le hi h.size) hne).trans (h.block i hi hne)⟩
structure OkL (X : Lx) : Prop where
 one : 1 ≤ X.l1.length
 f8 : X.l1.length ≤ 1000
 l2 : X.l2.length = X.l1.length
 l3 : X.l3.length = X.l1.length
 l3r : ∀ f : Int, 0 ≤ f → f < X.l1.length → (rd_L1 X.l3 f).length = X.l1.length
 n0 : X.l0.length ≤ 1000
 wd : ∀ j : Nat, j < X.l0.length → 0 < (rd_T53 X.l0 (j : Int)).f0.size ∧ (rd_T53 X.l0 (j : Int)).f0.size ≤ 8 ∧ 0 ≤ (rd_T53 X.l0 (j : Int)).f1 ∧ (rd_T53 X.l0 (j : Int)).f1 < X.l1.length
 lt : ∀ j : Nat, j < X.l0.length → ∀ k : Nat, k < (rd_T53 X.l0 (j : Int)).f0.size → 65 ≤ bt (rd_T53 X.l0 (j : Int)).f0 (k : Int) ∧ bt (rd_T53 X.l0 (j : Int)).f0 (k : Int) ≤ 90
theorem OkP.spot {X : Lx} {p : Pth} (h : OkP X p) : OkP X (spotP p) := ⟨h.i, h.m, h.l0, h.l1, h.h0, h.h1, Nat.le_trans (show 0 + ((List.range' p.i (X.r.length - p.i)).filter (rwOf X).gap).length ≤ p.fs.length + ((List.range' p.i (X.r.length - p.i)).filter (rwOf X).gap).length by omega) h.g⟩
theorem OkX.ww {X : Lx} {fits : List Int} (h : OkX X fits) : ∀ a : Int, 65 ≤ a → a ≤ 90 → 0 ≤ (rwOf X).wl a ∧ (rwOf X).wl a ≤ 1000 ∧ 0 ≤ (rwOf X).wh a ∧ (rwOf X).wh a ≤ 1000 := fun a h1 h2 => h.w a h1 h2
theorem take_bytes {s : ByteArray} (hs : ∀ k : Nat, k < s.size → 65 ≤ bt s (k : Int) ∧ bt s (k : Int) ≤ 90) : ∀ a ∈ bytesOf s, 65 ≤ a ∧ a ≤ 90 := by
 intro a ha
 obtain ⟨k, hk, rfl⟩ := List.mem_iff_getElem.1 ha
 rw [bytesOf_length] at hk
 have h := hs k hk
 have h2 := bt_at s (k : Int) (by simpa using hk)
 simp only [Int.toNat_natCast] at h2
 have h3 : (bytesOf s)[k]'(by rw [bytesOf_length]; exact hk) = bt s (k : Int) := by
  rw [← h2]
  simp [bytesOf]
  rfl
 rw [h3]
 exact h
theorem gapsFrom_le {X : Lx} {p : Pth} (h : OkP X p) : gapsFrom (rwOf X) p.i ((rwOf X).n - p.i) ≤ 3 := by
 have := h.g
 show ((List.range' p.i (X.r.length - p.i)).filter (rwOf X).gap).length ≤ 3
 omega
theorem wk_ok {X : Lx} {fits : List Int} (hX : OkX X fits) (l : List Pth) (hl : ∀ q ∈ l, OkP X q) (hn : cntL (rwOf X) l 8 ≤ 1000000000) (s : ByteArray) (h8 : s.size ≤ 8) (hs : ∀ k : Nat, k < s.size → 65 ≤ bt s (k : Int) ∧ bt s (k : Int) ≤ 90) :
  ∀ k, k ≤ s.size → (wk X l s k).length ≤ 1000000000 ∧ ∀ q ∈ wk X l s k, OkP X q := by
 intro k hk
 have ht : ∀ a ∈ (bytesOf s).take k, 65 ≤ a ∧ a ≤ 90 := fun a ha => take_bytes hs a (List.mem_of_mem_take ha)
 refine ⟨?_, wordF_ok X hX.ww _ l ht hl⟩
 have h1 := cntL_length (rwOf X) (wk X l s k) (8 - k)
 have h2 := wordF_cnt (rwOf X) ((bytesOf s).take k) l (8 - k) (fun q hq => (hl q hq).i)
 rw [List.length_take, bytesOf_length, Nat.min_eq_left hk, Nat.sub_add_cancel (by omega)] at h2
 exact Nat.le_trans h1 (Nat.le_trans h2 hn)
theorem cnt_one {X : Lx} {p : Pth} (h : OkP X p) (t : Nat) (ht : t ≤ 100) : cntL (rwOf X) [p] t ≤ 1030301 := by
 unfold cntL
 simp only [List.map_cons, List.map_nil, List.sum_cons, List.sum_nil, Nat.add_zero]
 refine Nat.le_trans (cnt_up (gapsFrom_le h)) (Nat.le_trans (cnt_le 3 t) ?_)
 exact Nat.pow_le_pow_left (show t + 1 ≤ 101 by omega) 3
theorem C_one {W : World} {b : Nat} {p : Pth} (h : PAt W b p) : Kd.C kP W (some ⟨b, 0, none⟩) 1 [p] := by
 refine ⟨rfl, by decide, fun _ => ⟨_, rfl, fun j q hj => ?_⟩⟩
 have hj0 : j = 0 := by
  have := (List.getElem?_eq_some_iff.1 hj).1
  simpa using this
 subst hj0
 simp only [List.getElem?_cons_zero, Option.some.injEq] at hj
 subst hj
 refine ⟨pL p, rfl, kP.K_of_M (kP_mkM W 0 (fun _ => True) p), fun i u hu => ?_⟩
 rw [show kP.sz = 8 from rfl, Nat.zero_mul, Nat.zero_add]
 have h1 : W.cell? ⟨b, i, none⟩ = (pC p)[i]? := blk_cell h i
 have h2 : ((⟨b, 0, none⟩ : Addr).add i) = ⟨b, i, none⟩ := by
  cases i with
  | zero => simp [Addr.add]
  | succ i => simp [Addr.add]
 rw [h2, h1]
 have h3 : (pL p)[i]? = (pC p)[i]? := by unfold pC pL; simp
 rw [← h3]
 exact hu
end Go.Proofs.Ytkfebceainedfaa.P.OwnGap
namespace Go.Proofs.Ytkfebceainedfaa.P.OwnGap
open Go.RowKit Go.Proofs.YtkfebceainedfaaW.PrintWords Go.Proofs.YtkfebceainedfaaW.PrintLast Go.Proofs.YtkfebceainedfaaW.PrintMore
open Go.Proofs.Ytkfebceainedfaa.OwnGap
set_option linter.unusedVariables false
set_option linter.unusedSimpArgs false
def endsF (X : Lx) (ws : List Int) (f : Int) (l : List Pth) : List (List Int × List Int) :=
 if (decide (0 < ws.length) && rdOf false X.l2 f) = true then (l.filterMap (doneP (rwOf X))).map fun fs => (ws, fs) else []
def fillF (X : Lx) : Nat → List Int → Int → List Pth → List (List Int × List Int)
 | 0, ws, f, l => endsF X ws f l
 | n + 1, ws, f, l => endsF X ws f l ++ (X.l0.zipIdx).flatMap fun (x : S53 × Nat) =>
   if mayV X ws.length f x.1.f1 = true then fillF X n (ws ++ [(x.2 : Int)]) x.1.f1 ((wordF (rwOf X) l (bytesOf x.1.f0)).filter fun q => aliveF X n q (ws.length + 1) x.1.f1) else []
def fillG (X : Lx) : Nat → List Int → Int → List Pth → List (List Int × List Int)
 | 0, ws, f, l => endsF X ws f l
 | n + 1, ws, f, l => endsF X ws f l ++ (X.l0.zipIdx).flatMap fun (x : S53 × Nat) =>
   if mayV X ws.length f x.1.f1 = true then fillG X n (ws ++ [(x.2 : Int)]) x.1.f1 (wordF (rwOf X) l (bytesOf x.1.f0)) else []
theorem endsF_nil (X : Lx) (ws : List Int) (f : Int) : endsF X ws f [] = [] := by
 unfold endsF
 split <;> rfl
theorem fillF_nil (X : Lx) : ∀ (n : Nat) (ws : List Int) (f : Int), fillF X n ws f [] = []
 | 0, ws, f => endsF_nil X ws f
 | n + 1, ws, f => by
  rw [fillF, endsF_nil, List.nil_append, List.flatMap_eq_nil_iff]
  intro x _
  by_cases hm : mayV X ws.length f x.1.f1 = true
  ·rw [if_pos hm, wordF_nil]
   exact fillF_nil X n _ _
  ·rw [if_neg hm]
theorem endsF_alive (X : Lx) (ws : List Int) (f : Int) (A : Pth → Bool) : ∀ l : List Pth, (∀ q ∈ l, A q = false → endV X q ws.length f = false) → endsF X ws f (l.filter A) = endsF X ws f l := by
 intro l hl
 unfold endsF
 by_cases hc : (decide (0 < ws.length) && rdOf false X.l2 f) = true
 ·rw [if_pos hc, if_pos hc]
  congr 1
  induction l with
  | nil => rfl
  | cons p l ih =>
   have ih := ih (fun q hq => hl q (by simp [hq]))
   by_cases ha : A p = true
   ·rw [List.filter_cons_of_pos ha, List.filterMap_cons, List.filterMap_cons, ih]
   ·rw [List.filter_cons_of_neg ha, ih, List.filterMap_cons]
    have he := hl p (by simp) (by simpa using ha)
    unfold endV at he
    rw [Bool.and_eq_true] at hc
    rw [doneP_spot, hc.1, hc.2, Bool.true_and, Bool.true_and] at he
    cases hd : doneP (rwOf X) p with
    | none => rfl
    | some fs => rw [hd] at he; exact absurd he (by simp)
 ·rw [if_neg hc, if_neg hc]
theorem dead_word (X : Lx) (n k : Nat) (f : Int) (p : Pth) (hd : aliveF X (n + 1) p k f = false) (w : S53) (hw : w ∈ X.l0) (hm : mayV X k f w.f1 = true) : ∀ q ∈ wordF (rwOf X) [p] (bytesOf w.f0), aliveF X n q (k + 1) w.f1 = false := by
 intro q hq
 rw [aliveF, Bool.or_eq_false_iff, List.any_eq_false] at hd
 have h := hd.2 w hw
 rw [hm, Bool.true_and] at h
 rw [show [p] = [spotP p].map (addFs p.fs) by rw [List.map_cons, List.map_nil, addFs_spot], wordF_add] at hq
 obtain ⟨q0, hq0, rfl⟩ := List.mem_map.1 hq
 rw [aliveF_spot X n (addFs p.fs q0) q0 _ _ (spotP_add _ _)]
 cases hb : aliveF X n q0 (k + 1) w.f1 with
 | false => rfl
 | true => exact absurd (List.any_eq_true.2 ⟨q0, hq0, hb⟩) h
theorem filter_word (X : Lx) (A B : Pth → Bool) (t : List Int) : ∀ l : List Pth, (∀ p ∈ l, A p = false → ∀ q ∈ wordF (rwOf X) [p] t, B q = false) → (wordF (rwOf X) (l.filter A) t).filter B = (wordF (rwOf X) l t).filter B := by
 intro l hl
 rw [wordF_flat, wordF_flat _ t l]
 induction l with
 | nil => rfl
 | cons p l ih =>
  have ih := ih (fun q hq => hl q (by simp [hq]))
  by_cases ha : A p = true
  ·rw [List.filter_cons_of_pos ha, List.flatMap_cons, List.flatMap_cons, List.filter_append, List.filter_append, ih]
  ·rw [List.filter_cons_of_neg ha, ih, List.flatMap_cons, List.filter_append]
   have : (wordF (rwOf X) [p] t).filter B = [] := by
    rw [List.filter_eq_nil_iff]
    intro q hq
    rw [hl p (by simp) (by simpa using ha) q hq]
    decide
   rw [this, List.nil_append]
theorem fillG_alive (X : Lx) : ∀ (n : Nat) (ws : List Int) (f : Int) (l : List Pth), fillG X n ws f (l.filter fun q => aliveF X n q ws.length f) = fillG X n ws f l
 | 0, ws, f, l => by
  rw [fillG, fillG]
  exact endsF_alive X ws f _ l (fun q _ h => h)
 | n + 1, ws, f, l => by
  rw [fillG, fillG, endsF_alive X ws f _ l (fun q _ h => by rw [aliveF, Bool.or_eq_false_iff] at h; exact h.1)]
  congr 1
  apply flatMap_eq
  intro x hx
  by_cases hm : mayV X ws.length f x.1.f1 = true
  ·rw [if_pos hm, if_pos hm, ← fillG_alive X n _ _ (wordF (rwOf X) (l.filter _) _), ← fillG_alive X n _ _ (wordF (rwOf X) l _)]
   rw [List.length_append, List.length_singleton]
   rw [filter_word X _ _ _ l (fun p _ hd q hq => dead_word X n ws.length f p hd x.1 (List.fst_mem_of_mem_zipIdx hx) hm q hq)]
  ·rw [if_neg hm, if_neg hm]
theorem fillF_all (X : Lx) : ∀ (n : Nat) (ws : List Int) (f : Int) (l : List Pth), fillF X n ws f l = fillG X n ws f l
 | 0, ws, f, l => rfl
 | n + 1, ws, f, l => by
  rw [fillF, fillG]
  congr 1
  apply flatMap_eq
  intro x hx
  by_cases hm : mayV X ws.length f x.1.f1 = true
  ·rw [if_pos hm, if_pos hm, fillF_all X n]
   have := fillG_alive X n (ws ++ [(x.2 : Int)]) x.1.f1 (wordF (rwOf X) l (bytesOf x.1.f0))
   rw [List.length_append, List.length_singleton] at this
   exact this
  ·rw [if_neg hm, if_neg hm]
end Go.Proofs.Ytkfebceainedfaa.P.OwnGap
namespace Go.Proofs.Ytkfebceainedfaa.P.OwnGap
open Go.RowKit Go.Proofs.YtkfebceainedfaaW.PrintWords Go.Proofs.YtkfebceainedfaaW.PrintLast Go.Proofs.YtkfebceainedfaaW.PrintMore
open Go.Proofs.Ytkfebceainedfaa.OwnGap
set_option linter.unusedVariables false
set_option linter.unusedSimpArgs false
theorem wordV_zero {l0 : List S53} {nf i : Nat} (h : wordV l0 nf i = 0) : (1 ≤ ((rd_T53 l0 (i : Int)).f0.size : Int) ∧ ((rd_T53 l0 (i : Int)).f0.size : Int) ≤ 8) ∧ LetS (rd_T53 l0 (i : Int)).f0 ∧ (0 ≤ (rd_T53 l0 (i : Int)).f1 ∧ (rd_T53 l0 (i : Int)).f1 ≤ (nf : Int) - 1) ∧ (l0.take i).any (sameW (rd_T53 l0 (i : Int))) = false := by
 unfold wordV at h
 cases h1 : inB (rd_T53 l0 (i : Int)).f0.size 1 8 with
 | false => rw [ifT h1] at h; cases h
 | true =>
  rw [ifF h1] at h
  cases h2 : textB (rd_T53 l0 (i : Int)).f0 with
  | false => rw [ifT h2] at h; cases h
  | true =>
   rw [ifF h2] at h
   cases h3 : inB (rd_T53 l0 (i : Int)).f1 0 ((nf : Int) - 1) with
   | false => rw [ifT h3] at h; cases h
   | true =>
    rw [ifF h3] at h
    refine ⟨inB_true.1 h1, fun k hk => inB_true.1 (range_all.1 h2 k hk), inB_true.1 h3, ?_⟩
    rw [← Bool.not_eq_true]
    intro h4
    rw [if_pos h4] at h
    cases h
theorem spanV_zero {a b lo hi : Int} (h : spanV a b lo hi = 0) : (lo ≤ a ∧ a ≤ hi) ∧ (lo ≤ b ∧ b ≤ hi) ∧ a ≤ b := by
 unfold spanV at h
 cases h1 : (inB a lo hi && inB b lo hi) with
 | false => rw [ifT h1] at h; cases h
 | true =>
  rw [ifF h1] at h
  have h2 := Bool.and_eq_true_iff.1 h1
  refine ⟨inB_true.1 h2.1, inB_true.1 h2.2, ?_⟩
  by_cases h3 : b < a
  ·rw [if_pos h3] at h; cases h
  ·omega
theorem cellV_zero {c : S49} (h : cellV c = 0) : LetS c.f0 ∧ c.f0.size ≤ 26 ∧ (c.f1 = true → c.f0.size = 0 ∧ 0 ≤ c.f2.f0 ∧ c.f2.f0 ≤ c.f2.f1 ∧ c.f2.f1 ≤ 1000) ∧ (c.f1 = false → c.f2.f0 = 0 ∧ c.f2.f1 = 0) := by
 unfold cellV at h
 cases hg : c.f1 with
 | true =>
  rw [if_pos hg] at h
  by_cases hs : c.f0.size = 0
  ·rw [if_pos hs] at h
   obtain ⟨h1, h2, h3⟩ := spanV_zero h
   exact ⟨fun k hk => by omega, by omega, fun _ => ⟨hs, h1.1, h3, h2.2⟩, fun e => by cases e⟩
  ·rw [if_neg hs] at h; cases h
 | false =>
  rw [if_neg (by rw [hg]; simp)] at h
  cases ha : ascB c.f0 with
  | false => rw [ifT ha] at h; cases h
  | true =>
   rw [ifF ha] at h
   by_cases hz : c.f2.f0 = 0 ∧ c.f2.f1 = 0
   ·exact ⟨(ascB_let ha).1, (ascB_let ha).2, fun e => by (cases e), fun _ => hz⟩
   ·rw [if_neg hz] at h; cases h
theorem rowF_zero {l : List S49} : ∀ (rem i n : Nat), rowF l rem i n = 0 → n ≤ 3 → (∀ j, i ≤ j → j < i + rem → cellV (rd_T49 l (j : Int)) = 0) ∧ n + ((List.range' i rem).filter fun (j : Nat) => (rd_T49 l (j : Int)).f1).length ≤ 3
 | 0, i, n, _, hn => ⟨fun j h1 h2 => by omega, by simpa using hn⟩
 | rem + 1, i, n, h, hn => by
  unfold rowF at h
  by_cases hv : cellV (rd_T49 l (i : Int)) = 0
  ·rw [if_pos hv] at h
   have ext : (∀ j, i + 1 ≤ j → j < i + 1 + rem → cellV (rd_T49 l (j : Int)) = 0) → ∀ j, i ≤ j → j < i + (rem + 1) → cellV (rd_T49 l (j : Int)) = 0 := fun h1 j h2 h3 => by
    rcases Nat.lt_or_ge i j with h4 | h4
    ·exact h1 j (by omega) (by omega)
    ·rw [show j = i by omega]; exact hv
   rw [List.range'_succ]
   cases hg : (rd_T49 l (i : Int)).f1 with
   | true =>
    rw [if_pos hg] at h
    by_cases h3 : 3 < n + 1
    ·rw [if_pos h3] at h; cases h
    ·rw [if_neg h3] at h
     obtain ⟨h1, h2⟩ := rowF_zero rem (i + 1) (n + 1) h (by omega)
     refine ⟨ext h1, ?_⟩
     rw [List.filter_cons_of_pos (by simpa using hg), List.length_cons]
     omega
   | false =>
    rw [if_neg (by rw [hg]; simp)] at h
    obtain ⟨h1, h2⟩ := rowF_zero rem (i + 1) n h hn
    refine ⟨ext h1, ?_⟩
    rw [List.filter_cons_of_neg (by simpa using hg)]
    omega
  ·rw [if_neg hv] at h
   exact absurd h hv
structure OkC (X : Lx) : Prop where
 f1 : 1 ≤ X.l1.length
 f5 : X.l1.length ≤ 5
 l2 : X.l2.length = X.l1.length
 l3 : X.l3.length = X.l1.length
 l3r : ∀ i : Nat, i < X.l1.length → (rd_L1 X.l3 (i : Int)).length = X.l1.length
 n1 : 1 ≤ X.l0.length
 n12 : X.l0.length ≤ 12
 wd : ∀ i : Nat, i < X.l0.length → wordV X.l0 X.l1.length i = 0
 l4 : X.l4.length = 26
 sp : ∀ i : Nat, i < 26 → spanAt X.l4 i = 0
theorem checkV_zero {X : Lx} (h : checkV X.l0 X.l1 X.l2 X.l3 X.l4 = 0) : OkC X := by
 unfold checkV at h
 by_cases a1 : X.l1.length = 0
 ·rw [if_pos a1] at h; cases h
 rw [if_neg a1] at h
 by_cases a2 : 5 < X.l1.length
 ·rw [if_pos a2] at h; cases h
 rw [if_neg a2] at h
 by_cases a3 : X.l2.length ≠ X.l1.length
 ·rw [if_pos a3] at h; cases h
 rw [if_neg a3] at h
 by_cases a4 : X.l3.length ≠ X.l1.length
 ·rw [if_pos a4] at h; cases h
 rw [if_neg a4] at h
 obtain ⟨h, b1⟩ := firstF_zero _ _ h
 by_cases a5 : X.l0.length = 0
 ·rw [if_pos a5] at h; cases h
 rw [if_neg a5] at h
 by_cases a6 : 12 < X.l0.length
 ·rw [if_pos a6] at h; cases h
 rw [if_neg a6] at h
 obtain ⟨h, b2⟩ := firstF_zero _ _ h
 by_cases a7 : X.l4.length ≠ 26
 ·rw [if_pos a7] at h; cases h
 rw [if_neg a7] at h
 obtain ⟨-, b3⟩ := firstF_zero _ _ h
 refine ⟨by omega, by omega, by omega, by omega, fun i hi => ?_, by omega, by omega, fun i hi => b2 i (by omega) (by omega), by omega, fun i hi => b3 i (by omega) (by omega)⟩
 have h1 := b1 i (by omega) (by omega)
 unfold formAt at h1
 by_cases h2 : (rd_L1 X.l3 (i : Int)).length = X.l1.length
 ·exact h2
 ·rw [if_neg h2] at h1; cases h1
structure OkR (r : List S49) : Prop where
 n1 : 1 ≤ r.length
 n24 : r.length ≤ 24
 cell : ∀ i : Nat, i < r.length → cellV (rd_T49 r (i : Int)) = 0
 gaps : ((List.range' 0 r.length).filter fun (j : Nat) => (rd_T49 r (j : Int)).f1).length ≤ 3
theorem rowV_zero {r : List S49} (h : rowV r = 0) : OkR r := by
 unfold rowV at h
 by_cases a1 : r.length = 0
 ·rw [if_pos a1] at h; cases h
 rw [if_neg a1] at h
 by_cases a2 : 24 < r.length
 ·rw [if_pos a2] at h; cases h
 rw [if_neg a2] at h
 obtain ⟨h1, h2⟩ := rowF_zero _ _ _ h (by omega)
 exact ⟨by omega, by omega, fun i hi => h1 i (by omega) (by omega), by omega⟩
theorem bothV_zero {l0 : List S53} {l1 l2 : List Bool} {l3 : List (List Bool)} {l4 : List S47} {r : List S49} (h : bothV l0 l1 l2 l3 l4 r = 0) : checkV l0 l1 l2 l3 l4 = 0 ∧ rowV r = 0 := by
 unfold bothV at h
 by_cases h1 : checkV l0 l1 l2 l3 l4 = 0
 ·rw [if_pos h1] at h; exact ⟨h1, h⟩
 ·rw [if_neg h1] at h; exact absurd h h1
theorem okX_of {X : Lx} (hc : OkC X) (hr : OkR X.r) : OkX X (X.r.map fun c => ofV c.f0) := by
 refine ⟨by have := hr.n24; omega, fun a h1 h2 => ?_, fun i hi a h1 h2 => ?_⟩
 ·obtain ⟨j, hj, e⟩ : ∃ j : Nat, j < 26 ∧ a - 65 = (j : Int) := ⟨(a - 65).toNat, by omega, by omega⟩
  rw [e]
  obtain ⟨h3, h4, h5⟩ := spanV_zero (hc.sp j hj)
  omega
 ·have e : rd (X.r.map fun c => ofV c.f0) (i : Int) = ofV (rd_T49 X.r (i : Int)).f0 := by
   simp [rd, rd_T49, List.getD_eq_getElem?_getD, List.getElem?_eq_getElem hi]
  rw [e]
  exact ofV_has (cellV_zero (hr.cell i hi)).1 a h1 h2
theorem okL_of {X : Lx} (hc : OkC X) : OkL X := by
 refine ⟨hc.f1, by have := hc.f5; omega, hc.l2, hc.l3, fun f h1 h2 => ?_, by have := hc.n12; omega, fun j hj => ?_, fun j hj k hk => ?_⟩
 ·obtain ⟨i, rfl⟩ : ∃ i : Nat, f = (i : Int) := ⟨f.toNat, by omega⟩
  exact hc.l3r i (by omega)
 ·obtain ⟨h1, h2, h3, h4⟩ := wordV_zero (hc.wd j hj)
  omega
 ·exact (wordV_zero (hc.wd j hj)).2.1 k hk
theorem okP_of {X : Lx} (hr : OkR X.r) : OkP X p0 :=
 ⟨Nat.zero_le _, by decide, by decide, by decide, by decide, by decide, by
  show 0 + ((List.range' 0 (X.r.length - 0)).filter (rwOf X).gap).length ≤ 3
  have := hr.gaps
  rw [Nat.sub_zero, Nat.zero_add]
  exact this⟩
theorem let_of {r : List S49} (hr : OkR r) : ∀ i : Nat, i < r.length → LetS (rd_T49 r (i : Int)).f0 ∧ (rd_T49 r (i : Int)).f0.size < 4611686018427387903 := fun i hi => by
 obtain ⟨h1, h2, -⟩ := cellV_zero (hr.cell i hi)
 exact ⟨h1, by omega⟩
end Go.Proofs.Ytkfebceainedfaa.P.OwnGap
namespace Go.Proofs.Ytkfebceainedfaa.P.OwnGap
open Go.RowKit Go.Shelf Go.Proofs.YtkfebceainedfaaW.PrintWords Go.Proofs.YtkfebceainedfaaW.PrintLast Go.Proofs.YtkfebceainedfaaW.PrintMore
open Go.Proofs.Ytkfebceainedfaa.OwnGap
set_option linter.unusedVariables false
set_option linter.unusedSimpArgs false
attribute [local go_sem] Oper.semAt_some
structure LxIn (X : Lx) (A0 A1 A2 A3 A4 Ar : Option Addr) (c0 c1 c2 c3 c4 cr : Nat) (w : World) : Prop where
 h0 : Kd.C k53 w A0 X.l0.length X.l0
 h1 : Kd.C Kd.bool w A1 X.l1.length X.l1
 h2 : Kd.C Kd.bool w A2 X.l2.length X.l2
 h3 : Kd.C (Kd.slice 4 Kd.bool) w A3 X.l3.length X.l3
 h4 : Kd.C k47 w A4 X.l4.length X.l4
 hr : Kd.C k49 w Ar X.r.length X.r
 g0 : X.l0.length ≤ c0
 g1 : X.l1.length ≤ c1
 g2 : X.l2.length ≤ c2
 g3 : X.l3.length ≤ c3
 g4 : X.l4.length ≤ c4
 gr : X.r.length ≤ cr
section
variable {X : Lx} {A0 A1 A2 A3 A4 Ar : Option Addr} {c0 c1 c2 c3 c4 cr : Nat} {w w' : World}
theorem LxIn.below (h : LxIn X A0 A1 A2 A3 A4 Ar c0 c1 c2 c3 c4 cr w) (hb : Below w.heap.size w w') : LxIn X A0 A1 A2 A3 A4 Ar c0 c1 c2 c3 c4 cr w' :=
 { h with h0 := Kd.C_below h.h0 hb, h1 := Kd.C_below h.h1 hb, h2 := Kd.C_below h.h2 hb, h3 := Kd.C_below h.h3 hb, h4 := Kd.C_below h.h4 hb, hr := Kd.C_below h.hr hb }
theorem in_calls (a lo hi : Int) (w : World) : Calls Try.prog 49 #[.int .i64 a, .int .i64 lo, .int .i64 hi] w fun e w' => e = .returned (.bool (inB a lo hi)) ∧ Below w.heap.size w w' :=
 (gap_in.calls a lo hi _ w (in_p a lo hi)).mono fun _ _ h => ⟨h.1, h.2.below⟩
def BxAt (X : Lx) (A0 A1 A2 A3 A4 : Option Addr) (c0 c1 c2 c3 c4 : Nat) (b : Nat) (w : World) : Prop := w.heap[b]? = some (.cells #[.slice A0 X.l0.length c0, .slice A1 X.l1.length c1, .slice A2 X.l2.length c2, .slice A3 X.l3.length c3, .slice A4 X.l4.length c4] 28 (0, 0))
theorem BxAt.below {b : Nat} (h : BxAt X A0 A1 A2 A3 A4 c0 c1 c2 c3 c4 b w) (hb : Below w.heap.size w w') : BxAt X A0 A1 A2 A3 A4 c0 c1 c2 c3 c4 b w' := blk_below h hb
theorem BxAt.cells {b : Nat} (h : BxAt X A0 A1 A2 A3 A4 c0 c1 c2 c3 c4 b w) : w.cell? ⟨b, 0, none⟩ = some (.slice A0 X.l0.length c0) ∧ w.cell? ⟨b, 1, none⟩ = some (.slice A1 X.l1.length c1) ∧ w.cell? ⟨b, 2, none⟩ = some (.slice A2 X.l2.length c2) ∧ w.cell? ⟨b, 3, none⟩ = some (.slice A3 X.l3.length c3) ∧ w.cell? ⟨b, 4, none⟩ = some (.slice A4 X.l4.length c4) :=
 ⟨(blk_cell h 0).trans rfl, (blk_cell h 1).trans rfl, (blk_cell h 2).trans rfl, (blk_cell h 3).trans rfl, (blk_cell h 4).trans rfl⟩
theorem bxAt_new (A0 A1 A2 A3 A4 : Option Addr) (c0 c1 c2 c3 c4 : Nat) (w : World) : BxAt X A0 A1 A2 A3 A4 c0 c1 c2 c3 c4 w.heap.size (w.alloc (.cells #[.slice A0 X.l0.length c0, .slice A1 X.l1.length c1, .slice A2 X.l2.length c2, .slice A3 X.l3.length c3, .slice A4 X.l4.length c4] 28)) := blk_new w _
end
end Go.Proofs.Ytkfebceainedfaa.P.OwnGap
namespace Go.Proofs.Ytkfebceainedfaa.P.OwnGap
open Go.RowKit Go.Shelf Go.Proofs.YtkfebceainedfaaW.PrintWords Go.Proofs.YtkfebceainedfaaW.PrintLast Go.Proofs.YtkfebceainedfaaW.PrintMore
open Go.Proofs.Ytkfebceainedfaa.OwnGap
set_option linter.unusedVariables false
set_option linter.unusedSimpArgs false
attribute [local go_sem] Oper.semAt_some
def BxS (n : Nat) (cs : Array Value) (t : Nat) (w W : World) : Prop := Below n w W ∧ W.heap[n]? = some (.cells cs t (0, 0))
section
variable {n t : Nat} {cs : Array Value} {w W W' : World}
theorem BxS.next (h : BxS n cs t w W) (hb : Below W.heap.size W W') : BxS n cs t w W' := ⟨h.1.trans (hb.mono (Nat.le_of_lt (blk_lt h.2))), blk_below h.2 hb⟩
theorem BxS.start (cs : Array Value) (t : Nat) (w : World) : BxS w.heap.size cs t w (w.alloc (.cells cs t)) := ⟨(Below.refl _ _).alloc (Nat.le_refl _) _, blk_new w _⟩
theorem BxS.drewN (h : BxS n cs t w W) (k : Nat) : BxS n cs t w (W.drewN k) := h.next (pw_below_drewN (Below.refl _ _) _)
theorem BxS.cell (h : BxS n cs t w W) (i : Nat) : W.cell? ⟨n, i, none⟩ = cs[i]? := blk_cell h.2 i
end
theorem cap_calls (a : Int) (h : capB a = true) (w : World) : Calls Try.prog 105 #[.int .u8 a] w fun e w' => e = .returned (.bool true) ∧ Drawn0 w w' :=
 gap_capital.calls a _ w (by rw [cap_p, h])
set_option maxHeartbeats 1000000 in
set_option maxRecDepth 100000 in
theorem span_ok (a b lo hi : Int) (w : World) (h1 : lo ≤ a ∧ a ≤ hi) (h2 : lo ≤ b ∧ b ≤ hi) (h3 : a ≤ b) :
  Calls Try.prog 93 #[.agg #[.int .i64 a, .int .i64 b], .int .i64 lo, .int .i64 hi] w fun e w' => e = .returned (.int .i64 0) ∧ Below w.heap.size w w' := by
 have HI1 := Aside0.mk (inB_true.2 h1)
 have HI2 := Aside0.mk (inB_true.2 h2)
 have hd : decide (b < a) = false := decide_eq_false (by omega)
 clear h1 h2 h3
 obtain ⟨n0, hn0⟩ : ∃ n, n = w.heap.size := ⟨_, rfl⟩
 have HN0 := Aside0.mk hn0
 go_enter Try.func93, Try.ntmps93
 go_upto_region 1 with fail
 refine wp_gen (fun wx => Aside0 (BxS n0 #[.int .i64 a, .int .i64 b] 47 w wx)) ⟨by rw [hn0]; exact BxS.start _ _ w⟩ ?_
 rw [← hn0]
 clear hn0
 rintro w1 HS
 have y0 := (HS.out.cell 0).trans (show _ = some (.int .i64 a) from rfl)
 have y1 := (HS.out.cell 1).trans (show _ = some (.int .i64 b) from rfl)
 have yl := blk_lt HS.out.2
 go_wp2_with first
  | ((fail_if_success (have h_ := HS2.out)); go_at_call 49; refine (in_calls a lo hi w1).mono ?_; rintro e w2 ⟨rfl, hb⟩; rw [HI1.out]; have HS2 := Aside0.mk (HS.out.next hb); clear y0 y1 yl hb; have y0 := (HS2.out.cell 0).trans (show _ = some (.int .i64 a) from rfl); have y1 := (HS2.out.cell 1).trans (show _ = some (.int .i64 b) from rfl); have yl := blk_lt HS2.out.2)
  | (go_at_call 49; refine (in_calls b lo hi w2).mono ?_; rintro e w3 ⟨rfl, hb⟩; rw [HI2.out]; have HS3 := Aside0.mk (HS2.out.next hb); clear y0 y1 yl hb; have y0 := (HS3.out.cell 0).trans (show _ = some (.int .i64 a) from rfl); have y1 := (HS3.out.cell 1).trans (show _ = some (.int .i64 b) from rfl); have yl := blk_lt HS3.out.2)
  | fail
 go_ret
 exact ⟨rfl, HN0.out ▸ HS3.out.1⟩
set_option maxHeartbeats 2000000 in
set_option maxRecDepth 100000 in
theorem index_none (A : Option Addr) (c : Nat) (l : List S53) (x : S53) (w : World) (hr : Kd.C k53 w A l.length l) (hl : l.length ≤ 1000) (hn : l.any (sameW x) = false) :
  Calls Try.prog 110 #[.slice A l.length c, .agg #[.string x.f0, .int .i64 x.f1]] w fun e w' => e = .returned (.int .i64 (-1)) ∧ Below w.heap.size w w' := by
 have hu53 := Try.underlying53
 have HR := Aside0.mk hr
 have HN := Aside0.mk hn
 have HL := Aside0.mk hl
 clear hr hn hl
 obtain ⟨n0, hn0⟩ : ∃ n, n = w.heap.size := ⟨_, rfl⟩
 have HN0 := Aside0.mk hn0
 go_enter Try.func110, Try.ntmps110
 go_upto_region 1 with fail
 refine wp_gen (fun wx => Aside0 (BxS n0 #[.string x.f0, .int .i64 x.f1] 53 w wx)) ⟨by rw [hn0]; exact BxS.start _ _ w⟩ ?_
 rw [← hn0]
 clear hn0
 rintro w1 HS
 go_wp2_with fail
 go_loopg [8] l.length (fun gh v8 wr => ∃ i : Nat, i + gh = l.length ∧ v8 = .int .i64 (i : Int) ∧ Aside0 (BxS n0 #[.string x.f0, .int .i64 x.f1] 53 w wr))
 case atStart => exact ⟨0, by omega, rfl, HS⟩
 case round =>
  clear HS
  obtain ⟨i, hi, rfl, HS⟩ := hrel
  have HI := Aside0.mk hi
  by_cases hlt : i < l.length
  ·have hz : (i : Int) < (l.length : Int) := by omega
   have hd : decide (i < l.length) = true := decide_eq_true hlt
   have hd2 : decide ((i : Int) < (l.length : Int)) = true := decide_eq_true hz
   have h0 : (0 : Int) ≤ (i : Int) := by omega
   have HLT := Aside0.mk hlt
   obtain ⟨ad, rfl, e0, e1⟩ := at_T53 (Kd.C_below HR.out (HN0.out ▸ HS.out.1)) (i : Int) h0 hz
   rw [Int.toNat_natCast] at e0 e1
   have el := World.block_lt_of_cell? wr _ e0
   have hne : ¬ x.f0.toList = (rd_T53 l (i : Int)).f0.toList ∨ (x.f0.toList = (rd_T53 l (i : Int)).f0.toList ∧ ¬ x.f1 = (rd_T53 l (i : Int)).f1) := by
    have h := List.any_eq_false.1 HN.out (rd_T53 l (i : Int)) (by
     rw [show rd_T53 l (i : Int) = l[i] by simp [rd_T53, List.getD_eq_getElem?_getD, hlt]]
     exact List.getElem_mem _)
    simp only [sameW, Bool.and_eq_true, beq_iff_eq] at h
    by_cases ht : x.f0.toList = (rd_T53 l (i : Int)).f0.toList
    ·exact .inr ⟨ht, fun e => h ⟨ht, e⟩⟩
    ·exact .inl ht
   have y0 := (HS.out.cell 0).trans (show _ = some (.string x.f0) from rfl)
   have y1 := (HS.out.cell 1).trans (show _ = some (.int .i64 x.f1) from rfl)
   have yl := blk_lt HS.out.2
   have hw : wrap64 ((i : Int) + 1) = ((i + 1 : Nat) : Int) := by have := HL.out; simp [wrap64]; omega
   clear hi hlt
   rcases hne with hne | ⟨ht, hne⟩
   all_goals
    go_wp2_with fail
    go_quiet (fail)
    go_wp2_with fail
    go_roundg (gk - 1)
    case measure => have := HI.out; have := HLT.out; omega
    case rel => exact ⟨i + 1, by have := HI.out; have := HLT.out; omega, by go_num, ⟨HS.out.drewN _⟩⟩
  ·have hz : ¬ (i : Int) < (l.length : Int) := by omega
   have hd : decide (i < l.length) = false := decide_eq_false hlt
   have hd2 : decide ((i : Int) < (l.length : Int)) = false := decide_eq_false hz
   clear hi hlt
   go_wp2_with fail
   go_ret
   exact ⟨rfl, HN0.out ▸ HS.out.1⟩
set_option maxHeartbeats 1000000 in
set_option maxRecDepth 100000 in
theorem contains_none (A : Option Addr) (c : Nat) (l : List S53) (x : S53) (w : World) (hr : Kd.C k53 w A l.length l) (hl : l.length ≤ 1000) (hn : l.any (sameW x) = false) :
  Calls Try.prog 106 #[.slice A l.length c, .agg #[.string x.f0, .int .i64 x.f1]] w fun e w' => e = .returned (.bool false) ∧ Below w.heap.size w w' := by
 have HR := Aside0.mk hr
 obtain ⟨n0, hn0⟩ : ∃ n, n = w.heap.size := ⟨_, rfl⟩
 have HN0 := Aside0.mk hn0
 have HC := Aside0.mk (fun (W : World) (h : Below n0 w W) => index_none A c l x W (Kd.C_below hr (hn0 ▸ h)) hl hn)
 clear hr hl hn
 go_enter Try.func106, Try.ntmps106
 go_upto_region 1 with fail
 refine wp_gen (fun wx => Aside0 (BxS n0 #[.string x.f0, .int .i64 x.f1] 53 w wx)) ⟨by rw [hn0]; exact BxS.start _ _ w⟩ ?_
 rw [← hn0]
 clear hn0
 rintro w1 HS
 have y0 := (HS.out.cell 0).trans (show _ = some (.string x.f0) from rfl)
 have y1 := (HS.out.cell 1).trans (show _ = some (.int .i64 x.f1) from rfl)
 have yl := blk_lt HS.out.2
 go_wp2_with first
  | (go_at_call 110; refine (HC.out _ HS.out.1).mono ?_; rintro e w2 ⟨rfl, hb⟩; have HS2 := Aside0.mk (HS.out.next hb); clear hb)
  | fail
 go_ret
 exact ⟨rfl, HN0.out ▸ HS2.out.1⟩
set_option maxHeartbeats 2000000 in
set_option maxRecDepth 100000 in
theorem asc_ok (s : ByteArray) (h : ascB s = true) (w : World) : Calls Try.prog 94 #[.string s] w fun e w' => e = .returned (.bool true) ∧ Below w.heap.size w w' := by
 have HA := Aside0.mk (range_all.1 h)
 have HZ := Aside0.mk (ascB_let h).2
 clear h
 go_enter Try.func94, Try.ntmps94
 go_wp2_with fail
 go_loopg [6] s.size (fun gh v6 wr => ∃ i : Nat, i + gh = s.size ∧ v6 = .int .i64 (i : Int) ∧ Aside0 (Below w.heap.size w wr))
 case atStart => exact ⟨0, by omega, rfl, ⟨Below.refl _ _⟩⟩
 case round =>
  obtain ⟨i, hi, rfl, HS⟩ := hrel
  have HI := Aside0.mk hi
  by_cases hlt : i < s.size
  ·have hz : (i : Int) < (s.size : Int) := by omega
   have hd : decide (i < s.size) = true := decide_eq_true hlt
   have h0 : (0 : Int) ≤ (i : Int) := by omega
   have HLT := Aside0.mk hlt
   have hw : wrap64 ((i : Int) + 1) = ((i + 1 : Nat) : Int) := by have := HZ.out; simp [wrap64]; omega
   have hA := HA.out i hlt
   unfold ascAt at hA
   rw [Bool.and_eq_true] at hA
   have HC := Aside0.mk hA.1
   have hb := bt_at s (i : Int) (by simpa using hlt)
   simp only [Int.toNat_natCast] at hb
   by_cases he : i = 0
   ·have hz0 : decide ((0 : Int) < (i : Int)) = false := decide_eq_false (by omega)
    have hz1 : decide (0 < i) = false := decide_eq_false (by omega)
    have hz2 : ¬ (i : Int) > 0 := by omega
    clear hA hi he
    go_wp2_with fail
    go_quiet (exact Calls.quiet_of ((cap_calls _ HC.out _).mono (fun _ _ h => ⟨h.1, h.2.out⟩)))
    go_wp2_with fail
    go_roundg (gk - 1)
    case measure => have := HI.out; have := HLT.out; omega
    case rel => exact ⟨i + 1, by have := HI.out; have := HLT.out; omega, by go_num, ⟨pw_below_drewN HS.out _⟩⟩
   ·have hz0 : decide ((0 : Int) < (i : Int)) = true := decide_eq_true (by omega)
    have hz1 : decide (0 < i) = true := decide_eq_true (by omega)
    have hz2 : (i : Int) > 0 := by omega
    have hlt2 : bt s ((i : Int) - 1) < bt s (i : Int) := by
     rcases Bool.or_eq_true_iff.1 hA.2 with h | h
     ·exact absurd (of_decide_eq_true h) he
     ·exact of_decide_eq_true h
    obtain ⟨j, hj⟩ : ∃ j : Nat, i = j + 1 := ⟨i - 1, by omega⟩
    have hw1 : wrap64 ((i : Int) - 1) = (j : Int) := by have := HZ.out; simp [wrap64]; omega
    have hw2 : IntKind.i64.wrap ((i : Int) - 1) = (j : Int) := by rw [i64_w]; exact hw1
    rw [show (i : Int) - 1 = (j : Int) by omega] at hlt2
    have hj0 : (0 : Int) ≤ (j : Int) := by omega
    have hj1 : (j : Int) < (s.size : Int) := by omega
    have hj2 : j < s.size := by omega
    have hb2 := bt_at s (j : Int) (by simpa using hj2)
    simp only [Int.toNat_natCast] at hb2
    have hle : decide (bt s (i : Int) ≤ bt s (j : Int)) = false := decide_eq_false (by omega)
    clear hj hlt2
    clear hA hi he
    go_wp2_with fail
    go_quiet (exact Calls.quiet_of ((cap_calls _ HC.out _).mono (fun _ _ h => ⟨h.1, h.2.out⟩)))
    go_wp2_with fail
    go_roundg (gk - 1)
    case measure => have := HI.out; have := HLT.out; omega
    case rel => exact ⟨i + 1, by have := HI.out; have := HLT.out; omega, by go_num, ⟨pw_below_drewN HS.out _⟩⟩
  ·have hz : ¬ (i : Int) < (s.size : Int) := by omega
   have hd : decide (i < s.size) = false := decide_eq_false hlt
   clear hi hlt
   go_wp2_with fail
   go_ret
   exact ⟨rfl, HS.out⟩
def Bx2 (n : Nat) (cs : Array Value) (t : Nat) (cs2 : Array Value) (t2 : Nat) (w W : World) : Prop := BxS n cs t w W ∧ W.heap[n + 1]? = some (.cells cs2 t2 (0, 0))
section
variable {n t t2 : Nat} {cs cs2 : Array Value} {w W W' : World}
theorem Bx2.next (h : Bx2 n cs t cs2 t2 w W) (hb : Below W.heap.size W W') : Bx2 n cs t cs2 t2 w W' := ⟨h.1.next hb, blk_below h.2 hb⟩
theorem Bx2.drewN (h : Bx2 n cs t cs2 t2 w W) (k : Nat) : Bx2 n cs t cs2 t2 w (W.drewN k) := h.next (pw_below_drewN (Below.refl _ _) _)
theorem Bx2.start (cs : Array Value) (t : Nat) (cs2 : Array Value) (t2 : Nat) (w : World) : Bx2 w.heap.size cs t cs2 t2 w ((w.alloc (.cells cs t)).alloc (.cells cs2 t2)) := by
 refine ⟨(BxS.start cs t w).next ((Below.refl _ _).alloc (Nat.le_refl _) _), ?_⟩
 have h2 := blk_new (w.alloc (.cells cs t)) (.cells cs2 t2)
 rw [World.size_alloc] at h2
 exact h2
theorem Bx2.cell (h : Bx2 n cs t cs2 t2 w W) (i : Nat) : W.cell? ⟨n + 1, i, none⟩ = cs2[i]? := blk_cell h.2 i
end
set_option maxHeartbeats 2000000 in
set_option maxRecDepth 100000 in
theorem word_ok {X : Lx} {A0 A1 A2 A3 A4 Ar : Option Addr} {c0 c1 c2 c3 c4 cr : Nat} {w : World} (hin : LxIn X A0 A1 A2 A3 A4 Ar c0 c1 c2 c3 c4 cr w) (hc : OkC X) {i : Nat} (hi : i < X.l0.length) :
  Calls Try.prog 92 #[.agg #[.slice A0 X.l0.length c0, .slice A1 X.l1.length c1, .slice A2 X.l2.length c2, .slice A3 X.l3.length c3, .slice A4 X.l4.length c4], .slice A0 i c0, .agg #[.string (rd_T53 X.l0 (i : Int)).f0, .int .i64 (rd_T53 X.l0 (i : Int)).f1]] w fun e w' => e = .returned (.int .i64 0) ∧ Below w.heap.size w w' := by
 obtain ⟨h1, h2, h3, h4⟩ := wordV_zero (hc.wd i hi)
 have hl : (X.l0.take i).length = i := by rw [List.length_take]; omega
 have hn12 := hc.n12
 obtain ⟨x, hx⟩ : ∃ x, x = rd_T53 X.l0 (i : Int) := ⟨_, rfl⟩
 rw [← hx] at h1 h2 h3 h4 ⊢
 obtain ⟨n0, hn0⟩ : ∃ n, n = w.heap.size := ⟨_, rfl⟩
 have HN0 := Aside0.mk hn0
 have HC := Aside0.mk (fun (W : World) (h : Below n0 w W) => show Calls Try.prog 106 #[.slice A0 i c0, .agg #[.string x.f0, .int .i64 x.f1]] W fun e w' => e = .returned (.bool false) ∧ Below W.heap.size W w' from by
  have := contains_none A0 c0 (X.l0.take i) x W (Kd.C_below (Kd.C_take hin.h0 (by omega)) (hn0 ▸ h)) (by omega) h4
  rw [hl] at this
  exact this)
 have HI1 := Aside0.mk (inB_true.2 h1)
 have hf1 := hc.f1
 have hf5 := hc.f5
 have hw1 : wrap64 ((X.l1.length : Int) - 1) = (X.l1.length : Int) - 1 := wrap64_small (by omega) (by omega)
 have hw2 : IntKind.i64.wrap ((X.l1.length : Int) - 1) = (X.l1.length : Int) - 1 := by rw [i64_w]; exact hw1
 have HI3 := Aside0.mk (inB_true.2 h3)
 have HT := Aside0.mk h2
 have HZ := Aside0.mk h1.2
 clear hin hc hi h1 h2 h3 h4 hl hn12 hx hf1 hf5
 go_enter Try.func92, Try.ntmps92
 go_upto_region 1 with fail
 refine wp_gen (fun wx => Aside0 (Bx2 n0 #[.slice A0 X.l0.length c0, .slice A1 X.l1.length c1, .slice A2 X.l2.length c2, .slice A3 X.l3.length c3, .slice A4 X.l4.length c4] 28 #[.string x.f0, .int .i64 x.f1] 53 w wx)) ⟨by rw [hn0]; exact Bx2.start _ _ _ _ w⟩ ?_
 rw [← hn0]
 clear hn0
 rintro w1 HS
 have y0 := (HS.out.cell 0).trans (show _ = some (.string x.f0) from rfl)
 have yl := blk_lt HS.out.2
 go_wp2_with first
  | (go_at_call 49; refine (in_calls x.f0.size 1 8 w1).mono ?_; rintro e w2 ⟨rfl, hb⟩; rw [HI1.out]; have HS2 := Aside0.mk (HS.out.next hb); clear y0 yl hb; have y0 := (HS2.out.cell 0).trans (show _ = some (.string x.f0) from rfl); have yl := blk_lt HS2.out.2)
  | fail
 go_loopg [16] x.f0.size (fun gh v16 wr => ∃ i : Nat, i + gh = x.f0.size ∧ v16 = .int .i64 (i : Int) ∧ Aside0 (Bx2 n0 #[.slice A0 X.l0.length c0, .slice A1 X.l1.length c1, .slice A2 X.l2.length c2, .slice A3 X.l3.length c3, .slice A4 X.l4.length c4] 28 #[.string x.f0, .int .i64 x.f1] 53 w wr))
 case atStart => exact ⟨0, by omega, rfl, HS2⟩
 case round =>
  clear HS HS2 y0 yl
  obtain ⟨j, hj, rfl, HS⟩ := hrel
  have HJ := Aside0.mk hj
  have y0 := (HS.out.cell 0).trans (show _ = some (.string x.f0) from rfl)
  have y1 := (HS.out.cell 1).trans (show _ = some (.int .i64 x.f1) from rfl)
  have yl := blk_lt HS.out.2
  by_cases hlt : j < x.f0.size
  ·have hz : (j : Int) < (x.f0.size : Int) := by omega
   have hd : decide (j < x.f0.size) = true := decide_eq_true hlt
   have h0 : (0 : Int) ≤ (j : Int) := by omega
   have hw : wrap64 ((j : Int) + 1) = ((j + 1 : Nat) : Int) := by have := HZ.out; simp [wrap64]; omega
   have HLT := Aside0.mk hlt
   have hb := bt_at x.f0 (j : Int) (by simpa using hlt)
   simp only [Int.toNat_natCast] at hb
   have HCB := Aside0.mk (show capB (bt x.f0 (j : Int)) = true from inB_true.2 (HT.out j hlt))
   clear hj
   go_wp2_with first
    | (go_at_call 105; refine (cap_calls _ HCB.out wr).mono ?_; rintro e w2 ⟨rfl, hb5⟩; have HS2 := Aside0.mk (HS.out.next hb5.below); clear hb5)
    | fail
   go_roundg (gk - 1)
   case measure => have := HJ.out; have := HLT.out; omega
   case rel => exact ⟨j + 1, by have := HJ.out; have := HLT.out; omega, by go_num, HS2⟩
  ·have hz : ¬ (j : Int) < (x.f0.size : Int) := by omega
   have hd : decide (j < x.f0.size) = false := decide_eq_false hlt
   have x1 := (HS.out.1.cell 1).trans (show _ = some (.slice A1 X.l1.length c1) from rfl)
   have xl := blk_lt HS.out.1.2
   clear hj hlt
   go_wp2_with first
    | (go_at_call 49; refine (in_calls x.f1 0 ((X.l1.length : Int) - 1) wr).mono ?_; rintro e w2 ⟨rfl, hb⟩; rw [HI3.out]; have HS2 := Aside0.mk (HS.out.next hb); clear y0 y1 yl hb x1 xl; have y0 := (HS2.out.cell 0).trans (show _ = some (.string x.f0) from rfl); have y1 := (HS2.out.cell 1).trans (show _ = some (.int .i64 x.f1) from rfl); have yl := blk_lt HS2.out.2)
    | (go_at_call 106; refine (HC.out _ HS2.out.1.1).mono ?_; rintro e w3 ⟨rfl, hb⟩; have HS3 := Aside0.mk (HS2.out.next hb); clear hb)
    | fail
   go_ret
   exact ⟨rfl, HN0.out ▸ HS3.out.1.1⟩
end Go.Proofs.Ytkfebceainedfaa.P.OwnGap
namespace Go.Proofs.Ytkfebceainedfaa.P.OwnGap
open Go.RowKit Go.Shelf Go.Proofs.YtkfebceainedfaaW.PrintWords Go.Proofs.YtkfebceainedfaaW.PrintLast Go.Proofs.YtkfebceainedfaaW.PrintMore
open Go.Proofs.Ytkfebceainedfaa.OwnGap
set_option linter.unusedVariables false
set_option linter.unusedSimpArgs false
attribute [local go_sem] Oper.semAt_some
def gapsN (r : List S49) (i : Nat) : Nat := ((List.range' 0 i).filter fun (j : Nat) => (rd_T49 r (j : Int)).f1).length
theorem gapsN_succ (r : List S49) (i : Nat) : gapsN r (i + 1) = gapsN r i + (if (rd_T49 r (i : Int)).f1 = true then 1 else 0) := by
 unfold gapsN
 rw [List.range'_concat, List.filter_append, List.length_append]
 congr 1
 rw [Nat.zero_add, Nat.one_mul]
 by_cases h : (rd_T49 r (i : Int)).f1 = true <;> simp [h]
theorem gapsN_le (r : List S49) (i : Nat) : ∀ k, gapsN r i ≤ gapsN r (i + k)
 | 0 => Nat.le_refl _
 | k + 1 => by
  have := gapsN_le r i k
  rw [← Nat.add_assoc, gapsN_succ]
  omega
theorem wrap3 (g : Nat) (h : g ≤ 3) : wrap64 ((g : Int) + 1) = (g : Int) + 1 := by simp [wrap64]; omega
set_option maxHeartbeats 2000000 in
set_option maxRecDepth 100000 in
theorem row_ok {A : Option Addr} {c : Nat} {r : List S49} {w : World} (hr : Kd.C k49 w A r.length r) (ho : OkR r) : Calls Try.prog 76 #[.slice A r.length c] w fun e w' => e = .returned (.int .i64 0) ∧ Below w.heap.size w w' := by
 have hu47 := Try.underlying47
 have HR := Aside0.mk hr
 have HO := Aside0.mk ho
 have h1 := ho.n1
 have h2 := ho.n24
 have HZ := Aside0.mk h2
 have z1 : ((r.length : Int) == 0) = false := beq_eq_false_iff_ne.mpr (by omega)
 have z2 : decide (24 < r.length) = false := decide_eq_false (by omega)
 have z3 : decide (24 < (r.length : Int)) = false := decide_eq_false (by omega)
 clear hr ho h1 h2
 go_enter Try.func76, Try.ntmps76
 go_wp2_with fail
 go_loopg [3, 17] r.length (fun gh v3 v17 wr => ∃ i : Nat, i + gh = r.length ∧ v17 = .int .i64 (i : Int) ∧ v3 = .int .i64 (gapsN r i : Int) ∧ Aside0 (Below w.heap.size w wr))
 case atStart => exact ⟨0, by omega, rfl, rfl, ⟨Below.refl _ _⟩⟩
 case round =>
  clear z1 z2 z3
  obtain ⟨i, hi, rfl, rfl, HS⟩ := hrel
  have HI := Aside0.mk hi
  by_cases hlt : i < r.length
  ·have hz : (i : Int) < (r.length : Int) := by omega
   have hd : decide (i < r.length) = true := decide_eq_true hlt
   have h0 : (0 : Int) ≤ (i : Int) := by omega
   have HLT := Aside0.mk hlt
   have HW := Aside0.mk (show wrap64 ((i : Int) + 1) = ((i + 1 : Nat) : Int) by have := HZ.out; simp [wrap64]; omega)
   obtain ⟨ad, rfl, e0, e1, e2, e3⟩ := at_T49 (Kd.C_below HR.out HS.out) (i : Int) h0 hz
   rw [Int.toNat_natCast] at e0 e1 e2 e3
   have el := World.block_lt_of_cell? wr _ e0
   obtain ⟨v1, v2, v3, v4⟩ := cellV_zero (HO.out.cell i hlt)
   have hV := HO.out.cell i hlt
   have hg1 := gapsN_succ r i
   have hg2 := gapsN_le r (i + 1) (r.length - (i + 1))
   rw [show i + 1 + (r.length - (i + 1)) = r.length by omega] at hg2
   have hg3 : gapsN r r.length ≤ 3 := HO.out.gaps
   obtain ⟨x, hx⟩ : ∃ x, x = rd_T49 r (i : Int) := ⟨_, rfl⟩
   rw [← hx] at e0 e1 e2 e3 v3 v4 hg1 hV
   clear hi hlt v1 v2 hx
   go_upto_region 9 with fail
   obtain ⟨b5, hb5⟩ : ∃ b, b = wr.heap.size := ⟨_, rfl⟩
   have HB5 := Aside0.mk (show w.heap.size ≤ b5 by rw [hb5]; exact HS.out.size)
   refine wp_gen (fun wx => Aside0 (BxS b5 #[.string x.f0, .bool x.f1, .int .i64 x.f2.f0, .int .i64 x.f2.f1] 49 wr wx)) ⟨by rw [hb5]; exact BxS.start _ _ wr⟩ ?_
   rw [← hb5]
   clear hb5 e0 e1 e2 e3 el
   rintro w2 HX
   have y0 := (HX.out.cell 0).trans (show _ = some (.string x.f0) from rfl)
   have y1 := (HX.out.cell 1).trans (show _ = some (.bool x.f1) from rfl)
   have y2 := (HX.out.cell 2).trans (show _ = some (.int .i64 x.f2.f0) from rfl)
   have y3 := (HX.out.cell 3).trans (show _ = some (.int .i64 x.f2.f1) from rfl)
   have yl := blk_lt HX.out.2
   cases hg : x.f1 with
   | false =>
    obtain ⟨w0, w1⟩ := v4 hg
    rw [hg] at y1 hg1
    rw [if_neg (by decide), Nat.add_zero] at hg1
    have HG1 := Aside0.mk hg1
    have HA := Aside0.mk (show ascB x.f0 = true by
     unfold cellV at hV
     rw [if_neg (by rw [hg]; decide)] at hV
     cases ha : ascB x.f0 with
     | false => rw [ifT ha] at hV; cases hV
     | true => rfl)
    rw [w0] at y2
    rw [w1] at y3
    have HW0 := Aside0.mk w0
    have HW1 := Aside0.mk w1
    clear v3 v4 hV hg2 hg3 hg w0 w1 hg1
    go_wp2_with first
     | (go_at_call 94; refine (asc_ok x.f0 HA.out w2).mono ?_; rintro e w3 ⟨rfl, hb⟩; have HX2 := Aside0.mk (HX.out.next hb); clear y0 y1 y2 y3 yl hb; have y2 := (HX2.out.cell 2).trans (show _ = some (.int .i64 0) by rw [← HW0.out]; rfl); have y3 := (HX2.out.cell 3).trans (show _ = some (.int .i64 0) by rw [← HW1.out]; rfl); have yl := blk_lt HX2.out.2)
     | fail
    go_roundg (gk - 1)
    case measure => have := HI.out; have := HLT.out; omega
    case rel => exact ⟨i + 1, by have := HI.out; have := HLT.out; omega, by have := HW.out; go_num, by rw [HG1.out, Nat.add_zero], ⟨HS.out.trans (HX2.out.1.mono HB5.out)⟩⟩
   | true =>
    obtain ⟨s0, s1, s2, s3⟩ := v3 hg
    rw [hg] at y1 hg1
    rw [if_pos rfl] at hg1
    have HG1 := Aside0.mk (show ((gapsN r (i + 1) : Nat) : Int) = (gapsN r i : Int) + 1 by omega)
    have hg4 : decide (3 < (gapsN r i : Int) + 1) = false := decide_eq_false (by clear hg; omega)
    have hgw := wrap3 (gapsN r i) (by omega)
    have HGW := Aside0.mk hgw
    have hes : x.f0 = ⟨#[]⟩ := by
     apply ByteArray.ext
     exact Array.eq_empty_of_size_eq_zero s0
    have HSP := Aside0.mk (show ∀ W, Calls Try.prog 93 #[.agg #[.int .i64 x.f2.f0, .int .i64 x.f2.f1], .int .i64 0, .int .i64 1000] W fun e w' => e = .returned (.int .i64 0) ∧ Below W.heap.size W w' from fun W => span_ok _ _ 0 1000 W ⟨s1, by omega⟩ ⟨by omega, s3⟩ s2)
    rw [hes] at y0
    clear v3 v4 hV hg2 hg3 hg s0 s1 s2 s3 hg1 hes
    go_wp2_with first
     | (go_at_call 93; refine (HSP.out w2).mono ?_; rintro e w3 ⟨rfl, hb⟩; have HX2 := Aside0.mk (HX.out.next hb); clear y0 y1 y2 y3 yl hb)
     | fail
    go_roundg (gk - 1)
    case measure => have := HI.out; have := HLT.out; omega
    case rel => exact ⟨i + 1, by have := HI.out; have := HLT.out; omega, by have := HW.out; go_num, by rw [HG1.out, HGW.out], ⟨HS.out.trans (HX2.out.1.mono HB5.out)⟩⟩
  ·have hz : ¬ (i : Int) < (r.length : Int) := by omega
   have hd : decide (i < r.length) = false := decide_eq_false hlt
   clear hi hlt
   go_wp2_with fail
   go_ret
   exact ⟨rfl, HS.out⟩
end Go.Proofs.Ytkfebceainedfaa.P.OwnGap
namespace Go.Proofs.Ytkfebceainedfaa.P.OwnGap
open Go.RowKit Go.Shelf Go.Proofs.YtkfebceainedfaaW.PrintWords Go.Proofs.YtkfebceainedfaaW.PrintLast Go.Proofs.YtkfebceainedfaaW.PrintMore
open Go.Proofs.Ytkfebceainedfaa.OwnGap
set_option linter.unusedVariables false
set_option linter.unusedSimpArgs false
attribute [local go_sem] Oper.semAt_some
set_option maxHeartbeats 4000000 in
set_option maxRecDepth 100000 in
theorem check_ok {X : Lx} {A0 A1 A2 A3 A4 Ar : Option Addr} {c0 c1 c2 c3 c4 cr : Nat} {w : World} (hin : LxIn X A0 A1 A2 A3 A4 Ar c0 c1 c2 c3 c4 cr w) (hc : OkC X) :
  Calls Try.prog 75 #[.agg #[.slice A0 X.l0.length c0, .slice A1 X.l1.length c1, .slice A2 X.l2.length c2, .slice A3 X.l3.length c3, .slice A4 X.l4.length c4]] w fun e w' => e = .returned (.int .i64 0) ∧ Below w.heap.size w w' := by
 have HIN := Aside0.mk hin
 have HC := Aside0.mk hc
 clear hin hc
 obtain ⟨n1, hn1⟩ : ∃ n, n = w.heap.size := ⟨_, rfl⟩
 have HN1 := Aside0.mk hn1
 go_enter Try.func75, Try.ntmps75
 go_upto_region 1 with fail
 refine wp_gen (fun wx => Aside0 (Below n1 w wx ∧ BxAt X A0 A1 A2 A3 A4 c0 c1 c2 c3 c4 n1 wx)) ⟨⟨by rw [hn1]; exact (Below.refl _ _).alloc (Nat.le_refl _) _, by rw [hn1]; exact bxAt_new A0 A1 A2 A3 A4 c0 c1 c2 c3 c4 w⟩⟩ ?_
 rw [← hn1]
 clear hn1
 rintro w1 HS
 obtain ⟨x0, x1, x2, x3, x4⟩ := HS.out.2.cells
 have xl := blk_lt HS.out.2
 have q1 := HC.out.f1
 have q2 := HC.out.f5
 have q3 := HC.out.l2
 have q4 := HC.out.l3
 have z1 : ((X.l1.length : Int) == 0) = false := beq_eq_false_iff_ne.mpr (by omega)
 have z2 : decide ((X.l1.length : Int) > 5) = false := decide_eq_false (by omega)
 have z3 : decide (5 < X.l1.length) = false := decide_eq_false (by omega)
 have z4 : decide (5 < (X.l1.length : Int)) = false := decide_eq_false (by omega)
 have z5 : ((X.l2.length : Int) != (X.l1.length : Int)) = false := by simp [q3]
 have z6 : ((X.l3.length : Int) != (X.l1.length : Int)) = false := by simp [q4]
 have z7 : ((X.l1.length : Int) != (X.l1.length : Int)) = false := by simp
 clear q1 q2 q3 q4
 go_upto_region 9 with fail
 go_wp2_with fail
 go_loopg [35] X.l3.length (fun gh s35 wr => ∃ i : Nat, i + gh = X.l3.length ∧ s35 = .int .i64 (i : Int) ∧ Aside0 (Below n1 w wr ∧ BxAt X A0 A1 A2 A3 A4 c0 c1 c2 c3 c4 n1 wr))
 case atStart => exact ⟨0, by omega, rfl, HS⟩
 case round =>
  clear HS x0 x1 x2 x3 x4 xl
  obtain ⟨i, hi, rfl, HS⟩ := hrel
  have HI := Aside0.mk hi
  by_cases hlt : i < X.l3.length
  ·have hz : (i : Int) < (X.l3.length : Int) := by omega
   have hd : decide (i < X.l3.length) = true := decide_eq_true hlt
   have h0 : (0 : Int) ≤ (i : Int) := by omega
   have hi5 : i < 10 := by have := HC.out.f5; have := HC.out.l3; omega
   obtain ⟨nd, An, cn, hA3, r0, -, -⟩ := at_L1 (Kd.C_below HIN.out.h3 (by rw [← HN1.out]; exact HS.out.1)) (i : Int) h0 hz
   rw [Int.toNat_natCast] at r0
   subst hA3
   have rl := World.block_lt_of_cell? wr _ r0
   have hr3 := HC.out.l3r i (by have := HC.out.l3; omega)
   rw [hr3] at r0
   have z7 : ((X.l1.length : Int) != (X.l1.length : Int)) = false := by simp
   have HLT := Aside0.mk hlt
   clear hi hlt hr3
   go_wp2_with fail
   go_roundg (gk - 1)
   case measure => have := HI.out; have := HLT.out; omega
   case rel => exact ⟨i + 1, by have := HI.out; have := HLT.out; omega, by go_num, HS⟩
  ·have hz : ¬ (i : Int) < (X.l3.length : Int) := by omega
   have hd : decide (i < X.l3.length) = false := decide_eq_false hlt
   clear hi hlt
   obtain ⟨x0, x1, x2, x3, x4⟩ := HS.out.2.cells
   have xl := blk_lt HS.out.2
   have q1 := HC.out.n1
   have q2 := HC.out.n12
   have z1 : ((X.l0.length : Int) == 0) = false := beq_eq_false_iff_ne.mpr (by omega)
   have z2 : decide (12 < X.l0.length) = false := decide_eq_false (by omega)
   have z3 : decide (12 < (X.l0.length : Int)) = false := decide_eq_false (by omega)
   go_wp2_with fail
   go_loopg [57] X.l0.length (fun gh s57 wr => ∃ i : Nat, i + gh = X.l0.length ∧ s57 = .int .i64 (i : Int) ∧ Aside0 (Below n1 w wr ∧ BxAt X A0 A1 A2 A3 A4 c0 c1 c2 c3 c4 n1 wr))
   case atStart => exact ⟨0, by omega, rfl, HS⟩
   case round =>
    clear HS x0 x1 x2 x3 x4 xl q1 q2 z1 z2 z3
    obtain ⟨i, hi, rfl, HS⟩ := hrel
    have HI2 := Aside0.mk hi
    by_cases hlt : i < X.l0.length
    ·have hz : (i : Int) < (X.l0.length : Int) := by omega
     have hd : decide (i < X.l0.length) = true := decide_eq_true hlt
     have h0 : (0 : Int) ≤ (i : Int) := by omega
     have hi5 : i < 20 := by have := HC.out.n12; omega
     have HLT := Aside0.mk hlt
     have HIW := Aside0.mk (HIN.out.below (show Below w.heap.size w wr by rw [← HN1.out]; exact HS.out.1))
     obtain ⟨ad, hA, e0, e1⟩ := at_T53 HIW.out.h0 (i : Int) h0 hz
     rw [Int.toNat_natCast] at e0 e1
     subst hA
     have el := World.block_lt_of_cell? wr _ e0
     obtain ⟨x0, x1, x2, x3, x4⟩ := HS.out.2.cells
     have xl := blk_lt HS.out.2
     have hs1 : (i : Int) ≤ (X.l0.length : Int) := by omega
     have hs2 : (i : Int) ≤ (c0 : Int) := by have := HIN.out.g0; omega
     have hs3 : i ≤ c0 := by omega
     clear hi hlt
     go_upto_region 22 with fail
     obtain ⟨b7, hb7⟩ : ∃ b, b = wr.heap.size := ⟨_, rfl⟩
     have HAL := Aside0.mk ((Below.refl wr.heap.size wr).alloc (Nat.le_refl _) (.cells #[.string (rd_T53 X.l0 (i : Int)).f0, .int .i64 (rd_T53 X.l0 (i : Int)).f1] 53))
     refine wp_gen (fun wx => Aside0 ((Below n1 w wx ∧ BxAt X (some ad) A1 A2 A3 A4 c0 c1 c2 c3 c4 n1 wx) ∧ wx.heap[b7]? = some (.cells #[.string (rd_T53 X.l0 (i : Int)).f0, .int .i64 (rd_T53 X.l0 (i : Int)).f1] 53 (0, 0)) ∧ LxIn X (some ad) A1 A2 A3 A4 Ar c0 c1 c2 c3 c4 cr wx)) ⟨⟨⟨HS.out.1.trans (HAL.out.mono (by have := blk_lt HS.out.2; omega)), HS.out.2.below HAL.out⟩, by rw [hb7]; exact blk_new wr _, HIW.out.below HAL.out⟩⟩ ?_
     rw [← hb7]
     clear hb7 HAL HS HIW e0 e1 el x0 x1 x2 x3 x4 xl
     rintro w2 HS
     obtain ⟨x0, x1, x2, x3, x4⟩ := HS.out.1.2.cells
     have xl := blk_lt HS.out.1.2
     have y0 := (blk_cell HS.out.2.1 0).trans (show _ = some (.string (rd_T53 X.l0 (i : Int)).f0) from rfl)
     have y1 := (blk_cell HS.out.2.1 1).trans (show _ = some (.int .i64 (rd_T53 X.l0 (i : Int)).f1) from rfl)
     have yl := blk_lt HS.out.2.1
     have HCC := Aside0.mk (fun (W' : World) (hb : Below w2.heap.size w2 W') => show W'.cell? ⟨n1, 0, none⟩ = some (.slice (some ad) X.l0.length c0) ∧ W'.cell? ⟨n1, 1, none⟩ = some (.slice A1 X.l1.length c1) ∧ W'.cell? ⟨n1, 2, none⟩ = some (.slice A2 X.l2.length c2) ∧ W'.cell? ⟨n1, 3, none⟩ = some (.slice A3 X.l3.length c3) ∧ W'.cell? ⟨n1, 4, none⟩ = some (.slice A4 X.l4.length c4) ∧ W'.cell? ⟨b7, 0, none⟩ = some (.string (rd_T53 X.l0 (i : Int)).f0) ∧ W'.cell? ⟨b7, 1, none⟩ = some (.int .i64 (rd_T53 X.l0 (i : Int)).f1) from
      ⟨(hb.cell (p := ⟨n1, 0, none⟩) xl).trans x0, (hb.cell (p := ⟨n1, 1, none⟩) xl).trans x1, (hb.cell (p := ⟨n1, 2, none⟩) xl).trans x2, (hb.cell (p := ⟨n1, 3, none⟩) xl).trans x3, (hb.cell (p := ⟨n1, 4, none⟩) xl).trans x4, (hb.cell (p := ⟨b7, 0, none⟩) yl).trans y0, (hb.cell (p := ⟨b7, 1, none⟩) yl).trans y1⟩)
     obtain ⟨i0, hi0, -, -, -⟩ := info_parts info53
     have hcut := cut_to (P := Try.prog) 23 53 .i64 Try.underlying23 hi0 (some ad) X.l0.length c0 (i : Int) h0 hs1 HIN.out.g0
     rw [Int.toNat_natCast] at hcut
     have HWO := Aside0.mk (word_ok (HS.out.2.2.below (Below.drew (Below.refl _ _))) HC.out HLT.out)
     clear hz hd h0 hs1 hs2 hs3 hi0
     go_region_held3 (fun w' => w'.cell? ⟨n1, 0, none⟩ = some (.slice (some ad) X.l0.length c0) ∧ w'.cell? ⟨n1, 1, none⟩ = some (.slice A1 X.l1.length c1) ∧ w'.cell? ⟨n1, 2, none⟩ = some (.slice A2 X.l2.length c2) ∧ w'.cell? ⟨n1, 3, none⟩ = some (.slice A3 X.l3.length c3) ∧ w'.cell? ⟨n1, 4, none⟩ = some (.slice A4 X.l4.length c4) ∧ w'.cell? ⟨b7, 0, none⟩ = some (.string (rd_T53 X.l0 (i : Int)).f0) ∧ w'.cell? ⟨b7, 1, none⟩ = some (.int .i64 (rd_T53 X.l0 (i : Int)).f1))
      (first | exact HCC.out _ HB3.out | exact HCC.out _ (Below.drew (Below.refl _ _)))
      (first | (go_at_call 92; refine HWO.out.mono ?_; rintro e w3 ⟨rfl, hb3⟩; have HB3 := Aside0.mk (show Below w2.heap.size w2 w3 from (Below.drew (Below.refl _ _)).trans hb3); clear hb3))
     go_wp2_with fail
     go_roundg (gk - 1)
     case measure => have := HI2.out; have := HLT.out; omega
     case rel => exact ⟨i + 1, by have := HI2.out; have := HLT.out; omega, by go_num, ⟨HS.out.1.1.trans (HB3.out.mono (Nat.le_of_lt xl)), HS.out.1.2.below HB3.out⟩⟩
    ·have hz : ¬ (i : Int) < (X.l0.length : Int) := by omega
     have hd : decide (i < X.l0.length) = false := decide_eq_false hlt
     clear hi hlt
     obtain ⟨x0, x1, x2, x3, x4⟩ := HS.out.2.cells
     have xl := blk_lt HS.out.2
     have q4 := HC.out.l4
     rw [q4] at x4
     have z1 : ((26 : Int) != 26) = false := by decide
     go_wp2_with fail
     go_loopg [80] 26 (fun gh s80 wr => ∃ i : Nat, i + gh = 26 ∧ s80 = .int .i64 (i : Int) ∧ Aside0 (Below n1 w wr ∧ BxAt X A0 A1 A2 A3 A4 c0 c1 c2 c3 c4 n1 wr))
     case atStart => exact ⟨0, by omega, rfl, HS⟩
     case round =>
      clear HS x0 x1 x2 x3 x4 xl z1
      obtain ⟨i, hi, rfl, HS⟩ := hrel
      have HI2 := Aside0.mk hi
      by_cases hlt : i < 26
      ·have hz : (i : Int) < 26 := by omega
       have hz2 : (i : Int) < (X.l4.length : Int) := by omega
       have hd : decide (i < 26) = true := decide_eq_true hlt
       have hd2 : decide ((i : Int) < 26) = true := decide_eq_true hz
       have h0 : (0 : Int) ≤ (i : Int) := by omega
       have HLT := Aside0.mk hlt
       obtain ⟨ad, rfl, e0, e1⟩ := at_T47 (HIN.out.below (show Below w.heap.size w wr by rw [← HN1.out]; exact HS.out.1)).h4 (i : Int) h0 hz2
       rw [Int.toNat_natCast] at e0 e1
       have el := World.block_lt_of_cell? wr _ e0
       obtain ⟨s1, s2, s3⟩ := spanV_zero (HC.out.sp i hlt)
       have HSP := Aside0.mk (fun (W : World) => span_ok _ _ 1 100 W s1 s2 s3)
       clear hi hlt s1 s2 s3 q4 hz2
       go_wp2_with first
        | (go_at_call 93; refine (HSP.out _).mono ?_; rintro e w2 ⟨rfl, hb⟩; have HB2 := Aside0.mk hb; clear hb)
        | fail
       have HB3 := Aside0.mk (((Below.refl wr.heap.size wr).alloc (Nat.le_refl _) _).trans (HB2.out.mono (by simp)))
       go_roundg (gk - 1)
       case measure => have := HI2.out; have := HLT.out; omega
       case rel => exact ⟨i + 1, by have := HI2.out; have := HLT.out; omega, by go_num, ⟨HS.out.1.trans (HB3.out.mono (Nat.le_of_lt (blk_lt HS.out.2))), HS.out.2.below HB3.out⟩⟩
      ·have hz : ¬ (i : Int) < 26 := by omega
       have hd : decide (i < 26) = false := decide_eq_false hlt
       have hd2 : decide ((i : Int) < 26) = false := decide_eq_false hz
       clear hi hlt q4
       go_wp2_with fail
       go_ret
       exact ⟨rfl, HN1.out ▸ HS.out.1⟩
set_option maxRecDepth 100000 in
theorem both_calls {X : Lx} {A0 A1 A2 A3 A4 Ar : Option Addr} {c0 c1 c2 c3 c4 cr : Nat} {w : World} (h : LxIn X A0 A1 A2 A3 A4 Ar c0 c1 c2 c3 c4 cr w) (hb : bothV X.l0 X.l1 X.l2 X.l3 X.l4 X.r = 0) : Calls Try.prog 48 #[.agg #[.slice A0 X.l0.length c0, .slice A1 X.l1.length c1, .slice A2 X.l2.length c2, .slice A3 X.l3.length c3, .slice A4 X.l4.length c4], .slice Ar X.r.length cr] w fun e w' => e = .returned (.int .i64 (bothV X.l0 X.l1 X.l2 X.l3 X.l4 X.r)) ∧ Below w.heap.size w w' := by
 rw [hb]
 have HC := Aside0.mk (checkV_zero (X := X) (bothV_zero hb).1)
 have HR := Aside0.mk (rowV_zero (bothV_zero hb).2)
 have HIN := Aside0.mk h
 clear h hb
 obtain ⟨n1, hn1⟩ : ∃ n, n = w.heap.size := ⟨_, rfl⟩
 have HN1 := Aside0.mk hn1
 go_enter Try.func48, Try.ntmps48
 go_upto_region 1 with fail
 refine wp_gen (fun wx => Aside0 (Below n1 w wx ∧ BxAt X A0 A1 A2 A3 A4 c0 c1 c2 c3 c4 n1 wx)) ⟨⟨by rw [hn1]; exact (Below.refl _ _).alloc (Nat.le_refl _) _, by rw [hn1]; exact bxAt_new A0 A1 A2 A3 A4 c0 c1 c2 c3 c4 w⟩⟩ ?_
 rw [← hn1]
 clear hn1
 rintro w1 HS
 obtain ⟨x0, x1, x2, x3, x4⟩ := HS.out.2.cells
 have xl := blk_lt HS.out.2
 go_wp2_with first
  | (go_at_call 75; refine (check_ok (HIN.out.below (show Below w.heap.size w w1 by rw [← HN1.out]; exact HS.out.1)) HC.out).mono ?_; rintro e w2 ⟨rfl, hb⟩; have HB2 := Aside0.mk (HS.out.1.trans (hb.mono (Nat.le_of_lt xl))); clear hb)
  | (go_at_call 76; refine (row_ok (HIN.out.below (show Below w.heap.size w w2 by rw [← HN1.out]; exact HB2.out)).hr HR.out).mono ?_; rintro e w3 ⟨rfl, hb⟩; have HB3 := Aside0.mk (HB2.out.trans (hb.mono (by have := HB2.out.size; have := HN1.out; omega))); clear hb)
  | fail
 go_ret
 exact ⟨rfl, HN1.out ▸ HB3.out⟩
end Go.Proofs.Ytkfebceainedfaa.P.OwnGap
namespace Go.Proofs.Ytkfebceainedfaa.OLies
open Go.RowKit Go.Proofs.YtkfebceainedfaaW.PrintWords Go.Proofs.YtkfebceainedfaaW.PrintLast Go.Proofs.YtkfebceainedfaaW.PrintMore
section
variable {P : Program} {ops : Array Oper} {o : Oper} {a : Act} {Q : Exit → Act → World → Prop} {Kc : Act → World → Prop} {α : Type}
end
end Go.Proofs.Ytkfebceainedfaa.OLies
namespace Go.Proofs.Ytkfebceainedfaa.P.OwnGap
open Go.RowKit Go.Shelf Go.Proofs.YtkfebceainedfaaW.PrintWords Go.Proofs.YtkfebceainedfaaW.PrintLast Go.Proofs.YtkfebceainedfaaW.PrintMore
open Go.Proofs.Ytkfebceainedfaa.OwnGap
set_option linter.unusedVariables false
set_option linter.unusedSimpArgs false
attribute [local go_sem] Oper.semAt_some
theorem run_copy_wide {P : Program} (w : World) (dT sT ty elem : TypeId) (g o dLen dCap : Nat) (a : Addr) (sLen sCap : Nat) (cur : Array Value) (t : TypeId) (cs : List Value) (sz : Nat)
    (hu : P.underlying dT = some (.slice elem)) (hs : (P.info? elem).map (·.size) = some sz)
    (hg : w.heap[g]? = some (.cells cur t (0, 0))) (hn : cs.length = Nat.min sLen dLen * sz)
    (hsrc : ∀ j v, cs[j]? = some v → w.cell? (a.add j) = some v) (hfit : o + cs.length ≤ cur.size) (h1 : ∀ v ∈ cs, v.oneCell' = true) :
    (Builtin.copy_ #[dT, sT] ty #[.slice (some ⟨g, o, none⟩) dLen dCap, .slice (some a) sLen sCap]).run P w =
      .ok (goInt (Nat.min sLen dLen)) (w.setRow g (cur.toList.take o ++ cs ++ cur.toList.drop (o + cs.length)).toArray) := by
  have hl := run_loadCells_list (P := P) w a cs hsrc
  have hst := run_storeCells_at P g o t cs 0 cur w hg (by simpa using hfit) h1
  cases hq : P.info? elem with
  | none => simp [hq] at hs
  | some i =>
    have hi : i.size = sz := by simpa [hq] using hs
    simp [Builtin.copy_, run_underlying hu, Builtin.lenOf, Builtin.firstCells, sizeOf, typeInfo, hq, hi, ← hn, hl, hst]
theorem step_copy_wide {P : Program} {ops : Array Oper} {o : Oper} {a : Act} {w : World} {K : Act → World → Prop} {Q : Exit → Act → World → Prop} {E : Prop} (hgd : o.guard = none) (d s : Operand) (dT sT : TypeId)
    (ho : o.op = .call { callee := .builtin .copy, args := #[d, s], argTypes := #[dT, sT] }) (elem : TypeId) (sz : Nat) (hu : P.underlying dT = some (.slice elem)) (hsz : (P.info? elem).map (·.size) = some sz)
    (g off dLen dCap : Nat) (ad : Addr) (sLen sCap : Nat) (hd : a.eval d = .slice (some ⟨g, off, none⟩) dLen dCap) (hs : a.eval s = .slice (some ad) sLen sCap)
    (cur : List Value) (t : TypeId) (hg : w.heap[g]? = some (.cells cur.toArray t (0, 0))) (cs : List Value) (hn : cs.length = Nat.min sLen dLen * sz)
    (hsrc : ∀ j v, cs[j]? = some v → w.cell? (ad.add j) = some v)
    (hfit : off + cs.length ≤ cur.length) (h1 : ∀ v ∈ cs, v.oneCell' = true) (B : Nat) (w0 : World) (hb : RowKit.Below B w0 w) (hBg : B ≤ g)
    (h : ∀ w', RowKit.Hid (w'.heap[g]? = some (.cells (splice cur off cs).toArray t (0, 0))) → RowKit.Below B w0 w' → (∀ k, k ≠ g → w'.heap[k]? = w.heap[k]?) → w'.heap.size = w.heap.size → K (a.put o.dst (goInt (Nat.min sLen dLen))) w') :
    if Region.wanted o (yielded ops a.tmps) = true then Oper.wp P o a w K Q else E := by
  have hw : Region.wanted o (yielded ops a.tmps) = true := by simp [Region.wanted, hgd]
  rw [if_pos hw]
  have hrun := run_copy_wide (P := P) w dT sT o.type elem g off dLen dCap ad sLen sCap cur.toArray t cs sz hu hsz hg hn hsrc (by simpa using hfit) h1
  unfold Oper.wp
  simp [execOp, ho, resolve, invoke, builtin, hd, hs, hrun, Result.andThen]
  exact h _ (show _ = _ by simpa [splice] using setRow_heap w g _ _ t _ hg) (below_setRow hb hBg _) (fun k hk => setRow_other w g k _ hk) (by simp [World.setRow])
def widC (l : List S47) : List Value := (List.range 52).map fun j => if j % 2 = 0 then .int .i64 (rd_T47 l (j / 2 : Nat)).f0 else .int .i64 (rd_T47 l (j / 2 : Nat)).f1
theorem widC_len (l : List S47) : (widC l).length = 52 := by simp [widC]
theorem widC_get (l : List S47) (k : Nat) (hk : k < 26) : (widC l)[k * 2]? = some (.int .i64 (rd_T47 l (k : Int)).f0) ∧ (widC l)[k * 2 + 1]? = some (.int .i64 (rd_T47 l (k : Int)).f1) := by
  unfold widC
  rw [List.getElem?_map, List.getElem?_map, List.getElem?_range (by omega), List.getElem?_range (by omega)]
  simp only [Option.map_some]
  rw [if_pos (by omega), if_neg (by omega), show k * 2 / 2 = k by omega, show (k * 2 + 1) / 2 = k by omega]
  exact ⟨rfl, rfl⟩
theorem widC_src {w : World} {ad : Addr} {l : List S47} (h : Kd.C k47 w (some ad) 26 l) : ∀ j v, (widC l)[j]? = some v → w.cell? (ad.add j) = some v := by
  intro j v hv
  have hj : j < 52 := by have := (List.getElem?_eq_some_iff.1 hv).1; rwa [widC_len] at this
  have hj2 : j / 2 < 26 := by omega
  obtain ⟨q, hq⟩ : ∃ q, q = j / 2 := ⟨_, rfl⟩
  rw [← hq] at hj2
  obtain ⟨ad', e, y0, y1⟩ := at_T47 h (q : Int) (by omega) (by omega)
  injection e with e
  subst e
  rw [Int.toNat_natCast] at y0 y1
  obtain ⟨g0, g1⟩ := widC_get l q hj2
  rcases Nat.mod_two_eq_zero_or_one j with hm | hm
  · rw [show q * 2 = j by omega] at g0 y0
    rw [hv] at g0
    injection g0 with g0
    rw [g0, ← y0]
  · have e2 := add_field ad (q * 2) 1 (by omega)
    rw [show q * 2 + 1 = j by omega] at g1 e2
    rw [hv] at g1
    injection g1 with g1
    rw [g1, ← y1, e2]
def srC (v0 v1 v2 v3 v4 vr vf : Value) (ws : List Value) (mb : Nat) : List Value := [v0, v1, v2, v3, v4, vr, vf] ++ ws ++ [.map (some mb)]
theorem srC_set (v0 v1 v2 v3 v4 vr vf u : Value) (ws : List Value) (mb : Nat) : (srC v0 v1 v2 v3 v4 vr vf ws mb).toArray.setIfInBounds 6 u = (srC v0 v1 v2 v3 v4 vr u ws mb).toArray := by
  unfold srC
  simp
theorem srC_get (v0 v1 v2 v3 v4 vr vf : Value) (l : List S47) (mb k : Nat) (hk : k < 26) : (srC v0 v1 v2 v3 v4 vr vf (widC l) mb).toArray[7 + k * 2]? = some (.int .i64 (rd_T47 l (k : Int)).f0) ∧ (srC v0 v1 v2 v3 v4 vr vf (widC l) mb).toArray[7 + k * 2 + 1]? = some (.int .i64 (rd_T47 l (k : Int)).f1) := by
  obtain ⟨g0, g1⟩ := widC_get l k hk
  unfold srC
  have e : ∀ i v, (widC l)[i]? = some v → ([v0, v1, v2, v3, v4, vr, vf] ++ widC l ++ [Value.map (some mb)]).toArray[7 + i]? = some v := fun i v h => by
    have hi : i < (widC l).length := (List.getElem?_eq_some_iff.1 h).1
    rw [List.getElem?_toArray, List.append_assoc, List.getElem?_append_right (by simp), List.getElem?_append_left (by simpa using hi)]
    simpa using h
  exact ⟨e _ _ g0, e _ _ g1⟩
theorem srC_map (v0 v1 v2 v3 v4 vr vf : Value) (l : List S47) (mb : Nat) : (srC v0 v1 v2 v3 v4 vr vf (widC l) mb).toArray[59]? = some (Value.map (some mb)) := by
  unfold srC
  rw [List.getElem?_toArray, List.getElem?_append_right (by simp [widC_len])]
  simp [widC_len]
structure SrI (X : Lx) (w : World) (bx mb : Nat) (v0 v1 v2 v3 v4 vr : Value) (j : Nat) (W : World) : Prop where
  below : Below bx w W
  size : mb + 2 ≤ W.heap.size
  row : ∃ v, W.heap[mb + 1]? = some (.cells (srC v0 v1 v2 v3 v4 vr v (widC X.l4) mb).toArray 130 (0, 0)) ∧ (Kd.int .u32).R 104 W bx (fun _ => True) v ((X.r.take j).map fun c => ofV c.f0)
  memo : MemoAt Try.prog 139 (AliveR X) W mb
theorem SrI.next {X : Lx} {w : World} {bx mb : Nat} {v0 v1 v2 v3 v4 vr : Value} {j : Nat} {W W' : World} (h : SrI X w bx mb v0 v1 v2 v3 v4 vr j W) (hb : Below W.heap.size W W') (hbx : bx ≤ mb) : SrI X w bx mb v0 v1 v2 v3 v4 vr j W' := by
  obtain ⟨v, h1, h2⟩ := h.row
  have hz := h.size
  exact ⟨h.below.trans (hb.mono (by omega)), Nat.le_trans hz hb.size, ⟨v, blk_below h1 hb, Kd.R_below h2 hb⟩, h.memo.keep (hb.block mb (by omega))⟩
theorem row_u32 {W : World} {b : Nat} {x : Int} (h : W.cell? ⟨b, 0, none⟩ = some (.int .u32 x)) : ReadsRow (fun (y : Int) cs => cs = [.int .u32 y]) 1 W (some ⟨b, 0, none⟩) 1 [x] := by
  refine ⟨rfl, by decide, fun _ => ⟨_, rfl, fun j p hj => ⟨[.int .u32 p], rfl, rfl, fun i u hu => ?_⟩⟩⟩
  have hj0 : j = 0 := by
    have := (List.getElem?_eq_some_iff.1 hj).1
    simpa using this
  subst hj0
  have hi : i = 0 := by
    have := (List.getElem?_eq_some_iff.1 hu).1
    simpa using this
  subst hi
  simp only [List.getElem?_cons_zero, Option.some.injEq] at hj hu
  subst hj
  subst hu
  exact h
theorem srow_far {W w6 : World} {n0 : Nat} {v : Value} {xs : List Int} {b t : Nat} {c : Array Value} {o : Obj} (hR : (Kd.int .u32).R 104 W n0 (fun _ => True) v xs) (hb : (W.alloc o).heap[b]? = some (.cells c t (0, 0))) (hg : (W.alloc o).grownBy w6 v.ownBlock) (ht : t ≠ 104 := by decide) : w6.heap[b]? = some (.cells c t (0, 0)) := by
  obtain ⟨_, inner, hown, _⟩ := hR
  have hlt : b < (W.alloc o).heap.size := (Array.getElem?_eq_some_iff.1 hb).1
  refine (hg.block b hlt (fun e => ?_)).trans hb
  obtain ⟨cells, hc⟩ := own_typed hown b e.symm
  rw [Below.heap_alloc W o b (Array.getElem?_eq_some_iff.1 hc).1, hc] at hb
  injection hb with hb
  injection hb with _ hb
  exact ht hb.symm
theorem R_cells1 {e base : Nat} {W W' : World} {v : Value} {xs : List Int} (h : (Kd.int .u32).R e W base (fun _ => True) v xs) (hs : ∀ (k : Nat) (c : Array Value) (fr : Nat × Nat), W.heap[k]? = some (Obj.cells c e fr) → W'.heap[k]? = W.heap[k]?) : (Kd.int .u32).R e W' base (fun _ => True) v xs := by
  obtain ⟨h0, inner, hown, hr⟩ := h
  refine ⟨h0, inner, own_move hown (fun k hk => ?_), hr.imp_ (fun _ _ h => h)⟩
  obtain ⟨cells, hc⟩ := own_typed hown k hk
  exact hs k _ _ hc
theorem srI_step {X : Lx} {w : World} {bx mb : Nat} {v0 v1 v2 v3 v4 vr v : Value} {j n : Nat} {w5 w6 : World} {o : Obj} {pre : List Int} {A6 : Option Addr} {c6 : Nat} (h5 : SrI X w bx mb v0 v1 v2 v3 v4 vr j w5) (hR5 : (Kd.int .u32).R 104 w5 bx (fun _ => True) v pre) (hV5 : w5.heap[mb + 1]? = some (.cells (srC v0 v1 v2 v3 v4 vr v (widC X.l4) mb).toArray 130 (0, 0)))
    (hB : Below bx w w6) (hg : (w5.alloc o).grownBy w6 v.ownBlock) (hR6 : (Kd.int .u32).R 104 w6 bx (fun _ => True) (.slice A6 n c6) ((X.r.take (j + 1)).map fun c => ofV c.f0)) (hbm : bx ≤ mb) (hn : n = j + 1) : SrI X w bx mb v0 v1 v2 v3 v4 vr (j + 1) (w6.setCell ⟨mb + 1, 6, none⟩ (.slice A6 (j + 1) c6)) := by
  subst hn
  have hV6 := srow_far hR5 (blk_alloc hV5 o) hg
  refine ⟨hB.setCell (by show bx ≤ mb + 1; omega) _, ?_, ⟨.slice A6 (j + 1) c6, ?_, ?_⟩, h5.memo.keep ?_⟩
  · have h1 := hg.size
    have h2 := h5.size
    simp [World.setCell] at h1 ⊢
    omega
  · rw [← srC_set v0 v1 v2 v3 v4 vr v]
    exact blk_set hV6 6 _
  · refine R_cells1 hR6 (fun k c fr hk => (Below.heap_setCell w6 ⟨mb + 1, 6, none⟩ _ k (fun e => ?_)).trans rfl)
    rw [e, hV6] at hk
    injection hk with hk
    injection hk with _ hk
    exact absurd hk (by decide)
  · have hm : mb < w5.heap.size := by have := h5.size; omega
    rw [Below.heap_setCell w6 ⟨mb + 1, 6, none⟩ _ mb (by show mb ≠ mb + 1; omega), hg.block mb (by simp; omega) (fun e => ?_), Below.heap_alloc w5 o mb hm]
    obtain ⟨_, inner, hown, _⟩ := hR5
    obtain ⟨cells, hc⟩ := own_typed hown mb e.symm
    obtain ⟨es, ck, hm2, _⟩ := h5.memo
    rw [hc] at hm2
    cases hm2
theorem c4f {W : World} {b t : Nat} {v0 v1 v2 v3 : Value} (h : W.heap[b]? = some (.cells #[v0, v1, v2, v3] t (0, 0))) : W.cell? ⟨b, 0, none⟩ = some v0 ∧ W.cell? ⟨b, 1, none⟩ = some v1 ∧ W.cell? ⟨b, 2, none⟩ = some v2 ∧ W.cell? ⟨b, 3, none⟩ = some v3 :=
  ⟨(blk_cell h 0).trans rfl, (blk_cell h 1).trans rfl, (blk_cell h 2).trans rfl, (blk_cell h 3).trans rfl⟩
set_option maxHeartbeats 2000000 in
set_option maxRecDepth 100000 in
theorem searchOf_calls (X : Lx) (A0 A1 A2 A3 A4 Ar : Option Addr) (c0 c1 c2 c3 c4 cr : Nat) (w : World)
    (h0 : Kd.C k53 w A0 X.l0.length X.l0) (h1 : Kd.C Kd.bool w A1 X.l1.length X.l1) (h2 : Kd.C Kd.bool w A2 X.l2.length X.l2) (h3 : Kd.C (Kd.slice 4 Kd.bool) w A3 X.l3.length X.l3) (h4 : Kd.C k47 w A4 26 X.l4) (hr : Kd.C k49 w Ar X.r.length X.r)
    (g0 : X.l0.length ≤ c0) (g1 : X.l1.length ≤ c1) (g2 : X.l2.length ≤ c2) (g3 : X.l3.length ≤ c3) (g4 : 26 ≤ c4) (gr : X.r.length ≤ cr) (hn : X.r.length ≤ 1000) (hl : ∀ i : Nat, i < X.r.length → LetS (rd_T49 X.r (i : Int)).f0 ∧ (rd_T49 X.r (i : Int)).f0.size < 4611686018427387903) :
    Calls Try.prog 50 #[.agg #[.slice A0 X.l0.length c0, .slice A1 X.l1.length c1, .slice A2 X.l2.length c2, .slice A3 X.l3.length c3, .slice A4 26 c4], .slice Ar X.r.length cr] w fun e w' =>
      ∃ S, e = .returned (.pointer (some ⟨S.b, 0, none⟩)) ∧ AW X S (X.r.map fun c => ofV c.f0) w' ∧ Below w.heap.size w w' ∧ w.heap.size ≤ S.mb ∧ w.heap.size ≤ S.b := by
  have H0 := Aside0.mk h0
  have H1 := Aside0.mk h1
  have H2 := Aside0.mk h2
  have H3 := Aside0.mk h3
  have H4 := Aside0.mk h4
  have HR := Aside0.mk hr
  have G0 := Aside0.mk g0
  have G1 := Aside0.mk g1
  have G2 := Aside0.mk g2
  have G3 := Aside0.mk g3
  have G4 := Aside0.mk g4
  have GR := Aside0.mk gr
  have HN := Aside0.mk hn
  have HL := Aside0.mk hl
  clear h0 h1 h2 h3 h4 hr g0 g1 g2 g3 g4 gr hn hl
  go_enter Try.func50, Try.ntmps50
  go_upto_region 1 with fail
  obtain ⟨bx, hbx⟩ : ∃ b, b = w.heap.size := ⟨_, rfl⟩
  refine wp_gen (fun wx => Aside0 (wx.heap[bx]? = some (.cells #[.slice A0 X.l0.length c0, .slice A1 X.l1.length c1, .slice A2 X.l2.length c2, .slice A3 X.l3.length c3, .slice A4 26 c4] 28 (0, 0))) ∧ Aside0 (Below w.heap.size w wx ∧ wx.heap.size = bx + 1)) ⟨⟨by rw [hbx]; exact blk_new w _⟩, ⟨(Below.refl _ _).alloc (Nat.le_refl _) _, by simp [hbx]⟩⟩ ?_
  rw [← hbx]
  rintro w1 ⟨HX, HB1⟩
  have HBX := Aside0.mk hbx
  clear hbx
  have x0 := (blk_cell HX.out 0).trans rfl
  have x1 := (blk_cell HX.out 1).trans rfl
  have x2 := (blk_cell HX.out 2).trans rfl
  have x3 := (blk_cell HX.out 3).trans rfl
  have x4 := (blk_cell HX.out 4).trans rfl
  have hxl := blk_lt HX.out
  have hmk := run_makeMap (P := Try.prog) 126 w1
  go_upto_region 2 with fail
  have HB2 := Aside0.mk (show Below bx w (w1.alloc (.map #[] 0)) from HB1.out.1.alloc (by have := HB1.out.2; omega) _)
  have HM2 := Aside0.mk (MemoAt.new (P := Try.prog) 139 (AliveR X) w1)
  have HZ2 := Aside0.mk (show w1.heap.size = bx + 1 from HB1.out.2)
  have HX2 := Aside0.mk (blk_alloc HX.out (.map #[] 0))
  obtain ⟨mb, hmb⟩ : ∃ b, b = w1.heap.size := ⟨_, rfl⟩
  rw [← hmb]
  rw [← hmb] at HM2 HZ2
  have HZ3 := Aside0.mk (show (w1.alloc (.map #[] 0)).heap.size = mb + 1 by simp [hmb])
  revert HB2 HM2 HX2 HZ3
  clear HX HB1 x0 x1 x2 x3 x4 hxl hmk hmb
  generalize (w1.alloc (.map #[] 0)) = w2
  rintro HB2 HX2 HM2 HZ3
  have HE := Aside0.mk (show Below w2.heap.size w2 w2 from Below.refl _ _)
  refine wp_gen (fun wx => Aside0 (wx.heap[mb + 1]? = some (.cells (srC (.slice A0 X.l0.length c0) (.slice A1 X.l1.length c1) (.slice A2 X.l2.length c2) (.slice A3 X.l3.length c3) (.slice A4 26 c4) (.slice Ar X.r.length cr) (.slice none 0 0) (List.replicate 52 (.int .i64 0)) mb).toArray 130 (0, 0))) ∧ Aside0 (Below bx w wx ∧ Below w2.heap.size w2 wx ∧ wx.heap.size = mb + 2)) ⟨⟨?_⟩, ⟨?_⟩⟩ ?_
  · rw [← HZ3.out]; exact blk_new w2 _
  · exact ⟨HB2.out.alloc (by have := HZ3.out; have := HZ2.out; omega) _, HE.out.alloc (Nat.le_refl _) _, by simp [HZ3.out]⟩
  rintro w3 ⟨HS3, HB3⟩
  obtain ⟨ad, rfl, y0, -⟩ := at_T47 H4.out 0 (by decide) (by decide)
  have hx3 := blk_below HX2.out HB3.out.2.1
  have x4 := (blk_cell hx3 4).trans rfl
  have hxl := blk_lt hx3
  have hsl := blk_lt HS3.out
  have HSRC := Aside0.mk (show ∀ j v, (widC X.l4)[j]? = some v → w3.drew.cell? (ad.add j) = some v from fun j v hv => by
    have h1 := widC_src H4.out j v hv
    exact (World.cell?_drew w3 _).trans ((HB3.out.1.cell (by rw [HBX.out]; exact World.block_lt_of_cell? w _ h1)).trans h1))
  have HW1 := Aside0.mk (show ∀ v ∈ widC X.l4, v.oneCell' = true by
    intro v hv
    unfold widC at hv
    obtain ⟨j, -, rfl⟩ := List.mem_map.1 hv
    split <;> rfl)
  clear hx3 y0
  go_region_law (refine step_copy_wide rfl (.tmp 16) (.tmp 18) 26 26 rfl 47 2 Try.underlying26 (by kernel_rfl) (mb + 1) 7 26 26 ad 26 c4 rfl rfl (srC (.slice A0 X.l0.length c0) (.slice A1 X.l1.length c1) (.slice A2 X.l2.length c2) (.slice A3 X.l3.length c3) (.slice (some ad) 26 c4) (.slice Ar X.r.length cr) (.slice none 0 0) (List.replicate 52 (.int .i64 0)) mb) 130 HS3.out (widC X.l4) (by rw [widC_len]; rfl) HSRC.out (by rw [widC_len]; exact (by decide : 7 + 52 ≤ 60)) HW1.out bx w HB3.out.1.drew (by have := HZ2.out; omega) ?_; intro w4 hs4 hb4 hk4 hz4)
  have HI := Aside0.mk (show SrI X w bx mb (.slice A0 X.l0.length c0) (.slice A1 X.l1.length c1) (.slice A2 X.l2.length c2) (.slice A3 X.l3.length c3) (.slice (some ad) 26 c4) (.slice Ar X.r.length cr) 0 w4 from
    ⟨hb4, by rw [hz4]; exact Nat.le_of_eq HB3.out.2.2.symm, ⟨_, hs4.trans (by rw [show splice (srC (.slice A0 X.l0.length c0) (.slice A1 X.l1.length c1) (.slice A2 X.l2.length c2) (.slice A3 X.l3.length c3) (.slice (some ad) 26 c4) (.slice Ar X.r.length cr) (.slice none 0 0) (List.replicate 52 (.int .i64 0)) mb) 7 (widC X.l4) = srC (.slice A0 X.l0.length c0) (.slice A1 X.l1.length c1) (.slice A2 X.l2.length c2) (.slice A3 X.l3.length c3) (.slice (some ad) 26 c4) (.slice Ar X.r.length cr) (.slice none 0 0) (widC X.l4) mb by unfold splice; rw [widC_len]; rfl]), Kd.R_nil _ _ _ _ _⟩, HM2.out.keep (by rw [hk4 mb (by omega)]; exact HB3.out.2.1.block mb (by have := HZ3.out; omega))⟩)
  clear hs4 hb4 hk4 hz4 HS3 HB3 HSRC HW1 x4 hxl hsl HX2 HM2 HE HB2 HZ3
  have HBM := Aside0.mk (show bx ≤ mb by have := HZ2.out; omega)
  go_wp2_with fail
  go_loopg [22] X.r.length (fun n s22 wr => ∃ j : Nat, j + n = X.r.length ∧ s22 = .int .i64 (j : Int) ∧ Aside0 (SrI X w bx mb (.slice A0 X.l0.length c0) (.slice A1 X.l1.length c1) (.slice A2 X.l2.length c2) (.slice A3 X.l3.length c3) (.slice (some ad) 26 c4) (.slice Ar X.r.length cr) j wr))
  case atStart => exact ⟨0, by simp, rfl, HI⟩
  case round =>
    obtain ⟨j, hj, rfl, HJ⟩ := hrel
    have HJN := Aside0.mk hj
    clear hj HI
    have hn0 : (X.r.length : Int) ≤ 1000 := by have := HN.out; omega
    by_cases hlt : j < X.r.length
    · have hjz : (j : Int) < (X.r.length : Int) := by omega
      have hjd : decide (j < X.r.length) = true := decide_eq_true hlt
      obtain ⟨ar, rfl, y0, y1, y2, y3⟩ := at_T49 (Kd.C_below HR.out (by rw [← HBX.out]; exact HJ.out.below)) (j : Int) (by omega) (by omega)
      simp only [Int.toNat_natCast] at y0 y1 y2 y3
      obtain ⟨c, hc⟩ : ∃ c, c = rd_T49 X.r (j : Int) := ⟨_, rfl⟩
      rw [← hc] at y0 y1 y2 y3
      have HTK := Aside0.mk (show (X.r.take (j + 1)).map (fun c => ofV c.f0) = (X.r.take j).map (fun c => ofV c.f0) ++ [ofV c.f0] by
        rw [List.take_add_one, List.getElem?_eq_getElem hlt, List.map_append, hc]
        simp [rd_T49, List.getD_eq_getElem?_getD, List.getElem?_eq_getElem hlt])
      obtain ⟨kk, hkk⟩ := (of_ev c.f0 (by rw [hc]; exact (HL.out j hlt).1) (by rw [hc]; exact (HL.out j hlt).2) c.f1 c.f2.f0 c.f2.f1).rounds
      have HKK := Aside0.mk hkk
      have hl4 := World.block_lt_of_cell? wr _ y0
      clear hc hkk
      go_upto_region 6 with fail
      obtain ⟨bc, hbc⟩ : ∃ b, b = wr.heap.size := ⟨_, rfl⟩
      have hvz := HJ.out.size
      refine wp_gen (fun wx => Aside0 (SrI X w bx mb (.slice A0 X.l0.length c0) (.slice A1 X.l1.length c1) (.slice A2 X.l2.length c2) (.slice A3 X.l3.length c3) (.slice (some ad) 26 c4) (.slice (some ar) X.r.length cr) j wx) ∧ Aside0 (wx.heap[bc]? = some (.cells #[.string c.f0, .bool c.f1, .int .i64 c.f2.f0, .int .i64 c.f2.f1] 49 (0, 0)))) ⟨⟨HJ.out.next ((Below.refl _ _).alloc (Nat.le_refl _) _) HBM.out⟩, ⟨by rw [hbc]; exact blk_new wr _⟩⟩ ?_
      rw [← hbc]
      clear hbc y0 y1 y2 y3 hl4 HJ hvz
      rintro wx ⟨HJ, HC⟩
      clear wr
      have y0 := (blk_cell HC.out 0).trans (show (#[.string c.f0, .bool c.f1, .int .i64 c.f2.f0, .int .i64 c.f2.f1] : Array Value)[0]? = some (Value.string c.f0) from rfl)
      have y1 := (blk_cell HC.out 1).trans (show (#[.string c.f0, .bool c.f1, .int .i64 c.f2.f0, .int .i64 c.f2.f1] : Array Value)[1]? = some (Value.bool c.f1) from rfl)
      have y2 := (blk_cell HC.out 2).trans (show (#[.string c.f0, .bool c.f1, .int .i64 c.f2.f0, .int .i64 c.f2.f1] : Array Value)[2]? = some (Value.int .i64 c.f2.f0) from rfl)
      have y3 := (blk_cell HC.out 3).trans (show (#[.string c.f0, .bool c.f1, .int .i64 c.f2.f0, .int .i64 c.f2.f1] : Array Value)[3]? = some (Value.int .i64 c.f2.f1) from rfl)
      have yl := blk_lt HC.out
      obtain ⟨v, hv, hR⟩ := HJ.out.row
      have z6 := (blk_cell hv 6).trans (show _ = some v from rfl)
      have zf := blk_frozen hv 6
      have zl := blk_lt hv
      have HV := Aside0.mk hv
      have HRW := Aside0.mk hR
      have HLP := Aside0.mk (show ((X.r.take j).map fun c => ofV c.f0).length = j by simp; omega)
      clear hv hR
      obtain ⟨pre, hpre⟩ : ∃ pre, pre = (X.r.take j).map fun c => ofV c.f0 := ⟨_, rfl⟩
      rw [← hpre] at HTK HRW HLP
      clear hpre
      have hpl := HLP.out
      have HLT := Aside0.mk hlt
      have yh : wx.drew.cell? ⟨mb + 1, 6, none⟩ = some v := z6
      go_region_law
        (first
          | (rw [if_pos (by rfl)]; go_simp; go_at_call 77; refine (gap_of.calls kk c.f0 c.f1 c.f2.f0 c.f2.f1 _ _ HKK.out).mono ?_; rintro e w5 ⟨rfl, hb5⟩; have HV5 := Aside0.mk (blk_below (show wx.drew.heap[mb + 1]? = _ from HV.out) hb5); have HC5 := Aside0.mk (blk_below (show wx.drew.heap[bc]? = _ from HC.out) hb5); have HR5 := Aside0.mk (Kd.R_below (Kd.R_drew HRW.out) hb5); have HJ5 := Aside0.mk (HJ.out.next ((Below.drew (Below.refl _ _)).trans hb5) HBM.out)
             have yq5 : w5.cell? ⟨mb + 1, 6, none⟩ = some v := (blk_cell HV5.out 6).trans rfl
             have yqa : ∀ (o : Obj), (w5.alloc o).cell? ⟨mb + 1, 6, none⟩ = some v := fun o => (blk_cell (blk_alloc HV5.out o) 6).trans rfl
             have HS5 := Aside0.mk (c4f HC5.out)
             have HSA := Aside0.mk (fun (o : Obj) => c4f (blk_alloc HC5.out o)); clear hb5)
          | (refine Kd.R_append_rows_step (Kd.int .u32) (w0 := w) (Rr := fun y cs => cs = [.int .u32 y]) bx rfl _ _ 127 104 (.int .u32 0) 4 rfl Try.underlying127 (by kernel_rfl) rfl (by decide) (by omega) v pre [ofV c.f0] (some ⟨w5.heap.size, 0, none⟩) 1 1 (fun _ => True) (fun _ => False) rfl rfl (Kd.R_alloc HR5.out _) (row_u32 (blk_cell (blk_new w5 _) 0)) ?_ (fun _ h => h.elim) (fun _ _ => trivial) (HJ5.out.below.alloc (by have := HJ5.out.size; have := HBM.out; omega) _) (by have := HJ5.out.size; have := HBM.out; simp; omega) ?_ ?_
             · exact fun x cs h => h
             · (rw [HLP.out]; have := HN.out; have := HLT.out; omega)
             intro v6 w6 hv6 hB6 hG6 hat6
             obtain ⟨A6, c6, e6⟩ := Kd.R_slice hv6
             subst e6
             have HR6 := Aside0.mk hv6
             have HB6 := Aside0.mk hB6
             have HG6 := Aside0.mk hG6
             have HV6 := Aside0.mk (show w6.heap[mb + 1]? = _ from srow_far HR5.out (blk_alloc HV5.out _) hG6)
             have HC6 := Aside0.mk (show w6.heap[bc]? = _ from srow_far HR5.out (blk_alloc HC5.out _) hG6)
             have HS6 := Aside0.mk (c4f HC6.out)
             have HNE := Aside0.mk (show bc ≠ mb + 1 from fun e => by have h1 := HC.out; rw [e, HV.out] at h1; injection h1 with h1; injection h1 with _ h1; exact absurd h1 (by decide))
             have HS7 := Aside0.mk (fun (u : Value) => c4f (blk_far HC6.out (p := ⟨mb + 1, 6, none⟩) HNE.out u))
             have yq6 : w6.cell? ⟨mb + 1, 6, none⟩ = some v := (blk_cell HV6.out 6).trans rfl
             have yf6 := blk_frozen HV6.out 6
             clear hv6 hB6 hG6 hat6))
      all_goals
        have HJ7 := Aside0.mk (show SrI X w bx mb (.slice A0 X.l0.length c0) (.slice A1 X.l1.length c1) (.slice A2 X.l2.length c2) (.slice A3 X.l3.length c3) (.slice (some ad) 26 c4) (.slice (some ar) X.r.length cr) (j + 1) (w6.setCell ⟨mb + 1, 6, none⟩ (.slice A6 (j + 1) c6)) from
          srI_step HJ5.out HR5.out HV5.out HB6.out HG6.out (by rw [HTK.out]; exact HR6.out) HBM.out (by rw [List.length_append, HLP.out]; rfl))
        go_wp2_with fail
        go_roundg (gk - 1)
        case measure => have := HJN.out; have := HLT.out; omega
        case rel => exact ⟨j + 1, by have := HJN.out; have := HLT.out; omega, by go_num, HJ7⟩
    · have hjz : ¬ (j : Int) < (X.r.length : Int) := by omega
      have hjd : decide (j < X.r.length) = false := decide_eq_false hlt
      obtain ⟨v, hv, hR⟩ := HJ.out.row
      have HV := Aside0.mk hv
      have HRW := Aside0.mk (show (Kd.int .u32).R 104 wr bx (fun _ => True) v (X.r.map fun c => ofV c.f0) by
        rw [List.take_of_length_le (by omega)] at hR
        exact hR)
      clear hv hR
      obtain ⟨Af, cf, rfl, hcf, hrf⟩ := Kd.R_reads HRW.out
      have HRF := Aside0.mk hrf
      clear hrf
      have HBB := Aside0.mk (show Below w.heap.size w wr by rw [← HBX.out]; exact HJ.out.below)
      go_wp2_with fail
      go_ret
      refine ⟨⟨mb + 1, _, mb, A0, c0, A1, c1, A2, c2, A3, c3, Ar, cr, Af, cf⟩, rfl, ⟨⟨HV.out, rfl, rfl, rfl, rfl, rfl, ?_, fun k hk => srC_get _ _ _ _ _ _ _ _ _ k hk, srC_map _ _ _ _ _ _ _ _ _, Kd.C_below H0.out HBB.out, Kd.C_below H1.out HBB.out, Kd.C_below H2.out HBB.out, Kd.C_below H3.out HBB.out, Kd.C_below HR.out HBB.out, ?_, G0.out, GR.out⟩, HJ.out.memo⟩, HBB.out, by show w.heap.size ≤ mb; have := HZ2.out; have := HBX.out; omega, by show w.heap.size ≤ mb + 1; have := HZ2.out; have := HBX.out; omega⟩
      · show some (Value.slice Af (X.r.map fun c => ofV c.f0).length cf) = _
        rw [List.length_map]
      · have h := HRF.out
        rw [List.length_map] at h
        exact h
end Go.Proofs.Ytkfebceainedfaa.P.OwnGap
namespace Go.Proofs.Ytkfebceainedfaa.P.OwnGap
open Go.RowKit Go.Shelf Go.Proofs.YtkfebceainedfaaW.PrintWords Go.Proofs.YtkfebceainedfaaW.PrintLast Go.Proofs.YtkfebceainedfaaW.PrintMore
open Go.Proofs.Ytkfebceainedfaa.OwnGap
set_option linter.unusedVariables false
set_option linter.unusedSimpArgs false
structure KM (n mb : Nat) (W W' : World) : Prop where
 os : W'.os = W.os
 tape : W'.tape = W.tape
 output : W'.output = W.output
 size : W.heap.size ≤ W'.heap.size
 block : ∀ k, k < n → k ≠ mb → W'.heap[k]? = W.heap[k]?
theorem KM.refl (n mb : Nat) (W : World) : KM n mb W W := ⟨rfl, rfl, rfl, Nat.le_refl _, fun _ _ _ => rfl⟩
theorem KM.trans {n mb : Nat} {W W' W'' : World} (h : KM n mb W W') (k : KM n mb W' W'') : KM n mb W W'' := ⟨k.os.trans h.os, k.tape.trans h.tape, k.output.trans h.output, Nat.le_trans h.size k.size, fun i h1 h2 => (k.block i h1 h2).trans (h.block i h1 h2)⟩
theorem KM.below {n mb : Nat} {W W' : World} (h : Below n W W') : KM n mb W W' := ⟨h.os, h.tape, h.output, h.size, fun k h1 _ => h.block k h1⟩
theorem KM.grown {n mb : Nat} {W W' : World} (h : W.grownBy W' (some mb)) (hn : n ≤ W.heap.size) : KM n mb W W' := ⟨h.os, h.tape, h.output, h.size, fun k h1 h2 => h.block k (Nat.lt_of_lt_of_le h1 hn) (fun e => h2 (by injection e))⟩
theorem KM.mono {n n' mb : Nat} {W W' : World} (h : KM n mb W W') (hn : n' ≤ n) : KM n' mb W W' := ⟨h.os, h.tape, h.output, h.size, fun k h1 h2 => h.block k (Nat.lt_of_lt_of_le h1 hn) h2⟩
theorem KM.grownBy {mb : Nat} {W W' : World} (h : KM W.heap.size mb W W') : W.grownBy W' (some mb) := ⟨h.os, h.tape, h.output, h.size, fun k h1 h2 => h.block k h1 (fun e => h2 (by rw [e]))⟩
theorem R_memo {W W' : World} {n1 mb : Nat} {v : Value} {l : List Pth} (h : kP.R 154 W n1 (fun _ => True) v l) (hg : W.grownBy W' (some mb)) (hm : mb < n1) : kP.R 154 W' n1 (fun _ => True) v l :=
 Kd.R_mono (Kd.R_grown (Kd.R_bound h) hg (fun k hk e => by have := hk.2.1; injection e; omega)) (fun _ _ => trivial)
theorem R_tail {W : World} {n1 g n cap : Nat} {l : List Pth} (h : kP.R 154 W n1 (fun _ => True) (.slice (some ⟨g, 0, none⟩) n cap) l) (o : Nat) (seg : List Value) (ho : n * 8 ≤ o) (hs : o + seg.length ≤ cap * 8) :
  kP.R 154 (W.setCells g o seg) n1 (fun _ => True) (.slice (some ⟨g, 0, none⟩) n cap) l ∧ Below n1 W (W.setCells g o seg) := by
 obtain ⟨hn, hnc, _⟩ := Kd.R_reads' h
 obtain ⟨hok, inner, how, hr⟩ := h
 obtain ⟨ho1, ho2⟩ := how
 rcases ho2 with ⟨hv, _⟩ | ⟨g', cap', cur, hv, hb, hh, hnc', hcm, hcs, ht⟩
 ·cases hv
 injection hv with ha _ hc
 injection ha with ha
 injection ha with hg
 subst hg; subst hc
 have hcs' : cur.size = cap * 8 := hcs
 obtain ⟨cur', h3, h4, h5⟩ := setCells_row seg o W cur hh (by omega)
 obtain ⟨s1, s2, s3, s4⟩ := setCells_same g seg o W
 refine ⟨⟨hok, inner, ⟨ho1, .inr ⟨g, cap, cur', by rw [hn], hb, h3, by rw [← hn]; exact hnc, hcm, by rw [h4]; exact hcs, ?_⟩⟩, hr.1, fun m p hm => ?_⟩, ⟨s1, s2, s3, by rw [s4]; exact Nat.le_refl _, fun k hk => setCells_far seg _ k (by omega)⟩⟩
 ·rw [h5, ← ht]
  have hz : kP.sz = 8 := rfl
  have hlen : (cur.toList.take o).length = o := by rw [List.length_take, Array.length_toList, hcs']; omega
  rw [hz, List.append_assoc, List.take_append_of_le_length (by rw [hlen, ← hn]; exact ho), List.take_take, Nat.min_eq_left (by rw [← hn]; exact ho)]
 ·exact kP.M_step (hr.2 m p hm) (fun k hk _ => setCells_far seg _ k (fun e => hk.2 (by rw [e]; rfl)))
def z8 : Value := .agg #[.int .i64 0, .int .i64 0, .int .i64 0, .int .i64 0, .int .i64 0, .int .i64 0, .int .i64 0, .int .i64 0]
def zs8 (n : Nat) : List Value := (Builtin.zeroCells z8.cells n).toList
theorem zs8_length (n : Nat) : (zs8 n).length = n * 8 := by
 unfold zs8 Builtin.zeroCells
 rw [Array.length_toList, Array.size_map, Array.size_range]
 rfl
theorem zs8_one (n : Nat) : ∀ v ∈ zs8 n, v.oneCell' = true := by
 intro v hv
 unfold zs8 Builtin.zeroCells at hv
 rw [Array.mem_toList_iff, Array.mem_map] at hv
 obtain ⟨i, _, rfl⟩ := hv
 have h : i % z8.cells.size < 8 := Nat.mod_lt _ (by decide)
 have : ∀ j, j < 8 → (z8.cells[j]!).oneCell' = true := by decide
 exact this _ h
theorem run_clear_z (W : World) (t e ty : TypeId) (z : Value) (zs : List Value) (n : Nat) (hzs : (Builtin.zeroCells z.cells n).toList = zs) (h1 : ∀ v ∈ zs, v.oneCell' = true) (ht : Try.prog.underlying t = some (.slice e)) (hv : ∀ w, (zeroValue e).run Try.prog w = .ok z w) (b o c : Nat) (hn : 0 < n)
  (hc : ∀ j, j < zs.length → (W.cell? ⟨b, o + j, none⟩).isSome = true) (hf : ∀ j, j < zs.length → W.frozen? ⟨b, o + j, none⟩ = false) :
  (Builtin.clear_ #[t] ty #[.slice (some ⟨b, o, none⟩) n c]).run Try.prog W = .ok (.tuple #[]) (W.setCells b o zs) := by
 have hst := run_storeCells_cells (P := Try.prog) b o zs 0 W (by simpa using hc) (by simpa using hf) h1
 simp only [Nat.add_zero] at hst
 obtain ⟨m, rfl⟩ : ∃ m, n = m + 1 := ⟨n - 1, by omega⟩
 simp [Builtin.clear_, run_underlying ht, Sem.run_bind, Result.andThen, hv, hzs, hst]
theorem run_clear8 (W : World) (t e ty : TypeId) (ht : Try.prog.underlying t = some (.slice e)) (hv : ∀ w, (zeroValue e).run Try.prog w = .ok z8 w) (b o n c : Nat) (hn : 0 < n)
  (hc : ∀ j, j < n * 8 → (W.cell? ⟨b, o + j, none⟩).isSome = true) (hf : ∀ j, j < n * 8 → W.frozen? ⟨b, o + j, none⟩ = false) :
  (Builtin.clear_ #[t] ty #[.slice (some ⟨b, o, none⟩) n c]).run Try.prog W = .ok (.tuple #[]) (W.setCells b o (zs8 n)) :=
 run_clear_z W t e ty z8 (zs8 n) n rfl (zs8_one n) ht hv b o c hn (by rw [zs8_length]; exact hc) (by rw [zs8_length]; exact hf)
theorem R_put8 {W : World} {n1 g n cap : Nat} {l : List Pth} (h : kP.R 154 W n1 (fun _ => True) (.slice (some ⟨g, 0, none⟩) n cap) l) (i : Nat) (hi : i < n) (p : Pth) :
  kP.R 154 (W.setCells g (i * 8) (pL p)) n1 (fun _ => True) (.slice (some ⟨g, 0, none⟩) n cap) (l.set i p) ∧ Below n1 W (W.setCells g (i * 8) (pL p)) := by
 obtain ⟨c, hcl, _, hcc, _⟩ := Kd.R_elem h zP (i : Int) (by omega) (by omega)
 have hcl8 : c.length = 8 := hcl
 have h2 := Kd.R_seg (j := 0) (seg := pL p) (x' := p) (okp := fun k => True ∧ k ≠ g) h (i : Int) (by omega) (by omega) hcl hcc (Nat.le_refl 8) (by
  rw [List.take_zero, List.nil_append, List.drop_of_length_le (by rw [hcl8]; exact Nat.le_refl _), List.append_nil]
  exact kP_mkM W n1 _ p) (fun k hk => ⟨trivial, hk.2⟩)
 rw [show (i : Int).toNat * kP.sz + 0 = i * 8 by rw [Int.toNat_natCast]; rfl, Int.toNat_natCast] at h2
 have hb := Kd.R_base h g rfl
 obtain ⟨s1, s2, s3, s4⟩ := setCells_same g (pL p) (i * 8) W
 exact ⟨h2.1, ⟨s1, s2, s3, by rw [s4]; exact Nat.le_refl _, fun k hk => setCells_far (pL p) _ k (by omega)⟩⟩
theorem R_get8 {W : World} {n1 g n cap : Nat} {l : List Pth} (h : kP.R 154 W n1 (fun _ => True) (.slice (some ⟨g, 0, none⟩) n cap) l) (i : Nat) (hi : i < n) :
  (W.cell? ⟨g, i * 8, none⟩ = some (.int .i64 ((l.getD i zP).i : Int)) ∧ W.cell? ⟨g, i * 8 + 1, none⟩ = some (.int .i64 ((l.getD i zP).m : Int)) ∧ W.cell? ⟨g, i * 8 + 2, none⟩ = some (.int .i64 (l.getD i zP).l) ∧ W.cell? ⟨g, i * 8 + 3, none⟩ = some (.int .i64 (l.getD i zP).h) ∧ W.cell? ⟨g, i * 8 + 4, none⟩ = some (.int .i64 (fG (l.getD i zP).fs 0)) ∧ W.cell? ⟨g, i * 8 + 5, none⟩ = some (.int .i64 (fG (l.getD i zP).fs 1)) ∧ W.cell? ⟨g, i * 8 + 6, none⟩ = some (.int .i64 (fG (l.getD i zP).fs 2)) ∧ W.cell? ⟨g, i * 8 + 7, none⟩ = some (.int .i64 ((l.getD i zP).fs.length : Int))) ∧ ∀ j, W.frozen? ⟨g, i * 8 + j, none⟩ = false := by
 obtain ⟨c, hcl, hM, hcc, hf⟩ := Kd.R_elem h zP (i : Int) (by omega) (by omega)
 obtain rfl := kP_openM hM
 rw [Int.toNat_natCast] at hcc hf
 have hz : kP.sz = 8 := rfl
 rw [hz] at hcc hf
 exact ⟨⟨hcc 0 _ rfl, hcc 1 _ rfl, hcc 2 _ rfl, hcc 3 _ rfl, hcc 4 _ rfl, hcc 5 _ rfl, hcc 6 _ rfl, hcc 7 _ rfl⟩, hf⟩
def PredK (g : Nat) (lb : Array Value) (V : Pth → Bool) (I : World → Prop) (mb : Nat) (l : List Pth) : Prop :=
 ∀ q ∈ l, ∀ W, I W → Calls Try.prog g (#[.agg (pC q)] ++ lb) W fun e W' => e = .returned (.bool (V q)) ∧ I W' ∧ W.grownBy W' (some mb)
end Go.Proofs.Ytkfebceainedfaa.P.OwnGap
namespace Go.Proofs.Ytkfebceainedfaa.P.OwnGap
open Go.RowKit Go.Shelf Go.Proofs.YtkfebceainedfaaW.PrintWords Go.Proofs.YtkfebceainedfaaW.PrintLast Go.Proofs.YtkfebceainedfaaW.PrintMore
open Go.Proofs.Ytkfebceainedfaa.OwnGap
set_option linter.unusedVariables false
set_option linter.unusedSimpArgs false
theorem kI_new (W : World) : kI.R 3 (W.alloc (.cells #[] 3)) W.heap.size (fun _ => True) (.slice (some ⟨W.heap.size, 0, none⟩) 0 0) [] :=
 ⟨fun _ _ => trivial, [], World.ownsRow_made W #[] 0 (Nat.le_refl _) (Nat.zero_le _) (by rfl), ⟨rfl, fun j p h => by simp at h⟩⟩
set_option maxHeartbeats 2000000 in
set_option maxRecDepth 100000 in
theorem clone_calls (A : Option Addr) (c : Nat) (xs : List Int) (w : World) (h : Kd.C kI w A xs.length xs) (hn : xs.length ≤ 1000000) :
  Calls Try.prog 98 #[.slice A xs.length c] w fun e w' => ∃ v, e = .returned v ∧ kI.R 3 w' w.heap.size (fun _ => True) v xs ∧ Below w.heap.size w w' := by
 have H := Aside0.mk h
 clear h
 have q22 : ∀ (w : World) (a : Option Addr) (n c n' c' : Nat), (binOp .eql 22 (.slice a n c) (.slice none n' c')).run Try.prog w = .ok (.bool a.isNone) w := fun w a n c n' c' => Lib.run_eql_slice_nil w _ _ a n c n' c' Try.underlying22
 cases A with
 | none =>
  have HX := Aside0.mk (show xs = [] by
   rcases Nat.eq_zero_or_pos xs.length with h0 | h0
   ·exact List.eq_nil_of_length_eq_zero h0
   ·obtain ⟨ad, e, _⟩ := H.out.2.2 h0
    cases e)
  go_enter Try.func98, Try.ntmps98
  go_wp2
  go_ret
  exact ⟨_, rfl, by rw [HX.out]; exact Kd.R_nil _ _ _ _ _, Below.refl _ _⟩
 | some ad =>
  have HN := Aside0.mk (kI_new w)
  go_enter Try.func98, Try.ntmps98
  go_wp2_with (at_builtin; refine Kd.R_append_rows kI (w0 := w) (Rr := fun x cs => kI.K w x cs) w.heap.size rfl _ _ 22 3 (.int .i64 0) 8 rfl Try.underlying22 (by kernel_rfl) rfl (by decide) (by omega) (.slice (some ⟨w.heap.size, 0, none⟩) 0 0) [] xs (some ad) xs.length c (fun _ => True) (fun _ => False) rfl rfl HN.out (H.out.imp_ ((Below.refl _ _).alloc (Nat.le_refl _) _) (fun _ _ h => h)) ?ckm (fun _ h => h.elim) (fun _ _ => trivial) ((Below.refl _ _).alloc (Nat.le_refl _) _) (by simp) ?clen ?_; (case ckm => exact fun x cs h => h); (case clen => (simp only [List.length_nil]; omega)); intro v1 w1 hR hB hG hat; have HR := Aside0.mk hR; have HB := Aside0.mk hB; clear hR hB hG hat)
  go_ret
  exact ⟨_, rfl, HR.out, HB.out⟩
structure C10 (X : Lx) (S : SV) (fits : List Int) (bs bv bw : Nat) (A : Option Addr) (n c : Nat) (x : S53) (W : World) : Prop where
 aw : AW X S fits W
 hs : W.heap[bs]? = some (.cells #[.pointer (some ⟨S.b, 0, none⟩)] 92 (0, 0))
 hv : W.heap[bv]? = some (.cells #[.slice A n c] 22 (0, 0))
 hw : W.heap[bw]? = some (.cells #[.string x.f0, .int .i64 x.f1] 53 (0, 0))
theorem C10.below {X : Lx} {S : SV} {fits : List Int} {bs bv bw : Nat} {A : Option Addr} {n c : Nat} {x : S53} {W W' : World} {n1 : Nat} (h : C10 X S fits bs bv bw A n c x W) (hb : Below W.heap.size W W') : C10 X S fits bs bv bw A n c x W' :=
 ⟨h.aw.below hb, blk_below h.hs hb, blk_below h.hv hb, blk_below h.hw hb⟩
theorem C10.grown {X : Lx} {S : SV} {fits : List Int} {bs bv bw : Nat} {A : Option Addr} {n c : Nat} {x : S53} {W W' : World} (h : C10 X S fits bs bv bw A n c x W) (hg : W.grownBy W' (some S.mb)) (ha : AW X S fits W') : C10 X S fits bs bv bw A n c x W' :=
 ⟨ha, h.aw.keep hg h.hs, h.aw.keep hg h.hv, h.aw.keep hg h.hw⟩
end Go.Proofs.Ytkfebceainedfaa.P.OwnGap
namespace Go.Proofs.Ytkfebceainedfaa.P.OwnGap
open Go.RowKit Go.Shelf Go.Proofs.YtkfebceainedfaaW.PrintWords Go.Proofs.YtkfebceainedfaaW.PrintLast Go.Proofs.YtkfebceainedfaaW.PrintMore
open Go.Proofs.Ytkfebceainedfaa.OwnGap
set_option linter.unusedVariables false
set_option linter.unusedSimpArgs false
theorem filter_take_succ (V : Pth → Bool) (l : List Pth) (j : Nat) (hj : j < l.length) : (l.take (j + 1)).filter V = (l.take j).filter V ++ (if V (l.getD j zP) = true then [l.getD j zP] else []) := by
 rw [List.take_add_one, List.filter_append, List.getElem?_eq_getElem hj, List.getD_eq_getElem?_getD, List.getElem?_eq_getElem hj]
 simp only [Option.toList, Option.getD_some, List.filter_cons, List.filter_nil]
structure Kept (V : Pth → Bool) (l lr : List Pth) (i j : Nat) : Prop where
 lt : i < j
 le : j ≤ l.length
 len : lr.length = l.length
 low : lr.take i = (l.take j).filter (fun p => !V p)
 high : ∀ m, j ≤ m → lr.getD m zP = l.getD m zP
theorem Kept.start {V : Pth → Bool} {l : List Pth} {k : Nat} (hk : k < l.length) (h : V (l.getD k zP) = true) (h0 : ∀ j, j < k → V (l.getD j zP) = false) : Kept V l l k (k + 1) := by
 refine ⟨Nat.lt_succ_self _, hk, rfl, ?_, fun _ _ => rfl⟩
 rw [filter_take_succ _ _ _ hk, if_neg (by rw [h]; decide), List.append_nil, List.filter_eq_self.2]
 intro p hp
 obtain ⟨j, hj, rfl⟩ := List.mem_iff_getElem.1 hp
 rw [List.length_take] at hj
 have h1 := h0 j (by omega)
 rw [List.getD_eq_getElem?_getD, List.getElem?_eq_getElem (by omega)] at h1
 rw [List.getElem_take]
 simpa using h1
theorem Kept.skip {V : Pth → Bool} {l lr : List Pth} {i j : Nat} (h : Kept V l lr i j) (hj : j < l.length) (hv : V (l.getD j zP) = true) : Kept V l lr i (j + 1) :=
 ⟨by have := h.lt; omega, hj, h.len, by rw [filter_take_succ _ _ _ hj, if_neg (by rw [hv]; decide), List.append_nil]; exact h.low, fun m hm => h.high m (by omega)⟩
theorem Kept.put {V : Pth → Bool} {l lr : List Pth} {i j : Nat} (h : Kept V l lr i j) (hj : j < l.length) (hv : V (l.getD j zP) = false) : Kept V l (lr.set i (l.getD j zP)) (i + 1) (j + 1) := by
 have hi : i < lr.length := by have := h.lt; have := h.len; omega
 refine ⟨by have := h.lt; omega, hj, by rw [List.length_set]; exact h.len, ?_, fun m hm => ?_⟩
 ·rw [filter_take_succ _ _ _ hj, if_pos (by rw [hv]; rfl), List.take_add_one, List.getElem?_set_self hi, List.take_set_of_le (Nat.le_refl _), h.low]
  rfl
 ·rw [← h.high m (by omega), List.getD_eq_getElem?_getD, List.getElem?_set_ne (by have := h.lt; omega), ← List.getD_eq_getElem?_getD]
set_option maxHeartbeats 4000000 in
set_option maxRecDepth 100000 in
theorem delete_calls (g : Nat) (lb : Array Value) (eg : ∀ args w, (callFunc g args).run Try.prog w = .ok (.enter g args) w) (V : Pth → Bool) (I : World → Prop) (n1 mb : Nat) (hmb : mb < n1) (hIB : ∀ W W', I W → Below n1 W W' → I W') (v : Value) (l : List Pth) (hl : l.length ≤ 1000000000) (w : World) (hn1 : n1 ≤ w.heap.size) (hI : I w) (hrow : kP.R 154 w n1 (fun _ => True) v l) (hp : PredK g lb V I mb l) :
  Calls Try.prog 100 #[v, .func (.func g) #[] lb] w fun e w' => ∃ v', e = .returned v' ∧ kP.R 154 w' n1 (fun _ => True) v' (l.filter fun p => !V p) ∧ I w' ∧ KM n1 mb w w' := by
 obtain ⟨A, c, rfl, hlc, hC⟩ := Kd.R_reads hrow
 have HIB := Aside0.mk hIB
 have HROW := Aside0.mk hrow
 have HP := Aside0.mk hp
 have HIX := Aside0.mk (index_calls g lb eg V (fun W => I W ∧ kP.R 154 W n1 (fun _ => True) (.slice A l.length c) l ∧ KM n1 mb w W ∧ n1 ≤ W.heap.size) A c l hl w ⟨hI, hrow, KM.refl _ _ _, hn1⟩
  (fun W hW => (Kd.R_reads' hW.2.1).2.2) (fun q hq W hW => (hp q hq W hW.1).mono (fun e W' h => ⟨h.1, h.2.1, R_memo hW.2.1 h.2.2 hmb, hW.2.2.1.trans (KM.grown h.2.2 hW.2.2.2), Nat.le_trans hW.2.2.2 h.2.2.size⟩)))
 have hcs := idxV_cases V l
 obtain ⟨x, hx⟩ : ∃ x, x = idxV V l := ⟨_, rfl⟩
 rw [← hx] at HIX hcs
 clear hx hIB hI hrow hp hC
 rcases hcs with ⟨rfl, hall⟩ | ⟨k0, rfl, hk0, hv0, hall⟩
 ·have HF := Aside0.mk (show (l.filter fun p => !V p) = l by rw [List.filter_eq_self]; intro p hp; rw [hall p hp]; rfl)
  clear hall
  go_enter Try.func100, Try.ntmps100
  go_wp2_with (go_at_call 107; refine HIX.out.mono ?_; rintro e w2 ⟨rfl, hw2⟩; have HW2 := Aside0.mk hw2; clear hw2)
  go_ret
  exact ⟨_, rfl, by rw [HF.out]; exact HW2.out.2.1, HW2.out.1, HW2.out.2.2.1⟩
 ·have HK0 := Aside0.mk (Kept.start hk0 hv0 hall)
  have hne : ((k0 : Int) == -1) = false := beq_eq_false_iff_ne.2 (by omega)
  obtain ⟨gb, cap, hAe, hgb, -, -⟩ := Kd.R_form HROW.out (by omega)
  injection hAe with hAe _ hce
  subst hAe
  subst hce
  have hk9 : (k0 : Int) ≤ 1000000000 := by omega
  have HLC := Aside0.mk hlc
  clear hv0 hall hlc HROW
  go_enter Try.func100, Try.ntmps100
  go_wp2_with (go_at_call 107; refine HIX.out.mono ?_; rintro e w2 ⟨rfl, hw2⟩; have HW2 := Aside0.mk hw2; clear hw2)
  go_loopg [5, 6] l.length (fun k s5 s6 wr => ∃ (i j : Nat) (lr : List Pth), l.length - j ≤ k ∧ s5 = .int .i64 (i : Int) ∧ s6 = .int .i64 (j : Int) ∧ Aside0 (Kept V l lr i j) ∧ Aside0 (I wr ∧ kP.R 154 wr n1 (fun _ => True) (.slice (some ⟨gb, 0, none⟩) l.length c) lr ∧ KM n1 mb w wr ∧ n1 ≤ wr.heap.size))
  case atStart => exact ⟨k0, k0 + 1, l, by omega, rfl, by go_num, HK0, HW2⟩
  case round =>
   obtain ⟨i, j, lr, hjk, rfl, rfl, HK, HR⟩ := hrel
   clear HW2 HK0
   have HJK := Aside0.mk hjk
   clear hjk
   have hij := HK.out.lt
   have hjl := HK.out.le
   by_cases hj : j < l.length
   ·have hjz : (j : Int) < (l.length : Int) := by omega
    obtain ⟨⟨e0, e1, e2, e3, e4, e5, e6, e7⟩, -⟩ := R_get8 HR.out.2.1 j hj
    obtain ⟨q, hq⟩ : ∃ q, q = l.getD j zP := ⟨_, rfl⟩
    rw [HK.out.high j (Nat.le_refl _), ← hq] at e0 e1 e2 e3 e4 e5 e6 e7
    have hqm : q ∈ l := by
     rw [hq, List.getD_eq_getElem?_getD, List.getElem?_eq_getElem hj]
     exact List.getElem_mem hj
    have HC := Aside0.mk (fun W h => HP.out q hqm W h)
    have HQ := Aside0.mk hq
    have hgl := World.block_lt_of_cell? wr _ e0
    clear hq hqm
    go_upto_region 8 with fail
    obtain ⟨b7, hb7⟩ : ∃ b, b = wr.heap.size := ⟨_, rfl⟩
    refine wp_gen (fun wx => Aside0 (I wx ∧ kP.R 154 wx n1 (fun _ => True) (.slice (some ⟨gb, 0, none⟩) l.length c) lr ∧ KM n1 mb w wx ∧ n1 ≤ wx.heap.size) ∧ Aside0 (PAt wx b7 q) ∧ n1 ≤ b7) ?_ ?_
    ·obtain ⟨r1, r2, r3, r4⟩ := HR.out
     have hb : Below n1 wr (wr.alloc (.cells (pC q) 154)) := (Below.refl _ _).alloc r4 _
     exact ⟨⟨HIB.out _ _ r1 hb, Kd.R_alloc r2 _, r3.trans (KM.below hb), Nat.le_trans r4 hb.size⟩, ⟨by rw [hb7]; exact blk_new wr _⟩, by rw [hb7]; exact r4⟩
    rw [← hb7]
    clear hb7 HR e0 e1 e2 e3 e4 e5 e6 e7 hgl
    rintro wx ⟨HR, H7, hb7⟩
    clear wr
    obtain ⟨f0, f1, f2, f3, f4, f5, f6, f7⟩ := H7.out.cells
    have hl7 := blk_lt H7.out
    have HCX := Aside0.mk (HC.out wx HR.out.1)
    obtain ⟨vq, hvq⟩ : ∃ vq, vq = V q := ⟨_, rfl⟩
    rw [← hvq] at HCX
    have HV := Aside0.mk hvq
    have HJ := Aside0.mk hj
    clear hvq
    cases vq with
    | true =>
     go_wp2_with (go_at_fn g; refine HCX.out.mono ?_; rintro e w2 ⟨rfl, hI2, hG2⟩; have HR2 := Aside0.mk (show I w2 ∧ kP.R 154 w2 n1 (fun _ => True) (.slice (some ⟨gb, 0, none⟩) l.length c) lr ∧ KM n1 mb w w2 ∧ n1 ≤ w2.heap.size from ⟨hI2, R_memo HR.out.2.1 hG2 hmb, HR.out.2.2.1.trans (KM.grown hG2 HR.out.2.2.2), Nat.le_trans HR.out.2.2.2 hG2.size⟩); clear hI2 hG2)
     go_roundg (gk - 1)
     case measure => have := HJK.out; have := HJ.out; omega
     case rel => exact ⟨i, j + 1, lr, by have := HJK.out; have := HJ.out; omega, rfl, by go_num, ⟨HK.out.skip HJ.out (by rw [← HQ.out]; exact HV.out.symm)⟩, HR2⟩
    | false =>
     go_upto_region 9 with (go_at_fn g; refine HCX.out.mono ?_; rintro e w2 ⟨rfl, hI2, hG2⟩; have HR2 := Aside0.mk (show I w2 ∧ kP.R 154 w2 n1 (fun _ => True) (.slice (some ⟨gb, 0, none⟩) l.length c) lr ∧ KM n1 mb w w2 ∧ n1 ≤ w2.heap.size from ⟨hI2, R_memo HR.out.2.1 hG2 hmb, HR.out.2.2.1.trans (KM.grown hG2 HR.out.2.2.2), Nat.le_trans HR.out.2.2.2 hG2.size⟩); have H72 := Aside0.mk (show w2.heap[b7]? = some (.cells #[_, _, _, _, _, _, _, _] 154 (0, 0)) from (hG2.block b7 hl7 (fun e => by injection e; omega)).trans H7.out); clear hI2 hG2)
     clear f0 f1 f2 f3 f4 f5 f6 f7 hl7
     obtain ⟨⟨f0, f1, f2, f3, f4, f5, f6, f7⟩, -⟩ := cells8 H72.out
     have hl7 := blk_lt H72.out
     have hil : i < l.length := by omega
     have hiz : (i : Int) < (l.length : Int) := by omega
     obtain ⟨⟨e0, e1, e2, e3, e4, e5, e6, e7⟩, hfz⟩ := R_get8 HR2.out.2.1 i hil
     have g0 := hfz 0
     have g1 := hfz 1
     have g2 := hfz 2
     have g3 := hfz 3
     have g4 := hfz 4
     have g5 := hfz 5
     have g6 := hfz 6
     have g7 := hfz 7
     simp only [Nat.add_zero] at g0
     have hgl := World.block_lt_of_cell? w2 _ e0
     have HPUT := Aside0.mk (R_put8 HR2.out.2.1 i hil q)
     clear hfz
     go_wp2_with fail
     go_roundg (gk - 1)
     case measure => have := HJK.out; have := HJ.out; omega
     case rel =>
      refine ⟨i + 1, j + 1, lr.set i q, by have := HJK.out; have := HJ.out; omega, by go_num, by go_num, ⟨?_⟩, ⟨HIB.out _ _ HR2.out.1 HPUT.out.2, HPUT.out.1, HR2.out.2.2.1.trans (KM.below HPUT.out.2), Nat.le_trans HR2.out.2.2.2 HPUT.out.2.size⟩⟩
      rw [HQ.out]
      exact HK.out.put HJ.out (by rw [← HQ.out]; exact HV.out.symm)
   ·have hjz : ¬ (j : Int) < (l.length : Int) := by omega
    have hje : j = l.length := by omega
    have HJE := Aside0.mk hje
    have hil : i < l.length := by omega
    have hcell : ∀ q, q < (l.length - i) * 8 → (wr.cell? ⟨gb, i * 8 + q, none⟩).isSome = true ∧ wr.frozen? ⟨gb, i * 8 + q, none⟩ = false := by
     intro q hq
     obtain ⟨⟨e0, e1, e2, e3, e4, e5, e6, e7⟩, hfz⟩ := R_get8 HR.out.2.1 (i + q / 8) (by omega)
     have hq8 : q % 8 < 8 := Nat.mod_lt _ (by omega)
     have hqe : i * 8 + q = (i + q / 8) * 8 + q % 8 := by omega
     rw [hqe]
     refine ⟨?_, hfz _⟩
     generalize q % 8 = r at hq8
     rcases (by omega : r = 0 ∨ r = 1 ∨ r = 2 ∨ r = 3 ∨ r = 4 ∨ r = 5 ∨ r = 6 ∨ r = 7) with rfl | rfl | rfl | rfl | rfl | rfl | rfl | rfl
     ·rw [Nat.add_zero, e0]; rfl
     ·rw [e1]; rfl
     ·rw [e2]; rfl
     ·rw [e3]; rfl
     ·rw [e4]; rfl
     ·rw [e5]; rfl
     ·rw [e6]; rfl
     ·rw [e7]; rfl
    have hcl : ∀ ty, (Builtin.clear_ #[157] ty #[.slice (some ⟨gb, i * 8, none⟩) (l.length - i) (c - i)]).run Try.prog wr = .ok (.tuple #[]) (wr.setCells gb (i * 8) (zs8 (l.length - i))) :=
     fun ty => run_clear8 wr 157 154 ty Try.underlying157 (fun w => by kernel_rfl) gb (i * 8) (l.length - i) (c - i) (by omega) (fun q hq => (hcell q hq).1) (fun q hq => (hcell q hq).2)
    have hlc := HLC.out
    have HT := Aside0.mk (R_tail (Kd.R_take HR.out.2.1 (show i ≤ lr.length by rw [HK.out.len]; omega)) (i * 8) (zs8 (l.length - i)) (Nat.le_refl _) (by rw [zs8_length]; omega))
    have hci : ¬ c = i := by omega
    have hilz : (i : Int) ≤ (l.length : Int) := by omega
    have hcz : (i : Int) ≤ (c : Int) := by omega
    have HLOW := Aside0.mk (show lr.take i = l.filter fun p => !V p by rw [HK.out.low, List.take_of_length_le (by omega)])
    clear hcell hje
    go_wp2_with fail
    go_ret
    exact ⟨_, rfl, by rw [← HLOW.out]; exact HT.out.1, HIB.out _ _ HR.out.1 HT.out.2, HR.out.2.2.1.trans (KM.below HT.out.2)⟩
end Go.Proofs.Ytkfebceainedfaa.P.OwnGap
namespace Go.Proofs.Ytkfebceainedfaa.P.OwnGap
open Go.RowKit Go.Shelf Go.Proofs.YtkfebceainedfaaW.PrintWords Go.Proofs.YtkfebceainedfaaW.PrintLast Go.Proofs.YtkfebceainedfaaW.PrintMore
open Go.Proofs.Ytkfebceainedfaa.OwnGap
set_option linter.unusedVariables false
set_option linter.unusedSimpArgs false
def stC (p : Pth) (k f : Int) : Array Value := #[.int .i64 (p.i : Int), .int .i64 (p.m : Int), .int .i64 p.l, .int .i64 p.h, .int .i64 k, .int .i64 f]
def StAt (W : World) (b : Nat) (p : Pth) (k f : Int) : Prop := W.heap[b]? = some (.cells (stC p k f) 139 (0, 0))
theorem StAt.cells {W : World} {b : Nat} {p : Pth} {k f : Int} (h : StAt W b p k f) : W.cell? ⟨b, 0, none⟩ = some (.int .i64 (p.i : Int)) ∧ W.cell? ⟨b, 1, none⟩ = some (.int .i64 (p.m : Int)) ∧ W.cell? ⟨b, 2, none⟩ = some (.int .i64 p.l) ∧ W.cell? ⟨b, 3, none⟩ = some (.int .i64 p.h) ∧ W.cell? ⟨b, 4, none⟩ = some (.int .i64 k) ∧ W.cell? ⟨b, 5, none⟩ = some (.int .i64 f) :=
 ⟨(blk_cell h 0).trans rfl, (blk_cell h 1).trans rfl, (blk_cell h 2).trans rfl, (blk_cell h 3).trans rfl, (blk_cell h 4).trans rfl, (blk_cell h 5).trans rfl⟩
def SpAt (W : World) (b : Nat) (S : SV) : Prop := W.heap[b]? = some (.cells #[.pointer (some ⟨S.b, 0, none⟩)] 92 (0, 0))
theorem SpAt.cell {W : World} {b : Nat} {S : SV} (h : SpAt W b S) : W.cell? ⟨b, 0, none⟩ = some (.pointer (some ⟨S.b, 0, none⟩)) := (blk_cell h 0).trans rfl
def WdAt (W : World) (b : Nat) (x : S53) : Prop := W.heap[b]? = some (.cells #[.string x.f0, .int .i64 x.f1] 53 (0, 0))
theorem WdAt.cells {W : World} {b : Nat} {x : S53} (h : WdAt W b x) : W.cell? ⟨b, 0, none⟩ = some (.string x.f0) ∧ W.cell? ⟨b, 1, none⟩ = some (.int .i64 x.f1) := ⟨(blk_cell h 0).trans rfl, (blk_cell h 1).trans rfl⟩
structure C9 (X : Lx) (S : SV) (fits : List Int) (bs bx bw : Nat) (p : Pth) (k f : Int) (x : S53) (W : World) : Prop where
 aw : AW X S fits W
 hs : SpAt W bs S
 hx : StAt W bx p k f
 hw : WdAt W bw x
theorem C9.below {X : Lx} {S : SV} {fits : List Int} {bs bx bw : Nat} {p : Pth} {k f : Int} {x : S53} {W W' : World} (h : C9 X S fits bs bx bw p k f x W) (hb : Below W.heap.size W W') : C9 X S fits bs bx bw p k f x W' :=
 ⟨h.aw.below hb, blk_below h.hs hb, blk_below h.hx hb, blk_below h.hw hb⟩
theorem C9.grown {X : Lx} {S : SV} {fits : List Int} {bs bx bw : Nat} {p : Pth} {k f : Int} {x : S53} {W W' : World} (h : C9 X S fits bs bx bw p k f x W) (hg : W.grownBy W' (some S.mb)) (ha : AW X S fits W') : C9 X S fits bs bx bw p k f x W' :=
 ⟨ha, h.aw.keep hg h.hs, h.aw.keep hg h.hx, h.aw.keep hg h.hw⟩
def Rec (X : Lx) (S : SV) (fits : List Int) (k : Nat) (kz : Int) : Prop := ∀ (q : Pth) (f : Int), 0 ≤ f → f < X.l1.length → OkP X (spotP q) → ∀ W, AW X S fits W →
 Calls Try.prog 102 #[.pointer (some ⟨S.b, 0, none⟩), .agg (stC q kz f)] W fun e W' => e = .returned (.bool (aliveV X q k f)) ∧ AW X S fits W' ∧ W.grownBy W' (some S.mb)
set_option maxHeartbeats 1000000 in
set_option maxRecDepth 100000 in
theorem fun109_calls (X : Lx) (S : SV) (fits : List Int) (bs bx bw : Nat) (p : Pth) (k : Nat) (f : Int) (hk : k ≤ 8) (x : S53) (hx0 : 0 ≤ x.f1) (hx1 : x.f1 < X.l1.length) (hR : Rec X S fits (k + 1) ((k : Int) + 1)) (q : Pth) (hq : OkP X q) (W : World) (hW : C9 X S fits bs bx bw p k f x W) :
  Calls Try.prog 109 #[.agg (pC q), .pointer (some ⟨bs, 0, none⟩), .pointer (some ⟨bx, 0, none⟩), .pointer (some ⟨bw, 0, none⟩)] W fun e W' => e = .returned (.bool (aliveV X q (k + 1) x.f1)) ∧ AW X S fits W' ∧ W.grownBy W' (some S.mb) := by
 have HW := Aside0.mk hW
 have HP := Aside0.mk (PL.start W q)
 have HR := Aside0.mk (fun W h => hR q x.f1 hx0 hx1 hq.spot W h)
 obtain ⟨b, hb⟩ : ∃ b, b = aliveV X q (k + 1) x.f1 := ⟨_, rfl⟩
 rw [← hb] at HR ⊢
 clear hW hR hq hb
 unfold pC
 go_enter Try.func109, Try.ntmps109
 go_upto_region 1 with fail
 refine wp_gen (fun wx => Aside0 (PL W wx q)) HP ?_
 clear HP
 rintro wx HB
 have hf7 := blk_frozen HB.out.pat 7
 have he7 := HB.out.pat.cells.2.2.2.2.2.2.2
 have hpl := blk_lt HB.out.pat
 go_upto_region 2 with fail
 refine wp_gen (fun wy => Aside0 (Below W.heap.size W wy) ∧ Aside0 (wy.heap[W.heap.size]? = some (.cells #[.int .i64 (q.i : Int), .int .i64 (q.m : Int), .int .i64 q.l, .int .i64 q.h, .int .i64 (fG q.fs 0), .int .i64 (fG q.fs 1), .int .i64 (fG q.fs 2), .int .i64 0] 154 (0, 0)))) ⟨⟨HB.out.below.setCell (Nat.le_refl _) _⟩, ⟨blk_set HB.out.pat 7 (.int .i64 0)⟩⟩ ?_
 clear HB hf7 he7 hpl
 rintro wy ⟨HB, HP⟩
 have HC := Aside0.mk (HW.out.below HB.out)
 obtain ⟨⟨e0, e1, e2, e3, e4, e5, e6, e7⟩, -⟩ := cells8 HP.out
 have hs := HC.out.hs.cell
 obtain ⟨x0, x1, x2, x3, x4, x5⟩ := HC.out.hx.cells
 obtain ⟨w0, w1⟩ := HC.out.hw.cells
 have hpl := blk_lt HP.out
 have hl1 := blk_lt HC.out.hs
 have hl2 := blk_lt HC.out.hx
 have hl3 := blk_lt HC.out.hw
 have HC2 := Aside0.mk (HR.out wy HC.out.aw)
 simp only [stC] at HC2
 go_wp2_with (go_at_call 102; refine HC2.out.mono ?_; rintro e w2 ⟨rfl, hA, hG⟩; have HA := Aside0.mk hA; have HG := Aside0.mk hG; clear hA hG)
 go_ret
 exact ⟨rfl, HA.out, grown_trans (grown_below HB.out _) HG.out⟩
end Go.Proofs.Ytkfebceainedfaa.P.OwnGap
namespace Go.Proofs.Ytkfebceainedfaa.P.OwnGap
open Go.RowKit Go.Shelf Go.Proofs.YtkfebceainedfaaW.PrintWords Go.Proofs.YtkfebceainedfaaW.PrintLast Go.Proofs.YtkfebceainedfaaW.PrintMore
open Go.Proofs.Ytkfebceainedfaa.OwnGap
set_option linter.unusedVariables false
set_option linter.unusedSimpArgs false
theorem AW.km {X : Lx} {S : SV} {fits : List Int} {W1 W : World} (h : AW X S fits W1) (hk : KM W1.heap.size S.mb W1 W) (hm : MemoAt Try.prog 139 (AliveR X) W S.mb) : AW X S fits W :=
 ⟨h.sr.same (h.same hk.grownBy) (hk.block S.b (blk_lt h.sr.blk) (h.ne h.sr.blk)), hm⟩
set_option maxHeartbeats 1000000 in
set_option maxRecDepth 100000 in
theorem fun101_calls (X : Lx) (S : SV) (fits : List Int) (bs bv bw : Nat) (A : Option Addr) (k c : Nat) (hk : k ≤ 8) (x : S53) (hx0 : 0 ≤ x.f1) (hx1 : x.f1 < X.l1.length) (hR : Rec X S fits (k + 1) ((k : Int) + 1)) (q : Pth) (hq : OkP X q) (W : World) (hW : C10 X S fits bs bv bw A k c x W) :
  Calls Try.prog 101 #[.agg (pC q), .pointer (some ⟨bs, 0, none⟩), .pointer (some ⟨bv, 0, none⟩), .pointer (some ⟨bw, 0, none⟩)] W fun e W' => e = .returned (.bool (!aliveV X q (k + 1) x.f1)) ∧ AW X S fits W' ∧ W.grownBy W' (some S.mb) := by
 have HW := Aside0.mk hW
 have HP := Aside0.mk (PL.start W q)
 have HR := Aside0.mk (fun W h => hR q x.f1 hx0 hx1 hq.spot W h)
 obtain ⟨b, hb⟩ : ∃ b, b = aliveV X q (k + 1) x.f1 := ⟨_, rfl⟩
 rw [← hb] at HR ⊢
 clear hW hR hq hb
 unfold pC
 go_enter Try.func101, Try.ntmps101
 go_upto_region 1 with fail
 refine wp_gen (fun wx => Aside0 (PL W wx q)) HP ?_
 clear HP
 rintro wy HB
 have HC := Aside0.mk (HW.out.below (n1 := 0) HB.out.below)
 obtain ⟨e0, e1, e2, e3, e4, e5, e6, e7⟩ := HB.out.pat.cells
 have hs := (blk_cell HC.out.hs 0).trans (show (#[Value.pointer (some ⟨S.b, 0, none⟩)] : Array Value)[0]? = some _ from rfl)
 have hv := (blk_cell HC.out.hv 0).trans (show (#[Value.slice A k c] : Array Value)[0]? = some _ from rfl)
 have w1 := (blk_cell HC.out.hw 1).trans (show (#[Value.string x.f0, Value.int .i64 x.f1] : Array Value)[1]? = some (.int .i64 x.f1) from rfl)
 have hpl := blk_lt HB.out.pat
 have hl1 := blk_lt HC.out.hs
 have hl2 := blk_lt HC.out.hv
 have hl3 := blk_lt HC.out.hw
 have HC2 := Aside0.mk (HR.out wy HC.out.aw)
 simp only [stC] at HC2
 go_wp2_with (go_at_call 102; refine HC2.out.mono ?_; rintro e w2 ⟨rfl, hA, hG⟩; have HA := Aside0.mk hA; have HG := Aside0.mk hG; clear hA hG)
 go_ret
 exact ⟨rfl, HA.out, grown_trans (grown_below HB.out.below _) HG.out⟩
theorem strike_calls (X : Lx) (S : SV) (fits : List Int) (bs bv bw : Nat) (A : Option Addr) (k c : Nat) (hk : k ≤ 8) (x : S53) (hx0 : 0 ≤ x.f1) (hx1 : x.f1 < X.l1.length) (hR : Rec X S fits (k + 1) ((k : Int) + 1)) (W1 : World) (hW : C10 X S fits bs bv bw A k c x W1)
  (v : Value) (l : List Pth) (hl : l.length ≤ 1000000000) (hok : ∀ q ∈ l, OkP X q) (w : World) (hb : Below W1.heap.size W1 w) (hrow : kP.R 154 w W1.heap.size (fun _ => True) v l) :
  Calls Try.prog 100 #[v, .func (.func 101) #[] #[.pointer (some ⟨bs, 0, none⟩), .pointer (some ⟨bv, 0, none⟩), .pointer (some ⟨bw, 0, none⟩)]] w fun e w' =>
   ∃ v', e = .returned v' ∧ kP.R 154 w' W1.heap.size (fun _ => True) v' (l.filter fun q => aliveV X q (k + 1) x.f1) ∧ AW X S fits w' ∧ W1.grownBy w' (some S.mb) := by
 have hI : ∀ W, (KM W1.heap.size S.mb W1 W ∧ MemoAt Try.prog 139 (AliveR X) W S.mb) → C10 X S fits bs bv bw A k c x W := fun W h => hW.grown h.1.grownBy (hW.aw.km h.1 h.2)
 have h := delete_calls 101 #[.pointer (some ⟨bs, 0, none⟩), .pointer (some ⟨bv, 0, none⟩), .pointer (some ⟨bw, 0, none⟩)] (enters_of Try.func101 (by kernel_rfl) rfl) (fun q => !aliveV X q (k + 1) x.f1)
  (fun W => KM W1.heap.size S.mb W1 W ∧ MemoAt Try.prog 139 (AliveR X) W S.mb) W1.heap.size S.mb hW.aw.mlt (fun W W' h hb => ⟨h.1.trans (KM.below hb), h.2.keep (hb.block S.mb hW.aw.mlt)⟩) v l hl w hb.size
  ⟨KM.below hb, hW.aw.memo.keep (hb.block S.mb hW.aw.mlt)⟩ hrow
  (fun q hq W h => (fun101_calls X S fits bs bv bw A k c hk x hx0 hx1 hR q (hok q hq) W (hI W h)).mono (fun e W' h2 => ⟨h2.1, ⟨h.1.trans (KM.grown h2.2.2 h.1.size), h2.2.1.memo⟩, h2.2.2⟩))
 refine h.mono ?_
 rintro e w' ⟨v', rfl, hr, ⟨hk2, hm2⟩, -⟩
 simp only [Bool.not_not] at hr
 exact ⟨v', rfl, hr, hW.aw.km hk2 hm2, hk2.grownBy⟩
end Go.Proofs.Ytkfebceainedfaa.P.OwnGap
namespace Go.Proofs.Ytkfebceainedfaa.P.OwnGap
open Go.RowKit Go.Shelf Go.Proofs.YtkfebceainedfaaW.PrintWords Go.Proofs.YtkfebceainedfaaW.PrintLast Go.Proofs.YtkfebceainedfaaW.PrintMore
open Go.Proofs.Ytkfebceainedfaa.OwnGap
set_option linter.unusedVariables false
set_option linter.unusedSimpArgs false
def SeqS {α : Type} (F : Fence) (n : Nat) (P : Program) (g : Nat) (lb : Array Value) (encs : α → Array Value) (Mx : α → World → Prop) (Kp It : World → World → Prop) (most : Nat) (S : List α → Prop) (w : World) : Prop :=
 ∀ (l : Nat) (J : List α → World → Prop) (W : World), Below w.heap.size w W → (∀ s A B, J s A → It A B → J s B) →
  (∀ pre x W1, J pre W1 → Mx x W1 → pre.length < most → YieldAt F (n - 1) P l (encs x) W1 fun e W' => e = .returned (.bool (decide (pre.length + 1 < most))) ∧ J (pre ++ [x]) W' ∧ Kp W1 W') →
  J [] W →
  CallsIn F n P g (#[.func (.yield l) #[] #[]] ++ lb) W fun e W' => (∃ v, e = .returned v) ∧ ∃ xs, S xs ∧ J xs W'
def sPost {α : Type} (B : Nat) (Kp : World → World → Prop) (I : List α → World → Prop) (most id0 : Nat) (xs : List α) (W : World) : Exit → Act → World → Prop
 | .normal, _, W' => KeepsFrom B W W' ∧ Kp W W' ∧ I xs W' ∧ xs.length < most
 | .exit id, _, W' => id = id0 ∧ KeepsFrom B W W' ∧ Kp W W' ∧ I xs W' ∧ ¬ xs.length < most
 | _, _, _ => False
theorem wpIn_rangeFunc_S {F : Fence} {n : Nat} {P : Program} {α : Type} {g : Operand} {ps : Array Tmp} {assign body : Code} {Q : Exit → Act → World → Prop} {a : Act} {w : World}
  (hro : F.round = none) (h1 : 1 ≤ n) {gf : Nat} {lb : Array Value} (hg : a.eval g = .func (.func gf) #[] lb) (hFg : F.fn gf) (eg : ∀ args w, (callFunc gf args).run P w = .ok (.enter gf args) w)
  {encs : α → Array Value} {Mx : α → World → Prop} {Kp It : World → World → Prop} {S : List α → Prop} {most : Nat} {w0 : World} (hm : 0 < most) (id0 : Nat) (hseq : SeqS F (n - 1) P gf lb encs Mx Kp It most S w0)
  (hKt : ∀ {A B C : World}, Kp A B → Kp B C → Kp A C) (hKb : ∀ (W : World) (l : Nat) (o o' : Obj), w.heap.size ≤ l → W.heap[l]? = some o → o.isCells = false → o.isWalk = false → Kp W (W.putObj l o'))
  (hIt : ∀ (A B : World) (k : Nat) (o : Obj), w.heap.size ≤ k → It A B → A.heap[k]? = some o → o.isCells = false → B.heap[k]? = some o)
  (hb0 : Below w0.heap.size w0 w) (hps : ∀ x, (encs x).size = ps.size)
  (I : List α → World → Prop) (hI : OwnFrom w.heap.size I) (hII : ∀ s A B, I s A → It A B → I s B) (h0 : I [] w) (Ax : α → Act → World → Prop) (hAx : ∀ x a', OwnFrom w.heap.size (fun (_ : Unit) W => Ax x a' W))
  (hassign : ∀ (l : Nat) (pre : List α) (x : α) (W : World) (K : Act → World → Prop), I pre W → Mx x W → (∀ a' W', KeepsFrom w.heap.size W W' → Kp W W' → I pre W' → Ax x a' W' → K a' W') →
   assign.wpIn (F.inRound l) (n - 1 - 1) P (Exit.then K (fun _ _ _ => False)) { tmps := (ps.zip (encs x)).foldl (fun t (p, v) => t.setIfInBounds p v) a.tmps, defers := [] } W)
  (hbody : ∀ (l : Nat) (pre : List α) (x : α) (a' : Act) (W : World), I pre W → Ax x a' W → pre.length < most → body.wpIn (F.inRound l) (n - 1 - 1) P (sPost w.heap.size Kp I most id0 (pre ++ [x]) W) a' W)
  (hdone : ∀ (D : Nat) (xs : List α) (W : World), w.heap.size ≤ D → S xs → I xs W → W.heap[D]? = some (.deferred (some [])) → Q .normal { a with defers := { target := .collected D, args := #[] } :: a.defers } W ∧ (Code.exit id0).wpIn F n P Q { a with defers := { target := .collected D, args := #[] } :: a.defers } W) :
  (Code.rangeFunc g ps assign body).wpIn F n P Q a w := by
 refine wpIn_rangeFunc ?_
 intro fn hfn
 rw [hro]
 obtain ⟨rec, hrec⟩ : ∃ rec : LoopState → Option Code → Loop, rec = fun st pe => { state := st, pending := pe, fn, tmps := a.tmps, params := ps, assign, body, defers := w.heap.size } := ⟨_, rfl⟩
 obtain ⟨W1, hW1⟩ : ∃ W1, (w.alloc (.deferred (some []))).alloc (.loop (rec .ready none)) = W1 := ⟨_, rfl⟩
 have hL1 : W1.heap[w.heap.size + 1]? = some (.loop (rec .ready none)) := by
  rw [← hW1]; have := World.alloc_heap_new (w.alloc (.deferred (some []))) (.loop (rec .ready none)); rwa [World.size_alloc] at this
 have hK1 : W1.heap[w.heap.size]? = some (.deferred (some [])) := by
  rw [← hW1]; exact (Below.heap_alloc _ _ _ (by simp)).trans (World.alloc_heap_new w _)
 have hI1 : I [] W1 := by rw [← hW1]; exact hI.alloc _ (hI.alloc _ h0)
 have hb1 : Below w0.heap.size w0 W1 := by
  rw [← hW1]; exact hb0.trans ((((Below.refl _ w).alloc (Nat.le_refl _) _).alloc (by simp) _).mono hb0.size)
 refine ⟨w.heap.size + 1, [{ target := .collected w.heap.size, args := #[] }], W1, { target := .fn (.func gf) lb, args := #[.func (.yield (w.heap.size + 1)) #[] #[]] }, W1, gf,
  #[.func (.yield (w.heap.size + 1)) #[] #[]] ++ lb, W1, ?_, ?_, ?_, ?_, fun _ => h1, ?_⟩
 ·rw [← hW1, hrec]; exact run_enterLoop_outer _ _ _ _ _
 ·simp only [resolve, hg]
  simp [go_sem]
 ·intro f' hf'; simp [Target.leads] at hf'; subst hf'; exact hFg
 ·simp [invoke, go_sem, eg]
 ·have hR : ∀ xs : List α, ((if xs.length < most then LoopState.ready else LoopState.done) ≠ .busy) := fun xs => by split <;> simp
  obtain ⟨stt, hstt⟩ : ∃ stt : List α → Loop, stt = fun xs => rec (if xs.length < most then .ready else .done) (if xs.length < most then none else some (.exit id0)) := ⟨_, rfl⟩
  refine (hseq (w.heap.size + 1)
   (fun pre W => I pre W ∧ W.heap[w.heap.size + 1]? = some (.loop (stt pre)) ∧ W.heap[w.heap.size]? = some (.deferred (some [])))
   W1 hb1
   (fun s A B hs hit => ⟨hII s A B hs.1 hit, hIt A B _ _ (by omega) hit hs.2.1 rfl, hIt A B _ _ (Nat.le_refl _) hit hs.2.2 rfl⟩)
   ?_ ⟨hI1, by rw [hstt]; simpa [hm] using hL1, hK1⟩).mono ?_
  ·rintro pre x W ⟨hi, hl, hk⟩ hmx hlen
   have hl0 : stt pre = rec .ready none := by rw [hstt]; simp [hlen]
   rw [hl0] at hl
   have hlt : w.heap.size + 1 < W.heap.size := (Array.getElem?_eq_some_iff.1 hl).1
   have hy := run_yield (P := P) (args := encs x) hl (by rw [hrec]; exact hps x)
   rw [hrec] at hy
   refine ⟨fn, _, assign, body, hy, roundIn_of_wpIn hfn (hassign _ pre x W _ hi hmx ?_)⟩
   clear hy
   intro a' Wa hkfa hkpa hia hax
   replace hl := hkfa.same _ _ (by omega) hl rfl
   replace hk := hkfa.same _ _ (Nat.le_refl _) hk rfl
   replace hlt : w.heap.size + 1 < Wa.heap.size := (Array.getElem?_eq_some_iff.1 hl).1
   replace hi := hia
   clear hia hmx
   revert hkpa hkfa
   generalize W = Wb
   intro hkfa hkpa
   obtain ⟨W, rfl⟩ : ∃ W, W = Wa := ⟨_, rfl⟩
   refine ⟨_, run_beginRound hl (by rw [hrec]), ?_⟩
   have hl2 : (W.putObj (w.heap.size + 1) (.loop { rec .ready none with state := .busy })).heap[w.heap.size + 1]? = some (.loop { rec .ready none with state := .busy }) := World.putObj_heap_same hlt
   have hk2 : (W.putObj (w.heap.size + 1) (.loop { rec .ready none with state := .busy })).heap[w.heap.size]? = some (.deferred (some [])) := (World.putObj_heap_other (by omega)).trans hk
   have hw2 : Kp W (W.putObj (w.heap.size + 1) (.loop { rec .ready none with state := .busy })) := hKb _ _ _ _ (by omega) hl rfl rfl
   refine wpIn_mono (hbody _ pre x a' _ (hI.putObj _ hi (by omega) hl rfl) ((hAx x a').putObj (s := ()) _ hax (by omega) hl rfl) hlen) ?_
   have hlx : (pre ++ [x]).length = pre.length + 1 := by simp
   rintro e a3 W3 hp
   cases e with
   | normal =>
    obtain ⟨hk3, hkp3, hi3, hc3⟩ := hp
    have hl3 := hk3.same _ _ (by omega) hl2 rfl
    have hr := run_endRound (P := P) none hl3
    rw [hrec] at hr hl3
    refine ⟨_, _, hr, ?_, ⟨hI.putObj _ hi3 (by omega) hl3 rfl, ?_, (World.putObj_heap_other (by omega)).trans (hk3.same _ _ (Nat.le_refl _) hk2 rfl)⟩, hKt hkpa (hKt (hKt hw2 hkp3) (hKb _ _ _ _ (by omega) hl3 rfl rfl))⟩
    ·rw [← hlx, decide_eq_true hc3]; rfl
    ·rw [hstt, hrec]
     simp only [hc3, if_true]
     exact World.putObj_heap_same (Array.getElem?_eq_some_iff.1 hl3).1
   | exit id =>
    obtain ⟨rfl, hk3, hkp3, hi3, hc3⟩ := hp
    have hl3 := hk3.same _ _ (by omega) hl2 rfl
    have hr := run_endRound (P := P) (some (.exit id)) hl3
    rw [hrec] at hr hl3
    refine ⟨_, _, hr, ?_, ⟨hI.putObj _ hi3 (by omega) hl3 rfl, ?_, (World.putObj_heap_other (by omega)).trans (hk3.same _ _ (Nat.le_refl _) hk2 rfl)⟩, hKt hkpa (hKt (hKt hw2 hkp3) (hKb _ _ _ _ (by omega) hl3 rfl rfl))⟩
    ·rw [← hlx, decide_eq_false hc3]; rfl
    ·rw [hstt, hrec]
     simp only [hc3, if_false]
     exact World.putObj_heap_same (Array.getElem?_eq_some_iff.1 hl3).1
   | ret => exact hp.elim
   | goto t => exact hp.elim
   | panic ch => exact hp.elim
   | outgrown => exact hp.elim
  ·rintro e W2 ⟨⟨v, rfl⟩, xs, hS, hi, hl, hk⟩
   rw [hstt] at hl
   have hd := hdone _ xs _ (Nat.le_refl _) hS (hI.putObj (.loop { rec (if xs.length < most then LoopState.ready else LoopState.done) (if xs.length < most then none else some (.exit id0)) with state := .exhausted }) hi (by omega) hl rfl) ((World.putObj_heap_other (by omega)).trans hk)
   have hel := run_endLoop (P := P) hl (by rw [hrec]; exact hR xs)
   by_cases hc : xs.length < most
   ·refine ⟨none, _, ?_, hd.1⟩
    rw [hel, hrec]
    simp only [hc, if_true]
   ·refine ⟨some (.exit id0), _, ?_, hd.2⟩
    rw [hel, hrec]
    simp only [hc, if_false]
end Go.Proofs.Ytkfebceainedfaa.P.OwnGap
namespace Go.Proofs.Ytkfebceainedfaa.P.OwnGap
open Go.RowKit Go.Proofs.YtkfebceainedfaaW.PrintWords Go.Proofs.YtkfebceainedfaaW.PrintLast Go.Proofs.YtkfebceainedfaaW.PrintMore
open Go.Proofs.Ytkfebceainedfaa.OwnGap
set_option linter.unusedVariables false
set_option linter.unusedSimpArgs false
set_option maxHeartbeats 4000000 in
set_option maxRecDepth 100000 in
theorem letter_end (X : Lx) (S : SV) (fits : List Int) (HOX : Aside0 (OkX X fits)) (a : Int) (ha0 : 65 ≤ a) (ha1 : a ≤ 90) (p : Pth) (w : World) (hd : X.r.length - p.i = 0) (hS : SrW X S fits w) (hO : OkP X p) :
  Calls Try.prog 91 #[.pointer (some ⟨S.b, 0, none⟩), .agg (pC p), .int .u8 a] w fun e w' => ∃ v, e = .returned v ∧ PR w w' v (letterP (rwOf X) p a) ∧ Below w.heap.size w w' := by
 have HS := Aside0.mk hS
 have hc5 := hS.cell 5 hS.e5
 have hbl := blk_lt hS.blk
 have hpi : p.i = X.r.length := by have := hO.i; omega
 have h1 : ((p.i : Int) == (X.r.length : Int)) = true := by rw [hpi]; simp
 have hlp : letterP (rwOf X) p a = [] := by
  unfold letterP
  rw [show (rwOf X).n - p.i = 0 by show X.r.length - p.i = 0; omega]
  rfl
 rw [hlp]
 clear hpi hd hS hO hlp
 unfold pC
 go_enter Try.func91, Try.ntmps91
 go_upto_region 2 with fail
 refine wp_gen (fun wx => Aside0 (PL w wx p)) ⟨PL.start w p⟩ ?_
 clear hc5 hbl
 rintro wx HB
 obtain ⟨e0, -⟩ := HB.out.pat.cells
 have hS2 := HS.out.below HB.out.below
 have hc5 := hS2.cell 5 hS2.e5
 have hbl := blk_lt hS2.blk
 clear hS2
 go_upto_region 3 with first | go_quiet (fail) | fail
 refine wp_gen (fun wx => Aside0 (PL w wx p)) ⟨HB.out.drewN _⟩ ?_
 clear HB e0 hc5 hbl
 rintro wx HB
 go_wp2_with fail
 go_ret
 exact ⟨_, rfl, Kd.R_nil _ _ _ _ _, HB.out.below⟩
set_option maxHeartbeats 4000000 in
set_option maxRecDepth 100000 in
theorem letter_cell (X : Lx) (S : SV) (fits : List Int) (HOX : Aside0 (OkX X fits)) (a : Int) (ha0 : 65 ≤ a) (ha1 : a ≤ 90) (d : Nat) (p : Pth) (w : World) (hd : X.r.length - p.i = d + 1) (hS : SrW X S fits w) (hO : OkP X p) (hgg : (rd_T49 X.r (p.i : Int)).f1 = false) :
  Calls Try.prog 91 #[.pointer (some ⟨S.b, 0, none⟩), .agg (pC p), .int .u8 a] w fun e w' => ∃ v, e = .returned v ∧ PR w w' v (letterP (rwOf X) p a) ∧ Below w.heap.size w w' := by
 have HS := Aside0.mk hS
 have HOP := Aside0.mk hO
 have hlt : p.i < X.r.length := by omega
 have hn : X.r.length ≤ 1000 := HOX.out.n
 have hc5 := hS.cell 5 hS.e5
 have hbl := blk_lt hS.blk
 obtain ⟨ad, eA, -⟩ := at_T49 hS.hr (p.i : Int) (by omega) (by omega)
 have h1 : ((p.i : Int) == (X.r.length : Int)) = false := by simp; omega
 have hil : (p.i : Int) < (X.r.length : Int) := by omega
 have hl0 : p.i < X.r.length := hlt
 have HX := Aside0.mk (fun (W : World) (h : SrW X S fits W) => show W.cell? ⟨S.b, 5, none⟩ = some (.slice (some ad) X.r.length S.cr) ∧ W.cell? (ad.add (p.i * 4)) = some (.string (rd_T49 X.r (p.i : Int)).f0) ∧ W.cell? ⟨(ad.add (p.i * 4)).block, (ad.add (p.i * 4)).off + 1, none⟩ = some (.bool (rd_T49 X.r (p.i : Int)).f1) ∧ W.cell? ⟨(ad.add (p.i * 4)).block, (ad.add (p.i * 4)).off + 2, none⟩ = some (.int .i64 (rd_T49 X.r (p.i : Int)).f2.f0) ∧ W.cell? ⟨(ad.add (p.i * 4)).block, (ad.add (p.i * 4)).off + 3, none⟩ = some (.int .i64 (rd_T49 X.r (p.i : Int)).f2.f1) by
  obtain ⟨ad', eA', y0, y1, y2, y3⟩ := at_T49 h.hr (p.i : Int) (by omega) (by omega)
  rw [eA] at eA'
  injection eA' with eA'
  subst eA'
  simp only [Int.toNat_natCast] at y0 y1 y2 y3
  exact ⟨by rw [h.cell 5 h.e5, eA], y0, y1, y2, y3⟩)
 obtain ⟨c, hc⟩ : ∃ c, c = rd_T49 X.r (p.i : Int) := ⟨_, rfl⟩
 rw [← hc] at HX hgg
 have HC := Aside0.mk hc
 have HD := Aside0.mk hd
 have HLT := Aside0.mk hlt
 have hrem : (rwOf X).n - p.i = d + 1 := hd
 have hlp : letterP (rwOf X) p a = (if (rwOf X).gap p.i = false then (if (rwOf X).fit p.i a = true then [⟨p.i + 1, 0, 0, 0, p.fs⟩] else [])
  else (if okW (rwOf X) p.i p.l p.h = true then letterF (rwOf X) d (p.i + 1) 0 0 0 (p.fs ++ [(p.m : Int)]) a else []) ++ (if p.m + 1 ≤ 10 ∧ p.l + (rwOf X).wl a ≤ (rwOf X).hi p.i then [⟨p.i, p.m + 1, p.l + (rwOf X).wl a, p.h + (rwOf X).wh a, p.fs⟩] else [])) := by
  unfold letterP
  rw [hrem, letterF_succ]
 rw [hlp]
 clear hrem hlp hS hO hd hc hlt eA hc5
 have hg := hgg
 clear hgg
 rw [if_pos (show (rwOf X).gap p.i = false by show (rd_T49 X.r (p.i : Int)).f1 = false; rw [← HC.out]; exact hg)]
 have hfa := HOX.out.f p.i HLT.out a ha0 ha1
 rw [show (rwOf X).fit p.i a = fitB (rd_T49 X.r (p.i : Int)).f0 a from rfl]
 obtain ⟨r, hr⟩ : ∃ r, r = fitB (rd_T49 X.r (p.i : Int)).f0 a := ⟨_, rfl⟩
 rw [← hr] at hfa ⊢
 have HFA := Aside0.mk hfa
 have HG := Aside0.mk hg
 clear hfa hr hg
 unfold pC
 go_enter Try.func91, Try.ntmps91
 go_upto_region 2 with fail
 refine wp_gen (fun wx => Aside0 (PL w wx p)) ⟨PL.start w p⟩ ?_
 clear hbl
 rintro wx HB
 obtain ⟨e0, -⟩ := HB.out.pat.cells
 have hS2 := HS.out.below HB.out.below
 obtain ⟨hc5, y0, y1, y2, y3⟩ := HX.out wx hS2
 rw [HG.out] at y1
 have hbl := blk_lt hS2.blk
 clear hS2
 go_upto_region 4 with first | go_quiet (fail) | fail
 refine wp_gen (fun wx => Aside0 (PL w wx p)) ⟨HB.out.drewN _⟩ ?_
 clear HB e0 hc5 y0 y1 y2 y3 hbl
 rintro wx HB
 obtain ⟨e0, -⟩ := HB.out.pat.cells
 have hS2 := HS.out.below HB.out.below
 obtain ⟨hc5, y0, y1, y2, y3⟩ := HX.out wx hS2
 rw [HG.out] at y1
 have hbl := blk_lt hS2.blk
 clear hS2
 go_upto_region 5 with first | go_quiet (fail) | fail
 refine wp_gen (fun wx => Aside0 (PL w wx p)) ⟨HB.out.drewN _⟩ ?_
 clear HB e0 hc5 y0 y1 y2 y3 hbl
 rintro wx HB
 obtain ⟨e0, -⟩ := HB.out.pat.cells
 have hS2 := HS.out.below HB.out.below
 obtain ⟨af, eF, y0⟩ := Kd.at_int hS2.hf (p.i : Int) (by omega) (by omega)
 have hc6 := hS2.cell 6 hS2.e6
 rw [eF] at hc6
 simp only [Int.toNat_natCast] at y0
 have hbl := blk_lt hS2.blk
 clear hS2 eF
 rcases r with _ | _
 ·go_upto_region 6 with (first | go_quiet (exact Calls.quiet_of ((gap_letters_has.calls _ _ _ _ HFA.out).mono (fun _ _ h => ⟨h.1, h.2.out⟩))) | fail)
  refine wp_gen (fun wx => Aside0 (PL w wx p)) ⟨HB.out.drewN _⟩ ?_
  clear HB e0 hc6 y0 hbl
  rintro wx HB
  go_wp2_with fail
  go_ret
  exact ⟨_, rfl, Kd.R_nil _ _ _ _ _, HB.out.below⟩
 ·go_upto_region 7 with (first | go_quiet (exact Calls.quiet_of ((gap_letters_has.calls _ _ _ _ HFA.out).mono (fun _ _ h => ⟨h.1, h.2.out⟩))) | fail)
  refine wp_gen (fun wx => Aside0 (PL w wx p)) ⟨HB.out.drewN _⟩ ?_
  clear HB e0 hc6 y0 hbl
  rintro wx HB
  obtain ⟨⟨e0, e1, e2, e3, e4, e5, e6, e7⟩, g0, g1, g2, g3, g4, g5, g6, g7⟩ := cells8 (show wx.heap[w.heap.size]? = some (.cells #[_, _, _, _, _, _, _, _] 154 (0, 0)) from HB.out.pat)
  have hpl := blk_lt HB.out.pat
  go_upto_region 8 with fail
  refine wp_gen (fun wx => Aside0 (PL w wx ⟨p.i + 1, 0, 0, 0, p.fs⟩)) ⟨⟨set4_below HB.out.below (Nat.le_refl _) _ _ _ _, set4 HB.out.pat _ _ _ _⟩⟩ ?_
  clear HB e0 e1 e2 e3 e4 e5 e6 e7 g0 g1 g2 g3 g4 g5 g6 g7 hpl
  rintro wx HB
  obtain ⟨⟨e0, e1, e2, e3, e4, e5, e6, e7⟩, g0, g1, g2, g3, g4, g5, g6, g7⟩ := cells8 (show wx.heap[w.heap.size]? = some (.cells #[_, _, _, _, _, _, _, _] 154 (0, 0)) from HB.out.pat)
  have hpl := blk_lt HB.out.pat
  go_wp2_with (first | ((with_reducible refine gate_dst (N := 52) rfl ?_); refine Kd.R_lit kP w.heap.size 154 ?hg (N := 52) ?hd (xs := [⟨p.i + 1, 0, 0, 0, p.fs⟩]) (inner := pL ⟨p.i + 1, 0, 0, 0, p.fs⟩) (ok := fun _ => True) (okp := fun _ => True) ?hr ?hp (fun _ hk => hk) trivial HB.out.below HB.out.below.size (by simp) ?_; (case hd => rfl); (case hg => rfl); (case hr => first | (go_simp; done) | (go_simp; rfl)); (case hp => exact Reps.snoc (Reps.none _ _) (kP_mkM _ _ _ _) rfl); intro v w3 ho hb hg_ hnew_; clear hg_ hnew_; have HO := Aside0.mk ho; have HB := Aside0.mk hb; clear ho hb))
  go_ret
  exact ⟨_, rfl, HO.out, HB.out⟩
set_option maxHeartbeats 4000000 in
set_option maxRecDepth 100000 in
theorem letter_gap_false (X : Lx) (S : SV) (fits : List Int) (HOX : Aside0 (OkX X fits)) (a : Int) (ha0 : 65 ≤ a) (ha1 : a ≤ 90) (d : Nat) (ih : ∀ (p : Pth) (w : World), X.r.length - p.i = d → SrW X S fits w → OkP X p →
  Calls Try.prog 91 #[.pointer (some ⟨S.b, 0, none⟩), .agg (pC p), .int .u8 a] w fun e w' => ∃ v, e = .returned v ∧ PR w w' v (letterP (rwOf X) p a) ∧ Below w.heap.size w w') (p : Pth) (w : World) (hd : X.r.length - p.i = d + 1) (hS : SrW X S fits w) (hO : OkP X p) (hgg : (rd_T49 X.r (p.i : Int)).f1 = true) (hbv : shutB (rwOf X) p = false) :
  Calls Try.prog 91 #[.pointer (some ⟨S.b, 0, none⟩), .agg (pC p), .int .u8 a] w fun e w' => ∃ v, e = .returned v ∧ PR w w' v (letterP (rwOf X) p a) ∧ Below w.heap.size w w' := by
 have HS := Aside0.mk hS
 have HOP := Aside0.mk hO
 have hlt : p.i < X.r.length := by omega
 have hn : X.r.length ≤ 1000 := HOX.out.n
 have hc5 := hS.cell 5 hS.e5
 have hbl := blk_lt hS.blk
 obtain ⟨ad, eA, -⟩ := at_T49 hS.hr (p.i : Int) (by omega) (by omega)
 have h1 : ((p.i : Int) == (X.r.length : Int)) = false := by simp; omega
 have hil : (p.i : Int) < (X.r.length : Int) := by omega
 have hl0 : p.i < X.r.length := hlt
 have HX := Aside0.mk (fun (W : World) (h : SrW X S fits W) => show W.cell? ⟨S.b, 5, none⟩ = some (.slice (some ad) X.r.length S.cr) ∧ W.cell? (ad.add (p.i * 4)) = some (.string (rd_T49 X.r (p.i : Int)).f0) ∧ W.cell? ⟨(ad.add (p.i * 4)).block, (ad.add (p.i * 4)).off + 1, none⟩ = some (.bool (rd_T49 X.r (p.i : Int)).f1) ∧ W.cell? ⟨(ad.add (p.i * 4)).block, (ad.add (p.i * 4)).off + 2, none⟩ = some (.int .i64 (rd_T49 X.r (p.i : Int)).f2.f0) ∧ W.cell? ⟨(ad.add (p.i * 4)).block, (ad.add (p.i * 4)).off + 3, none⟩ = some (.int .i64 (rd_T49 X.r (p.i : Int)).f2.f1) by
  obtain ⟨ad', eA', y0, y1, y2, y3⟩ := at_T49 h.hr (p.i : Int) (by omega) (by omega)
  rw [eA] at eA'
  injection eA' with eA'
  subst eA'
  simp only [Int.toNat_natCast] at y0 y1 y2 y3
  exact ⟨by rw [h.cell 5 h.e5, eA], y0, y1, y2, y3⟩)
 obtain ⟨c, hc⟩ : ∃ c, c = rd_T49 X.r (p.i : Int) := ⟨_, rfl⟩
 rw [← hc] at HX hgg
 have HC := Aside0.mk hc
 have HD := Aside0.mk hd
 have HLT := Aside0.mk hlt
 have hrem : (rwOf X).n - p.i = d + 1 := hd
 have hlp : letterP (rwOf X) p a = (if (rwOf X).gap p.i = false then (if (rwOf X).fit p.i a = true then [⟨p.i + 1, 0, 0, 0, p.fs⟩] else [])
  else (if okW (rwOf X) p.i p.l p.h = true then letterF (rwOf X) d (p.i + 1) 0 0 0 (p.fs ++ [(p.m : Int)]) a else []) ++ (if p.m + 1 ≤ 10 ∧ p.l + (rwOf X).wl a ≤ (rwOf X).hi p.i then [⟨p.i, p.m + 1, p.l + (rwOf X).wl a, p.h + (rwOf X).wh a, p.fs⟩] else [])) := by
  unfold letterP
  rw [hrem, letterF_succ]
 rw [hlp]
 clear hrem hlp hS hO hd hc hlt eA hc5
 have hg := hgg
 clear hgg
 rw [if_neg (show ¬ (rwOf X).gap p.i = false by rw [show (rwOf X).gap p.i = true by show (rd_T49 X.r (p.i : Int)).f1 = true; rw [← HC.out]; exact hg]; decide)]
 have hgp : (rwOf X).gap p.i = true := by show (rd_T49 X.r (p.i : Int)).f1 = true; rw [← HC.out]; exact hg
 have hsB : okW (rwOf X) p.i p.l p.h = shutB (rwOf X) p := by
  unfold shutB
  rw [hgp, show decide (p.i < (rwOf X).n) = true from decide_eq_true HLT.out]
  rfl
 rw [hsB]
 have hfs : p.fs.length + 1 + ((List.range' (p.i + 1) d).filter (rwOf X).gap).length ≤ 3 := by
  have := HOP.out.g
  rw [HD.out, List.range'_succ, List.filter_cons_of_pos hgp, List.length_cons] at this
  omega
 obtain ⟨q, hq⟩ : ∃ q, q = shutP (rwOf X) p := ⟨_, rfl⟩
 obtain ⟨b, hb⟩ : ∃ b, b = shutB (rwOf X) p := ⟨_, rfl⟩
 have HSH := Aside0.mk (fun (W : World) (h : SrW X S fits W) => show Calls Try.prog 90 #[.pointer (some ⟨S.b, 0, none⟩), .agg (pC p)] W fun e w' => e = .returned (.tuple #[.agg (pC q), .bool b]) ∧ Below W.heap.size W w' by
  rw [hq, hb]
  exact shut_calls X S fits p W h (by have := HLT.out; omega) hn (by have := HOP.out.m; omega) (fun _ _ => by omega))
 have HQ := Aside0.mk (show b = true → q = ⟨p.i + 1, 0, 0, 0, p.fs ++ [(p.m : Int)]⟩ by
  intro h
  rw [hq]
  exact if_pos (by rw [← hb]; exact h))
 rw [← hb]
 have HBV := Aside0.mk (show b = false by rw [hb]; exact hbv)
 clear hbv
 have HG := Aside0.mk hg
 have HFS := Aside0.mk hfs
 obtain ⟨l1, hl1⟩ : ∃ l1, l1 = (if b = true then letterF (rwOf X) d (p.i + 1) 0 0 0 (p.fs ++ [(p.m : Int)]) a else []) := ⟨_, rfl⟩
 rw [← hl1]
 have hl1n : l1.length ≤ 1000 := by
  rw [hl1]
  split
  ·exact Nat.le_trans (letterF_length _ _ _ _ _ _ _ _) (by have := HD.out; omega)
  ·exact Nat.zero_le _
 have HL1 := Aside0.mk hl1
 obtain ⟨lf, hlf⟩ : ∃ lf, lf = l1 ++ (if p.m + 1 ≤ 10 ∧ p.l + (rwOf X).wl a ≤ (rwOf X).hi p.i then [(⟨p.i, p.m + 1, p.l + (rwOf X).wl a, p.h + (rwOf X).wh a, p.fs⟩ : Pth)] else []) := ⟨_, rfl⟩
 rw [← hlf]
 have HLF := Aside0.mk hlf
 clear hlf
 clear hfs hq hb hsB hgp hg hl1
 unfold pC
 go_enter Try.func91, Try.ntmps91
 go_upto_region 2 with fail
 refine wp_gen (fun wx => Aside0 (PL w wx p)) ⟨PL.start w p⟩ ?_
 clear hbl
 rintro wx HB
 obtain ⟨e0, -⟩ := HB.out.pat.cells
 have hS2 := HS.out.below HB.out.below
 obtain ⟨hc5, y0, y1, y2, y3⟩ := HX.out wx hS2
 rw [HG.out] at y1
 have hbl := blk_lt hS2.blk
 clear hS2
 go_upto_region 4 with first | go_quiet (fail) | fail
 refine wp_gen (fun wx => Aside0 (PL w wx p)) ⟨HB.out.drewN _⟩ ?_
 clear HB e0 hc5 y0 y1 y2 y3 hbl
 rintro wx HB
 obtain ⟨e0, -⟩ := HB.out.pat.cells
 have hS2 := HS.out.below HB.out.below
 obtain ⟨hc5, y0, y1, y2, y3⟩ := HX.out wx hS2
 rw [HG.out] at y1
 have hbl := blk_lt hS2.blk
 clear hS2
 go_upto_region 9 with first | go_quiet (fail) | fail
 refine wp_gen (fun wx => Aside0 (PL w wx p)) ⟨HB.out.drewN _⟩ ?_
 clear HB e0 hc5 y0 y1 y2 y3 hbl
 rintro wx HB
 obtain ⟨e0, e1, e2, e3, e4, e5, e6, e7⟩ := HB.out.pat.cells
 have hbl := blk_lt HB.out.pat
 go_upto_region 11 with (first | (go_at_call 90; refine (HSH.out _ (HS.out.below HB.out.below)).mono ?_; rintro e w2 ⟨rfl, hB2⟩; unfold pC; have HB2 := Aside0.mk hB2; clear hB2))
 obtain ⟨b9, hb9⟩ : ∃ k, k = w2.heap.size := ⟨_, rfl⟩
 refine wp_gen (fun wx => Aside0 (PL w wx p) ∧ Aside0 (wx.heap[b9]? = some (.cells (pC q) 154 (0, 0)))) ⟨⟨(HB.out.next HB2.out).alloc _⟩, ⟨by rw [hb9]; exact blk_new w2 _⟩⟩ ?_
 rw [← hb9]
 clear hb9 HB HB2 e0 e1 e2 e3 e4 e5 e6 e7 hbl HSH
 rintro wx ⟨HB, H9⟩
 have HIH := Aside0.mk (show b = true → ∀ W, SrW X S fits W → Calls Try.prog 91 #[.pointer (some ⟨S.b, 0, none⟩), .agg (pC q), .int .u8 a] W fun e w' => ∃ v, e = .returned v ∧ PR W w' v l1 ∧ Below W.heap.size W w' by
  intro hbt W hW
  have := HQ.out hbt
  subst this
  have hh := ih ⟨p.i + 1, 0, 0, 0, p.fs ++ [(p.m : Int)]⟩ W (by show X.r.length - (p.i + 1) = d; have := HD.out; omega) hW ⟨by have := HLT.out; show p.i + 1 ≤ X.r.length; omega, by show 0 ≤ 10; omega, by show (0 : Int) ≤ 0; omega, by show (0 : Int) ≤ ((0 : Nat) : Int) * 1000; omega, by show (0 : Int) ≤ 0; omega, by show (0 : Int) ≤ ((0 : Nat) : Int) * 1000; omega, by
   show (p.fs ++ [(p.m : Int)]).length + ((List.range' (p.i + 1) (X.r.length - (p.i + 1))).filter (rwOf X).gap).length ≤ 3
   rw [show X.r.length - (p.i + 1) = d by have := HD.out; omega, List.length_append]
   exact HFS.out⟩
  have h1 : l1 = letterP (rwOf X) ⟨p.i + 1, 0, 0, 0, p.fs ++ [(p.m : Int)]⟩ a := by
   rw [HL1.out, if_pos hbt]
   unfold letterP
   rw [show (rwOf X).n - (p.i + 1) = d by show X.r.length - (p.i + 1) = d; have := HD.out; omega]
  rw [h1]
  exact hh)
 have HL0 := Aside0.mk (show b = false → l1 = [] by
  intro h
  rw [HL1.out, if_neg (by rw [h]; decide)])
 clear HL1 HQ ih
 rcases b with _ | _
 ·go_upto_region 13 with fail
  obtain ⟨v, hv0⟩ : ∃ v, v = Value.slice none 0 0 := ⟨_, rfl⟩
  refine wp_gen (fun wx => Aside0 (PL w wx p) ∧ Aside0 (kP.R 154 wx (w.heap.size + 1) (fun _ => True) v l1)) ⟨HB, ⟨by rw [hv0, HL0.out rfl]; exact Kd.R_nil _ _ _ _ _⟩⟩ ?_
  rw [← hv0]
  clear hv0 HB H9 HIH wx
  rintro wx ⟨HB, HV⟩
  obtain ⟨hw0, hw1⟩ := (HS.out.below HB.out.below).ew (a - 65).toNat (by omega)
  have y0 := (HS.out.below HB.out.below).cell _ hw0
  have y1 := (HS.out.below HB.out.below).cell _ hw1
  rw [show (((a - 65).toNat : Nat) : Int) = a - 65 by omega] at y0 y1
  have hbl := blk_lt (HS.out.below HB.out.below).blk
  clear hw0 hw1
  go_upto_region 14 with fail
  obtain ⟨wl, hwl⟩ : ∃ x, x = (rd_T47 X.l4 (a - 65)).f0 := ⟨_, rfl⟩
  obtain ⟨wh, hwh⟩ : ∃ x, x = (rd_T47 X.l4 (a - 65)).f1 := ⟨_, rfl⟩
  rw [← hwl, ← hwh]
  obtain ⟨k0, k1, k2, k3⟩ := HOX.out.w a ha0 ha1
  rw [← hwl] at k0 k1
  rw [← hwh] at k2 k3
  have hwl' : (rwOf X).wl a = wl := hwl.symm
  have hwh' : (rwOf X).wh a = wh := hwh.symm
  obtain ⟨bw, hbw⟩ : ∃ k, k = wx.heap.size := ⟨_, rfl⟩
  have hbw2 : w.heap.size < bw := by rw [hbw]; exact blk_lt HB.out.pat
  refine wp_gen (fun wy => Aside0 (PL w wy p) ∧ Aside0 (kP.R 154 wy (w.heap.size + 1) (fun _ => True) v l1) ∧ Aside0 (wy.heap[bw]? = some (.cells #[.int .i64 wl, .int .i64 wh] 47 (0, 0)))) ⟨⟨HB.out.alloc _⟩, ⟨Kd.R_alloc HV.out _⟩, ⟨by rw [hbw]; exact blk_new wx _⟩⟩ ?_
  rw [← hbw]
  clear hbw HB HV y0 y1 hbl hwl hwh
  rintro wy ⟨HB, HV, HW⟩
  obtain ⟨⟨e0, e1, e2, e3, e4, e5, e6, e7⟩, g0, g1, g2, g3, g4, g5, g6, g7⟩ := cells8 (show wy.heap[w.heap.size]? = some (.cells #[_, _, _, _, _, _, _, _] 154 (0, 0)) from HB.out.pat)
  have w0 := (blk_cell HW.out 0).trans (show (#[Value.int .i64 wl, Value.int .i64 wh] : Array Value)[0]? = some (Value.int .i64 wl) from rfl)
  have w1 := (blk_cell HW.out 1).trans (show (#[Value.int .i64 wl, Value.int .i64 wh] : Array Value)[1]? = some (Value.int .i64 wh) from rfl)
  have hpl := blk_lt HB.out.pat
  have hwl2 := blk_lt HW.out
  have m0 := HOP.out.m
  have m1 : p.l ≤ 10000 := by have := HOP.out.l1; omega
  have m2 := HOP.out.l0
  have m3 : p.h ≤ 10000 := by have := HOP.out.h1; omega
  have m4 := HOP.out.h0
  clear wx
  go_region
  obtain ⟨pp, hpp⟩ : ∃ x : Pth, x = ⟨p.i, p.m + 1, p.l + wl, p.h + wh, p.fs⟩ := ⟨_, rfl⟩
  refine wp_gen' (fun wz => Aside0 (PL w wz pp) ∧ Aside0 (kP.R 154 wz (w.heap.size + 1) (fun _ => True) v l1)) ⟨⟨by rw [hpp]; exact PL.drew ⟨set3_below HB.out.below (Nat.le_refl _) _ _ _, set3 HB.out.pat _ _ _⟩⟩, ⟨Kd.R_drew (R_low HV.out _ _ _)⟩⟩ ?_
  clear HB HV HW e0 e1 e2 e3 e4 e5 e6 e7 g0 g1 g2 g3 g4 g5 g6 g7 w0 w1 hpl hwl2
  clear wy
  rintro wy ⟨HB, HV⟩
  have HPP := Aside0.mk (show (if p.m + 1 ≤ 10 ∧ p.l + (rwOf X).wl a ≤ (rwOf X).hi p.i then [(⟨p.i, p.m + 1, p.l + (rwOf X).wl a, p.h + (rwOf X).wh a, p.fs⟩ : Pth)] else []) = (if pp.m ≤ 10 ∧ pp.l ≤ c.f2.f1 then [pp] else []) by
   rw [hwl', hwh', show (rwOf X).hi p.i = c.f2.f1 by rw [HC.out]; rfl, hpp])
  obtain ⟨e0, e1, e2, -⟩ := HB.out.pat.cells
  rw [show pp.i = p.i by rw [hpp]] at e0
  clear hwl' hwh' k0 k1 k2 k3 m0 m1 m2 m3 m4 hpp hbw2
  have hS2 := HS.out.below HB.out.below
  obtain ⟨hc5, y0, y1, y2, y3⟩ := HX.out wy hS2
  have hbl := blk_lt hS2.blk
  clear hS2
  by_cases hA : pp.m ≤ 10
  ·have hA1 : decide ((pp.m : Int) ≤ 10) = true := decide_eq_true (by omega)
   by_cases hB : pp.l ≤ c.f2.f1
   ·have hB1 : decide (pp.l ≤ c.f2.f1) = true := decide_eq_true hB
    have HYES := Aside0.mk (⟨hA, hB⟩ : pp.m ≤ 10 ∧ pp.l ≤ c.f2.f1)
    clear hA hB
    go_upto_region 16 with first | go_quiet (fail) | fail
    refine wp_gen (fun wy => Aside0 (PL w wy pp) ∧ Aside0 (kP.R 154 wy (w.heap.size + 1) (fun _ => True) v l1)) ⟨⟨HB.out.drewN _⟩, ⟨Kd.R_drewN HV.out _⟩⟩ ?_
    clear HB HV e0 e1 e2 hc5 y0 y1 y2 y3 hbl
    clear wy
    rintro wy ⟨HB, HV⟩
    obtain ⟨⟨e0, e1, e2, e3, e4, e5, e6, e7⟩, -⟩ := cells8 (show wy.heap[w.heap.size]? = some (.cells #[_, _, _, _, _, _, _, _] 154 (0, 0)) from HB.out.pat)
    have hpl := blk_lt HB.out.pat
    go_wp2_with (first | ((with_reducible refine gate_builtin (b := .append) (xs := #[.tmp 114, .tmp 116]) rfl ?_); at_builtin; refine Kd.R_append kP (w0 := wy) (w.heap.size + 1) rfl (.tmp 114) (.tmp 116) 157 154 (.agg #[(.int .i64 0), (.int .i64 0), (.int .i64 0), (.int .i64 0), (.int .i64 0), (.int .i64 0), (.int .i64 0), (.int .i64 0)]) 64 rfl Try.underlying157 (by kernel_rfl) rfl (by decide) (by omega) v l1 pp (pL pp) (fun _ => True) (fun _ => False) rfl rfl (kP_mkM _ _ _ _) (fun _ hk => hk.elim) (fun _ _ => trivial) HV.out (Below.refl _ _) hpl (by omega) ?_; intro v1 w70 ho hb hg hat; have HO := Aside0.mk ho; have HB2 := Aside0.mk hb; clear hg hat ho hb))
    go_ret
    exact ⟨_, rfl, by rw [HLF.out, HPP.out, if_pos HYES.out]; exact Kd.R_lower HO.out (Nat.le_succ _), HB.out.below.trans (HB2.out.mono (Nat.le_succ _))⟩
   ·have hB1 : decide (pp.l ≤ c.f2.f1) = false := decide_eq_false hB
    have HNO := Aside0.mk (fun h : pp.m ≤ 10 ∧ pp.l ≤ c.f2.f1 => hB h.2)
    clear hA hB
    go_upto_region 17 with first | go_quiet (fail) | fail
    refine wp_gen (fun wy => Aside0 (PL w wy pp) ∧ Aside0 (kP.R 154 wy (w.heap.size + 1) (fun _ => True) v l1)) ⟨⟨HB.out.drewN _⟩, ⟨Kd.R_drewN HV.out _⟩⟩ ?_
    clear HB HV e0 e1 e2 hc5 y0 y1 y2 y3 hbl
    rintro wy ⟨HB, HV⟩
    go_wp2_with fail
    go_ret
    exact ⟨_, rfl, by rw [HLF.out, HPP.out, if_neg HNO.out, List.append_nil]; exact Kd.R_lower HV.out (Nat.le_succ _), HB.out.below⟩
  ·have hA1 : decide ((pp.m : Int) ≤ 10) = false := decide_eq_false (by omega)
   have HNO := Aside0.mk (fun h : pp.m ≤ 10 ∧ pp.l ≤ c.f2.f1 => hA h.1)
   clear hA
   go_upto_region 17 with first | go_quiet (fail) | fail
   refine wp_gen (fun wy => Aside0 (PL w wy pp) ∧ Aside0 (kP.R 154 wy (w.heap.size + 1) (fun _ => True) v l1)) ⟨⟨HB.out.drewN _⟩, ⟨Kd.R_drewN HV.out _⟩⟩ ?_
   clear HB HV e0 e1 e2 hc5 y0 y1 y2 y3 hbl
   rintro wy ⟨HB, HV⟩
   go_wp2_with fail
   go_ret
   exact ⟨_, rfl, by rw [HLF.out, HPP.out, if_neg HNO.out, List.append_nil]; exact Kd.R_lower HV.out (Nat.le_succ _), HB.out.below⟩
 ·exact absurd HBV.out (by decide)
set_option maxHeartbeats 4000000 in
set_option maxRecDepth 100000 in
theorem letter_gap_true (X : Lx) (S : SV) (fits : List Int) (HOX : Aside0 (OkX X fits)) (a : Int) (ha0 : 65 ≤ a) (ha1 : a ≤ 90) (d : Nat) (ih : ∀ (p : Pth) (w : World), X.r.length - p.i = d → SrW X S fits w → OkP X p →
  Calls Try.prog 91 #[.pointer (some ⟨S.b, 0, none⟩), .agg (pC p), .int .u8 a] w fun e w' => ∃ v, e = .returned v ∧ PR w w' v (letterP (rwOf X) p a) ∧ Below w.heap.size w w') (p : Pth) (w : World) (hd : X.r.length - p.i = d + 1) (hS : SrW X S fits w) (hO : OkP X p) (hgg : (rd_T49 X.r (p.i : Int)).f1 = true) (hbv : shutB (rwOf X) p = true) :
  Calls Try.prog 91 #[.pointer (some ⟨S.b, 0, none⟩), .agg (pC p), .int .u8 a] w fun e w' => ∃ v, e = .returned v ∧ PR w w' v (letterP (rwOf X) p a) ∧ Below w.heap.size w w' := by
 have HS := Aside0.mk hS
 have HOP := Aside0.mk hO
 have hlt : p.i < X.r.length := by omega
 have hn : X.r.length ≤ 1000 := HOX.out.n
 have hc5 := hS.cell 5 hS.e5
 have hbl := blk_lt hS.blk
 obtain ⟨ad, eA, -⟩ := at_T49 hS.hr (p.i : Int) (by omega) (by omega)
 have h1 : ((p.i : Int) == (X.r.length : Int)) = false := by simp; omega
 have hil : (p.i : Int) < (X.r.length : Int) := by omega
 have hl0 : p.i < X.r.length := hlt
 have HX := Aside0.mk (fun (W : World) (h : SrW X S fits W) => show W.cell? ⟨S.b, 5, none⟩ = some (.slice (some ad) X.r.length S.cr) ∧ W.cell? (ad.add (p.i * 4)) = some (.string (rd_T49 X.r (p.i : Int)).f0) ∧ W.cell? ⟨(ad.add (p.i * 4)).block, (ad.add (p.i * 4)).off + 1, none⟩ = some (.bool (rd_T49 X.r (p.i : Int)).f1) ∧ W.cell? ⟨(ad.add (p.i * 4)).block, (ad.add (p.i * 4)).off + 2, none⟩ = some (.int .i64 (rd_T49 X.r (p.i : Int)).f2.f0) ∧ W.cell? ⟨(ad.add (p.i * 4)).block, (ad.add (p.i * 4)).off + 3, none⟩ = some (.int .i64 (rd_T49 X.r (p.i : Int)).f2.f1) by
  obtain ⟨ad', eA', y0, y1, y2, y3⟩ := at_T49 h.hr (p.i : Int) (by omega) (by omega)
  rw [eA] at eA'
  injection eA' with eA'
  subst eA'
  simp only [Int.toNat_natCast] at y0 y1 y2 y3
  exact ⟨by rw [h.cell 5 h.e5, eA], y0, y1, y2, y3⟩)
 obtain ⟨c, hc⟩ : ∃ c, c = rd_T49 X.r (p.i : Int) := ⟨_, rfl⟩
 rw [← hc] at HX hgg
 have HC := Aside0.mk hc
 have HD := Aside0.mk hd
 have HLT := Aside0.mk hlt
 have hrem : (rwOf X).n - p.i = d + 1 := hd
 have hlp : letterP (rwOf X) p a = (if (rwOf X).gap p.i = false then (if (rwOf X).fit p.i a = true then [⟨p.i + 1, 0, 0, 0, p.fs⟩] else [])
  else (if okW (rwOf X) p.i p.l p.h = true then letterF (rwOf X) d (p.i + 1) 0 0 0 (p.fs ++ [(p.m : Int)]) a else []) ++ (if p.m + 1 ≤ 10 ∧ p.l + (rwOf X).wl a ≤ (rwOf X).hi p.i then [⟨p.i, p.m + 1, p.l + (rwOf X).wl a, p.h + (rwOf X).wh a, p.fs⟩] else [])) := by
  unfold letterP
  rw [hrem, letterF_succ]
 rw [hlp]
 clear hrem hlp hS hO hd hc hlt eA hc5
 have hg := hgg
 clear hgg
 rw [if_neg (show ¬ (rwOf X).gap p.i = false by rw [show (rwOf X).gap p.i = true by show (rd_T49 X.r (p.i : Int)).f1 = true; rw [← HC.out]; exact hg]; decide)]
 have hgp : (rwOf X).gap p.i = true := by show (rd_T49 X.r (p.i : Int)).f1 = true; rw [← HC.out]; exact hg
 have hsB : okW (rwOf X) p.i p.l p.h = shutB (rwOf X) p := by
  unfold shutB
  rw [hgp, show decide (p.i < (rwOf X).n) = true from decide_eq_true HLT.out]
  rfl
 rw [hsB]
 have hfs : p.fs.length + 1 + ((List.range' (p.i + 1) d).filter (rwOf X).gap).length ≤ 3 := by
  have := HOP.out.g
  rw [HD.out, List.range'_succ, List.filter_cons_of_pos hgp, List.length_cons] at this
  omega
 obtain ⟨q, hq⟩ : ∃ q, q = shutP (rwOf X) p := ⟨_, rfl⟩
 obtain ⟨b, hb⟩ : ∃ b, b = shutB (rwOf X) p := ⟨_, rfl⟩
 have HSH := Aside0.mk (fun (W : World) (h : SrW X S fits W) => show Calls Try.prog 90 #[.pointer (some ⟨S.b, 0, none⟩), .agg (pC p)] W fun e w' => e = .returned (.tuple #[.agg (pC q), .bool b]) ∧ Below W.heap.size W w' by
  rw [hq, hb]
  exact shut_calls X S fits p W h (by have := HLT.out; omega) hn (by have := HOP.out.m; omega) (fun _ _ => by omega))
 have HQ := Aside0.mk (show b = true → q = ⟨p.i + 1, 0, 0, 0, p.fs ++ [(p.m : Int)]⟩ by
  intro h
  rw [hq]
  exact if_pos (by rw [← hb]; exact h))
 rw [← hb]
 have HBV := Aside0.mk (show b = true by rw [hb]; exact hbv)
 clear hbv
 have HG := Aside0.mk hg
 have HFS := Aside0.mk hfs
 obtain ⟨l1, hl1⟩ : ∃ l1, l1 = (if b = true then letterF (rwOf X) d (p.i + 1) 0 0 0 (p.fs ++ [(p.m : Int)]) a else []) := ⟨_, rfl⟩
 rw [← hl1]
 have hl1n : l1.length ≤ 1000 := by
  rw [hl1]
  split
  ·exact Nat.le_trans (letterF_length _ _ _ _ _ _ _ _) (by have := HD.out; omega)
  ·exact Nat.zero_le _
 have HL1 := Aside0.mk hl1
 obtain ⟨lf, hlf⟩ : ∃ lf, lf = l1 ++ (if p.m + 1 ≤ 10 ∧ p.l + (rwOf X).wl a ≤ (rwOf X).hi p.i then [(⟨p.i, p.m + 1, p.l + (rwOf X).wl a, p.h + (rwOf X).wh a, p.fs⟩ : Pth)] else []) := ⟨_, rfl⟩
 rw [← hlf]
 have HLF := Aside0.mk hlf
 clear hlf
 clear hfs hq hb hsB hgp hg hl1
 unfold pC
 go_enter Try.func91, Try.ntmps91
 go_upto_region 2 with fail
 refine wp_gen (fun wx => Aside0 (PL w wx p)) ⟨PL.start w p⟩ ?_
 clear hbl
 rintro wx HB
 obtain ⟨e0, -⟩ := HB.out.pat.cells
 have hS2 := HS.out.below HB.out.below
 obtain ⟨hc5, y0, y1, y2, y3⟩ := HX.out wx hS2
 rw [HG.out] at y1
 have hbl := blk_lt hS2.blk
 clear hS2
 go_upto_region 4 with first | go_quiet (fail) | fail
 refine wp_gen (fun wx => Aside0 (PL w wx p)) ⟨HB.out.drewN _⟩ ?_
 clear HB e0 hc5 y0 y1 y2 y3 hbl
 rintro wx HB
 obtain ⟨e0, -⟩ := HB.out.pat.cells
 have hS2 := HS.out.below HB.out.below
 obtain ⟨hc5, y0, y1, y2, y3⟩ := HX.out wx hS2
 rw [HG.out] at y1
 have hbl := blk_lt hS2.blk
 clear hS2
 go_upto_region 9 with first | go_quiet (fail) | fail
 refine wp_gen (fun wx => Aside0 (PL w wx p)) ⟨HB.out.drewN _⟩ ?_
 clear HB e0 hc5 y0 y1 y2 y3 hbl
 rintro wx HB
 obtain ⟨e0, e1, e2, e3, e4, e5, e6, e7⟩ := HB.out.pat.cells
 have hbl := blk_lt HB.out.pat
 go_upto_region 11 with (first | (go_at_call 90; refine (HSH.out _ (HS.out.below HB.out.below)).mono ?_; rintro e w2 ⟨rfl, hB2⟩; unfold pC; have HB2 := Aside0.mk hB2; clear hB2))
 obtain ⟨b9, hb9⟩ : ∃ k, k = w2.heap.size := ⟨_, rfl⟩
 refine wp_gen (fun wx => Aside0 (PL w wx p) ∧ Aside0 (wx.heap[b9]? = some (.cells (pC q) 154 (0, 0)))) ⟨⟨(HB.out.next HB2.out).alloc _⟩, ⟨by rw [hb9]; exact blk_new w2 _⟩⟩ ?_
 rw [← hb9]
 clear hb9 HB HB2 e0 e1 e2 e3 e4 e5 e6 e7 hbl HSH
 rintro wx ⟨HB, H9⟩
 have HIH := Aside0.mk (show b = true → ∀ W, SrW X S fits W → Calls Try.prog 91 #[.pointer (some ⟨S.b, 0, none⟩), .agg (pC q), .int .u8 a] W fun e w' => ∃ v, e = .returned v ∧ PR W w' v l1 ∧ Below W.heap.size W w' by
  intro hbt W hW
  have := HQ.out hbt
  subst this
  have hh := ih ⟨p.i + 1, 0, 0, 0, p.fs ++ [(p.m : Int)]⟩ W (by show X.r.length - (p.i + 1) = d; have := HD.out; omega) hW ⟨by have := HLT.out; show p.i + 1 ≤ X.r.length; omega, by show 0 ≤ 10; omega, by show (0 : Int) ≤ 0; omega, by show (0 : Int) ≤ ((0 : Nat) : Int) * 1000; omega, by show (0 : Int) ≤ 0; omega, by show (0 : Int) ≤ ((0 : Nat) : Int) * 1000; omega, by
   show (p.fs ++ [(p.m : Int)]).length + ((List.range' (p.i + 1) (X.r.length - (p.i + 1))).filter (rwOf X).gap).length ≤ 3
   rw [show X.r.length - (p.i + 1) = d by have := HD.out; omega, List.length_append]
   exact HFS.out⟩
  have h1 : l1 = letterP (rwOf X) ⟨p.i + 1, 0, 0, 0, p.fs ++ [(p.m : Int)]⟩ a := by
   rw [HL1.out, if_pos hbt]
   unfold letterP
   rw [show (rwOf X).n - (p.i + 1) = d by show X.r.length - (p.i + 1) = d; have := HD.out; omega]
  rw [h1]
  exact hh)
 have HL0 := Aside0.mk (show b = false → l1 = [] by
  intro h
  rw [HL1.out, if_neg (by rw [h]; decide)])
 clear HL1 HQ ih
 rcases b with _ | _
 ·exact absurd HBV.out (by decide)
 ·obtain ⟨⟨e0, e1, e2, e3, e4, e5, e6, e7⟩, -⟩ := cells8 (show wx.heap[b9]? = some (.cells #[_, _, _, _, _, _, _, _] 154 (0, 0)) from H9.out)
  have hbl := blk_lt H9.out
  go_upto_region 13 with (first | (go_at_call 91; refine (HIH.out rfl _ (HS.out.below HB.out.below)).mono ?_; rintro e w3 ⟨v, rfl, hv, hB3⟩; have HV := Aside0.mk hv; have HB3 := Aside0.mk hB3; clear hv hB3))
  refine wp_gen (fun wx => Aside0 (PL w wx p) ∧ Aside0 (kP.R 154 wx (w.heap.size + 1) (fun _ => True) v l1)) ⟨⟨HB.out.next HB3.out⟩, ⟨Kd.R_lower HV.out (by have := blk_lt HB.out.pat; omega)⟩⟩ ?_
  clear HV HB3 HB H9 HIH e0 e1 e2 e3 e4 e5 e6 e7 hbl
  clear w3 wx
  rintro wx ⟨HB, HV⟩
  obtain ⟨hw0, hw1⟩ := (HS.out.below HB.out.below).ew (a - 65).toNat (by omega)
  have y0 := (HS.out.below HB.out.below).cell _ hw0
  have y1 := (HS.out.below HB.out.below).cell _ hw1
  rw [show (((a - 65).toNat : Nat) : Int) = a - 65 by omega] at y0 y1
  have hbl := blk_lt (HS.out.below HB.out.below).blk
  clear hw0 hw1
  go_upto_region 14 with fail
  obtain ⟨wl, hwl⟩ : ∃ x, x = (rd_T47 X.l4 (a - 65)).f0 := ⟨_, rfl⟩
  obtain ⟨wh, hwh⟩ : ∃ x, x = (rd_T47 X.l4 (a - 65)).f1 := ⟨_, rfl⟩
  rw [← hwl, ← hwh]
  obtain ⟨k0, k1, k2, k3⟩ := HOX.out.w a ha0 ha1
  rw [← hwl] at k0 k1
  rw [← hwh] at k2 k3
  have hwl' : (rwOf X).wl a = wl := hwl.symm
  have hwh' : (rwOf X).wh a = wh := hwh.symm
  obtain ⟨bw, hbw⟩ : ∃ k, k = wx.heap.size := ⟨_, rfl⟩
  have hbw2 : w.heap.size < bw := by rw [hbw]; exact blk_lt HB.out.pat
  refine wp_gen (fun wy => Aside0 (PL w wy p) ∧ Aside0 (kP.R 154 wy (w.heap.size + 1) (fun _ => True) v l1) ∧ Aside0 (wy.heap[bw]? = some (.cells #[.int .i64 wl, .int .i64 wh] 47 (0, 0)))) ⟨⟨HB.out.alloc _⟩, ⟨Kd.R_alloc HV.out _⟩, ⟨by rw [hbw]; exact blk_new wx _⟩⟩ ?_
  rw [← hbw]
  clear hbw HB HV y0 y1 hbl hwl hwh
  rintro wy ⟨HB, HV, HW⟩
  obtain ⟨⟨e0, e1, e2, e3, e4, e5, e6, e7⟩, g0, g1, g2, g3, g4, g5, g6, g7⟩ := cells8 (show wy.heap[w.heap.size]? = some (.cells #[_, _, _, _, _, _, _, _] 154 (0, 0)) from HB.out.pat)
  have w0 := (blk_cell HW.out 0).trans (show (#[Value.int .i64 wl, Value.int .i64 wh] : Array Value)[0]? = some (Value.int .i64 wl) from rfl)
  have w1 := (blk_cell HW.out 1).trans (show (#[Value.int .i64 wl, Value.int .i64 wh] : Array Value)[1]? = some (Value.int .i64 wh) from rfl)
  have hpl := blk_lt HB.out.pat
  have hwl2 := blk_lt HW.out
  have m0 := HOP.out.m
  have m1 : p.l ≤ 10000 := by have := HOP.out.l1; omega
  have m2 := HOP.out.l0
  have m3 : p.h ≤ 10000 := by have := HOP.out.h1; omega
  have m4 := HOP.out.h0
  clear wx
  go_region
  obtain ⟨pp, hpp⟩ : ∃ x : Pth, x = ⟨p.i, p.m + 1, p.l + wl, p.h + wh, p.fs⟩ := ⟨_, rfl⟩
  refine wp_gen' (fun wz => Aside0 (PL w wz pp) ∧ Aside0 (kP.R 154 wz (w.heap.size + 1) (fun _ => True) v l1)) ⟨⟨by rw [hpp]; exact PL.drew ⟨set3_below HB.out.below (Nat.le_refl _) _ _ _, set3 HB.out.pat _ _ _⟩⟩, ⟨Kd.R_drew (R_low HV.out _ _ _)⟩⟩ ?_
  clear HB HV HW e0 e1 e2 e3 e4 e5 e6 e7 g0 g1 g2 g3 g4 g5 g6 g7 w0 w1 hpl hwl2
  clear wy
  rintro wy ⟨HB, HV⟩
  have HPP := Aside0.mk (show (if p.m + 1 ≤ 10 ∧ p.l + (rwOf X).wl a ≤ (rwOf X).hi p.i then [(⟨p.i, p.m + 1, p.l + (rwOf X).wl a, p.h + (rwOf X).wh a, p.fs⟩ : Pth)] else []) = (if pp.m ≤ 10 ∧ pp.l ≤ c.f2.f1 then [pp] else []) by
   rw [hwl', hwh', show (rwOf X).hi p.i = c.f2.f1 by rw [HC.out]; rfl, hpp])
  obtain ⟨e0, e1, e2, -⟩ := HB.out.pat.cells
  rw [show pp.i = p.i by rw [hpp]] at e0
  clear hwl' hwh' k0 k1 k2 k3 m0 m1 m2 m3 m4 hpp hbw2
  have hS2 := HS.out.below HB.out.below
  obtain ⟨hc5, y0, y1, y2, y3⟩ := HX.out wy hS2
  have hbl := blk_lt hS2.blk
  clear hS2
  by_cases hA : pp.m ≤ 10
  ·have hA1 : decide ((pp.m : Int) ≤ 10) = true := decide_eq_true (by omega)
   by_cases hB : pp.l ≤ c.f2.f1
   ·have hB1 : decide (pp.l ≤ c.f2.f1) = true := decide_eq_true hB
    have HYES := Aside0.mk (⟨hA, hB⟩ : pp.m ≤ 10 ∧ pp.l ≤ c.f2.f1)
    clear hA hB
    go_upto_region 16 with first | go_quiet (fail) | fail
    refine wp_gen (fun wy => Aside0 (PL w wy pp) ∧ Aside0 (kP.R 154 wy (w.heap.size + 1) (fun _ => True) v l1)) ⟨⟨HB.out.drewN _⟩, ⟨Kd.R_drewN HV.out _⟩⟩ ?_
    clear HB HV e0 e1 e2 hc5 y0 y1 y2 y3 hbl
    clear wy
    rintro wy ⟨HB, HV⟩
    obtain ⟨⟨e0, e1, e2, e3, e4, e5, e6, e7⟩, -⟩ := cells8 (show wy.heap[w.heap.size]? = some (.cells #[_, _, _, _, _, _, _, _] 154 (0, 0)) from HB.out.pat)
    have hpl := blk_lt HB.out.pat
    go_wp2_with (first | ((with_reducible refine gate_builtin (b := .append) (xs := #[.tmp 114, .tmp 116]) rfl ?_); at_builtin; refine Kd.R_append kP (w0 := wy) (w.heap.size + 1) rfl (.tmp 114) (.tmp 116) 157 154 (.agg #[(.int .i64 0), (.int .i64 0), (.int .i64 0), (.int .i64 0), (.int .i64 0), (.int .i64 0), (.int .i64 0), (.int .i64 0)]) 64 rfl Try.underlying157 (by kernel_rfl) rfl (by decide) (by omega) v l1 pp (pL pp) (fun _ => True) (fun _ => False) rfl rfl (kP_mkM _ _ _ _) (fun _ hk => hk.elim) (fun _ _ => trivial) HV.out (Below.refl _ _) hpl (by omega) ?_; intro v1 w70 ho hb hg hat; have HO := Aside0.mk ho; have HB2 := Aside0.mk hb; clear hg hat ho hb))
    go_ret
    exact ⟨_, rfl, by rw [HLF.out, HPP.out, if_pos HYES.out]; exact Kd.R_lower HO.out (Nat.le_succ _), HB.out.below.trans (HB2.out.mono (Nat.le_succ _))⟩
   ·have hB1 : decide (pp.l ≤ c.f2.f1) = false := decide_eq_false hB
    have HNO := Aside0.mk (fun h : pp.m ≤ 10 ∧ pp.l ≤ c.f2.f1 => hB h.2)
    clear hA hB
    go_upto_region 17 with first | go_quiet (fail) | fail
    refine wp_gen (fun wy => Aside0 (PL w wy pp) ∧ Aside0 (kP.R 154 wy (w.heap.size + 1) (fun _ => True) v l1)) ⟨⟨HB.out.drewN _⟩, ⟨Kd.R_drewN HV.out _⟩⟩ ?_
    clear HB HV e0 e1 e2 hc5 y0 y1 y2 y3 hbl
    rintro wy ⟨HB, HV⟩
    go_wp2_with fail
    go_ret
    exact ⟨_, rfl, by rw [HLF.out, HPP.out, if_neg HNO.out, List.append_nil]; exact Kd.R_lower HV.out (Nat.le_succ _), HB.out.below⟩
  ·have hA1 : decide ((pp.m : Int) ≤ 10) = false := decide_eq_false (by omega)
   have HNO := Aside0.mk (fun h : pp.m ≤ 10 ∧ pp.l ≤ c.f2.f1 => hA h.1)
   clear hA
   go_upto_region 17 with first | go_quiet (fail) | fail
   refine wp_gen (fun wy => Aside0 (PL w wy pp) ∧ Aside0 (kP.R 154 wy (w.heap.size + 1) (fun _ => True) v l1)) ⟨⟨HB.out.drewN _⟩, ⟨Kd.R_drewN HV.out _⟩⟩ ?_
   clear HB HV e0 e1 e2 hc5 y0 y1 y2 y3 hbl
   rintro wy ⟨HB, HV⟩
   go_wp2_with fail
   go_ret
   exact ⟨_, rfl, by rw [HLF.out, HPP.out, if_neg HNO.out, List.append_nil]; exact Kd.R_lower HV.out (Nat.le_succ _), HB.out.below⟩
theorem letter_calls (X : Lx) (S : SV) (fits : List Int) (HOX : Aside0 (OkX X fits)) (a : Int) (ha0 : 65 ≤ a) (ha1 : a ≤ 90) : ∀ (d : Nat) (p : Pth) (w : World), X.r.length - p.i = d → SrW X S fits w → OkP X p →
  Calls Try.prog 91 #[.pointer (some ⟨S.b, 0, none⟩), .agg (pC p), .int .u8 a] w fun e w' => ∃ v, e = .returned v ∧ PR w w' v (letterP (rwOf X) p a) ∧ Below w.heap.size w w' := by
 intro d
 induction d with
 | zero => exact letter_end X S fits HOX a ha0 ha1
 | succ d ih =>
  intro p w hd hS hO
  rcases hg : (rd_T49 X.r (p.i : Int)).f1 with _ | _
  ·exact letter_cell X S fits HOX a ha0 ha1 d p w hd hS hO hg
  ·rcases hb : shutB (rwOf X) p with _ | _
   ·exact letter_gap_false X S fits HOX a ha0 ha1 d ih p w hd hS hO hg hb
   ·exact letter_gap_true X S fits HOX a ha0 ha1 d ih p w hd hS hO hg hb
end Go.Proofs.Ytkfebceainedfaa.P.OwnGap
namespace Go.Proofs.Ytkfebceainedfaa.P.OwnGap
open Go.RowKit Go.Proofs.YtkfebceainedfaaW.PrintWords Go.Proofs.YtkfebceainedfaaW.PrintLast Go.Proofs.YtkfebceainedfaaW.PrintMore
open Go.Proofs.Ytkfebceainedfaa.OwnGap
set_option linter.unusedVariables false
set_option linter.unusedSimpArgs false
structure OkD (X : Lx) (p : Pth) : Prop where
 i : p.i ≤ X.r.length
 m : p.m ≤ 1000
 g : p.fs.length + ((List.range' p.i (X.r.length - p.i)).filter (rwOf X).gap).length ≤ 3
theorem OkD.room {X : Lx} {p : Pth} (h : OkD X p) (hl : p.i < X.r.length) (hg : (rwOf X).gap p.i = true) : p.fs.length < 3 := by
 have := h.g
 obtain ⟨d, hd⟩ : ∃ d, X.r.length - p.i = d + 1 := ⟨X.r.length - p.i - 1, by omega⟩
 rw [hd, List.range'_succ, List.filter_cons_of_pos hg, List.length_cons] at this
 omega
theorem OkD.next {X : Lx} {p : Pth} (h : OkD X p) (hs : shutB (rwOf X) p = true) : OkD X (shutP (rwOf X) p) := by
 have hp : shutP (rwOf X) p = ⟨p.i + 1, 0, 0, 0, p.fs ++ [(p.m : Int)]⟩ := if_pos hs
 have hs' : p.i < X.r.length ∧ (rwOf X).gap p.i = true := by
  unfold shutB at hs
  rw [Bool.and_eq_true, Bool.and_eq_true] at hs
  exact ⟨of_decide_eq_true hs.1, hs.2.1⟩
 rw [hp]
 refine ⟨by show p.i + 1 ≤ X.r.length; omega, by show 0 ≤ 1000; omega, ?_⟩
 have := h.g
 obtain ⟨d, hd⟩ : ∃ d, X.r.length - p.i = d + 1 := ⟨X.r.length - p.i - 1, by omega⟩
 show (p.fs ++ [(p.m : Int)]).length + ((List.range' (p.i + 1) (X.r.length - (p.i + 1))).filter (rwOf X).gap).length ≤ 3
 rw [hd, List.range'_succ, List.filter_cons_of_pos hs'.2, List.length_cons] at this
 rw [show X.r.length - (p.i + 1) = d by omega, List.length_append, List.length_singleton]
 omega
theorem doneP_shut {R : Rw} {p : Pth} (hl : p.i < R.n) : doneP R p = if shutB R p = true then doneP R (shutP R p) else none := by
 obtain ⟨d, hd⟩ : ∃ d, R.n - p.i = d + 1 := ⟨R.n - p.i - 1, by omega⟩
 have hb : shutB R p = (R.gap p.i && okW R p.i p.l p.h) := by
  unfold shutB
  rw [decide_eq_true hl]
  rfl
 by_cases hs : shutB R p = true
 ·have hp : shutP R p = ⟨p.i + 1, 0, 0, 0, p.fs ++ [(p.m : Int)]⟩ := if_pos hs
  rw [if_pos hs, hp]
  unfold doneP
  rw [hd, doneF]
  rw [hb, Bool.and_eq_true] at hs
  rw [if_pos hs, show R.n - (p.i + 1) = d by omega]
 ·rw [if_neg hs]
  unfold doneP
  rw [hd, doneF]
  rw [hb, Bool.and_eq_true] at hs
  rw [if_neg hs]
theorem doneP_end {R : Rw} {p : Pth} (hl : p.i = R.n) : doneP R p = some p.fs := by
 unfold doneP
 rw [hl, Nat.sub_self]
 rfl
theorem set8_far {W : World} {b g t : Nat} {cs : Array Value} (h : W.heap[b]? = some (.cells cs t (0, 0))) (hb : b ≠ g) (u0 u1 u2 u3 u4 u5 u6 u7 : Value) : ((((((((W.setCell ⟨g, 0, none⟩ u0).setCell ⟨g, 1, none⟩ u1).setCell ⟨g, 2, none⟩ u2).setCell ⟨g, 3, none⟩ u3).setCell ⟨g, 4, none⟩ u4).setCell ⟨g, 5, none⟩ u5).setCell ⟨g, 6, none⟩ u6).setCell ⟨g, 7, none⟩ u7).heap[b]? = some (.cells cs t (0, 0)) :=
 blk_far (blk_far (blk_far (blk_far (blk_far (blk_far (blk_far (blk_far h hb _) hb _) hb _) hb _) hb _) hb _) hb _) hb _
theorem PB.next {w wx wy : World} {p : Pth} (h : PB w wx p) (hb : Below wx.heap.size wx wy) : PB w wy p := ⟨h.below.trans (hb.mono h.below.size), blk_below h.pat hb, let ⟨q, hq⟩ := h.res; ⟨q, blk_below hq hb⟩⟩
theorem PB.put {w wx : World} {p q : Pth} (h : PB w wx p) {u0 u1 u2 u3 u4 u5 u6 u7 : Value} (hu : pC q = #[u0, u1, u2, u3, u4, u5, u6, u7]) : PB w ((((((((wx.setCell ⟨w.heap.size, 0, none⟩ u0).setCell ⟨w.heap.size, 1, none⟩ u1).setCell ⟨w.heap.size, 2, none⟩ u2).setCell ⟨w.heap.size, 3, none⟩ u3).setCell ⟨w.heap.size, 4, none⟩ u4).setCell ⟨w.heap.size, 5, none⟩ u5).setCell ⟨w.heap.size, 6, none⟩ u6).setCell ⟨w.heap.size, 7, none⟩ u7) q :=
 ⟨set8_below h.below (Nat.le_refl _) _ _ _ _ _ _ _ _, by unfold PAt; rw [hu]; exact set8_blk (show wx.heap[w.heap.size]? = some (.cells #[_, _, _, _, _, _, _, _] 154 (0, 0)) from h.pat) _ _ _ _ _ _ _ _, let ⟨z, hz⟩ := h.res; ⟨z, set8_far hz (by simp) _ _ _ _ _ _ _ _⟩⟩
structure RelD (X : Lx) (w wr : World) (p q : Pth) (b : Bool) : Prop where
 pb : PB w wr q
 ok : OkD X q
 h : doneP (rwOf X) p = if b = true then doneP (rwOf X) q else none
def DoneOut (X : Lx) (p : Pth) (w : World) (e : Ending) (w' : World) : Prop := ∃ (q : Pth) (b : Bool), e = .returned (.tuple #[.agg (pC q), .bool b]) ∧ (doneP (rwOf X) p = if b = true then some q.fs else none) ∧ (b = true → q.fs.length ≤ 3) ∧ Below w.heap.size w w'
def mD (n b : Nat) (v : Value) (wr : World) : Nat :=
 match v, wr.cell? ⟨b, 0, none⟩ with
 | .bool true, some (.int _ i) => 1 + (n - i.toNat)
 | _, _ => 0
theorem mD_true {n : Nat} {w wr : World} {q : Pth} (h : PB w wr q) : mD n w.heap.size (.bool true) wr = 1 + (n - q.i) := by
 unfold mD
 rw [h.pat.cells.1]
 simp
theorem mD_false {n b : Nat} {wr : World} : mD n b (.bool false) wr = 0 := by
 unfold mD
 rfl
set_option maxHeartbeats 1000000 in
set_option maxRecDepth 100000 in
theorem done_calls (X : Lx) (S : SV) (fits : List Int) (hn : X.r.length ≤ 1000) (p : Pth) (w : World) (hS : SrW X S fits w) (hO : OkD X p) :
  Calls Try.prog 97 #[.pointer (some ⟨S.b, 0, none⟩), .agg (pC p)] w (DoneOut X p w) := by
 have HS := Aside0.mk hS
 have HOP := Aside0.mk hO
 clear hS hO
 unfold pC
 go_enter Try.func97, Try.ntmps97
 go_wp2
 go_loopw [6] (fun v wr => ∃ (q : Pth) (b : Bool), v = .bool b ∧ Aside0 (RelD X w wr p q b)) (fun v wr => mD X.r.length w.heap.size v wr)
 case atStart => exact ⟨p, true, rfl, ⟨⟨PB.start w p, HOP.out, rfl⟩⟩⟩
 case round =>
  obtain ⟨q, b, rfl, HR⟩ := hrel
  have HB := Aside0.mk HR.out.pb
  have HO := Aside0.mk HR.out.ok
  have HD := Aside0.mk HR.out.h
  clear HR
  rcases b with _ | _
  ·have HFIN := Aside0.mk (show doneP (rwOf X) p = none from HD.out)
   have HLEN := Aside0.mk (show q.fs.length ≤ 3 ∨ True from .inr trivial)
   obtain ⟨e0, e1, e2, e3, e4, e5, e6, e7⟩ := HB.out.pat.cells
   have hpl := blk_lt HB.out.pat
   obtain ⟨z, hz⟩ := HB.out.res
   obtain ⟨⟨q0, q1, q2, q3, q4, q5, q6, q7⟩, f0, f1, f2, f3, f4, f5, f6, f7⟩ := res_cells hz
   have hql := blk_lt hz
   have HZ := Aside0.mk hz
   clear hz
   go_wp2_with (first | (go_quiet (fail); clear f0 f1 f2 f3 f4 f5 f6 f7 q0 q1 q2 q3 q4 q5 q6 q7; obtain ⟨⟨q0, q1, q2, q3, q4, q5, q6, q7⟩, f0, f1, f2, f3, f4, f5, f6, f7⟩ := res_cells (show (wr.drewN nq).heap[w.heap.size + 1]? = _ from HZ.out)) | fail)
   refine bodyPost_ret (results_ct rfl _ _ (w.heap.size + 1) 154 _ (0, 0) _ rfl (set8_blk HZ.out _ _ _ _ _ _ _ _) Try.underlying154 rfl (by kernel_rfl)) rfl ⟨q, false, rfl, HFIN.out.trans rfl, fun h => absurd h (by decide), set8_below (HB.out.drewN _).below (by omega) _ _ _ _ _ _ _ _⟩
  ·have hS2 := HS.out.below HB.out.below
   have hc5 := hS2.cell 5 hS2.e5
   have hbl := blk_lt hS2.blk
   clear hS2
   by_cases hlt : q.i < X.r.length
   ·have hl1 : decide ((q.i : Int) < (X.r.length : Int)) = true := decide_eq_true (by omega)
    have HLT := Aside0.mk hlt
    obtain ⟨e0, e1, e2, e3, e4, e5, e6, e7⟩ := HB.out.pat.cells
    have HSH := Aside0.mk (show ∀ (W : World) (h : SrW X S fits W), Calls Try.prog 90 #[.pointer (some ⟨S.b, 0, none⟩), .agg (pC q)] W fun e w' => e = .returned (.tuple #[.agg (pC (shutP (rwOf X) q)), .bool (shutB (rwOf X) q)]) ∧ Below W.heap.size W w' from
     fun W h => shut_calls X S fits q W h HO.out.i hn HO.out.m (fun hl hg => HO.out.room hl hg))
    obtain ⟨q2, hq2⟩ : ∃ q2, q2 = shutP (rwOf X) q := ⟨_, rfl⟩
    obtain ⟨b2, hb2⟩ : ∃ b2, b2 = shutB (rwOf X) q := ⟨_, rfl⟩
    rw [← hq2, ← hb2] at HSH
    have HQ2 := Aside0.mk hq2
    have HB2 := Aside0.mk hb2
    clear hq2 hb2
    have hpl := blk_lt HB.out.pat
    go_wp2_with (first | (go_at_call 90; refine (HSH.out _ (HS.out.below (HB.out.drewN _).below)).mono ?_; rintro e w2 ⟨rfl, hB2⟩; unfold pC; have HB3 := Aside0.mk ((HB.out.drewN _).next hB2); clear hB2 e0 e1 e2 e3 e4 e5 e6 e7 hpl; obtain ⟨⟨e0, e1, e2, e3, e4, e5, e6, e7⟩, g0, g1, g2, g3, g4, g5, g6, g7⟩ := cells8 (show w2.heap[w.heap.size]? = some (.cells #[_, _, _, _, _, _, _, _] 154 (0, 0)) from HB3.out.pat); have hpl := blk_lt HB3.out.pat) | go_quiet (fail) | fail)
    have HP := HB3.out.put (q := q2) rfl
    refine ⟨⟨q2, b2, rfl, ⟨⟨HP, ?_, ?_⟩⟩⟩, ?_⟩
    ·rcases hbb : b2 with _ | _
     ·have h2 : shutB (rwOf X) q = false := by rw [← HB2.out]; exact hbb
      rw [HQ2.out, show shutP (rwOf X) q = q from if_neg (by rw [h2]; decide)]
      exact HO.out
     ·rw [HQ2.out]
      exact HO.out.next (by rw [← HB2.out]; exact hbb)
    ·rw [HD.out]
     simp only [if_true]
     rw [doneP_shut (show q.i < (rwOf X).n from HLT.out), ← HB2.out, ← HQ2.out]
    ·rw [mD_true HB.out]
     rcases hbb : b2 with _ | _
     ·rw [mD_false]; omega
     ·rw [mD_true HP, HQ2.out, show shutP (rwOf X) q = ⟨q.i + 1, 0, 0, 0, q.fs ++ [(q.m : Int)]⟩ from if_pos (by rw [← HB2.out]; exact hbb)]
      have := HLT.out
      show 1 + (X.r.length - (q.i + 1)) < _
      omega
   ·have hl1 : decide ((q.i : Int) < (X.r.length : Int)) = false := decide_eq_false (by omega)
    have HFIN := Aside0.mk (show doneP (rwOf X) p = some q.fs by
     rw [HD.out, if_pos rfl]
     exact doneP_end (by have := HO.out.i; show q.i = X.r.length; omega))
    have HLEN := Aside0.mk (show q.fs.length ≤ 3 by have := HO.out.g; omega)
    obtain ⟨e0, e1, e2, e3, e4, e5, e6, e7⟩ := HB.out.pat.cells
    have hpl := blk_lt HB.out.pat
    obtain ⟨z, hz⟩ := HB.out.res
    obtain ⟨⟨q0, q1, q2, q3, q4, q5, q6, q7⟩, f0, f1, f2, f3, f4, f5, f6, f7⟩ := res_cells hz
    have hql := blk_lt hz
    have HZ := Aside0.mk hz
    clear hz
    go_wp2_with (first | (go_quiet (fail); clear f0 f1 f2 f3 f4 f5 f6 f7 q0 q1 q2 q3 q4 q5 q6 q7; obtain ⟨⟨q0, q1, q2, q3, q4, q5, q6, q7⟩, f0, f1, f2, f3, f4, f5, f6, f7⟩ := res_cells (show (wr.drewN nq).heap[w.heap.size + 1]? = _ from HZ.out)) | fail)
    refine bodyPost_ret (results_ct rfl _ _ (w.heap.size + 1) 154 _ (0, 0) _ rfl (set8_blk HZ.out _ _ _ _ _ _ _ _) Try.underlying154 rfl (by kernel_rfl)) rfl ⟨q, true, rfl, HFIN.out.trans rfl, fun _ => HLEN.out, set8_below (HB.out.drewN _).below (by omega) _ _ _ _ _ _ _ _⟩
end Go.Proofs.Ytkfebceainedfaa.P.OwnGap
namespace Go.Proofs.Ytkfebceainedfaa.P.OwnGap
open Go.RowKit Go.Shelf Go.Proofs.YtkfebceainedfaaW.PrintWords Go.Proofs.YtkfebceainedfaaW.PrintLast Go.Proofs.YtkfebceainedfaaW.PrintMore
open Go.Proofs.Ytkfebceainedfaa.OwnGap
set_option linter.unusedVariables false
set_option linter.unusedSimpArgs false
structure AB (X : Lx) (S : SV) (fits : List Int) (w : World) (p : Pth) (k f : Int) (wx : World) : Prop where
 aw : AW X S fits wx
 gr : w.grownBy wx (some S.mb)
 hs : SpAt wx w.heap.size S
 hx : StAt wx (w.heap.size + 1) p k f
theorem AB.start {X : Lx} {S : SV} {fits : List Int} {w : World} (h : AW X S fits w) (p : Pth) (k f : Int) : AB X S fits w p k f ((w.alloc (.cells #[.pointer (some ⟨S.b, 0, none⟩)] 92)).alloc (.cells (stC p k f) 139)) :=
 have hb : Below w.heap.size w ((w.alloc (.cells #[.pointer (some ⟨S.b, 0, none⟩)] 92)).alloc (.cells (stC p k f) 139)) := ((Below.refl _ _).alloc (Nat.le_refl _) _).alloc (by simp) _
 ⟨h.below hb, grown_below hb _, blk_alloc (blk_new w _) _, by
  have h2 := blk_new (w.alloc (.cells #[.pointer (some ⟨S.b, 0, none⟩)] 92)) (.cells (stC p k f) 139)
  rw [World.size_alloc] at h2
  exact h2⟩
theorem AB.next {X : Lx} {S : SV} {fits : List Int} {w wx wy : World} {p : Pth} {k f : Int} (h : AB X S fits w p k f wx) (hb : Below wx.heap.size wx wy) : AB X S fits w p k f wy :=
 ⟨h.aw.below hb, grown_trans h.gr (grown_below hb _), blk_below h.hs hb, blk_below h.hx hb⟩
theorem AB.alloc {X : Lx} {S : SV} {fits : List Int} {w wx : World} {p : Pth} {k f : Int} (h : AB X S fits w p k f wx) (o : Obj) : AB X S fits w p k f (wx.alloc o) := h.next ((Below.refl _ _).alloc (Nat.le_refl _) _)
theorem AB.drewN {X : Lx} {S : SV} {fits : List Int} {w wx : World} {p : Pth} {k f : Int} (h : AB X S fits w p k f wx) (n : Nat) : AB X S fits w p k f (wx.drewN n) := h.next (pw_below_drewN (Below.refl _ _) n)
theorem AB.grown {X : Lx} {S : SV} {fits : List Int} {w wx wy : World} {p : Pth} {k f : Int} (h : AB X S fits w p k f wx) (hg : wx.grownBy wy (some S.mb)) (ha : AW X S fits wy) : AB X S fits w p k f wy :=
 ⟨ha, grown_trans h.gr hg, h.aw.keep hg h.hs, h.aw.keep hg h.hx⟩
def aliveW (X : Lx) (p : Pth) (k : Nat) (f : Int) (w : S53) : Bool := mayV X k f w.f1 && (wordF (rwOf X) [spotP p] (bytesOf w.f0)).any fun q => aliveV X q (k + 1) w.f1
theorem aliveV_words (X : Lx) (p : Pth) (k : Nat) (f : Int) : aliveV X p k f = (endV X p k f || X.l0.any (aliveW X p k f)) := aliveV_step X p k f
theorem any_take_succ {α : Type} (F : α → Bool) (l : List α) (j : Nat) (hj : j < l.length) : (l.take (j + 1)).any F = ((l.take j).any F || F l[j]) := by
 rw [List.take_add_one, List.getElem?_eq_getElem hj, List.any_append]
 simp
theorem any_of_take {α : Type} {F : α → Bool} {l : List α} {j : Nat} (h : (l.take j).any F = true) : l.any F = true := by
 rw [List.any_eq_true] at h ⊢
 obtain ⟨x, hx, h⟩ := h
 exact ⟨x, List.mem_of_mem_take hx, h⟩
theorem rd53 (l : List S53) (j : Nat) (hj : j < l.length) : rd_T53 l (j : Int) = l[j] := by
 unfold rd_T53
 simp [List.getD_eq_getElem?_getD, hj]
theorem word_full (X : Lx) (S : SV) (fits : List Int) (hX : OkX X fits) (hL : OkL X) (l : List Pth) (hl : ∀ q ∈ l, OkP X q) (hn : cntL (rwOf X) l 8 ≤ 1000000000) (j : Nat) (hj : j < X.l0.length) (A : Option Addr) (c : Nat) (hlc : l.length ≤ c) (w : World) (hS : SrW X S fits w) (hrow : Kd.C kP w A l.length l) :
  Calls Try.prog 99 #[.pointer (some ⟨S.b, 0, none⟩), .slice A l.length c, .string (rd_T53 X.l0 (j : Int)).f0] w fun e w' => ∃ v, e = .returned v ∧ PR w w' v (wordF (rwOf X) l (bytesOf (rd_T53 X.l0 (j : Int)).f0)) ∧ Below w.heap.size w w' := by
 have h1 := hL.wd j hj
 have h2 := hL.lt j hj
 exact word_calls X S fits hX.n ⟨fun a h3 h4 p w hS hO => letter_calls X S fits ⟨hX⟩ a h3 h4 _ p w rfl hS hO⟩ _ h1.1 (by omega) ⟨h2⟩ A c l hlc w hS hrow ⟨wk_ok hX l hl hn _ h1.2.1 h2⟩
theorem word_okP {X : Lx} {fits : List Int} (hX : OkX X fits) (hL : OkL X) (l : List Pth) (hl : ∀ q ∈ l, OkP X q) (j : Nat) (hj : j < X.l0.length) : ∀ q ∈ wordF (rwOf X) l (bytesOf (rd_T53 X.l0 (j : Int)).f0), OkP X q :=
 wordF_ok X hX.ww _ l (take_bytes (hL.lt j hj)) hl
theorem word_len {X : Lx} {fits : List Int} (hX : OkX X fits) (hL : OkL X) (l : List Pth) (hl : ∀ q ∈ l, OkP X q) (hn : cntL (rwOf X) l 8 ≤ 1000000000) (j : Nat) (hj : j < X.l0.length) : (wordF (rwOf X) l (bytesOf (rd_T53 X.l0 (j : Int)).f0)).length ≤ 1000000000 := by
 have h := (wk_ok hX l hl hn (rd_T53 X.l0 (j : Int)).f0 (hL.wd j hj).2.1 (hL.lt j hj) _ (Nat.le_refl _)).1
 rwa [wk_all] at h
theorem keyOf_spot {X : Lx} {fits : List Int} (hX : OkX X fits) (hL : OkL X) {p : Pth} (hp : OkP X (spotP p)) {f : Int} (hf0 : 0 ≤ f) (hf1 : f < X.l1.length) (k : Nat) (hk : k ≤ 8) : ∃ t, Go.keyOf Try.prog 139 (stV p.i p.m p.l p.h (k : Int) f) = some t := by
 have h1 : p.i ≤ X.r.length := hp.i
 have h2 : p.m ≤ 10 := hp.m
 have h3 : 0 ≤ p.l := hp.l0
 have h4 : p.l ≤ p.m * 1000 := hp.l1
 have h5 : 0 ≤ p.h := hp.h0
 have h6 : p.h ≤ p.m * 1000 := hp.h1
 have h7 := hX.n
 have h8 := hL.f8
 refine keyOf_state _ _ _ _ _ _ ?_ ?_ ?_ ?_ ?_ ?_ <;> (unfold w64; omega)
set_option maxHeartbeats 4000000 in
set_option maxRecDepth 100000 in
theorem alive_step (X : Lx) (S : SV) (fits : List Int) (hX : OkX X fits) (hL : OkL X) (k : Nat) (hk : k ≤ 8) (hRec : k < 8 → Rec X S fits (k + 1) ((k : Int) + 1)) : Rec X S fits k (k : Int) := by
 intro p f hf0 hf1 hp w hw
 have HX := Aside0.mk hX
 have HL := Aside0.mk hL
 have HREC := Aside0.mk hRec
 have HP := Aside0.mk hp
 have HS := Aside0.mk (AB.start hw p (k : Int) f)
 obtain ⟨lit, hlit⟩ := keyOf_spot hX hL hp hf0 hf1 k hk
 have HLIT := Aside0.mk hlit
 obtain ⟨av, hav⟩ : ∃ av, av = aliveV X p k f := ⟨_, rfl⟩
 have HAV := Aside0.mk hav
 rw [← hav]
 clear hX hL hRec hp hw hlit hav
 unfold stC
 go_enter Try.func102, Try.ntmps102
 go_upto_region 1 with fail
 refine wp_gen (fun wx => Aside0 (AB X S fits w p (k : Int) f wx)) HS ?_
 clear HS
 rintro wx HB
 have hs := HB.out.hs.cell
 have hl1 := blk_lt HB.out.hs
 obtain ⟨x0, x1, x2, x3, x4, x5⟩ := HB.out.hx.cells
 have hl2 := blk_lt HB.out.hx
 have e59 := HB.out.aw.sr.cell 59 HB.out.aw.sr.em
 have hl3 := blk_lt HB.out.aw.sr.blk
 have hz : (zeroValue 4).run Try.prog wx.drew = .ok (.bool false) wx.drew := by kernel_rfl
 obtain ⟨v, b, hlook, hv⟩ := (HB.out.aw.memo.keep (W' := wx.drew) rfl).look law139 (T := 126) (by kernel_rfl) hz HLIT.out
 have hlk := hlook true
 simp only [if_true, stV] at hlk
 clear hlook hz
 have HV := Aside0.mk hv
 clear hv
 go_region
 refine wp_gen' (fun wy => Aside0 (AB X S fits w p (k : Int) f wy)) ⟨HB.out.next ((Below.refl _ _).drew)⟩ ?_
 clear hs hl1 x0 x1 x2 x3 x4 x5 hl2 e59 hl3 hlk
 have HV2 := Aside0.mk (show (b = true ∧ v = .bool av) ∨ (b = false ∧ v = .bool false) by
  rcases HV.out with ⟨h1, h2, _⟩ | ⟨h1, h2, _⟩
  ·exact .inl ⟨h1, by rw [HAV.out]; exact h2.at_key⟩
  ·exact .inr ⟨h1, h2⟩)
 clear HB HV
 rintro wy HB
 clear wx
 rcases HV2.out with ⟨rfl, rfl⟩ | ⟨rfl, rfl⟩
 ·clear HV2
  go_wp2_with fail
  go_ret
  exact ⟨rfl, HB.out.aw, HB.out.gr⟩
 clear HV2
 obtain ⟨lb, hlb⟩ : ∃ lb, lb = (decide (0 < k) && rdOf false X.l2 f) := ⟨_, rfl⟩
 have HLB := Aside0.mk hlb
 clear hlb
 go_upto_region 5 with fail
 go_cut [7, 34] (fun s7 s34 wx => s7 = .bool false ∧ s34 = .bool lb ∧ Aside0 (AB X S fits w p (k : Int) f wx))
 case first =>
  have hs := HB.out.hs.cell
  have hl1 := blk_lt HB.out.hs
  obtain ⟨x0, x1, x2, x3, x4, x5⟩ := HB.out.hx.cells
  have hl2 := blk_lt HB.out.hx
  by_cases hk0 : k = 0
  ·have hd1 : decide (0 < k) = false := decide_eq_false (by omega)
   have HE := Aside0.mk (show lb = false by rw [HLB.out, hd1]; rfl)
   clear hk0
   go_wp2_with first | go_quiet (fail) | fail
   refine Met.intro ?_
   go_step
   (repeat apply Exists.intro)
   refine ⟨?_, rfl⟩
   exact ⟨rfl, by rw [HE.out], ⟨HB.out.drewN _⟩⟩
  ·have hd1 : decide (0 < k) = true := decide_eq_true (by omega)
   have hfl : f < (X.l2.length : Int) := by rw [HL.out.l2]; exact hf1
   obtain ⟨a2, eA2, y2⟩ := Kd.at_bool HB.out.aw.sr.h2 f hf0 hfl
   have c2 := HB.out.aw.sr.cell 2 HB.out.aw.sr.e2
   rw [eA2] at c2
   have hl3 := blk_lt HB.out.aw.sr.blk
   have hl4 := World.block_lt_of_cell? wy _ y2
   have HE := Aside0.mk (show lb = rdOf false X.l2 f by rw [HLB.out, hd1]; rfl)
   rw [← HE.out] at y2
   clear hk0 eA2
   go_wp2_with first | go_quiet (fail) | fail
   refine Met.intro ?_
   go_step
   (repeat apply Exists.intro)
   refine ⟨?_, rfl⟩
   exact ⟨rfl, rfl, ⟨HB.out.drewN _⟩⟩
 case rest =>
  obtain ⟨rfl, rfl, HB1⟩ := hcut
  clear HB
  obtain ⟨eb, heb⟩ : ∃ eb, eb = endV X p k f := ⟨_, rfl⟩
  have HEB := Aside0.mk heb
  clear heb
  go_upto_if 34 with fail
  go_cut [7] (fun s7 wx => s7 = .bool eb ∧ Aside0 (AB X S fits w p (k : Int) f wx))
  case first =>
   cases lb with
   | false =>
    have HE := Aside0.mk (show eb = false by rw [HEB.out]; unfold endV; rw [← Bool.and_assoc, ← HLB.out]; rfl)
    go_wp2_with fail
    refine Met.intro ?_
    go_step
    (repeat apply Exists.intro)
    refine ⟨?_, rfl⟩
    exact ⟨by rw [HE.out], HB1⟩
   | true =>
    have HD := Aside0.mk (fun (W : World) (h : SrW X S fits W) => show Calls Try.prog 97 #[.pointer (some ⟨S.b, 0, none⟩), .agg #[.int .i64 (p.i : Int), .int .i64 (p.m : Int), .int .i64 p.l, .int .i64 p.h, .int .i64 0, .int .i64 0, .int .i64 0, .int .i64 0]] W (DoneOut X (spotP p) W) from
     done_calls X S fits HX.out.n (spotP p) W h ⟨HP.out.i, by have := HP.out.m; omega, HP.out.g⟩)
    have hs := HB1.out.hs.cell
    have hl1 := blk_lt HB1.out.hs
    obtain ⟨x0, x1, x2, x3, x4, x5⟩ := HB1.out.hx.cells
    have hl2 := blk_lt HB1.out.hx
    go_wp2_with (go_at_call 97; refine (HD.out _ HB1.out.aw.sr).mono ?_; rintro e w2 ⟨q, db, rfl, hd, -, hB2⟩; have HB2 := Aside0.mk (HB1.out.next hB2); have HDB := Aside0.mk hd; clear hd hB2; unfold pC)
    refine Met.intro ?_
    go_step
    (repeat apply Exists.intro)
    refine ⟨?_, rfl⟩
    refine ⟨?_, HB2⟩
    rw [HEB.out]
    unfold endV
    rw [← Bool.and_assoc, ← HLB.out, HDB.out]
    cases db <;> rfl
  case rest =>
   obtain ⟨rfl, HB⟩ := hcut
   clear HB1
   have hs := HB.out.hs.cell
   have hl1 := blk_lt HB.out.hs
   have c0 := HB.out.aw.sr.cell 0 HB.out.aw.sr.e0
   obtain ⟨A0v, hA0v⟩ : ∃ A, A = S.A0 := ⟨_, rfl⟩
   rw [← hA0v] at c0
   have HA0 := Aside0.mk hA0v
   clear hA0v
   have hl3 := blk_lt HB.out.aw.sr.blk
   go_upto_block 0 with fail
   clear hs hl1 c0 hl3
   go_cut [7] (fun s7 wx => s7 = .bool av ∧ Aside0 (AB X S fits w p (k : Int) f wx))
   case first =>
    go_wp2_with fail
    go_loopg [7, 49] X.l0.length (fun n s7 s49 wr => ∃ j : Nat, j + n = X.l0.length ∧ s49 = .int .i64 (j : Int) ∧ s7 = .bool (eb || (X.l0.take j).any (aliveW X p k f)) ∧ Aside0 (AB X S fits w p (k : Int) f wr))
    case atStart => exact ⟨0, by omega, rfl, by simp, HB⟩
    case round =>
     clear HB
     obtain ⟨j, hjn, rfl, rfl, HB⟩ := hrel
     have HJN := Aside0.mk hjn
     clear hjn
     obtain ⟨ib, hib⟩ : ∃ ib, ib = (eb || (X.l0.take j).any (aliveW X p k f)) := ⟨_, rfl⟩
     rw [← hib]
     have HIB := Aside0.mk hib
     clear hib
     by_cases hj : j < X.l0.length
     ·have hn0 : (X.l0.length : Int) ≤ 1000 := by have := HL.out.n0; omega
      have hjz : (j : Int) < (X.l0.length : Int) := by omega
      have hjd : decide (j < X.l0.length) = true := decide_eq_true hj
      obtain ⟨a0, eA0, y0, y1⟩ := at_T53 HB.out.aw.sr.h0 (j : Int) (by omega) (by omega)
      simp only [Int.toNat_natCast] at y0 y1
      obtain ⟨wd, hwd⟩ : ∃ wd, wd = rd_T53 X.l0 (j : Int) := ⟨_, rfl⟩
      rw [← hwd] at y0 y1
      have HWD := Aside0.mk hwd
      rw [← HA0.out] at eA0
      subst eA0
      clear hwd
      have hl4 := World.block_lt_of_cell? wr _ y0
      go_upto_region 10 with fail
      obtain ⟨bw, hbw⟩ : ∃ b, b = wr.heap.size := ⟨_, rfl⟩
      refine wp_gen (fun wx => Aside0 (AB X S fits w p (k : Int) f wx) ∧ Aside0 (WdAt wx bw wd)) ⟨⟨HB.out.alloc _⟩, ⟨by rw [hbw]; exact blk_new wr _⟩⟩ ?_
      rw [← hbw]
      clear hbw HB y0 y1 hl4
      rintro wx ⟨HB, HBW⟩
      clear wr
      have HTS := Aside0.mk (show (eb || (X.l0.take (j + 1)).any (aliveW X p k f)) = (ib || aliveW X p k f wd) by
       rw [any_take_succ _ _ _ hj, ← Bool.or_assoc, ← HIB.out, HWD.out, rd53 _ _ hj])
      have HJ := Aside0.mk hj
      cases ib with
      | true =>
       have HA := Aside0.mk (show true = av by
        rw [HAV.out, aliveV_words, ← HEB.out]
        have h1 := HIB.out
        cases heb2 : eb with
        | true => rfl
        | false =>
         rw [heb2, Bool.false_or] at h1
         rw [any_of_take h1.symm]
         rfl)
       go_wp2_with fail
       refine Met.intro ?_
       go_step
       (repeat apply Exists.intro)
       refine ⟨?_, rfl⟩
       exact ⟨by rw [HA.out], HB⟩
      | false =>
       have hs := HB.out.hs.cell
       have hl1 := blk_lt HB.out.hs
       obtain ⟨x0, x1, x2, x3, x4, x5⟩ := HB.out.hx.cells
       have hl2 := blk_lt HB.out.hx
       obtain ⟨w0, w1⟩ := HBW.out.cells
       have hl3 := blk_lt HBW.out
       have h5 := HL.out.wd j hj
       rw [← HWD.out] at h5
       obtain ⟨h5a, h5b, h5c, h5d⟩ := h5
       have HMY := Aside0.mk (fun (W : World) (h : SrW X S fits W) => may_calls X S fits (p.i : Int) (p.m : Int) p.l p.h k f wd.f1 W h h5c h5d hf0 (by rw [HL.out.l3]; exact hf1) (by rw [HL.out.l3r f hf0 hf1]; exact h5d) (by omega))
       obtain ⟨mv, hmv⟩ : ∃ mv, mv = mayV X k f wd.f1 := ⟨_, rfl⟩
       rw [← hmv] at HMY
       have HMV := Aside0.mk hmv
       clear hmv
       have HAW := Aside0.mk (show aliveW X p k f wd = (mv && (wordF (rwOf X) [spotP p] (bytesOf wd.f0)).any fun q => aliveV X q (k + 1) wd.f1) by rw [HMV.out]; rfl)
       cases mv with
       | false =>
        go_wp2_with (go_at_call 80; refine (HMY.out _ HB.out.aw.sr).mono ?_; rintro e w2 ⟨rfl, hB2⟩; have HB2 := Aside0.mk (HB.out.next hB2); clear hB2)
        go_roundg (gk - 1)
        case measure => have := HJN.out; have := HJ.out; omega
        case rel => exact ⟨j + 1, by have := HJN.out; have := HJ.out; omega, by go_num, by rw [HTS.out, HAW.out]; rfl, HB2⟩
       | true =>
        have hk8 : k < 8 := by
         by_cases h : k < 8
         ·exact h
         ·have h2 := HMV.out
          rw [mayV_full (by omega)] at h2
          cases h2
        have HR := Aside0.mk (HREC.out hk8)
        have hok : ∀ q ∈ [spotP p], OkP X q := fun q hq => by rw [List.mem_singleton] at hq; subst hq; exact HP.out
        have hcn := Nat.le_trans (cnt_one HP.out 8 (by omega)) (show 1030301 ≤ 1000000000 by omega)
        obtain ⟨ls, hls⟩ : ∃ ls, ls = wordF (rwOf X) [spotP p] (bytesOf wd.f0) := ⟨_, rfl⟩
        have HLOK := Aside0.mk (show ∀ q ∈ ls, OkP X q by rw [hls, HWD.out]; exact word_okP HX.out HL.out _ hok j hj)
        have HLLN := Aside0.mk (show ls.length ≤ 1000000000 by rw [hls, HWD.out]; exact word_len HX.out HL.out _ hok hcn j hj)
        have HWF := Aside0.mk (fun (W : World) (b : Nat) (h : AW X S fits W) (hb : PAt W b (spotP p)) => show Calls Try.prog 99 #[.pointer (some ⟨S.b, 0, none⟩), .slice (some ⟨b, 0, none⟩) 1 1, .string wd.f0] W fun e w' => ∃ v, e = .returned v ∧ PR W w' v ls ∧ Below W.heap.size W w' by
         rw [hls, HWD.out]
         exact word_full X S fits HX.out HL.out [spotP p] hok hcn j hj (some ⟨b, 0, none⟩) 1 (Nat.le_refl _) W h.sr (C_one hb))
        rw [← hls] at HAW
        have hln := HLLN.out
        clear hls hok hcn
        go_wp2_with (first
         | (go_at_call 80; refine (HMY.out _ HB.out.aw.sr).mono ?_; rintro e w2 ⟨rfl, hB2⟩; have HB2 := Aside0.mk (HB.out.next hB2); have HBW2 := Aside0.mk (show WdAt w2 bw wd from blk_below HBW.out hB2); clear hB2 hs hl1 x0 x1 x2 x3 x4 x5 hl2 w0 w1 hl3; have hs := HB2.out.hs.cell; have hl1 := blk_lt HB2.out.hs; obtain ⟨x0, x1, x2, x3, x4, x5⟩ := HB2.out.hx.cells; have hl2 := blk_lt HB2.out.hx; obtain ⟨w0, w1⟩ := HBW2.out.cells; have hl3 := blk_lt HBW2.out)
         | (go_at_call 99; refine (HWF.out _ _ (HB2.out.alloc _).aw (blk_new w2 _)).mono ?_; rintro e w3 ⟨v, rfl, hv, hB3⟩; obtain ⟨Av, cv, rfl, hcv, hrv⟩ := Kd.R_reads hv; have HB3 := Aside0.mk ((HB2.out.alloc _).next hB3); have HBW3 := Aside0.mk (show WdAt w3 bw wd from blk_below (blk_alloc HBW2.out _) hB3); have HRV := Aside0.mk hrv; clear hB3 hv hrv))
        have HRW := Aside0.mk (fun (W : World) (hg : w3.grownBy W (some S.mb)) => C_same (d := kP) (W := w3) (W' := W) (fun _ _ h => h) (HB3.out.aw.same hg) HRV.out)
        have HCT := Aside0.mk (contains_calls 109 #[.pointer (some ⟨w.heap.size, 0, none⟩), .pointer (some ⟨w.heap.size + 1, 0, none⟩), .pointer (some ⟨bw, 0, none⟩)] (enters_of Try.func109 (by kernel_rfl) rfl) (fun q => aliveV X q (k + 1) wd.f1)
         (fun W => C9 X S fits w.heap.size (w.heap.size + 1) bw p (k : Int) f wd W ∧ w3.grownBy W (some S.mb)) Av cv ls hln w3 ⟨⟨HB3.out.aw, HB3.out.hs, HB3.out.hx, HBW3.out⟩, grown_below (Below.refl _ _) _⟩ (fun W hW => HRW.out W hW.2)
         (fun q hq W hW => (fun109_calls X S fits w.heap.size (w.heap.size + 1) bw p k f hk wd h5c h5d HR.out q (HLOK.out q hq) W hW.1).mono (fun e W' h => ⟨h.1, hW.1.grown h.2.2 h.2.1, grown_trans hW.2 h.2.2⟩)))
        obtain ⟨ab, hab⟩ : ∃ ab, ab = ls.any fun q => aliveV X q (k + 1) wd.f1 := ⟨_, rfl⟩
        rw [← hab] at HCT HAW
        clear hab
        go_at_call 108
        refine HCT.out.mono ?_
        rintro e w4 ⟨rfl, hC4, hG4⟩
        have HB4 := Aside0.mk (HB3.out.grown hG4 hC4.aw)
        clear hC4 hG4
        go_wp2_with fail
        go_roundg (gk - 1)
        case measure => have := HJN.out; have := HJ.out; omega
        case rel => exact ⟨j + 1, by have := HJN.out; have := HJ.out; omega, by go_num, by rw [HTS.out, HAW.out]; rfl, HB4⟩
     ·have hn0 : (X.l0.length : Int) ≤ 1000 := by have := HL.out.n0; omega
      have hjz : ¬ (j : Int) < (X.l0.length : Int) := by omega
      have hjd : decide (j < X.l0.length) = false := decide_eq_false hj
      have HA := Aside0.mk (show ib = av by rw [HIB.out, HAV.out, aliveV_words, ← HEB.out, List.take_of_length_le (by omega)])
      go_wp2_with fail
      refine Met.intro ?_
      go_step
      (repeat apply Exists.intro)
      refine ⟨?_, rfl⟩
      exact ⟨by rw [HA.out], HB⟩
   case rest =>
    obtain ⟨rfl, HB1⟩ := hcut
    clear HB
    have HBD := Aside0.mk (HB1.out.next ((Below.refl _ _).drew))
    obtain ⟨o, hupd, hm1, -, -⟩ := HBD.out.aw.memo.update law139 (T := 126) (E := 4) (val := .bool av) (by kernel_rfl) HLIT.out ⟨p, k, f, rfl, by rw [HAV.out]⟩
    have HM1 := Aside0.mk hm1
    simp only [stV] at hupd
    clear hm1
    have hs := HB1.out.hs.cell
    have hl1 := blk_lt HB1.out.hs
    obtain ⟨x0, x1, x2, x3, x4, x5⟩ := HB1.out.hx.cells
    have hl2 := blk_lt HB1.out.hx
    have e59 := HB1.out.aw.sr.cell 59 HB1.out.aw.sr.em
    have hl3 := blk_lt HB1.out.aw.sr.blk
    go_upto_region 14 with fail
    go_region
    go_wp2_with fail
    go_ret
    exact ⟨rfl, HBD.out.aw.put o HM1.out, grown_trans HBD.out.gr (grown_put _ _ _)⟩
theorem alive_calls (X : Lx) (S : SV) (fits : List Int) (hX : OkX X fits) (hL : OkL X) : ∀ (n k : Nat), k + n = 8 → Rec X S fits k (k : Int)
 | 0, k, hk => alive_step X S fits hX hL k (by omega) (fun h => by omega)
 | n + 1, k, hk => alive_step X S fits hX hL k (by omega) (fun h => by
  have := alive_calls X S fits hX hL n (k + 1) (by omega)
  rwa [show ((k + 1 : Nat) : Int) = (k : Int) + 1 by omega] at this)
end Go.Proofs.Ytkfebceainedfaa.P.OwnGap
namespace Go.Proofs.Ytkfebceainedfaa.P.OwnGap
open Go.RowKit Go.Shelf Go.Proofs.YtkfebceainedfaaW.PrintWords Go.Proofs.YtkfebceainedfaaW.PrintLast Go.Proofs.YtkfebceainedfaaW.PrintMore
open Go.Proofs.Ytkfebceainedfaa.OwnGap
set_option linter.unusedVariables false
set_option linter.unusedSimpArgs false
abbrev Fil := List Int × List Int
def fillK (X : Lx) (ws : List Int) (f : Int) (l : List Pth) : List Fil := fillF X (8 - ws.length) ws f l
def fillW (X : Lx) (ws : List Int) (f : Int) (l : List Pth) (x : S53 × Nat) : List Fil :=
 if mayV X ws.length f x.1.f1 = true then fillK X (ws ++ [(x.2 : Int)]) x.1.f1 ((wordF (rwOf X) l (bytesOf x.1.f0)).filter fun q => aliveV X q (ws.length + 1) x.1.f1) else []
theorem fillK_step (X : Lx) (ws : List Int) (f : Int) (l : List Pth) (hw : ws.length ≤ 8) : fillK X ws f l = endsF X ws f l ++ (X.l0.zipIdx).flatMap (fillW X ws f l) := by
 unfold fillK
 by_cases h8 : ws.length < 8
 ·obtain ⟨d, hd⟩ : ∃ d, 8 - ws.length = d + 1 := ⟨7 - ws.length, by omega⟩
  rw [hd, fillF]
  congr 1
  apply flatMap_eq
  intro x _
  unfold fillW fillK aliveV
  rw [List.length_append, List.length_singleton, show 8 - (ws.length + 1) = d by omega]
 ·rw [show 8 - ws.length = 0 by omega, fillF]
  have : (X.l0.zipIdx).flatMap (fillW X ws f l) = [] := by
   rw [List.flatMap_eq_nil_iff]
   intro x _
   unfold fillW
   rw [mayV_full (by omega)]
   rfl
  rw [this, List.append_nil]
def fillsTo (X : Lx) (ws : List Int) (f : Int) (l : List Pth) (j : Nat) : List Fil := ((X.l0.zipIdx).take j).flatMap (fillW X ws f l)
theorem fillsTo_zero (X : Lx) (ws : List Int) (f : Int) (l : List Pth) : fillsTo X ws f l 0 = [] := rfl
theorem fillsTo_succ (X : Lx) (ws : List Int) (f : Int) (l : List Pth) (j : Nat) (hj : j < X.l0.length) : fillsTo X ws f l (j + 1) = fillsTo X ws f l j ++ fillW X ws f l (rd_T53 X.l0 (j : Int), j) := by
 unfold fillsTo
 rw [List.take_add_one, List.flatMap_append]
 have h : (X.l0.zipIdx)[j]? = some (rd_T53 X.l0 (j : Int), j) := by
  rw [List.getElem?_zipIdx, List.getElem?_eq_getElem hj, rd53 _ _ hj]
  simp
 rw [h]
 simp
theorem fillsTo_all (X : Lx) (ws : List Int) (f : Int) (l : List Pth) (j : Nat) (hj : X.l0.length ≤ j) (hw : ws.length ≤ 8) : fillK X ws f l = endsF X ws f l ++ fillsTo X ws f l j := by
 rw [fillK_step X ws f l hw]
 unfold fillsTo
 rw [List.take_of_length_le (by rw [List.length_zipIdx]; exact hj)]
def endsTo (X : Lx) (ws : List Int) (l : List Pth) (j : Nat) : List Fil := ((l.take j).filterMap (doneP (rwOf X))).map fun fs => (ws, fs)
theorem endsTo_succ (X : Lx) (ws : List Int) (l : List Pth) (j : Nat) (hj : j < l.length) : endsTo X ws l (j + 1) = endsTo X ws l j ++ (match doneP (rwOf X) (l.getD j zP) with | some fs => [(ws, fs)] | none => []) := by
 unfold endsTo
 rw [List.take_add_one, List.filterMap_append, List.map_append, List.getElem?_eq_getElem hj, List.getD_eq_getElem?_getD, List.getElem?_eq_getElem hj]
 congr 1
 simp only [Option.toList, Option.getD_some, List.filterMap_cons, List.filterMap_nil]
 cases doneP (rwOf X) l[j] <;> rfl
theorem endsTo_all (X : Lx) (ws : List Int) (f : Int) (l : List Pth) (j : Nat) (hj : l.length ≤ j) (hc : (decide (0 < ws.length) && rdOf false X.l2 f) = true) : endsF X ws f l = endsTo X ws l j := by
 unfold endsF endsTo
 rw [if_pos hc, List.take_of_length_le hj]
theorem endsF_none (X : Lx) (ws : List Int) (f : Int) (l : List Pth) (hc : (decide (0 < ws.length) && rdOf false X.l2 f) = false) : endsF X ws f l = [] := by
 unfold endsF
 rw [if_neg (by rw [hc]; decide)]
structure KpF (n0 : Nat) (W W' : World) : Prop where
 os : W'.os = W.os
 tape : W'.tape = W.tape
 output : W'.output = W.output
 size : W.heap.size ≤ W'.heap.size
 block : ∀ (k : Nat) (o : Obj), W.heap[k]? = some o → (k < n0 ∨ ∃ c t fr, o = .cells c t fr ∧ t ≠ 31 ∧ t ≠ 37) → W'.heap[k]? = some o
structure WK (n0 mb : Nat) (W W' : World) : Prop where
 os : W'.os = W.os
 tape : W'.tape = W.tape
 output : W'.output = W.output
 size : W.heap.size ≤ W'.heap.size
 block : ∀ (k : Nat) (o : Obj), W.heap[k]? = some o → k ≠ mb → (k < n0 ∨ ∃ c t fr, o = .cells c t fr ∧ t ≠ 31 ∧ t ≠ 37) → W'.heap[k]? = some o
section
variable {n0 mb : Nat} {W W' W'' : World}
theorem KpF.refl (n0 : Nat) (W : World) : KpF n0 W W := ⟨rfl, rfl, rfl, Nat.le_refl _, fun _ _ h _ => h⟩
theorem KpF.trans (h : KpF n0 W W') (k : KpF n0 W' W'') : KpF n0 W W'' := ⟨k.os.trans h.os, k.tape.trans h.tape, k.output.trans h.output, Nat.le_trans h.size k.size, fun i o h1 h2 => k.block i o (h.block i o h1 h2) h2⟩
theorem KpF.of_below (h : Below W.heap.size W W') : KpF n0 W W' := ⟨h.os, h.tape, h.output, h.size, fun k o h1 _ => (h.block k (Array.getElem?_eq_some_iff.1 h1).1).trans h1⟩
theorem WK.refl (n0 mb : Nat) (W : World) : WK n0 mb W W := ⟨rfl, rfl, rfl, Nat.le_refl _, fun _ _ h _ _ => h⟩
theorem WK.trans (h : WK n0 mb W W') (k : WK n0 mb W' W'') : WK n0 mb W W'' := ⟨k.os.trans h.os, k.tape.trans h.tape, k.output.trans h.output, Nat.le_trans h.size k.size, fun i o h1 h2 h3 => k.block i o (h.block i o h1 h2 h3) h2 h3⟩
theorem WK.of_grown (h : W.grownBy W' (some mb)) : WK n0 mb W W' := ⟨h.os, h.tape, h.output, h.size, fun k o h1 h2 _ => (h.block k (Array.getElem?_eq_some_iff.1 h1).1 (fun e => h2 (by injection e))).trans h1⟩
theorem WK.of_below (h : Below W.heap.size W W') : WK n0 mb W W' := WK.of_grown (grown_below h _)
theorem WK.of_kp (h : KpF n0 W W') : WK n0 mb W W' := ⟨h.os, h.tape, h.output, h.size, fun k o h1 _ h3 => h.block k o h1 h3⟩
theorem WK.km (h : WK n0 mb W W') (hn : n0 ≤ W.heap.size) : KM n0 mb W W' := ⟨h.os, h.tape, h.output, h.size, fun k h1 h2 => by
 obtain ⟨o, ho⟩ : ∃ o, W.heap[k]? = some o := ⟨_, Array.getElem?_eq_getElem (by omega)⟩
 rw [ho]
 exact h.block k o ho h2 (.inl h1)⟩
theorem WK.cells (h : WK n0 mb W W') {b : Nat} {c : Array Value} {t : TypeId} {fr : Nat × Nat} (hb : W.heap[b]? = some (.cells c t fr)) (hm : b ≠ mb) (h1 : t ≠ 31) (h2 : t ≠ 37) : W'.heap[b]? = some (.cells c t fr) := h.block b _ hb hm (.inr ⟨c, t, fr, rfl, h1, h2⟩)
structure Rd {α : Type} (d : Kd α) (t : TypeId) (W : World) (A : Option Addr) (xs : List α) : Prop where
 c : d.C W A xs.length xs
 t : ∀ ad, A = some ad → 0 < xs.length → ∃ c fr, W.heap[ad.block]? = some (.cells c t fr)
theorem Rd.wk {α : Type} {d : Kd α} {t : TypeId} {A : Option Addr} {xs : List α} (hK : ∀ x cs, d.K W x cs → d.K W' x cs) (h1 : t ≠ 31) (h2 : t ≠ 37) (hm : ∃ es ck, W.heap[mb]? = some (.map es ck)) (h : Rd d t W A xs) (hk : WK n0 mb W W') : Rd d t W' A xs := by
 have hb : ∀ ad, A = some ad → 0 < xs.length → W'.heap[ad.block]? = W.heap[ad.block]? := by
  intro ad he hn
  obtain ⟨c, fr, hb⟩ := h.t ad he hn
  rw [hb]
  refine hk.cells hb ?_ h1 h2
  intro e
  obtain ⟨es, ck, hm⟩ := hm
  rw [e, hm] at hb
  simp at hb
 refine ⟨⟨h.c.1, h.c.2.1, fun hn => ?_⟩, fun ad he hn => ?_⟩
 ·obtain ⟨ad, he, hc⟩ := h.c.2.2 hn
  refine ⟨ad, he, fun j p hj => ?_⟩
  obtain ⟨cs, q1, q2, q3⟩ := hc j p hj
  refine ⟨cs, q1, hK _ _ q2, fun i u hu => ?_⟩
  rw [World.cell?_of_block (w := W) (w' := W') (by rw [add_block]; exact hb ad he hn)]
  exact q3 i u hu
 ·obtain ⟨c, fr, hc⟩ := h.t ad he hn
  exact ⟨c, fr, (hb ad he hn).trans hc⟩
theorem Rd.of_R {α : Type} {d : Kd α} {t base : Nat} {ok : Nat → Prop} {v : Value} {xs : List α} (h : d.R t W base ok v xs) : ∃ A c, v = .slice A xs.length c ∧ xs.length ≤ c ∧ Rd d t W A xs := by
 obtain ⟨A, c, rfl, hc, hC⟩ := Kd.R_reads h
 refine ⟨A, c, rfl, hc, hC, fun ad he hn => ?_⟩
 obtain ⟨cells, hb⟩ := Kd.R_typed h ad.block (by rw [he]; rfl)
 exact ⟨cells, _, hb⟩
theorem Rd.below {α : Type} {d : Kd α} {t : TypeId} {A : Option Addr} {xs : List α} (h : Rd d t W A xs) (hb : Below W.heap.size W W') : Rd d t W' A xs :=
 ⟨Kd.C_below h.c hb, fun ad he hn => by
  obtain ⟨c, fr, hc⟩ := h.t ad he hn
  exact ⟨c, fr, blk_below hc hb⟩⟩
end
def capF (bs byy bn : Nat) : Array Value := #[.pointer (some ⟨bs, 0, none⟩), .pointer (some ⟨byy, 0, none⟩), .pointer (some ⟨bn, 0, none⟩)]
structure FW (X : Lx) (S : SV) (fits : List Int) (w0 : World) (lr bs byy bn : Nat) (W : World) : Prop where
 km : KM w0.heap.size S.mb w0 W
 memo : MemoAt Try.prog 139 (AliveR X) W S.mb
 hs : SpAt W bs S
 hy : W.heap[byy]? = some (.cells #[.func (.yield lr) #[] #[]] 97 (0, 0))
 hn : W.heap[bn]? = some (.cells #[.func (.func 96) #[] (capF bs byy bn)] 161 (0, 0))
section
variable {X : Lx} {S : SV} {fits : List Int} {w0 W W' : World} {lr bs byy bn : Nat}
theorem FW.aw (h : FW X S fits w0 lr bs byy bn W) (h0 : AW X S fits w0) : AW X S fits W := h0.km h.km h.memo
theorem FW.map (h : FW X S fits w0 lr bs byy bn W) : ∃ es ck, W.heap[S.mb]? = some (.map es ck) := by
 obtain ⟨es, ck, hb, _⟩ := h.memo
 exact ⟨es, ck, hb⟩
theorem FW.ne (h : FW X S fits w0 lr bs byy bn W) {b : Nat} {cs : Array Value} {t : TypeId} {fr : Nat × Nat} (hb : W.heap[b]? = some (.cells cs t fr)) : b ≠ S.mb := by
 rintro rfl
 obtain ⟨es, ck, hm⟩ := h.map
 rw [hb] at hm
 simp at hm
theorem FW.wk (h : FW X S fits w0 lr bs byy bn W) (hk : WK w0.heap.size S.mb W W') (hm : MemoAt Try.prog 139 (AliveR X) W' S.mb) : FW X S fits w0 lr bs byy bn W' :=
 ⟨h.km.trans (hk.km h.km.size), hm, hk.cells h.hs (h.ne h.hs) (by decide) (by decide), hk.cells h.hy (h.ne h.hy) (by decide) (by decide), hk.cells h.hn (h.ne h.hn) (by decide) (by decide)⟩
theorem FW.mlt (h : FW X S fits w0 lr bs byy bn W) : S.mb < W.heap.size := by
 obtain ⟨es, ck, hb⟩ := h.map
 exact (Array.getElem?_eq_some_iff.1 hb).1
theorem FW.below (h : FW X S fits w0 lr bs byy bn W) (hb : Below W.heap.size W W') : FW X S fits w0 lr bs byy bn W' := h.wk (WK.of_below hb) (h.memo.keep (hb.block S.mb h.mlt))
theorem FW.kp (h : FW X S fits w0 lr bs byy bn W) (h0 : AW X S fits w0) (hk : KpF w0.heap.size W W') : FW X S fits w0 lr bs byy bn W' := by
 obtain ⟨es, ck, hb⟩ := h.map
 exact h.wk (WK.of_kp hk) (h.memo.keep (by rw [hb]; exact hk.block S.mb _ hb (.inl h0.mlt)))
end
end Go.Proofs.Ytkfebceainedfaa.P.OwnGap
namespace Go.Proofs.Ytkfebceainedfaa.P.OwnGap
open Go.RowKit Go.Shelf Go.Proofs.YtkfebceainedfaaW.PrintWords Go.Proofs.YtkfebceainedfaaW.PrintLast Go.Proofs.YtkfebceainedfaaW.PrintMore
open Go.Proofs.Ytkfebceainedfaa.OwnGap
set_option linter.unusedVariables false
set_option linter.unusedSimpArgs false
def Yld (w0 : World) (lr most : Nat) (J : List Fil → World → Prop) : Prop := ∀ (m : Nat) (pre : List Fil) (v1 v2 : Value) (ws fs : List Int) (W1 : World), J pre W1 → pre.length < most → kI.R 3 W1 w0.heap.size (fun _ => True) v1 ws → kI.R 3 W1 w0.heap.size (fun _ => True) v2 fs →
 YieldAt Fence.wide m Try.prog lr #[.agg #[v1, v2]] W1 fun e W' => e = .returned (.bool (decide (pre.length + 1 < most))) ∧ J (pre ++ [(ws, fs)]) W' ∧ KpF w0.heap.size W1 W'
def JIt (mb : Nat) (J : List Fil → World → Prop) : Prop := ∀ s A B, J s A → A.grownBy B (some mb) → J s B
structure BW (X : Lx) (S : SV) (fits : List Int) (w0 : World) (lr bs byy bn : Nat) (ws : List Int) (Aw : Option Addr) (k cw : Nat) (l : List Pth) (Al : Option Addr) (bv : Nat) (W wx : World) : Prop where
 fw : FW X S fits w0 lr bs byy bn wx
 hv : wx.heap[bv]? = some (.cells #[.slice Aw k cw] 22 (0, 0))
 rw : Rd kI 3 wx Aw ws
 rl : Rd kP 154 wx Al l
 wk : WK w0.heap.size S.mb W wx
section
variable {X : Lx} {S : SV} {fits : List Int} {w0 : World} {lr bs byy bn : Nat} {ws : List Int} {Aw : Option Addr} {k cw : Nat} {l : List Pth} {Al : Option Addr} {bv : Nat} {W wx wy : World}
theorem BW.wk' (h : BW X S fits w0 lr bs byy bn ws Aw k cw l Al bv W wx) (hk : WK w0.heap.size S.mb wx wy) (hm : MemoAt Try.prog 139 (AliveR X) wy S.mb) : BW X S fits w0 lr bs byy bn ws Aw k cw l Al bv W wy :=
 ⟨h.fw.wk hk hm, hk.cells h.hv (h.fw.ne h.hv) (by decide) (by decide), h.rw.wk (W := wx) (W' := wy) (fun _ _ h => h) (by decide) (by decide) h.fw.map hk, h.rl.wk (W := wx) (W' := wy) (fun _ _ h => h) (by decide) (by decide) h.fw.map hk, h.wk.trans hk⟩
theorem BW.below (h : BW X S fits w0 lr bs byy bn ws Aw k cw l Al bv W wx) (hb : Below wx.heap.size wx wy) : BW X S fits w0 lr bs byy bn ws Aw k cw l Al bv W wy := h.wk' (WK.of_below hb) (h.fw.below hb).memo
theorem BW.alloc (h : BW X S fits w0 lr bs byy bn ws Aw k cw l Al bv W wx) (o : Obj) : BW X S fits w0 lr bs byy bn ws Aw k cw l Al bv W (wx.alloc o) := h.below ((Below.refl _ _).alloc (Nat.le_refl _) _)
theorem BW.kp (h : BW X S fits w0 lr bs byy bn ws Aw k cw l Al bv W wx) (h0 : AW X S fits w0) (hk : KpF w0.heap.size wx wy) : BW X S fits w0 lr bs byy bn ws Aw k cw l Al bv W wy := h.wk' (WK.of_kp hk) (h.fw.kp h0 hk).memo
end
theorem fills_row {W : World} {b : Nat} {p : Pth} (h : PAt W b p) (hl : p.fs.length ≤ 3) : Kd.C kI W (some ⟨b, 4, none⟩) p.fs.length p.fs := by
 refine ⟨rfl, by omega, fun _ => ⟨_, rfl, fun j x hj => ⟨[.int .i64 x], rfl, rfl, fun i u hu => ?_⟩⟩⟩
 have hj3 : j < p.fs.length := (List.getElem?_eq_some_iff.1 hj).1
 have hi : i = 0 := by
  have := (List.getElem?_eq_some_iff.1 hu).1
  simpa using this
 subst hi
 have hx : fG p.fs j = x := by
  unfold fG
  rw [List.getD_eq_getElem?_getD, hj]
  rfl
 simp only [List.getElem?_cons_zero, Option.some.injEq] at hu
 subst hu
 rw [← hx, show ((⟨b, 4, none⟩ : Addr).add (j * kI.sz + 0)) = ⟨b, 4 + j, none⟩ by simp [Addr.add, show kI.sz = 1 from rfl], blk_cell h]
 rcases (by omega : j = 0 ∨ j = 1 ∨ j = 2) with rfl | rfl | rfl
 ·rfl
 ·rfl
 ·rfl
theorem jt_below {mb : Nat} {J : List Fil → World → Prop} (hJ : JIt mb J) {s : List Fil} {A B : World} (h : J s A) (hb : Below A.heap.size A B) : J s B := hJ s A B h (grown_below hb _)
theorem Rd.of_R' {α : Type} {d : Kd α} {t base n : Nat} {ok : Nat → Prop} {W : World} {v : Value} {xs : List α} (h : d.R t W base ok v xs) (hn : xs.length = n) : ∃ A c, v = .slice A n c ∧ n ≤ c ∧ Rd d t W A xs := by
 obtain ⟨A, c, rfl, hc, hr⟩ := Rd.of_R h
 exact ⟨A, c, by rw [hn], by rw [← hn]; exact hc, hr⟩
theorem row_one {W : World} {b : Nat} {x : Int} (h : W.cell? ⟨b, 0, none⟩ = some (.int .i64 x)) : ReadsRow (fun (y : Int) cs => cs = [.int .i64 y]) 1 W (some ⟨b, 0, none⟩) 1 [x] := by
 refine ⟨rfl, by decide, fun _ => ⟨_, rfl, fun j p hj => ⟨[.int .i64 p], rfl, rfl, fun i u hu => ?_⟩⟩⟩
 have hj0 : j = 0 := by
  have := (List.getElem?_eq_some_iff.1 hj).1
  simpa using this
 subst hj0
 have hi : i = 0 := by
  have := (List.getElem?_eq_some_iff.1 hu).1
  simpa using this
 subst hi
 simp only [List.getElem?_cons_zero, Option.some.injEq] at hj hu
 subst hj
 subst hu
 exact h
theorem fillK_cut (X : Lx) (ws : List Int) (f : Int) (l : List Pth) (hw : ws.length ≤ 8) (j : Nat) : ∃ r, fillK X ws f l = endsF X ws f l ++ (fillsTo X ws f l j ++ r) := by
 rw [fillK_step X ws f l hw]
 refine ⟨((X.l0.zipIdx).drop j).flatMap (fillW X ws f l), ?_⟩
 congr 1
 unfold fillsTo
 rw [← List.flatMap_append, List.take_append_drop]
theorem endsF_cut (X : Lx) (ws : List Int) (f : Int) (l : List Pth) (j : Nat) (hc : (decide (0 < ws.length) && rdOf false X.l2 f) = true) : ∃ r, endsF X ws f l = endsTo X ws l j ++ r := by
 rw [endsTo_all X ws f l l.length (Nat.le_refl _) hc]
 unfold endsTo
 refine ⟨((l.drop j).filterMap (doneP (rwOf X))).map fun fs => (ws, fs), ?_⟩
 rw [← List.map_append, ← List.filterMap_append, List.take_append_drop, List.take_length]
def WalkOut (X : Lx) (S : SV) (w0 : World) (most : Nat) (J : List Fil → World → Prop) (ws : List Int) (f : Int) (l : List Pth) (pre : List Fil) (W : World) (e : Ending) (W' : World) : Prop :=
 e = .returned (.bool (decide ((pre ++ fillK X ws f l).length < most))) ∧ J ((pre ++ fillK X ws f l).take most) W' ∧ WK w0.heap.size S.mb W W' ∧ MemoAt Try.prog 139 (AliveR X) W' S.mb
def WalkC (X : Lx) (S : SV) (fits : List Int) (w0 : World) (lr bs byy bn most : Nat) (J : List Fil → World → Prop) (k : Nat) : Prop :=
 ∀ (ws : List Int) (f : Int) (l : List Pth) (Aw Al : Option Addr) (cw cl : Nat) (pre : List Fil) (W : World), ws.length = k → 0 ≤ f → f < X.l1.length → (∀ q ∈ l, OkP X q) → cntL (rwOf X) l (8 * (8 - k)) ≤ 1000000000 → k ≤ cw → l.length ≤ cl →
  Rd kI 3 W Aw ws → Rd kP 154 W Al l → FW X S fits w0 lr bs byy bn W → J pre W → pre.length < most →
  Calls Try.prog 96 #[.slice Aw k cw, .int .i64 f, .slice Al l.length cl, .pointer (some ⟨bs, 0, none⟩), .pointer (some ⟨byy, 0, none⟩), .pointer (some ⟨bn, 0, none⟩)] W (WalkOut X S w0 most J ws f l pre W)
theorem cnt_tmono (g : Nat) : ∀ t : Nat, cnt g t ≤ cnt g (t + 1) := by
 intro t
 cases g with
 | zero => rw [cnt_none, cnt_none]; exact Nat.le_refl _
 | succ g => rw [cnt_step]; omega
theorem cntL_tmono (R : Rw) (l : List Pth) {t u : Nat} (h : t ≤ u) : cntL R l t ≤ cntL R l u := by
 induction h with
 | refl => exact Nat.le_refl _
 | step _ ih =>
  refine Nat.le_trans ih ?_
  unfold cntL
  clear ih
  induction l with
  | nil => exact Nat.le_refl _
  | cons p l ih => simp only [List.map_cons, List.sum_cons]; exact Nat.add_le_add (cnt_tmono _ _) ih
theorem cntL_filter (R : Rw) (V : Pth → Bool) (l : List Pth) (t : Nat) : cntL R (l.filter V) t ≤ cntL R l t := by
 unfold cntL
 induction l with
 | nil => exact Nat.le_refl _
 | cons p l ih =>
  by_cases h : V p = true
  ·rw [List.filter_cons_of_pos h]; simp only [List.map_cons, List.sum_cons]; omega
  ·rw [List.filter_cons_of_neg h]; simp only [List.map_cons, List.sum_cons]; omega
theorem cnt_word {X : Lx} {fits : List Int} (hX : OkX X fits) (hL : OkL X) {l : List Pth} (hl : ∀ q ∈ l, OkP X q) {k : Nat} (hk : k < 8) (hc : cntL (rwOf X) l (8 * (8 - k)) ≤ 1000000000) (j : Nat) (hj : j < X.l0.length) (V : Pth → Bool) :
  cntL (rwOf X) ((wordF (rwOf X) l (bytesOf (rd_T53 X.l0 (j : Int)).f0)).filter V) (8 * (8 - (k + 1))) ≤ 1000000000 := by
 refine Nat.le_trans (cntL_filter _ _ _ _) (Nat.le_trans (wordF_cnt (rwOf X) _ l _ (fun q hq => (hl q hq).i)) (Nat.le_trans (cntL_tmono _ _ ?_) hc))
 rw [bytesOf_length]
 have := (hL.wd j hj).2.1
 omega
end Go.Proofs.Ytkfebceainedfaa.P.OwnGap
namespace Go.Proofs.Ytkfebceainedfaa.P.OwnGap
open Go.RowKit Go.Shelf Go.Proofs.YtkfebceainedfaaW.PrintWords Go.Proofs.YtkfebceainedfaaW.PrintLast Go.Proofs.YtkfebceainedfaaW.PrintMore
open Go.Proofs.Ytkfebceainedfaa.OwnGap
set_option linter.unusedVariables false
set_option linter.unusedSimpArgs false
@[go_sem] theorem run_store_func {P : Program} {w : World} (a : Addr) (m : Mode) (f : Fn) (i c : Array Value) : (store a (.func f i c) m).run P w = stored P w a (.func f i c) m := run_store P w a _ m rfl
set_option maxHeartbeats 1000000 in
theorem fillings_calls (S : SV) (w : World) : Calls Try.prog 78 #[.pointer (some ⟨S.b, 0, none⟩)] w fun e w' =>
  e = .returned (.func (.func 95) #[] #[.pointer (some ⟨w.heap.size, 0, none⟩)]) ∧ w' = w.alloc (.cells #[.pointer (some ⟨S.b, 0, none⟩)] 92) := by
 go_enter Try.func78, Try.ntmps78
 go_wp2_with fail
 go_ret
 exact ⟨rfl, rfl⟩
structure FI (X : Lx) (S : SV) (fits : List Int) (w0 : World) (bs : Nat) (W : World) : Prop where
 km : KM w0.heap.size S.mb w0 W
 memo : MemoAt Try.prog 139 (AliveR X) W S.mb
 hs : SpAt W bs S
theorem FI.below {X : Lx} {S : SV} {fits : List Int} {w0 W W' : World} {bs : Nat} (h : FI X S fits w0 bs W) (h0 : AW X S fits w0) (hb : Below W.heap.size W W') : FI X S fits w0 bs W' :=
 ⟨h.km.trans (KM.below (hb.mono h.km.size)), h.memo.keep (hb.block S.mb (Nat.lt_of_lt_of_le h0.mlt h.km.size)), blk_below h.hs hb⟩
set_option maxHeartbeats 1000000 in
set_option maxRecDepth 100000 in
theorem fil95_calls (X : Lx) (S : SV) (fits : List Int) (w0 : World) (h0 : AW X S fits w0) (hp0 : OkP X p0) (hone : 1 ≤ X.l1.length) (lr bs most : Nat) (hm : 0 < most) (J : List Fil → World → Prop) (hJ : JIt S.mb J) (hWC : ∀ byy bn, WalkC X S fits w0 lr bs byy bn most J 0)
  (W : World) (hW : FI X S fits w0 bs W) (hj : J [] W) :
  Calls Try.prog 95 #[.func (.yield lr) #[] #[], .pointer (some ⟨bs, 0, none⟩)] W fun e W' => (∃ v, e = .returned v) ∧ J ((fillF X 8 [] 0 [p0]).take most) W' := by
 have HW := Aside0.mk hW
 have HJ := Aside0.mk hj
 have HJJ := Aside0.mk hJ
 have HWC := Aside0.mk hWC
 have H0 := Aside0.mk h0
 have HP := Aside0.mk hp0
 clear hW hj hJ hWC h0 hp0
 go_enter Try.func95, Try.ntmps95
 go_upto_region 2 with fail
 obtain ⟨byy, hbyy⟩ : ∃ b, b = W.heap.size := ⟨_, rfl⟩
 refine wp_gen (fun wx => Aside0 (wx.heap[byy]? = some (.cells #[.func (.yield lr) #[] #[]] 97 (0, 0)) ∧ wx.heap[byy + 1]? = some (.cells #[.nilFunc] 161 (0, 0)) ∧ Below W.heap.size W wx) ∧ Aside0 (wx.heap.size = byy + 2)) ?_ ?_
 ·have b2 := blk_new (W.alloc (.cells #[.func (.yield lr) #[] #[]] 97)) (.cells #[.nilFunc] 161)
  rw [World.size_alloc] at b2
  rw [hbyy]
  exact ⟨⟨blk_alloc (blk_new W _) _, b2, ((Below.refl _ _).alloc (Nat.le_refl _) _).alloc (by simp) _⟩, ⟨by simp⟩⟩
 rw [← hbyy]
 have HBY := Aside0.mk hbyy
 clear hbyy
 rintro w1 ⟨H1, HS1⟩
 have hcf := (blk_cell H1.out.2.1 0).trans (show (#[Value.nilFunc] : Array Value)[0]? = some _ from rfl)
 have hff := blk_frozen H1.out.2.1 0
 have hll := blk_lt H1.out.2.1
 go_upto_region 3 with fail
 refine wp_gen (fun wx => Aside0 (FW X S fits w0 lr bs byy (byy + 1) wx) ∧ Aside0 (J [] wx)) ?_ ?_
 ·obtain ⟨a1, a2, a3⟩ := H1.out
  have hB : Below W.heap.size W (w1.setCell ⟨byy + 1, 0, none⟩ (.func (.func 96) #[] (capF bs byy (byy + 1)))) := by
   rw [← HBY.out]
   exact a3.setCell (p := ⟨byy + 1, 0, none⟩) (by simp) _
  have h2 := blk_set a2 0 (.func (.func 96) #[] (capF bs byy (byy + 1)))
  have hI := HW.out.below H0.out hB
  exact ⟨⟨⟨hI.km, hI.memo, hI.hs, (Below.heap_setCell w1 ⟨byy + 1, 0, none⟩ _ _ (by simp)).trans a1, h2.trans (by simp)⟩⟩, ⟨jt_below HJJ.out HJ.out hB⟩⟩
 clear hcf hff hll HS1 H1 w1
 rintro w1 ⟨HF, HJ1⟩
 have hnn := (blk_cell HF.out.hn 0).trans (show (#[Value.func (.func 96) #[] (capF bs byy (byy + 1))] : Array Value)[0]? = some _ from rfl)
 simp only [capF] at hnn
 have hnl := blk_lt HF.out.hn
 have HC1 := Aside0.mk (show Calls Try.prog 96 #[.slice none 0 0, .int .i64 0, .slice (some ⟨w1.heap.size, 0, none⟩) 1 1, .pointer (some ⟨bs, 0, none⟩), .pointer (some ⟨byy, 0, none⟩), .pointer (some ⟨byy + 1, 0, none⟩)] (w1.alloc (.cells (pC p0) 154)) fun e W' => (∃ v, e = .returned v) ∧ J ((fillF X 8 [] 0 [p0]).take most) W' from by
  have hb : Below w1.heap.size w1 (w1.alloc (.cells (pC p0) 154)) := (Below.refl _ _).alloc (Nat.le_refl _) _
  have h := HWC.out byy (byy + 1) [] 0 [p0] none (some ⟨w1.heap.size, 0, none⟩) 0 1 [] (w1.alloc (.cells (pC p0) 154)) rfl (by omega) (by omega) (fun q hq => by rw [List.mem_singleton] at hq; rw [hq]; exact HP.out) (Nat.le_trans (cnt_one HP.out _ (by omega)) (by omega)) (Nat.le_refl _) (Nat.le_refl _)
   ⟨Kd.C_nil _ _, fun ad he => by cases he⟩ ⟨C_one (blk_new w1 _), fun ad he _ => by injection he with he; subst he; exact ⟨_, _, blk_new w1 _⟩⟩ (HF.out.below hb) (jt_below HJJ.out HJ1.out hb) hm
  refine h.mono ?_
  rintro e W' ⟨rfl, hj2, -, -⟩
  exact ⟨⟨_, rfl⟩, by simpa [fillK] using hj2⟩)
 rw [show pC p0 = #[.int .i64 0, .int .i64 0, .int .i64 0, .int .i64 0, .int .i64 0, .int .i64 0, .int .i64 0, .int .i64 0] from rfl] at HC1
 go_wp2_with first | (go_at_call 96; refine HC1.out.mono ?_; rintro e w2 ⟨⟨v, rfl⟩, hj2⟩; have HJ2 := Aside0.mk hj2; clear hj2) | fail
 go_end0
 exact ⟨⟨_, rfl⟩, HJ2.out⟩
structure Fx where
 v1 : Value
 v2 : Value
 ws : List Int
 fs : List Int
def Fx.fil (x : Fx) : Fil := (x.ws, x.fs)
def fxE (x : Fx) : Array Value := #[.agg #[x.v1, x.v2]]
def fxM (n0 : Nat) (x : Fx) (W : World) : Prop := kI.R 3 W n0 (fun _ => True) x.v1 x.ws ∧ kI.R 3 W n0 (fun _ => True) x.v2 x.fs
theorem yieldAny {m : Nat} (m' : Nat) {P : Program} {l : Nat} {args : Array Value} {W : World} {R : Ending → World → Prop} (h : YieldAt Fence.wide m P l args W R) : YieldAt Fence.wide m' P l args W R := by
 obtain ⟨fn, tmps, assign, body, hy, hR⟩ := h
 exact ⟨fn, tmps, assign, body, hy, hR.1, fun c cs _ => hR.2 c cs (room_wide _)⟩
theorem fil_seq (X : Lx) (S : SV) (fits : List Int) (w0 : World) (h0 : AW X S fits w0) (hp0 : OkP X p0) (hone : 1 ≤ X.l1.length) (n bs most : Nat) (hm : 0 < most) (hWC : ∀ lr byy bn J, JIt S.mb J → Yld w0 lr most J → WalkC X S fits w0 lr bs byy bn most J 0)
  (w : World) (hW : FI X S fits w0 bs w) :
  SeqS Fence.wide n Try.prog 95 #[.pointer (some ⟨bs, 0, none⟩)] fxE (fxM w0.heap.size) (KpF w0.heap.size) (fun A B => A.grownBy B (some S.mb)) most (fun xs => xs.map Fx.fil = (fillF X 8 [] 0 [p0]).take most) w := by
 intro lr J W hb hJ hY hj
 refine callsIn_wide.2 ?_
 have h := fil95_calls X S fits w0 h0 hp0 hone lr bs most hm (fun s W => ∃ xs : List Fx, xs.map Fx.fil = s ∧ J xs W) (fun s A B h hg => by
   obtain ⟨xs, e, h⟩ := h
   exact ⟨xs, e, hJ xs A B h hg⟩)
  (fun byy bn => hWC lr byy bn _ (fun s A B h hg => by
   obtain ⟨xs, e, h⟩ := h
   exact ⟨xs, e, hJ xs A B h hg⟩) (fun m pre v1 v2 ws fs W1 hj1 hlen hr1 hr2 => by
   obtain ⟨xs, rfl, hj1⟩ := hj1
   rw [List.length_map] at hlen ⊢
   refine YieldAt.mono (yieldAny m (hY xs ⟨v1, v2, ws, fs⟩ W1 hj1 ⟨hr1, hr2⟩ hlen)) ?_
   rintro e W' ⟨rfl, hj2, hk⟩
   exact ⟨rfl, ⟨xs ++ [⟨v1, v2, ws, fs⟩], by rw [List.map_append]; rfl, hj2⟩, hk⟩))
  W (hW.below h0 hb) ⟨[], rfl, hj⟩
 refine h.mono ?_
 rintro e W' ⟨hv, xs, e2, hj2⟩
 exact ⟨hv, xs, e2, hj2⟩
end Go.Proofs.Ytkfebceainedfaa.P.OwnGap
namespace Go.Proofs.Ytkfebceainedfaa.P.OwnGap
open Go.RowKit Go.Shelf Go.Proofs.YtkfebceainedfaaW.PrintWords Go.Proofs.YtkfebceainedfaaW.PrintLast Go.Proofs.YtkfebceainedfaaW.PrintMore
open Go.Proofs.Ytkfebceainedfaa.OwnGap
set_option linter.unusedVariables false
set_option linter.unusedSimpArgs false
set_option maxHeartbeats 8000000 in
set_option maxRecDepth 100000 in
theorem walk_try (X : Lx) (S : SV) (fits : List Int) (hX : OkX X fits) (hL : OkL X) (w0 : World) (h0 : AW X S fits w0) (lr bs byy bn most : Nat) (J : List Fil → World → Prop) (hJ : JIt S.mb J) (hY : Yld w0 lr most J)
    (ws : List Int) (f : Int) (l : List Pth) (Aw Al : Option Addr) (k cw cl : Nat) (pre : List Fil) (W : World) (hwk : ws.length = k) (hk : k ≤ 8) (hf0 : 0 ≤ f) (hf1 : f < X.l1.length) (hok : ∀ q ∈ l, OkP X q) (hcnt : cntL (rwOf X) l (8 * (8 - k)) ≤ 1000000000) (hcw : k ≤ cw) (hcl : l.length ≤ cl)
    (hrw : Rd kI 3 W Aw ws) (hrl : Rd kP 154 W Al l) (hW : FW X S fits w0 lr bs byy bn W) (hj : J pre W) (hpre : pre.length < most) (hrec : k < 8 → WalkC X S fits w0 lr bs byy bn most J (k + 1)) :
    Calls Try.prog 96 #[.slice Aw k cw, .int .i64 f, .slice Al l.length cl, .pointer (some ⟨bs, 0, none⟩), .pointer (some ⟨byy, 0, none⟩), .pointer (some ⟨bn, 0, none⟩)] W (WalkOut X S w0 most J ws f l pre W) := by
  have HWK := Aside0.mk hwk
  have HREC := Aside0.mk hrec
  have HX := Aside0.mk hX
  have HL := Aside0.mk hL
  have H0 := Aside0.mk h0
  have HJJ := Aside0.mk hJ
  have HYY := Aside0.mk hY
  have HOK := Aside0.mk hok
  have HCN := Aside0.mk hcnt
  have HCW := Aside0.mk hcw
  have HCL := Aside0.mk hcl
  have hlen : l.length ≤ 1000000000 := Nat.le_trans (cntL_length _ _ _) hcnt
  have HB := Aside0.mk (show BW X S fits w0 lr bs byy bn ws Aw k cw l Al W.heap.size W (W.alloc (.cells #[.slice Aw k cw] 22)) from
    have hb : Below W.heap.size W (W.alloc (.cells #[.slice Aw k cw] 22)) := (Below.refl _ _).alloc (Nat.le_refl _) _
    ⟨hW.below hb, blk_new W _, hrw.below hb, hrl.below hb, WK.of_below hb⟩)
  have HJ0 := Aside0.mk (show J pre (W.alloc (.cells #[.slice Aw k cw] 22)) from jt_below hJ hj ((Below.refl _ _).alloc (Nat.le_refl _) _))
  have HPR := Aside0.mk hpre
  clear hrec hwk hX hL h0 hJ hY hok hcnt hcw hcl hrw hrl hW hj hpre
  go_enter Try.func96, Try.ntmps96
  go_upto_region 1 with fail
  obtain ⟨bv, hbv⟩ : ∃ b, b = W.heap.size := ⟨_, rfl⟩
  rw [← hbv] at HB ⊢
  refine wp_gen (fun wx => Aside0 (BW X S fits w0 lr bs byy bn ws Aw k cw l Al bv W wx) ∧ Aside0 (J pre wx)) ⟨HB, HJ0⟩ ?_
  clear HB HJ0 hbv
  rintro wx ⟨HB, HJ⟩
  go_upto_block 0 with fail
  go_cut [] (fun wx => Aside0 (BW X S fits w0 lr bs byy bn ws Aw k cw l Al bv W wx) ∧ Aside0 (J (pre ++ endsF X ws f l) wx) ∧ (pre ++ endsF X ws f l).length < most)
  case first =>
    go_wp2_with fail
    obtain ⟨lf, hlf⟩ : ∃ lf, lf = rdOf false X.l2 f := ⟨_, rfl⟩
    have HLF := Aside0.mk hlf
    by_cases hE : 0 < k ∧ lf = true
    · obtain ⟨hw0, rfl⟩ := hE
      have HE := Aside0.mk (show (decide (0 < ws.length) && rdOf false X.l2 f) = true by rw [HWK.out, ← hlf, decide_eq_true hw0]; rfl)
      have HW0 := Aside0.mk hw0
      have g0 : ((k : Int) == 0) = false := beq_eq_false_iff_ne.2 (by omega)
      clear hlf hw0
      go_loopg [19] l.length (fun n s19 wr => ∃ j : Nat, j + n = l.length ∧ s19 = .int .i64 (j : Int) ∧ Aside0 (BW X S fits w0 lr bs byy bn ws Aw k cw l Al bv W wr) ∧ Aside0 (J (pre ++ endsTo X ws l j) wr) ∧ (pre ++ endsTo X ws l j).length < most)
      case atStart => exact ⟨0, by omega, rfl, HB, ⟨by rw [show endsTo X ws l 0 = [] from rfl, List.append_nil]; exact HJ.out⟩, by rw [show endsTo X ws l 0 = [] from rfl, List.append_nil]; exact HPR.out⟩
      case round =>
        clear HB HJ
        obtain ⟨j, hjn, rfl, HB, HJ, hlt⟩ := hrel
        have HJN := Aside0.mk hjn
        have HLT := Aside0.mk hlt
        clear hjn hlt
        by_cases hj : j < l.length
        · have hjz : (j : Int) < (l.length : Int) := by omega
          obtain ⟨ad, rfl, e0, e1, e2, e3, e4, e5, e6, e7⟩ := at_P HB.out.rl.c j hj
          obtain ⟨q, hq⟩ : ∃ q, q = l.getD j zP := ⟨_, rfl⟩
          rw [← hq] at e0 e1 e2 e3 e4 e5 e6 e7
          have hqm : q ∈ l := by
            rw [hq, List.getD_eq_getElem?_getD, List.getElem?_eq_getElem hj]
            exact List.getElem_mem hj
          have HQO := Aside0.mk (HOK.out q hqm)
          have HTS := Aside0.mk (show endsTo X ws l (j + 1) = endsTo X ws l j ++ (match doneP (rwOf X) q with | some fs => [(ws, fs)] | none => []) by rw [hq]; exact endsTo_succ X ws l j hj)
          have HJ1 := Aside0.mk hj
          have hadl := World.block_lt_of_cell? wr _ e0
          clear hq hqm
          go_upto_region 4 with fail
          obtain ⟨b11, hb11⟩ : ∃ b, b = wr.heap.size := ⟨_, rfl⟩
          refine wp_gen (fun wx => Aside0 (BW X S fits w0 lr bs byy bn ws Aw k cw l (some ad) bv W wx) ∧ Aside0 (J (pre ++ endsTo X ws l j) wx) ∧ Aside0 (PAt wx b11 q)) ⟨⟨HB.out.alloc _⟩, ⟨jt_below HJJ.out HJ.out ((Below.refl _ _).alloc (Nat.le_refl _) _)⟩, ⟨by rw [hb11]; exact blk_new wr _⟩⟩ ?_
          rw [← hb11]
          clear hb11 HB HJ e0 e1 e2 e3 e4 e5 e6 e7 hadl
          rintro wx ⟨HB, HJ, H11⟩
          clear wr
          obtain ⟨e0, e1, e2, e3, e4, e5, e6, e7⟩ := H11.out.cells
          have hpl := blk_lt H11.out
          have hs := HB.out.fw.hs.cell
          have hl1 := blk_lt HB.out.fw.hs
          have hv := (blk_cell HB.out.hv 0).trans (show (#[Value.slice Aw k cw] : Array Value)[0]? = some _ from rfl)
          have hl2 := blk_lt HB.out.hv
          have hsr := (HB.out.fw.aw H0.out).sr
          have c2 := hsr.cell 2 hsr.e2
          have hl3 := blk_lt hsr.blk
          obtain ⟨a2, eA2, y2⟩ := Kd.at_bool hsr.h2 f hf0 (by rw [HL.out.l2]; exact hf1)
          rw [eA2] at c2
          rw [← HLF.out] at y2
          have hl4 := World.block_lt_of_cell? wx _ y2
          have hfl : f < (X.l2.length : Int) := by rw [HL.out.l2]; exact hf1
          have HD := Aside0.mk (show Calls Try.prog 97 #[.pointer (some ⟨S.b, 0, none⟩), .agg #[.int .i64 (q.i : Int), .int .i64 (q.m : Int), .int .i64 q.l, .int .i64 q.h, .int .i64 (fG q.fs 0), .int .i64 (fG q.fs 1), .int .i64 (fG q.fs 2), .int .i64 (q.fs.length : Int)]] wx (DoneOut X q wx) from
            done_calls X S fits HX.out.n q wx hsr ⟨HQO.out.i, by have := HQO.out.m; omega, HQO.out.g⟩)
          clear hsr eA2
          go_upto_region 6 with (go_at_call 97; refine HD.out.mono ?_; rintro e w2 ⟨q2, db, rfl, hd, hdl, hB2⟩; have HB2 := Aside0.mk (HB.out.below hB2); have HJ2 := Aside0.mk (jt_below HJJ.out HJ.out hB2); have HDB := Aside0.mk hd; have HDL := Aside0.mk hdl; clear hd hdl hB2; unfold pC)
          obtain ⟨b12, hb12⟩ : ∃ b, b = w2.heap.size := ⟨_, rfl⟩
          refine wp_gen (fun wx => Aside0 (BW X S fits w0 lr bs byy bn ws Aw k cw l (some ad) bv W wx) ∧ Aside0 (J (pre ++ endsTo X ws l j) wx) ∧ Aside0 (PAt wx b12 q2)) ⟨⟨HB2.out.alloc _⟩, ⟨jt_below HJJ.out HJ2.out ((Below.refl _ _).alloc (Nat.le_refl _) _)⟩, ⟨by rw [hb12]; exact blk_new w2 _⟩⟩ ?_
          rw [← hb12]
          clear hb12 HB HJ H11 HB2 HJ2 HD e0 e1 e2 e3 e4 e5 e6 e7 hpl hs hl1 hv hl2 c2 hl3 y2 hl4
          rintro wz ⟨HB, HJ, H12⟩
          clear w2 wx
          have HDLN := Aside0.mk (fun (W' : World) (hb : Below wz.heap.size wz W') => show Calls Try.prog 98 #[.slice Aw k cw] W' fun e w' => ∃ v, e = .returned v ∧ kI.R 3 w' W'.heap.size (fun _ => True) v ws ∧ Below W'.heap.size W' w' by
            have h := clone_calls Aw cw ws W' (HB.out.rw.below hb).c (by rw [HWK.out]; omega)
            rw [HWK.out] at h
            exact h)
          cases db with
          | false =>
            have HDN := Aside0.mk (show doneP (rwOf X) q = none from HDB.out)
            go_quiet (fail)
            go_wp2_with fail
            go_roundg (gk - 1)
            case measure => have := HJN.out; have := HJ1.out; omega
            case rel =>
              have hts := HTS.out
              rw [HDN.out, List.append_nil] at hts
              refine ⟨j + 1, by have := HJN.out; have := HJ1.out; omega, by go_num, ⟨HB.out.below (pw_below_drewN (Below.refl _ _) _)⟩, ?_, ?_⟩
              · rw [hts]; exact ⟨jt_below HJJ.out HJ.out (pw_below_drewN (Below.refl _ _) _)⟩
              · rw [hts]; exact HLT.out
          | true =>
            have HDS := Aside0.mk (show doneP (rwOf X) q = some q2.fs from HDB.out)
            have hq3 : q2.fs.length ≤ 3 := HDL.out rfl
            have hq3z : (q2.fs.length : Int) ≤ 3 := by omega
            have HCL2 := Aside0.mk (fun (W' : World) (hb : Below wz.heap.size wz W') => show Calls Try.prog 98 #[.slice (some ⟨b12, 4, none⟩) q2.fs.length 3] W' fun e w' => ∃ v, e = .returned v ∧ kI.R 3 w' W'.heap.size (fun _ => True) v q2.fs ∧ Below W'.heap.size W' w' from
              clone_calls (some ⟨b12, 4, none⟩) 3 q2.fs W' (fills_row (blk_below H12.out hb) hq3) (by omega))
            have hyy := (blk_cell HB.out.fw.hy 0).trans (show (#[Value.func (.yield lr) #[] #[]] : Array Value)[0]? = some _ from rfl)
            have hyl := blk_lt HB.out.fw.hy
            have hv := (blk_cell HB.out.hv 0).trans (show (#[Value.slice Aw k cw] : Array Value)[0]? = some _ from rfl)
            have hl2 := blk_lt HB.out.hv
            have e7 := H12.out.cells.2.2.2.2.2.2.2
            have hpl := blk_lt H12.out
            have HN0 := Aside0.mk (show w0.heap.size ≤ wz.heap.size from HB.out.fw.km.size)
            obtain ⟨gb, hgb⟩ : ∃ gb, gb = decide ((pre ++ endsTo X ws l j).length + 1 < most) := ⟨_, rfl⟩
            have HGB := Aside0.mk hgb
            have HYA := Aside0.mk (fun (v1 v2 : Value) (W1 : World) (h1 : J (pre ++ endsTo X ws l j) W1) (h2 : kI.R 3 W1 w0.heap.size (fun _ => True) v1 ws) (h3 : kI.R 3 W1 w0.heap.size (fun _ => True) v2 q2.fs) => show YieldAt Fence.wide 0 Try.prog lr #[.agg #[v1, v2]] W1 fun e W' => e = .returned (.bool gb) ∧ J (pre ++ endsTo X ws l j ++ [(ws, q2.fs)]) W' ∧ KpF w0.heap.size W1 W' from by
              rw [hgb]
              exact HYY.out 0 _ v1 v2 ws q2.fs W1 h1 HLT.out h2 h3)
            clear hgb
            have HBD := Aside0.mk (show Below wz.heap.size wz wz.drew from below_drew (Below.refl _ _))
            have hmix : Try.prog.follows Departure.mixedOrders = true := by kernel_rfl
            have HTS2 := Aside0.mk (show pre ++ endsTo X ws l (j + 1) = pre ++ endsTo X ws l j ++ [(ws, q2.fs)] by rw [HTS.out, HDS.out, List.append_assoc])
            have HGB2 := Aside0.mk (show gb = decide ((pre ++ endsTo X ws l (j + 1)).length < most) by rw [HTS2.out, List.length_append, HGB.out]; rfl)
            refine (wpIn_wide (n := 1)).1 ?_
            gi_region_with_o (first
              | (refine ⟨trivial, ?_⟩; gi_at_call 98; refine (callsIn_wide.2 (HDLN.out wz.drew HBD.out)).mono ?_; rintro e w3 ⟨v1, rfl, hv1, hB3⟩; obtain ⟨A1, c1, rfl⟩ := Kd.R_slice hv1; have HV1 := Aside0.mk hv1; have HB3 := Aside0.mk (show Below wz.heap.size wz w3 from (below_drew (Below.refl _ _)).trans hB3); have hyy3 := (HB3.out.cell (p := ⟨byy, 0, none⟩) hyl).trans hyy; have hv3 := (HB3.out.cell (p := ⟨bv, 0, none⟩) hl2).trans hv; have e73 := (HB3.out.cell (p := ⟨b12, 7, none⟩) hpl).trans e7; clear hv1 hB3)
              | (refine ⟨trivial, ?_⟩; gi_at_call 98; refine (callsIn_wide.2 (HCL2.out w3 HB3.out)).mono ?_; rintro e w4 ⟨v2, rfl, hv2, hB4⟩; obtain ⟨A2, c2, rfl⟩ := Kd.R_slice hv2; have HB4 := Aside0.mk (HB3.out.trans (hB4.mono HB3.out.size)); have hyy4 := (HB4.out.cell (p := ⟨byy, 0, none⟩) hyl).trans hyy; have HV1n := Aside0.mk (Kd.R_lower (Kd.R_below HV1.out hB4) HN0.out); have HV2n := Aside0.mk (Kd.R_lower hv2 (Nat.le_trans HN0.out HB3.out.size)); obtain ⟨fn, tmps, assign, body, hyr, hR⟩ := HYA.out _ _ w4 (jt_below HJJ.out HJ.out HB4.out) HV1n.out HV2n.out; have HYR := Aside0.mk hyr; have HR := Aside0.mk hR; clear hv2 hB4 hR hyr)
              | (rw [HYR.out, Oper.uponIn_round]; refine ⟨fun h => Nat.le_refl 1, ?_⟩; refine HR.out.mono ?_; rintro e w5 ⟨rfl, hj5, hk5⟩; have HJ5 := Aside0.mk hj5; have HK5 := Aside0.mk hk5; clear hj5 hk5))
            all_goals
              rw [← HTS2.out] at HJ5
              have HB5 := Aside0.mk ((HB.out.below HB4.out).kp H0.out HK5.out)
              cases gb with
              | true =>
                have HLT5 := Aside0.mk (of_decide_eq_true HGB2.out.symm)
                go_wp2_with fail
                go_roundg (gk - 1)
                case measure => have := HJN.out; have := HJ1.out; omega
                case rel => exact ⟨j + 1, by have := HJN.out; have := HJ1.out; omega, by go_num, HB5, HJ5, HLT5.out⟩
              | false =>
                have HLT5 := Aside0.mk (of_decide_eq_false HGB2.out.symm)
                obtain ⟨r1, hr1⟩ := fillK_cut X ws f l (by rw [HWK.out]; exact hk) 0
                obtain ⟨r2, hr2⟩ := endsF_cut X ws f l (j + 1) HE.out
                have HALL := Aside0.mk (show pre ++ fillK X ws f l = (pre ++ endsTo X ws l (j + 1)) ++ (r2 ++ (fillsTo X ws f l 0 ++ r1)) by rw [hr1, hr2, List.append_assoc, List.append_assoc])
                clear hr1 hr2
                go_wp2_with fail
                go_ret
                refine ⟨?_, ?_, HB5.out.wk, HB5.out.fw.memo⟩
                · rw [HALL.out, decide_eq_false (by rw [List.length_append]; have := HLT5.out; omega)]
                  rfl
                · rw [HALL.out, List.take_append_of_le_length (by have := HLT5.out; omega)]
                  have := HLT.out
                  rw [List.take_of_length_le (by rw [HTS2.out, List.length_append, List.length_singleton]; omega)]
                  exact HJ5.out
        · have hjz : ¬ (j : Int) < (l.length : Int) := by omega
          go_wp2_with fail
          refine Met.intro ?_
          go_step
          (repeat apply Exists.intro)
          refine ⟨?_, rfl⟩
          rw [endsTo_all X ws f l j (by omega) HE.out]
          exact ⟨HB, HJ, HLT.out⟩
    · have HE := Aside0.mk (show endsF X ws f l = [] from endsF_none X ws f l (by
        rw [HWK.out, ← hlf]
        by_cases h : 0 < k
        · have : lf = false := by
            cases lf with
            | false => rfl
            | true => exact absurd ⟨h, rfl⟩ hE
          rw [this, Bool.and_false]
        · rw [decide_eq_false h]; rfl))
      clear hlf
      go_loopg [19] l.length (fun n s19 wr => s19 = .int .i64 0 ∧ wr = wx)
      case atStart => exact ⟨rfl, rfl⟩
      case round =>
        obtain ⟨rfl, rfl⟩ := hrel
        by_cases hj : 0 < l.length
        · have hjz : (0 : Int) < (l.length : Int) := by omega
          obtain ⟨ad, rfl, e0, e1, e2, e3, e4, e5, e6, e7⟩ := at_P HB.out.rl.c 0 hj
          rw [Nat.zero_mul, Addr.add_zero'] at e0 e1 e2 e3 e4 e5 e6 e7
          have hadl := World.block_lt_of_cell? wr _ e0
          have hs := HB.out.fw.hs.cell
          have hl1 := blk_lt HB.out.fw.hs
          have hv := (blk_cell HB.out.hv 0).trans (show (#[Value.slice Aw k cw] : Array Value)[0]? = some _ from rfl)
          have hl2 := blk_lt HB.out.hv
          have hsr := (HB.out.fw.aw H0.out).sr
          have c2 := hsr.cell 2 hsr.e2
          have hl3 := blk_lt hsr.blk
          obtain ⟨a2, eA2, y2⟩ := Kd.at_bool hsr.h2 f hf0 (by rw [HL.out.l2]; exact hf1)
          rw [eA2] at c2
          rw [← HLF.out] at y2
          have hl4 := World.block_lt_of_cell? wr _ y2
          have hfl : f < (X.l2.length : Int) := by rw [HL.out.l2]; exact hf1
          clear hsr eA2
          by_cases hw : k = 0
          · have g0 : ((k : Int) == 0) = true := by rw [hw]; rfl
            clear hw
            go_wp2_with fail
            refine Met.intro ?_
            go_step
            (repeat apply Exists.intro)
            refine ⟨?_, rfl⟩
            rw [HE.out, List.append_nil]
            exact ⟨⟨HB.out.alloc _⟩, ⟨jt_below HJJ.out HJ.out ((Below.refl _ _).alloc (Nat.le_refl _) _)⟩, HPR.out⟩
          · have hlf : lf = false := by
              cases hh : lf with
              | false => rfl
              | true => exact absurd ⟨by omega, hh⟩ hE
            have g0 : ((k : Int) == 0) = false := beq_eq_false_iff_ne.2 (by omega)
            subst hlf
            clear hw
            go_wp2_with fail
            refine Met.intro ?_
            go_step
            (repeat apply Exists.intro)
            refine ⟨?_, rfl⟩
            rw [HE.out, List.append_nil]
            exact ⟨⟨HB.out.alloc _⟩, ⟨jt_below HJJ.out HJ.out ((Below.refl _ _).alloc (Nat.le_refl _) _)⟩, HPR.out⟩
        · have hjz : ¬ (0 : Int) < (l.length : Int) := by omega
          go_wp2_with fail
          refine Met.intro ?_
          go_step
          (repeat apply Exists.intro)
          refine ⟨?_, rfl⟩
          rw [HE.out, List.append_nil]
          exact ⟨HB, HJ, HPR.out⟩
  case rest =>
    obtain ⟨HB1, HJ1, hlt⟩ := hcut
    have HLT := Aside0.mk hlt
    clear HB HJ hlt
    have hs := HB1.out.fw.hs.cell
    have hl1 := blk_lt HB1.out.fw.hs
    have hsr := (HB1.out.fw.aw H0.out).sr
    have c0 := hsr.cell 0 hsr.e0
    have hl3 := blk_lt hsr.blk
    clear hsr
    obtain ⟨A0v, hA0v⟩ : ∃ A, A = S.A0 := ⟨_, rfl⟩
    rw [← hA0v] at c0
    have HA0 := Aside0.mk hA0v
    clear hA0v
    go_upto_block 2 with fail
    clear hs hl1 c0 hl3
    obtain ⟨pe, hpe⟩ : ∃ pe, pe = pre ++ endsF X ws f l := ⟨_, rfl⟩
    rw [← hpe] at HJ1 HLT
    have HPE := Aside0.mk hpe
    clear hpe
    go_wp2_with fail
    go_loopg [64] X.l0.length (fun n s64 wr => ∃ j : Nat, j + n = X.l0.length ∧ s64 = .int .i64 (j : Int) ∧ Aside0 (BW X S fits w0 lr bs byy bn ws Aw k cw l Al bv W wr) ∧ Aside0 (J (pe ++ fillsTo X ws f l j) wr) ∧ (pe ++ fillsTo X ws f l j).length < most)
    case atStart => exact ⟨0, by omega, rfl, HB1, ⟨by rw [fillsTo_zero, List.append_nil]; exact HJ1.out⟩, by rw [fillsTo_zero, List.append_nil]; exact HLT.out⟩
    case round =>
      clear HB1 HJ1 HLT
      obtain ⟨j, hjn, rfl, HB, HJ, hlt⟩ := hrel
      have HJN := Aside0.mk hjn
      have HLT := Aside0.mk hlt
      clear hjn hlt
      have hn0 : (X.l0.length : Int) ≤ 1000 := by have := HL.out.n0; omega
      by_cases hj : j < X.l0.length
      · have hjz : (j : Int) < (X.l0.length : Int) := by omega
        have hjd : decide (j < X.l0.length) = true := decide_eq_true hj
        obtain ⟨a0, eA0, y0, y1⟩ := at_T53 (HB.out.fw.aw H0.out).sr.h0 (j : Int) (by omega) (by omega)
        simp only [Int.toNat_natCast] at y0 y1
        obtain ⟨wd, hwd⟩ : ∃ wd, wd = rd_T53 X.l0 (j : Int) := ⟨_, rfl⟩
        rw [← hwd] at y0 y1
        have HWD := Aside0.mk hwd
        rw [← HA0.out] at eA0
        subst eA0
        have HTS := Aside0.mk (show fillsTo X ws f l (j + 1) = fillsTo X ws f l j ++ fillW X ws f l (wd, j) by rw [hwd]; exact fillsTo_succ X ws f l j hj)
        have HJ1 := Aside0.mk hj
        clear hwd
        have hl4 := World.block_lt_of_cell? wr _ y0
        go_upto_region 12 with fail
        obtain ⟨bw, hbw⟩ : ∃ b, b = wr.heap.size := ⟨_, rfl⟩
        refine wp_gen (fun wx => Aside0 (BW X S fits w0 lr bs byy bn ws Aw k cw l Al bv W wx) ∧ Aside0 (J (pe ++ fillsTo X ws f l j) wx) ∧ Aside0 (WdAt wx bw wd)) ⟨⟨HB.out.alloc _⟩, ⟨jt_below HJJ.out HJ.out ((Below.refl _ _).alloc (Nat.le_refl _) _)⟩, ⟨by rw [hbw]; exact blk_new wr _⟩⟩ ?_
        rw [← hbw]
        clear hbw HB HJ y0 y1 hl4
        rintro wx ⟨HB, HJ, HBW⟩
        clear wr
        have h5 := HL.out.wd j hj
        rw [← HWD.out] at h5
        obtain ⟨h5a, h5b, h5c, h5d⟩ := h5
        have HMY := Aside0.mk (may_calls X S fits 0 0 0 0 k f wd.f1 wx (HB.out.fw.aw H0.out).sr h5c h5d hf0 (by rw [HL.out.l3]; exact hf1) (by rw [HL.out.l3r f hf0 hf1]; exact h5d) (by omega))
        obtain ⟨mv, hmv⟩ : ∃ mv, mv = mayV X k f wd.f1 := ⟨_, rfl⟩
        rw [← hmv] at HMY
        have HMV := Aside0.mk hmv
        clear hmv
        have hs := HB.out.fw.hs.cell
        have hl1 := blk_lt HB.out.fw.hs
        have hv := (blk_cell HB.out.hv 0).trans (show (#[Value.slice Aw k cw] : Array Value)[0]? = some _ from rfl)
        have hl2 := blk_lt HB.out.hv
        obtain ⟨d0, d1⟩ := HBW.out.cells
        have hl3 := blk_lt HBW.out
        cases mv with
        | false =>
          have HFW := Aside0.mk (show fillW X ws f l (wd, j) = [] by unfold fillW; rw [HWK.out, ← HMV.out]; rfl)
          go_wp2_with (go_at_call 80; refine HMY.out.mono ?_; rintro e w2 ⟨rfl, hB2⟩; have HB2 := Aside0.mk (HB.out.below hB2); have HJ2 := Aside0.mk (jt_below HJJ.out HJ.out hB2); clear hB2)
          go_roundg (gk - 1)
          case measure => have := HJN.out; have := HJ1.out; omega
          case rel =>
            have hts := HTS.out
            rw [HFW.out, List.append_nil] at hts
            refine ⟨j + 1, by have := HJN.out; have := HJ1.out; omega, by go_num, HB2, ?_, ?_⟩
            · rw [hts]; exact HJ2
            · rw [hts]; exact HLT.out
        | true =>
          have hk8 : k < 8 := by
            by_cases h : k < 8
            · exact h
            · have h2 := HMV.out
              rw [mayV_full (by omega)] at h2
              cases h2
          have HK8 := Aside0.mk hk8
          have HAL := Aside0.mk (show Rec X S fits (k + 1) ((k : Int) + 1) by
            have := alive_calls X S fits HX.out HL.out (8 - (k + 1)) (k + 1) (by omega)
            rwa [show ((k + 1 : Nat) : Int) = (k : Int) + 1 by omega] at this)
          obtain ⟨lw, hlw⟩ : ∃ lw, lw = wordF (rwOf X) l (bytesOf wd.f0) := ⟨_, rfl⟩
          have hc8 : cntL (rwOf X) l 8 ≤ 1000000000 := Nat.le_trans (cntL_tmono _ _ (by omega)) HCN.out
          have HLOK := Aside0.mk (show ∀ q ∈ lw, OkP X q by rw [hlw, HWD.out]; exact word_okP HX.out HL.out _ HOK.out j hj)
          have HLLN := Aside0.mk (show lw.length ≤ 1000000000 by rw [hlw, HWD.out]; exact word_len HX.out HL.out _ HOK.out hc8 j hj)
          have HWF := Aside0.mk (fun (w2 : World) (h : BW X S fits w0 lr bs byy bn ws Aw k cw l Al bv W w2) => show Calls Try.prog 99 #[.pointer (some ⟨S.b, 0, none⟩), .slice Al l.length cl, .string wd.f0] w2 fun e w' => ∃ v, e = .returned v ∧ PR w2 w' v lw ∧ Below w2.heap.size w2 w' by
            rw [hlw, HWD.out]
            exact word_full X S fits HX.out HL.out l HOK.out hc8 j hj Al cl HCL.out w2 (h.fw.aw H0.out).sr h.rl.c)
          obtain ⟨nx, hnx⟩ : ∃ nx, nx = lw.filter fun q => aliveV X q (k + 1) wd.f1 := ⟨_, rfl⟩
          have HST := Aside0.mk (fun (w2 : World) (h : C10 X S fits bs bv bw Aw k cw wd w2) (v : Value) (w : World) (hb : Below w2.heap.size w2 w) (hr : kP.R 154 w w2.heap.size (fun _ => True) v lw) => show Calls Try.prog 100 #[v, .func (.func 101) #[] #[.pointer (some ⟨bs, 0, none⟩), .pointer (some ⟨bv, 0, none⟩), .pointer (some ⟨bw, 0, none⟩)]] w fun e w' => ∃ v', e = .returned v' ∧ kP.R 154 w' w2.heap.size (fun _ => True) v' nx ∧ AW X S fits w' ∧ w2.grownBy w' (some S.mb) by
            rw [hnx]
            exact strike_calls X S fits bs bv bw Aw k cw (by omega) wd h5c h5d HAL.out w2 h v lw HLLN.out HLOK.out w hb hr)
          have HNOK := Aside0.mk (show ∀ q ∈ nx, OkP X q by rw [hnx]; exact fun q hq => HLOK.out q ((List.mem_filter.1 hq).1))
          have HNC := Aside0.mk (show cntL (rwOf X) nx (8 * (8 - (k + 1))) ≤ 1000000000 by rw [hnx, hlw, HWD.out]; exact cnt_word HX.out HL.out HOK.out hk8 HCN.out j hj _)
          have HFW := Aside0.mk (show fillW X ws f l (wd, j) = fillK X (ws ++ [(j : Int)]) wd.f1 nx by
            unfold fillW
            rw [HWK.out, ← HMV.out, if_pos rfl, hnx, hlw])
          clear hlw hnx hc8
          go_upto_region 15 with (first
            | (go_at_call 80; refine HMY.out.mono ?_; rintro e w2 ⟨rfl, hB2⟩; have HB2 := Aside0.mk (HB.out.below hB2); have HJ2 := Aside0.mk (jt_below HJJ.out HJ.out hB2); have HBW2 := Aside0.mk (show WdAt w2 bw wd from blk_below HBW.out hB2); clear hB2 hs hl1 hv hl2 d0 d1 hl3; have hs := HB2.out.fw.hs.cell; have hl1 := blk_lt HB2.out.fw.hs; obtain ⟨d0, d1⟩ := HBW2.out.cells; have hl3 := blk_lt HBW2.out)
            | (go_at_call 99; refine (HWF.out w2 HB2.out).mono ?_; rintro e w3 ⟨v, rfl, hv3, hB3⟩; have HV3 := Aside0.mk hv3; have HB3 := Aside0.mk hB3; clear hB3 hv3)
            | (go_at_call 100; refine (HST.out w2 ⟨HB2.out.fw.aw H0.out, HB2.out.fw.hs, HB2.out.hv, HBW2.out⟩ v w3 HB3.out HV3.out).mono ?_; rintro e w4 ⟨v', rfl, hv4, hA4, hG4⟩; obtain ⟨A4, c4, rfl, hc4, hr4⟩ := Rd.of_R hv4; have HR4 := Aside0.mk hr4; have HC4 := Aside0.mk hc4; have HB4 := Aside0.mk (HB2.out.wk' (WK.of_grown hG4) hA4.memo); have HJ4 := Aside0.mk (HJJ.out _ _ _ HJ2.out hG4); have HBW4 := Aside0.mk (show WdAt w4 bw wd from (HB2.out.fw.aw H0.out).keep hG4 HBW2.out); clear hv4 hA4 hG4 hr4 hc4))
          clear hs hl1 d0 d1 hl3
          by_cases hz : nx.length = 0
          · have hzd : decide (0 < nx.length) = false := decide_eq_false (by omega)
            have HNIL := Aside0.mk (show fillW X ws f l (wd, j) = [] by
              rw [HFW.out, List.eq_nil_of_length_eq_zero hz]
              exact fillF_nil X _ _ _)
            clear hz
            go_quiet (fail)
            go_wp2_with fail
            go_roundg (gk - 1)
            case measure => have := HJN.out; have := HJ1.out; omega
            case rel =>
              have hts := HTS.out
              rw [HNIL.out, List.append_nil] at hts
              refine ⟨j + 1, by have := HJN.out; have := HJ1.out; omega, by go_num, ⟨HB4.out.below (pw_below_drewN (Below.refl _ _) _)⟩, ?_, ?_⟩
              · rw [hts]; exact ⟨jt_below HJJ.out HJ4.out (pw_below_drewN (Below.refl _ _) _)⟩
              · rw [hts]; exact HLT.out
          · have hzd : decide (0 < nx.length) = true := decide_eq_true (by omega)
            have en := (blk_cell HB4.out.fw.hn 0).trans (show (#[Value.func (.func 96) #[] (capF bs byy bn)] : Array Value)[0]? = some _ from rfl)
            simp only [capF] at en
            have enl := blk_lt HB4.out.fw.hn
            have ev := (blk_cell HB4.out.hv 0).trans (show (#[Value.slice Aw k cw] : Array Value)[0]? = some _ from rfl)
            have evl := blk_lt HB4.out.hv
            have d1 := HBW4.out.cells.2
            have dl := blk_lt HBW4.out
            have HBD := Aside0.mk (show Below w4.heap.size w4 w4.drew from below_drew (Below.refl _ _))
            have HBA := Aside0.mk (show Below w4.heap.size w4 (w4.alloc (.cells #[.int .i64 (j : Int)] 3)).drew from below_drew ((Below.refl _ _).alloc (Nat.le_refl _) _))
            have HCLN := Aside0.mk (fun (W' : World) (hb : Below w4.heap.size w4 W') => show Calls Try.prog 98 #[.slice Aw k cw] W' fun e w' => ∃ v, e = .returned v ∧ kI.R 3 w' w4.heap.size (fun _ => True) v ws ∧ Below W'.heap.size W' w' by
              have h := clone_calls Aw cw ws W' (HB4.out.rw.below hb).c (by rw [HWK.out]; omega)
              rw [HWK.out] at h
              refine h.mono ?_
              rintro e w' ⟨v, rfl, hr, hb2⟩
              exact ⟨v, rfl, Kd.R_lower hr hb.size, hb2⟩)
            have HLEN := Aside0.mk (show (ws ++ [(j : Int)]).length = k + 1 by rw [List.length_append, HWK.out]; rfl)
            obtain ⟨gb, hgb⟩ : ∃ gb, gb = decide ((pe ++ fillsTo X ws f l j ++ fillK X (ws ++ [(j : Int)]) wd.f1 nx).length < most) := ⟨_, rfl⟩
            have HGB := Aside0.mk hgb
            have HRC := Aside0.mk (fun (A6 : Option Addr) (c6 : Nat) (w6 : World) (hb : Below w4.heap.size w4 w6) (hc : k + 1 ≤ c6) (hr : Rd kI 3 w6 A6 (ws ++ [(j : Int)])) => show Calls Try.prog 96 #[.slice A6 (k + 1) c6, .int .i64 wd.f1, .slice A4 nx.length c4, .pointer (some ⟨bs, 0, none⟩), .pointer (some ⟨byy, 0, none⟩), .pointer (some ⟨bn, 0, none⟩)] w6
                fun e W' => e = .returned (.bool gb) ∧ J ((pe ++ fillsTo X ws f l j ++ fillW X ws f l (wd, j)).take most) W' ∧ WK w0.heap.size S.mb w6 W' ∧ MemoAt Try.prog 139 (AliveR X) W' S.mb ∧ BW X S fits w0 lr bs byy bn ws Aw k cw l Al bv W W' ∧ WdAt W' bw wd by
              have h := HREC.out hk8 (ws ++ [(j : Int)]) wd.f1 nx A6 A4 c6 c4 (pe ++ fillsTo X ws f l j) w6 HLEN.out h5c h5d HNOK.out HNC.out hc HC4.out hr (HR4.out.below hb) (HB4.out.fw.below hb) (jt_below HJJ.out HJ4.out hb) HLT.out
              unfold WalkOut at h
              rw [← hgb, ← HFW.out] at h
              refine h.mono ?_
              rintro e W' ⟨h1, h2, h3, h4⟩
              have hw6 : WdAt w6 bw wd := blk_below HBW4.out hb
              exact ⟨h1, h2, h3, h4, (HB4.out.below hb).wk' h3 h4, h3.cells hw6 ((HB4.out.fw.below hb).ne hw6) (by decide) (by decide)⟩)
            have HS4 := Aside0.mk (fun (W' : World) (h : Below w4.heap.size w4 W') => (show W'.cell? ⟨bn, 0, none⟩ = some (.func (.func 96) #[] #[.pointer (some ⟨bs, 0, none⟩), .pointer (some ⟨byy, 0, none⟩), .pointer (some ⟨bn, 0, none⟩)]) ∧ W'.cell? ⟨bv, 0, none⟩ = some (.slice Aw k cw) ∧ W'.cell? ⟨bw, 1, none⟩ = some (.int .i64 wd.f1) from
              ⟨(h.cell (p := ⟨bn, 0, none⟩) enl).trans en, (h.cell (p := ⟨bv, 0, none⟩) evl).trans ev, (h.cell (p := ⟨bw, 1, none⟩) dl).trans d1⟩))
            clear hz hgb hk8
            go_region_held3 (fun w' => w'.cell? ⟨bn, 0, none⟩ = some (.func (.func 96) #[] #[.pointer (some ⟨bs, 0, none⟩), .pointer (some ⟨byy, 0, none⟩), .pointer (some ⟨bn, 0, none⟩)]) ∧ w'.cell? ⟨bv, 0, none⟩ = some (.slice Aw k cw) ∧ w'.cell? ⟨bw, 1, none⟩ = some (.int .i64 wd.f1))
              (first
                | exact HS4.out _ HBD.out
                | exact HS4.out _ HBA.out
                | exact HS7.out
                | exact HS4.out _ HB6.out
                | exact HS4.out _ HB5.out
                | exact HS4.out _ (HB5.out.alloc HZ5.out _)
                | go_keep)
              (first
                | (go_at_call 98; refine (HCLN.out w4.drew HBD.out).mono ?_; rintro e w5 ⟨v5, rfl, hv5, hB5⟩; obtain ⟨A5, c5, rfl, -, -⟩ := Rd.of_R' hv5 HWK.out; have HV5 := Aside0.mk hv5; have HB5 := Aside0.mk (show Below w4.heap.size w4 w5 from HBD.out.trans hB5); have HZ5 := Aside0.mk HB5.out.size; have VA := Aside0.mk trivial; clear hv5 hB5)
                | (go_at_call 98; refine (HCLN.out (w4.alloc (.cells #[.int .i64 (j : Int)] 3)).drew HBA.out).mono ?_; rintro e w5 ⟨v5, rfl, hv5, hB5⟩; obtain ⟨A5, c5, rfl, -, -⟩ := Rd.of_R' hv5 HWK.out; have HV5 := Aside0.mk hv5; have HJB := Aside0.mk (show w5.heap[w4.heap.size]? = some (.cells #[.int .i64 (j : Int)] 3 (0, 0)) from blk_below (show (w4.alloc (.cells #[.int .i64 (j : Int)] 3)).drew.heap[w4.heap.size]? = _ from blk_new w4 _) hB5); have HB5 := Aside0.mk (show Below w4.heap.size w4 w5 from HBA.out.trans (hB5.mono HBA.out.size)); have HZ5 := Aside0.mk HB5.out.size; clear hv5 hB5)
                | (go_at_call 96; refine (HRC.out A6 c6 w6 HB6.out HC6.out HR6.out).mono ?_; rintro e w7 ⟨rfl, hj7, hk7, hm7, hb7, hw7⟩; have HJ7 := Aside0.mk hj7; have HB7 := Aside0.mk hb7; have HW7 := Aside0.mk hw7; have HS7 := Aside0.mk (show w7.cell? ⟨bn, 0, none⟩ = some (.func (.func 96) #[] #[.pointer (some ⟨bs, 0, none⟩), .pointer (some ⟨byy, 0, none⟩), .pointer (some ⟨bn, 0, none⟩)]) ∧ w7.cell? ⟨bv, 0, none⟩ = some (.slice Aw k cw) ∧ w7.cell? ⟨bw, 1, none⟩ = some (.int .i64 wd.f1) from ⟨(blk_cell hb7.fw.hn 0).trans rfl, (blk_cell hb7.hv 0).trans rfl, hw7.cells.2⟩); clear hj7 hk7 hm7 hb7 hw7)
                | (refine Kd.R_append_rows_step kI (w0 := w4) (Rr := fun y cs => cs = [.int .i64 y]) w4.heap.size rfl _ _ 22 3 (.int .i64 0) 8 rfl Try.underlying22 (by kernel_rfl) rfl (by decide) (by omega) (.slice A5 k c5) ws [(j : Int)] (some ⟨w5.heap.size, 0, none⟩) 1 1 (fun _ => True) (fun _ => False) rfl rfl (Kd.R_alloc HV5.out _) (row_one (blk_cell (blk_new w5 _) 0)) ?_ (fun _ h => h.elim) (fun _ _ => trivial) (HB5.out.alloc HZ5.out _) (by have := HZ5.out; simp; omega) ?_ ?_
                   · exact fun x cs h => h
                   · (rw [HWK.out]; omega)
                   intro v6 w6 hv6 hB6 hG6 hat6
                   obtain ⟨A6, c6, rfl, hc6, hr6⟩ := Rd.of_R' hv6 HLEN.out
                   have HR6 := Aside0.mk hr6
                   have HC6 := Aside0.mk hc6
                   have HB6 := Aside0.mk hB6
                   clear hv6 hB6 hG6 hat6 hr6 hc6)
                | (refine Kd.R_append_rows_step kI (w0 := w4) (Rr := fun y cs => cs = [.int .i64 y]) w4.heap.size rfl _ _ 22 3 (.int .i64 0) 8 rfl Try.underlying22 (by kernel_rfl) rfl (by decide) (by omega) (.slice A5 k c5) ws [(j : Int)] (some ⟨w4.heap.size, 0, none⟩) 1 1 (fun _ => True) (fun _ => False) rfl rfl HV5.out (row_one (blk_cell HJB.out 0)) ?_ (fun _ h => h.elim) (fun _ _ => trivial) HB5.out HZ5.out ?_ ?_
                   · exact fun x cs h => h
                   · (rw [HWK.out]; omega)
                   intro v6 w6 hv6 hB6 hG6 hat6
                   obtain ⟨A6, c6, rfl, hc6, hr6⟩ := Rd.of_R' hv6 HLEN.out
                   have HR6 := Aside0.mk hr6
                   have HC6 := Aside0.mk hc6
                   have HB6 := Aside0.mk hB6
                   clear hv6 hB6 hG6 hat6 hr6 hc6))
            all_goals
              have HTS2 := Aside0.mk (show pe ++ fillsTo X ws f l (j + 1) = pe ++ fillsTo X ws f l j ++ fillW X ws f l (wd, j) by rw [HTS.out, List.append_assoc])
              have HGB2 := Aside0.mk (show gb = decide ((pe ++ fillsTo X ws f l (j + 1)).length < most) by rw [HTS2.out, HFW.out]; exact HGB.out)
              rw [← HTS2.out] at HJ7
              cases gb with
              | true =>
                have hlt7 := of_decide_eq_true HGB2.out.symm
                have HLT7 := Aside0.mk hlt7
                rw [List.take_of_length_le (Nat.le_of_lt hlt7)] at HJ7
                clear hlt7
                go_wp2_with fail
                go_roundg (gk - 1)
                case measure => have := HJN.out; have := HJ1.out; omega
                case rel => exact ⟨j + 1, by have := HJN.out; have := HJ1.out; omega, by go_num, HB7, HJ7, HLT7.out⟩
              | false =>
                have HLT7 := Aside0.mk (of_decide_eq_false HGB2.out.symm)
                obtain ⟨rr, hrr⟩ := fillK_cut X ws f l (by rw [HWK.out]; exact hk) (j + 1)
                have HALL := Aside0.mk (show pre ++ fillK X ws f l = (pe ++ fillsTo X ws f l (j + 1)) ++ rr by rw [hrr, HPE.out, List.append_assoc, List.append_assoc])
                clear hrr
                go_wp2_with fail
                go_ret
                refine ⟨?_, ?_, HB7.out.wk, HB7.out.fw.memo⟩
                · rw [HALL.out, decide_eq_false (by rw [List.length_append]; have := HLT7.out; omega)]
                  rfl
                · rw [HALL.out, List.take_append_of_le_length (by have := HLT7.out; omega)]
                  exact HJ7.out
      · have hjz : ¬ (j : Int) < (X.l0.length : Int) := by omega
        have hjd : decide (j < X.l0.length) = false := decide_eq_false hj
        have HALL := Aside0.mk (show pre ++ fillK X ws f l = pe ++ fillsTo X ws f l j by rw [HPE.out, List.append_assoc, ← fillsTo_all X ws f l j (by omega) (by rw [HWK.out]; exact hk)])
        go_wp2_with fail
        go_ret
        refine ⟨?_, ?_, HB.out.wk, HB.out.fw.memo⟩
        · rw [HALL.out, decide_eq_true HLT.out]
          rfl
        · rw [HALL.out, List.take_of_length_le (Nat.le_of_lt HLT.out)]
          exact HJ.out
end Go.Proofs.Ytkfebceainedfaa.P.OwnGap
