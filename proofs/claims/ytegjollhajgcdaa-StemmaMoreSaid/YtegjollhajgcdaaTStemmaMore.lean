/- The statement StemmaMore holds of the given program. Conditions: none beyond those of its row. -/
import Derived.BigQuiet
import Derived.SizedLaws
import Derived.ChangeSlices
import Derived.Test.YtegjollhajgcdaaRows
import Derived.WalkKit
import Derived.ProofKit
import Derived.OpenShut
import Derived.ShutString
import Derived.ChangeOld
import Derived.Below
import Derived.Test.YtegjollhajgcdaaB4
set_option linter.unusedVariables false
set_option linter.unusedSimpArgs false
namespace Go.Proofs.Ytegjollhajgcdaa.P
open Go.RowKit Go.Proofs.YtegjollhajgcdaaW.PrintWords Go.Proofs.YtegjollhajgcdaaW.PrintLast Go.Proofs.YtegjollhajgcdaaW.PrintMore
attribute [local go_sem] max2_int min2_int max_two min_two max_three min_three max_four min_four   -- for this text's walks alone
set_option linter.unusedVariables false
set_option linter.unusedSimpArgs false
def cippuskit_CopyCopies.f (l0 : List (S24)) : Option ((List (S24))) := (some (([] : List (S24)) : List (S24))).bind fun y110 => (if y110.length + l0.length < 4398046511104 then (some (y110 ++ l0)) else (none))
set_option maxHeartbeats 8000000 in
set_option maxRecDepth 100000 in
theorem cippuskit_CopyCopies.calls (A0 : Option Addr) (c0 : Nat) (l0 : List (S24)) (r : List (S24)) (w : World) (hr0 : Kd.C k24 w A0 l0.length l0) (hc0 : l0.length ≤ c0) (h : cippuskit_CopyCopies.f l0 = some r) :
    Calls Try.prog 15 #[.slice A0 l0.length c0] w fun e w' => ∃ v0_ : Value, e = .returned (v0_) ∧ Kd.R k24 24 w' w.heap.size (fun _ => True) v0_ r ∧ Below w.heap.size w w' := by
  have HR0 := Aside0.mk hr0
  have HC0 := Aside0.mk hc0
  clear hr0 hc0
  have HB := Aside0.mk (Below.refl w.heap.size w)
  have H : ((some (([] : List (S24)) : List (S24))).bind fun y110 => (if y110.length + l0.length < 4398046511104 then (some (y110 ++ l0)) else (none))) = some r := h
  clear h
  obtain ⟨y110, hy110⟩ : ∃ y_ : List (S24), y_ = (([] : List (S24))) := ⟨_, rfl⟩
  replace H : (if y110.length + l0.length < 4398046511104 then (some (y110 ++ l0)) else (none)) = some r := by first | (rw [hy110]; with_reducible exact H) | (have H2_ := (Option.bind_some _ _).symm.trans H; rw [hy110]; with_reducible exact H2_) | (have H2_ := (Option.bind_some _ _).symm.trans H; with_reducible exact H2_) | with_reducible exact H | (rw [hy110]; exact H) | exact H
  have Ny110 := Aside0.mk hy110
  clear hy110
  by_cases c2 : y110.length + l0.length < 4398046511104
  · rw [if_pos c2] at H
    have LMc2 := Aside0.mk c2
    clear c2
    obtain ⟨y113, hy113⟩ : ∃ y_ : List (S24), y_ = (y110 ++ l0) := ⟨_, rfl⟩
    replace H : (some y113) = some r := by first | (rw [hy113]; with_reducible exact H) | (have H2_ := (Option.bind_some _ _).symm.trans H; rw [hy113]; with_reducible exact H2_) | (have H2_ := (Option.bind_some _ _).symm.trans H; with_reducible exact H2_) | with_reducible exact H | (rw [hy113]; exact H) | exact H
    have Ny113 := Aside0.mk hy113
    clear hy113
    obtain rfl := Option.some.inj H
    go_enter Try.func15, Try.ntmps15
    go_wp2_with (first | ((with_reducible refine gate_dst (N := 3) rfl ?_); refine Kd.R_lit k24 _ 24 ?hg (N := 3) ?hd (xs := ([] : List (S24))) (inner := []) (ok := fun _ => True) (okp := fun _ => True) ?hr ?hp (fun _ hk => hk) trivial (Below.refl _ _) (Nat.le_refl _) (by simp) ?_; (case hd => rfl); (case hg => rfl); (case hr => first | (go_simp; done) | (go_simp; rfl)); (case hp => exact (Reps.none _ _)); intro v111 w3 ho4 hb hg_ hnew_; clear hg_ hnew_; (first | rw [← Ny110.out] at ho4 | (simp only [Int.reduceToNat] at ho4; rw [← Ny110.out] at ho4)); have n0_ := Aside0.mk (Kd.R_lower ho4 (below_size (by repeat (first | (with_reducible first | exact HB.out | apply below_alloc | apply pw_below_drewN | apply below_drew1) | exact HB.out)))); have n1_ := Aside0.mk (below_step (by repeat (first | (with_reducible first | exact HB.out | apply below_alloc | apply pw_below_drewN | apply below_drew1) | exact HB.out)) hb); clear HB; have HO112 := n0_; have HB := n1_; clear n0_ n1_; clear hb ho4) | ((with_reducible refine gate_builtin (b := .append) (xs := #[.tmp 3, .tmp 4]) rfl ?_); at_builtin; refine Kd.R_append_rows k24 (w0 := w) w.heap.size rfl (.tmp 3) (.tmp 4) 22 24 (.agg #[(.string ⟨#[]⟩), (.int .i64 0), (.bool false)]) 32 rfl Try.underlying22 info24 rfl (by decide) (by omega) v111 y110 l0 _ _ _ (fun _ => True) (fun _ => False) rfl rfl ?aO ?aR (fun _ _ h => h) (fun _ h => h.elim) ?aF ?aB ?aS ?aL ?_; (case aR => repeat (first | exact (Kd.C_below HR0.out HB.out) | (with_reducible refine Kd.C_alloc ?_ _) | (with_reducible refine Kd.C_drewN ?_ _) | (with_reducible refine Kd.C_drew ?_))); (case aB => exact (by repeat (first | (with_reducible first | exact HB.out | apply below_alloc | apply pw_below_drewN | apply below_drew1) | exact HB.out))); (case aF => exact (fun _ _ => trivial)); (case aO => exact (by (with_reducible repeat (first | apply Kd.R_alloc | apply Kd.R_drewN | apply Kd.R_drew)); exact HO112.out)); (case aS => exact (below_size (by repeat (first | (with_reducible first | exact HB.out | apply below_alloc | apply pw_below_drewN | apply below_drew1) | exact HB.out)))); (case aL => have := LMc2.out; omega); intro v114 w5 ho hb hg hat; rw [← Ny113.out] at ho; have n0_ := Aside0.mk (hb); have n1_ := Aside0.mk (ho); clear HB; clear HO112; have HB := n0_; have HO115 := n1_; clear n0_ n1_; clear ho hb hg hat))
    go_ret
    exact ⟨_, by first | rfl | (simp [errW_none, errW_some] <;> rfl) | (simp [*, errW_none, errW_some] <;> rfl), by (with_reducible repeat (first | apply Kd.R_alloc | apply Kd.R_drewN | apply Kd.R_drew)); exact HO115.out, by repeat (first | (with_reducible first | exact HB.out | apply below_alloc | apply pw_below_drewN | apply below_drew1) | exact HB.out)⟩
  · rw [if_neg c2] at H
    exact absurd H (by simp)
end Go.Proofs.Ytegjollhajgcdaa.P
namespace Go.Proofs.Ytegjollhajgcdaa.P.OwnSt
open Go.RowKit Go.Shelf Go.Proofs.YtegjollhajgcdaaW.PrintWords Go.Proofs.YtegjollhajgcdaaW.PrintLast Go.Proofs.YtegjollhajgcdaaW.PrintMore
set_option linter.unusedVariables false
set_option linter.unusedSimpArgs false
theorem rd_set (l : List S24) (i : Nat) (x : S24) (hi : i < l.length) (k : Nat) : rd_T24 (l.set i x) (k : Int) = if k = i then x else rd_T24 l (k : Int) := by
  unfold rd_T24
  rw [List.getD_eq_getElem?_getD, List.getD_eq_getElem?_getD, Int.toNat_natCast]
  by_cases e : k = i
  · subst e
    rw [if_pos rfl, List.getElem?_set_self hi]
    rfl
  · rw [if_neg e, List.getElem?_set_ne (fun h => e h.symm)]
def LessC (y x : S24) : Prop := x.f0 = y.f0 ∧ (0 ≤ x.f1 ∧ x.f1 ≤ y.f1) ∧ (x.f2 = true → y.f2 = true)
theorem hsum_text {l l' : List S24} {s t : Nat → Int} {i : Nat} (h : (rd_T24 l' (i : Int)).f0 = (rd_T24 l (i : Int)).f0) : ∀ rem p, hsum l' s t i rem p = hsum l s t i rem p := by
  intro rem
  induction rem with
  | zero => intro p; rfl
  | succ rem ih =>
    intro p
    unfold hsum hit
    rw [ih, h]
theorem sub_less {l l' : List S24} (hv : Valid l) (hlen : l'.length = l.length) (h : ∀ i : Nat, i < l.length → LessC (rd_T24 l (i : Int)) (rd_T24 l' (i : Int))) : SubT l l' l.length id := by
  have h0 : (rd_T24 l' 0).f0 = (rd_T24 l 0).f0 := (h 0 (by have := hv.one; omega)).1
  have hv' : Valid l' := ⟨by rw [hlen]; exact hv.one, by rw [hlen]; exact hv.five, fun i hi => by rw [(h i (by omega)).1, h0]; exact hv.size i (by omega), by rw [h0]; exact hv.low, by rw [h0]; exact hv.high,
    fun i hi => by have h1 := h i (by omega); have h2 := hv.err i (by omega); exact ⟨h1.2.1.1, by have := h1.2.1.2; omega⟩, fun i hi p hp => by rw [h0] at hp; rw [(h i (by omega)).1]; exact hv.good i (by omega) p hp⟩
  refine ⟨hv, hv', fun s k hk => rfl, fun s t hs ht => ⟨⟨fun k hk => ?_, fun k hk => hs.2 k (by omega)⟩, ⟨ht.1, fun i hi h2 => ?_⟩, ?_⟩⟩
  · have h1 := hs.1 k (by omega)
    refine ⟨h1.1, h1.2.1, ?_⟩
    have h3 := h1.2.2
    unfold canF at h3 ⊢
    show (if s k == -1 then _ else _) = true
    by_cases e : s k = -1
    · rw [e] at h3 ⊢
      exact (h k hk).2.2 h3
    · rw [if_neg (by simpa using e)] at h3 ⊢
      obtain ⟨j, hj⟩ : ∃ j : Nat, s k = (j : Int) := ⟨(s k).toNat, by omega⟩
      show decide (apN (rd_T24 l (s k)).f0 (rd_T24 l (k : Int)).f0 (rd_T24 l (s k)).f0.size ≤ (rd_T24 l (k : Int)).f1) = true
      rw [hj] at h3 ⊢
      rw [(h j (by omega)).1, (h k hk).1] at h3
      have h4 := of_decide_eq_true h3
      have h5 := (h k hk).2.1.2
      exact decide_eq_true (by omega)
  · have h3 := ht.2 i (by omega)
    rw [h0, hsum_text (h i hi).1] at h3
    have h4 := h3 h2
    have h5 := (h i hi).2.1.2
    show hsum l s t i _ 0 ≤ _
    omega
  · show costT l s t + apTo l s l.length ≤ _
    unfold costT
    rw [h0, cost_sum, cost_sum, apTo_sum, apTo_sum, hlen]
    have e1 : sumTo (fun i => hsum l' s t i (rd_T24 l 0).f0.size 0) l.length = sumTo (fun i => hsum l s t i (rd_T24 l 0).f0.size 0) l.length := sumTo_congr _ fun i hi => hsum_text (h i hi).1 _ _
    have e2 : sumTo (fun k => if s k = -1 then 0 else apN (rd_T24 l' (s k)).f0 (rd_T24 l' (k : Int)).f0 (rd_T24 l' (s k)).f0.size) l.length = sumTo (fun k => if s k = -1 then 0 else apN (rd_T24 l (s k)).f0 (rd_T24 l (k : Int)).f0 (rd_T24 l (s k)).f0.size) l.length := sumTo_congr _ fun k hk => by
      show (if s k = -1 then 0 else _) = (if s k = -1 then 0 else _)
      by_cases e : s k = -1
      · rw [if_pos e, if_pos e]
      · have h1 := hs.1 k (by omega)
        obtain ⟨j, hj⟩ : ∃ j : Nat, s k = (j : Int) := ⟨(s k).toNat, by omega⟩
        rw [if_neg e, if_neg e, hj, (h j (by omega)).1, (h k hk).1]
    rw [e1, e2]
    exact Int.le_refl _
def LessAll (l x : List S24) : Prop := x.length = l.length ∧ ∀ i : Nat, i < l.length → LessC (rd_T24 l (i : Int)) (rd_T24 x (i : Int))
theorem less_set {l : List S24} (hv : Valid l) (i : Nat) (hi : i < l.length) (x : S24) (hx : LessC (rd_T24 l (i : Int)) x) : LessAll l (l.set i x) :=
  ⟨by simp, fun k hk => by
    rw [rd_set l i x hi k]
    by_cases e : k = i
    · subst e; rw [if_pos rfl]; exact hx
    · rw [if_neg e]
      have := hv.err k hk
      exact ⟨rfl, ⟨this.1, Int.le_refl _⟩, id⟩⟩
end Go.Proofs.Ytegjollhajgcdaa.P.OwnSt
namespace Go.Proofs.Ytegjollhajgcdaa.P
open Go.RowKit Go.Proofs.YtegjollhajgcdaaW.PrintWords Go.Proofs.YtegjollhajgcdaaW.PrintLast Go.Proofs.YtegjollhajgcdaaW.PrintMore
mutual
def cippuslaw07_StemmaMore.j0 : Nat → List (List Int) → List (List Int) → Int → List ByteArray → List ByteArray → Int → Int → Bool → Option (Bool)
  | 0, _, _, _, _, _, _, _, _ => none
  | k + 1, x8, x10, x11, x12, x14, x16, x18, x103 => if x103 = true then (some false) else (if x11 = 9 then ((cippuslaw07_found.f k).bind fun t375 => (some t375)) else (if x11 = 0 then (if x18 < x16 then (cippuslaw07_StemmaMore.j1 k x8 x10 x12 x14 true) else (if (x8.length : Int) = (x10.length : Int) then (cippuslaw07_StemmaMore.j1 k x8 x10 x12 x14 ((x12.length : Int) != (x14.length : Int))) else (cippuslaw07_StemmaMore.j1 k x8 x10 x12 x14 true))) else (cippuslaw07_StemmaMore.j1 k x8 x10 x12 x14 true)))
def cippuslaw07_StemmaMore.j1 : Nat → List (List Int) → List (List Int) → List ByteArray → List ByteArray → Bool → Option (Bool)
  | 0, _, _, _, _, _ => none
  | k + 1, x8, x10, x12, x14, x127 => if x127 = true then (some false) else (cippuslaw07_StemmaMore.l0 k x8 x10 x12 x14 0)
def cippuslaw07_StemmaMore.l0 : Nat → List (List Int) → List (List Int) → List ByteArray → List ByteArray → Int → Option (Bool)
  | 0, _, _, _, _, _ => none
  | k + 1, x8, x10, x12, x14, x20 => if x20 < (x8.length : Int) then (if 0 ≤ x20 then (if x20 < (x10.length : Int) then (if ((rd_L4 x8 x20).length : Int) = ((rd_L4 x10 x20).length : Int) then (cippuslaw07_StemmaMore.l1 k x8 x10 x12 x14 x20 0) else (some false)) else (none)) else (none)) else (cippuslaw07_StemmaMore.l2 k x12 x14 0)
def cippuslaw07_StemmaMore.l1 : Nat → List (List Int) → List (List Int) → List ByteArray → List ByteArray → Int → Int → Option (Bool)
  | 0, _, _, _, _, _, _ => none
  | k + 1, x8, x10, x12, x14, x20, x21 => if 0 ≤ x20 then (if x20 < (x8.length : Int) then (if x21 < ((rd_L4 x8 x20).length : Int) then (if 0 ≤ x21 then (if (rd (rd_L4 x8 x20) x21) = 3 then (cippuslaw07_StemmaMore.l1 k x8 x10 x12 x14 x20 (wrap64 (x21 + 1))) else (if x20 < (x10.length : Int) then (if x21 < ((rd_L4 x10 x20).length : Int) then (if (rd (rd_L4 x10 x20) x21) = (rd (rd_L4 x8 x20) x21) then (cippuslaw07_StemmaMore.l1 k x8 x10 x12 x14 x20 (wrap64 (x21 + 1))) else (some false)) else (none)) else (none))) else (none)) else (cippuslaw07_StemmaMore.l0 k x8 x10 x12 x14 (wrap64 (x20 + 1)))) else (none)) else (none)
def cippuslaw07_StemmaMore.l2 : Nat → List ByteArray → List ByteArray → Int → Option (Bool)
  | 0, _, _, _ => none
  | k + 1, x12, x14, x22 => if x22 < (x12.length : Int) then (cippuslaw07_StemmaMore.l3 k x12 x14 x22 0) else ((cippuslaw07_found.f k).bind fun t385 => (some t385))
def cippuslaw07_StemmaMore.l3 : Nat → List ByteArray → List ByteArray → Int → Int → Option (Bool)
  | 0, _, _, _, _ => none
  | k + 1, x12, x14, x22, x23 => if 0 ≤ x22 then (if x22 < (x14.length : Int) then (if x23 < ((rdOf ByteArray.empty x14 x22).size : Int) then (if x22 < (x12.length : Int) then (if 0 ≤ x23 then ((cippuslaw07_has.f k (rdOf ByteArray.empty x12 x22) (bt (rdOf ByteArray.empty x14 x22) x23)).bind fun t389 => (if t389 = true then (cippuslaw07_StemmaMore.l3 k x12 x14 x22 (wrap64 (x23 + 1))) else (some false))) else (none)) else (none)) else (cippuslaw07_StemmaMore.l2 k x12 x14 (wrap64 (x22 + 1)))) else (none)) else (none)
end
def cippuslaw07_StemmaMore.f (k : Nat) (l0 : List (S24)) (l1 : List (S24)) : Option (Bool) := (stemma_Sources.f k l0).bind fun bt355 => ((stemma_Sources.f k l1).bind fun bt359 => ((stemma_Letters.f k l0).bind fun bt363 => ((stemma_Letters.f k l1).bind fun bt367 => ((stemma_Fewest.f k l0).bind fun bt371 => ((stemma_Fewest.f k l1).bind fun bt373 => (if bt355.2 = 0 then (if bt363.2 = 0 then (if bt371.2 = 0 then (if bt359.2 = bt367.2 then (cippuslaw07_StemmaMore.j0 k bt355.1 bt359.1 bt359.2 bt363.1 bt367.1 bt371.1 bt373.1 (bt359.2 != bt373.2)) else (cippuslaw07_StemmaMore.j0 k bt355.1 bt359.1 bt359.2 bt363.1 bt367.1 bt371.1 bt373.1 true)) else (cippuslaw07_StemmaMore.j0 k bt355.1 bt359.1 bt359.2 bt363.1 bt367.1 bt371.1 bt373.1 true)) else (cippuslaw07_StemmaMore.j0 k bt355.1 bt359.1 bt359.2 bt363.1 bt367.1 bt371.1 bt373.1 true)) else (cippuslaw07_StemmaMore.j0 k bt355.1 bt359.1 bt359.2 bt363.1 bt367.1 bt371.1 bt373.1 true)))))))
end Go.Proofs.Ytegjollhajgcdaa.P
namespace Go.Proofs.Ytegjollhajgcdaa.P.OwnSt
open Go.RowKit Go.Shelf Go.Proofs.YtegjollhajgcdaaW.PrintWords Go.Proofs.YtegjollhajgcdaaW.PrintLast Go.Proofs.YtegjollhajgcdaaW.PrintMore
set_option linter.unusedVariables false
set_option linter.unusedSimpArgs false
theorem copyCopies_eq (l : List S24) (h : l.length < 100) : cippuskit_CopyCopies.f l = some l := by
  unfold cippuskit_CopyCopies.f
  simp only [Option.bind_some, List.length_nil, List.nil_append]
  rw [if_pos (by omega)]
theorem R_block {α : Type} {d : Kd α} {e base : Nat} {ok : Nat → Prop} {w : World} {v : Value} {xs : List α} (h : d.R e w base ok v xs) (hn : 0 < xs.length) : ∃ g c, v = .slice (some ⟨g, 0, none⟩) xs.length c ∧ base ≤ g ∧ g < w.heap.size := by
  obtain ⟨_, inner, hown, _⟩ := h
  rcases hown.2 with ⟨_, h0⟩ | ⟨g, cap, cur, e1, hg, hh, _⟩
  · omega
  · exact ⟨g, cap, e1, hg, blk_lt hh⟩
theorem R_urn {α : Type} {d : Kd α} {e base : Nat} {ok : Nat → Prop} {v : Value} {xs : List α} {w0 W W' : World} {g : Nat} {a b : Int} (h : d.R e W base ok v xs) (hI : IsS72 w0 W g a b) (ht : ∀ q ∈ e :: d.E, q ≠ 72) (hk : KeepBut W W' g none) : d.R e W' base ok v xs :=
  Kd.R_mono (Kd.R_kept (S := fun k => k = g) (Kd.R_apart' (v := .slice (some ⟨g, 0, none⟩) 0 0) h (fun k hk => by
    have : g = k := by simpa [Value.ownBlock] using hk
    subst this
    exact ⟨_, hI.1⟩) ht) (Kept.of_keep (Kept.refl _ _) hk (.inl rfl)) (fun k hk e => hk.2 (by subst e; rfl))) (fun _ hk => hk.1)
structure MQ (w : World) (l : List S24) (g gl cl gx cx : Nat) (a b : Int) (x : List S24) (W : World) : Prop where
  below : Below w.heap.size w W
  urn : IsS72 w W g a b
  old : Kd.R k24 24 W w.heap.size (fun k => k < gx) (.slice (some ⟨gl, 0, none⟩) l.length cl) l
  new : Kd.R k24 24 W w.heap.size (fun k => w.heap.size ≤ k) (.slice (some ⟨gx, 0, none⟩) l.length cx) x
theorem MQ.urned {w : World} {l : List S24} {g gl cl gx cx : Nat} {a b a' b' : Int} {x : List S24} {W W' : World} (h : MQ w l g gl cl gx cx a b x W) (hI : IsS72 w W' g a' b') (hB : Below w.heap.size w W') (hk : KeepBut W W' g none) : MQ w l g gl cl gx cx a' b' x W' :=
  ⟨hB, hI, R_urn h.old h.urn (by decide) hk, R_urn h.new h.urn (by decide) hk⟩
theorem MQ.cells {w : World} {l : List S24} {g gl cl gx cx : Nat} {a b : Int} {x : List S24} {W : World} (h : MQ w l g gl cl gx cx a b x W) (hx : x.length = l.length) (i : Nat) (hi : i < l.length) :
    (W.cell? ⟨gx, i * 3, none⟩ = some (.string (rd_T24 x (i : Int)).f0) ∧ W.cell? ⟨gx, i * 3 + 1, none⟩ = some (.int .i64 (rd_T24 x (i : Int)).f1) ∧ W.cell? ⟨gx, i * 3 + 2, none⟩ = some (.bool (rd_T24 x (i : Int)).f2)) ∧ gx < W.heap.size := by
  have h1 := (Kd.R_reads' h.new).2.2
  obtain ⟨ad, hA, y0, y1, y2⟩ := at_T24 h1 (i : Int) (by omega) (by omega)
  injection hA with hA
  subst hA
  have e : ((⟨gx, 0, none⟩ : Addr).add ((i : Int).toNat * 3)) = ⟨gx, i * 3, none⟩ := by
    simp [Addr.add]
    intro h0
    omega
  rw [e] at y0 y1 y2
  exact ⟨⟨y0, y1, y2⟩, World.block_lt_of_cell? W _ y0⟩
theorem row_cells {W : World} {base : Nat} {ok : Nat → Prop} {gx n cap : Nat} {x : List S24} (h : k24.R 24 W base ok (.slice (some ⟨gx, 0, none⟩) n cap) x) (i : Nat) (hi : i < n) :
    (W.cell? ⟨gx, i * 3, none⟩ = some (.string (rd_T24 x (i : Int)).f0) ∧ W.cell? ⟨gx, i * 3 + 1, none⟩ = some (.int .i64 (rd_T24 x (i : Int)).f1) ∧ W.cell? ⟨gx, i * 3 + 2, none⟩ = some (.bool (rd_T24 x (i : Int)).f2)) ∧ gx < W.heap.size ∧ (∀ j, W.frozen? ⟨gx, j, none⟩ = false) := by
  have h0 := Kd.R_reads' h
  have h1 := h0.2.2
  obtain ⟨ad, hA, y0, y1, y2⟩ := at_T24 h1 (i : Int) (by omega) (by omega)
  injection hA with hA
  subst hA
  have e : ((⟨gx, 0, none⟩ : Addr).add ((i : Int).toNat * 3)) = ⟨gx, i * 3, none⟩ := by
    simp [Addr.add]
    intro h0
    omega
  rw [e] at y0 y1 y2
  refine ⟨⟨y0, y1, y2⟩, World.block_lt_of_cell? W _ y0, fun j => ?_⟩
  obtain ⟨_, inner, hown, _⟩ := h
  rcases hown.2 with ⟨h5, _⟩ | ⟨g, cap, cur, e1, hg, hh, _⟩
  · cases h5
  · injection e1 with e1
    injection e1 with e1
    injection e1 with e1
    subst e1
    exact blk_frozen hh j
theorem row_store {W : World} {base : Nat} {ok : Nat → Prop} {gx n cap : Nat} {x : List S24} (h : k24.R 24 W base ok (.slice (some ⟨gx, 0, none⟩) n cap) x) (i : Nat) (hi : i < n) (j : Nat) (u : Value) (x' : S24) (hj : j < 3)
    (hx : [Value.string x'.f0, .int .i64 x'.f1, .bool x'.f2] = [Value.string (rd_T24 x (i : Int)).f0, .int .i64 (rd_T24 x (i : Int)).f1, .bool (rd_T24 x (i : Int)).f2].set j u) :
    k24.R 24 (W.setCell ⟨gx, i * 3 + j, none⟩ u) base ok (.slice (some ⟨gx, 0, none⟩) n cap) (x.set i x') := by
  obtain ⟨⟨y0, y1, y2⟩, _⟩ := row_cells h i hi
  refine (Kd.R_seg (okp := fun k => ok k ∧ k ≠ gx) h (i : Int) (by omega) (by omega) (c := [Value.string (rd_T24 x (i : Int)).f0, .int .i64 (rd_T24 x (i : Int)).f1, .bool (rd_T24 x (i : Int)).f2]) (seg := [u]) (j := j) rfl (fun k v hk => ?_) (by show j + 1 ≤ 3; omega) (x' := x') ?_ (fun k hk => hk)).1
  · show W.cell? ⟨gx, i * 3 + k, none⟩ = some v
    match k, hk with
    | 0, hk => injection hk with hk; subst hk; exact y0
    | 1, hk => injection hk with hk; subst hk; exact y1
    | 2, hk => injection hk with hk; subst hk; exact y2
  · have h3 := k24_mkM W base (fun k => ok k ∧ k ≠ gx) x'
    rw [hx] at h3
    match j, hj with
    | 0, _ => exact h3
    | 1, _ => exact h3
    | 2, _ => exact h3
theorem MQ.stored {w : World} {l : List S24} {g gl cl gx cx : Nat} {a b : Int} {x : List S24} {W : World} (h : MQ w l g gl cl gx cx a b x W) (hx : x.length = l.length) (i : Nat) (hi : i < l.length) (j : Nat) (u : Value) (x' : S24) (hj : j < 3)
    (he : [Value.string x'.f0, .int .i64 x'.f1, .bool x'.f2] = [Value.string (rd_T24 x (i : Int)).f0, .int .i64 (rd_T24 x (i : Int)).f1, .bool (rd_T24 x (i : Int)).f2].set j u) :
    MQ w l g gl cl gx cx a b (x.set i x') (W.setCell ⟨gx, i * 3 + j, none⟩ u) := by
  have h1 := row_cells h.new i hi
  have hg : g ≠ gx := fun e => by
    subst e
    obtain ⟨_, inner, hown, _⟩ := h.new
    rcases hown.2 with ⟨h5, _⟩ | ⟨g', cap, cur, e1, hg, hh, _⟩
    · cases h5
    · injection e1 with e1
      injection e1 with e1
      injection e1 with e1
      subst e1
      have h6 := h.urn.1
      rw [hh] at h6
      injection h6 with h6
      injection h6 with _ h7
      exact absurd h7 (by decide)
  have hb := Kd.R_base h.new gx (by simp [Value.ownBlock])
  exact ⟨below_set h.below hb, IsS72.far h.urn hg _, Kd.R_far h.old (fun k hk => by show k ≠ gx; omega) u, row_store h.new i hi j u x' hj he⟩
theorem bodyPost_imp {P : Program} {fn : Func} {R R' : Ending → World → Prop} (h : ∀ e w, R e w → R' e w) : ∀ e a w, bodyPost P fn R e a w → bodyPost P fn R' e a w := by
  intro e a w hq
  cases e with
  | normal => exact ⟨hq.1, hq.2.choose, hq.2.choose_spec.1, h _ _ hq.2.choose_spec.2⟩
  | ret => exact ⟨hq.1, hq.2.choose, hq.2.choose_spec.1, h _ _ hq.2.choose_spec.2⟩
  | panic ch => exact ⟨hq.1, h _ _ hq.2⟩
  | outgrown => exact h _ _ hq
  | exit id => exact hq
  | goto l => exact hq
end Go.Proofs.Ytegjollhajgcdaa.P.OwnSt
namespace Go.Proofs.Ytegjollhajgcdaa.P
open Go.RowKit Go.Proofs.YtegjollhajgcdaaW.PrintWords Go.Proofs.YtegjollhajgcdaaW.PrintLast Go.Proofs.YtegjollhajgcdaaW.PrintMore
attribute [local go_sem] max2_int min2_int max_two min_two max_three min_three max_four min_four   -- for this text's walks alone
open OwnSt
set_option linter.unusedVariables false
set_option linter.unusedSimpArgs false
set_option maxHeartbeats 4000000 in
set_option maxRecDepth 100000 in
theorem more_calls (An : Option Addr) (cn : Nat) (n0 : List Int) (wa : World) (hr0 : Kd.C (Kd.int .i64) wa An n0.length n0) (hc0 : n0.length ≤ cn) (hl0 : n0.length < 4611686018427387904)
    (hpure : ∀ l0 st src l1, MadeT 1 st l0 src → LessAll l0 l1 → ∃ k, cippuslaw07_StemmaMore.f k l0 l1 = some true) :
    Calls Try.prog 7 #[.slice An n0.length cn] wa fun e w' => e = .returned (.bool true) ∧ Below wa.heap.size wa w' := by
  obtain ⟨a, b, e1⟩ := newUrn_ok n0 hl0
  obtain ⟨l0, st, src, a2, b2, e2, h, hn, hp⟩ := copiesOf_made a b 5 5 1 (by omega) (by omega) (by omega) (by omega) (by omega) (by omega)
  have HRN := Aside0.mk hr0
  have E1 := Aside0.mk e1
  have E2 := Aside0.mk e2
  have H := Aside0.mk h
  have HPU := Aside0.mk hpure
  clear hpure
  have h5 := h.five
  have h1 := h.one
  clear hr0 e1 e2 h hn hp
  go_enter Try.func7, Try.ntmps7
  go_upto_region 4 with (first
    | (go_at_call 14; refine (OwnUrn.newUrn_calls An cn n0 a b wa _ (Below.refl _ _) HRN.out hc0 E1.out).mono ?_; rintro e w1 ⟨g, rfl, hI, hB, hz1⟩; have HI := Aside0.mk hI; have HB := Aside0.mk hB; clear hI hB hz1)
    | (go_at_call 13; refine (OwnUrn.copiesOf_calls g a b 5 5 1 l0 st src a2 b2 wa w1 HI.out HB.out E2.out).mono ?_; rintro e w2 ⟨v0, v2, rfl, hR, hS, hI, hB, hz2⟩; obtain ⟨gl, cl, rfl, hgl, hgl2⟩ := R_block hR (by omega); obtain ⟨As, cs, rfl⟩ := Kd.R_slice hS; clear hS; have HRL := Aside0.mk hR; have HI2 := Aside0.mk hI; have HB2 := Aside0.mk hB; clear hR hI hB hz2)
    | (go_at_call 15; refine (cippuskit_CopyCopies.calls (some ⟨gl, 0, none⟩) cl l0 l0 _ ?c1 ?c2 ?c3).mono ?_; (case c1 => exact Kd.C_below (Kd.R_reads' HRL.out).2.2 ((Below.refl _ _).alloc (Nat.le_refl _) _)); (case c2 => exact (Kd.R_reads' HRL.out).2.1); (case c3 => exact copyCopies_eq l0 (by omega)); rintro e w3 ⟨vx, rfl, hR, hB⟩; obtain ⟨gx, cx, rfl, hgx, hgx2⟩ := R_block hR (by omega); have HRX := Aside0.mk hR; have HB3 := Aside0.mk hB; clear hR hB))
  obtain ⟨b5, hb5⟩ : ∃ b5, b5 = w2.heap.size := ⟨_, rfl⟩
  rw [← hb5]
  refine wp_gen (fun wx => Aside0 (MQ wa l0 g gl cl gx cx a2 b2 l0 wx)) ?_ ?_
  · have hsz := HB2.out.size
    have h1 : w2.heap.size ≤ gx := by simp at hgx; omega
    refine ⟨⟨HB2.out.trans (((Below.refl _ _).alloc (Nat.le_refl _) _ |>.trans (HB3.out.mono (by simp))).mono hsz), HI2.out.grown (grown_of_below ((Below.refl _ _).alloc (Nat.le_refl _) _ |>.trans (HB3.out.mono (by simp))) none) (by simp), ?_, ?_⟩⟩
    · refine Kd.R_below (Kd.R_alloc (Kd.R_lower (Kd.R_mono (Kd.R_bound HRL.out) (fun k hk => by have := hk.2.2.1; omega)) HB.out.size) _) HB3.out
    · exact Kd.R_lower (Kd.R_mono (Kd.R_bound HRX.out) (fun k hk => by have := hk.2.1; simp at this; omega)) (by simp; omega)
  clear hb5 HRL HRX HB3 HB2 HI2 HB HI hgx hgx2 hgl hgl2 w3 w2 w1
  intro W1 HQ
  obtain ⟨u, a3, b3, e3, hu0, hu1⟩ := up_ok a2 b2 (l0.length : Int) (by omega)
  obtain ⟨idx, hidx⟩ : ∃ idx : Nat, u = (idx : Int) := ⟨u.toNat, by omega⟩
  subst hidx
  have hil : idx < l0.length := by omega
  obtain ⟨o, a4, b4, e4⟩ := odds_ok a3 b3 1 2 (by omega)
  have E3 := Aside0.mk e3
  have E4 := Aside0.mk e4
  clear e3 e4 hu0 hu1
  go_cut [7] from 33 (fun s7 wy => s7 = .pointer (some ⟨gx, idx * 3, none⟩) ∧ Aside0 (MQ wa l0 g gl cl gx cx a3 b3 l0 wy))
  case first =>
    go_wp2_with (first
      | (go_at_call 28; refine (cippuskit_Urn_Up.calls g a2 b2 (l0.length : Int) (idx : Int) a3 b3 wa _ HQ.out.urn HQ.out.below E3.out).mono ?_; rintro e w2 ⟨rfl, hI, hB, hk⟩; have HQ2 := Aside0.mk (HQ.out.urned hI hB hk); clear hI hB hk))
    refine Met.intro ?_
    go_step
    (repeat apply Exists.intro)
    exact ⟨⟨rfl, HQ2⟩, rfl⟩
  case rest =>
    obtain ⟨rfl, HQ2⟩ := hcut
    clear HQ E3
    go_upto_if 40 with (first
      | (go_at_call 27; refine (cippuskit_Urn_Odds.calls g a3 b3 1 2 o a4 b4 wa _ HQ2.out.urn HQ2.out.below E4.out).mono ?_; rintro e w3 ⟨rfl, hI, hB, hk⟩; have HQ3 := Aside0.mk (HQ2.out.urned hI hB hk); clear hI hB hk))
    clear HQ2 E4
    go_cut [6] from 41 (fun s6 wz => ∃ (x : List S24) (a' b' : Int), s6 = .slice (some ⟨gx, 0, none⟩) x.length cx ∧ Aside0 (LessAll l0 x ∧ MQ wa l0 g gl cl gx cx a' b' x wz))
    case first =>
      obtain ⟨⟨z0, z1, z2⟩, zgl, zf⟩ := row_cells HQ3.out.new idx hil
      have zf1 := zf (idx * 3 + 1)
      have zf2 := zf (idx * 3 + 2)
      clear zf
      cases o with
      | true =>
        obtain ⟨ev, a5, b5', e5, he0, he1⟩ := up_ok a4 b4 ((rd_T24 l0 (idx : Int)).f1 + 1) (by have := (H.out.made.one idx hil).2.1; omega)
        have hf1 := (H.out.made.one idx hil).2.1
        obtain ⟨f1, hf1e⟩ : ∃ f1, f1 = (rd_T24 l0 (idx : Int)).f1 := ⟨_, rfl⟩
        rw [← hf1e] at e5 he1 hf1 z1
        obtain ⟨hf10, hf11⟩ := hf1
        have E5 := Aside0.mk e5
        have HF1 := Aside0.mk hf1e
        have HEV := Aside0.mk (show 0 ≤ ev ∧ ev ≤ f1 by omega)
        clear e5 hf1e he0 he1
        go_wp2_with (first
          | (go_at_call 28; refine (cippuskit_Urn_Up.calls g a4 b4 (f1 + 1) ev a5 b5' wa _ HQ3.out.urn HQ3.out.below E5.out).mono ?_; rintro e w4 ⟨rfl, hI, hB, hk⟩; have HQ4 := Aside0.mk (HQ3.out.urned hI hB hk); clear hI hB hk; clear z0 z1 z2 zgl zf1 zf2; obtain ⟨⟨z0, z1, z2⟩, zgl, zf⟩ := row_cells HQ4.out.new idx hil; have zf1 := zf (idx * 3 + 1); clear zf; rw [← HF1.out] at z1))
        go_meet
        case rel => exact ⟨_, _, _, by rw [List.length_set], Aside0.mk ⟨less_set H.out.valid idx hil ⟨(rd_T24 l0 (idx : Int)).f0, ev, (rd_T24 l0 (idx : Int)).f2⟩ ⟨rfl, ⟨HEV.out.1, by rw [← HF1.out]; exact HEV.out.2⟩, id⟩, HQ4.out.stored rfl idx hil 1 _ _ (by omega) rfl⟩⟩
      | false =>
        go_wp2
        go_meet
        case rel => exact ⟨_, _, _, by rw [List.length_set], Aside0.mk ⟨less_set H.out.valid idx hil ⟨(rd_T24 l0 (idx : Int)).f0, (rd_T24 l0 (idx : Int)).f1, false⟩ ⟨rfl, ⟨(H.out.valid.err idx hil).1, Int.le_refl _⟩, fun h => by cases h⟩, HQ3.out.stored rfl idx hil 2 _ _ (by omega) rfl⟩⟩
    case rest =>
      clear HQ3 HRN E1 hc0 hil h5 h1
      go_step
      obtain ⟨l1, a', b', hs6, HX⟩ := hcut
      subst hs6
      obtain ⟨k, h0⟩ := HPU.out l0 st src l1 H.out HX.out.1
      obtain ⟨r, hr⟩ : ∃ r, r = true := ⟨_, rfl⟩
      have h : cippuslaw07_StemmaMore.f k l0 l1 = some r := by rw [hr]; exact h0
      refine wp_mono (Q := bodyPost Try.prog Try.f7 fun e w' => e = .returned (.bool r) ∧ Below wc.heap.size wc w') ?_ (bodyPost_imp fun e w' hq => ⟨by rw [← hr]; exact hq.1, HX.out.2.below.trans (hq.2.mono HX.out.2.below.size)⟩)
      have e := HX.out.1.1
      have HN := HX.out.2.new
      rw [← e] at HN
      have HR0 := Aside0.mk (Kd.R_reads' HX.out.2.old).2.2
      have HC0 := Aside0.mk (Kd.R_reads' HX.out.2.old).2.1
      have HR1 := Aside0.mk (Kd.R_reads' HN).2.2
      have HC1 := Aside0.mk (Kd.R_reads' HN).2.1
      clear hr h0 e HN HX HPU H E2 hl0
      revert HR0 HC0 HR1 HC1
      revert wc
      intro w HR0 HC0 HR1 HC1
      have HB := Aside0.mk (Below.refl w.heap.size w)
      have H : ((stemma_Sources.f k l0).bind fun bt355 => ((stemma_Sources.f k l1).bind fun bt359 => ((stemma_Letters.f k l0).bind fun bt363 => ((stemma_Letters.f k l1).bind fun bt367 => ((stemma_Fewest.f k l0).bind fun bt371 => ((stemma_Fewest.f k l1).bind fun bt373 => (if bt355.2 = 0 then (if bt363.2 = 0 then (if bt371.2 = 0 then (if bt359.2 = bt367.2 then (cippuslaw07_StemmaMore.j0 k bt355.1 bt359.1 bt359.2 bt363.1 bt367.1 bt371.1 bt373.1 (bt359.2 != bt373.2)) else (cippuslaw07_StemmaMore.j0 k bt355.1 bt359.1 bt359.2 bt363.1 bt367.1 bt371.1 bt373.1 true)) else (cippuslaw07_StemmaMore.j0 k bt355.1 bt359.1 bt359.2 bt363.1 bt367.1 bt371.1 bt373.1 true)) else (cippuslaw07_StemmaMore.j0 k bt355.1 bt359.1 bt359.2 bt363.1 bt367.1 bt371.1 bt373.1 true)) else (cippuslaw07_StemmaMore.j0 k bt355.1 bt359.1 bt359.2 bt363.1 bt367.1 bt371.1 bt373.1 true)))))))) = some r := h
      clear h
      replace H := Option.bind_eq_some_iff.mp H
      obtain ⟨⟨t355, t358⟩, A30, H⟩ := H
      replace H : ((stemma_Sources.f k l1).bind fun bt359 => ((stemma_Letters.f k l0).bind fun bt363 => ((stemma_Letters.f k l1).bind fun bt367 => ((stemma_Fewest.f k l0).bind fun bt371 => ((stemma_Fewest.f k l1).bind fun bt373 => (if t358 = 0 then (if bt363.2 = 0 then (if bt371.2 = 0 then (if bt359.2 = bt367.2 then (cippuslaw07_StemmaMore.j0 k t355 bt359.1 bt359.2 bt363.1 bt367.1 bt371.1 bt373.1 (bt359.2 != bt373.2)) else (cippuslaw07_StemmaMore.j0 k t355 bt359.1 bt359.2 bt363.1 bt367.1 bt371.1 bt373.1 true)) else (cippuslaw07_StemmaMore.j0 k t355 bt359.1 bt359.2 bt363.1 bt367.1 bt371.1 bt373.1 true)) else (cippuslaw07_StemmaMore.j0 k t355 bt359.1 bt359.2 bt363.1 bt367.1 bt371.1 bt373.1 true)) else (cippuslaw07_StemmaMore.j0 k t355 bt359.1 bt359.2 bt363.1 bt367.1 bt371.1 bt373.1 true))))))) = some r := H
      have A3 := Aside0.mk A30
      clear A30
      replace H := Option.bind_eq_some_iff.mp H
      obtain ⟨⟨t359, t362⟩, A40, H⟩ := H
      replace H : ((stemma_Letters.f k l0).bind fun bt363 => ((stemma_Letters.f k l1).bind fun bt367 => ((stemma_Fewest.f k l0).bind fun bt371 => ((stemma_Fewest.f k l1).bind fun bt373 => (if t358 = 0 then (if bt363.2 = 0 then (if bt371.2 = 0 then (if t362 = bt367.2 then (cippuslaw07_StemmaMore.j0 k t355 t359 t362 bt363.1 bt367.1 bt371.1 bt373.1 (t362 != bt373.2)) else (cippuslaw07_StemmaMore.j0 k t355 t359 t362 bt363.1 bt367.1 bt371.1 bt373.1 true)) else (cippuslaw07_StemmaMore.j0 k t355 t359 t362 bt363.1 bt367.1 bt371.1 bt373.1 true)) else (cippuslaw07_StemmaMore.j0 k t355 t359 t362 bt363.1 bt367.1 bt371.1 bt373.1 true)) else (cippuslaw07_StemmaMore.j0 k t355 t359 t362 bt363.1 bt367.1 bt371.1 bt373.1 true)))))) = some r := H
      have A4 := Aside0.mk A40
      clear A40
      replace H := Option.bind_eq_some_iff.mp H
      obtain ⟨⟨t363, t364⟩, A50, H⟩ := H
      replace H : ((stemma_Letters.f k l1).bind fun bt367 => ((stemma_Fewest.f k l0).bind fun bt371 => ((stemma_Fewest.f k l1).bind fun bt373 => (if t358 = 0 then (if t364 = 0 then (if bt371.2 = 0 then (if t362 = bt367.2 then (cippuslaw07_StemmaMore.j0 k t355 t359 t362 t363 bt367.1 bt371.1 bt373.1 (t362 != bt373.2)) else (cippuslaw07_StemmaMore.j0 k t355 t359 t362 t363 bt367.1 bt371.1 bt373.1 true)) else (cippuslaw07_StemmaMore.j0 k t355 t359 t362 t363 bt367.1 bt371.1 bt373.1 true)) else (cippuslaw07_StemmaMore.j0 k t355 t359 t362 t363 bt367.1 bt371.1 bt373.1 true)) else (cippuslaw07_StemmaMore.j0 k t355 t359 t362 t363 bt367.1 bt371.1 bt373.1 true))))) = some r := H
      have A5 := Aside0.mk A50
      clear A50
      replace H := Option.bind_eq_some_iff.mp H
      obtain ⟨⟨t367, t368⟩, A60, H⟩ := H
      replace H : ((stemma_Fewest.f k l0).bind fun bt371 => ((stemma_Fewest.f k l1).bind fun bt373 => (if t358 = 0 then (if t364 = 0 then (if bt371.2 = 0 then (if t362 = t368 then (cippuslaw07_StemmaMore.j0 k t355 t359 t362 t363 t367 bt371.1 bt373.1 (t362 != bt373.2)) else (cippuslaw07_StemmaMore.j0 k t355 t359 t362 t363 t367 bt371.1 bt373.1 true)) else (cippuslaw07_StemmaMore.j0 k t355 t359 t362 t363 t367 bt371.1 bt373.1 true)) else (cippuslaw07_StemmaMore.j0 k t355 t359 t362 t363 t367 bt371.1 bt373.1 true)) else (cippuslaw07_StemmaMore.j0 k t355 t359 t362 t363 t367 bt371.1 bt373.1 true)))) = some r := H
      have A6 := Aside0.mk A60
      clear A60
      replace H := Option.bind_eq_some_iff.mp H
      obtain ⟨⟨t371, t372⟩, A70, H⟩ := H
      replace H : ((stemma_Fewest.f k l1).bind fun bt373 => (if t358 = 0 then (if t364 = 0 then (if t372 = 0 then (if t362 = t368 then (cippuslaw07_StemmaMore.j0 k t355 t359 t362 t363 t367 t371 bt373.1 (t362 != bt373.2)) else (cippuslaw07_StemmaMore.j0 k t355 t359 t362 t363 t367 t371 bt373.1 true)) else (cippuslaw07_StemmaMore.j0 k t355 t359 t362 t363 t367 t371 bt373.1 true)) else (cippuslaw07_StemmaMore.j0 k t355 t359 t362 t363 t367 t371 bt373.1 true)) else (cippuslaw07_StemmaMore.j0 k t355 t359 t362 t363 t367 t371 bt373.1 true))) = some r := H
      have A7 := Aside0.mk A70
      clear A70
      replace H := Option.bind_eq_some_iff.mp H
      obtain ⟨⟨t373, t374⟩, A80, H⟩ := H
      replace H : (if t358 = 0 then (if t364 = 0 then (if t372 = 0 then (if t362 = t368 then (cippuslaw07_StemmaMore.j0 k t355 t359 t362 t363 t367 t371 t373 (t362 != t374)) else (cippuslaw07_StemmaMore.j0 k t355 t359 t362 t363 t367 t371 t373 true)) else (cippuslaw07_StemmaMore.j0 k t355 t359 t362 t363 t367 t371 t373 true)) else (cippuslaw07_StemmaMore.j0 k t355 t359 t362 t363 t367 t371 t373 true)) else (cippuslaw07_StemmaMore.j0 k t355 t359 t362 t363 t367 t371 t373 true)) = some r := H
      have A8 := Aside0.mk A80
      clear A80
      have HC9 := Aside0.mk H
      clear H
      go_upto_region 14 with (first | (go_at_call 30; (with_reducible refine (stemma_Sources.calls k _ _ l0 t355 t358 _ ?side1 ?side2 A3.out).mono ?_); (case side1 => repeat (first | exact HR0.out | (with_reducible refine Kd.C_alloc ?_ _) | (with_reducible refine Kd.C_drewN ?_ _) | (with_reducible refine Kd.C_drew ?_))); (case side2 => exact HC0.out); rintro e w10 ⟨v356, rfl, ho0, hb⟩; have n0_ := Aside0.mk (Kd.N_lower (Kd.N_mono (ok' := fun k_ => True) ho0 (fun k_ hk_ => trivial)) (below_size (by repeat (first | (with_reducible first | exact HB.out | apply below_alloc | apply pw_below_drewN | apply below_drew1) | exact HB.out)))); have n1_ := Aside0.mk (below_step (by repeat (first | (with_reducible first | exact HB.out | apply below_alloc | apply pw_below_drewN | apply below_drew1) | exact HB.out)) hb); clear HB; have HO357 := n0_; have HB := n1_; clear n0_ n1_; (try clear hb); (try clear hb2); (try clear hk); (try clear hi); (try clear ho0)) | (go_at_call 30; (with_reducible refine (stemma_Sources.calls k _ _ l1 t359 t362 _ ?side1 ?side2 A4.out).mono ?_); (case side1 => repeat (first | exact (Kd.C_below HR1.out HB.out) | (with_reducible refine Kd.C_alloc ?_ _) | (with_reducible refine Kd.C_drewN ?_ _) | (with_reducible refine Kd.C_drew ?_))); (case side2 => exact HC1.out); rintro e w11 ⟨v360, rfl, ho0, hb⟩; have n0_ := Aside0.mk (Kd.N_elder' (by (with_reducible repeat (first | apply Kd.N_alloc | apply Kd.N_drewN | apply Kd.N_drew)); exact HO357.out) (Kd.N_base ho0) hb); have n1_ := Aside0.mk (Kd.N_lower (Kd.N_mono (ok' := fun k_ => some k_ ≠ (v356 : Value).ownBlock) ho0 (fun k_ hk_ => (Kd.fresh' (Kd.N_lt (by (with_reducible repeat (first | apply Kd.N_alloc | apply Kd.N_drewN | apply Kd.N_drew)); exact HO357.out)) k_ hk_))) (below_size (by repeat (first | (with_reducible first | exact HB.out | apply below_alloc | apply pw_below_drewN | apply below_drew1) | exact HB.out)))); have n2_ := Aside0.mk (below_step (by repeat (first | (with_reducible first | exact HB.out | apply below_alloc | apply pw_below_drewN | apply below_drew1) | exact HB.out)) hb); clear HO357; clear HB; have HO357 := n0_; have HO361 := n1_; have HB := n2_; clear n0_ n1_ n2_; (try clear hb); (try clear hb2); (try clear hk); (try clear hi); (try clear ho0)) | (go_at_call 18; (with_reducible refine (stemma_Letters.calls k _ _ l0 t363 t364 _ ?side1 ?side2 A5.out).mono ?_); (case side1 => repeat (first | exact (Kd.C_below HR0.out HB.out) | (with_reducible refine Kd.C_alloc ?_ _) | (with_reducible refine Kd.C_drewN ?_ _) | (with_reducible refine Kd.C_drew ?_))); (case side2 => exact HC0.out); rintro e w12 ⟨v365, rfl, ho0, hb⟩; have n0_ := Aside0.mk (Kd.N_elder' (by (with_reducible repeat (first | apply Kd.N_alloc | apply Kd.N_drewN | apply Kd.N_drew)); exact HO357.out) (Kd.R_base ho0) hb); have n1_ := Aside0.mk (Kd.N_elder' (by (with_reducible repeat (first | apply Kd.N_alloc | apply Kd.N_drewN | apply Kd.N_drew)); exact HO361.out) (Kd.R_base ho0) hb); have n2_ := Aside0.mk (Kd.R_lower ho0 (below_size (by repeat (first | (with_reducible first | exact HB.out | apply below_alloc | apply pw_below_drewN | apply below_drew1) | exact HB.out)))); have n3_ := Aside0.mk (below_step (by repeat (first | (with_reducible first | exact HB.out | apply below_alloc | apply pw_below_drewN | apply below_drew1) | exact HB.out)) hb); clear HO357; clear HO361; clear HB; have HO357 := n0_; have HO361 := n1_; have HO366 := n2_; have HB := n3_; clear n0_ n1_ n2_ n3_; (try clear hb); (try clear hb2); (try clear hk); (try clear hi); (try clear ho0)) | (go_at_call 18; (with_reducible refine (stemma_Letters.calls k _ _ l1 t367 t368 _ ?side1 ?side2 A6.out).mono ?_); (case side1 => repeat (first | exact (Kd.C_below HR1.out HB.out) | (with_reducible refine Kd.C_alloc ?_ _) | (with_reducible refine Kd.C_drewN ?_ _) | (with_reducible refine Kd.C_drew ?_))); (case side2 => exact HC1.out); rintro e w13 ⟨v369, rfl, ho0, hb⟩; have n0_ := Aside0.mk (Kd.N_elder' (by (with_reducible repeat (first | apply Kd.N_alloc | apply Kd.N_drewN | apply Kd.N_drew)); exact HO357.out) (Kd.R_base ho0) hb); have n1_ := Aside0.mk (Kd.N_elder' (by (with_reducible repeat (first | apply Kd.N_alloc | apply Kd.N_drewN | apply Kd.N_drew)); exact HO361.out) (Kd.R_base ho0) hb); have n2_ := Aside0.mk (Kd.R_elder' (by (with_reducible repeat (first | apply Kd.R_alloc | apply Kd.R_drewN | apply Kd.R_drew)); exact HO366.out) (Kd.R_base ho0) hb); have n3_ := Aside0.mk (Kd.R_lower (Kd.R_new' ho0 (Kd.R_lt (by (with_reducible repeat (first | apply Kd.R_alloc | apply Kd.R_drewN | apply Kd.R_drew)); exact HO366.out))) (below_size (by repeat (first | (with_reducible first | exact HB.out | apply below_alloc | apply pw_below_drewN | apply below_drew1) | exact HB.out)))); have n4_ := Aside0.mk (below_step (by repeat (first | (with_reducible first | exact HB.out | apply below_alloc | apply pw_below_drewN | apply below_drew1) | exact HB.out)) hb); clear HO357; clear HO361; clear HO366; clear HB; have HO357 := n0_; have HO361 := n1_; have HO366 := n2_; have HO370 := n3_; have HB := n4_; clear n0_ n1_ n2_ n3_ n4_; (try clear hb); (try clear hb2); (try clear hk); (try clear hi); (try clear ho0)) | (go_at_call 24; (with_reducible refine (stemma_Fewest.calls k _ _ l0 t371 t372 _ ?side1 ?side2 A7.out).mono ?_); (case side1 => repeat (first | exact (Kd.C_below HR0.out HB.out) | (with_reducible refine Kd.C_alloc ?_ _) | (with_reducible refine Kd.C_drewN ?_ _) | (with_reducible refine Kd.C_drew ?_))); (case side2 => exact HC0.out); rintro e w14 ⟨rfl, hb⟩; have n0_ := Aside0.mk (Kd.N_below (by (with_reducible repeat (first | apply Kd.N_alloc | apply Kd.N_drewN | apply Kd.N_drew)); exact HO357.out) hb); have n1_ := Aside0.mk (Kd.N_below (by (with_reducible repeat (first | apply Kd.N_alloc | apply Kd.N_drewN | apply Kd.N_drew)); exact HO361.out) hb); have n2_ := Aside0.mk (Kd.R_below (by (with_reducible repeat (first | apply Kd.R_alloc | apply Kd.R_drewN | apply Kd.R_drew)); exact HO366.out) hb); have n3_ := Aside0.mk (Kd.R_below (by (with_reducible repeat (first | apply Kd.R_alloc | apply Kd.R_drewN | apply Kd.R_drew)); exact HO370.out) hb); have n4_ := Aside0.mk (below_step (by repeat (first | (with_reducible first | exact HB.out | apply below_alloc | apply pw_below_drewN | apply below_drew1) | exact HB.out)) hb); clear HO357; clear HO361; clear HO366; clear HO370; clear HB; have HO357 := n0_; have HO361 := n1_; have HO366 := n2_; have HO370 := n3_; have HB := n4_; clear n0_ n1_ n2_ n3_ n4_; (try clear hb); (try clear hb2); (try clear hk); (try clear hi)) | (go_at_call 24; (with_reducible refine (stemma_Fewest.calls k _ _ l1 t373 t374 _ ?side1 ?side2 A8.out).mono ?_); (case side1 => repeat (first | exact (Kd.C_below HR1.out HB.out) | (with_reducible refine Kd.C_alloc ?_ _) | (with_reducible refine Kd.C_drewN ?_ _) | (with_reducible refine Kd.C_drew ?_))); (case side2 => exact HC1.out); rintro e w15 ⟨rfl, hb⟩; have n0_ := Aside0.mk (Kd.N_below (by (with_reducible repeat (first | apply Kd.N_alloc | apply Kd.N_drewN | apply Kd.N_drew)); exact HO357.out) hb); have n1_ := Aside0.mk (Kd.N_below (by (with_reducible repeat (first | apply Kd.N_alloc | apply Kd.N_drewN | apply Kd.N_drew)); exact HO361.out) hb); have n2_ := Aside0.mk (Kd.R_below (by (with_reducible repeat (first | apply Kd.R_alloc | apply Kd.R_drewN | apply Kd.R_drew)); exact HO366.out) hb); have n3_ := Aside0.mk (Kd.R_below (by (with_reducible repeat (first | apply Kd.R_alloc | apply Kd.R_drewN | apply Kd.R_drew)); exact HO370.out) hb); have n4_ := Aside0.mk (below_step (by repeat (first | (with_reducible first | exact HB.out | apply below_alloc | apply pw_below_drewN | apply below_drew1) | exact HB.out)) hb); clear HO357; clear HO361; clear HO366; clear HO370; clear HB; have HO357 := n0_; have HO361 := n1_; have HO366 := n2_; have HO370 := n3_; have HB := n4_; clear n0_ n1_ n2_ n3_ n4_; (try clear hb); (try clear hb2); (try clear hk); (try clear hi)))
      repeat (go_quiet (first | (go_at_call 30; (with_reducible refine (stemma_Sources.calls k _ _ l0 t355 t358 _ ?side1 ?side2 A3.out).mono ?_); (case side1 => repeat (first | exact HR0.out | (with_reducible refine Kd.C_alloc ?_ _) | (with_reducible refine Kd.C_drewN ?_ _) | (with_reducible refine Kd.C_drew ?_))); (case side2 => exact HC0.out); rintro e w10 ⟨v356, rfl, ho0, hb⟩; have n0_ := Aside0.mk (Kd.N_lower (Kd.N_mono (ok' := fun k_ => True) ho0 (fun k_ hk_ => trivial)) (below_size (by repeat (first | (with_reducible first | exact HB.out | apply below_alloc | apply pw_below_drewN | apply below_drew1) | exact HB.out)))); have n1_ := Aside0.mk (below_step (by repeat (first | (with_reducible first | exact HB.out | apply below_alloc | apply pw_below_drewN | apply below_drew1) | exact HB.out)) hb); clear HB; have HO357 := n0_; have HB := n1_; clear n0_ n1_; (try clear hb); (try clear hb2); (try clear hk); (try clear hi); (try clear ho0)) | (go_at_call 30; (with_reducible refine (stemma_Sources.calls k _ _ l1 t359 t362 _ ?side1 ?side2 A4.out).mono ?_); (case side1 => repeat (first | exact (Kd.C_below HR1.out HB.out) | (with_reducible refine Kd.C_alloc ?_ _) | (with_reducible refine Kd.C_drewN ?_ _) | (with_reducible refine Kd.C_drew ?_))); (case side2 => exact HC1.out); rintro e w11 ⟨v360, rfl, ho0, hb⟩; have n0_ := Aside0.mk (Kd.N_elder' (by (with_reducible repeat (first | apply Kd.N_alloc | apply Kd.N_drewN | apply Kd.N_drew)); exact HO357.out) (Kd.N_base ho0) hb); have n1_ := Aside0.mk (Kd.N_lower (Kd.N_mono (ok' := fun k_ => some k_ ≠ (v356 : Value).ownBlock) ho0 (fun k_ hk_ => (Kd.fresh' (Kd.N_lt (by (with_reducible repeat (first | apply Kd.N_alloc | apply Kd.N_drewN | apply Kd.N_drew)); exact HO357.out)) k_ hk_))) (below_size (by repeat (first | (with_reducible first | exact HB.out | apply below_alloc | apply pw_below_drewN | apply below_drew1) | exact HB.out)))); have n2_ := Aside0.mk (below_step (by repeat (first | (with_reducible first | exact HB.out | apply below_alloc | apply pw_below_drewN | apply below_drew1) | exact HB.out)) hb); clear HO357; clear HB; have HO357 := n0_; have HO361 := n1_; have HB := n2_; clear n0_ n1_ n2_; (try clear hb); (try clear hb2); (try clear hk); (try clear hi); (try clear ho0)) | (go_at_call 18; (with_reducible refine (stemma_Letters.calls k _ _ l0 t363 t364 _ ?side1 ?side2 A5.out).mono ?_); (case side1 => repeat (first | exact (Kd.C_below HR0.out HB.out) | (with_reducible refine Kd.C_alloc ?_ _) | (with_reducible refine Kd.C_drewN ?_ _) | (with_reducible refine Kd.C_drew ?_))); (case side2 => exact HC0.out); rintro e w12 ⟨v365, rfl, ho0, hb⟩; have n0_ := Aside0.mk (Kd.N_elder' (by (with_reducible repeat (first | apply Kd.N_alloc | apply Kd.N_drewN | apply Kd.N_drew)); exact HO357.out) (Kd.R_base ho0) hb); have n1_ := Aside0.mk (Kd.N_elder' (by (with_reducible repeat (first | apply Kd.N_alloc | apply Kd.N_drewN | apply Kd.N_drew)); exact HO361.out) (Kd.R_base ho0) hb); have n2_ := Aside0.mk (Kd.R_lower ho0 (below_size (by repeat (first | (with_reducible first | exact HB.out | apply below_alloc | apply pw_below_drewN | apply below_drew1) | exact HB.out)))); have n3_ := Aside0.mk (below_step (by repeat (first | (with_reducible first | exact HB.out | apply below_alloc | apply pw_below_drewN | apply below_drew1) | exact HB.out)) hb); clear HO357; clear HO361; clear HB; have HO357 := n0_; have HO361 := n1_; have HO366 := n2_; have HB := n3_; clear n0_ n1_ n2_ n3_; (try clear hb); (try clear hb2); (try clear hk); (try clear hi); (try clear ho0)) | (go_at_call 18; (with_reducible refine (stemma_Letters.calls k _ _ l1 t367 t368 _ ?side1 ?side2 A6.out).mono ?_); (case side1 => repeat (first | exact (Kd.C_below HR1.out HB.out) | (with_reducible refine Kd.C_alloc ?_ _) | (with_reducible refine Kd.C_drewN ?_ _) | (with_reducible refine Kd.C_drew ?_))); (case side2 => exact HC1.out); rintro e w13 ⟨v369, rfl, ho0, hb⟩; have n0_ := Aside0.mk (Kd.N_elder' (by (with_reducible repeat (first | apply Kd.N_alloc | apply Kd.N_drewN | apply Kd.N_drew)); exact HO357.out) (Kd.R_base ho0) hb); have n1_ := Aside0.mk (Kd.N_elder' (by (with_reducible repeat (first | apply Kd.N_alloc | apply Kd.N_drewN | apply Kd.N_drew)); exact HO361.out) (Kd.R_base ho0) hb); have n2_ := Aside0.mk (Kd.R_elder' (by (with_reducible repeat (first | apply Kd.R_alloc | apply Kd.R_drewN | apply Kd.R_drew)); exact HO366.out) (Kd.R_base ho0) hb); have n3_ := Aside0.mk (Kd.R_lower (Kd.R_new' ho0 (Kd.R_lt (by (with_reducible repeat (first | apply Kd.R_alloc | apply Kd.R_drewN | apply Kd.R_drew)); exact HO366.out))) (below_size (by repeat (first | (with_reducible first | exact HB.out | apply below_alloc | apply pw_below_drewN | apply below_drew1) | exact HB.out)))); have n4_ := Aside0.mk (below_step (by repeat (first | (with_reducible first | exact HB.out | apply below_alloc | apply pw_below_drewN | apply below_drew1) | exact HB.out)) hb); clear HO357; clear HO361; clear HO366; clear HB; have HO357 := n0_; have HO361 := n1_; have HO366 := n2_; have HO370 := n3_; have HB := n4_; clear n0_ n1_ n2_ n3_ n4_; (try clear hb); (try clear hb2); (try clear hk); (try clear hi); (try clear ho0)) | (go_at_call 24; (with_reducible refine (stemma_Fewest.calls k _ _ l0 t371 t372 _ ?side1 ?side2 A7.out).mono ?_); (case side1 => repeat (first | exact (Kd.C_below HR0.out HB.out) | (with_reducible refine Kd.C_alloc ?_ _) | (with_reducible refine Kd.C_drewN ?_ _) | (with_reducible refine Kd.C_drew ?_))); (case side2 => exact HC0.out); rintro e w14 ⟨rfl, hb⟩; have n0_ := Aside0.mk (Kd.N_below (by (with_reducible repeat (first | apply Kd.N_alloc | apply Kd.N_drewN | apply Kd.N_drew)); exact HO357.out) hb); have n1_ := Aside0.mk (Kd.N_below (by (with_reducible repeat (first | apply Kd.N_alloc | apply Kd.N_drewN | apply Kd.N_drew)); exact HO361.out) hb); have n2_ := Aside0.mk (Kd.R_below (by (with_reducible repeat (first | apply Kd.R_alloc | apply Kd.R_drewN | apply Kd.R_drew)); exact HO366.out) hb); have n3_ := Aside0.mk (Kd.R_below (by (with_reducible repeat (first | apply Kd.R_alloc | apply Kd.R_drewN | apply Kd.R_drew)); exact HO370.out) hb); have n4_ := Aside0.mk (below_step (by repeat (first | (with_reducible first | exact HB.out | apply below_alloc | apply pw_below_drewN | apply below_drew1) | exact HB.out)) hb); clear HO357; clear HO361; clear HO366; clear HO370; clear HB; have HO357 := n0_; have HO361 := n1_; have HO366 := n2_; have HO370 := n3_; have HB := n4_; clear n0_ n1_ n2_ n3_ n4_; (try clear hb); (try clear hb2); (try clear hk); (try clear hi)) | (go_at_call 24; (with_reducible refine (stemma_Fewest.calls k _ _ l1 t373 t374 _ ?side1 ?side2 A8.out).mono ?_); (case side1 => repeat (first | exact (Kd.C_below HR1.out HB.out) | (with_reducible refine Kd.C_alloc ?_ _) | (with_reducible refine Kd.C_drewN ?_ _) | (with_reducible refine Kd.C_drew ?_))); (case side2 => exact HC1.out); rintro e w15 ⟨rfl, hb⟩; have n0_ := Aside0.mk (Kd.N_below (by (with_reducible repeat (first | apply Kd.N_alloc | apply Kd.N_drewN | apply Kd.N_drew)); exact HO357.out) hb); have n1_ := Aside0.mk (Kd.N_below (by (with_reducible repeat (first | apply Kd.N_alloc | apply Kd.N_drewN | apply Kd.N_drew)); exact HO361.out) hb); have n2_ := Aside0.mk (Kd.R_below (by (with_reducible repeat (first | apply Kd.R_alloc | apply Kd.R_drewN | apply Kd.R_drew)); exact HO366.out) hb); have n3_ := Aside0.mk (Kd.R_below (by (with_reducible repeat (first | apply Kd.R_alloc | apply Kd.R_drewN | apply Kd.R_drew)); exact HO370.out) hb); have n4_ := Aside0.mk (below_step (by repeat (first | (with_reducible first | exact HB.out | apply below_alloc | apply pw_below_drewN | apply below_drew1) | exact HB.out)) hb); clear HO357; clear HO361; clear HO366; clear HO370; clear HB; have HO357 := n0_; have HO361 := n1_; have HO366 := n2_; have HO370 := n3_; have HB := n4_; clear n0_ n1_ n2_ n3_ n4_; (try clear hb); (try clear hb2); (try clear hk); (try clear hi))); go_upto_region 14 with (first | (go_at_call 30; (with_reducible refine (stemma_Sources.calls k _ _ l0 t355 t358 _ ?side1 ?side2 A3.out).mono ?_); (case side1 => repeat (first | exact HR0.out | (with_reducible refine Kd.C_alloc ?_ _) | (with_reducible refine Kd.C_drewN ?_ _) | (with_reducible refine Kd.C_drew ?_))); (case side2 => exact HC0.out); rintro e w10 ⟨v356, rfl, ho0, hb⟩; have n0_ := Aside0.mk (Kd.N_lower (Kd.N_mono (ok' := fun k_ => True) ho0 (fun k_ hk_ => trivial)) (below_size (by repeat (first | (with_reducible first | exact HB.out | apply below_alloc | apply pw_below_drewN | apply below_drew1) | exact HB.out)))); have n1_ := Aside0.mk (below_step (by repeat (first | (with_reducible first | exact HB.out | apply below_alloc | apply pw_below_drewN | apply below_drew1) | exact HB.out)) hb); clear HB; have HO357 := n0_; have HB := n1_; clear n0_ n1_; (try clear hb); (try clear hb2); (try clear hk); (try clear hi); (try clear ho0)) | (go_at_call 30; (with_reducible refine (stemma_Sources.calls k _ _ l1 t359 t362 _ ?side1 ?side2 A4.out).mono ?_); (case side1 => repeat (first | exact (Kd.C_below HR1.out HB.out) | (with_reducible refine Kd.C_alloc ?_ _) | (with_reducible refine Kd.C_drewN ?_ _) | (with_reducible refine Kd.C_drew ?_))); (case side2 => exact HC1.out); rintro e w11 ⟨v360, rfl, ho0, hb⟩; have n0_ := Aside0.mk (Kd.N_elder' (by (with_reducible repeat (first | apply Kd.N_alloc | apply Kd.N_drewN | apply Kd.N_drew)); exact HO357.out) (Kd.N_base ho0) hb); have n1_ := Aside0.mk (Kd.N_lower (Kd.N_mono (ok' := fun k_ => some k_ ≠ (v356 : Value).ownBlock) ho0 (fun k_ hk_ => (Kd.fresh' (Kd.N_lt (by (with_reducible repeat (first | apply Kd.N_alloc | apply Kd.N_drewN | apply Kd.N_drew)); exact HO357.out)) k_ hk_))) (below_size (by repeat (first | (with_reducible first | exact HB.out | apply below_alloc | apply pw_below_drewN | apply below_drew1) | exact HB.out)))); have n2_ := Aside0.mk (below_step (by repeat (first | (with_reducible first | exact HB.out | apply below_alloc | apply pw_below_drewN | apply below_drew1) | exact HB.out)) hb); clear HO357; clear HB; have HO357 := n0_; have HO361 := n1_; have HB := n2_; clear n0_ n1_ n2_; (try clear hb); (try clear hb2); (try clear hk); (try clear hi); (try clear ho0)) | (go_at_call 18; (with_reducible refine (stemma_Letters.calls k _ _ l0 t363 t364 _ ?side1 ?side2 A5.out).mono ?_); (case side1 => repeat (first | exact (Kd.C_below HR0.out HB.out) | (with_reducible refine Kd.C_alloc ?_ _) | (with_reducible refine Kd.C_drewN ?_ _) | (with_reducible refine Kd.C_drew ?_))); (case side2 => exact HC0.out); rintro e w12 ⟨v365, rfl, ho0, hb⟩; have n0_ := Aside0.mk (Kd.N_elder' (by (with_reducible repeat (first | apply Kd.N_alloc | apply Kd.N_drewN | apply Kd.N_drew)); exact HO357.out) (Kd.R_base ho0) hb); have n1_ := Aside0.mk (Kd.N_elder' (by (with_reducible repeat (first | apply Kd.N_alloc | apply Kd.N_drewN | apply Kd.N_drew)); exact HO361.out) (Kd.R_base ho0) hb); have n2_ := Aside0.mk (Kd.R_lower ho0 (below_size (by repeat (first | (with_reducible first | exact HB.out | apply below_alloc | apply pw_below_drewN | apply below_drew1) | exact HB.out)))); have n3_ := Aside0.mk (below_step (by repeat (first | (with_reducible first | exact HB.out | apply below_alloc | apply pw_below_drewN | apply below_drew1) | exact HB.out)) hb); clear HO357; clear HO361; clear HB; have HO357 := n0_; have HO361 := n1_; have HO366 := n2_; have HB := n3_; clear n0_ n1_ n2_ n3_; (try clear hb); (try clear hb2); (try clear hk); (try clear hi); (try clear ho0)) | (go_at_call 18; (with_reducible refine (stemma_Letters.calls k _ _ l1 t367 t368 _ ?side1 ?side2 A6.out).mono ?_); (case side1 => repeat (first | exact (Kd.C_below HR1.out HB.out) | (with_reducible refine Kd.C_alloc ?_ _) | (with_reducible refine Kd.C_drewN ?_ _) | (with_reducible refine Kd.C_drew ?_))); (case side2 => exact HC1.out); rintro e w13 ⟨v369, rfl, ho0, hb⟩; have n0_ := Aside0.mk (Kd.N_elder' (by (with_reducible repeat (first | apply Kd.N_alloc | apply Kd.N_drewN | apply Kd.N_drew)); exact HO357.out) (Kd.R_base ho0) hb); have n1_ := Aside0.mk (Kd.N_elder' (by (with_reducible repeat (first | apply Kd.N_alloc | apply Kd.N_drewN | apply Kd.N_drew)); exact HO361.out) (Kd.R_base ho0) hb); have n2_ := Aside0.mk (Kd.R_elder' (by (with_reducible repeat (first | apply Kd.R_alloc | apply Kd.R_drewN | apply Kd.R_drew)); exact HO366.out) (Kd.R_base ho0) hb); have n3_ := Aside0.mk (Kd.R_lower (Kd.R_new' ho0 (Kd.R_lt (by (with_reducible repeat (first | apply Kd.R_alloc | apply Kd.R_drewN | apply Kd.R_drew)); exact HO366.out))) (below_size (by repeat (first | (with_reducible first | exact HB.out | apply below_alloc | apply pw_below_drewN | apply below_drew1) | exact HB.out)))); have n4_ := Aside0.mk (below_step (by repeat (first | (with_reducible first | exact HB.out | apply below_alloc | apply pw_below_drewN | apply below_drew1) | exact HB.out)) hb); clear HO357; clear HO361; clear HO366; clear HB; have HO357 := n0_; have HO361 := n1_; have HO366 := n2_; have HO370 := n3_; have HB := n4_; clear n0_ n1_ n2_ n3_ n4_; (try clear hb); (try clear hb2); (try clear hk); (try clear hi); (try clear ho0)) | (go_at_call 24; (with_reducible refine (stemma_Fewest.calls k _ _ l0 t371 t372 _ ?side1 ?side2 A7.out).mono ?_); (case side1 => repeat (first | exact (Kd.C_below HR0.out HB.out) | (with_reducible refine Kd.C_alloc ?_ _) | (with_reducible refine Kd.C_drewN ?_ _) | (with_reducible refine Kd.C_drew ?_))); (case side2 => exact HC0.out); rintro e w14 ⟨rfl, hb⟩; have n0_ := Aside0.mk (Kd.N_below (by (with_reducible repeat (first | apply Kd.N_alloc | apply Kd.N_drewN | apply Kd.N_drew)); exact HO357.out) hb); have n1_ := Aside0.mk (Kd.N_below (by (with_reducible repeat (first | apply Kd.N_alloc | apply Kd.N_drewN | apply Kd.N_drew)); exact HO361.out) hb); have n2_ := Aside0.mk (Kd.R_below (by (with_reducible repeat (first | apply Kd.R_alloc | apply Kd.R_drewN | apply Kd.R_drew)); exact HO366.out) hb); have n3_ := Aside0.mk (Kd.R_below (by (with_reducible repeat (first | apply Kd.R_alloc | apply Kd.R_drewN | apply Kd.R_drew)); exact HO370.out) hb); have n4_ := Aside0.mk (below_step (by repeat (first | (with_reducible first | exact HB.out | apply below_alloc | apply pw_below_drewN | apply below_drew1) | exact HB.out)) hb); clear HO357; clear HO361; clear HO366; clear HO370; clear HB; have HO357 := n0_; have HO361 := n1_; have HO366 := n2_; have HO370 := n3_; have HB := n4_; clear n0_ n1_ n2_ n3_ n4_; (try clear hb); (try clear hb2); (try clear hk); (try clear hi)) | (go_at_call 24; (with_reducible refine (stemma_Fewest.calls k _ _ l1 t373 t374 _ ?side1 ?side2 A8.out).mono ?_); (case side1 => repeat (first | exact (Kd.C_below HR1.out HB.out) | (with_reducible refine Kd.C_alloc ?_ _) | (with_reducible refine Kd.C_drewN ?_ _) | (with_reducible refine Kd.C_drew ?_))); (case side2 => exact HC1.out); rintro e w15 ⟨rfl, hb⟩; have n0_ := Aside0.mk (Kd.N_below (by (with_reducible repeat (first | apply Kd.N_alloc | apply Kd.N_drewN | apply Kd.N_drew)); exact HO357.out) hb); have n1_ := Aside0.mk (Kd.N_below (by (with_reducible repeat (first | apply Kd.N_alloc | apply Kd.N_drewN | apply Kd.N_drew)); exact HO361.out) hb); have n2_ := Aside0.mk (Kd.R_below (by (with_reducible repeat (first | apply Kd.R_alloc | apply Kd.R_drewN | apply Kd.R_drew)); exact HO366.out) hb); have n3_ := Aside0.mk (Kd.R_below (by (with_reducible repeat (first | apply Kd.R_alloc | apply Kd.R_drewN | apply Kd.R_drew)); exact HO370.out) hb); have n4_ := Aside0.mk (below_step (by repeat (first | (with_reducible first | exact HB.out | apply below_alloc | apply pw_below_drewN | apply below_drew1) | exact HB.out)) hb); clear HO357; clear HO361; clear HO366; clear HO370; clear HB; have HO357 := n0_; have HO361 := n1_; have HO366 := n2_; have HO370 := n3_; have HB := n4_; clear n0_ n1_ n2_ n3_ n4_; (try clear hb); (try clear hb2); (try clear hk); (try clear hi))))
      (try simp only [Act.put, List.setIfInBounds_toArray, List.set_cons_zero, List.set_cons_succ])
      go_cut [103] (fun v103 wc => ∃ (kq : Nat) (x103_8 : Bool), v103 = .bool x103_8 ∧ Aside0 (cippuslaw07_StemmaMore.j0 kq t355 t359 t362 t363 t367 t371 t373 x103_8 = some r) ∧ Aside0 (kq ≤ k) ∧ Aside0 (Kd.N (Kd.slice 3 (Kd.int .i64)) 25 wc w.heap.size (fun k_ => some k_ ≠ (v360 : Value).ownBlock ∧ some k_ ≠ (v365 : Value).ownBlock ∧ some k_ ≠ (v369 : Value).ownBlock) v356 t355) ∧ Aside0 (Kd.N (Kd.slice 3 (Kd.int .i64)) 25 wc w.heap.size (fun k_ => some k_ ≠ (v356 : Value).ownBlock ∧ some k_ ≠ (v365 : Value).ownBlock ∧ some k_ ≠ (v369 : Value).ownBlock) v360 t359) ∧ Aside0 (Kd.R Kd.string 9 wc w.heap.size (fun k_ => some k_ ≠ (v369 : Value).ownBlock) v365 t363) ∧ Aside0 (Kd.R Kd.string 9 wc w.heap.size (fun k_ => some k_ ≠ (v365 : Value).ownBlock) v369 t367) ∧ Aside0 (Below w.heap.size w wc))
      case first => as_aux_lemma =>
        have H := HC9.out
        clear HC9
        by_cases c16 : t358 = 0
        · rw [if_pos c16] at H
          have c16b0 : (t358 == 0) = true := beq_iff_eq.mpr c16
          have c16b1 : (t358 != 0) = false := bne_eq_false_iff_eq.mpr c16
          clear c16
          (first | rw [c16b0] | (simp only [i64_w, i32_w]; rw [c16b0]) | skip)
          by_cases c17 : t364 = 0
          · rw [if_pos c17] at H
            have c17b0 : (t364 == 0) = true := beq_iff_eq.mpr c17
            have c17b1 : (t364 != 0) = false := bne_eq_false_iff_eq.mpr c17
            clear c17
            by_cases c18 : t372 = 0
            · rw [if_pos c18] at H
              have c18b0 : (t372 == 0) = true := beq_iff_eq.mpr c18
              have c18b1 : (t372 != 0) = false := bne_eq_false_iff_eq.mpr c18
              clear c18
              by_cases c19 : t362 = t368
              · rw [if_pos c19] at H
                have c19b0 : (t362 == t368) = true := beq_iff_eq.mpr c19
                have c19b1 : (t362 != t368) = false := bne_eq_false_iff_eq.mpr c19
                clear c19
                have H' := Aside0.mk H
                clear H
                go_wp2
                repeat (go_quiet (fail); try go_wp2)
                go_meet
                case rel => exact ⟨_, ((t362 != t374)), (by first | rfl | (simp; done) | (simp [*]; done)), H', ⟨by first | omega | exact Nat.le_refl _⟩, ⟨by (with_reducible repeat (first | apply Kd.N_alloc | apply Kd.N_drewN | apply Kd.N_drew)); exact Kd.N_mono HO357.out (fun _ hk => ⟨hk.1.1.2, ⟨hk.1.2, hk.2⟩⟩)⟩, ⟨by (with_reducible repeat (first | apply Kd.N_alloc | apply Kd.N_drewN | apply Kd.N_drew)); exact Kd.N_mono HO361.out (fun _ hk => ⟨hk.1.1, ⟨hk.1.2, hk.2⟩⟩)⟩, ⟨by (with_reducible repeat (first | apply Kd.R_alloc | apply Kd.R_drewN | apply Kd.R_drew)); exact Kd.R_mono HO366.out (fun _ hk => hk.2)⟩, ⟨by (with_reducible repeat (first | apply Kd.R_alloc | apply Kd.R_drewN | apply Kd.R_drew)); exact Kd.R_mono HO370.out (fun _ hk => hk.2)⟩, ⟨by repeat (first | (with_reducible first | exact HB.out | apply below_alloc | apply pw_below_drewN | apply below_drew1) | exact HB.out)⟩⟩
              · rw [if_neg c19] at H
                have c19b0 : (t362 == t368) = false := beq_eq_false_iff_ne.mpr c19
                have c19b1 : (t362 != t368) = true := bne_iff_ne.mpr c19
                have H' := Aside0.mk H
                clear H
                go_wp2
                repeat (go_quiet (fail); try go_wp2)
                go_meet
                case rel => exact ⟨_, (true), (by first | rfl | (simp; done) | (simp [*]; done)), H', ⟨by first | omega | exact Nat.le_refl _⟩, ⟨by (with_reducible repeat (first | apply Kd.N_alloc | apply Kd.N_drewN | apply Kd.N_drew)); exact Kd.N_mono HO357.out (fun _ hk => ⟨hk.1.1.2, ⟨hk.1.2, hk.2⟩⟩)⟩, ⟨by (with_reducible repeat (first | apply Kd.N_alloc | apply Kd.N_drewN | apply Kd.N_drew)); exact Kd.N_mono HO361.out (fun _ hk => ⟨hk.1.1, ⟨hk.1.2, hk.2⟩⟩)⟩, ⟨by (with_reducible repeat (first | apply Kd.R_alloc | apply Kd.R_drewN | apply Kd.R_drew)); exact Kd.R_mono HO366.out (fun _ hk => hk.2)⟩, ⟨by (with_reducible repeat (first | apply Kd.R_alloc | apply Kd.R_drewN | apply Kd.R_drew)); exact Kd.R_mono HO370.out (fun _ hk => hk.2)⟩, ⟨by repeat (first | (with_reducible first | exact HB.out | apply below_alloc | apply pw_below_drewN | apply below_drew1) | exact HB.out)⟩⟩
            · rw [if_neg c18] at H
              have c18b0 : (t372 == 0) = false := beq_eq_false_iff_ne.mpr c18
              have c18b1 : (t372 != 0) = true := bne_iff_ne.mpr c18
              have H' := Aside0.mk H
              clear H
              go_wp2
              repeat (go_quiet (fail); try go_wp2)
              go_meet
              case rel => exact ⟨_, (true), (by first | rfl | (simp; done) | (simp [*]; done)), H', ⟨by first | omega | exact Nat.le_refl _⟩, ⟨by (with_reducible repeat (first | apply Kd.N_alloc | apply Kd.N_drewN | apply Kd.N_drew)); exact Kd.N_mono HO357.out (fun _ hk => ⟨hk.1.1.2, ⟨hk.1.2, hk.2⟩⟩)⟩, ⟨by (with_reducible repeat (first | apply Kd.N_alloc | apply Kd.N_drewN | apply Kd.N_drew)); exact Kd.N_mono HO361.out (fun _ hk => ⟨hk.1.1, ⟨hk.1.2, hk.2⟩⟩)⟩, ⟨by (with_reducible repeat (first | apply Kd.R_alloc | apply Kd.R_drewN | apply Kd.R_drew)); exact Kd.R_mono HO366.out (fun _ hk => hk.2)⟩, ⟨by (with_reducible repeat (first | apply Kd.R_alloc | apply Kd.R_drewN | apply Kd.R_drew)); exact Kd.R_mono HO370.out (fun _ hk => hk.2)⟩, ⟨by repeat (first | (with_reducible first | exact HB.out | apply below_alloc | apply pw_below_drewN | apply below_drew1) | exact HB.out)⟩⟩
          · rw [if_neg c17] at H
            have c17b0 : (t364 == 0) = false := beq_eq_false_iff_ne.mpr c17
            have c17b1 : (t364 != 0) = true := bne_iff_ne.mpr c17
            have H' := Aside0.mk H
            clear H
            go_wp2
            repeat (go_quiet (fail); try go_wp2)
            go_meet
            case rel => exact ⟨_, (true), (by first | rfl | (simp; done) | (simp [*]; done)), H', ⟨by first | omega | exact Nat.le_refl _⟩, ⟨by (with_reducible repeat (first | apply Kd.N_alloc | apply Kd.N_drewN | apply Kd.N_drew)); exact Kd.N_mono HO357.out (fun _ hk => ⟨hk.1.1.2, ⟨hk.1.2, hk.2⟩⟩)⟩, ⟨by (with_reducible repeat (first | apply Kd.N_alloc | apply Kd.N_drewN | apply Kd.N_drew)); exact Kd.N_mono HO361.out (fun _ hk => ⟨hk.1.1, ⟨hk.1.2, hk.2⟩⟩)⟩, ⟨by (with_reducible repeat (first | apply Kd.R_alloc | apply Kd.R_drewN | apply Kd.R_drew)); exact Kd.R_mono HO366.out (fun _ hk => hk.2)⟩, ⟨by (with_reducible repeat (first | apply Kd.R_alloc | apply Kd.R_drewN | apply Kd.R_drew)); exact Kd.R_mono HO370.out (fun _ hk => hk.2)⟩, ⟨by repeat (first | (with_reducible first | exact HB.out | apply below_alloc | apply pw_below_drewN | apply below_drew1) | exact HB.out)⟩⟩
        · rw [if_neg c16] at H
          have c16b0 : (t358 == 0) = false := beq_eq_false_iff_ne.mpr c16
          have c16b1 : (t358 != 0) = true := bne_iff_ne.mpr c16
          (first | rw [c16b0] | (simp only [i64_w, i32_w]; rw [c16b0]) | skip)
          have H' := Aside0.mk H
          clear H
          go_wp2
          repeat (go_quiet (fail); try go_wp2)
          go_meet
          case rel => exact ⟨_, (true), (by first | rfl | (simp; done) | (simp [*]; done)), H', ⟨by first | omega | exact Nat.le_refl _⟩, ⟨by (with_reducible repeat (first | apply Kd.N_alloc | apply Kd.N_drewN | apply Kd.N_drew)); exact Kd.N_mono HO357.out (fun _ hk => ⟨hk.1.1.2, ⟨hk.1.2, hk.2⟩⟩)⟩, ⟨by (with_reducible repeat (first | apply Kd.N_alloc | apply Kd.N_drewN | apply Kd.N_drew)); exact Kd.N_mono HO361.out (fun _ hk => ⟨hk.1.1, ⟨hk.1.2, hk.2⟩⟩)⟩, ⟨by (with_reducible repeat (first | apply Kd.R_alloc | apply Kd.R_drewN | apply Kd.R_drew)); exact Kd.R_mono HO366.out (fun _ hk => hk.2)⟩, ⟨by (with_reducible repeat (first | apply Kd.R_alloc | apply Kd.R_drewN | apply Kd.R_drew)); exact Kd.R_mono HO370.out (fun _ hk => hk.2)⟩, ⟨by repeat (first | (with_reducible first | exact HB.out | apply below_alloc | apply pw_below_drewN | apply below_drew1) | exact HB.out)⟩⟩
      case rest => as_aux_lemma =>
        clear HC9
        try clear c1
        try clear p2
        try clear c7
        try clear c16
        try clear c16b0
        try clear c16b1
        try clear c17
        try clear c17b0
        try clear c17b1
        try clear c18
        try clear c18b0
        try clear c18b1
        try clear c19
        try clear c19b0
        try clear c19b1
        obtain ⟨kq, x103_8, rfl, HA, HJ8, HO_8, HO_10, HO_12, HO_14, HB⟩ := hcut
        cases kq with
        | zero => exact absurd HA.out (by simp [cippuslaw07_StemmaMore.j0])
        | succ kj8 =>
          have H := HA.out
          clear HA
          simp only [cippuslaw07_StemmaMore.j0] at H
          by_cases c20 : x103_8 = true
          · subst c20
            have H1 : (some false) = some r := by rw [if_pos rfl] at H; exact H
            clear H
            have H := H1
            clear H1
            obtain rfl := Option.some.inj H
            go_wp2
            repeat (go_quiet (fail); try go_wp2)
            go_ret
            exact ⟨by first | rfl | (simp [errW_none, errW_some] <;> rfl) | (simp [*, errW_none, errW_some] <;> rfl), by repeat (first | (with_reducible first | exact HB.out | apply below_alloc | apply pw_below_drewN | apply below_drew1) | exact HB.out)⟩
          · replace c20 := Bool.eq_false_iff.mpr c20
            subst c20
            have H1 : (if t362 = 9 then ((cippuslaw07_found.f kj8).bind fun t375 => (some t375)) else (if t362 = 0 then (if t373 < t371 then (cippuslaw07_StemmaMore.j1 kj8 t355 t359 t363 t367 true) else (if (t355.length : Int) = (t359.length : Int) then (cippuslaw07_StemmaMore.j1 kj8 t355 t359 t363 t367 ((t363.length : Int) != (t367.length : Int))) else (cippuslaw07_StemmaMore.j1 kj8 t355 t359 t363 t367 true))) else (cippuslaw07_StemmaMore.j1 kj8 t355 t359 t363 t367 true))) = some r := by rw [if_neg (show ¬ (false = true) by decide)] at H; exact H
            clear H
            have H := H1
            clear H1
            by_cases c21 : t362 = 9
            · rw [if_pos c21] at H
              have c21b0 : (t362 == 9) = true := beq_iff_eq.mpr c21
              have c21b1 : (t362 != 9) = false := bne_eq_false_iff_eq.mpr c21
              clear c21
              replace H := Option.bind_eq_some_iff.mp H
              obtain ⟨t375, A220, H⟩ := H
              replace H : (some t375) = some r := H
              have A22 := Aside0.mk A220
              clear A220
              obtain rfl := Option.some.inj H
              go_wp2_with (first | (go_at_call 17; (with_reducible refine (cippuslaw07_found.calls kj8  t375 _ A22.out).mono ?_); rintro e w23 ⟨rfl, hb⟩; have n0_ := Aside0.mk (Kd.N_below (by (with_reducible repeat (first | apply Kd.N_alloc | apply Kd.N_drewN | apply Kd.N_drew)); exact HO_8.out) hb); have n1_ := Aside0.mk (Kd.N_below (by (with_reducible repeat (first | apply Kd.N_alloc | apply Kd.N_drewN | apply Kd.N_drew)); exact HO_10.out) hb); have n2_ := Aside0.mk (Kd.R_below (by (with_reducible repeat (first | apply Kd.R_alloc | apply Kd.R_drewN | apply Kd.R_drew)); exact HO_12.out) hb); have n3_ := Aside0.mk (Kd.R_below (by (with_reducible repeat (first | apply Kd.R_alloc | apply Kd.R_drewN | apply Kd.R_drew)); exact HO_14.out) hb); have n4_ := Aside0.mk (below_step (by repeat (first | (with_reducible first | exact HB.out | apply below_alloc | apply pw_below_drewN | apply below_drew1) | exact HB.out)) hb); clear HO_8; clear HO_10; clear HO_12; clear HO_14; clear HB; have HO_8 := n0_; have HO_10 := n1_; have HO_12 := n2_; have HO_14 := n3_; have HB := n4_; clear n0_ n1_ n2_ n3_ n4_; (try clear hb); (try clear hb2); (try clear hk); (try clear hi)))
              repeat (go_quiet (first | (go_at_call 17; (with_reducible refine (cippuslaw07_found.calls kj8  t375 _ A22.out).mono ?_); rintro e w23 ⟨rfl, hb⟩; have n0_ := Aside0.mk (Kd.N_below (by (with_reducible repeat (first | apply Kd.N_alloc | apply Kd.N_drewN | apply Kd.N_drew)); exact HO_8.out) hb); have n1_ := Aside0.mk (Kd.N_below (by (with_reducible repeat (first | apply Kd.N_alloc | apply Kd.N_drewN | apply Kd.N_drew)); exact HO_10.out) hb); have n2_ := Aside0.mk (Kd.R_below (by (with_reducible repeat (first | apply Kd.R_alloc | apply Kd.R_drewN | apply Kd.R_drew)); exact HO_12.out) hb); have n3_ := Aside0.mk (Kd.R_below (by (with_reducible repeat (first | apply Kd.R_alloc | apply Kd.R_drewN | apply Kd.R_drew)); exact HO_14.out) hb); have n4_ := Aside0.mk (below_step (by repeat (first | (with_reducible first | exact HB.out | apply below_alloc | apply pw_below_drewN | apply below_drew1) | exact HB.out)) hb); clear HO_8; clear HO_10; clear HO_12; clear HO_14; clear HB; have HO_8 := n0_; have HO_10 := n1_; have HO_12 := n2_; have HO_14 := n3_; have HB := n4_; clear n0_ n1_ n2_ n3_ n4_; (try clear hb); (try clear hb2); (try clear hk); (try clear hi))); try go_wp2_with (first | (go_at_call 17; (with_reducible refine (cippuslaw07_found.calls kj8  t375 _ A22.out).mono ?_); rintro e w23 ⟨rfl, hb⟩; have n0_ := Aside0.mk (Kd.N_below (by (with_reducible repeat (first | apply Kd.N_alloc | apply Kd.N_drewN | apply Kd.N_drew)); exact HO_8.out) hb); have n1_ := Aside0.mk (Kd.N_below (by (with_reducible repeat (first | apply Kd.N_alloc | apply Kd.N_drewN | apply Kd.N_drew)); exact HO_10.out) hb); have n2_ := Aside0.mk (Kd.R_below (by (with_reducible repeat (first | apply Kd.R_alloc | apply Kd.R_drewN | apply Kd.R_drew)); exact HO_12.out) hb); have n3_ := Aside0.mk (Kd.R_below (by (with_reducible repeat (first | apply Kd.R_alloc | apply Kd.R_drewN | apply Kd.R_drew)); exact HO_14.out) hb); have n4_ := Aside0.mk (below_step (by repeat (first | (with_reducible first | exact HB.out | apply below_alloc | apply pw_below_drewN | apply below_drew1) | exact HB.out)) hb); clear HO_8; clear HO_10; clear HO_12; clear HO_14; clear HB; have HO_8 := n0_; have HO_10 := n1_; have HO_12 := n2_; have HO_14 := n3_; have HB := n4_; clear n0_ n1_ n2_ n3_ n4_; (try clear hb); (try clear hb2); (try clear hk); (try clear hi))))
              go_ret
              exact ⟨by first | rfl | (simp [errW_none, errW_some] <;> rfl) | (simp [*, errW_none, errW_some] <;> rfl), by repeat (first | (with_reducible first | exact HB.out | apply below_alloc | apply pw_below_drewN | apply below_drew1) | exact HB.out)⟩
            · rw [if_neg c21] at H
              have c21b0 : (t362 == 9) = false := beq_eq_false_iff_ne.mpr c21
              have c21b1 : (t362 != 9) = true := bne_iff_ne.mpr c21
              have HC24 := Aside0.mk H
              clear H
              go_upto_region 18 with (fail)
              repeat (go_quiet (fail); go_upto_region 18 with (fail))
              go_cut [127] (fun v127 wc => ∃ (kq : Nat) (x127_23 : Bool), v127 = .bool x127_23 ∧ Aside0 (cippuslaw07_StemmaMore.j1 kq t355 t359 t363 t367 x127_23 = some r) ∧ Aside0 (kq ≤ kj8) ∧ Aside0 (Kd.N (Kd.slice 3 (Kd.int .i64)) 25 wc w.heap.size (fun k_ => some k_ ≠ (v360 : Value).ownBlock ∧ some k_ ≠ (v365 : Value).ownBlock ∧ some k_ ≠ (v369 : Value).ownBlock) v356 t355) ∧ Aside0 (Kd.N (Kd.slice 3 (Kd.int .i64)) 25 wc w.heap.size (fun k_ => some k_ ≠ (v356 : Value).ownBlock ∧ some k_ ≠ (v365 : Value).ownBlock ∧ some k_ ≠ (v369 : Value).ownBlock) v360 t359) ∧ Aside0 (Kd.R Kd.string 9 wc w.heap.size (fun k_ => some k_ ≠ (v369 : Value).ownBlock) v365 t363) ∧ Aside0 (Kd.R Kd.string 9 wc w.heap.size (fun k_ => some k_ ≠ (v365 : Value).ownBlock) v369 t367) ∧ Aside0 (Below w.heap.size w wc))
              case first => as_aux_lemma =>
                have H := HC24.out
                clear HC24
                by_cases c25 : t362 = 0
                · rw [if_pos c25] at H
                  have c25b0 : (t362 == 0) = true := beq_iff_eq.mpr c25
                  have c25b1 : (t362 != 0) = false := bne_eq_false_iff_eq.mpr c25
                  clear c25
                  (first | rw [c25b0] | (simp only [i64_w, i32_w]; rw [c25b0]) | skip)
                  by_cases c26 : t373 < t371
                  · rw [if_pos c26] at H
                    have c26b0 : decide (t373 < t371) = true := decide_eq_true c26
                    clear c26
                    have H' := Aside0.mk H
                    clear H
                    go_wp2
                    repeat (go_quiet (fail); try go_wp2)
                    go_meet
                    case rel => exact ⟨_, (true), (by first | rfl | (simp; done) | (simp [*]; done)), H', ⟨by have := HJ8.out; first | omega | exact Nat.le_refl _⟩, ⟨by (with_reducible repeat (first | apply Kd.N_alloc | apply Kd.N_drewN | apply Kd.N_drew)); exact HO_8.out⟩, ⟨by (with_reducible repeat (first | apply Kd.N_alloc | apply Kd.N_drewN | apply Kd.N_drew)); exact HO_10.out⟩, ⟨by (with_reducible repeat (first | apply Kd.R_alloc | apply Kd.R_drewN | apply Kd.R_drew)); exact HO_12.out⟩, ⟨by (with_reducible repeat (first | apply Kd.R_alloc | apply Kd.R_drewN | apply Kd.R_drew)); exact HO_14.out⟩, ⟨by repeat (first | (with_reducible first | exact HB.out | apply below_alloc | apply pw_below_drewN | apply below_drew1) | exact HB.out)⟩⟩
                  · rw [if_neg c26] at H
                    have c26b0 : decide (t373 < t371) = false := decide_eq_false c26
                    clear c26
                    by_cases c27 : (t355.length : Int) = (t359.length : Int)
                    · rw [if_pos c27] at H
                      have c27b0 : ((t355.length : Int) == (t359.length : Int)) = true := beq_iff_eq.mpr c27
                      have c27b1 : ((t355.length : Int) != (t359.length : Int)) = false := bne_eq_false_iff_eq.mpr c27
                      have c27b2 : (t355.length == t359.length) = true := by first | simpa using c27 | (simp at c27 ⊢; omega)
                      clear c27
                      have H' := Aside0.mk H
                      clear H
                      obtain ⟨Ao28, co28, eo28⟩ := Kd.N_slice HO_8.out
                      subst eo28
                      obtain ⟨Ao29, co29, eo29⟩ := Kd.N_slice HO_10.out
                      subst eo29
                      obtain ⟨Ao30, co30, eo30⟩ := Kd.R_slice HO_12.out
                      subst eo30
                      obtain ⟨Ao31, co31, eo31⟩ := Kd.R_slice HO_14.out
                      subst eo31
                      go_wp2
                      repeat (go_quiet (fail); try go_wp2)
                      go_meet
                      case rel => exact ⟨_, (((t363.length : Int) != (t367.length : Int))), (by first | rfl | (simp; done) | (simp [*]; done)), H', ⟨by have := HJ8.out; first | omega | exact Nat.le_refl _⟩, ⟨by (with_reducible repeat (first | apply Kd.N_alloc | apply Kd.N_drewN | apply Kd.N_drew)); exact HO_8.out⟩, ⟨by (with_reducible repeat (first | apply Kd.N_alloc | apply Kd.N_drewN | apply Kd.N_drew)); exact HO_10.out⟩, ⟨by (with_reducible repeat (first | apply Kd.R_alloc | apply Kd.R_drewN | apply Kd.R_drew)); exact HO_12.out⟩, ⟨by (with_reducible repeat (first | apply Kd.R_alloc | apply Kd.R_drewN | apply Kd.R_drew)); exact HO_14.out⟩, ⟨by repeat (first | (with_reducible first | exact HB.out | apply below_alloc | apply pw_below_drewN | apply below_drew1) | exact HB.out)⟩⟩
                    · rw [if_neg c27] at H
                      have c27b0 : ((t355.length : Int) == (t359.length : Int)) = false := beq_eq_false_iff_ne.mpr c27
                      have c27b1 : ((t355.length : Int) != (t359.length : Int)) = true := bne_iff_ne.mpr c27
                      have c27b2 : (t355.length == t359.length) = false := by first | simpa using c27 | (simp at c27 ⊢; omega)
                      have H' := Aside0.mk H
                      clear H
                      obtain ⟨Ao32, co32, eo32⟩ := Kd.N_slice HO_8.out
                      subst eo32
                      obtain ⟨Ao33, co33, eo33⟩ := Kd.N_slice HO_10.out
                      subst eo33
                      go_wp2
                      repeat (go_quiet (fail); try go_wp2)
                      go_meet
                      case rel => exact ⟨_, (true), (by first | rfl | (simp; done) | (simp [*]; done)), H', ⟨by have := HJ8.out; first | omega | exact Nat.le_refl _⟩, ⟨by (with_reducible repeat (first | apply Kd.N_alloc | apply Kd.N_drewN | apply Kd.N_drew)); exact HO_8.out⟩, ⟨by (with_reducible repeat (first | apply Kd.N_alloc | apply Kd.N_drewN | apply Kd.N_drew)); exact HO_10.out⟩, ⟨by (with_reducible repeat (first | apply Kd.R_alloc | apply Kd.R_drewN | apply Kd.R_drew)); exact HO_12.out⟩, ⟨by (with_reducible repeat (first | apply Kd.R_alloc | apply Kd.R_drewN | apply Kd.R_drew)); exact HO_14.out⟩, ⟨by repeat (first | (with_reducible first | exact HB.out | apply below_alloc | apply pw_below_drewN | apply below_drew1) | exact HB.out)⟩⟩
                · rw [if_neg c25] at H
                  have c25b0 : (t362 == 0) = false := beq_eq_false_iff_ne.mpr c25
                  have c25b1 : (t362 != 0) = true := bne_iff_ne.mpr c25
                  (first | rw [c25b0] | (simp only [i64_w, i32_w]; rw [c25b0]) | skip)
                  have H' := Aside0.mk H
                  clear H
                  go_wp2
                  repeat (go_quiet (fail); try go_wp2)
                  go_meet
                  case rel => exact ⟨_, (true), (by first | rfl | (simp; done) | (simp [*]; done)), H', ⟨by have := HJ8.out; first | omega | exact Nat.le_refl _⟩, ⟨by (with_reducible repeat (first | apply Kd.N_alloc | apply Kd.N_drewN | apply Kd.N_drew)); exact HO_8.out⟩, ⟨by (with_reducible repeat (first | apply Kd.N_alloc | apply Kd.N_drewN | apply Kd.N_drew)); exact HO_10.out⟩, ⟨by (with_reducible repeat (first | apply Kd.R_alloc | apply Kd.R_drewN | apply Kd.R_drew)); exact HO_12.out⟩, ⟨by (with_reducible repeat (first | apply Kd.R_alloc | apply Kd.R_drewN | apply Kd.R_drew)); exact HO_14.out⟩, ⟨by repeat (first | (with_reducible first | exact HB.out | apply below_alloc | apply pw_below_drewN | apply below_drew1) | exact HB.out)⟩⟩
              case rest => as_aux_lemma =>
                clear HC24
                try clear c1
                try clear c2
                try clear p2
                try clear c7
                try clear c16
                try clear c16b0
                try clear c16b1
                try clear c17
                try clear c17b0
                try clear c17b1
                try clear c18
                try clear c18b0
                try clear c18b1
                try clear c19
                try clear c19b0
                try clear c19b1
                try clear c20
                try clear c21
                try clear c21b0
                try clear c21b1
                try clear c25
                try clear c25b0
                try clear c25b1
                try clear c26
                try clear c26b0
                try clear c27
                try clear c27b0
                try clear c27b1
                try clear c27b2
                try clear p2
                obtain ⟨kq, x127_23, rfl, HA, HJ23, HO_8, HO_10, HO_12, HO_14, HB⟩ := hcut
                cases kq with
                | zero => exact absurd HA.out (by simp [cippuslaw07_StemmaMore.j1])
                | succ kj23 =>
                  have H := HA.out
                  clear HA
                  simp only [cippuslaw07_StemmaMore.j1] at H
                  by_cases c34 : x127_23 = true
                  · subst c34
                    have H1 : (some false) = some r := by rw [if_pos rfl] at H; exact H
                    clear H
                    have H := H1
                    clear H1
                    obtain rfl := Option.some.inj H
                    go_wp2
                    repeat (go_quiet (fail); try go_wp2)
                    go_ret
                    exact ⟨by first | rfl | (simp [errW_none, errW_some] <;> rfl) | (simp [*, errW_none, errW_some] <;> rfl), by repeat (first | (with_reducible first | exact HB.out | apply below_alloc | apply pw_below_drewN | apply below_drew1) | exact HB.out)⟩
                  · replace c34 := Bool.eq_false_iff.mpr c34
                    subst c34
                    have H1 : (cippuslaw07_StemmaMore.l0 kj23 t355 t359 t363 t367 0) = some r := by rw [if_neg (show ¬ (false = true) by decide)] at H; exact H
                    clear H
                    have H := H1
                    clear H1
                    have H' := Aside0.mk H
                    clear H
                    go_wp2
                    repeat (go_quiet (fail); try go_wp2)
                    go_loopg [20] kj23 (fun kq v20 w' => ∃ (x20_3 : Int), v20 = .int .i64 x20_3 ∧ Aside0 (cippuslaw07_StemmaMore.l0 kq t355 t359 t363 t367 x20_3 = some r) ∧ Aside0 (kq ≤ kj23) ∧ Aside0 (Kd.N (Kd.slice 3 (Kd.int .i64)) 25 w' w.heap.size (fun k_ => some k_ ≠ (v360 : Value).ownBlock ∧ some k_ ≠ (v365 : Value).ownBlock ∧ some k_ ≠ (v369 : Value).ownBlock) v356 t355) ∧ Aside0 (Kd.N (Kd.slice 3 (Kd.int .i64)) 25 w' w.heap.size (fun k_ => some k_ ≠ (v356 : Value).ownBlock ∧ some k_ ≠ (v365 : Value).ownBlock ∧ some k_ ≠ (v369 : Value).ownBlock) v360 t359) ∧ Aside0 (Kd.R Kd.string 9 w' w.heap.size (fun k_ => some k_ ≠ (v369 : Value).ownBlock) v365 t363) ∧ Aside0 (Kd.R Kd.string 9 w' w.heap.size (fun k_ => some k_ ≠ (v365 : Value).ownBlock) v369 t367) ∧ Aside0 (Below w.heap.size w w'))
                    case atStart => exact ⟨(0), (by first | rfl | (simp; done) | (simp [*]; done)), H', ⟨Nat.le_refl _⟩, ⟨by (with_reducible repeat (first | apply Kd.N_alloc | apply Kd.N_drewN | apply Kd.N_drew)); exact HO_8.out⟩, ⟨by (with_reducible repeat (first | apply Kd.N_alloc | apply Kd.N_drewN | apply Kd.N_drew)); exact HO_10.out⟩, ⟨by (with_reducible repeat (first | apply Kd.R_alloc | apply Kd.R_drewN | apply Kd.R_drew)); exact HO_12.out⟩, ⟨by (with_reducible repeat (first | apply Kd.R_alloc | apply Kd.R_drewN | apply Kd.R_drew)); exact HO_14.out⟩, ⟨by repeat (first | (with_reducible first | exact HB.out | apply below_alloc | apply pw_below_drewN | apply below_drew1) | exact HB.out)⟩⟩
                    case round => as_aux_lemma =>
                      clear H'
                      try clear c1
                      try clear c2
                      try clear p2
                      try clear c3
                      try clear c7
                      try clear c16
                      try clear c16b0
                      try clear c16b1
                      try clear c17
                      try clear c17b0
                      try clear c17b1
                      try clear c18
                      try clear c18b0
                      try clear c18b1
                      try clear c19
                      try clear c19b0
                      try clear c19b1
                      try clear c20
                      try clear c21
                      try clear c21b0
                      try clear c21b1
                      try clear c25
                      try clear c25b0
                      try clear c25b1
                      try clear c26
                      try clear c26b0
                      try clear c27
                      try clear c27b0
                      try clear c27b1
                      try clear c27b2
                      try clear c34
                      try clear p2
                      obtain ⟨x20_3, rfl, HA, HK3, HO_8, HO_10, HO_12, HO_14, HB⟩ := hrel
                      cases gk with
                      | zero => exact absurd HA.out (by simp [cippuslaw07_StemmaMore.l0])
                      | succ k3 =>
                        have H := HA.out
                        clear HA
                        simp only [cippuslaw07_StemmaMore.l0] at H
                        by_cases c35 : x20_3 < (t355.length : Int)
                        · rw [if_pos c35] at H
                          have c35b0 : decide (x20_3 < (t355.length : Int)) = true := decide_eq_true c35
                          clear c35
                          by_cases c36 : 0 ≤ x20_3
                          · rw [if_pos c36] at H
                            have c36b0 : decide (0 ≤ x20_3) = true := decide_eq_true c36
                            clear c36
                            by_cases c37 : x20_3 < (t359.length : Int)
                            · rw [if_pos c37] at H
                              have c37b0 : decide (x20_3 < (t359.length : Int)) = true := decide_eq_true c37
                              clear c37
                              by_cases c38 : ((rd_L4 t355 x20_3).length : Int) = ((rd_L4 t359 x20_3).length : Int)
                              · rw [if_pos c38] at H
                                have c38b0 : (((rd_L4 t355 x20_3).length : Int) == ((rd_L4 t359 x20_3).length : Int)) = true := beq_iff_eq.mpr c38
                                have c38b1 : (((rd_L4 t355 x20_3).length : Int) != ((rd_L4 t359 x20_3).length : Int)) = false := bne_eq_false_iff_eq.mpr c38
                                have c38b2 : ((rd_L4 t355 x20_3).length == (rd_L4 t359 x20_3).length) = true := by first | simpa using c38 | (simp at c38 ⊢; omega)
                                clear c38
                                have H' := Aside0.mk H
                                clear H
                                obtain ⟨Ao39, co39, eo39⟩ := Kd.N_slice HO_8.out
                                subst eo39
                                have p376 : 0 ≤ (x20_3 : Int) := of_decide_eq_true (by first | (with_reducible assumption) | assumption)
                                have q376 : x20_3 < (t355.length : Int) := of_decide_eq_true (by first | (with_reducible assumption) | assumption)
                                obtain ⟨ad376, A376_0, c376_0, e376, hx376_0, hl376_0, hi376_0⟩ := at_L4 (Kd.N_reads' HO_8.out).2.2 x20_3 p376 q376
                                cases e376
                                obtain ⟨ce376, hce376, hMe376, hcc376⟩ := Kd.N_get HO_8.out [] x20_3 p376 (by first | exact q376 | exact of_decide_eq_true (by first | (with_reducible assumption) | assumption) | (have e_ := (Kd.N_reads' HO_8.out).1; omega))
                                obtain ⟨ua376_0, uc376_0, rfl, ul376_0, ge376_0⟩ := Kd.FK_slice_open hMe376
                                have hv376_0 := hcc376 0 _ rfl
                                rw [Nat.add_zero, show ((Kd.slice 3 (Kd.int .i64))).sz = 1 from rfl, Nat.mul_one] at hv376_0
                                replace hv376_0 := Option.some.inj (hv376_0.symm.trans hx376_0)
                                injection hv376_0 with hva_ hvn_ hvc_
                                rw [hva_] at ge376_0
                                rw [hvc_] at ul376_0
                                have HL376_0 := Aside0.mk (show Kd.V (Kd.int .i64) 3 _ w.heap.size _ _ (rd_L4 t355 x20_3) from Kd.V_mk ul376_0 ge376_0)
                                clear hva_ hvn_ hvc_ ge376_0 ul376_0
                                clear hcc376 hce376
                                have HR376_0 := Aside0.mk hi376_0
                                have HC376_0 := Aside0.mk hl376_0
                                clear hi376_0 hl376_0
                                replace p376 := eq_true p376
                                replace q376 := eq_true q376
                                obtain ⟨Ao40, co40, eo40⟩ := Kd.N_slice HO_10.out
                                subst eo40
                                have p377 : 0 ≤ (x20_3 : Int) := of_decide_eq_true (by first | (with_reducible assumption) | assumption)
                                have q377 : x20_3 < (t359.length : Int) := of_decide_eq_true (by first | (with_reducible assumption) | assumption)
                                obtain ⟨ad377, A377_0, c377_0, e377, hx377_0, hl377_0, hi377_0⟩ := at_L4 (Kd.N_reads' HO_10.out).2.2 x20_3 p377 q377
                                cases e377
                                obtain ⟨ce377, hce377, hMe377, hcc377⟩ := Kd.N_get HO_10.out [] x20_3 p377 (by first | exact q377 | exact of_decide_eq_true (by first | (with_reducible assumption) | assumption) | (have e_ := (Kd.N_reads' HO_10.out).1; omega))
                                obtain ⟨ua377_0, uc377_0, rfl, ul377_0, ge377_0⟩ := Kd.FK_slice_open hMe377
                                have hv377_0 := hcc377 0 _ rfl
                                rw [Nat.add_zero, show ((Kd.slice 3 (Kd.int .i64))).sz = 1 from rfl, Nat.mul_one] at hv377_0
                                replace hv377_0 := Option.some.inj (hv377_0.symm.trans hx377_0)
                                injection hv377_0 with hva_ hvn_ hvc_
                                rw [hva_] at ge377_0
                                rw [hvc_] at ul377_0
                                have HL377_0 := Aside0.mk (show Kd.V (Kd.int .i64) 3 _ w.heap.size _ _ (rd_L4 t359 x20_3) from Kd.V_mk ul377_0 ge377_0)
                                clear hva_ hvn_ hvc_ ge377_0 ul377_0
                                clear hcc377 hce377
                                have HR377_0 := Aside0.mk hi377_0
                                have HC377_0 := Aside0.mk hl377_0
                                clear hi377_0 hl377_0
                                replace p377 := eq_true p377
                                replace q377 := eq_true q377
                                go_wp2
                                repeat (go_quiet (fail); try go_wp2)
                                go_loopg [21] k3 (fun kq v21 w' => ∃ (x21_4 : Int), v21 = .int .i64 x21_4 ∧ Aside0 (cippuslaw07_StemmaMore.l1 kq t355 t359 t363 t367 x20_3 x21_4 = some r) ∧ Aside0 (kq ≤ k3) ∧ Aside0 (Kd.N (Kd.slice 3 (Kd.int .i64)) 25 w' w.heap.size (fun k_ => some k_ ≠ ((.slice (some ad377) t359.length co40) : Value).ownBlock ∧ some k_ ≠ (v365 : Value).ownBlock ∧ some k_ ≠ (v369 : Value).ownBlock) (.slice (some ad376) t355.length co39) t355) ∧ Aside0 (Kd.N (Kd.slice 3 (Kd.int .i64)) 25 w' w.heap.size (fun k_ => some k_ ≠ ((.slice (some ad376) t355.length co39) : Value).ownBlock ∧ some k_ ≠ (v365 : Value).ownBlock ∧ some k_ ≠ (v369 : Value).ownBlock) (.slice (some ad377) t359.length co40) t359) ∧ Aside0 (Kd.R Kd.string 9 w' w.heap.size (fun k_ => some k_ ≠ (v369 : Value).ownBlock) v365 t363) ∧ Aside0 (Kd.R Kd.string 9 w' w.heap.size (fun k_ => some k_ ≠ (v365 : Value).ownBlock) v369 t367) ∧ Aside0 (Kd.C (Kd.int .i64) w' A376_0 (rd_L4 t355 x20_3).length (rd_L4 t355 x20_3)) ∧ Aside0 (Kd.C (Kd.int .i64) w' A377_0 (rd_L4 t359 x20_3).length (rd_L4 t359 x20_3)) ∧ Aside0 (Below w.heap.size w w'))
                                case atStart => exact ⟨(0), (by first | rfl | (simp; done) | (simp [*]; done)), H', ⟨Nat.le_refl _⟩, ⟨by (with_reducible repeat (first | apply Kd.N_alloc | apply Kd.N_drewN | apply Kd.N_drew)); exact HO_8.out⟩, ⟨by (with_reducible repeat (first | apply Kd.N_alloc | apply Kd.N_drewN | apply Kd.N_drew)); exact HO_10.out⟩, ⟨by (with_reducible repeat (first | apply Kd.R_alloc | apply Kd.R_drewN | apply Kd.R_drew)); exact HO_12.out⟩, ⟨by (with_reducible repeat (first | apply Kd.R_alloc | apply Kd.R_drewN | apply Kd.R_drew)); exact HO_14.out⟩, ⟨by repeat (first | (with_reducible exact HR376_0.out) | (with_reducible refine Kd.C_alloc ?_ _) | (with_reducible refine Kd.C_drewN ?_ _) | (with_reducible refine Kd.C_drew ?_) | exact HR376_0.out)⟩, ⟨by repeat (first | (with_reducible exact HR377_0.out) | (with_reducible refine Kd.C_alloc ?_ _) | (with_reducible refine Kd.C_drewN ?_ _) | (with_reducible refine Kd.C_drew ?_) | exact HR377_0.out)⟩, ⟨by repeat (first | (with_reducible first | exact HB.out | apply below_alloc | apply pw_below_drewN | apply below_drew1) | exact HB.out)⟩⟩
                                case round => as_aux_lemma =>
                                  clear H'
                                  try clear c1
                                  try clear c2
                                  try clear p2
                                  try clear c3
                                  try clear p3
                                  try clear q3
                                  try clear hx3
                                  try clear c7
                                  try clear c16
                                  try clear c16b0
                                  try clear c16b1
                                  try clear c17
                                  try clear c17b0
                                  try clear c17b1
                                  try clear c18
                                  try clear c18b0
                                  try clear c18b1
                                  try clear c19
                                  try clear c19b0
                                  try clear c19b1
                                  try clear c20
                                  try clear c21
                                  try clear c21b0
                                  try clear c21b1
                                  try clear c25
                                  try clear c25b0
                                  try clear c25b1
                                  try clear c26
                                  try clear c26b0
                                  try clear c27
                                  try clear c27b0
                                  try clear c27b1
                                  try clear c27b2
                                  try clear c34
                                  try clear c35
                                  try clear c35b0
                                  try clear c36
                                  try clear c36b0
                                  try clear c37
                                  try clear c37b0
                                  try clear p37
                                  try clear q37
                                  try clear hx37
                                  try clear c38
                                  try clear c38b0
                                  try clear c38b1
                                  try clear c38b2
                                  try clear hx376_0
                                  try clear hx377_0
                                  try clear p2
                                  try clear p376
                                  try clear p377
                                  try clear q376
                                  try clear q377
                                  obtain ⟨x21_4, rfl, HA, HK4, HO_8, HO_10, HO_12, HO_14, HR376_0, HR377_0, HB⟩ := hrel
                                  cases gk with
                                  | zero => exact absurd HA.out (by simp [cippuslaw07_StemmaMore.l1])
                                  | succ k4 =>
                                    have H := HA.out
                                    clear HA
                                    simp only [cippuslaw07_StemmaMore.l1] at H
                                    by_cases c41 : 0 ≤ x20_3
                                    · rw [if_pos c41] at H
                                      have c41b0 : decide (0 ≤ x20_3) = true := decide_eq_true c41
                                      clear c41
                                      by_cases c42 : x20_3 < (t355.length : Int)
                                      · rw [if_pos c42] at H
                                        have c42b0 : decide (x20_3 < (t355.length : Int)) = true := decide_eq_true c42
                                        clear c42
                                        by_cases c43 : x21_4 < ((rd_L4 t355 x20_3).length : Int)
                                        · rw [if_pos c43] at H
                                          have c43b0 : decide (x21_4 < ((rd_L4 t355 x20_3).length : Int)) = true := decide_eq_true c43
                                          clear c43
                                          by_cases c44 : 0 ≤ x21_4
                                          · rw [if_pos c44] at H
                                            have c44b0 : decide (0 ≤ x21_4) = true := decide_eq_true c44
                                            clear c44
                                            by_cases c45 : (rd (rd_L4 t355 x20_3) x21_4) = 3
                                            · rw [if_pos c45] at H
                                              have c45b0 : ((rd (rd_L4 t355 x20_3) x21_4) == 3) = true := beq_iff_eq.mpr c45
                                              have c45b1 : ((rd (rd_L4 t355 x20_3) x21_4) != 3) = false := bne_eq_false_iff_eq.mpr c45
                                              clear c45
                                              have H' := Aside0.mk H
                                              clear H
                                              have p378 : 0 ≤ (x20_3 : Int) := of_decide_eq_true (by first | (with_reducible assumption) | assumption)
                                              have q378 : x20_3 < (t355.length : Int) := of_decide_eq_true (by first | (with_reducible assumption) | assumption)
                                              obtain ⟨ad378, A378_0, c378_0, e378, hx378_0, hl378_0, hi378_0⟩ := at_L4 (Kd.N_reads' HO_8.out).2.2 x20_3 p378 q378
                                              obtain rfl : ad376 = ad378 := (by injection e378)
                                              obtain ⟨ce378, hce378, hMe378, hcc378⟩ := Kd.N_get HO_8.out [] x20_3 p378 (by first | exact q378 | exact of_decide_eq_true (by first | (with_reducible assumption) | assumption) | (have e_ := (Kd.N_reads' HO_8.out).1; omega))
                                              obtain ⟨ua378_0, uc378_0, rfl, ul378_0, ge378_0⟩ := Kd.FK_slice_open hMe378
                                              have hv378_0 := hcc378 0 _ rfl
                                              rw [Nat.add_zero, show ((Kd.slice 3 (Kd.int .i64))).sz = 1 from rfl, Nat.mul_one] at hv378_0
                                              replace hv378_0 := Option.some.inj (hv378_0.symm.trans hx378_0)
                                              injection hv378_0 with hva_ hvn_ hvc_
                                              rw [hva_] at ge378_0
                                              rw [hvc_] at ul378_0
                                              have HL378_0 := Aside0.mk (show Kd.V (Kd.int .i64) 3 _ w.heap.size _ _ (rd_L4 t355 x20_3) from Kd.V_mk ul378_0 ge378_0)
                                              clear hva_ hvn_ hvc_ ge378_0 ul378_0
                                              clear hcc378 hce378
                                              have HR378_0 := Aside0.mk hi378_0
                                              have HC378_0 := Aside0.mk hl378_0
                                              clear hi378_0 hl378_0
                                              replace p378 := eq_true p378
                                              replace q378 := eq_true q378
                                              have p379 : 0 ≤ (x20_3 : Int) := of_decide_eq_true (by first | (with_reducible assumption) | assumption)
                                              have q379 : x20_3 < (t355.length : Int) := of_decide_eq_true (by first | (with_reducible assumption) | assumption)
                                              obtain ⟨ad379, A379_0, c379_0, e379, hx379_0, hl379_0, hi379_0⟩ := at_L4 (Kd.N_reads' HO_8.out).2.2 x20_3 p379 q379
                                              obtain rfl : ad376 = ad379 := (by injection e379)
                                              obtain ⟨ce379, hce379, hMe379, hcc379⟩ := Kd.N_get HO_8.out [] x20_3 p379 (by first | exact q379 | exact of_decide_eq_true (by first | (with_reducible assumption) | assumption) | (have e_ := (Kd.N_reads' HO_8.out).1; omega))
                                              obtain ⟨ua379_0, uc379_0, rfl, ul379_0, ge379_0⟩ := Kd.FK_slice_open hMe379
                                              have hv379_0 := hcc379 0 _ rfl
                                              rw [Nat.add_zero, show ((Kd.slice 3 (Kd.int .i64))).sz = 1 from rfl, Nat.mul_one] at hv379_0
                                              replace hv379_0 := Option.some.inj (hv379_0.symm.trans hx379_0)
                                              injection hv379_0 with hva_ hvn_ hvc_
                                              rw [hva_] at ge379_0
                                              rw [hvc_] at ul379_0
                                              have HL379_0 := Aside0.mk (show Kd.V (Kd.int .i64) 3 _ w.heap.size _ _ (rd_L4 t355 x20_3) from Kd.V_mk ul379_0 ge379_0)
                                              clear hva_ hvn_ hvc_ ge379_0 ul379_0
                                              clear hcc379 hce379
                                              have HR379_0 := Aside0.mk hi379_0
                                              have HC379_0 := Aside0.mk hl379_0
                                              clear hi379_0 hl379_0
                                              replace p379 := eq_true p379
                                              replace q379 := eq_true q379
                                              have ea_ := Option.some.inj (hx378_0.symm.trans hx379_0)
                                              injection ea_ with ea_ en_ ec_
                                              subst ea_
                                              subst ec_
                                              clear en_
                                              have p380 : 0 ≤ (x21_4 : Int) := of_decide_eq_true (by first | (with_reducible assumption) | assumption)
                                              have q380 : x21_4 < ((rd_L4 t355 x20_3).length : Int) := of_decide_eq_true (by first | (with_reducible assumption) | assumption)
                                              obtain ⟨ad380, e380, hx380_0⟩ := Kd.at_int (by repeat (first | (with_reducible exact HR379_0.out) | (with_reducible refine Kd.C_alloc ?_ _) | (with_reducible refine Kd.C_drewN ?_ _) | (with_reducible refine Kd.C_drew ?_) | exact HR379_0.out)) x21_4 p380 q380
                                              cases e380
                                              replace p380 := eq_true p380
                                              replace q380 := eq_true q380
                                              go_wp2
                                              repeat (go_quiet (fail); try go_wp2)
                                              go_roundg k4
                                              case measure => have := HJ8.out; have := HJ23.out; have := HK3.out; have := HK4.out; omega
                                              case rel => exact ⟨(wrap64 (x21_4 + 1)), (by first | rfl | (simp; done) | (simp [*]; done)), H', ⟨by have := HJ8.out; have := HJ23.out; have := HK3.out; have := HK4.out; omega⟩, ⟨by (with_reducible repeat (first | apply Kd.N_alloc | apply Kd.N_drewN | apply Kd.N_drew)); exact HO_8.out⟩, ⟨by (with_reducible repeat (first | apply Kd.N_alloc | apply Kd.N_drewN | apply Kd.N_drew)); exact HO_10.out⟩, ⟨by (with_reducible repeat (first | apply Kd.R_alloc | apply Kd.R_drewN | apply Kd.R_drew)); exact HO_12.out⟩, ⟨by (with_reducible repeat (first | apply Kd.R_alloc | apply Kd.R_drewN | apply Kd.R_drew)); exact HO_14.out⟩, ⟨by repeat (first | (with_reducible exact HR376_0.out) | (with_reducible refine Kd.C_alloc ?_ _) | (with_reducible refine Kd.C_drewN ?_ _) | (with_reducible refine Kd.C_drew ?_) | exact HR376_0.out)⟩, ⟨by repeat (first | (with_reducible exact HR377_0.out) | (with_reducible refine Kd.C_alloc ?_ _) | (with_reducible refine Kd.C_drewN ?_ _) | (with_reducible refine Kd.C_drew ?_) | exact HR377_0.out)⟩, ⟨by repeat (first | (with_reducible first | exact HB.out | apply below_alloc | apply pw_below_drewN | apply below_drew1) | exact HB.out)⟩⟩
                                            · rw [if_neg c45] at H
                                              have c45b0 : ((rd (rd_L4 t355 x20_3) x21_4) == 3) = false := beq_eq_false_iff_ne.mpr c45
                                              have c45b1 : ((rd (rd_L4 t355 x20_3) x21_4) != 3) = true := bne_iff_ne.mpr c45
                                              by_cases c46 : x20_3 < (t359.length : Int)
                                              · rw [if_pos c46] at H
                                                have c46b0 : decide (x20_3 < (t359.length : Int)) = true := decide_eq_true c46
                                                clear c46
                                                by_cases c47 : x21_4 < ((rd_L4 t359 x20_3).length : Int)
                                                · rw [if_pos c47] at H
                                                  have c47b0 : decide (x21_4 < ((rd_L4 t359 x20_3).length : Int)) = true := decide_eq_true c47
                                                  clear c47
                                                  by_cases c48 : (rd (rd_L4 t359 x20_3) x21_4) = (rd (rd_L4 t355 x20_3) x21_4)
                                                  · rw [if_pos c48] at H
                                                    have c48b0 : ((rd (rd_L4 t359 x20_3) x21_4) == (rd (rd_L4 t355 x20_3) x21_4)) = true := beq_iff_eq.mpr c48
                                                    have c48b1 : ((rd (rd_L4 t359 x20_3) x21_4) != (rd (rd_L4 t355 x20_3) x21_4)) = false := bne_eq_false_iff_eq.mpr c48
                                                    clear c48
                                                    have H' := Aside0.mk H
                                                    clear H
                                                    have p378 : 0 ≤ (x20_3 : Int) := of_decide_eq_true (by first | (with_reducible assumption) | assumption)
                                                    have q378 : x20_3 < (t355.length : Int) := of_decide_eq_true (by first | (with_reducible assumption) | assumption)
                                                    obtain ⟨ad378, A378_0, c378_0, e378, hx378_0, hl378_0, hi378_0⟩ := at_L4 (Kd.N_reads' HO_8.out).2.2 x20_3 p378 q378
                                                    obtain rfl : ad376 = ad378 := (by injection e378)
                                                    obtain ⟨ce378, hce378, hMe378, hcc378⟩ := Kd.N_get HO_8.out [] x20_3 p378 (by first | exact q378 | exact of_decide_eq_true (by first | (with_reducible assumption) | assumption) | (have e_ := (Kd.N_reads' HO_8.out).1; omega))
                                                    obtain ⟨ua378_0, uc378_0, rfl, ul378_0, ge378_0⟩ := Kd.FK_slice_open hMe378
                                                    have hv378_0 := hcc378 0 _ rfl
                                                    rw [Nat.add_zero, show ((Kd.slice 3 (Kd.int .i64))).sz = 1 from rfl, Nat.mul_one] at hv378_0
                                                    replace hv378_0 := Option.some.inj (hv378_0.symm.trans hx378_0)
                                                    injection hv378_0 with hva_ hvn_ hvc_
                                                    rw [hva_] at ge378_0
                                                    rw [hvc_] at ul378_0
                                                    have HL378_0 := Aside0.mk (show Kd.V (Kd.int .i64) 3 _ w.heap.size _ _ (rd_L4 t355 x20_3) from Kd.V_mk ul378_0 ge378_0)
                                                    clear hva_ hvn_ hvc_ ge378_0 ul378_0
                                                    clear hcc378 hce378
                                                    have HR378_0 := Aside0.mk hi378_0
                                                    have HC378_0 := Aside0.mk hl378_0
                                                    clear hi378_0 hl378_0
                                                    replace p378 := eq_true p378
                                                    replace q378 := eq_true q378
                                                    have p379 : 0 ≤ (x20_3 : Int) := of_decide_eq_true (by first | (with_reducible assumption) | assumption)
                                                    have q379 : x20_3 < (t355.length : Int) := of_decide_eq_true (by first | (with_reducible assumption) | assumption)
                                                    obtain ⟨ad379, A379_0, c379_0, e379, hx379_0, hl379_0, hi379_0⟩ := at_L4 (Kd.N_reads' HO_8.out).2.2 x20_3 p379 q379
                                                    obtain rfl : ad376 = ad379 := (by injection e379)
                                                    obtain ⟨ce379, hce379, hMe379, hcc379⟩ := Kd.N_get HO_8.out [] x20_3 p379 (by first | exact q379 | exact of_decide_eq_true (by first | (with_reducible assumption) | assumption) | (have e_ := (Kd.N_reads' HO_8.out).1; omega))
                                                    obtain ⟨ua379_0, uc379_0, rfl, ul379_0, ge379_0⟩ := Kd.FK_slice_open hMe379
                                                    have hv379_0 := hcc379 0 _ rfl
                                                    rw [Nat.add_zero, show ((Kd.slice 3 (Kd.int .i64))).sz = 1 from rfl, Nat.mul_one] at hv379_0
                                                    replace hv379_0 := Option.some.inj (hv379_0.symm.trans hx379_0)
                                                    injection hv379_0 with hva_ hvn_ hvc_
                                                    rw [hva_] at ge379_0
                                                    rw [hvc_] at ul379_0
                                                    have HL379_0 := Aside0.mk (show Kd.V (Kd.int .i64) 3 _ w.heap.size _ _ (rd_L4 t355 x20_3) from Kd.V_mk ul379_0 ge379_0)
                                                    clear hva_ hvn_ hvc_ ge379_0 ul379_0
                                                    clear hcc379 hce379
                                                    have HR379_0 := Aside0.mk hi379_0
                                                    have HC379_0 := Aside0.mk hl379_0
                                                    clear hi379_0 hl379_0
                                                    replace p379 := eq_true p379
                                                    replace q379 := eq_true q379
                                                    have ea_ := Option.some.inj (hx378_0.symm.trans hx379_0)
                                                    injection ea_ with ea_ en_ ec_
                                                    subst ea_
                                                    subst ec_
                                                    clear en_
                                                    have p380 : 0 ≤ (x21_4 : Int) := of_decide_eq_true (by first | (with_reducible assumption) | assumption)
                                                    have q380 : x21_4 < ((rd_L4 t355 x20_3).length : Int) := of_decide_eq_true (by first | (with_reducible assumption) | assumption)
                                                    obtain ⟨ad380, e380, hx380_0⟩ := Kd.at_int (by repeat (first | (with_reducible exact HR379_0.out) | (with_reducible refine Kd.C_alloc ?_ _) | (with_reducible refine Kd.C_drewN ?_ _) | (with_reducible refine Kd.C_drew ?_) | exact HR379_0.out)) x21_4 p380 q380
                                                    cases e380
                                                    replace p380 := eq_true p380
                                                    replace q380 := eq_true q380
                                                    have p381 : 0 ≤ (x20_3 : Int) := of_decide_eq_true (by first | (with_reducible assumption) | assumption)
                                                    have q381 : x20_3 < (t359.length : Int) := of_decide_eq_true (by first | (with_reducible assumption) | assumption)
                                                    obtain ⟨ad381, A381_0, c381_0, e381, hx381_0, hl381_0, hi381_0⟩ := at_L4 (Kd.N_reads' HO_10.out).2.2 x20_3 p381 q381
                                                    obtain rfl : ad377 = ad381 := (by injection e381)
                                                    obtain ⟨ce381, hce381, hMe381, hcc381⟩ := Kd.N_get HO_10.out [] x20_3 p381 (by first | exact q381 | exact of_decide_eq_true (by first | (with_reducible assumption) | assumption) | (have e_ := (Kd.N_reads' HO_10.out).1; omega))
                                                    obtain ⟨ua381_0, uc381_0, rfl, ul381_0, ge381_0⟩ := Kd.FK_slice_open hMe381
                                                    have hv381_0 := hcc381 0 _ rfl
                                                    rw [Nat.add_zero, show ((Kd.slice 3 (Kd.int .i64))).sz = 1 from rfl, Nat.mul_one] at hv381_0
                                                    replace hv381_0 := Option.some.inj (hv381_0.symm.trans hx381_0)
                                                    injection hv381_0 with hva_ hvn_ hvc_
                                                    rw [hva_] at ge381_0
                                                    rw [hvc_] at ul381_0
                                                    have HL381_0 := Aside0.mk (show Kd.V (Kd.int .i64) 3 _ w.heap.size _ _ (rd_L4 t359 x20_3) from Kd.V_mk ul381_0 ge381_0)
                                                    clear hva_ hvn_ hvc_ ge381_0 ul381_0
                                                    clear hcc381 hce381
                                                    have HR381_0 := Aside0.mk hi381_0
                                                    have HC381_0 := Aside0.mk hl381_0
                                                    clear hi381_0 hl381_0
                                                    replace p381 := eq_true p381
                                                    replace q381 := eq_true q381
                                                    have p382 : 0 ≤ (x21_4 : Int) := of_decide_eq_true (by first | (with_reducible assumption) | assumption)
                                                    have q382 : x21_4 < ((rd_L4 t359 x20_3).length : Int) := of_decide_eq_true (by first | (with_reducible assumption) | assumption)
                                                    obtain ⟨ad382, e382, hx382_0⟩ := Kd.at_int (by repeat (first | (with_reducible exact HR381_0.out) | (with_reducible refine Kd.C_alloc ?_ _) | (with_reducible refine Kd.C_drewN ?_ _) | (with_reducible refine Kd.C_drew ?_) | exact HR381_0.out)) x21_4 p382 q382
                                                    cases e382
                                                    replace p382 := eq_true p382
                                                    replace q382 := eq_true q382
                                                    have p383 : 0 ≤ (x20_3 : Int) := of_decide_eq_true (by first | (with_reducible assumption) | assumption)
                                                    have q383 : x20_3 < (t355.length : Int) := of_decide_eq_true (by first | (with_reducible assumption) | assumption)
                                                    obtain ⟨ad383, A383_0, c383_0, e383, hx383_0, hl383_0, hi383_0⟩ := at_L4 (Kd.N_reads' HO_8.out).2.2 x20_3 p383 q383
                                                    obtain rfl : ad376 = ad383 := (by injection e383)
                                                    obtain ⟨ce383, hce383, hMe383, hcc383⟩ := Kd.N_get HO_8.out [] x20_3 p383 (by first | exact q383 | exact of_decide_eq_true (by first | (with_reducible assumption) | assumption) | (have e_ := (Kd.N_reads' HO_8.out).1; omega))
                                                    obtain ⟨ua383_0, uc383_0, rfl, ul383_0, ge383_0⟩ := Kd.FK_slice_open hMe383
                                                    have hv383_0 := hcc383 0 _ rfl
                                                    rw [Nat.add_zero, show ((Kd.slice 3 (Kd.int .i64))).sz = 1 from rfl, Nat.mul_one] at hv383_0
                                                    replace hv383_0 := Option.some.inj (hv383_0.symm.trans hx383_0)
                                                    injection hv383_0 with hva_ hvn_ hvc_
                                                    rw [hva_] at ge383_0
                                                    rw [hvc_] at ul383_0
                                                    have HL383_0 := Aside0.mk (show Kd.V (Kd.int .i64) 3 _ w.heap.size _ _ (rd_L4 t355 x20_3) from Kd.V_mk ul383_0 ge383_0)
                                                    clear hva_ hvn_ hvc_ ge383_0 ul383_0
                                                    clear hcc383 hce383
                                                    have HR383_0 := Aside0.mk hi383_0
                                                    have HC383_0 := Aside0.mk hl383_0
                                                    clear hi383_0 hl383_0
                                                    replace p383 := eq_true p383
                                                    replace q383 := eq_true q383
                                                    have ea_ := Option.some.inj (hx378_0.symm.trans hx383_0)
                                                    injection ea_ with ea_ en_ ec_
                                                    subst ea_
                                                    subst ec_
                                                    clear en_
                                                    have p384 : 0 ≤ (x21_4 : Int) := of_decide_eq_true (by first | (with_reducible assumption) | assumption)
                                                    have q384 : x21_4 < ((rd_L4 t355 x20_3).length : Int) := of_decide_eq_true (by first | (with_reducible assumption) | assumption)
                                                    obtain ⟨ad384, e384, hx384_0⟩ := Kd.at_int (by repeat (first | (with_reducible exact HR383_0.out) | (with_reducible refine Kd.C_alloc ?_ _) | (with_reducible refine Kd.C_drewN ?_ _) | (with_reducible refine Kd.C_drew ?_) | exact HR383_0.out)) x21_4 p384 q384
                                                    cases e384
                                                    replace p384 := eq_true p384
                                                    replace q384 := eq_true q384
                                                    go_wp2
                                                    repeat (go_quiet (fail); try go_wp2)
                                                    go_roundg k4
                                                    case measure => have := HJ8.out; have := HJ23.out; have := HK3.out; have := HK4.out; omega
                                                    case rel => exact ⟨(wrap64 (x21_4 + 1)), (by first | rfl | (simp; done) | (simp [*]; done)), H', ⟨by have := HJ8.out; have := HJ23.out; have := HK3.out; have := HK4.out; omega⟩, ⟨by (with_reducible repeat (first | apply Kd.N_alloc | apply Kd.N_drewN | apply Kd.N_drew)); exact HO_8.out⟩, ⟨by (with_reducible repeat (first | apply Kd.N_alloc | apply Kd.N_drewN | apply Kd.N_drew)); exact HO_10.out⟩, ⟨by (with_reducible repeat (first | apply Kd.R_alloc | apply Kd.R_drewN | apply Kd.R_drew)); exact HO_12.out⟩, ⟨by (with_reducible repeat (first | apply Kd.R_alloc | apply Kd.R_drewN | apply Kd.R_drew)); exact HO_14.out⟩, ⟨by repeat (first | (with_reducible exact HR376_0.out) | (with_reducible refine Kd.C_alloc ?_ _) | (with_reducible refine Kd.C_drewN ?_ _) | (with_reducible refine Kd.C_drew ?_) | exact HR376_0.out)⟩, ⟨by repeat (first | (with_reducible exact HR377_0.out) | (with_reducible refine Kd.C_alloc ?_ _) | (with_reducible refine Kd.C_drewN ?_ _) | (with_reducible refine Kd.C_drew ?_) | exact HR377_0.out)⟩, ⟨by repeat (first | (with_reducible first | exact HB.out | apply below_alloc | apply pw_below_drewN | apply below_drew1) | exact HB.out)⟩⟩
                                                  · rw [if_neg c48] at H
                                                    have c48b0 : ((rd (rd_L4 t359 x20_3) x21_4) == (rd (rd_L4 t355 x20_3) x21_4)) = false := beq_eq_false_iff_ne.mpr c48
                                                    have c48b1 : ((rd (rd_L4 t359 x20_3) x21_4) != (rd (rd_L4 t355 x20_3) x21_4)) = true := bne_iff_ne.mpr c48
                                                    obtain rfl := Option.some.inj H
                                                    have p378 : 0 ≤ (x20_3 : Int) := of_decide_eq_true (by first | (with_reducible assumption) | assumption)
                                                    have q378 : x20_3 < (t355.length : Int) := of_decide_eq_true (by first | (with_reducible assumption) | assumption)
                                                    obtain ⟨ad378, A378_0, c378_0, e378, hx378_0, hl378_0, hi378_0⟩ := at_L4 (Kd.N_reads' HO_8.out).2.2 x20_3 p378 q378
                                                    obtain rfl : ad376 = ad378 := (by injection e378)
                                                    obtain ⟨ce378, hce378, hMe378, hcc378⟩ := Kd.N_get HO_8.out [] x20_3 p378 (by first | exact q378 | exact of_decide_eq_true (by first | (with_reducible assumption) | assumption) | (have e_ := (Kd.N_reads' HO_8.out).1; omega))
                                                    obtain ⟨ua378_0, uc378_0, rfl, ul378_0, ge378_0⟩ := Kd.FK_slice_open hMe378
                                                    have hv378_0 := hcc378 0 _ rfl
                                                    rw [Nat.add_zero, show ((Kd.slice 3 (Kd.int .i64))).sz = 1 from rfl, Nat.mul_one] at hv378_0
                                                    replace hv378_0 := Option.some.inj (hv378_0.symm.trans hx378_0)
                                                    injection hv378_0 with hva_ hvn_ hvc_
                                                    rw [hva_] at ge378_0
                                                    rw [hvc_] at ul378_0
                                                    have HL378_0 := Aside0.mk (show Kd.V (Kd.int .i64) 3 _ w.heap.size _ _ (rd_L4 t355 x20_3) from Kd.V_mk ul378_0 ge378_0)
                                                    clear hva_ hvn_ hvc_ ge378_0 ul378_0
                                                    clear hcc378 hce378
                                                    have HR378_0 := Aside0.mk hi378_0
                                                    have HC378_0 := Aside0.mk hl378_0
                                                    clear hi378_0 hl378_0
                                                    replace p378 := eq_true p378
                                                    replace q378 := eq_true q378
                                                    have p379 : 0 ≤ (x20_3 : Int) := of_decide_eq_true (by first | (with_reducible assumption) | assumption)
                                                    have q379 : x20_3 < (t355.length : Int) := of_decide_eq_true (by first | (with_reducible assumption) | assumption)
                                                    obtain ⟨ad379, A379_0, c379_0, e379, hx379_0, hl379_0, hi379_0⟩ := at_L4 (Kd.N_reads' HO_8.out).2.2 x20_3 p379 q379
                                                    obtain rfl : ad376 = ad379 := (by injection e379)
                                                    obtain ⟨ce379, hce379, hMe379, hcc379⟩ := Kd.N_get HO_8.out [] x20_3 p379 (by first | exact q379 | exact of_decide_eq_true (by first | (with_reducible assumption) | assumption) | (have e_ := (Kd.N_reads' HO_8.out).1; omega))
                                                    obtain ⟨ua379_0, uc379_0, rfl, ul379_0, ge379_0⟩ := Kd.FK_slice_open hMe379
                                                    have hv379_0 := hcc379 0 _ rfl
                                                    rw [Nat.add_zero, show ((Kd.slice 3 (Kd.int .i64))).sz = 1 from rfl, Nat.mul_one] at hv379_0
                                                    replace hv379_0 := Option.some.inj (hv379_0.symm.trans hx379_0)
                                                    injection hv379_0 with hva_ hvn_ hvc_
                                                    rw [hva_] at ge379_0
                                                    rw [hvc_] at ul379_0
                                                    have HL379_0 := Aside0.mk (show Kd.V (Kd.int .i64) 3 _ w.heap.size _ _ (rd_L4 t355 x20_3) from Kd.V_mk ul379_0 ge379_0)
                                                    clear hva_ hvn_ hvc_ ge379_0 ul379_0
                                                    clear hcc379 hce379
                                                    have HR379_0 := Aside0.mk hi379_0
                                                    have HC379_0 := Aside0.mk hl379_0
                                                    clear hi379_0 hl379_0
                                                    replace p379 := eq_true p379
                                                    replace q379 := eq_true q379
                                                    have ea_ := Option.some.inj (hx378_0.symm.trans hx379_0)
                                                    injection ea_ with ea_ en_ ec_
                                                    subst ea_
                                                    subst ec_
                                                    clear en_
                                                    have p380 : 0 ≤ (x21_4 : Int) := of_decide_eq_true (by first | (with_reducible assumption) | assumption)
                                                    have q380 : x21_4 < ((rd_L4 t355 x20_3).length : Int) := of_decide_eq_true (by first | (with_reducible assumption) | assumption)
                                                    obtain ⟨ad380, e380, hx380_0⟩ := Kd.at_int (by repeat (first | (with_reducible exact HR379_0.out) | (with_reducible refine Kd.C_alloc ?_ _) | (with_reducible refine Kd.C_drewN ?_ _) | (with_reducible refine Kd.C_drew ?_) | exact HR379_0.out)) x21_4 p380 q380
                                                    cases e380
                                                    replace p380 := eq_true p380
                                                    replace q380 := eq_true q380
                                                    have p381 : 0 ≤ (x20_3 : Int) := of_decide_eq_true (by first | (with_reducible assumption) | assumption)
                                                    have q381 : x20_3 < (t359.length : Int) := of_decide_eq_true (by first | (with_reducible assumption) | assumption)
                                                    obtain ⟨ad381, A381_0, c381_0, e381, hx381_0, hl381_0, hi381_0⟩ := at_L4 (Kd.N_reads' HO_10.out).2.2 x20_3 p381 q381
                                                    obtain rfl : ad377 = ad381 := (by injection e381)
                                                    obtain ⟨ce381, hce381, hMe381, hcc381⟩ := Kd.N_get HO_10.out [] x20_3 p381 (by first | exact q381 | exact of_decide_eq_true (by first | (with_reducible assumption) | assumption) | (have e_ := (Kd.N_reads' HO_10.out).1; omega))
                                                    obtain ⟨ua381_0, uc381_0, rfl, ul381_0, ge381_0⟩ := Kd.FK_slice_open hMe381
                                                    have hv381_0 := hcc381 0 _ rfl
                                                    rw [Nat.add_zero, show ((Kd.slice 3 (Kd.int .i64))).sz = 1 from rfl, Nat.mul_one] at hv381_0
                                                    replace hv381_0 := Option.some.inj (hv381_0.symm.trans hx381_0)
                                                    injection hv381_0 with hva_ hvn_ hvc_
                                                    rw [hva_] at ge381_0
                                                    rw [hvc_] at ul381_0
                                                    have HL381_0 := Aside0.mk (show Kd.V (Kd.int .i64) 3 _ w.heap.size _ _ (rd_L4 t359 x20_3) from Kd.V_mk ul381_0 ge381_0)
                                                    clear hva_ hvn_ hvc_ ge381_0 ul381_0
                                                    clear hcc381 hce381
                                                    have HR381_0 := Aside0.mk hi381_0
                                                    have HC381_0 := Aside0.mk hl381_0
                                                    clear hi381_0 hl381_0
                                                    replace p381 := eq_true p381
                                                    replace q381 := eq_true q381
                                                    have p382 : 0 ≤ (x21_4 : Int) := of_decide_eq_true (by first | (with_reducible assumption) | assumption)
                                                    have q382 : x21_4 < ((rd_L4 t359 x20_3).length : Int) := of_decide_eq_true (by first | (with_reducible assumption) | assumption)
                                                    obtain ⟨ad382, e382, hx382_0⟩ := Kd.at_int (by repeat (first | (with_reducible exact HR381_0.out) | (with_reducible refine Kd.C_alloc ?_ _) | (with_reducible refine Kd.C_drewN ?_ _) | (with_reducible refine Kd.C_drew ?_) | exact HR381_0.out)) x21_4 p382 q382
                                                    cases e382
                                                    replace p382 := eq_true p382
                                                    replace q382 := eq_true q382
                                                    have p383 : 0 ≤ (x20_3 : Int) := of_decide_eq_true (by first | (with_reducible assumption) | assumption)
                                                    have q383 : x20_3 < (t355.length : Int) := of_decide_eq_true (by first | (with_reducible assumption) | assumption)
                                                    obtain ⟨ad383, A383_0, c383_0, e383, hx383_0, hl383_0, hi383_0⟩ := at_L4 (Kd.N_reads' HO_8.out).2.2 x20_3 p383 q383
                                                    obtain rfl : ad376 = ad383 := (by injection e383)
                                                    obtain ⟨ce383, hce383, hMe383, hcc383⟩ := Kd.N_get HO_8.out [] x20_3 p383 (by first | exact q383 | exact of_decide_eq_true (by first | (with_reducible assumption) | assumption) | (have e_ := (Kd.N_reads' HO_8.out).1; omega))
                                                    obtain ⟨ua383_0, uc383_0, rfl, ul383_0, ge383_0⟩ := Kd.FK_slice_open hMe383
                                                    have hv383_0 := hcc383 0 _ rfl
                                                    rw [Nat.add_zero, show ((Kd.slice 3 (Kd.int .i64))).sz = 1 from rfl, Nat.mul_one] at hv383_0
                                                    replace hv383_0 := Option.some.inj (hv383_0.symm.trans hx383_0)
                                                    injection hv383_0 with hva_ hvn_ hvc_
                                                    rw [hva_] at ge383_0
                                                    rw [hvc_] at ul383_0
                                                    have HL383_0 := Aside0.mk (show Kd.V (Kd.int .i64) 3 _ w.heap.size _ _ (rd_L4 t355 x20_3) from Kd.V_mk ul383_0 ge383_0)
                                                    clear hva_ hvn_ hvc_ ge383_0 ul383_0
                                                    clear hcc383 hce383
                                                    have HR383_0 := Aside0.mk hi383_0
                                                    have HC383_0 := Aside0.mk hl383_0
                                                    clear hi383_0 hl383_0
                                                    replace p383 := eq_true p383
                                                    replace q383 := eq_true q383
                                                    have ea_ := Option.some.inj (hx378_0.symm.trans hx383_0)
                                                    injection ea_ with ea_ en_ ec_
                                                    subst ea_
                                                    subst ec_
                                                    clear en_
                                                    have p384 : 0 ≤ (x21_4 : Int) := of_decide_eq_true (by first | (with_reducible assumption) | assumption)
                                                    have q384 : x21_4 < ((rd_L4 t355 x20_3).length : Int) := of_decide_eq_true (by first | (with_reducible assumption) | assumption)
                                                    obtain ⟨ad384, e384, hx384_0⟩ := Kd.at_int (by repeat (first | (with_reducible exact HR383_0.out) | (with_reducible refine Kd.C_alloc ?_ _) | (with_reducible refine Kd.C_drewN ?_ _) | (with_reducible refine Kd.C_drew ?_) | exact HR383_0.out)) x21_4 p384 q384
                                                    cases e384
                                                    replace p384 := eq_true p384
                                                    replace q384 := eq_true q384
                                                    go_wp2
                                                    repeat (go_quiet (fail); try go_wp2)
                                                    go_ret
                                                    exact ⟨by first | rfl | (simp [errW_none, errW_some] <;> rfl) | (simp [*, errW_none, errW_some] <;> rfl), by repeat (first | (with_reducible first | exact HB.out | apply below_alloc | apply pw_below_drewN | apply below_drew1) | exact HB.out)⟩
                                                · rw [if_neg c47] at H
                                                  exact absurd H (by simp)
                                              · rw [if_neg c46] at H
                                                exact absurd H (by simp)
                                          · rw [if_neg c44] at H
                                            exact absurd H (by simp)
                                        · rw [if_neg c43] at H
                                          have c43b0 : decide (x21_4 < ((rd_L4 t355 x20_3).length : Int)) = false := decide_eq_false c43
                                          clear c43
                                          have H' := Aside0.mk H
                                          clear H
                                          have p378 : 0 ≤ (x20_3 : Int) := of_decide_eq_true (by first | (with_reducible assumption) | assumption)
                                          have q378 : x20_3 < (t355.length : Int) := of_decide_eq_true (by first | (with_reducible assumption) | assumption)
                                          obtain ⟨ad378, A378_0, c378_0, e378, hx378_0, hl378_0, hi378_0⟩ := at_L4 (Kd.N_reads' HO_8.out).2.2 x20_3 p378 q378
                                          obtain rfl : ad376 = ad378 := (by injection e378)
                                          obtain ⟨ce378, hce378, hMe378, hcc378⟩ := Kd.N_get HO_8.out [] x20_3 p378 (by first | exact q378 | exact of_decide_eq_true (by first | (with_reducible assumption) | assumption) | (have e_ := (Kd.N_reads' HO_8.out).1; omega))
                                          obtain ⟨ua378_0, uc378_0, rfl, ul378_0, ge378_0⟩ := Kd.FK_slice_open hMe378
                                          have hv378_0 := hcc378 0 _ rfl
                                          rw [Nat.add_zero, show ((Kd.slice 3 (Kd.int .i64))).sz = 1 from rfl, Nat.mul_one] at hv378_0
                                          replace hv378_0 := Option.some.inj (hv378_0.symm.trans hx378_0)
                                          injection hv378_0 with hva_ hvn_ hvc_
                                          rw [hva_] at ge378_0
                                          rw [hvc_] at ul378_0
                                          have HL378_0 := Aside0.mk (show Kd.V (Kd.int .i64) 3 _ w.heap.size _ _ (rd_L4 t355 x20_3) from Kd.V_mk ul378_0 ge378_0)
                                          clear hva_ hvn_ hvc_ ge378_0 ul378_0
                                          clear hcc378 hce378
                                          have HR378_0 := Aside0.mk hi378_0
                                          have HC378_0 := Aside0.mk hl378_0
                                          clear hi378_0 hl378_0
                                          replace p378 := eq_true p378
                                          replace q378 := eq_true q378
                                          go_wp2
                                          repeat (go_quiet (fail); try go_wp2)
                                          go_roundg k4
                                          case measure => have := HJ8.out; have := HJ23.out; have := HK3.out; have := HK4.out; omega
                                          case rel => exact ⟨(wrap64 (x20_3 + 1)), (by first | rfl | (simp; done) | (simp [*]; done)), H', ⟨by have := HJ8.out; have := HJ23.out; have := HK3.out; have := HK4.out; omega⟩, ⟨by (with_reducible repeat (first | apply Kd.N_alloc | apply Kd.N_drewN | apply Kd.N_drew)); exact HO_8.out⟩, ⟨by (with_reducible repeat (first | apply Kd.N_alloc | apply Kd.N_drewN | apply Kd.N_drew)); exact HO_10.out⟩, ⟨by (with_reducible repeat (first | apply Kd.R_alloc | apply Kd.R_drewN | apply Kd.R_drew)); exact HO_12.out⟩, ⟨by (with_reducible repeat (first | apply Kd.R_alloc | apply Kd.R_drewN | apply Kd.R_drew)); exact HO_14.out⟩, ⟨by repeat (first | (with_reducible first | exact HB.out | apply below_alloc | apply pw_below_drewN | apply below_drew1) | exact HB.out)⟩⟩
                                      · rw [if_neg c42] at H
                                        exact absurd H (by simp)
                                    · rw [if_neg c41] at H
                                      exact absurd H (by simp)
                              · rw [if_neg c38] at H
                                have c38b0 : (((rd_L4 t355 x20_3).length : Int) == ((rd_L4 t359 x20_3).length : Int)) = false := beq_eq_false_iff_ne.mpr c38
                                have c38b1 : (((rd_L4 t355 x20_3).length : Int) != ((rd_L4 t359 x20_3).length : Int)) = true := bne_iff_ne.mpr c38
                                have c38b2 : ((rd_L4 t355 x20_3).length == (rd_L4 t359 x20_3).length) = false := by first | simpa using c38 | (simp at c38 ⊢; omega)
                                obtain rfl := Option.some.inj H
                                obtain ⟨Ao49, co49, eo49⟩ := Kd.N_slice HO_8.out
                                subst eo49
                                have p376 : 0 ≤ (x20_3 : Int) := of_decide_eq_true (by first | (with_reducible assumption) | assumption)
                                have q376 : x20_3 < (t355.length : Int) := of_decide_eq_true (by first | (with_reducible assumption) | assumption)
                                obtain ⟨ad376, A376_0, c376_0, e376, hx376_0, hl376_0, hi376_0⟩ := at_L4 (Kd.N_reads' HO_8.out).2.2 x20_3 p376 q376
                                cases e376
                                obtain ⟨ce376, hce376, hMe376, hcc376⟩ := Kd.N_get HO_8.out [] x20_3 p376 (by first | exact q376 | exact of_decide_eq_true (by first | (with_reducible assumption) | assumption) | (have e_ := (Kd.N_reads' HO_8.out).1; omega))
                                obtain ⟨ua376_0, uc376_0, rfl, ul376_0, ge376_0⟩ := Kd.FK_slice_open hMe376
                                have hv376_0 := hcc376 0 _ rfl
                                rw [Nat.add_zero, show ((Kd.slice 3 (Kd.int .i64))).sz = 1 from rfl, Nat.mul_one] at hv376_0
                                replace hv376_0 := Option.some.inj (hv376_0.symm.trans hx376_0)
                                injection hv376_0 with hva_ hvn_ hvc_
                                rw [hva_] at ge376_0
                                rw [hvc_] at ul376_0
                                have HL376_0 := Aside0.mk (show Kd.V (Kd.int .i64) 3 _ w.heap.size _ _ (rd_L4 t355 x20_3) from Kd.V_mk ul376_0 ge376_0)
                                clear hva_ hvn_ hvc_ ge376_0 ul376_0
                                clear hcc376 hce376
                                have HR376_0 := Aside0.mk hi376_0
                                have HC376_0 := Aside0.mk hl376_0
                                clear hi376_0 hl376_0
                                replace p376 := eq_true p376
                                replace q376 := eq_true q376
                                obtain ⟨Ao50, co50, eo50⟩ := Kd.N_slice HO_10.out
                                subst eo50
                                have p377 : 0 ≤ (x20_3 : Int) := of_decide_eq_true (by first | (with_reducible assumption) | assumption)
                                have q377 : x20_3 < (t359.length : Int) := of_decide_eq_true (by first | (with_reducible assumption) | assumption)
                                obtain ⟨ad377, A377_0, c377_0, e377, hx377_0, hl377_0, hi377_0⟩ := at_L4 (Kd.N_reads' HO_10.out).2.2 x20_3 p377 q377
                                cases e377
                                obtain ⟨ce377, hce377, hMe377, hcc377⟩ := Kd.N_get HO_10.out [] x20_3 p377 (by first | exact q377 | exact of_decide_eq_true (by first | (with_reducible assumption) | assumption) | (have e_ := (Kd.N_reads' HO_10.out).1; omega))
                                obtain ⟨ua377_0, uc377_0, rfl, ul377_0, ge377_0⟩ := Kd.FK_slice_open hMe377
                                have hv377_0 := hcc377 0 _ rfl
                                rw [Nat.add_zero, show ((Kd.slice 3 (Kd.int .i64))).sz = 1 from rfl, Nat.mul_one] at hv377_0
                                replace hv377_0 := Option.some.inj (hv377_0.symm.trans hx377_0)
                                injection hv377_0 with hva_ hvn_ hvc_
                                rw [hva_] at ge377_0
                                rw [hvc_] at ul377_0
                                have HL377_0 := Aside0.mk (show Kd.V (Kd.int .i64) 3 _ w.heap.size _ _ (rd_L4 t359 x20_3) from Kd.V_mk ul377_0 ge377_0)
                                clear hva_ hvn_ hvc_ ge377_0 ul377_0
                                clear hcc377 hce377
                                have HR377_0 := Aside0.mk hi377_0
                                have HC377_0 := Aside0.mk hl377_0
                                clear hi377_0 hl377_0
                                replace p377 := eq_true p377
                                replace q377 := eq_true q377
                                go_wp2
                                repeat (go_quiet (fail); try go_wp2)
                                go_ret
                                exact ⟨by first | rfl | (simp [errW_none, errW_some] <;> rfl) | (simp [*, errW_none, errW_some] <;> rfl), by repeat (first | (with_reducible first | exact HB.out | apply below_alloc | apply pw_below_drewN | apply below_drew1) | exact HB.out)⟩
                            · rw [if_neg c37] at H
                              exact absurd H (by simp)
                          · rw [if_neg c36] at H
                            exact absurd H (by simp)
                        · rw [if_neg c35] at H
                          have c35b0 : decide (x20_3 < (t355.length : Int)) = false := decide_eq_false c35
                          clear c35
                          have H' := Aside0.mk H
                          clear H
                          obtain ⟨Ao51, co51, eo51⟩ := Kd.N_slice HO_8.out
                          subst eo51
                          go_wp2
                          repeat (go_quiet (fail); try go_wp2)
                          go_loopg [22] k3 (fun kq v22 w' => ∃ (x22_4 : Int), v22 = .int .i64 x22_4 ∧ Aside0 (cippuslaw07_StemmaMore.l2 kq t363 t367 x22_4 = some r) ∧ Aside0 (kq ≤ k3) ∧ Aside0 (Kd.R Kd.string 9 w' w.heap.size (fun k_ => some k_ ≠ (v369 : Value).ownBlock) v365 t363) ∧ Aside0 (Kd.R Kd.string 9 w' w.heap.size (fun k_ => some k_ ≠ (v365 : Value).ownBlock) v369 t367) ∧ Aside0 (Below w.heap.size w w'))
                          case atStart => exact ⟨(0), (by first | rfl | (simp; done) | (simp [*]; done)), H', ⟨Nat.le_refl _⟩, ⟨by (with_reducible repeat (first | apply Kd.R_alloc | apply Kd.R_drewN | apply Kd.R_drew)); exact HO_12.out⟩, ⟨by (with_reducible repeat (first | apply Kd.R_alloc | apply Kd.R_drewN | apply Kd.R_drew)); exact HO_14.out⟩, ⟨by repeat (first | (with_reducible first | exact HB.out | apply below_alloc | apply pw_below_drewN | apply below_drew1) | exact HB.out)⟩⟩
                          case round => as_aux_lemma =>
                            clear H'
                            try clear c1
                            try clear c2
                            try clear p2
                            try clear c3
                            try clear p3
                            try clear q3
                            try clear hx3
                            try clear c4
                            try clear p6
                            try clear c7
                            try clear c16
                            try clear c16b0
                            try clear c16b1
                            try clear c17
                            try clear c17b0
                            try clear c17b1
                            try clear c18
                            try clear c18b0
                            try clear c18b1
                            try clear c19
                            try clear c19b0
                            try clear c19b1
                            try clear c20
                            try clear c21
                            try clear c21b0
                            try clear c21b1
                            try clear c25
                            try clear c25b0
                            try clear c25b1
                            try clear c26
                            try clear c26b0
                            try clear c27
                            try clear c27b0
                            try clear c27b1
                            try clear c27b2
                            try clear c34
                            try clear c35
                            try clear c35b0
                            try clear c36
                            try clear c36b0
                            try clear c37
                            try clear c37b0
                            try clear p37
                            try clear q37
                            try clear hx37
                            try clear c38
                            try clear c38b0
                            try clear c38b1
                            try clear c38b2
                            try clear p38
                            try clear q38
                            try clear hx38
                            try clear c41
                            try clear c41b0
                            try clear c42
                            try clear c42b0
                            try clear c43
                            try clear c43b0
                            try clear c44
                            try clear c44b0
                            try clear c45
                            try clear c45b0
                            try clear c45b1
                            try clear c46
                            try clear c46b0
                            try clear c47
                            try clear c47b0
                            try clear c48
                            try clear c48b0
                            try clear c48b1
                            try clear hx376_0
                            try clear hx377_0
                            try clear hx378_0
                            try clear hx379_0
                            try clear hx380_0
                            try clear hx381_0
                            try clear hx382_0
                            try clear hx383_0
                            try clear hx384_0
                            try clear p2
                            try clear p3
                            try clear p37
                            try clear p376
                            try clear p377
                            try clear p378
                            try clear p379
                            try clear p380
                            try clear p381
                            try clear p382
                            try clear p383
                            try clear p384
                            try clear q3
                            try clear q37
                            try clear q376
                            try clear q377
                            try clear q378
                            try clear q379
                            try clear q380
                            try clear q381
                            try clear q382
                            try clear q383
                            try clear q384
                            obtain ⟨x22_4, rfl, HA, HK4, HO_12, HO_14, HB⟩ := hrel
                            cases gk with
                            | zero => exact absurd HA.out (by simp [cippuslaw07_StemmaMore.l2])
                            | succ k4 =>
                              have H := HA.out
                              clear HA
                              simp only [cippuslaw07_StemmaMore.l2] at H
                              by_cases c52 : x22_4 < (t363.length : Int)
                              · rw [if_pos c52] at H
                                have c52b0 : decide (x22_4 < (t363.length : Int)) = true := decide_eq_true c52
                                clear c52
                                have H' := Aside0.mk H
                                clear H
                                obtain ⟨Ao53, co53, eo53⟩ := Kd.R_slice HO_12.out
                                subst eo53
                                go_wp2
                                repeat (go_quiet (fail); try go_wp2)
                                go_loopg [23] k4 (fun kq v23 w' => ∃ (x23_5 : Int), v23 = .int .i64 x23_5 ∧ Aside0 (cippuslaw07_StemmaMore.l3 kq t363 t367 x22_4 x23_5 = some r) ∧ Aside0 (kq ≤ k4) ∧ Aside0 (Kd.R Kd.string 9 w' w.heap.size (fun k_ => some k_ ≠ (v369 : Value).ownBlock) (.slice Ao53 t363.length co53) t363) ∧ Aside0 (Kd.R Kd.string 9 w' w.heap.size (fun k_ => some k_ ≠ ((.slice Ao53 t363.length co53) : Value).ownBlock) v369 t367) ∧ Aside0 (Below w.heap.size w w'))
                                case atStart => exact ⟨(0), (by first | rfl | (simp; done) | (simp [*]; done)), H', ⟨Nat.le_refl _⟩, ⟨by (with_reducible repeat (first | apply Kd.R_alloc | apply Kd.R_drewN | apply Kd.R_drew)); exact HO_12.out⟩, ⟨by (with_reducible repeat (first | apply Kd.R_alloc | apply Kd.R_drewN | apply Kd.R_drew)); exact HO_14.out⟩, ⟨by repeat (first | (with_reducible first | exact HB.out | apply below_alloc | apply pw_below_drewN | apply below_drew1) | exact HB.out)⟩⟩
                                case round => as_aux_lemma =>
                                  clear H'
                                  try clear c1
                                  try clear c2
                                  try clear p2
                                  try clear c3
                                  try clear p3
                                  try clear q3
                                  try clear hx3
                                  try clear c4
                                  try clear c5
                                  try clear p6
                                  try clear c7
                                  try clear c16
                                  try clear c16b0
                                  try clear c16b1
                                  try clear c17
                                  try clear c17b0
                                  try clear c17b1
                                  try clear c18
                                  try clear c18b0
                                  try clear c18b1
                                  try clear c19
                                  try clear c19b0
                                  try clear c19b1
                                  try clear c20
                                  try clear c21
                                  try clear c21b0
                                  try clear c21b1
                                  try clear c25
                                  try clear c25b0
                                  try clear c25b1
                                  try clear c26
                                  try clear c26b0
                                  try clear c27
                                  try clear c27b0
                                  try clear c27b1
                                  try clear c27b2
                                  try clear c34
                                  try clear c35
                                  try clear c35b0
                                  try clear c36
                                  try clear c36b0
                                  try clear c37
                                  try clear c37b0
                                  try clear p37
                                  try clear q37
                                  try clear hx37
                                  try clear c38
                                  try clear c38b0
                                  try clear c38b1
                                  try clear c38b2
                                  try clear p38
                                  try clear q38
                                  try clear hx38
                                  try clear c41
                                  try clear c41b0
                                  try clear c42
                                  try clear c42b0
                                  try clear c43
                                  try clear c43b0
                                  try clear c44
                                  try clear c44b0
                                  try clear c45
                                  try clear c45b0
                                  try clear c45b1
                                  try clear c46
                                  try clear c46b0
                                  try clear c47
                                  try clear c47b0
                                  try clear c48
                                  try clear c48b0
                                  try clear c48b1
                                  try clear c52
                                  try clear c52b0
                                  try clear hx376_0
                                  try clear hx377_0
                                  try clear hx378_0
                                  try clear hx379_0
                                  try clear hx380_0
                                  try clear hx381_0
                                  try clear hx382_0
                                  try clear hx383_0
                                  try clear hx384_0
                                  try clear p2
                                  try clear p3
                                  try clear p37
                                  try clear p376
                                  try clear p377
                                  try clear p378
                                  try clear p379
                                  try clear p38
                                  try clear p380
                                  try clear p381
                                  try clear p382
                                  try clear p383
                                  try clear p384
                                  try clear p6
                                  try clear q3
                                  try clear q37
                                  try clear q376
                                  try clear q377
                                  try clear q378
                                  try clear q379
                                  try clear q38
                                  try clear q380
                                  try clear q381
                                  try clear q382
                                  try clear q383
                                  try clear q384
                                  obtain ⟨x23_5, rfl, HA, HK5, HO_12, HO_14, HB⟩ := hrel
                                  cases gk with
                                  | zero => exact absurd HA.out (by simp [cippuslaw07_StemmaMore.l3])
                                  | succ k5 =>
                                    have H := HA.out
                                    clear HA
                                    simp only [cippuslaw07_StemmaMore.l3] at H
                                    by_cases c54 : 0 ≤ x22_4
                                    · rw [if_pos c54] at H
                                      have c54b0 : decide (0 ≤ x22_4) = true := decide_eq_true c54
                                      clear c54
                                      by_cases c55 : x22_4 < (t367.length : Int)
                                      · rw [if_pos c55] at H
                                        have c55b0 : decide (x22_4 < (t367.length : Int)) = true := decide_eq_true c55
                                        clear c55
                                        by_cases c56 : x23_5 < ((rdOf ByteArray.empty t367 x22_4).size : Int)
                                        · rw [if_pos c56] at H
                                          have c56b0 : decide (x23_5 < ((rdOf ByteArray.empty t367 x22_4).size : Int)) = true := decide_eq_true c56
                                          clear c56
                                          by_cases c57 : x22_4 < (t363.length : Int)
                                          · rw [if_pos c57] at H
                                            have c57b0 : decide (x22_4 < (t363.length : Int)) = true := decide_eq_true c57
                                            clear c57
                                            by_cases c58 : 0 ≤ x23_5
                                            · rw [if_pos c58] at H
                                              have c58b0 : decide (0 ≤ x23_5) = true := decide_eq_true c58
                                              clear c58
                                              replace H := Option.bind_eq_some_iff.mp H
                                              obtain ⟨t389, A600, H⟩ := H
                                              replace H : (if t389 = true then (cippuslaw07_StemmaMore.l3 k5 t363 t367 x22_4 (wrap64 (x23_5 + 1))) else (some false)) = some r := H
                                              have A60 := Aside0.mk A600
                                              clear A600
                                              by_cases c61 : t389 = true
                                              · subst c61
                                                have H1 : (cippuslaw07_StemmaMore.l3 k5 t363 t367 x22_4 (wrap64 (x23_5 + 1))) = some r := by rw [if_pos rfl] at H; exact H
                                                clear H
                                                have H := H1
                                                clear H1
                                                have H' := Aside0.mk H
                                                clear H
                                                obtain ⟨Ao62, co62, eo62⟩ := Kd.R_slice HO_14.out
                                                subst eo62
                                                have p386 : 0 ≤ (x22_4 : Int) := of_decide_eq_true (by first | (with_reducible assumption) | assumption)
                                                have q386 : x22_4 < (t367.length : Int) := of_decide_eq_true (by first | (with_reducible assumption) | assumption)
                                                obtain ⟨ad386, e386, hx386_0⟩ := Kd.at_string (Kd.R_reads' HO_14.out).2.2 x22_4 p386 q386
                                                cases e386
                                                replace p386 := eq_true p386
                                                replace q386 := eq_true q386
                                                have p387 : 0 ≤ (x22_4 : Int) := of_decide_eq_true (by first | (with_reducible assumption) | assumption)
                                                have q387 : x22_4 < (t363.length : Int) := of_decide_eq_true (by first | (with_reducible assumption) | assumption)
                                                obtain ⟨ad387, e387, hx387_0⟩ := Kd.at_string (Kd.R_reads' HO_12.out).2.2 x22_4 p387 q387
                                                cases e387
                                                replace p387 := eq_true p387
                                                replace q387 := eq_true q387
                                                have p388 : 0 ≤ (x22_4 : Int) := of_decide_eq_true (by first | (with_reducible assumption) | assumption)
                                                have q388 : x22_4 < (t367.length : Int) := of_decide_eq_true (by first | (with_reducible assumption) | assumption)
                                                obtain ⟨ad388, e388, hx388_0⟩ := Kd.at_string (Kd.R_reads' HO_14.out).2.2 x22_4 p388 q388
                                                obtain rfl : ad386 = ad388 := (by injection e388)
                                                replace p388 := eq_true p388
                                                replace q388 := eq_true q388
                                                have p59 : 0 ≤ (x23_5 : Int) := of_decide_eq_true (by first | (with_reducible assumption) | assumption)
                                                have q59 : x23_5 < ((rdOf ByteArray.empty t367 x22_4).size : Int) := of_decide_eq_true (by first | (with_reducible assumption) | assumption)
                                                have hx59 := bt_at (rdOf ByteArray.empty t367 x22_4) x23_5
                                                replace p59 := eq_true p59
                                                replace q59 := eq_true q59
                                                go_wp2_with (first | (go_at_call 33; (with_reducible refine (cippuslaw07_has.calls k5 (rdOf ByteArray.empty t363 x22_4) (bt (rdOf ByteArray.empty t367 x22_4) x23_5) true _ A60.out).mono ?_); rintro e w' ⟨rfl, ⟨nd, rfl⟩⟩; (try first | exact ⟨rfl, _, World.drewN_drewN _ _ _⟩ | exact ⟨rfl, _, Eq.trans (World.drewN_drewN _ _ _) (congrArg (World.drewN _) (Nat.add_assoc _ _ _))⟩)))
                                                repeat (go_quiet (first | (go_at_call 33; (with_reducible refine (cippuslaw07_has.calls k5 (rdOf ByteArray.empty t363 x22_4) (bt (rdOf ByteArray.empty t367 x22_4) x23_5) true _ A60.out).mono ?_); rintro e w' ⟨rfl, ⟨nd, rfl⟩⟩; (try first | exact ⟨rfl, _, World.drewN_drewN _ _ _⟩ | exact ⟨rfl, _, Eq.trans (World.drewN_drewN _ _ _) (congrArg (World.drewN _) (Nat.add_assoc _ _ _))⟩))); try go_wp2_with (first | (go_at_call 33; (with_reducible refine (cippuslaw07_has.calls k5 (rdOf ByteArray.empty t363 x22_4) (bt (rdOf ByteArray.empty t367 x22_4) x23_5) true _ A60.out).mono ?_); rintro e w' ⟨rfl, ⟨nd, rfl⟩⟩; (try first | exact ⟨rfl, _, World.drewN_drewN _ _ _⟩ | exact ⟨rfl, _, Eq.trans (World.drewN_drewN _ _ _) (congrArg (World.drewN _) (Nat.add_assoc _ _ _))⟩))))
                                                go_roundg k5
                                                case measure => have := HJ8.out; have := HJ23.out; have := HK3.out; have := HK4.out; have := HK5.out; omega
                                                case rel => exact ⟨(wrap64 (x23_5 + 1)), (by first | rfl | (simp; done) | (simp [*]; done)), H', ⟨by have := HJ8.out; have := HJ23.out; have := HK3.out; have := HK4.out; have := HK5.out; omega⟩, ⟨by (with_reducible repeat (first | apply Kd.R_alloc | apply Kd.R_drewN | apply Kd.R_drew)); exact HO_12.out⟩, ⟨by (with_reducible repeat (first | apply Kd.R_alloc | apply Kd.R_drewN | apply Kd.R_drew)); exact HO_14.out⟩, ⟨by repeat (first | (with_reducible first | exact HB.out | apply below_alloc | apply pw_below_drewN | apply below_drew1) | exact HB.out)⟩⟩
                                              · replace c61 := Bool.eq_false_iff.mpr c61
                                                subst c61
                                                have H1 : (some false) = some r := by rw [if_neg (show ¬ (false = true) by decide)] at H; exact H
                                                clear H
                                                have H := H1
                                                clear H1
                                                obtain rfl := Option.some.inj H
                                                obtain ⟨Ao63, co63, eo63⟩ := Kd.R_slice HO_14.out
                                                subst eo63
                                                have p386 : 0 ≤ (x22_4 : Int) := of_decide_eq_true (by first | (with_reducible assumption) | assumption)
                                                have q386 : x22_4 < (t367.length : Int) := of_decide_eq_true (by first | (with_reducible assumption) | assumption)
                                                obtain ⟨ad386, e386, hx386_0⟩ := Kd.at_string (Kd.R_reads' HO_14.out).2.2 x22_4 p386 q386
                                                cases e386
                                                replace p386 := eq_true p386
                                                replace q386 := eq_true q386
                                                have p387 : 0 ≤ (x22_4 : Int) := of_decide_eq_true (by first | (with_reducible assumption) | assumption)
                                                have q387 : x22_4 < (t363.length : Int) := of_decide_eq_true (by first | (with_reducible assumption) | assumption)
                                                obtain ⟨ad387, e387, hx387_0⟩ := Kd.at_string (Kd.R_reads' HO_12.out).2.2 x22_4 p387 q387
                                                cases e387
                                                replace p387 := eq_true p387
                                                replace q387 := eq_true q387
                                                have p388 : 0 ≤ (x22_4 : Int) := of_decide_eq_true (by first | (with_reducible assumption) | assumption)
                                                have q388 : x22_4 < (t367.length : Int) := of_decide_eq_true (by first | (with_reducible assumption) | assumption)
                                                obtain ⟨ad388, e388, hx388_0⟩ := Kd.at_string (Kd.R_reads' HO_14.out).2.2 x22_4 p388 q388
                                                obtain rfl : ad386 = ad388 := (by injection e388)
                                                replace p388 := eq_true p388
                                                replace q388 := eq_true q388
                                                have p59 : 0 ≤ (x23_5 : Int) := of_decide_eq_true (by first | (with_reducible assumption) | assumption)
                                                have q59 : x23_5 < ((rdOf ByteArray.empty t367 x22_4).size : Int) := of_decide_eq_true (by first | (with_reducible assumption) | assumption)
                                                have hx59 := bt_at (rdOf ByteArray.empty t367 x22_4) x23_5
                                                replace p59 := eq_true p59
                                                replace q59 := eq_true q59
                                                go_wp2_with (first | (go_at_call 33; (with_reducible refine (cippuslaw07_has.calls k5 (rdOf ByteArray.empty t363 x22_4) (bt (rdOf ByteArray.empty t367 x22_4) x23_5) false _ A60.out).mono ?_); rintro e w' ⟨rfl, ⟨nd, rfl⟩⟩; (try first | exact ⟨rfl, _, World.drewN_drewN _ _ _⟩ | exact ⟨rfl, _, Eq.trans (World.drewN_drewN _ _ _) (congrArg (World.drewN _) (Nat.add_assoc _ _ _))⟩)))
                                                repeat (go_quiet (first | (go_at_call 33; (with_reducible refine (cippuslaw07_has.calls k5 (rdOf ByteArray.empty t363 x22_4) (bt (rdOf ByteArray.empty t367 x22_4) x23_5) false _ A60.out).mono ?_); rintro e w' ⟨rfl, ⟨nd, rfl⟩⟩; (try first | exact ⟨rfl, _, World.drewN_drewN _ _ _⟩ | exact ⟨rfl, _, Eq.trans (World.drewN_drewN _ _ _) (congrArg (World.drewN _) (Nat.add_assoc _ _ _))⟩))); try go_wp2_with (first | (go_at_call 33; (with_reducible refine (cippuslaw07_has.calls k5 (rdOf ByteArray.empty t363 x22_4) (bt (rdOf ByteArray.empty t367 x22_4) x23_5) false _ A60.out).mono ?_); rintro e w' ⟨rfl, ⟨nd, rfl⟩⟩; (try first | exact ⟨rfl, _, World.drewN_drewN _ _ _⟩ | exact ⟨rfl, _, Eq.trans (World.drewN_drewN _ _ _) (congrArg (World.drewN _) (Nat.add_assoc _ _ _))⟩))))
                                                go_ret
                                                exact ⟨by first | rfl | (simp [errW_none, errW_some] <;> rfl) | (simp [*, errW_none, errW_some] <;> rfl), by repeat (first | (with_reducible first | exact HB.out | apply below_alloc | apply pw_below_drewN | apply below_drew1) | exact HB.out)⟩
                                            · rw [if_neg c58] at H
                                              exact absurd H (by simp)
                                          · rw [if_neg c57] at H
                                            exact absurd H (by simp)
                                        · rw [if_neg c56] at H
                                          have c56b0 : decide (x23_5 < ((rdOf ByteArray.empty t367 x22_4).size : Int)) = false := decide_eq_false c56
                                          clear c56
                                          have H' := Aside0.mk H
                                          clear H
                                          obtain ⟨Ao64, co64, eo64⟩ := Kd.R_slice HO_14.out
                                          subst eo64
                                          have p386 : 0 ≤ (x22_4 : Int) := of_decide_eq_true (by first | (with_reducible assumption) | assumption)
                                          have q386 : x22_4 < (t367.length : Int) := of_decide_eq_true (by first | (with_reducible assumption) | assumption)
                                          obtain ⟨ad386, e386, hx386_0⟩ := Kd.at_string (Kd.R_reads' HO_14.out).2.2 x22_4 p386 q386
                                          cases e386
                                          replace p386 := eq_true p386
                                          replace q386 := eq_true q386
                                          go_wp2
                                          repeat (go_quiet (fail); try go_wp2)
                                          go_roundg k5
                                          case measure => have := HJ8.out; have := HJ23.out; have := HK3.out; have := HK4.out; have := HK5.out; omega
                                          case rel => exact ⟨(wrap64 (x22_4 + 1)), (by first | rfl | (simp; done) | (simp [*]; done)), H', ⟨by have := HJ8.out; have := HJ23.out; have := HK3.out; have := HK4.out; have := HK5.out; omega⟩, ⟨by (with_reducible repeat (first | apply Kd.R_alloc | apply Kd.R_drewN | apply Kd.R_drew)); exact HO_12.out⟩, ⟨by (with_reducible repeat (first | apply Kd.R_alloc | apply Kd.R_drewN | apply Kd.R_drew)); exact HO_14.out⟩, ⟨by repeat (first | (with_reducible first | exact HB.out | apply below_alloc | apply pw_below_drewN | apply below_drew1) | exact HB.out)⟩⟩
                                      · rw [if_neg c55] at H
                                        exact absurd H (by simp)
                                    · rw [if_neg c54] at H
                                      exact absurd H (by simp)
                              · rw [if_neg c52] at H
                                have c52b0 : decide (x22_4 < (t363.length : Int)) = false := decide_eq_false c52
                                clear c52
                                replace H := Option.bind_eq_some_iff.mp H
                                obtain ⟨t385, A650, H⟩ := H
                                replace H : (some t385) = some r := H
                                have A65 := Aside0.mk A650
                                clear A650
                                obtain rfl := Option.some.inj H
                                obtain ⟨Ao66, co66, eo66⟩ := Kd.R_slice HO_12.out
                                subst eo66
                                go_wp2_with (first | (go_at_call 17; (with_reducible refine (cippuslaw07_found.calls k4  t385 _ A65.out).mono ?_); rintro e w67 ⟨rfl, hb⟩; have n0_ := Aside0.mk (Kd.R_below (by (with_reducible repeat (first | apply Kd.R_alloc | apply Kd.R_drewN | apply Kd.R_drew)); exact HO_12.out) hb); have n1_ := Aside0.mk (Kd.R_below (by (with_reducible repeat (first | apply Kd.R_alloc | apply Kd.R_drewN | apply Kd.R_drew)); exact HO_14.out) hb); have n2_ := Aside0.mk (below_step (by repeat (first | (with_reducible first | exact HB.out | apply below_alloc | apply pw_below_drewN | apply below_drew1) | exact HB.out)) hb); clear HO_12; clear HO_14; clear HB; have HO_12 := n0_; have HO_14 := n1_; have HB := n2_; clear n0_ n1_ n2_; (try clear hb); (try clear hb2); (try clear hk); (try clear hi)))
                                repeat (go_quiet (first | (go_at_call 17; (with_reducible refine (cippuslaw07_found.calls k4  t385 _ A65.out).mono ?_); rintro e w67 ⟨rfl, hb⟩; have n0_ := Aside0.mk (Kd.R_below (by (with_reducible repeat (first | apply Kd.R_alloc | apply Kd.R_drewN | apply Kd.R_drew)); exact HO_12.out) hb); have n1_ := Aside0.mk (Kd.R_below (by (with_reducible repeat (first | apply Kd.R_alloc | apply Kd.R_drewN | apply Kd.R_drew)); exact HO_14.out) hb); have n2_ := Aside0.mk (below_step (by repeat (first | (with_reducible first | exact HB.out | apply below_alloc | apply pw_below_drewN | apply below_drew1) | exact HB.out)) hb); clear HO_12; clear HO_14; clear HB; have HO_12 := n0_; have HO_14 := n1_; have HB := n2_; clear n0_ n1_ n2_; (try clear hb); (try clear hb2); (try clear hk); (try clear hi))); try go_wp2_with (first | (go_at_call 17; (with_reducible refine (cippuslaw07_found.calls k4  t385 _ A65.out).mono ?_); rintro e w67 ⟨rfl, hb⟩; have n0_ := Aside0.mk (Kd.R_below (by (with_reducible repeat (first | apply Kd.R_alloc | apply Kd.R_drewN | apply Kd.R_drew)); exact HO_12.out) hb); have n1_ := Aside0.mk (Kd.R_below (by (with_reducible repeat (first | apply Kd.R_alloc | apply Kd.R_drewN | apply Kd.R_drew)); exact HO_14.out) hb); have n2_ := Aside0.mk (below_step (by repeat (first | (with_reducible first | exact HB.out | apply below_alloc | apply pw_below_drewN | apply below_drew1) | exact HB.out)) hb); clear HO_12; clear HO_14; clear HB; have HO_12 := n0_; have HO_14 := n1_; have HB := n2_; clear n0_ n1_ n2_; (try clear hb); (try clear hb2); (try clear hk); (try clear hi))))
                                go_ret
                                exact ⟨by first | rfl | (simp [errW_none, errW_some] <;> rfl) | (simp [*, errW_none, errW_some] <;> rfl), by repeat (first | (with_reducible first | exact HB.out | apply below_alloc | apply pw_below_drewN | apply below_drew1) | exact HB.out)⟩
end Go.Proofs.Ytegjollhajgcdaa.P
namespace Go.Proofs.Ytegjollhajgcdaa.Pure
open Go.RowKit Go.Proofs.Ytegjollhajgcdaa.P Go.Proofs.Ytegjollhajgcdaa.P.OwnSt Go.Proofs.YtegjollhajgcdaaW.PrintWords Go.Proofs.YtegjollhajgcdaaW.PrintLast
set_option linter.unusedVariables false
set_option linter.unusedSimpArgs false
section
variable {l l' : List S24} {r : (Nat → Int) → Nat → Int}
theorem more_l3 (h : SubT l l' l.length r) (hk : knownE l = 0) (hk' : knownE l' = 0) (hL : (rd_T24 l 0).f0.size = (rd_T24 l' 0).f0.size) (p : Nat) (hp : p < (rd_T24 l 0).f0.size) (R : Bool)
    (hR : Ev (fun k => cippuslaw07_StemmaMore.l2 k (lettersV l).1 (lettersV l').1 ((p + 1 : Nat) : Int)) R) : ∀ rem q, q + rem = (letterRow l' p).size →
    Ev (fun k => cippuslaw07_StemmaMore.l3 k (lettersV l).1 (lettersV l').1 (p : Int) (q : Int)) R := by
  intro rem
  have h8 := h.vl.high
  have hs' := letterRow_size l' p
  have hs := letterRow_size l p
  have hl : (lettersV l).1.length = (rd_T24 l 0).f0.size := by unfold lettersV; rw [if_pos hk]; simp
  have hl' : (lettersV l').1.length = (rd_T24 l' 0).f0.size := by unfold lettersV; rw [if_pos hk']; simp
  induction rem with
  | zero =>
    intro q hq
    refine Ev.step (fun k => by rw [cippuslaw07_StemmaMore.l3]) ?_
    rw [textsV l hk p hp, textsV l' hk' p (by omega)]
    refine Ev.if_pos' (by omega) (Ev.if_pos' (by omega) (Ev.if_neg' (by omega) ?_))
    rw [show wrap64 ((p : Int) + 1) = ((p + 1 : Nat) : Int) by rw [wrap64_small (by omega) (by omega)]; omega]
    exact hR
  | succ rem ih =>
    intro q hq
    refine Ev.step (fun k => by rw [cippuslaw07_StemmaMore.l3]) ?_
    rw [textsV l hk p hp, textsV l' hk' p (by omega)]
    refine Ev.if_pos' (by omega) (Ev.if_pos' (by omega) (Ev.if_pos' (by omega) (Ev.if_pos' (by omega) (Ev.if_pos' (by omega) ?_))))
    obtain ⟨j, h1, h2, h3⟩ := bt_mask (mayAt l' p) q (show q < (letterRow l' p).size by omega)
    have h4 := has_ev (letterRow l p) (bt (letterRow l' p) (q : Int)) (by omega)
    have h5 : hasB (letterRow l p) (bt (letterRow l' p) (q : Int)) = true := by
      unfold letterRow
      rw [h3, hasB_row _ j h1]
      exact h.letters p j hp (by omega) h2
    rw [h5] at h4
    refine Ev.bind h4 (Ev.if_pos' (by trivial) ?_)
    rw [show wrap64 ((q : Int) + 1) = ((q + 1 : Nat) : Int) by rw [wrap64_small (by omega) (by omega)]; omega]
    exact ih (q + 1) (by omega)
theorem more_l2 (h : SubT l l' l.length r) (hk : knownE l = 0) (hk' : knownE l' = 0) (hL : (rd_T24 l 0).f0.size = (rd_T24 l' 0).f0.size) : ∀ rem p, p + rem = (rd_T24 l 0).f0.size →
    Ev (fun k => cippuslaw07_StemmaMore.l2 k (lettersV l).1 (lettersV l').1 (p : Int)) true := by
  intro rem
  have hl : (lettersV l).1.length = (rd_T24 l 0).f0.size := by unfold lettersV; rw [if_pos hk]; simp
  induction rem with
  | zero =>
    intro p hp
    refine Ev.step (fun k => by rw [cippuslaw07_StemmaMore.l2]) ?_
    exact Ev.if_neg' (by omega) (Ev.bind found_ev (Ev.now _))
  | succ rem ih =>
    intro p hp
    refine Ev.step (fun k => by rw [cippuslaw07_StemmaMore.l2]) ?_
    refine Ev.if_pos' (by omega) ?_
    simpa using more_l3 h hk hk' hL p (by omega) true (ih (p + 1) (by omega)) (letterRow l' p).size 0 (by omega)
theorem more_l1 (h : SubT l l' l.length r) (hk : knownE l = 0) (hk' : knownE l' = 0) (hm : l'.length = l.length) (i : Nat) (hi : i < l.length) (R : Bool)
    (hR : Ev (fun k => cippuslaw07_StemmaMore.l0 k (sourcesV l).1 (sourcesV l').1 (lettersV l).1 (lettersV l').1 ((i + 1 : Nat) : Int)) R) : ∀ rem j, j + rem = i + 1 →
    Ev (fun k => cippuslaw07_StemmaMore.l1 k (sourcesV l).1 (sourcesV l').1 (lettersV l).1 (lettersV l').1 (i : Int) (j : Int)) R := by
  intro rem
  have h5 := h.vl.five
  have hl : (sourcesV l).1.length = l.length := by unfold sourcesV; rw [if_pos hk]; simp
  have hl' : (sourcesV l').1.length = l'.length := by unfold sourcesV; rw [if_pos hk']; simp
  have hrow := rowsV l hk i (by omega)
  have hrow' := rowsV l' hk' i (by omega)
  have hr : (srcRow l i).length = i + 1 := by simp [srcRow]
  have hr' : (srcRow l' i).length = i + 1 := by simp [srcRow]
  induction rem with
  | zero =>
    intro j hj
    refine Ev.step (fun k => by rw [cippuslaw07_StemmaMore.l1]) ?_
    rw [hrow, hrow']
    refine Ev.if_pos' (by omega) (Ev.if_pos' (by omega) (Ev.if_neg' (by omega) ?_))
    rw [show wrap64 ((i : Int) + 1) = ((i + 1 : Nat) : Int) by rw [wrap64_small (by omega) (by omega)]; omega]
    exact hR
  | succ rem ih =>
    intro j hj
    refine Ev.step (fun k => by rw [cippuslaw07_StemmaMore.l1]) ?_
    rw [hrow, hrow', show wrap64 ((j : Int) + 1) = ((j + 1 : Nat) : Int) by rw [wrap64_small (by omega) (by omega)]; omega]
    refine Ev.if_pos' (by omega) (Ev.if_pos' (by omega) (Ev.if_pos' (by omega) (Ev.if_pos' (by omega) ?_)))
    rw [rowV l i j (by omega), rowV l' i j (by omega)]
    by_cases e : verdictI ((knownV l).countP (srcP i j)) (knownV l).length = 3
    · exact Ev.if_pos' e (ih (j + 1) (by omega))
    · refine Ev.if_neg' e (Ev.if_pos' (by omega) (Ev.if_pos' (by omega) (Ev.if_pos' ?_ (ih (j + 1) (by omega)))))
      exact h.verdict (knownE_zero hk').2 i j hi e
theorem more_l0 (h : SubT l l' l.length r) (hk : knownE l = 0) (hk' : knownE l' = 0) (hm : l'.length = l.length) (hL : (rd_T24 l 0).f0.size = (rd_T24 l' 0).f0.size) : ∀ rem i, i + rem = l.length →
    Ev (fun k => cippuslaw07_StemmaMore.l0 k (sourcesV l).1 (sourcesV l').1 (lettersV l).1 (lettersV l').1 (i : Int)) true := by
  intro rem
  have h5 := h.vl.five
  have hl : (sourcesV l).1.length = l.length := by unfold sourcesV; rw [if_pos hk]; simp
  have hl' : (sourcesV l').1.length = l'.length := by unfold sourcesV; rw [if_pos hk']; simp
  induction rem with
  | zero =>
    intro i hi
    refine Ev.step (fun k => by rw [cippuslaw07_StemmaMore.l0]) ?_
    exact Ev.if_neg' (by omega) (by simpa using more_l2 h hk hk' hL (rd_T24 l 0).f0.size 0 (by omega))
  | succ rem ih =>
    intro i hi
    refine Ev.step (fun k => by rw [cippuslaw07_StemmaMore.l0]) ?_
    rw [rowsV l hk i (by omega), rowsV l' hk' i (by omega)]
    refine Ev.if_pos' (by omega) (Ev.if_pos' (by omega) (Ev.if_pos' (by omega) (Ev.if_pos' (by simp [srcRow]) ?_)))
    simpa using more_l1 h hk hk' hm i (by omega) true (ih (i + 1) (by omega)) (i + 1) 0 (by omega)
end
theorem more_pure (l0 : List S24) (st : ByteArray) (src : List Int) (l1 : List S24) (h : MadeT 1 st l0 src) (hl : LessAll l0 l1) : ∃ k, cippuslaw07_StemmaMore.f k l0 l1 = some true := by
  have hs := sub_less h.valid hl.1 hl.2
  have hk := h.knownE
  have hL : (rd_T24 l0 0).f0.size = (rd_T24 l1 0).f0.size := by rw [show (rd_T24 l1 0).f0 = (rd_T24 l0 0).f0 from (hl.2 0 h.one).1]
  have s1 : (sourcesV l0).2 = 0 := by unfold sourcesV; rw [if_pos hk]
  have s2 : (lettersV l0).2 = 0 := by unfold lettersV; rw [if_pos hk]
  have s3 : (fewestV l0).2 = 0 := by unfold fewestV; rw [if_pos hk]
  have s4 : (sourcesV l0).1.length = l0.length := by unfold sourcesV; rw [if_pos hk]; simp
  have s5 : (lettersV l0).1.length = (rd_T24 l0 0).f0.size := by unfold lettersV; rw [if_pos hk]; simp
  suffices hE : Ev (fun k => cippuslaw07_StemmaMore.f k l0 l1) true by
    obtain ⟨K, hK⟩ := hE
    exact ⟨K, hK K (Nat.le_refl _)⟩
  unfold cippuslaw07_StemmaMore.f stemma_Sources.f stemma_Letters.f stemma_Fewest.f
  simp only [Option.bind_some]
  refine Ev.if_pos' s1 (Ev.if_pos' s2 (Ev.if_pos' s3 ?_))
  by_cases hk' : knownE l1 = 0
  · have t1 : (sourcesV l1).2 = 0 := by unfold sourcesV; rw [if_pos hk']
    have t2 : (lettersV l1).2 = 0 := by unfold lettersV; rw [if_pos hk']
    have t3 : (fewestV l1).2 = 0 := by unfold fewestV; rw [if_pos hk']
    have t4 : (sourcesV l1).1.length = l1.length := by unfold sourcesV; rw [if_pos hk']; simp
    have t5 : (lettersV l1).1.length = (rd_T24 l1 0).f0.size := by unfold lettersV; rw [if_pos hk']; simp
    have hf := hs.fewest hk hk'
    have h1 := hl.1
    refine Ev.if_pos' (by omega) ?_
    rw [t1, t3]
    refine Ev.step (fun k => by rw [cippuslaw07_StemmaMore.j0]) ?_
    refine Ev.if_neg' (by decide) (Ev.if_neg' (by decide) (Ev.if_pos' rfl (Ev.if_neg' (by omega) (Ev.if_pos' (by omega) ?_))))
    rw [show (((lettersV l0).1.length : Int) != ((lettersV l1).1.length : Int)) = false from by rw [s5, t5, hL]; simp]
    refine Ev.step (fun k => by rw [cippuslaw07_StemmaMore.j1]) ?_
    exact Ev.if_neg' (by decide) (by simpa using more_l0 hs hk hk' h1 hL l0.length 0 (by omega))
  · have hc : checkV l1 = 0 := check_of_valid hs.vl'
    have h9 : knownE l1 = 9 := by
      unfold knownE at hk' ⊢
      rw [if_neg (by rw [hc]; decide)] at hk' ⊢
      by_cases e : knownV l1 = []
      · rw [if_pos e]
      · rw [if_neg e] at hk'
        exact absurd rfl hk'
    have t1 : (sourcesV l1).2 = 9 := by unfold sourcesV; rw [if_neg hk']; exact h9
    have t2 : (lettersV l1).2 = 9 := by unfold lettersV; rw [if_neg hk']; exact h9
    have t3 : (fewestV l1).2 = 9 := by unfold fewestV; rw [if_neg hk']; exact h9
    refine Ev.if_pos' (by omega) ?_
    rw [t1, t3]
    refine Ev.step (fun k => by rw [cippuslaw07_StemmaMore.j0]) ?_
    exact Ev.if_neg' (by decide) (Ev.if_pos' rfl (Ev.bind found_ev (Ev.now _)))
end Go.Proofs.Ytegjollhajgcdaa.Pure
namespace Go.Proofs.YtegjollhajgcdaaW.PrintWords
open Go.ChangeShapes Go.WideShapes
theorem sized_ints {H : Type} {enc : TypeId × Value → H} {P : Program} {W : World} {base : Nat} {spare : Nat → Bool} {held : Bool} {t e : TypeId} {k : IntKind} {a : Option Addr} {len cap : Nat} {d : DataW H} {ps : List MemPlace} {ts : List TypeId} {ds : List (DataW H)} {j : Nat}
    (hsz : (DataW.weightsEach P ts ds).all (· ≤ reachBytes) = true) (ht : ts[j]? = some t) (hd : ds[j]? = some d) (hu : P.underlying t = some (.slice e)) (he : P.underlying e = some (.int k)) (hc : P.cellsOf e = 1) {B : Nat} (hB : P.bytesOf e = B)
    (h : DataW.Trod enc P W base spare held t (.slice a len cap) d ps) : len * B ≤ 140737488351232 := by
  obtain ⟨fuel, hf⟩ := h
  rcases open_ints hu he hc hf with ⟨hcs, _⟩ | ⟨x, l, c, zs, hcs, _, hl, _, hz, hx, _, _⟩
  · simp [Value.cells] at hcs
    obtain ⟨rfl, rfl, rfl⟩ := hcs
    simp
  · simp [Value.cells] at hcs
    obtain ⟨rfl, rfl, rfl⟩ := hcs
    obtain ⟨hx, _⟩ := Prod.mk.inj hx
    subst hx
    have z := sized_slice hsz ht hd hu
    rw [hB] at z
    have hl2 : len ≤ zs.length := by
      rw [hz]
      split
      · exact hl
      · exact Nat.le_refl _
    have h1 : (lits (H := H) k (zs.take len)).length + (lits (H := H) k (zs.drop len)).length = zs.length := by
      simp [lits]
      omega
    rw [h1] at z
    exact Nat.le_trans (Nat.mul_le_mul_right _ hl2) z
end Go.Proofs.YtegjollhajgcdaaW.PrintWords
namespace Go.Proofs.Ytegjollhajgcdaa.stemmaMore
open Go.ChangeShapes Go.WideShapes Go.ChangeAt Go.RowKit
open Go.ChangeMaps (open_string shut_string)
set_option linter.unusedVariables false
theorem own : ownKnob Try.prog.godebug = none := by kernel_rfl
theorem laidOut : laidOutB Try.prog = true := by kernel_rfl
def IsRow (k : IntKind) (w : World) (a : Option Addr) (len cap : Nat) (zs : List Int) : Prop :=
  (a = none ∧ len = 0 ∧ cap = 0 ∧ zs = []) ∨
  ∃ x, a = some x ∧ len ≤ cap ∧ cap ≤ maxLen ∧ zs.length = cap ∧ (∀ i, i < zs.length → w.cell? (x.add i) = some (.int k (zs.getD i 0))) ∧ ∀ n ∈ zs, (Lit.int k n).wf = true
open P P.OwnSt Go.Proofs.YtegjollhajgcdaaW.PrintWords Go.Proofs.YtegjollhajgcdaaW.PrintLast in
theorem walk (a0 : Option Addr) (len0 cap0 : Nat) (z0 : List Int) (w : World) (w0 : (a0 = none ∧ len0 = 0 ∧ cap0 = 0 ∧ z0 = []) ∨ ∃ x, a0 = some x ∧ len0 ≤ cap0 ∧ cap0 ≤ maxLen ∧ z0.length = cap0 ∧ (∀ i, i < z0.length → w.cell? (x.add i) = some (.int .i64 (z0.getD i 0))) ∧ ∀ n ∈ z0, (Lit.int .i64 n).wf = true) (y0 : len0 * 8 ≤ 140737488351232) :
    Calls Try.prog 7 #[.slice a0 len0 cap0] w fun e w' => e = .returned (.bool true) ∧ Below w.heap.size w w' := by
  obtain ⟨l0, rfl, hr0, hm0, hw0, hc0⟩ := ReadsInt.ofRowC w0
  exact P.more_calls _ _ l0 w (Kd.C_of_reads (d := (0 : Int)) (h1 := fun _ => rfl) hr0) hc0 (by omega) Pure.more_pure
set_option maxRecDepth 100000 in
theorem lifted (os : Os) (started : os.Started) (H : Type) (enc : TypeId × Value → H) :
    ReturnsInHanded {} Try.checked os 7 .any (Rows.stemmaMoreSpec.pre6 enc Try.prog Try.f7 Rows.stemmaMoreRow.domain false) (Rows.stemmaMoreSpec.post enc Try.prog Try.f7 false true false false) := by
  refine returnsInHanded_of_change_sized (C := Try.checked) own started (by kernel_rfl) Try.func7
    (ChangeSpec.witness6 (enc := enc) (C := Try.checked) false ⟨#[], #[.slice none 0 0], []⟩ 8 (by kernel_rfl) (by kernel_rfl) (by kernel_rfl) (by kernel_rfl)) ?_
  intro W base args ds gs before hval0 hW hcnd hsz0 _
  have hsz : (DataW.weightsEach Try.prog (Try.f7.params.toList ++ Rows.stemmaMoreSpec.plain.varTypes Try.prog) (ds ++ gs)).all (· ≤ reachBytes) = true := hsz0
  have hval : ∀ (j : Nat) t v, Try.f7.params[j]? = some t → args[j]? = some v → Value.okWide Try.prog W .any base t v := hval0
  have hW' := hW
  obtain ⟨p, q, hA0, hV, rfl, hfz, hnd⟩ := hW
  have hA : DataW.TrodAll enc Try.prog W 0 (fun _ => true) true Try.f7.params.toList args.toList ds p := hA0
  rw [Try.params7] at hA hval hsz
  obtain ⟨v0, vs0, d0, ds0, p0, q0, hargs, rfl, rfl, h0, r0⟩ := trodAll_cons hA
  obtain ⟨rfl, rfl, rfl⟩ := trodAll_nil r0
  obtain rfl : args = #[v0] := by cases args; simp_all
  obtain ⟨rfl, rfl⟩ := trodVars_none hV
  obtain ⟨a0, len0, cap0, rfl⟩ := okWide_slice Try.underlying25 (hval 0 25 v0 rfl rfl)
  have k0 := h0
  have lt0 : ∀ x ∈ p0, x.block < W.heap.size := by obtain ⟨m, hm⟩ := k0; exact DataW.trod_lt m _ _ _ hm
  obtain ⟨z0, w0⟩ : ∃ zs, IsRow .i64 W a0 len0 cap0 zs := by
    obtain ⟨fuel, hf⟩ := h0
    rcases open_ints Try.underlying25 Try.underlying3 (by kernel_rfl) hf with ⟨hcs, _⟩ | ⟨x, l, c, zs, hcs, _, hl, hm, hz, _, hcell, hwz⟩
    · simp [Value.cells] at hcs
      obtain ⟨rfl, rfl, rfl⟩ := hcs
      exact ⟨[], .inl ⟨rfl, rfl, rfl, rfl⟩⟩
    · simp [Value.cells] at hcs
      obtain ⟨rfl, rfl, rfl⟩ := hcs
      exact ⟨zs, .inr ⟨_, rfl, hl, hm, by simpa using hz, hcell, hwz⟩⟩
  have y0 : len0 * 8 ≤ 140737488351232 := Go.Proofs.YtegjollhajgcdaaW.PrintWords.sized_ints hsz (j := 0) (t := 25) rfl rfl Try.underlying25 Try.underlying3 (by kernel_rfl) (by kernel_rfl) h0
  clear hA0 hval0 hsz0 hsz
  refine (walk a0 len0 cap0 z0 W w0 y0).mono fun e W' ⟨he, bel⟩ => ?_
  subst he
  exact ⟨_, rfl, _, _, _, [], _, [], hW', trodAll_mk1 (shut_bool Try.underlying4 _), (trodAll_cons_mk (Below.trod laidOut (by kernel_rfl) (of_decide_eq_true (by kernel_rfl)) k0 bel lt0) trodAll_mk0), rfl, bel.frame _, fun h => by cases h⟩
theorem over : Rows.stemmaMoreRow.holds Try.pinned (OpenSpec.ofChange Rows.stemmaMoreSpec) :=
  OpenClaim.holds_of_wide 7 Try.f7 rfl rfl rfl rfl rfl rfl rfl ⟨rfl, rfl, rfl, rfl, rfl⟩ rfl rfl rfl rfl rfl (by kernel_rfl) Try.func7 (by kernel_rfl)
    (of_decide_eq_true (by kernel_rfl)) (by unfold Func.isWrapper; first | (rw [if_pos (by decide +kernel)]; kernel_rfl) | (rw [if_neg (by decide +kernel)]; exact ⟨rfl, rfl⟩))
    (fun os started H enc _ => lifted os started H enc)
theorem proved : Rows.StemmaMoreSaid := over
#print axioms proved
end Go.Proofs.Ytegjollhajgcdaa.stemmaMore
namespace Go.Proofs.Ytegjollhajgcdaa
theorem stemmaMore_holds : Rows.StemmaMoreSaid := stemmaMore.proved
end Go.Proofs.Ytegjollhajgcdaa
