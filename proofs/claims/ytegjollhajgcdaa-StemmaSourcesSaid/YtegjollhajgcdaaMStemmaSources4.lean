/- Lemmas for the statement StemmaSources of the given program, for every input that its row lets in. Conditions: none beyond those that each lemma tells. -/
import Derived.Sort.CutIn
import Derived.BigQuiet
import Derived.Test.YtegjollhajgcdaaMStemmaSources3
set_option linter.unusedVariables false
set_option linter.unusedSimpArgs false
namespace Go.Proofs.Ytegjollhajgcdaa.P.OwnSt
open Go.RowKit Go.Proofs.YtegjollhajgcdaaW.PrintWords Go.Proofs.YtegjollhajgcdaaW.PrintLast Go.Proofs.YtegjollhajgcdaaW.PrintMore
set_option linter.unusedVariables false
set_option linter.unusedSimpArgs false
def KB (l : List S24) (A : Option Addr) (c : Nat) (w : World) (bo bm mb : Nat) (pre : List (Nat → Int)) (b8 : Nat) (x : Nat → Int) (B0 : Nat) (Wr W : World) : Prop :=
  KI l A c w bo bm mb pre W ∧ LostAt W b8 A l.length c x ∧ KpT w.heap.size Wr W ∧ KeepsFrom B0 Wr W
section
variable {l : List S24} {A : Option Addr} {c : Nat} {w : World} {bo bm mb : Nat} {pre : List (Nat → Int)} {b8 : Nat} {x : Nat → Int} {B0 : Nat} {Wr W W' : World}
theorem KpT.belowW (h : KpT w.heap.size Wr W) (hb : Below W.heap.size W W') : KpT w.heap.size Wr W' := h.of_below (hb.mono h.1)
theorem KB.below (h : KB l A c w bo bm mb pre b8 x B0 Wr W) (hb : Below W.heap.size W W') : KB l A c w bo bm mb pre b8 x B0 Wr W' :=
  ⟨h.1.it (It82.below hb), h.2.1.below hb, h.2.2.1.belowW hb, h.2.2.2.trans ⟨hb.size, fun k o _ hk _ => blk_below hk hb⟩⟩
theorem MemoHas.keep {key : Value} (h : MemoHas W mb key) (hb : W'.heap[mb]? = W.heap[mb]?) : MemoHas W' mb key := by
  obtain ⟨es, ck, h1, h2⟩ := h
  exact ⟨es, ck, hb.trans h1, h2⟩
theorem MemoAt.lt {P : Program} {K : TypeId} {Φ : Value → Value → Prop} (h : MemoAt P K Φ W mb) : mb < W.heap.size := by
  obtain ⟨es, ck, h1, _⟩ := h
  exact blk_lt h1
theorem below_put {n0 : Nat} (h : Below n0 w W) (hn : n0 ≤ mb) (o : Obj) : Below n0 w (W.putObj mb o) :=
  ⟨h.os, h.tape, h.output, by have := h.size; simpa [World.putObj] using this, fun k hk => (World.putObj_heap_other (by omega)).trans (h.block k hk)⟩
theorem KB.map (h : KB l A c w bo bm mb pre b8 x B0 Wr W) (hmb : w.heap.size ≤ mb) (hB : mb < B0) (o : Obj) (hm : MemoAt Try.prog 85 (MayR l) (W.putObj mb o) mb) : KB l A c w bo bm mb pre b8 x B0 Wr (W.putObj mb o) := by
  obtain ⟨⟨h1, ⟨v, h2, h3⟩, h4, h5, h6⟩, h7, h8, h9⟩ := h
  obtain ⟨es, ck, hE, _⟩ := h5
  have hk : ∀ {b : Nat} {cs : Array Value} {t : TypeId} {fr : Nat × Nat}, W.heap[b]? = some (.cells cs t fr) → (W.putObj mb o).heap[b]? = some (.cells cs t fr) := fun {b} {cs} {t} {fr} hb =>
    (World.putObj_heap_other (fun e => by rw [← e, hb] at hE; cases hE)).trans hb
  refine ⟨⟨hk h1, ⟨v, hk h2, own_move h3 fun k hkk => ?_⟩, hk h4, hm, below_put h6 hmb o⟩, hk h7, ⟨by have := h8.1; simpa [World.putObj] using this, fun k u hu hu2 => ?_⟩, ⟨by have := h9.size; simpa [World.putObj] using this, fun k u hB2 hu hc => ?_⟩⟩
  · obtain ⟨cells, hc⟩ := own_typed h3 k hkk
    rw [hc]
    exact hk hc
  · refine (World.putObj_heap_other (fun e => ?_)).trans (h8.2 k u hu hu2)
    have h10 := h8.2 k u hu hu2
    rcases hu2 with h11 | ⟨c', t, fr, rfl, _⟩
    · omega
    · rw [← e, h10] at hE
      cases hE
  · exact (World.putObj_heap_other (by omega)).trans (h9.same k u hB2 hu hc)
theorem KB.app (h : KB l A c w bo bm mb pre b8 x B0 Wr W) (hl : liesB l x = true) (hbo : w.heap.size < bo) {v v' : Value} (hv : W.heap[bo]? = some (.cells #[v] 75 (0, 0)))
    (hown : W.ownsRow w.heap.size 84 6 v (pre.filter (liesB l)).length (lostRow A l.length c (pre.filter (liesB l))))
    (ho : W'.ownsRow w.heap.size 84 6 v' ((pre.filter (liesB l)).length + 1) (lostRow A l.length c (pre.filter (liesB l)) ++ lostC A l.length c x)) (hg : W.grownBy W' v.ownBlock) (hsz : bm < W.heap.size) :
    KeepsFrom B0 Wr (W'.setCell ⟨bo, 0, none⟩ v') ∧ KpT w.heap.size Wr (W'.setCell ⟨bo, 0, none⟩ v') ∧ KI l A c w bo bm mb (pre ++ [x]) (W'.setCell ⟨bo, 0, none⟩ v') := by
  obtain ⟨⟨h1, _, h4, h5, h6⟩, h7, h8, h9⟩ := h
  have hty : ∀ k, v.ownBlock = some k → w.heap.size ≤ k ∧ ∃ cells, W.heap[k]? = some (.cells cells 84 (0, 0)) := fun k hk => ⟨own_base hown k hk, own_typed hown k hk⟩
  have hk : ∀ {b : Nat} {o : Obj}, W.heap[b]? = some o → (∀ cells, o ≠ .cells cells 84 (0, 0)) → W'.heap[b]? = some o := fun {b} {o} hb ho2 =>
    blk_grown hb hg (fun e => by
      obtain ⟨_, cells, hc⟩ := hty b e.symm
      rw [hb] at hc
      injection hc with hc
      exact ho2 _ hc)
  have hbo' := hk hv (fun _ e => by injection e with _ e2; exact absurd e2 (by decide))
  have hk2 : ∀ {b : Nat} {o : Obj}, W.heap[b]? = some o → (∀ cells, o ≠ .cells cells 84 (0, 0)) → b ≠ bo → (W'.setCell ⟨bo, 0, none⟩ v').heap[b]? = some o := fun {b} {o} hb ho2 hne =>
    (Below.heap_setCell W' ⟨bo, 0, none⟩ v' b hne).trans (hk hb ho2)
  refine ⟨⟨?_, fun k o hB hko hc => ?_⟩, ⟨?_, fun k o hko h2 => ?_⟩, ⟨?_, ⟨v', ?_, ?_⟩, ?_, ?_, ?_⟩⟩
  · have h10 := h9.size; have h11 := hg.size; simp [World.setCell]; omega
  · refine hk2 (h9.same k o hB hko hc) (fun cells e => by subst e; simp [Obj.isCells] at hc) (fun e => ?_)
    subst e
    have h10 := h9.same k o hB hko hc
    rw [hv] at h10
    injection h10 with h10
    subst h10
    simp [Obj.isCells] at hc
  · have h10 := h8.1; have h11 := hg.size; simp [World.setCell]; omega
  · have h10 := h8.2 k o hko h2
    refine (Below.heap_setCell W' ⟨bo, 0, none⟩ v' k (fun e => ?_)).trans ?_
    · have e' : k = bo := e
      subst e'
      rcases h2 with h2 | ⟨c', t, fr, rfl, h2⟩
      · omega
      · rw [hv] at h10
        injection h10 with h10
        injection h10 with _ h10
        subst h10
        revert h2
        decide
    · refine blk_grown h10 hg (fun e => ?_)
      obtain ⟨h11, cells, hc⟩ := hty k e.symm
      rcases h2 with h2 | ⟨c', t, fr, rfl, h2⟩
      · omega
      · rw [hc] at h10
        injection h10 with h10
        injection h10 with _ h10
        subst h10
        revert h2
        decide
  · exact hk2 h1 (fun _ e => by injection e with _ e2; exact absurd e2 (by decide)) (by omega)
  · simpa using blk_set hbo' 0 v'
  · have h10 : (pre ++ [x]).filter (liesB l) = pre.filter (liesB l) ++ [x] := by simp [hl]
    rw [h10, lostRow_snoc, List.length_append]
    refine own_setCell ho (fun e => ?_) _
    obtain ⟨cells, hc⟩ := own_typed ho bo e.symm
    rw [hbo'] at hc
    injection hc with hc
    injection hc with _ hc
    exact absurd hc (by decide)
  · refine hk2 h4 (fun _ e => by injection e with _ e2; exact absurd e2 (by decide)) (fun e => ?_)
    subst e
    rw [hv] at h4
    injection h4 with h4
    injection h4 with _ h4
    exact absurd h4 (by decide)
  · obtain ⟨es, ck, hE, hr⟩ := h5
    refine ⟨es, ck, hk2 hE (fun _ e => by cases e) (fun e => ?_), hr⟩
    subst e
    rw [hv] at hE
    cases hE
  · exact (h6.grown hg h6.size (fun k e => own_base hown k e)).setCell (Nat.le_of_lt hbo) _
theorem KB.skip (h : KB l A c w bo bm mb pre b8 x B0 Wr W) (hl : liesB l x = false) : KeepsFrom B0 Wr W ∧ KpT w.heap.size Wr W ∧ KI l A c w bo bm mb (pre ++ [x]) W := by
  refine ⟨h.2.2.2, h.2.2.1, ?_⟩
  obtain ⟨⟨h1, ⟨v, h2, h3⟩, h4, h5, h6⟩, h7, h8, h9⟩ := h
  have h10 : (pre ++ [x]).filter (liesB l) = pre.filter (liesB l) := by simp [hl]
  exact ⟨h1, ⟨v, h2, by rw [h10]; exact h3⟩, h4, h5, h6⟩
end
end Go.Proofs.Ytegjollhajgcdaa.P.OwnSt
namespace Go.Proofs.Ytegjollhajgcdaa.P.OwnSt
open Go.RowKit Go.Shelf Go.Proofs.YtegjollhajgcdaaW.PrintWords Go.Proofs.YtegjollhajgcdaaW.PrintLast Go.Proofs.YtegjollhajgcdaaW.PrintMore
set_option linter.unusedVariables false
set_option linter.unusedSimpArgs false
attribute [local go_sem] Oper.semAt_some
theorem wpIn_gen {F : Fence} {n : Nat} {P : Program} {c : Code} {K : Exit → Act → World → Prop} {a : Act} {w : World} (I : World → Prop) (h : I w) (k : ∀ wx, I wx → c.wpIn F n P K a wx) : c.wpIn F n P K a w := k w h
theorem app_far {W : World} {bo n0 k : Nat} {v : Value} {xs : List Value} (hv : W.heap[bo]? = some (.cells #[v] 75 (0, 0))) (hown : W.ownsRow n0 84 6 v k xs) (o : Obj) (w5 : World) (hg : (W.alloc o).grownBy w5 v.ownBlock) :
    w5.cell? ⟨bo, 0, none⟩ = some v ∧ w5.frozen? ⟨bo, 0, none⟩ = false ∧ bo < w5.heap.size := by
  have h1 : w5.heap[bo]? = some (.cells #[v] 75 (0, 0)) := blk_grown (blk_alloc hv o) hg (fun e => by
    obtain ⟨_, h2⟩ := own_typed hown bo e.symm
    exact blk_ne hv h2 (by decide) rfl)
  exact ⟨blk_cell h1 0, blk_frozen h1 0, blk_lt h1⟩
theorem own_slice {w : World} {base : Nat} {e : TypeId} {size n : Nat} {v : Value} {xs : List Value} (h : w.ownsRow base e size v n xs) : ∃ b m c, v = .slice b m c := by
  rcases h.2 with ⟨rfl, _⟩ | ⟨g, cap, cur, rfl, _⟩
  · exact ⟨_, _, _, rfl⟩
  · exact ⟨_, _, _, rfl⟩
theorem lostC_one (A : Option Addr) (n c : Nat) (x : Nat → Int) : ∀ u ∈ lostC A n c x, u.oneCell' = true := by
  intro u hu
  simp [lostC] at hu
  rcases hu with rfl | rfl | rfl | rfl | rfl | rfl <;> rfl
theorem lostC_cells (A : Option Addr) (n c : Nat) (x : Nat → Int) (w : World) : ∀ j u, (lostC A n c x)[j]? = some u → (w.alloc (.cells #[.slice A n c, .int .i64 (x 0), .int .i64 (x 1), .int .i64 (x 2), .int .i64 (x 3), .int .i64 (x 4)] 84)).cell? ((⟨w.heap.size, 0, none⟩ : Addr).add j) = some u := by
  intro j u hj
  rw [show ((⟨w.heap.size, 0, none⟩ : Addr).add j) = ⟨w.heap.size, j, none⟩ from by simp [Addr.add]; intro h; exact h.symm, blk_cell (blk_new w _)]
  rw [← hj]
  simp only [lostC, List.getElem?_toArray]
def AxK (l : List S24) (A : Option Addr) (c nw bo bm mb : Nat) (x : Nat → Int) (a' : Act) (W : World) : Prop :=
  ∃ Bx, bm + 1 < Bx ∧ SrcAt W Bx x ∧ a' = { tmps := #[.slice A l.length c, .pointer (some ⟨nw, 0, none⟩), .slice none 0 0, .int .i64 0, .int .i64 0, .pointer (some ⟨bo, 0, none⟩), .pointer (some ⟨bm, 0, none⟩), .pointer (some ⟨Bx, 0, none⟩), undef, undef, undef, .slice A l.length c, .int .i64 0, .int .i64 0, .bool false, undef, .map (some mb), .slice A l.length c, .func (.func 74) #[] #[.pointer (some ⟨bm + 1, 0, none⟩)], srcV x, undef, undef, undef, undef, undef, undef, undef, undef, undef, undef, undef, undef, undef, undef, undef, undef, undef, undef, undef, undef, undef, undef, undef, undef, undef, undef, undef, undef, undef, undef], defers := [] }
set_option maxHeartbeats 1000000 in
set_option maxRecDepth 100000 in
theorem known_calls (A : Option Addr) (c : Nat) (l : List S24) (w : World) (hr : Kd.C k24 w A l.length l) (hc : l.length ≤ c) (k : Nat) (hk : stemma_Check.f k l = some 0) (h1 : 1 ≤ l.length) (h5 : l.length ≤ 5)
    (hL : ∀ i : Nat, i < l.length → (rd_T24 l (i : Int)).f0.size = (rd_T24 l 0).f0.size) (hL8 : (rd_T24 l 0).f0.size ≤ 8) (he : ∀ i : Nat, i < l.length → 0 ≤ (rd_T24 l (i : Int)).f1 ∧ (rd_T24 l (i : Int)).f1 ≤ 9) :
    Calls Try.prog 48 #[.slice A l.length c] w fun e w' => Below w.heap.size w w' ∧
      ((knownV l = [] ∧ e = .returned (.tuple #[.slice none 0 0, .int .i64 9])) ∨ (knownV l ≠ [] ∧ ∃ v, e = .returned (.tuple #[v, .int .i64 0]) ∧ w'.ownsRow w.heap.size 84 6 v (knownV l).length (lostRow A l.length c (knownV l)))) := by
  have HR := Aside0.mk hr
  have HK := Aside0.mk hk
  have HL := Aside0.mk hL
  have HE := Aside0.mk he
  have hlb := (show (w.alloc (.cells #[.slice A l.length c] 22)).heap[w.heap.size]? = some (.cells #[.slice A l.length c] 22 (0, 0)) from blk_new w _)
  have HLB := Aside0.mk hlb
  clear hr hk hL he hlb
  refine (callsIn_wide (n := 9)).1 ?_
  refine callsIn_of_wp_marks Try.func48 rfl trivial ?_ rfl
  simp only [Try.ntmps48, List.size_toArray, List.length_cons, List.length_nil, Nat.reduceAdd, Nat.reduceSub, Array.replicate_succ, Array.replicate_zero, List.push_toArray, List.append_toArray, List.nil_append, List.cons_append]
  refine wpIn_wide.2 ?_
  go_upto_region 4 with first | (go_at_call 39; refine (stemma_Check.calls k A c l 0 _ (Kd.C_below HR.out ((Below.refl _ _).alloc (Nat.le_refl _) _)) hc HK.out).mono ?_; rintro e w2 ⟨rfl, hd2⟩) | fail
  have HW2 := Aside0.mk (show w2.heap[w.heap.size]? = some (.cells #[.slice A l.length c] 22 (0, 0)) ∧ Below w.heap.size w w2 ∧ w.heap.size < w2.heap.size from ⟨blk_below HLB.out hd2, ((Below.refl _ _).alloc (Nat.le_refl _) _).trans (hd2.mono (by simp)), by have := hd2.size; simp at this; omega⟩)
  clear hd2 HLB
  go_upto_region 5 with fail
  obtain ⟨bo, hbo⟩ : ∃ b, b = w2.heap.size := ⟨_, rfl⟩
  rw [← hbo]
  refine wp_gen (fun wx => Aside0 (wx.heap[w.heap.size]? = some (.cells #[.slice A l.length c] 22 (0, 0)) ∧ Below w.heap.size w wx ∧ wx.heap[bo]? = some (.cells #[.slice none 0 0] 75 (0, 0)) ∧ bo + 1 = wx.heap.size ∧ w.heap.size < bo)) ?_ ?_
  · subst hbo
    obtain ⟨a1, a2, a3⟩ := HW2.out
    exact ⟨blk_alloc a1 _, a2.alloc a2.size _, blk_new w2 _, by simp, a3⟩
  clear hbo HW2 w2
  intro w2 HW2
  obtain ⟨mb, hmb⟩ : ∃ b, b = w2.heap.size := ⟨_, rfl⟩
  have hmk := run_makeMap (P := Try.prog) 80 w2
  rw [← hmb] at hmk
  go_upto_region 6 with fail
  rw [← hmb]
  obtain ⟨bm, hbm⟩ : ∃ b, b = mb + 1 := ⟨_, rfl⟩
  rw [← hbm]
  refine wp_gen (fun wx => Aside0 (KI l A c w bo bm mb [] wx) ∧ Aside0 (wx.heap.size = bm + 1 ∧ bm = mb + 1 ∧ mb = bo + 1 ∧ w.heap.size < bo)) ?_ ?_
  · obtain ⟨a1, a2, a3, a4, a5⟩ := HW2.out
    have m1 := MemoAt.new (P := Try.prog) 85 (MayR l) w2
    have m2 := blk_new (w2.alloc (.map #[] 0)) (.cells #[.map (some mb)] 80)
    rw [World.size_alloc] at m2
    refine ⟨⟨⟨blk_alloc (blk_alloc a1 _) _, ⟨_, blk_alloc (blk_alloc a3 _) _, World.ownsRow_nil _ _ _ _⟩, ?_, ?_, (a2.alloc a2.size _).alloc (by have := a2.size; simp; omega) _⟩⟩, ⟨by simp; omega, hbm, by omega, a5⟩⟩
    · rw [hbm, hmb]; rw [hmb] at m2; exact m2
    · rw [hmb]; exact m1.keep (Below.heap_alloc _ _ _ (by simp))
  clear hmk hmb hbm HW2 w2
  rintro w2 ⟨HI, HS⟩
  have h22 := (blk_cell HI.out.h22 0).trans (show (#[Value.slice A l.length c] : Array Value)[0]? = some _ from rfl)
  have hlt22 := blk_lt HI.out.h22
  go_upto_block 0 with first | (go_at_call 65; refine (trad_calls A l.length c _).mono ?_; rintro e w3 ⟨rfl, rfl⟩) | fail
  have HB0 := Aside0.mk (show (w2.alloc (.cells #[.slice A l.length c] 22)).heap[w2.heap.size]? = some (.cells #[.slice A l.length c] 22 (0, 0)) from blk_new w2 _)
  have HI0 := Aside0.mk (show KI l A c w bo bm mb [] (w2.alloc (.cells #[.slice A l.length c] 22)) from HI.out.it (It82.below ((Below.refl _ _).alloc (Nat.le_refl _) _)))
  have HS0 := Aside0.mk (show (w2.alloc (.cells #[.slice A l.length c] 22)).heap.size = bm + 2 by have := HS.out; simp; omega)
  have hbl : w2.heap.size = bm + 1 := HS.out.1
  rw [hbl] at HB0 ⊢
  clear h22 hlt22 HI hbl
  revert HB0 HI0 HS0
  generalize (w2.alloc (.cells #[.slice A l.length c] 22)) = W0
  intro HB0 HI0 HS0
  have HO := Aside0.mk HS.out.2
  clear HS
  go_wp2_with fail
  refine (wpIn_wide (n := 9)).1 ?_
  refine wpIn_rangeFunc_T (α := Nat → Int) rfl (by decide) (gf := 74) (lb := #[.pointer (some ⟨bm + 1, 0, none⟩)]) rfl trivial (enters_of Try.func74 (by kernel_rfl) rfl)
    (trad_seq l A c w.heap.size (bm + 1) 8 hc h5 _ HL.out hL8 W0 (Kd.C_below HR.out HI0.out.below) ?hlo HB0.out HI0.out.below.size)
    (fun h k => h.trans k) (KpT.book HI0.out.below.size) It82.others (Below.refl _ _) (fun _ => rfl)
    (fun pre W => KI l A c w bo bm mb pre W ∧ bm + 1 < W.heap.size) (OwnFrom.and (KI.ownFrom ?hmb HI0.out.below.size) (fun s A B row hs hg _ => Nat.lt_of_lt_of_le hs hg.size)) (fun s A B h hi => ⟨h.1.it hi, Nat.lt_of_lt_of_le h.2 hi.2.2.2.1⟩) ⟨HI0.out, by rw [HS0.out]; omega⟩ (AxK l A c w.heap.size bo bm mb) ?hAx ?assign ?body ?done
  case hlo =>
    rintro ad rfl hl0
    obtain ⟨ad', e0, y0, _⟩ := at_T24 HR.out 0 (by omega) (by omega)
    injection e0 with e0
    subst e0
    simp only [Int.toNat_zero, Nat.zero_mul, Addr.add_zero'] at y0
    exact World.block_lt_of_cell? w _ y0
  case hmb => have := HO.out; have := HS0.out; omega
  case hAx =>
    rintro x a' _ W W' row ⟨Bx, h1, h2, rfl⟩ hg hr
    refine ⟨Bx, h1, (hg.block Bx (blk_lt h2) (fun e => ?_)).trans h2, rfl⟩
    obtain ⟨_, o, ho, hc⟩ := hr Bx e.symm
    rw [show W.heap[Bx]? = _ from h2] at ho
    injection ho with ho
    subst ho
    simp [Obj.isCells] at hc
  case assign =>
    intro lr pre x W K hi hK
    have HKK := Aside0.mk hK
    have HII := Aside0.mk hi
    clear hK hi
    simp only [srcV]
    gi_wp2
    refine HKK.out _ _ ((KeepsOthers.alloc _ _).from _) ((KpT.refl _ _).alloc _) ⟨HII.out.1.it (It82.below ((Below.refl _ _).alloc (Nat.le_refl _) _)), by have := HII.out.2; simp; omega⟩ ⟨W.heap.size, HII.out.2, blk_new W _, rfl⟩
  case body =>
    rintro lr pre x a' W ⟨hi, hsz⟩ ⟨Bx, hBx, hSx, rfl⟩ hlen
    have HII := Aside0.mk hi
    have HSX := Aside0.mk hSx
    have h22 := (blk_cell hi.h22 0).trans (show (#[Value.slice A l.length c] : Array Value)[0]? = some _ from rfl)
    have h22l := blk_lt hi.h22
    obtain ⟨s0, s1, s2, s3, s4⟩ := hSx.cells
    have hSxl := blk_lt hSx
    have HLEN := Aside0.mk hlen
    clear hi hSx hsz hlen
    simp only [srcV]
    gi_wp2_with fail
    obtain ⟨b8, hb8⟩ : ∃ b, b = W.heap.size := ⟨_, rfl⟩
    rw [← hb8]
    refine wpIn_gen (fun wx => Aside0 (KB l A c w bo bm mb pre b8 x W0.heap.size W wx) ∧ Aside0 (bm + 1 < b8)) ?_ ?_
    · subst hb8
      exact ⟨⟨HII.out.it (It82.below ((Below.refl _ _).alloc (Nat.le_refl _) _)), blk_new W _, (KpT.refl _ _).alloc _, (KeepsOthers.alloc _ _).from _⟩, ⟨by have := blk_lt HSX.out; omega⟩⟩
    clear hb8 HSX HII h22 h22l s0 s1 s2 s3 s4 hSxl
    rintro wx ⟨HI9, H89⟩
    have hmix : Try.prog.follows Departure.mixedOrders = true := by kernel_rfl
    have h80 := (blk_cell HI9.out.1.may 0).trans (show (#[Value.map (some mb)] : Array Value)[0]? = some _ from rfl)
    have h80l := blk_lt HI9.out.1.may
    obtain ⟨x0, x1, x2, x3, x4, x5⟩ := HI9.out.2.1.cells
    have hxl := blk_lt HI9.out.2.1
    gi_cut [9, 10] from 20 (fun s9 s10 wy => Aside0 (KB l A c w bo bm mb pre b8 x W0.heap.size W wy) ∧ ∃ v b, s9 = v ∧ s10 = .bool b ∧ ((b = true ∧ MemoHas wy mb (madeV (madeB l.length x))) ∨ b = false))
    case first =>
      gi_region_with_o (first | (refine ⟨trivial, ?_⟩; gi_at_call 49; refine (CallsIn.inRound lr (callsIn_wide.2 (made_calls A c l x _ (Kd.C_below HR.out (by first | exact HI9.out.1.below | exact below_drew HI9.out.1.below)) h5))).mono ?_; rintro e w3 ⟨rfl, hB3⟩; have h80' := (hB3.cell (p := ⟨bm, 0, none⟩) h80l).trans h80; obtain ⟨vv, bb, hlook, hvv⟩ := (HI9.out.1.memo.keep (W' := w3) (hB3.block mb HI9.out.1.memo.lt)).look law85 (T := 80) (E := 4) (z := .bool false) (by kernel_rfl) (by kernel_rfl) (keyOf_made (madeB l.length x)).choose_spec; have hlk := hlook true; simp only [if_true] at hlk; clear hlook))
      all_goals gi_wp2_with fail
      all_goals
        refine Met.intro ?_
        gi_step
        (repeat apply Exists.intro)
        refine ⟨⟨⟨HI9.out.below ((below_drew (Below.refl _ _)).trans hB3)⟩, _, _, rfl, rfl, ?_⟩, rfl⟩
        rcases hvv with ⟨g1, _, g2⟩ | ⟨g1, _⟩
        · exact .inl ⟨g1, g2⟩
        · exact .inr g1
    case rest =>
      obtain ⟨HIc, v, b, rfl, rfl, hb⟩ := hcut
      clear h80 h80l x0 x1 x2 x3 x4 x5 hxl HI9
      gi_step
      gi_cut [] from 20 (fun wz => Aside0 (KB l A c w bo bm mb pre b8 x W0.heap.size W wz ∧ MemoHas wz mb (madeV (madeB l.length x))))
      case first =>
        rcases hb with ⟨rfl, hh⟩ | rfl
        · have HH := Aside0.mk hh
          clear hh
          gi_wp2_with fail
          refine Met.intro ?_
          gi_step
          (repeat apply Exists.intro)
          exact ⟨⟨HIc.out, HH.out⟩, rfl⟩
        · have h80 := (blk_cell HIc.out.1.may 0).trans (show (#[Value.map (some mb)] : Array Value)[0]? = some _ from rfl)
          have h80l := blk_lt HIc.out.1.may
          obtain ⟨x0, x1, x2, x3, x4, x5⟩ := HIc.out.2.1.cells
          have hxl := blk_lt HIc.out.2.1
          gi_wp2_with fail
          gi_region_with_o (first
            | (refine ⟨trivial, ?_⟩; gi_at_call 49; refine (CallsIn.inRound lr (callsIn_wide.2 (made_calls A c l x _ (Kd.C_below HR.out (by first | exact HIc.out.1.below | exact below_drew HIc.out.1.below)) h5))).mono ?_; rintro e w3 ⟨rfl, hB3⟩; have HW3 := Aside0.mk (HIc.out.below ((below_drew (Below.refl _ _)).trans hB3)); have h80' := (blk_cell HW3.out.1.may 0).trans (show (#[Value.map (some mb)] : Array Value)[0]? = some _ from rfl); obtain ⟨y0, y1, y2, y3, y4, y5⟩ := HW3.out.2.1.cells; clear hB3)
            | (refine ⟨trivial, ?_⟩; gi_at_call 51; refine (CallsIn.inRound lr (callsIn_wide.2 (least_calls A c l x (-1) 0 _ (Kd.C_below HR.out HW3.out.1.below) hc h1 h5 HL.out hL8 HE.out))).mono ?_; rintro e w4 ⟨rfl, hB4⟩; have HW4 := Aside0.mk (HW3.out.below hB4); have h80'' := (blk_cell HW4.out.1.may 0).trans (show (#[Value.map (some mb)] : Array Value)[0]? = some _ from rfl); obtain ⟨o, hup, hm, hh, _⟩ := HW4.out.1.memo.update (T := 80) (E := 4) (val := .bool (decide (leastV l x (-1) 0 < 1048576))) law85 (by kernel_rfl) (keyOf_made (madeB l.length x)).choose_spec ⟨x, rfl, rfl⟩; have HM := Aside0.mk hm; have HH := Aside0.mk hh; clear hm hh hB4))
          all_goals gi_wp2_with fail
          all_goals
            refine Met.intro ?_
            gi_step
            (repeat apply Exists.intro)
            exact ⟨⟨HW4.out.map (by have := HO.out; omega) (by have := HS0.out; have := HO.out; omega) _ HM.out, HH.out⟩, rfl⟩
      case rest =>
        have HIz := hcut
        clear hcut HIc
        gi_wp2_with fail
        have h80 := (blk_cell HIz.out.1.1.may 0).trans (show (#[Value.map (some mb)] : Array Value)[0]? = some _ from rfl)
        have h80l := blk_lt HIz.out.1.1.may
        obtain ⟨x0, x1, x2, x3, x4, x5⟩ := HIz.out.1.2.1.cells
        have hxl := blk_lt HIz.out.1.2.1
        gi_cut [41] from 20 (fun s41 wv => Aside0 (KB l A c w bo bm mb pre b8 x W0.heap.size W wv) ∧ s41 = .bool (liesB l x))
        case first =>
          gi_region_with_o (first | (refine ⟨trivial, ?_⟩; gi_at_call 49; refine (CallsIn.inRound lr (callsIn_wide.2 (made_calls A c l x _ (Kd.C_below HR.out (by first | exact HIz.out.1.1.below | exact below_drew HIz.out.1.1.below)) h5))).mono ?_; rintro e w3 ⟨rfl, hB3⟩; have h80' := (hB3.cell (p := ⟨bm, 0, none⟩) h80l).trans h80; obtain ⟨vv, bb, hlook, hvv⟩ := (HIz.out.1.1.memo.keep (W' := w3) (hB3.block mb HIz.out.1.1.memo.lt)).look law85 (T := 80) (E := 4) (z := .bool false) (by kernel_rfl) (by kernel_rfl) (keyOf_made (madeB l.length x)).choose_spec; have hlk := hlook false; simp only [Bool.false_eq_true, if_false] at hlk; have HV := Aside0.mk (show vv = .bool (liesB l x) from by (rcases hvv with ⟨g1, g2, _⟩ | ⟨_, _, g2⟩; exact MayR.at_key h5 g2; exact absurd (HIz.out.2.keep (hB3.block mb HIz.out.1.1.memo.lt)) g2)); clear hlook hvv))
          all_goals gi_wp2_with fail
          all_goals
            refine Met.intro ?_
            gi_step
            (repeat apply Exists.intro)
            exact ⟨⟨⟨HIz.out.1.below ((below_drew (Below.refl _ _)).trans hB3)⟩, HV.out⟩, rfl⟩
        case rest =>
          obtain ⟨HIv, rfl⟩ := hcut
          clear HIz h80 h80l x0 x1 x2 x3 x4 x5 hxl
          obtain ⟨v, h75, hown⟩ := HIv.out.1.out
          have HOWN := Aside0.mk hown
          have H75 := Aside0.mk h75
          have hc75 := (blk_cell h75 0).trans (show (#[v] : Array Value)[0]? = some v from rfl)
          have hlt75 := blk_lt h75
          have hfr75 := blk_frozen h75 0
          obtain ⟨x0, x1, x2, x3, x4, x5⟩ := HIv.out.2.1.cells
          have hxl := blk_lt HIv.out.2.1
          clear hown h75
          have hinf : (Try.prog.info? 84).map (fun i => (i.zero, i.size, i.bytes)) = some (some (.agg #[.slice none 0 0, .int .i64 0, .int .i64 0, .int .i64 0, .int .i64 0, .int .i64 0]), 6, 64) := by kernel_rfl
          obtain ⟨inf, hi0, hi1, hi2, hi3⟩ : ∃ inf, Try.prog.info? 84 = some inf ∧ inf.zero = some (.agg #[.slice none 0 0, .int .i64 0, .int .i64 0, .int .i64 0, .int .i64 0, .int .i64 0]) ∧ inf.size = 6 ∧ inf.bytes = 64 := by
            rw [Option.map_eq_some_iff] at hinf
            obtain ⟨inf, e1, e2⟩ := hinf
            injection e2 with e2 e3
            injection e3 with e3 e4
            exact ⟨inf, e1, e2, e3, e4⟩
          have HINF := Aside0.mk (show Try.prog.info? 84 = some inf ∧ inf.zero = some (.agg #[.slice none 0 0, .int .i64 0, .int .i64 0, .int .i64 0, .int .i64 0, .int .i64 0]) ∧ inf.size = 6 ∧ inf.bytes = 64 from ⟨hi0, hi1, hi2, hi3⟩)
          clear hinf hi0 hi1 hi2 hi3
          have HOW2 := Aside0.mk (fun o => show (wc.alloc o).ownsRow w.heap.size 84 6 v (pre.filter (liesB l)).length (lostRow A l.length c (pre.filter (liesB l))) from own_move HOWN.out (fun k hk => by
            obtain ⟨_, h2⟩ := own_typed HOWN.out k hk
            exact Below.heap_alloc _ _ _ (blk_lt h2)))
          have HLN := Aside0.mk (show (pre.filter (liesB l)).length ≤ 7776 from by
            have h10 := List.length_filter_le (liesB l) pre
            have h11 := treesG_len l l.length 0 (fun _ => 0) (by omega)
            have h12 : 6 ^ l.length ≤ 6 ^ 5 := Nat.pow_le_pow_right (by decide) h5
            have h13 := HLEN.out
            omega)
          by_cases hl : liesB l x = true
          · rw [hl]
            have HLT := Aside0.mk hl
            clear hl
            gi_wp2_with (first | (gi_at_builtin; refine wpListIn_append_own _ rfl _ _ 75 rfl w.heap.size 84 inf (.agg #[.slice none 0 0, .int .i64 0, .int .i64 0, .int .i64 0, .int .i64 0, .int .i64 0]) 6 64 (by kernel_rfl) HINF.out.1 HINF.out.2.1 HINF.out.2.2.1 HINF.out.2.2.2 rfl (by decide) v _ _ rfl (HOW2.out _) ⟨wc.heap.size, 0, none⟩ 1 1 (lostC A l.length c x) rfl rfl (lostC_cells A l.length c x wc) (lostC_one A l.length c x) (by have := HLN.out; unfold maxLen; omega) (by have := HLN.out; omega) (by have := HIv.out.1.below.size; simp; omega) ?_; rintro v' w5 hown5 hgr5 hnil5; obtain ⟨sb5, sn5, sc5, rfl⟩ := own_slice hown5; have HO5 := Aside0.mk hown5; have HG5 := Aside0.mk hgr5; clear hown5 hnil5; obtain ⟨hc6, hf6, hl6⟩ := app_far H75.out HOWN.out _ _ hgr5; clear hgr5))
            obtain ⟨a1, a2, a3⟩ := KB.app ⟨HIv.out.1.it (It82.below ((Below.refl _ _).alloc (Nat.le_refl _) _)), blk_alloc HIv.out.2.1 _, HIv.out.2.2.1.alloc _, HIv.out.2.2.2.trans ((KeepsOthers.alloc _ _).from _)⟩ HLT.out (by have := HO.out; omega) (blk_alloc H75.out _) (HOW2.out _) HO5.out HG5.out (by have := blk_lt HIv.out.1.may; simp; omega)
            exact ⟨a1, a2, a3, by have := H89.out; have := blk_lt HIv.out.2.1; have := HG5.out.size; simp at this; simp [World.setCell]; omega⟩
          · have hl' : liesB l x = false := by simpa using hl
            rw [hl']
            have HLF := Aside0.mk hl'
            clear hl hl'
            gi_wp2_with fail
            obtain ⟨a1, a2, a3⟩ := HIv.out.skip HLF.out
            exact ⟨a1, a2, a3, by have := H89.out; omega⟩
  case done =>
    rintro D xs W hD rfl hi hK
    have HII := Aside0.mk hi
    obtain ⟨v, h75, hown⟩ := hi.1.out
    have HOWN := Aside0.mk hown
    obtain ⟨kn, hkn⟩ : ∃ kn, knownV l = kn := ⟨_, rfl⟩
    have HKN := Aside0.mk hkn
    rw [show (treesG l l.length 0 (fun _ => 0)).filter (liesB l) = kn from hkn] at HOWN
    have hsh := HOWN.out.2
    have HB := Aside0.mk hi.1.below
    have HD := Aside0.mk hD
    have HKD := Aside0.mk hK
    clear hi hown hkn hD hK
    rcases hsh with ⟨rfl, hl0⟩ | ⟨gb, cap, cur, rfl, hgb, hhb, hle, hrest⟩
    · have hc75 := (blk_cell h75 0).trans (show (#[Value.slice none 0 0] : Array Value)[0]? = some _ from rfl)
      have HL0 := Aside0.mk hl0
      clear hl0
      go_wp2_with fail
      refine ⟨by simp, .inl ⟨_, _, rfl, run_takeDeferred HKD.out, ?_⟩⟩
      refine ⟨_, results_tmp2 rfl _ _ _, ?_, .inl ⟨?_, rfl⟩⟩
      · exact HB.out.trans (belowK_b (w := w) (Nat.le_refl _) W D _ _ (Nat.le_trans HI0.out.below.size HD.out) HKD.out rfl rfl)
      · rw [HKN.out]
        exact List.eq_nil_of_length_eq_zero HL0.out
    · have hc75 := (blk_cell h75 0).trans (show (#[Value.slice (some ⟨gb, 0, none⟩) kn.length cap] : Array Value)[0]? = some _ from rfl)
      clear hrest
      by_cases hk0 : kn.length = 0
      · go_wp2_with fail
        refine ⟨by simp, .inl ⟨_, _, rfl, run_takeDeferred HKD.out, ?_⟩⟩
        refine ⟨_, results_tmp2 rfl _ _ _, HB.out.trans (belowK_b (w := w) (Nat.le_refl _) W D _ _ (Nat.le_trans HI0.out.below.size HD.out) HKD.out rfl rfl), .inl ⟨?_, rfl⟩⟩
        rw [HKN.out]
        exact List.eq_nil_of_length_eq_zero hk0
      · go_wp2_with fail
        refine ⟨by simp, .inl ⟨_, _, rfl, run_takeDeferred HKD.out, ?_⟩⟩
        refine ⟨_, results_tmp2 rfl _ _ _, HB.out.trans (belowK_b (w := w) (Nat.le_refl _) W D _ _ (Nat.le_trans HI0.out.below.size HD.out) HKD.out rfl rfl), .inr ⟨?_, _, rfl, ?_⟩⟩
        · rw [HKN.out]
          rintro rfl
          exact hk0 rfl
        · rw [HKN.out]
          refine own_move HOWN.out fun b hb => World.putObj_heap_other (fun e => ?_)
          obtain ⟨cells, h2⟩ := own_typed HOWN.out b hb
          rw [e, HKD.out] at h2
          simp at h2
end Go.Proofs.Ytegjollhajgcdaa.P.OwnSt
namespace Go.Proofs.Ytegjollhajgcdaa.P.OwnSt
open Go.RowKit Go.Shelf Go.Proofs.YtegjollhajgcdaaW.PrintWords Go.Proofs.YtegjollhajgcdaaW.PrintLast Go.Proofs.YtegjollhajgcdaaW.PrintMore
set_option linter.unusedVariables false
set_option linter.unusedSimpArgs false
def CountAt (W : World) (g : Nat) (a b c : Int) : Prop := W.heap[g]? = some (.cells #[.int .i64 a, .int .i64 b, .int .i64 c] 120 (0, 0))
theorem grownBy_setCell (w : World) (g i : Nat) (u : Value) : w.grownBy (w.setCell ⟨g, i, none⟩ u) (some g) :=
  ⟨rfl, rfl, rfl, by simp [World.setCell], fun k _ hne => Below.heap_setCell w _ u k (fun e => hne (by rw [e]))⟩
theorem grownBy_drew {w w' : World} {r : Option Nat} (h : w.grownBy w' r) : w.grownBy w'.drew r := ⟨h.os, h.tape, h.output, h.size, h.block⟩
theorem CountAt.cells {W : World} {g : Nat} {a b c : Int} (h : CountAt W g a b c) : (W.cell? ⟨g, 0, none⟩ = some (.int .i64 a) ∧ W.cell? ⟨g, 1, none⟩ = some (.int .i64 b) ∧ W.cell? ⟨g, 2, none⟩ = some (.int .i64 c)) ∧ (W.frozen? ⟨g, 0, none⟩ = false ∧ W.frozen? ⟨g, 1, none⟩ = false ∧ W.frozen? ⟨g, 2, none⟩ = false) ∧ g < W.heap.size :=
  ⟨⟨(blk_cell h 0).trans rfl, (blk_cell h 1).trans rfl, (blk_cell h 2).trans rfl⟩, ⟨blk_frozen h 0, blk_frozen h 1, blk_frozen h 2⟩, blk_lt h⟩
theorem note_calls (g : Nat) (a b c : Int) (is : Bool) (w : World) (hg : CountAt w g a b c) (ha : 0 ≤ a ∧ a < 100000) (hb : 0 ≤ b ∧ b < 100000) :
    Calls Try.prog 72 #[.pointer (some ⟨g, 0, none⟩), .bool is] w fun e w' =>
      e = .returned (.tuple #[]) ∧ CountAt w' g (if is = true then a else a + 1) (if is = true then b + 1 else b) c ∧ w.grownBy w' (some g) := by
  have HG := Aside0.mk hg
  obtain ⟨⟨h0, h1, _⟩, ⟨f0, f1, _⟩, hl⟩ := hg.cells
  have e1 : wrap64 (a + 1) = a + 1 := by simp [wrap64]; omega
  have e2 : wrap64 (b + 1) = b + 1 := by simp [wrap64]; omega
  have HA := Aside0.mk ha
  have HB := Aside0.mk hb
  clear hg ha hb
  have hmix : Try.prog.follows Departure.mixedOrders = true := by kernel_rfl
  go_enter Try.func72, Try.ntmps72
  cases is with
  | true =>
    go_wp2_with fail
    go_region
    all_goals go_wp2_with fail
    refine bodyPost_end (results_none rfl _ _ _) rfl ⟨rfl, ?_, grownBy_drew (grownBy_setCell w g 1 (.int .i64 (b + 1)))⟩
    exact (blk_set HG.out 1 (.int .i64 (b + 1))).trans rfl
  | false =>
    go_wp2_with fail
    go_region
    all_goals go_wp2_with fail
    refine bodyPost_end (results_none rfl _ _ _) rfl ⟨rfl, ?_, grownBy_drew (grownBy_setCell w g 0 (.int .i64 (a + 1)))⟩
    exact (blk_set HG.out 0 (.int .i64 (a + 1))).trans rfl
def verdictI (so all : Nat) : Int := if so = all then 1 else if so = 0 then 2 else 3
theorem verdict_calls (so all : Nat) (w : World) (h1 : so ≤ all) (h2 : all < 100000) :
    Calls Try.prog 73 #[.agg #[.int .i64 (all - so : Nat), .int .i64 so, .int .i64 all]] w fun e w' => e = .returned (.int .i64 (verdictI so all)) ∧ Below w.heap.size w w' := by
  have HG := (show CountAt (w.alloc (.cells #[.int .i64 (all - so : Nat), .int .i64 so, .int .i64 all] 120)) w.heap.size (all - so : Nat) so all from blk_new w _)
  obtain ⟨⟨c0, c1, c2⟩, ⟨f0, f1, f2⟩, hl⟩ := HG.cells
  have HB := Aside0.mk ((Below.refl w.heap.size w).alloc (Nat.le_refl _) (.cells #[.int .i64 (all - so : Nat), .int .i64 so, .int .i64 all] 120))
  have HH := Aside0.mk (And.intro h1 h2)
  clear HG h1 h2
  by_cases e1 : (all : Int) = so
  · have h : verdictI so all = 1 := by unfold verdictI; rw [if_pos (by omega)]
    have b1 : ((all : Int) == (so : Int)) = true := beq_iff_eq.mpr e1
    clear e1
    go_enter Try.func73, Try.ntmps73
    go_wp2_with fail
    exact bodyPost_ret (results_tmp rfl _ _ _) rfl ⟨by rw [h]; rfl, HB.out⟩
  · have b1 : ((all : Int) == (so : Int)) = false := beq_false_of_ne e1
    by_cases e2 : (all : Int) = (all - so : Nat)
    · have h : verdictI so all = 2 := by have := HH.out; unfold verdictI; rw [if_neg (by omega), if_pos (by omega)]
      have b2 : ((all : Int) == ((all - so : Nat) : Int)) = true := beq_iff_eq.mpr e2
      clear e1 e2
      go_enter Try.func73, Try.ntmps73
      go_wp2_with fail
      exact bodyPost_ret (results_tmp rfl _ _ _) rfl ⟨by rw [h]; rfl, HB.out⟩
    · have h : verdictI so all = 3 := by have := HH.out; unfold verdictI; rw [if_neg (by omega), if_neg (by omega)]
      have b2 : ((all : Int) == ((all - so : Nat) : Int)) = false := beq_false_of_ne e2
      clear e1 e2
      go_enter Try.func73, Try.ntmps73
      go_wp2_with fail
      exact bodyPost_ret (results_tmp rfl _ _ _) rfl ⟨by rw [h]; rfl, HB.out⟩
theorem own_cell {w : World} {base e size n m cap g : Nat} {xs : List Value} (h : w.ownsRow base e size (.slice (some ⟨g, 0, none⟩) m cap) n xs) (k : Nat) (u : Value) (hk : xs[k]? = some u) : w.cell? ⟨g, k, none⟩ = some u ∧ g < w.heap.size := by
  rcases h.2 with ⟨e1, _⟩ | ⟨g', cap', cur, e1, hg, hh, hle, hmx, hsz, hxs⟩
  · cases e1
  · injection e1 with e1 e2 e3
    injection e1 with e1
    injection e1 with e1
    subst e1
    refine ⟨?_, blk_lt hh⟩
    rw [blk_cell hh]
    rw [← hxs, List.getElem?_take] at hk
    split at hk
    · simpa using hk
    · cases hk
theorem lostRow_get (A : Option Addr) (n c : Nat) (ss : List (Nat → Int)) : ∀ (i : Nat) (s : Nat → Int), ss[i]? = some s → ∀ q, q < 6 → (lostRow A n c ss)[i * 6 + q]? = (lostC A n c s)[q]? := by
  induction ss with
  | nil => intro i s h; simp at h
  | cons x ss ih =>
    intro i s h q hq
    have e : lostRow A n c (x :: ss) = lostC A n c x ++ lostRow A n c ss := by simp [lostRow]
    rw [e]
    cases i with
    | zero =>
      simp at h
      subst h
      rw [Nat.zero_mul, Nat.zero_add, List.getElem?_append_left (by simp [lostC]; omega)]
    | succ i =>
      rw [List.getElem?_append_right (by simp [lostC]; omega)]
      have := ih i s (by simpa using h) q hq
      rw [← this]
      congr 1
      simp [lostC]
      omega
theorem lost_cells {w W : World} {b gv cv : Nat} {A : Option Addr} {la c : Nat} {ss : List (Nat → Int)} (h : w.ownsRow b 84 6 (.slice (some ⟨gv, 0, none⟩) ss.length cv) ss.length (lostRow A la c ss)) (hb : Below w.heap.size w W) (i : Nat) (s : Nat → Int) (hs : ss[i]? = some s) :
    (W.cell? ⟨gv, i * 6, none⟩ = some (.slice A la c) ∧ W.cell? ⟨gv, i * 6 + 1, none⟩ = some (.int .i64 (s 0)) ∧ W.cell? ⟨gv, i * 6 + 2, none⟩ = some (.int .i64 (s 1)) ∧ W.cell? ⟨gv, i * 6 + 3, none⟩ = some (.int .i64 (s 2)) ∧ W.cell? ⟨gv, i * 6 + 4, none⟩ = some (.int .i64 (s 3)) ∧ W.cell? ⟨gv, i * 6 + 5, none⟩ = some (.int .i64 (s 4))) ∧ gv < W.heap.size := by
  have key : ∀ q u, q < 6 → (lostC A la c s)[q]? = some u → W.cell? ⟨gv, i * 6 + q, none⟩ = some u := fun q u hq hu => by
    obtain ⟨h1, h2⟩ := own_cell h (i * 6 + q) u ((lostRow_get A la c ss i s hs q hq).trans hu)
    exact (hb.cell h2).trans h1
  have hlt := (own_cell h (i * 6 + 0) _ ((lostRow_get A la c ss i s hs 0 (by omega)).trans rfl)).2
  exact ⟨⟨key 0 _ (by omega) rfl, key 1 _ (by omega) rfl, key 2 _ (by omega) rfl, key 3 _ (by omega) rfl, key 4 _ (by omega) rfl, key 5 _ (by omega) rfl⟩, Nat.lt_of_lt_of_le hlt hb.size⟩
theorem R_other {α : Type} {d : Kd α} {e base : Nat} {ok : Nat → Prop} {u : Value} {xs : List α} {W W' : World} (h : Kd.R d e W base ok u xs) {g t : Nat} {cs : Array Value} (hg : W.heap[g]? = some (.cells cs t (0, 0))) (ht : ∀ q ∈ e :: d.E, q ≠ t) (hgr : W.grownBy W' (some g)) : Kd.R d e W' base ok u xs :=
  Kd.R_mono (Kd.R_kept (S := fun k => k = g) (Kd.R_apart' (v := .slice (some ⟨g, 0, none⟩) 0 0) h (fun k hk => by
    have : g = k := by simpa [Value.ownBlock] using hk
    subst this
    exact ⟨cs, hg⟩) ht) (Kept.of_grown hgr (Kept.refl _ _) (fun k e => .inl (by injection e with e; exact e.symm))) (fun k hk e => hk.2 (by subst e; rfl))) (fun _ hk => hk.1)
def lostV (A : Option Addr) (n c : Nat) (s : Nat → Int) : Value := .agg #[.slice A n c, .int .i64 (s 0), .int .i64 (s 1), .int .i64 (s 2), .int .i64 (s 3), .int .i64 (s 4)]
def AskAt (id : Nat) (A : Option Addr) (la c : Nat) (ss : List (Nat → Int)) (lb : Array Value) (p : (Nat → Int) → Bool) (w : World) : Prop :=
  ∀ s ∈ ss, ∀ W, Below w.heap.size w W → Calls Try.prog id (#[lostV A la c s] ++ lb) W fun e W' => e = .returned (.bool (p s)) ∧ Below W.heap.size W W'
set_option maxHeartbeats 1000000 in
set_option maxRecDepth 100000 in
theorem verdicts_calls (id : Nat) (hen : ∀ args W, (callFunc id args).run Try.prog W = .ok (.enter id args) W) (A : Option Addr) (la c : Nat) (ss : List (Nat → Int)) (gv cv b gf cf b2 : Nat) (lbs : List (Array Value)) (ps : List ((Nat → Int) → Bool)) (w : World)
    (hl : w.ownsRow b 84 6 (.slice (some ⟨gv, 0, none⟩) ss.length cv) ss.length (lostRow A la c ss)) (hf : w.ownsRow b2 101 1 (.slice (some ⟨gf, 0, none⟩) lbs.length cf) lbs.length (lbs.map fun lb => .func (.func id) #[] lb))
    (hn : lbs.length = ps.length) (hask : ∀ (j : Nat) lb p, lbs[j]? = some lb → ps[j]? = some p → AskAt id A la c ss lb p w) (hs1 : ss.length < 10000) (hl1 : lbs.length < 100) :
    Calls Try.prog 61 #[.slice (some ⟨gv, 0, none⟩) ss.length cv, .slice (some ⟨gf, 0, none⟩) lbs.length cf] w fun e w' =>
      ∃ v, e = .returned v ∧ Kd.R (Kd.int .i64) 3 w' w.heap.size (fun k => w.heap.size ≤ k) v (ps.map fun p => verdictI (ss.countP p) ss.length) ∧ Below w.heap.size w w' := by
  have HL := Aside0.mk hl
  have HF := Aside0.mk hf
  have HA := Aside0.mk hask
  have HE := Aside0.mk hen
  have HN := Aside0.mk hn
  clear hl hf hask hen hn
  go_enter Try.func61, Try.ntmps61
  go_wp2_with fail
  go_loopg [5, 13] lbs.length (fun k s5 s13 wr => ∃ j : Nat, j + k = lbs.length ∧ s13 = .int .i64 (j : Int) ∧ Aside0 (Kd.R (Kd.int .i64) 3 wr w.heap.size (fun k => w.heap.size ≤ k) s5 ((ps.take j).map fun p => verdictI (ss.countP p) ss.length)) ∧ Aside0 (Below w.heap.size w wr))
  case atStart => exact ⟨0, by omega, rfl, ⟨Kd.R_nil _ _ _ _ _⟩, ⟨Below.refl _ _⟩⟩
  case round =>
    obtain ⟨gj, rfl⟩ : ∃ gj, gj = gk := ⟨_, rfl⟩
    obtain ⟨j, hjk, rfl, HR, HB⟩ := hrel
    have HJK := Aside0.mk hjk
    clear hjk
    by_cases hj : j < lbs.length
    · obtain ⟨lb, hlb⟩ : ∃ lb, lbs[j]? = some lb := ⟨_, List.getElem?_eq_getElem hj⟩
      obtain ⟨p, hp⟩ : ∃ p, ps[j]? = some p := ⟨_, List.getElem?_eq_getElem (by have := HN.out; omega)⟩
      have hcf := own_cell HF.out j (.func (.func id) #[] lb) (by rw [List.getElem?_map, hlb]; rfl)
      have hfj := (HB.out.cell hcf.2).trans hcf.1
      have hfl := Nat.lt_of_lt_of_le hcf.2 HB.out.size
      have HLB := Aside0.mk (HA.out j lb p hlb hp)
      have HP := Aside0.mk hp
      clear hcf hlb hp
      go_upto_region 6 with fail
      obtain ⟨b8, hb8⟩ : ∃ b8, b8 = wr.heap.size := ⟨_, rfl⟩
      rw [← hb8]
      refine wp_gen (fun wx => Aside0 (Kd.R (Kd.int .i64) 3 wx w.heap.size (fun k => w.heap.size ≤ k) u5 ((ps.take j).map fun p => verdictI (ss.countP p) ss.length)) ∧ Aside0 (Below w.heap.size w wx) ∧ Aside0 (CountAt wx b8 0 0 0) ∧ Aside0 (w.heap.size ≤ b8)) ?_ ?_
      · subst hb8
        exact ⟨⟨Kd.R_alloc HR.out _⟩, ⟨HB.out.alloc HB.out.size _⟩, ⟨blk_new wr _⟩, ⟨HB.out.size⟩⟩
      clear hb8 HR HB hfj hfl
      rintro W1 ⟨HR, HB, HC, H8⟩
      go_wp2_with fail
      go_loopg [19] ss.length (fun k s19 wr => ∃ i : Nat, i + k = ss.length ∧ s19 = .int .i64 (i : Int) ∧ Aside0 (Kd.R (Kd.int .i64) 3 wr w.heap.size (fun k => w.heap.size ≤ k) u5 ((ps.take j).map fun p => verdictI (ss.countP p) ss.length)) ∧ Aside0 (Below w.heap.size w wr) ∧ Aside0 (CountAt wr b8 ((i - (ss.take i).countP p : Nat) : Int) ((ss.take i).countP p : Nat) (i : Int)))
      case atStart => exact ⟨0, by omega, rfl, HR, HB, ⟨by simpa using HC.out⟩⟩
      case round =>
        clear HR HB HC
        obtain ⟨i, hik, rfl, HR, HB, HC⟩ := hrel
        have HIK := Aside0.mk hik
        clear hik
        by_cases hi : i < ss.length
        · obtain ⟨s, hs⟩ : ∃ s, ss[i]? = some s := ⟨_, List.getElem?_eq_getElem hi⟩
          obtain ⟨⟨y0, y1, y2, y3, y4, y5⟩, ygl⟩ := lost_cells HL.out HB.out i s hs
          have HS := Aside0.mk hs
          clear hs
          go_upto_region 9 with fail
          obtain ⟨b10, hb10⟩ : ∃ b10, b10 = wr.heap.size := ⟨_, rfl⟩
          rw [← hb10]
          refine wp_gen (fun wx => Aside0 (Kd.R (Kd.int .i64) 3 wx w.heap.size (fun k => w.heap.size ≤ k) u5 ((ps.take j).map fun p => verdictI (ss.countP p) ss.length)) ∧ Aside0 (Below w.heap.size w wx) ∧ Aside0 (CountAt wx b8 ((i - (ss.take i).countP p : Nat) : Int) ((ss.take i).countP p : Nat) (i : Int)) ∧ Aside0 (LostAt wx b10 A la c s)) ?_ ?_
          · subst hb10
            exact ⟨⟨Kd.R_alloc HR.out _⟩, ⟨HB.out.alloc HB.out.size _⟩, ⟨blk_alloc HC.out _⟩, ⟨blk_new wr _⟩⟩
          clear hb10 HR HB HC y0 y1 y2 y3 y4 y5 ygl
          rintro W2 ⟨HR, HB, HC, HX⟩
          obtain ⟨⟨c0, c1, c2⟩, ⟨f0, f1, f2⟩, hcl⟩ := HC.out.cells
          go_upto_region 10 with fail
          refine wp_gen (fun wx => Aside0 (Kd.R (Kd.int .i64) 3 wx w.heap.size (fun k => w.heap.size ≤ k) u5 ((ps.take j).map fun p => verdictI (ss.countP p) ss.length)) ∧ Aside0 (Below w.heap.size w wx) ∧ Aside0 (CountAt wx b8 ((i - (ss.take i).countP p : Nat) : Int) ((ss.take i).countP p : Nat) ((i : Int) + 1)) ∧ Aside0 (LostAt wx b10 A la c s)) ?_ ?_
          · exact ⟨⟨Kd.R_set HR.out HC.out (by decide) 2 _⟩, ⟨HB.out.setCell H8.out _⟩, ⟨(blk_set HC.out 2 _).trans rfl⟩, ⟨blk_far HX.out (fun e => blk_ne HX.out HC.out (by decide) e) _⟩⟩
          clear HR HB HC HX c0 c1 c2 f0 f1 f2 hcl W2
          rintro W2 ⟨HR, HB, HC, HX⟩
          obtain ⟨x0, x1, x2, x3, x4, x5⟩ := HX.out.cells
          have hxl := blk_lt HX.out
          have hcl := blk_lt HC.out
          have hen := HE.out
          have hcb := List.countP_le_length (p := p) (l := ss.take i)
          rw [List.length_take] at hcb
          have HCB := Aside0.mk hcb
          clear hcb
          go_wp2_with (first
            | (refine (HLB.out s (List.mem_of_getElem? HS.out) W2 HB.out).mono ?_; rintro e W3 ⟨rfl, hB3⟩; have HR3 := Aside0.mk (Kd.R_below HR.out hB3); have HB3 := Aside0.mk (HB.out.trans (hB3.mono HB.out.size)); have HC3 := Aside0.mk (show CountAt W3 b8 _ _ _ from blk_below HC.out hB3); clear hB3)
            | (go_at_call 72; refine (note_calls b8 _ _ _ (p s) W3 HC3.out (by have := HCB.out; omega) (by have := HCB.out; omega)).mono ?_; rintro e W4 ⟨rfl, hC4, hG4⟩; have HR4 := Aside0.mk (R_other HR3.out HC3.out (by decide) hG4); have HC4 := Aside0.mk hC4; have HB4 := Aside0.mk (HB3.out.grown hG4 HB3.out.size (fun k e => by injection e with e; subst e; exact H8.out)); clear hC4 hG4))
          go_roundg (gk - 1)
          case measure => have := HIK.out; omega
          case rel =>
            refine ⟨i + 1, by have := HIK.out; omega, by go_num, HR4, HB4, ⟨?_⟩⟩
            have h4 := HC4.out
            have h5 := HCB.out
            rw [List.take_add_one, HS.out, Option.toList_some, List.countP_append]
            cases hps : p s with
            | true =>
              rw [hps] at h4
              have : List.countP p [s] = 1 := by simp [hps]
              rw [this]
              rw [show ((i + 1 - (List.countP p (List.take i ss) + 1) : Nat) : Int) = ((i - List.countP p (List.take i ss) : Nat) : Int) by omega]
              exact h4
            | false =>
              rw [hps] at h4
              have : List.countP p [s] = 0 := by simp [hps]
              rw [this]
              rw [show ((i + 1 - (List.countP p (List.take i ss) + 0) : Nat) : Int) = ((i - List.countP p (List.take i ss) : Nat) : Int) + 1 by omega]
              exact h4
        · have hii : i = ss.length := by have := HIK.out; omega
          obtain ⟨⟨c0, c1, c2⟩, ⟨f0, f1, f2⟩, hcl⟩ := HC.out.cells
          have HII := Aside0.mk hii
          clear hii
          have hcb := List.countP_le_length (p := p) (l := ss.take i)
          rw [List.length_take] at hcb
          have HCB := Aside0.mk hcb
          clear hcb
          obtain ⟨so, hso⟩ : ∃ so, so = (ss.take i).countP p := ⟨_, rfl⟩
          rw [← hso] at c0 c1
          rw [← hso] at HCB
          have HSO := Aside0.mk hso
          clear hso
          obtain ⟨vd, hvd⟩ : ∃ vd, vd = verdictI so i := ⟨_, rfl⟩
          have HVD := Aside0.mk hvd
          go_wp2_with (first
            | (go_at_call 73; refine (verdict_calls so i wr (by have := HCB.out; omega) (by have := HII.out; omega)).mono ?_; rintro e W5 ⟨rfl, hB5⟩; rw [← HVD.out]; clear hvd; have HR5 := Aside0.mk (Kd.R_below HR.out hB5); have HB5 := Aside0.mk (HB.out.trans (hB5.mono HB.out.size)); clear hB5)
            | (at_builtin; refine Kd.R_append (Kd.int .i64) (w0 := w) w.heap.size rfl _ _ 25 3 (.int .i64 0) 8 rfl Try.underlying25 info3 rfl (by decide) (by omega) u5 _ vd [.int .i64 vd] (fun k_ => (w.heap.size ≤ k_)) (fun _ => False) rfl rfl ?aP (fun _ hk => hk.elim) ?aF HR5.out HB5.out HB5.out.size ?aL ?_; (case aP => exact rfl); (case aF => exact (fun k_ hk => Nat.le_trans HB5.out.size hk)); (case aL => (simp; omega)); intro v258 w17 ho hb hg hat; have HR6 := Aside0.mk ho; have HB6 := Aside0.mk hb; clear ho hb hg hat))
          go_roundg (gj - 1)
          case measure => have := HJK.out; omega
          case rel =>
            refine ⟨j + 1, by have := HJK.out; omega, by go_num, ⟨?_⟩, HB6⟩
            rw [List.take_add_one, HP.out, Option.toList_some, List.map_append]
            have h6 := HR6.out
            rw [HVD.out, HSO.out, HII.out, List.take_length] at h6
            exact h6
    · go_wp2_with fail
      refine bodyPost_ret (results_tmp rfl _ _ _) rfl ⟨_, rfl, ?_, HB.out⟩
      have h7 := HR.out
      rw [List.take_of_length_le (by have := HN.out; have := HJK.out; omega)] at h7
      exact h7
end Go.Proofs.Ytegjollhajgcdaa.P.OwnSt
namespace Go.Proofs.Ytegjollhajgcdaa.P.OwnSt
open Go.RowKit Go.Proofs.YtegjollhajgcdaaW.PrintWords Go.Proofs.YtegjollhajgcdaaW.PrintLast Go.Proofs.YtegjollhajgcdaaW.PrintMore
set_option linter.unusedVariables false
set_option linter.unusedSimpArgs false
theorem wrap64_small {x : Int} (h0 : 0 ≤ x) (h1 : x < 4611686018427387904) : wrap64 x = x := by simp [wrap64]; omega
def goodAt (b : ByteArray) (i : Nat) : Bool := decide (65 ≤ bt b i ∧ bt b i ≤ 90)
def goodText (b : ByteArray) : Bool := (List.range b.size).all (goodAt b)
def oneV (l : List S24) (x : S24) : Int :=
  if x.f0.size < 1 ∨ 8 < x.f0.size then 2 else if goodText x.f0 = false then 2 else if x.f0.size ≠ (rd_T24 l 0).f0.size then 2 else if x.f1 < 0 then 1 else if 3 < x.f1 then 1 else 0
def checkF (l : List S24) : Nat → Nat → Int
  | 0, _ => 0
  | rem + 1, i => if oneV l (rd_T24 l (i : Int)) = 0 then checkF l rem (i + 1) else oneV l (rd_T24 l (i : Int))
def checkV (l : List S24) : Int := if l.length = 0 then 7 else if 5 < l.length then 6 else checkF l l.length 0
theorem Ev.if_pos' {α : Type} {c : Prop} [Decidable c] {g f : Nat → Option α} {r : α} (hc : c) (h : Ev g r) : Ev (fun k => if c then g k else f k) r := by simpa [hc] using h
theorem Ev.if_neg' {α : Type} {c : Prop} [Decidable c] {g f : Nat → Option α} {r : α} (hc : ¬ c) (h : Ev f r) : Ev (fun k => if c then g k else f k) r := by simpa [hc] using h
theorem goodText_from {b : ByteArray} (p : Nat) (h : ∀ i, i < p → goodAt b i = true) (hp : b.size ≤ p) : goodText b = true := by
  unfold goodText
  rw [List.all_eq_true]
  intro i hi
  exact h i (by have := List.mem_range.1 hi; omega)
theorem goodText_bad {b : ByteArray} (p : Nat) (hp : p < b.size) (h : goodAt b p = false) : goodText b = false := by
  unfold goodText
  rw [← Bool.not_eq_true, List.all_eq_true]
  intro h2
  have := h2 p (List.mem_range.2 hp)
  rw [h] at this
  cases this
theorem check_l1 (l : List S24) (i : Nat) (hi : i < l.length) (hl : l.length ≤ 5) (x : S24) (h8 : x.f0.size ≤ 8) (R : Int)
    (hR : Ev (fun k => stemma_Check.l0 k l l (l.length : Int) ((i + 1 : Nat) : Int)) R) : ∀ (rem p : Nat), p + rem = x.f0.size → (∀ j, j < p → goodAt x.f0 j = true) →
    Ev (fun k => stemma_Check.l1 k l l (l.length : Int) (i : Int) (x.f0.size : Int) (p : Int) x.f0 x.f1 x.f2) (if goodText x.f0 = false then 2 else if x.f0.size ≠ (rd_T24 l 0).f0.size then 2 else if x.f1 < 0 then 1 else if 3 < x.f1 then 1 else R) := by
  intro rem
  induction rem with
  | zero =>
    intro p hp hg
    have hgt : goodText x.f0 = true := goodText_from p hg (by omega)
    refine Ev.step (fun k => by rw [stemma_Check.l1]) ?_
    refine Ev.if_neg' (by omega) (Ev.if_pos' (by omega) ?_)
    rw [if_neg (by rw [hgt]; simp)]
    by_cases hs : x.f0.size = (rd_T24 l 0).f0.size
    · refine Ev.if_pos' (by omega) ?_
      rw [if_neg (by simp [hs])]
      by_cases h0 : x.f1 < 0
      · rw [if_pos h0]
        exact Ev.if_pos' h0 (Ev.now _)
      · rw [if_neg h0]
        refine Ev.if_neg' h0 ?_
        by_cases h3 : 3 < x.f1
        · rw [if_pos h3]
          exact Ev.if_pos' h3 (Ev.now _)
        · rw [if_neg h3]
          refine Ev.if_neg' h3 ?_
          rw [wrap64_small (by omega) (by omega)]
          exact hR
    · refine Ev.if_neg' (by omega) ?_
      rw [if_pos hs]
      exact Ev.now _
  | succ rem ih =>
    intro p hp hg
    refine Ev.step (fun k => by rw [stemma_Check.l1]) ?_
    refine Ev.if_pos' (by omega) (Ev.if_pos' (by omega) (Ev.if_pos' (by omega) ?_))
    by_cases h1 : bt x.f0 p < 65
    · rw [if_pos (goodText_bad p (by omega) (by simp [goodAt]; omega))]
      exact Ev.if_pos' h1 (Ev.now _)
    · refine Ev.if_neg' h1 ?_
      by_cases h2 : bt x.f0 p > 90
      · rw [if_pos (goodText_bad p (by omega) (by simp [goodAt]; omega))]
        exact Ev.if_pos' h2 (Ev.now _)
      · refine Ev.if_neg' h2 ?_
        rw [wrap64_small (by omega) (by omega)]
        have := ih (p + 1) (by omega) (fun j hj => by
          by_cases e : j = p
          · subst e
            simp [goodAt]
            omega
          · exact hg j (by omega))
        simpa using this
theorem check_l0 (l : List S24) (hl : l.length ≤ 5) : ∀ (rem i : Nat), i + rem = l.length → Ev (fun k => stemma_Check.l0 k l l (l.length : Int) (i : Int)) (checkF l rem i) := by
  intro rem
  induction rem with
  | zero =>
    intro i hi
    refine Ev.step (fun k => by rw [stemma_Check.l0]) ?_
    exact Ev.if_neg' (by omega) (Ev.now _)
  | succ rem ih =>
    intro i hi
    have hR := ih (i + 1) (by omega)
    refine Ev.step (fun k => by rw [stemma_Check.l0]) ?_
    refine Ev.if_pos' (by omega) (Ev.if_pos' (by omega) (Ev.if_pos' (by omega) ?_))
    obtain ⟨x, hx⟩ : ∃ x, x = rd_T24 l (i : Int) := ⟨_, rfl⟩
    rw [← hx]
    unfold checkF
    rw [← hx]
    by_cases h1 : (x.f0.size : Int) < 1
    · refine Ev.if_pos' h1 ?_
      have : oneV l x = 2 := by unfold oneV; rw [if_pos (.inl (by omega))]
      rw [this, if_neg (by decide)]
      exact Ev.step (fun k => by rw [stemma_Check.j1]) (Ev.if_pos' rfl (Ev.now _))
    · refine Ev.if_neg' h1 ?_
      by_cases h8 : (x.f0.size : Int) > 8
      · have : oneV l x = 2 := by unfold oneV; rw [if_pos (.inr (by omega))]
        rw [this, if_neg (by decide), show decide ((x.f0.size : Int) > 8) = true from decide_eq_true h8]
        exact Ev.step (fun k => by rw [stemma_Check.j1]) (Ev.if_pos' rfl (Ev.now _))
      · rw [show decide ((x.f0.size : Int) > 8) = false from decide_eq_false h8]
        refine Ev.step (fun k => by rw [stemma_Check.j1]) (Ev.if_neg' (by decide) ?_)
        have h := check_l1 l i (by omega) hl x (by omega) _ hR x.f0.size 0 (by omega) (fun j hj => by omega)
        have e : (if oneV l x = 0 then checkF l rem (i + 1) else oneV l x) = (if goodText x.f0 = false then 2 else if x.f0.size ≠ (rd_T24 l 0).f0.size then 2 else if x.f1 < 0 then 1 else if 3 < x.f1 then 1 else checkF l rem (i + 1)) := by
          unfold oneV
          rw [if_neg (show ¬ (x.f0.size < 1 ∨ 8 < x.f0.size) by omega)]
          split
          · simp
          · split
            · simp
            · split
              · simp
              · split <;> simp
        rw [e]
        simpa using h
theorem check_ev (l : List S24) : Ev (fun k => stemma_Check.f k l) (checkV l) := by
  unfold stemma_Check.f checkV
  by_cases h0 : l.length = 0
  · rw [if_pos h0]
    exact Ev.if_pos' (by omega) (Ev.now _)
  · rw [if_neg h0]
    refine Ev.if_neg' (by omega) ?_
    by_cases h5 : 5 < l.length
    · rw [if_pos h5]
      exact Ev.if_pos' (by omega) (Ev.now _)
    · rw [if_neg h5]
      refine Ev.if_neg' (by omega) ?_
      simpa using check_l0 l (by omega) l.length 0 (by omega)
structure Valid (l : List S24) : Prop where
  one : 1 ≤ l.length
  five : l.length ≤ 5
  size : ∀ i : Nat, i < l.length → (rd_T24 l (i : Int)).f0.size = (rd_T24 l 0).f0.size
  low : 1 ≤ (rd_T24 l 0).f0.size
  high : (rd_T24 l 0).f0.size ≤ 8
  err : ∀ i : Nat, i < l.length → 0 ≤ (rd_T24 l (i : Int)).f1 ∧ (rd_T24 l (i : Int)).f1 ≤ 3
  good : ∀ i : Nat, i < l.length → ∀ p, p < (rd_T24 l 0).f0.size → 65 ≤ bt (rd_T24 l (i : Int)).f0 (p : Int) ∧ bt (rd_T24 l (i : Int)).f0 (p : Int) ≤ 90
theorem oneV_zero {l : List S24} {x : S24} (h : oneV l x = 0) : (1 ≤ x.f0.size ∧ x.f0.size ≤ 8) ∧ goodText x.f0 = true ∧ x.f0.size = (rd_T24 l 0).f0.size ∧ 0 ≤ x.f1 ∧ x.f1 ≤ 3 := by
  unfold oneV at h
  split at h
  · cases h
  · split at h
    · cases h
    · split at h
      · cases h
      · split at h
        · cases h
        · split at h
          · cases h
          · rename_i a b c d e
            refine ⟨by omega, by simpa using b, by simpa using c, by omega, by omega⟩
theorem checkF_zero {l : List S24} : ∀ (rem i : Nat), checkF l rem i = 0 → ∀ j, i ≤ j → j < i + rem → oneV l (rd_T24 l (j : Int)) = 0 := by
  intro rem
  induction rem with
  | zero => intro i _ j h1 h2; omega
  | succ rem ih =>
    intro i h j h1 h2
    unfold checkF at h
    split at h
    · rename_i h0
      by_cases e : j = i
      · subst e; exact h0
      · exact ih (i + 1) h j (by omega) (by omega)
    · rename_i h0
      exact absurd h h0
theorem valid_of_check {l : List S24} (h : checkV l = 0) : Valid l := by
  unfold checkV at h
  split at h
  · cases h
  · split at h
    · cases h
    · rename_i h0 h5
      have hz := fun j (hj : j < l.length) => oneV_zero (checkF_zero l.length 0 h j (by omega) (by omega))
      have hz0 := hz 0 (by omega)
      refine ⟨by omega, by omega, fun i hi => (hz i hi).2.2.1, hz0.1.1, hz0.1.2, fun i hi => (hz i hi).2.2.2, fun i hi p hp => ?_⟩
      have h2 := (hz i hi).2.1
      unfold goodText at h2
      rw [List.all_eq_true] at h2
      have h3 := h2 p (List.mem_range.2 (by rw [(hz i hi).2.2.1]; exact hp))
      simpa [goodAt] using h3
end Go.Proofs.Ytegjollhajgcdaa.P.OwnSt
namespace Go.Proofs.Ytegjollhajgcdaa.P.OwnSt
open Go.RowKit Go.Shelf Go.Proofs.YtegjollhajgcdaaW.PrintWords Go.Proofs.YtegjollhajgcdaaW.PrintLast Go.Proofs.YtegjollhajgcdaaW.PrintMore
set_option linter.unusedVariables false
set_option linter.unusedSimpArgs false
def knownE (l : List S24) : Int := if checkV l ≠ 0 then checkV l else if knownV l = [] then 9 else 0
theorem knownE_zero {l : List S24} (h : knownE l = 0) : checkV l = 0 ∧ knownV l ≠ [] := by
  unfold knownE at h
  split at h
  · rename_i h1
    exact absurd h h1
  · rename_i h1
    split at h
    · cases h
    · rename_i h2
      exact ⟨by simpa using h1, h2⟩
theorem known_len (l : List S24) (h5 : l.length ≤ 5) : (knownV l).length < 10000 := by
  have h10 := List.length_filter_le (liesB l) (treesG l l.length 0 (fun _ => 0))
  have h11 := treesG_len l l.length 0 (fun _ => 0) (by omega)
  have h12 : 6 ^ l.length ≤ 6 ^ 5 := Nat.pow_le_pow_right (by decide) h5
  unfold knownV
  omega
theorem known_ok (A : Option Addr) (c : Nat) (l : List S24) (w : World) (hr : Kd.C k24 w A l.length l) (hc : l.length ≤ c) (h : knownE l = 0) :
    Calls Try.prog 48 #[.slice A l.length c] w fun e w' => ∃ gv cv, e = .returned (.tuple #[.slice (some ⟨gv, 0, none⟩) (knownV l).length cv, .int .i64 0]) ∧ Below w.heap.size w w' ∧
      w'.ownsRow w.heap.size 84 6 (.slice (some ⟨gv, 0, none⟩) (knownV l).length cv) (knownV l).length (lostRow A l.length c (knownV l)) := by
  obtain ⟨h1, h2⟩ := knownE_zero h
  have hv := valid_of_check h1
  obtain ⟨k, hk⟩ := (check_ev l).rounds
  rw [h1] at hk
  refine (known_calls A c l w hr hc k hk hv.one hv.five hv.size hv.high (fun i hi => ⟨(hv.err i hi).1, by have := (hv.err i hi).2; omega⟩)).mono ?_
  rintro e w' ⟨hB, hcase⟩
  rcases hcase with ⟨h3, _⟩ | ⟨_, v, rfl, hown⟩
  · exact absurd h3 h2
  · rcases hown.2 with ⟨_, h3⟩ | ⟨g, cap, cur, rfl, _⟩
    · exact absurd (List.eq_nil_of_length_eq_zero h3) h2
    · exact ⟨g, cap, rfl, hB, hown⟩
set_option maxHeartbeats 1000000 in
theorem known_err (A : Option Addr) (c : Nat) (l : List S24) (w : World) (hr : Kd.C k24 w A l.length l) (hc : l.length ≤ c) (h : knownE l ≠ 0) :
    Calls Try.prog 48 #[.slice A l.length c] w fun e w' => e = .returned (.tuple #[.slice none 0 0, .int .i64 (knownE l)]) ∧ Below w.heap.size w w' := by
  obtain ⟨k, hk⟩ := (check_ev l).rounds
  by_cases h1 : checkV l = 0
  · have hv := valid_of_check h1
    rw [h1] at hk
    refine (known_calls A c l w hr hc k hk hv.one hv.five hv.size hv.high (fun i hi => ⟨(hv.err i hi).1, by have := (hv.err i hi).2; omega⟩)).mono ?_
    rintro e w' ⟨hB, hcase⟩
    rcases hcase with ⟨h3, rfl⟩ | ⟨h2, _⟩
    · refine ⟨?_, hB⟩
      unfold knownE
      rw [if_neg (by simpa using h1), if_pos h3]
    · refine absurd ?_ h
      unfold knownE
      rw [if_neg (by simpa using h1), if_neg h2]
  · obtain ⟨e0, he0⟩ : ∃ e0, e0 = checkV l := ⟨_, rfl⟩
    have hE : knownE l = e0 := by unfold knownE; rw [if_pos h1, he0]
    rw [← he0] at hk h1
    rw [hE]
    have HR := Aside0.mk hr
    have HK := Aside0.mk hk
    have b1 : (e0 != 0) = true := bne_iff_ne.2 h1
    clear hr hk h hE he0 h1
    have hlb := (show (w.alloc (.cells #[.slice A l.length c] 22)).heap[w.heap.size]? = some (.cells #[.slice A l.length c] 22 (0, 0)) from blk_new w _)
    have h22 := (blk_cell hlb 0).trans (show (#[Value.slice A l.length c] : Array Value)[0]? = some _ from rfl)
    clear hlb
    go_enter Try.func48, Try.ntmps48
    go_wp2_with (first | (go_at_call 39; refine (stemma_Check.calls k A c l e0 _ (Kd.C_below HR.out ((Below.refl _ _).alloc (Nat.le_refl _) _)) hc HK.out).mono ?_; rintro e w2 ⟨rfl, hd2⟩; have HD := Aside0.mk (((Below.refl w.heap.size w).alloc (Nat.le_refl _) (.cells #[.slice A l.length c] 22)).trans (hd2.mono (by simp))); clear hd2))
    exact bodyPost_ret (results_tmp2 rfl _ _ _) rfl ⟨rfl, HD.out⟩
theorem ask60_calls (A : Option Addr) (n c : Nat) (s : Nat → Int) (bi bf i : Nat) (f : Int) (w : World) (hi : i < 5) (hbi : w.heap[bi]? = some (.cells #[.int .i64 (i : Int)] 3 (0, 0))) (hbf : w.heap[bf]? = some (.cells #[.int .i64 f] 3 (0, 0))) :
    Calls Try.prog 60 #[lostV A n c s, .pointer (some ⟨bi, 0, none⟩), .pointer (some ⟨bf, 0, none⟩)] w fun e w' => e = .returned (.bool (s i == f)) ∧ Below w.heap.size w w' := by
  have HX := (show LostAt (w.alloc (.cells #[.slice A n c, .int .i64 (s 0), .int .i64 (s 1), .int .i64 (s 2), .int .i64 (s 3), .int .i64 (s 4)] 84)) w.heap.size A n c s from blk_new w _)
  have hx := HX.src i hi
  have hxl := blk_lt HX
  have h1 := (blk_cell (blk_alloc hbi (.cells #[.slice A n c, .int .i64 (s 0), .int .i64 (s 1), .int .i64 (s 2), .int .i64 (s 3), .int .i64 (s 4)] 84)) 0).trans (show (#[Value.int .i64 (i : Int)] : Array Value)[0]? = some _ from rfl)
  have h2 := (blk_cell (blk_alloc hbf (.cells #[.slice A n c, .int .i64 (s 0), .int .i64 (s 1), .int .i64 (s 2), .int .i64 (s 3), .int .i64 (s 4)] 84)) 0).trans (show (#[Value.int .i64 f] : Array Value)[0]? = some _ from rfl)
  have HB := Aside0.mk ((Below.refl w.heap.size w).alloc (Nat.le_refl _) (.cells #[.slice A n c, .int .i64 (s 0), .int .i64 (s 1), .int .i64 (s 2), .int .i64 (s 3), .int .i64 (s 4)] 84))
  have hmix : Try.prog.follows Departure.mixedOrders = true := by kernel_rfl
  clear HX hbi hbf
  unfold lostV
  go_enter Try.func60, Try.ntmps60
  go_wp2_with fail
  obtain ⟨b0, hb0⟩ : ∃ b0, b0 = w.heap.size := ⟨_, rfl⟩
  rw [← hb0] at hx ⊢
  refine wp_gen (fun wx => wx.cell? ⟨b0, 1 + i, none⟩ = some (.int .i64 (s i)) ∧ wx.cell? ⟨bi, 0, none⟩ = some (.int .i64 (i : Int)) ∧ wx.cell? ⟨bf, 0, none⟩ = some (.int .i64 f) ∧ Aside0 (Below w.heap.size w wx)) ⟨hx, h1, h2, HB⟩ ?_
  clear hx hxl h1 h2 HB hb0
  rintro wx ⟨hx, h1, h2, HB⟩
  go_quiet (fail)
  go_wp2_with fail
  exact bodyPost_ret (results_tmp rfl _ _ _) rfl ⟨rfl, pw_below_drewN HB.out nq⟩
def climb (s : Nat → Int) (b : Int) : Nat → Int → Int
  | 0, x => x
  | f + 1, x => if b < x then climb s b f (s x.toNat) else x
theorem climb_stop (s : Nat → Int) (b : Int) (f : Nat) (x : Int) (h : ¬ b < x) : climb s b f x = x := by
  cases f with
  | zero => rfl
  | succ f => rw [climb, if_neg h]
def dependB (s : Nat → Int) (a b : Nat) : Bool := climb s (b : Int) 5 (s a) == (b : Int)
set_option maxHeartbeats 1000000 in
theorem ask64_calls (A : Option Addr) (n c : Nat) (s : Nat → Int) (ba bb a b : Nat) (w : World) (ha : a < 5) (hs : ∀ i, i < 5 → -1 ≤ s i ∧ (s i < i ∨ s i = 0)) (ha1 : s a < a) (hba : w.heap[ba]? = some (.cells #[.int .i64 (a : Int)] 3 (0, 0))) (hbb : w.heap[bb]? = some (.cells #[.int .i64 (b : Int)] 3 (0, 0))) :
    Calls Try.prog 64 #[lostV A n c s, .pointer (some ⟨ba, 0, none⟩), .pointer (some ⟨bb, 0, none⟩)] w fun e w' => e = .returned (.bool (dependB s a b)) ∧ Below w.heap.size w w' := by
  have HX := (show LostAt (w.alloc (.cells #[.slice A n c, .int .i64 (s 0), .int .i64 (s 1), .int .i64 (s 2), .int .i64 (s 3), .int .i64 (s 4)] 84)) w.heap.size A n c s from blk_new w _)
  have h1 := (blk_cell (blk_alloc hba (.cells #[.slice A n c, .int .i64 (s 0), .int .i64 (s 1), .int .i64 (s 2), .int .i64 (s 3), .int .i64 (s 4)] 84)) 0).trans (show (#[Value.int .i64 (a : Int)] : Array Value)[0]? = some _ from rfl)
  have h2 := (blk_cell (blk_alloc hbb (.cells #[.slice A n c, .int .i64 (s 0), .int .i64 (s 1), .int .i64 (s 2), .int .i64 (s 3), .int .i64 (s 4)] 84)) 0).trans (show (#[Value.int .i64 (b : Int)] : Array Value)[0]? = some _ from rfl)
  have HX' := Aside0.mk HX
  have HB := Aside0.mk ((Below.refl w.heap.size w).alloc (Nat.le_refl _) (.cells #[.slice A n c, .int .i64 (s 0), .int .i64 (s 1), .int .i64 (s 2), .int .i64 (s 3), .int .i64 (s 4)] 84))
  have HS := Aside0.mk hs
  have hmix : Try.prog.follows Departure.mixedOrders = true := by kernel_rfl
  clear HX hba hbb hs
  unfold lostV
  go_enter Try.func64, Try.ntmps64
  go_upto_region 1 with fail
  obtain ⟨b0, hb0⟩ : ∃ b0, b0 = w.heap.size := ⟨_, rfl⟩
  rw [← hb0] at HX' ⊢
  refine wp_gen (fun wx => Aside0 (LostAt wx b0 A n c s) ∧ wx.cell? ⟨ba, 0, none⟩ = some (.int .i64 (a : Int)) ∧ wx.cell? ⟨bb, 0, none⟩ = some (.int .i64 (b : Int)) ∧ Aside0 (Below w.heap.size w wx)) ⟨HX', h1, h2, HB⟩ ?_
  clear HX' h1 h2 HB hb0
  rintro wx ⟨HX, h1, h2, HB⟩
  have hx := HX.out.src a ha
  obtain ⟨T, hT⟩ : ∃ T, T = climb s (b : Int) 5 (s a) := ⟨_, rfl⟩
  have HT := Aside0.mk hT
  have HA1 := Aside0.mk ha1
  clear hT ha1
  go_wp2_with fail
  go_loopg [5] 5 (fun k s5 wr => ∃ x : Int, s5 = .int .i64 x ∧ Aside0 (-1 ≤ x ∧ x < k ∧ x < 5 ∧ climb s (b : Int) k x = T) ∧ wr = wx)
  case atStart => exact ⟨s a, rfl, ⟨(HS.out a ha).1, by have := HA1.out; omega, by have := HA1.out; omega, HT.out.symm⟩, rfl⟩
  case round =>
    obtain ⟨x, rfl, HC, rfl⟩ := hrel
    clear hx
    by_cases hbx : (b : Int) < x
    · have hx0 : 0 ≤ x := by omega
      have hx5 : x < 5 := HC.out.2.2.1
      have hy := HX.out.src x.toNat (by omega)
      go_wp2_with fail
      go_roundg (gk - 1)
      case measure => have := HC.out; omega
      case rel =>
        have hc := HC.out
        have h6 := HS.out x.toNat (by omega)
        refine ⟨s x.toNat, rfl, ⟨h6.1, by omega, by omega, ?_⟩, rfl⟩
        obtain ⟨m, hm⟩ : ∃ m, gk = m + 1 := ⟨gk - 1, by omega⟩
        rw [hm] at hc ⊢
        have h7 := hc.2.2.2
        rw [climb, if_pos hbx] at h7
        simpa using h7
    · have hst := climb_stop s (b : Int) gk x hbx
      have HST := Aside0.mk hst
      clear hst
      go_wp2_with fail
      refine bodyPost_ret (results_tmp rfl _ _ _) rfl ⟨?_, HB.out⟩
      unfold dependB
      rw [← HT.out, ← HC.out.2.2.2, HST.out]
      rfl
end Go.Proofs.Ytegjollhajgcdaa.P.OwnSt
namespace Go.Proofs.Ytegjollhajgcdaa.P.OwnSt
open Go.RowKit Go.Shelf Go.Proofs.YtegjollhajgcdaaW.PrintWords Go.Proofs.YtegjollhajgcdaaW.PrintLast Go.Proofs.YtegjollhajgcdaaW.PrintMore
set_option linter.unusedVariables false
set_option linter.unusedSimpArgs false
def srcP (i j : Nat) (s : Nat → Int) : Bool := s i == (j : Int) - 1
def srcRow (l : List S24) (i : Nat) : List Int := (List.range (i + 1)).map fun j => verdictI ((knownV l).countP (srcP i j)) (knownV l).length
def sourcesV (l : List S24) : List (List Int) × Int := if knownE l = 0 then ((List.range l.length).map (srcRow l), 0) else ([], knownE l)
theorem inf101 : ∃ inf, Try.prog.info? 101 = some inf ∧ inf.zero = some .nilFunc ∧ inf.size = 1 ∧ inf.bytes = 8 := by
  have hinf : (Try.prog.info? 101).map (fun i => (i.zero, i.size, i.bytes)) = some (some .nilFunc, 1, 8) := by kernel_rfl
  rw [Option.map_eq_some_iff] at hinf
  obtain ⟨inf, e1, e2⟩ := hinf
  injection e2 with e2 e3
  injection e3 with e3 e4
  exact ⟨inf, e1, e2, e3, e4⟩
def askV (bi b : Nat) : Value := .func (.func 60) #[] #[.pointer (some ⟨bi, 0, none⟩), .pointer (some ⟨b, 0, none⟩)]
structure SQ (l : List S24) (W1 : World) (i bi : Nat) (out asks : Value) (bs : List Nat) (bf : Nat) (W : World) : Prop where
  box : W.heap[bf]? = some (.cells #[.int .i64 ((bs.length : Int) - 1)] 3 (0, 0))
  own : W.heap[bi]? = some (.cells #[.int .i64 (i : Int)] 3 (0, 0))
  boxes : ∀ (q b : Nat), bs[q]? = some b → W.heap[b]? = some (.cells #[.int .i64 ((q : Int) - 1)] 3 (0, 0))
  arow : W.ownsRow W1.heap.size 101 1 asks bs.length (bs.map (askV bi))
  orow : Kd.N (Kd.slice 3 (Kd.int .i64)) 25 W W1.heap.size (fun k => W1.heap.size ≤ k ∧ some k ≠ asks.ownBlock) out ((List.range i).map (srcRow l))
  below : Below W1.heap.size W1 W
theorem SQ.step {l : List S24} {W1 : World} {i bi : Nat} {out asks : Value} {bs : List Nat} {bf : Nat} {W W' : World} (h : SQ l W1 i bi out asks bs bf W) (hb : Below W.heap.size W W') : SQ l W1 i bi out asks bs bf W' :=
  ⟨blk_below h.box hb, blk_below h.own hb, fun q b hq => blk_below (h.boxes q b hq) hb, own_move h.arow (fun k hk => by
    obtain ⟨cells, hc⟩ := own_typed h.arow k hk
    exact hb.block k (blk_lt hc)), Kd.N_below h.orow hb, h.below.trans (hb.mono h.below.size)⟩
theorem SQ.add {l : List S24} {W1 : World} {i bi : Nat} {out asks asks' : Value} {bs : List Nat} {bf : Nat} {W W' : World} (h : SQ l W1 i bi out asks bs bf W) (ho : W'.ownsRow W1.heap.size 101 1 asks' (bs.length + 1) (bs.map (askV bi) ++ [askV bi bf])) (hg : W.grownBy W' asks.ownBlock) (hat : asks'.ownBlock = asks.ownBlock ∨ asks'.ownBlock = some W.heap.size) {b' : Nat} (hb' : W'.heap.size = b') :
    SQ l W1 i bi out asks' (bs ++ [bf]) b' (W'.alloc (.cells #[.int .i64 (bs.length : Int)] 3)) := by
  have hk : ∀ {b : Nat} {v : Value}, W.heap[b]? = some (.cells #[v] 3 (0, 0)) → W'.heap[b]? = some (.cells #[v] 3 (0, 0)) := fun {b} {v} hb => blk_grown hb hg (fun e => by
    obtain ⟨_, h2⟩ := own_typed h.arow b e.symm
    exact blk_ne hb h2 (by decide) rfl)
  subst hb'
  refine ⟨?_, blk_alloc (hk h.own) _, fun q b hq => ?_, ?_, Kd.N_alloc (Kd.N_afterv h.orow hg (hat.imp id fun e => ⟨_, e, Nat.le_refl _⟩)) _, ?_⟩
  · rw [List.length_append, List.length_singleton, show (((bs.length + 1 : Nat) : Int) - 1) = (bs.length : Int) by omega]
    exact blk_new W' _
  · by_cases hq' : q < bs.length
    · rw [List.getElem?_append_left hq'] at hq
      exact blk_alloc (hk (h.boxes q b hq)) _
    · rw [List.getElem?_append_right (by omega)] at hq
      have : q - bs.length = 0 := by
        by_cases e : q - bs.length = 0
        · exact e
        · rw [List.getElem?_eq_none (by simp; omega)] at hq
          cases hq
      rw [this] at hq
      simp at hq
      subst hq
      have hqq : q = bs.length := by omega
      subst hqq
      exact blk_alloc (hk h.box) _
  · rw [List.length_append, List.map_append]
    exact ho.alloc _
  · exact (h.below.grown hg h.below.size (fun k e => own_base h.arow k e)).alloc (Nat.le_trans h.below.size hg.size) _
theorem SQ.far {l : List S24} {W1 : World} {i bi : Nat} {out asks : Value} {bs : List Nat} {bf : Nat} {W W' : World} (h : SQ l W1 i bi out asks bs bf W) (hg : W.grownBy W' asks.ownBlock) : W'.heap[bf]? = some (.cells #[.int .i64 ((bs.length : Int) - 1)] 3 (0, 0)) :=
  blk_grown h.box hg (fun e => by
    obtain ⟨_, h2⟩ := own_typed h.arow bf e.symm
    exact blk_ne h.box h2 (by decide) rfl)
theorem askV_cells (bi bf : Nat) (w : World) : ∀ (j : Nat) (u : Value), [askV bi bf][j]? = some u → (w.alloc (.cells #[.func (.func 60) #[] #[.pointer (some ⟨bi, 0, none⟩), .pointer (some ⟨bf, 0, none⟩)]] 101)).cell? ((⟨w.heap.size, 0, none⟩ : Addr).add j) = some u := by
  intro j u hj
  rw [show ((⟨w.heap.size, 0, none⟩ : Addr).add j) = ⟨w.heap.size, j, none⟩ from by simp [Addr.add]; intro h; exact h.symm, blk_cell (blk_new w _)]
  rw [← hj]
  simp only [askV, List.getElem?_toArray]
theorem fk_row {W : World} {b m n c7 : Nat} {ok okp : Nat → Prop} {A7 : Option Addr} {row : List Int} (hn : n = row.length) (h : Kd.R (Kd.int .i64) 3 W b ok (.slice A7 m c7) row) (hok : ∀ k, ok k → okp k) : (Kd.slice 3 (Kd.int .i64)).FK W okp row [.slice A7 n c7] := by
  have h1 := Kd.R_reads' h
  subst hn
  have h2 := h1.1
  subst h2
  exact Kd.FK_slice_mk h1.2.1 (Kd.R_F (Kd.R_mono h hok))
set_option maxHeartbeats 2000000 in
set_option maxRecDepth 100000 in
theorem sources_calls (A : Option Addr) (c : Nat) (l : List S24) (w : World) (hr : Kd.C k24 w A l.length l) (hc : l.length ≤ c) :
    Calls Try.prog 30 #[.slice A l.length c] w fun e w' => ∃ v, e = .returned (.tuple #[v, .int .i64 (sourcesV l).2]) ∧ Kd.N (Kd.slice 3 (Kd.int .i64)) 25 w' w.heap.size (fun k => w.heap.size ≤ k) v (sourcesV l).1 ∧ Below w.heap.size w w' := by
  by_cases hk : knownE l = 0
  · have hV : sourcesV l = ((List.range l.length).map (srcRow l), 0) := by unfold sourcesV; rw [if_pos hk]
    rw [hV]
    have HR := Aside0.mk hr
    have HK := Aside0.mk hk
    have h5 := (valid_of_check (knownE_zero hk).1).five
    have HKL := Aside0.mk (known_len l h5)
    clear hr hk hV
    go_enter Try.func30, Try.ntmps30
    go_upto_region 4 with (first | (go_at_call 48; refine (known_ok A c l w HR.out hc HK.out).mono ?_; rintro e w2 ⟨gv, cv, rfl, hB, hown⟩; have HB := Aside0.mk hB; have HOWN := Aside0.mk hown; clear hB hown))
    obtain ⟨W1, hW1⟩ : ∃ W1, W1 = w2 := ⟨_, rfl⟩
    rw [← hW1] at HB HOWN ⊢
    clear hW1 w2
    go_wp2_with fail
    go_loopg [6, 20] l.length (fun k s6 s20 wr => ∃ i : Nat, i + k = l.length ∧ s20 = .int .i64 (i : Int) ∧ Aside0 (Kd.N (Kd.slice 3 (Kd.int .i64)) 25 wr W1.heap.size (fun k => W1.heap.size ≤ k) s6 ((List.range i).map (srcRow l))) ∧ Aside0 (Below W1.heap.size W1 wr))
    case atStart => exact ⟨0, by omega, rfl, ⟨Kd.N_nil _ _ _ _ _⟩, ⟨Below.refl _ _⟩⟩
    case round =>
      obtain ⟨gj, rfl⟩ : ∃ gj, gj = gk := ⟨_, rfl⟩
      obtain ⟨i, hik, rfl, HN, HB1⟩ := hrel
      have HIK := Aside0.mk hik
      clear hik
      by_cases hi : i < l.length
      · go_upto_region 8 with fail
        obtain ⟨bi, hbi⟩ : ∃ bi, bi = wr.heap.size := ⟨_, rfl⟩
        rw [← hbi]
        refine wp_gen (fun wx => Aside0 (Kd.N (Kd.slice 3 (Kd.int .i64)) 25 wx W1.heap.size (fun k => W1.heap.size ≤ k) u6 ((List.range i).map (srcRow l)) ∧ Below W1.heap.size W1 wx ∧ wx.heap[bi]? = some (.cells #[.int .i64 (i : Int)] 3 (0, 0))) ∧ wx.heap.size = bi + 1) ?_ ?_
        · subst hbi
          exact ⟨⟨Kd.N_alloc HN.out _, HB1.out.alloc HB1.out.size _, blk_new wr _⟩, by simp⟩
        clear hbi HN HB1
        rintro W2 ⟨HH, hsz⟩
        go_upto_block 2 with fail
        obtain ⟨bf0, hbf0⟩ : ∃ bf0, bf0 = bi + 1 := ⟨_, rfl⟩
        rw [← hbf0]
        refine wp_gen (fun wx => Aside0 (SQ l W1 i bi u6 (.slice none 0 0) [] bf0 wx)) ?_ ?_
        · refine ⟨⟨?_, blk_alloc HH.out.2.2 _, fun q b hq => by simp at hq, World.ownsRow_nil _ _ _ _, Kd.N_apart_nil (Kd.N_alloc HH.out.1 _), HH.out.2.1.alloc HH.out.2.1.size _⟩⟩
          rw [hbf0, ← hsz]
          exact blk_new W2 _
        clear HH hsz hbf0 W2
        intro W2 HQ
        go_wp2_with fail
        go_loopg [8, 9] (i + 1) (fun k s8 s9 wr => ∃ (bs : List Nat) (bf : Nat), bs.length + k = i + 1 ∧ s9 = .pointer (some ⟨bf, 0, none⟩) ∧ Aside0 (SQ l W1 i bi u6 s8 bs bf wr))
        case atStart => exact ⟨[], bf0, by simp, rfl, HQ⟩
        case round =>
          clear HQ
          obtain ⟨bs, bf, hbk, rfl, HQ⟩ := hrel
          obtain ⟨j, hj⟩ : ∃ j, j = bs.length := ⟨_, rfl⟩
          have HBK := Aside0.mk hbk
          have HJ := Aside0.mk hj
          have c1 := (blk_cell HQ.out.box 0).trans (show (#[Value.int .i64 ((bs.length : Int) - 1)] : Array Value)[0]? = some _ from rfl)
          rw [← hj] at c1
          have c2 := (blk_cell HQ.out.own 0).trans (show (#[Value.int .i64 (i : Int)] : Array Value)[0]? = some _ from rfl)
          clear hbk hj
          by_cases hjl : (j : Int) - 1 < (i : Int)
          · obtain ⟨inf, hinf⟩ := inf101
            have HINF := Aside0.mk hinf
            clear hinf
            go_upto_region 13 with (first | (at_builtin; refine wpList_append_own_at _ rfl _ _ 100 rfl W1.heap.size 101 inf .nilFunc 1 8 (by kernel_rfl) HINF.out.1 HINF.out.2.1 HINF.out.2.2.1 HINF.out.2.2.2 rfl (by decide) u8 _ _ rfl ((HQ.out.step ((Below.refl _ _).alloc (Nat.le_refl _) _)).arow) ⟨wr.heap.size, 0, none⟩ 1 1 [askV bi bf] rfl rfl ?cc ?c1 ?c2 ?c3 ?c4 ?_; (case cc => exact askV_cells bi bf wr); (case c1 => (intro u hu; simp at hu; subst hu; rfl)); (case c2 => (have := HBK.out; unfold maxLen; omega)); (case c3 => (have := HBK.out; omega)); (case c4 => (have := HQ.out.below.size; simp; omega)); intro v5 w5 hown5 hgr5 hnil5 hat5; clear hnil5; have HO5 := Aside0.mk hown5; have HG5 := Aside0.mk hgr5; have HA5 := Aside0.mk hat5; clear hown5 hgr5 hat5))
            have HS5 := Aside0.mk ((HQ.out.step ((Below.refl _ _).alloc (Nat.le_refl _) _)).add HO5.out HG5.out HA5.out rfl)
            have d1 := (blk_cell ((HQ.out.step ((Below.refl _ _).alloc (Nat.le_refl _) _)).far HG5.out) 0).trans (show (#[Value.int .i64 ((bs.length : Int) - 1)] : Array Value)[0]? = some _ from rfl)
            rw [← HJ.out] at d1
            clear HO5 HG5 HA5 c1 c2
            go_wp2_with fail
            go_roundg (gk - 1)
            case measure => have := HBK.out; have := HJ.out; omega
            case rel =>
              refine ⟨bs ++ [bf], w5.heap.size, by have := HBK.out; have := HJ.out; simp; omega, rfl, ⟨?_⟩⟩
              rw [HJ.out]
              exact HS5.out
          · have hji : j = i + 1 := by have := HBK.out; have := HJ.out; omega
            obtain ⟨gf, cf, rfl⟩ : ∃ gf cf, u8 = .slice (some ⟨gf, 0, none⟩) bs.length cf := by
              rcases HQ.out.arow.2 with ⟨_, h0⟩ | ⟨g, cap, cur, e, _⟩
              · have := HJ.out; omega
              · exact ⟨g, cap, e⟩
            have hvc := verdicts_calls 60 (enters_of Try.func60 (by kernel_rfl) rfl) A l.length c (knownV l) gv cv w.heap.size gf cf W1.heap.size (bs.map fun b => #[.pointer (some ⟨bi, 0, none⟩), .pointer (some ⟨b, 0, none⟩)]) ((List.range (i + 1)).map fun j => srcP i j) wr
              (own_move HOWN.out (fun k hk => by
                obtain ⟨_, h2⟩ := own_typed HOWN.out k hk
                exact HQ.out.below.block k (blk_lt h2))) (by
                have h3 := HQ.out.arow
                rw [List.map_map, List.length_map]
                exact h3) (by have := HJ.out; simp; omega) (by
                intro j' lb p hlb hp s hs W' hW'
                rw [List.getElem?_map] at hlb hp
                rw [Option.map_eq_some_iff] at hlb hp
                obtain ⟨b, hb, rfl⟩ := hlb
                obtain ⟨j2, hj2, rfl⟩ := hp
                have hj3 : j2 = j' := by
                  rw [List.getElem?_range] at hj2
                  · injection hj2 with hj2
                    exact hj2.symm
                  · by_cases e : j' < i + 1
                    · exact e
                    · rw [List.getElem?_eq_none (by simp; omega)] at hj2
                      cases hj2
                subst hj3
                have h60 := ask60_calls A l.length c s bi b i ((j2 : Int) - 1) W' (by omega) (blk_below HQ.out.own hW') (blk_below (HQ.out.boxes j2 b hb) hW')
                simpa [srcP] using h60) HKL.out (by have := HJ.out; simp; omega)
            rw [List.length_map, List.map_map] at hvc
            have HVC := Aside0.mk hvc
            have HSR := Aside0.mk (show i + 1 = (srcRow l i).length by simp [srcRow])
            clear hvc hji
            go_wp2_with (first
              | (go_at_call 61; refine HVC.out.mono ?_; rintro e w7 ⟨v7, rfl, hR7, hB7⟩; obtain ⟨A7, c7, rfl⟩ := Kd.R_slice hR7; have HR7 := Aside0.mk (show Kd.R (Kd.int .i64) 3 w7 wr.heap.size (fun k => wr.heap.size ≤ k) _ (srcRow l i) from hR7); have HB7 := Aside0.mk hB7; clear hR7 hB7)
              | (at_builtin; refine Kd.N_append (Kd.slice 3 (Kd.int .i64)) (w0 := W1) W1.heap.size rfl _ _ 53 25 (.slice none 0 0) 24 rfl (by kernel_rfl) info25 rfl (by decide) (by omega) u6 _ (srcRow l i) [.slice A7 _ c7] (fun k => W1.heap.size ≤ k) (fun k => (W1.heap.size ≤ k) ∧ some k ≠ (u6 : Value).ownBlock) rfl rfl ?aP (fun _ hk => hk) ?aF (Kd.N_below (Kd.N_mono HQ.out.orow (fun _ hk => hk.1)) HB7.out) (HQ.out.below.trans (HB7.out.mono HQ.out.below.size)) (Nat.le_trans HQ.out.below.size HB7.out.size) ?aL ?_; (case aP => exact fk_row HSR.out HR7.out (fun k hk => ⟨Nat.le_trans HQ.out.below.size hk, Kd.fresh' (Kd.N_lt HQ.out.orow) k hk⟩)); (case aF => exact fun k hk => Nat.le_trans (Nat.le_trans HQ.out.below.size HB7.out.size) hk); (case aL => (simp; omega)); intro v8 w8 hN8 hB8 hg8 hat8; have HN8 := Aside0.mk hN8; have HB8 := Aside0.mk hB8; clear hN8 hB8 hg8 hat8))
            go_roundg (gj - 1)
            case measure => have := HIK.out; omega
            case rel =>
              refine ⟨i + 1, by have := HIK.out; omega, by go_num, ⟨?_⟩, HB8⟩
              rw [List.range_succ, List.map_append]
              exact HN8.out
      · go_wp2_with fail
        refine bodyPost_ret (results_tmp2 rfl _ _ _) rfl ⟨_, rfl, ?_, HB.out.trans (HB1.out.mono HB.out.size)⟩
        have h7 := HN.out
        rw [show i = l.length by have := HIK.out; omega] at h7
        exact Kd.N_mono (Kd.N_lower h7 HB.out.size) (fun k hk => Nat.le_trans HB.out.size hk)
  · have hV : sourcesV l = ([], knownE l) := by unfold sourcesV; rw [if_neg hk]
    rw [hV]
    obtain ⟨e0, he0⟩ : ∃ e0, e0 = knownE l := ⟨_, rfl⟩
    have HR := Aside0.mk hr
    have HK := Aside0.mk hk
    have HE := Aside0.mk he0
    have b1 : (e0 != 0) = true := bne_iff_ne.2 (by rw [he0]; exact hk)
    rw [← he0]
    clear hr hk hV he0
    go_enter Try.func30, Try.ntmps30
    go_wp2_with (first | (go_at_call 48; refine (known_err A c l w HR.out hc HK.out).mono ?_; rintro e w2 ⟨rfl, hB⟩; rw [← HE.out]; have HB := Aside0.mk hB; clear hB))
    exact bodyPost_ret (results_tmp2 rfl _ _ _) rfl ⟨_, rfl, Kd.N_nil _ _ _ _ _, HB.out⟩
end Go.Proofs.Ytegjollhajgcdaa.P.OwnSt
namespace Go.Proofs.Ytegjollhajgcdaa.P
open Go.RowKit Go.Proofs.YtegjollhajgcdaaW.PrintWords Go.Proofs.YtegjollhajgcdaaW.PrintLast Go.Proofs.YtegjollhajgcdaaW.PrintMore
attribute [local go_sem] max2_int min2_int max_two min_two max_three min_three max_four min_four   -- for this text's walks alone
set_option linter.unusedVariables false
set_option linter.unusedSimpArgs false
def stemma_Sources.f (k : Nat) (l0 : List (S24)) : Option ((List (List Int)) × Int) := some (OwnSt.sourcesV l0)
theorem stemma_Sources.mono : ∀ a0 k, LeO (stemma_Sources.f k a0) (stemma_Sources.f (k + 1) a0) := by intros; exact LeO.refl _
theorem stemma_Sources.calls (k : Nat) (A0 : Option Addr) (c0 : Nat) (l0 : List (S24)) (r1 : List (List Int)) (r2 : Int) (w : World) (hr0 : Kd.C k24 w A0 l0.length l0) (hc0 : l0.length ≤ c0) (h : stemma_Sources.f k l0 = some (r1, r2)) :
    Calls Try.prog 30 #[.slice A0 l0.length c0] w fun e w' => ∃ v0_ : Value, e = .returned (.tuple #[v0_, .int .i64 r2]) ∧ Kd.N (Kd.slice 3 (Kd.int .i64)) 25 w' w.heap.size (fun k_ => (w.heap.size ≤ k_)) v0_ r1 ∧ Below w.heap.size w w' := by
  have h2 := OwnSt.sources_calls A0 c0 l0 w hr0 hc0; rw [show OwnSt.sourcesV l0 = (r1, r2) from Option.some.inj h] at h2; exact h2
end Go.Proofs.Ytegjollhajgcdaa.P
namespace Go.Proofs.Ytegjollhajgcdaa.P
open Go.RowKit Go.Proofs.YtegjollhajgcdaaW.PrintWords Go.Proofs.YtegjollhajgcdaaW.PrintLast Go.Proofs.YtegjollhajgcdaaW.PrintMore
attribute [local go_sem] max2_int min2_int max_two min_two max_three min_three max_four min_four   -- for this text's walks alone
set_option linter.unusedVariables false
set_option linter.unusedSimpArgs false
def cippuskit_SameInts.l0 : Nat → List Int → List Int → Bool → Int → Option (Bool)
  | 0, _, _, _, _ => none
  | k + 1, x0, x1, x5, x6 => if x5 = true then (if x6 < (x0.length : Int) then (if 0 ≤ x6 then (if x6 < (x1.length : Int) then (cippuskit_SameInts.l0 k x0 x1 ((rd x0 x6) == (rd x1 x6)) (wrap64 (x6 + 1))) else (none)) else (none)) else (some x5)) else (some x5)
def cippuskit_SameInts.f (k : Nat) (l0 : List Int) (l1 : List Int) : Option (Bool) := cippuskit_SameInts.l0 k l0 l1 ((l0.length : Int) == (l1.length : Int)) 0
theorem cippuskit_SameInts.mono_l : ∀ k, (∀ y0 y1 y2 y3, LeO (cippuskit_SameInts.l0 k y0 y1 y2 y3) (cippuskit_SameInts.l0 (k + 1) y0 y1 y2 y3))
  | 0 => fun _ _ _ _ r h => by simp [cippuskit_SameInts.l0] at h
  | k + 1 => by
    have ih0 := cippuskit_SameInts.mono_l k
    · intro y0 y1 y2 y3
      unfold cippuskit_SameInts.l0
      repeat' first
      | (with_reducible exact ih0 _ _ _ _)
      | (with_reducible exact LeO.refl _)
      | (with_reducible exact LeO.none _)
      | (with_reducible refine LeO.ite ?_ ?_)
      | (with_reducible refine LeO.bind ?_ (fun _ => ?_))
      | exact ih0 _ _ _ _
      | exact LeO.none _
      | refine LeO.ite ?_ ?_
      | refine LeO.bind ?_ (fun _ => ?_)
theorem cippuskit_SameInts.mono : ∀ a0 a1 k, LeO (cippuskit_SameInts.f k a0 a1) (cippuskit_SameInts.f (k + 1) a0 a1) := by
  intro a0 a1 k
  have ih0 := cippuskit_SameInts.mono_l k
  unfold cippuskit_SameInts.f
  repeat' first
      | (with_reducible exact ih0 _ _ _ _)
      | (with_reducible exact LeO.refl _)
      | (with_reducible exact LeO.none _)
      | (with_reducible refine LeO.ite ?_ ?_)
      | (with_reducible refine LeO.bind ?_ (fun _ => ?_))
      | exact ih0 _ _ _ _
      | exact LeO.none _
      | refine LeO.ite ?_ ?_
      | refine LeO.bind ?_ (fun _ => ?_)
set_option maxHeartbeats 8000000 in
set_option maxRecDepth 100000 in
theorem cippuskit_SameInts.calls (k : Nat) (A0 : Option Addr) (c0 : Nat) (l0 : List Int) (A1 : Option Addr) (c1 : Nat) (l1 : List Int) (r : Bool) (w : World) (hr0 : Kd.C (Kd.int .i64) w A0 l0.length l0) (hc0 : l0.length ≤ c0) (hr1 : Kd.C (Kd.int .i64) w A1 l1.length l1) (hc1 : l1.length ≤ c1) (h : cippuskit_SameInts.f k l0 l1 = some r) :
    Calls Try.prog 62 #[.slice A0 l0.length c0, .slice A1 l1.length c1] w fun e w' => e = .returned (.bool r) ∧ Drawn0 w w' := by
  have HR0 := Aside0.mk hr0
  have HC0 := Aside0.mk hc0
  clear hr0 hc0
  have HR1 := Aside0.mk hr1
  have HC1 := Aside0.mk hc1
  clear hr1 hc1
  have H : (cippuskit_SameInts.l0 k l0 l1 ((l0.length : Int) == (l1.length : Int)) 0) = some r := h
  clear h
  have H' := Aside0.mk H
  clear H
  go_enter Try.func62, Try.ntmps62
  go_wp2
  repeat (go_quiet (fail); try go_wp2)
  go_loopg [5, 6] k (fun kq v5 v6 w' => ∃ (x5_1 : Bool) (x6_1 : Int), v5 = .bool x5_1 ∧ v6 = .int .i64 x6_1 ∧ Aside0 (cippuskit_SameInts.l0 kq l0 l1 x5_1 x6_1 = some r) ∧ Aside0 (kq ≤ k) ∧ Drawn0 w w')
  case atStart => exact ⟨(((l0.length : Int) == (l1.length : Int))), (0), (by first | rfl | (simp; done) | (simp [*]; done)), (by first | rfl | (simp; done) | (simp [*]; done)), H', ⟨Nat.le_refl _⟩, by repeat (first | exact Drawn0.refl _ | apply Drawn0.step)⟩
  case round =>
    clear H'
    try clear c1
    try clear p2
    obtain ⟨x5_1, x6_1, rfl, rfl, HA, HK1, ⟨m1, rfl⟩⟩ := hrel
    cases gk with
    | zero => exact absurd HA.out (by simp [cippuskit_SameInts.l0])
    | succ k1 =>
      have H := HA.out
      clear HA
      simp only [cippuskit_SameInts.l0] at H
      by_cases c3 : x5_1 = true
      · subst c3
        have H1 : (if x6_1 < (l0.length : Int) then (if 0 ≤ x6_1 then (if x6_1 < (l1.length : Int) then (cippuskit_SameInts.l0 k1 l0 l1 ((rd l0 x6_1) == (rd l1 x6_1)) (wrap64 (x6_1 + 1))) else (none)) else (none)) else (some true)) = some r := by rw [if_pos rfl] at H; exact H
        clear H
        have H := H1
        clear H1
        by_cases c4 : x6_1 < (l0.length : Int)
        · rw [if_pos c4] at H
          have c4b0 : decide (x6_1 < (l0.length : Int)) = true := decide_eq_true c4
          clear c4
          by_cases c5 : 0 ≤ x6_1
          · rw [if_pos c5] at H
            have c5b0 : decide (0 ≤ x6_1) = true := decide_eq_true c5
            clear c5
            by_cases c6 : x6_1 < (l1.length : Int)
            · rw [if_pos c6] at H
              have c6b0 : decide (x6_1 < (l1.length : Int)) = true := decide_eq_true c6
              clear c6
              have H' := Aside0.mk H
              clear H
              have p260 : 0 ≤ (x6_1 : Int) := of_decide_eq_true (by first | (with_reducible assumption) | assumption)
              have q260 : x6_1 < (l0.length : Int) := of_decide_eq_true (by first | (with_reducible assumption) | assumption)
              obtain ⟨ad260, e260, hx260_0⟩ := Kd.at_int HR0.out x6_1 p260 q260
              cases e260
              replace p260 := eq_true p260
              replace q260 := eq_true q260
              have p261 : 0 ≤ (x6_1 : Int) := of_decide_eq_true (by first | (with_reducible assumption) | assumption)
              have q261 : x6_1 < (l1.length : Int) := of_decide_eq_true (by first | (with_reducible assumption) | assumption)
              obtain ⟨ad261, e261, hx261_0⟩ := Kd.at_int HR1.out x6_1 p261 q261
              cases e261
              replace p261 := eq_true p261
              replace q261 := eq_true q261
              go_wp2
              repeat (go_quiet (fail); try go_wp2)
              go_roundg k1
              case measure => have := HK1.out; omega
              case rel => exact ⟨(((rd l0 x6_1) == (rd l1 x6_1))), (wrap64 (x6_1 + 1)), (by first | rfl | (simp; done) | (simp [*]; done)), (by first | rfl | (simp; done) | (simp [*]; done)), H', ⟨by have := HK1.out; omega⟩, by repeat (first | exact Drawn0.refl _ | apply Drawn0.step)⟩
            · rw [if_neg c6] at H
              exact absurd H (by simp)
          · rw [if_neg c5] at H
            exact absurd H (by simp)
        · rw [if_neg c4] at H
          have c4b0 : decide (x6_1 < (l0.length : Int)) = false := decide_eq_false c4
          clear c4
          obtain rfl := Option.some.inj H
          go_wp2
          repeat (go_quiet (fail); try go_wp2)
          go_ret
          exact ⟨by first | rfl | (simp; done) | (simp [*]; done), by repeat (first | exact Drawn0.refl _ | apply Drawn0.step)⟩
      · replace c3 := Bool.eq_false_iff.mpr c3
        subst c3
        have H1 : (some false) = some r := by rw [if_neg (show ¬ (false = true) by decide)] at H; exact H
        clear H
        have H := H1
        clear H1
        obtain rfl := Option.some.inj H
        go_wp2
        repeat (go_quiet (fail); try go_wp2)
        go_ret
        exact ⟨by first | rfl | (simp; done) | (simp [*]; done), by repeat (first | exact Drawn0.refl _ | apply Drawn0.step)⟩
end Go.Proofs.Ytegjollhajgcdaa.P
namespace Go.Proofs.Ytegjollhajgcdaa.P
open Go.RowKit Go.Proofs.YtegjollhajgcdaaW.PrintWords Go.Proofs.YtegjollhajgcdaaW.PrintLast Go.Proofs.YtegjollhajgcdaaW.PrintMore
attribute [local go_sem] max2_int min2_int max_two min_two max_three min_three max_four min_four   -- for this text's walks alone
set_option linter.unusedVariables false
set_option linter.unusedSimpArgs false
def cippuskit_SameGrids.l0 : Nat → List (List Int) → List (List Int) → Bool → Int → Option (Bool)
  | 0, _, _, _, _ => none
  | k + 1, x0, x1, x5, x6 => if x5 = true then (if x6 < (x0.length : Int) then (if 0 ≤ x6 then (if x6 < (x1.length : Int) then ((cippuskit_SameInts.f k (rd_L4 x0 x6) (rd_L4 x1 x6)).bind fun t264 => (cippuskit_SameGrids.l0 k x0 x1 t264 (wrap64 (x6 + 1)))) else (none)) else (none)) else (some x5)) else (some x5)
def cippuskit_SameGrids.f (k : Nat) (l0 : List (List Int)) (l1 : List (List Int)) : Option (Bool) := cippuskit_SameGrids.l0 k l0 l1 ((l0.length : Int) == (l1.length : Int)) 0
theorem cippuskit_SameGrids.mono_l : ∀ k, (∀ y0 y1 y2 y3, LeO (cippuskit_SameGrids.l0 k y0 y1 y2 y3) (cippuskit_SameGrids.l0 (k + 1) y0 y1 y2 y3))
  | 0 => fun _ _ _ _ r h => by simp [cippuskit_SameGrids.l0] at h
  | k + 1 => by
    have ih0 := cippuskit_SameGrids.mono_l k
    · intro y0 y1 y2 y3
      unfold cippuskit_SameGrids.l0
      repeat' first
      | (with_reducible exact ih0 _ _ _ _)
      | (with_reducible exact cippuskit_SameInts.mono _ _ _)
      | (with_reducible exact LeO.refl _)
      | (with_reducible exact LeO.none _)
      | (with_reducible refine LeO.ite ?_ ?_)
      | (with_reducible refine LeO.bind ?_ (fun _ => ?_))
      | exact ih0 _ _ _ _
      | exact cippuskit_SameInts.mono _ _ _
      | exact LeO.none _
      | refine LeO.ite ?_ ?_
      | refine LeO.bind ?_ (fun _ => ?_)
theorem cippuskit_SameGrids.mono : ∀ a0 a1 k, LeO (cippuskit_SameGrids.f k a0 a1) (cippuskit_SameGrids.f (k + 1) a0 a1) := by
  intro a0 a1 k
  have ih0 := cippuskit_SameGrids.mono_l k
  unfold cippuskit_SameGrids.f
  repeat' first
      | (with_reducible exact ih0 _ _ _ _)
      | (with_reducible exact cippuskit_SameInts.mono _ _ _)
      | (with_reducible exact LeO.refl _)
      | (with_reducible exact LeO.none _)
      | (with_reducible refine LeO.ite ?_ ?_)
      | (with_reducible refine LeO.bind ?_ (fun _ => ?_))
      | exact ih0 _ _ _ _
      | exact cippuskit_SameInts.mono _ _ _
      | exact LeO.none _
      | refine LeO.ite ?_ ?_
      | refine LeO.bind ?_ (fun _ => ?_)
set_option maxHeartbeats 8000000 in
set_option maxRecDepth 100000 in
theorem cippuskit_SameGrids.calls (k : Nat) (A0 : Option Addr) (c0 : Nat) (l0 : List (List Int)) (A1 : Option Addr) (c1 : Nat) (l1 : List (List Int)) (r : Bool) (w : World) (hr0 : Kd.C (Kd.slice 3 (Kd.int .i64)) w A0 l0.length l0) (hc0 : l0.length ≤ c0) (hr1 : Kd.C (Kd.slice 3 (Kd.int .i64)) w A1 l1.length l1) (hc1 : l1.length ≤ c1) (h : cippuskit_SameGrids.f k l0 l1 = some r) :
    Calls Try.prog 35 #[.slice A0 l0.length c0, .slice A1 l1.length c1] w fun e w' => e = .returned (.bool r) ∧ Drawn0 w w' := by
  have HR0 := Aside0.mk hr0
  have HC0 := Aside0.mk hc0
  clear hr0 hc0
  have HR1 := Aside0.mk hr1
  have HC1 := Aside0.mk hc1
  clear hr1 hc1
  have H : (cippuskit_SameGrids.l0 k l0 l1 ((l0.length : Int) == (l1.length : Int)) 0) = some r := h
  clear h
  have H' := Aside0.mk H
  clear H
  go_enter Try.func35, Try.ntmps35
  go_wp2
  repeat (go_quiet (fail); try go_wp2)
  go_loopg [5, 6] k (fun kq v5 v6 w' => ∃ (x5_1 : Bool) (x6_1 : Int), v5 = .bool x5_1 ∧ v6 = .int .i64 x6_1 ∧ Aside0 (cippuskit_SameGrids.l0 kq l0 l1 x5_1 x6_1 = some r) ∧ Aside0 (kq ≤ k) ∧ Drawn0 w w')
  case atStart => exact ⟨(((l0.length : Int) == (l1.length : Int))), (0), (by first | rfl | (simp; done) | (simp [*]; done)), (by first | rfl | (simp; done) | (simp [*]; done)), H', ⟨Nat.le_refl _⟩, by repeat (first | exact Drawn0.refl _ | apply Drawn0.step)⟩
  case round =>
    clear H'
    try clear c1
    try clear p2
    obtain ⟨x5_1, x6_1, rfl, rfl, HA, HK1, ⟨m1, rfl⟩⟩ := hrel
    cases gk with
    | zero => exact absurd HA.out (by simp [cippuskit_SameGrids.l0])
    | succ k1 =>
      have H := HA.out
      clear HA
      simp only [cippuskit_SameGrids.l0] at H
      by_cases c3 : x5_1 = true
      · subst c3
        have H1 : (if x6_1 < (l0.length : Int) then (if 0 ≤ x6_1 then (if x6_1 < (l1.length : Int) then ((cippuskit_SameInts.f k1 (rd_L4 l0 x6_1) (rd_L4 l1 x6_1)).bind fun t264 => (cippuskit_SameGrids.l0 k1 l0 l1 t264 (wrap64 (x6_1 + 1)))) else (none)) else (none)) else (some true)) = some r := by rw [if_pos rfl] at H; exact H
        clear H
        have H := H1
        clear H1
        by_cases c4 : x6_1 < (l0.length : Int)
        · rw [if_pos c4] at H
          have c4b0 : decide (x6_1 < (l0.length : Int)) = true := decide_eq_true c4
          clear c4
          by_cases c5 : 0 ≤ x6_1
          · rw [if_pos c5] at H
            have c5b0 : decide (0 ≤ x6_1) = true := decide_eq_true c5
            clear c5
            by_cases c6 : x6_1 < (l1.length : Int)
            · rw [if_pos c6] at H
              have c6b0 : decide (x6_1 < (l1.length : Int)) = true := decide_eq_true c6
              clear c6
              replace H := Option.bind_eq_some_iff.mp H
              obtain ⟨t264, A70, H⟩ := H
              replace H : (cippuskit_SameGrids.l0 k1 l0 l1 t264 (wrap64 (x6_1 + 1))) = some r := H
              have A7 := Aside0.mk A70
              clear A70
              have H' := Aside0.mk H
              clear H
              have p262 : 0 ≤ (x6_1 : Int) := of_decide_eq_true (by first | (with_reducible assumption) | assumption)
              have q262 : x6_1 < (l0.length : Int) := of_decide_eq_true (by first | (with_reducible assumption) | assumption)
              obtain ⟨ad262, A262_0, c262_0, e262, hx262_0, hl262_0, hi262_0⟩ := at_L4 HR0.out x6_1 p262 q262
              cases e262
              have HR262_0 := Aside0.mk hi262_0
              have HC262_0 := Aside0.mk hl262_0
              clear hi262_0 hl262_0
              replace p262 := eq_true p262
              replace q262 := eq_true q262
              have p263 : 0 ≤ (x6_1 : Int) := of_decide_eq_true (by first | (with_reducible assumption) | assumption)
              have q263 : x6_1 < (l1.length : Int) := of_decide_eq_true (by first | (with_reducible assumption) | assumption)
              obtain ⟨ad263, A263_0, c263_0, e263, hx263_0, hl263_0, hi263_0⟩ := at_L4 HR1.out x6_1 p263 q263
              cases e263
              have HR263_0 := Aside0.mk hi263_0
              have HC263_0 := Aside0.mk hl263_0
              clear hi263_0 hl263_0
              replace p263 := eq_true p263
              replace q263 := eq_true q263
              go_wp2_with (first | (go_at_call 62; (with_reducible refine (cippuskit_SameInts.calls k1 _ _ (rd_L4 l0 x6_1) _ _ (rd_L4 l1 x6_1) t264 _ ?side1 ?side2 ?side3 ?side4 A7.out).mono ?_); (case side1 => repeat (first | exact HR262_0.out | (with_reducible refine Kd.C_alloc ?_ _) | (with_reducible refine Kd.C_drewN ?_ _) | (with_reducible refine Kd.C_drew ?_))); (case side2 => exact HC262_0.out); (case side3 => repeat (first | exact HR263_0.out | (with_reducible refine Kd.C_alloc ?_ _) | (with_reducible refine Kd.C_drewN ?_ _) | (with_reducible refine Kd.C_drew ?_))); (case side4 => exact HC263_0.out); rintro e w' ⟨rfl, ⟨nd, rfl⟩⟩; (try first | exact ⟨rfl, _, World.drewN_drewN _ _ _⟩ | exact ⟨rfl, _, Eq.trans (World.drewN_drewN _ _ _) (congrArg (World.drewN _) (Nat.add_assoc _ _ _))⟩)))
              repeat (go_quiet (first | (go_at_call 62; (with_reducible refine (cippuskit_SameInts.calls k1 _ _ (rd_L4 l0 x6_1) _ _ (rd_L4 l1 x6_1) t264 _ ?side1 ?side2 ?side3 ?side4 A7.out).mono ?_); (case side1 => repeat (first | exact HR262_0.out | (with_reducible refine Kd.C_alloc ?_ _) | (with_reducible refine Kd.C_drewN ?_ _) | (with_reducible refine Kd.C_drew ?_))); (case side2 => exact HC262_0.out); (case side3 => repeat (first | exact HR263_0.out | (with_reducible refine Kd.C_alloc ?_ _) | (with_reducible refine Kd.C_drewN ?_ _) | (with_reducible refine Kd.C_drew ?_))); (case side4 => exact HC263_0.out); rintro e w' ⟨rfl, ⟨nd, rfl⟩⟩; (try first | exact ⟨rfl, _, World.drewN_drewN _ _ _⟩ | exact ⟨rfl, _, Eq.trans (World.drewN_drewN _ _ _) (congrArg (World.drewN _) (Nat.add_assoc _ _ _))⟩))); try go_wp2_with (first | (go_at_call 62; (with_reducible refine (cippuskit_SameInts.calls k1 _ _ (rd_L4 l0 x6_1) _ _ (rd_L4 l1 x6_1) t264 _ ?side1 ?side2 ?side3 ?side4 A7.out).mono ?_); (case side1 => repeat (first | exact HR262_0.out | (with_reducible refine Kd.C_alloc ?_ _) | (with_reducible refine Kd.C_drewN ?_ _) | (with_reducible refine Kd.C_drew ?_))); (case side2 => exact HC262_0.out); (case side3 => repeat (first | exact HR263_0.out | (with_reducible refine Kd.C_alloc ?_ _) | (with_reducible refine Kd.C_drewN ?_ _) | (with_reducible refine Kd.C_drew ?_))); (case side4 => exact HC263_0.out); rintro e w' ⟨rfl, ⟨nd, rfl⟩⟩; (try first | exact ⟨rfl, _, World.drewN_drewN _ _ _⟩ | exact ⟨rfl, _, Eq.trans (World.drewN_drewN _ _ _) (congrArg (World.drewN _) (Nat.add_assoc _ _ _))⟩))))
              go_roundg k1
              case measure => have := HK1.out; omega
              case rel => exact ⟨(t264), (wrap64 (x6_1 + 1)), (by first | rfl | (simp; done) | (simp [*]; done)), (by first | rfl | (simp; done) | (simp [*]; done)), H', ⟨by have := HK1.out; omega⟩, by repeat (first | exact Drawn0.refl _ | apply Drawn0.step)⟩
            · rw [if_neg c6] at H
              exact absurd H (by simp)
          · rw [if_neg c5] at H
            exact absurd H (by simp)
        · rw [if_neg c4] at H
          have c4b0 : decide (x6_1 < (l0.length : Int)) = false := decide_eq_false c4
          clear c4
          obtain rfl := Option.some.inj H
          go_wp2
          repeat (go_quiet (fail); try go_wp2)
          go_ret
          exact ⟨by first | rfl | (simp; done) | (simp [*]; done), by repeat (first | exact Drawn0.refl _ | apply Drawn0.step)⟩
      · replace c3 := Bool.eq_false_iff.mpr c3
        subst c3
        have H1 : (some false) = some r := by rw [if_neg (show ¬ (false = true) by decide)] at H; exact H
        clear H
        have H := H1
        clear H1
        obtain rfl := Option.some.inj H
        go_wp2
        repeat (go_quiet (fail); try go_wp2)
        go_ret
        exact ⟨by first | rfl | (simp; done) | (simp [*]; done), by repeat (first | exact Drawn0.refl _ | apply Drawn0.step)⟩
end Go.Proofs.Ytegjollhajgcdaa.P
namespace Go.Proofs.Ytegjollhajgcdaa.P
open Go.RowKit Go.Proofs.YtegjollhajgcdaaW.PrintWords Go.Proofs.YtegjollhajgcdaaW.PrintLast Go.Proofs.YtegjollhajgcdaaW.PrintMore
attribute [local go_sem] max2_int min2_int max_two min_two max_three min_three max_four min_four   -- for this text's walks alone
set_option linter.unusedVariables false
set_option linter.unusedSimpArgs false
def stemma_letters_has.f (a0 : Int) (a1 : Int) : Option (Bool) := some ((Go.bits .and .u32 (shr .u32 a0 ((a1 - 65) % 256)) 1) == 1)
set_option maxHeartbeats 8000000 in
set_option maxRecDepth 100000 in
theorem stemma_letters_has.calls (a0 : Int) (a1 : Int) (r : Bool) (w : World) (h : stemma_letters_has.f a0 a1 = some r) :
    Calls Try.prog 50 #[.int .u32 a0, .int .u8 a1] w fun e w' => e = .returned (.bool r) ∧ Drawn0 w w' := by
  have H : (some ((Go.bits .and .u32 (shr .u32 a0 ((a1 - 65) % 256)) 1) == 1)) = some r := h
  clear h
  obtain ⟨ji3, hji3⟩ : ∃ j_ : Int, (shr .u32 a0 ((a1 - 65) % 256)) = j_ := ⟨_, rfl⟩
  replace H : (some ((Go.bits .and .u32 (ji3) 1) == 1)) = some r := by first | (rw [hji3] at H; exact H) | (simp only [hji3] at H ⊢; exact H)
  have hji3_ : (a0 / 2 ^ min ((a1 - 65) % 256).toNat 32) = ji3 := hji3
  have hji3z : ((a1 - 65) % 256) ≤ 32 → (a0 / 2 ^ ((a1 - 65) % 256).toNat) = ji3 := shr_small hji3
  obtain rfl := Option.some.inj H
  go_enter Try.func50, Try.ntmps50
  go_wp2
  go_ret
  exact ⟨by first | rfl | (simp; done) | (simp only [← hji3] <;> (first | rfl | simp)) | (simp [*]; done), by repeat (first | exact Drawn0.refl _ | apply Drawn0.step)⟩
end Go.Proofs.Ytegjollhajgcdaa.P
namespace Go.Proofs.Ytegjollhajgcdaa.P
open Go.RowKit Go.Proofs.YtegjollhajgcdaaW.PrintWords Go.Proofs.YtegjollhajgcdaaW.PrintLast Go.Proofs.YtegjollhajgcdaaW.PrintMore
attribute [local go_sem] max2_int min2_int max_two min_two max_three min_three max_four min_four   -- for this text's walks alone
set_option linter.unusedVariables false
set_option linter.unusedSimpArgs false
def stemma_letters_with.f (a0 : Int) (a1 : Int) : Option (Int) := some (Go.bits .or .u32 a0 (shl .u32 1 ((a1 - 65) % 256)))
set_option maxHeartbeats 8000000 in
set_option maxRecDepth 100000 in
theorem stemma_letters_with.calls (a0 : Int) (a1 : Int) (r : Int) (w : World) (h : stemma_letters_with.f a0 a1 = some r) :
    Calls Try.prog 52 #[.int .u32 a0, .int .u8 a1] w fun e w' => e = .returned (.int .u32 r) ∧ Drawn0 w w' := by
  have H : (some (Go.bits .or .u32 a0 (shl .u32 1 ((a1 - 65) % 256)))) = some r := h
  clear h
  obtain ⟨ji3, hji3⟩ : ∃ j_ : Int, (shl .u32 1 ((a1 - 65) % 256)) = j_ := ⟨_, rfl⟩
  replace H : (some (Go.bits .or .u32 a0 (ji3))) = some r := by first | (rw [hji3] at H; exact H) | (simp only [hji3] at H ⊢; exact H)
  have hji3_ : (IntKind.u32.wrap (1 * 2 ^ min ((a1 - 65) % 256).toNat 32)) = ji3 := hji3
  have hji3z : ((a1 - 65) % 256) ≤ 32 → (IntKind.u32.wrap (1 * 2 ^ ((a1 - 65) % 256).toNat)) = ji3 := shl_small hji3
  have hji3u : (IntKind.u32.wrap (2 ^ min ((a1 - 65) % 256).toNat 32)) = ji3 := by have h_ := hji3_; rw [Int.one_mul] at h_; exact h_
  have hji3v : ((a1 - 65) % 256) ≤ 32 → (IntKind.u32.wrap (2 ^ ((a1 - 65) % 256).toNat)) = ji3 := fun hle_ => by have h_ := hji3z hle_; rw [Int.one_mul] at h_; exact h_
  obtain rfl := Option.some.inj H
  go_enter Try.func52, Try.ntmps52
  go_wp2
  go_ret
  exact ⟨by first | rfl | (simp; done) | (simp only [← hji3] <;> (first | rfl | simp)) | (simp [*]; done), by repeat (first | exact Drawn0.refl _ | apply Drawn0.step)⟩
end Go.Proofs.Ytegjollhajgcdaa.P
namespace Go.Proofs.Ytegjollhajgcdaa.P
open Go.RowKit Go.Proofs.YtegjollhajgcdaaW.PrintWords Go.Proofs.YtegjollhajgcdaaW.PrintLast Go.Proofs.YtegjollhajgcdaaW.PrintMore
attribute [local go_sem] max2_int min2_int max_two min_two max_three min_three max_four min_four   -- for this text's walks alone
set_option linter.unusedVariables false
set_option linter.unusedSimpArgs false
def stemma_letters_String.l0 : Nat → Int → List Int → Int → Option (ByteArray)
  | 0, _, _, _ => none
  | k + 1, x0, x3, x4 => if x4 ≤ 90 then ((stemma_letters_has.f x0 x4).bind fun t224 => (if t224 = true then (if x3.length < 140737488355328 then (stemma_letters_String.l0 k x0 (x3 ++ [x4]) ((x4 + 1) % 256)) else (none)) else (stemma_letters_String.l0 k x0 x3 ((x4 + 1) % 256)))) else (some (strOfNums x3))
def stemma_letters_String.f (k : Nat) (a0 : Int) : Option (ByteArray) := stemma_letters_String.l0 k a0 ([] : List Int) 65
set_option maxHeartbeats 8000000 in
set_option maxRecDepth 100000 in
theorem stemma_letters_String.calls (k : Nat) (a0 : Int) (r : ByteArray) (w : World) (h : stemma_letters_String.f k a0 = some r) :
    Calls Try.prog 53 #[.int .u32 a0] w fun e w' => e = .returned (.string r) ∧ Below w.heap.size w w' := by
  have HB := Aside0.mk (Below.refl w.heap.size w)
  have H : (stemma_letters_String.l0 k a0 ([] : List Int) 65) = some r := h
  clear h
  have H' := Aside0.mk H
  clear H
  go_enter Try.func53, Try.ntmps53
  go_wp2
  go_loopg [3, 4] k (fun kq v3 v4 w' => ∃ (x3_1 : List Int) (x4_1 : Int), v4 = .int .u8 x4_1 ∧ Aside0 (stemma_letters_String.l0 kq a0 x3_1 x4_1 = some r) ∧ Aside0 (kq ≤ k) ∧ Aside0 (Kd.R (Kd.int .u8) 5 w' w.heap.size (fun _ => True) v3 x3_1) ∧ Aside0 (Below w.heap.size w w'))
  case atStart => exact ⟨(([] : List Int)), (65), (by first | rfl | (simp; done) | (simp [*]; done)), H', ⟨Nat.le_refl _⟩, ⟨by first | exact Kd.R_nil _ _ _ _ _ | exact Kd.N_nil _ _ _ _ _ | exact Kd.V_nil _ _ _ _ _ | exact Kd.Q_nil _ _ _ _ _ | exact Kd.S_nil _ _ _ _ _⟩, ⟨by repeat (first | (with_reducible first | exact HB.out | apply below_alloc | apply pw_below_drewN | apply below_drew1) | exact HB.out)⟩⟩
  case round =>
    clear H'
    obtain ⟨x3_1, x4_1, rfl, HA, HK1, HO_3, HB⟩ := hrel
    cases gk with
    | zero => exact absurd HA.out (by simp [stemma_letters_String.l0])
    | succ k1 =>
      have H := HA.out
      clear HA
      simp only [stemma_letters_String.l0] at H
      by_cases c2 : x4_1 ≤ 90
      · rw [if_pos c2] at H
        have c2b0 : decide (x4_1 ≤ 90) = true := decide_eq_true c2
        clear c2
        replace H := Option.bind_eq_some_iff.mp H
        obtain ⟨t224, A30, H⟩ := H
        replace H : (if t224 = true then (if x3_1.length < 140737488355328 then (stemma_letters_String.l0 k1 a0 (x3_1 ++ [x4_1]) ((x4_1 + 1) % 256)) else (none)) else (stemma_letters_String.l0 k1 a0 x3_1 ((x4_1 + 1) % 256))) = some r := H
        have A3 := Aside0.mk A30
        clear A30
        by_cases c4 : t224 = true
        · subst c4
          have H1 : (if x3_1.length < 140737488355328 then (stemma_letters_String.l0 k1 a0 (x3_1 ++ [x4_1]) ((x4_1 + 1) % 256)) else (none)) = some r := by rw [if_pos rfl] at H; exact H
          clear H
          have H := H1
          clear H1
          by_cases c5 : x3_1.length < 140737488355328
          · rw [if_pos c5] at H
            have LMc5 := Aside0.mk c5
            clear c5
            obtain ⟨y225, hy225⟩ : ∃ y_ : List Int, y_ = (x3_1 ++ [x4_1]) := ⟨_, rfl⟩
            replace H : (stemma_letters_String.l0 k1 a0 y225 ((x4_1 + 1) % 256)) = some r := by first | (rw [hy225]; with_reducible exact H) | (have H2_ := (Option.bind_some _ _).symm.trans H; rw [hy225]; with_reducible exact H2_) | (have H2_ := (Option.bind_some _ _).symm.trans H; with_reducible exact H2_) | with_reducible exact H | (rw [hy225]; exact H) | exact H
            have Ny225 := Aside0.mk hy225
            clear hy225
            have H' := Aside0.mk H
            clear H
            go_wp2_with (first | ((with_reducible refine gate_callee (f := 50) rfl ?_); refine goesL_ (some 11) rfl rfl Try.func50 (by kernel_rfl) rfl #[.int .u32 a0, .int .u8 x4_1] rfl (by (try simp only [List.map_toArray, List.map_cons, List.map_nil]); first | done | rfl | (simp only [List.length_drop, List.length_take]; rfl)) ?_; (with_reducible refine (stemma_letters_has.calls a0 x4_1 true _ A3.out).mono ?_); rintro e w' ⟨rfl, ⟨nd, rfl⟩⟩; refine ⟨_, rfl, ?_⟩) | ((with_reducible refine gate_builtin (b := .append) (xs := #[.tmp 12, .tmp 14]) rfl ?_); at_builtin; refine Kd.R_append (Kd.int .u8) (w0 := w) w.heap.size rfl (.tmp 12) (.tmp 14) 61 5 (.int .u8 0) 1 rfl Try.underlying61 info5 rfl (by decide) (by omega) u3 x3_1 x4_1 [.int .u8 x4_1] (fun _ => True) (fun _ => False) rfl rfl ?aP (fun _ hk => hk.elim) ?aF ?aO ?aB ?aS ?aL ?_; (case aP => exact rfl); (case aB => exact (by repeat (first | (with_reducible first | exact HB.out | apply below_alloc | apply pw_below_drewN | apply below_drew1) | exact HB.out))); (case aF => exact (fun _ _ => trivial)); (case aO => exact (by (with_reducible repeat (first | apply Kd.R_alloc | apply Kd.R_drewN | apply Kd.R_drew)); exact HO_3.out)); (case aS => exact (below_size (by repeat (first | (with_reducible first | exact HB.out | apply below_alloc | apply pw_below_drewN | apply below_drew1) | exact HB.out)))); (case aL => have := LMc5.out; omega); intro v226 w6 ho hb hg hat; rw [← Ny225.out] at ho; have n0_ := Aside0.mk (hb); have n1_ := Aside0.mk (ho); clear HB; clear HO_3; have HB := n0_; have HO227 := n1_; clear n0_ n1_; clear ho hb hg hat))
            go_roundg k1
            case measure => have := HK1.out; omega
            case rel => exact ⟨(y225), ((x4_1 + 1) % 256), (by first | rfl | (simp; done) | (simp [*]; done)), H', ⟨by have := HK1.out; omega⟩, ⟨by (with_reducible repeat (first | apply Kd.R_alloc | apply Kd.R_drewN | apply Kd.R_drew)); exact HO227.out⟩, ⟨by repeat (first | (with_reducible first | exact HB.out | apply below_alloc | apply pw_below_drewN | apply below_drew1) | exact HB.out)⟩⟩
          · rw [if_neg c5] at H
            exact absurd H (by simp)
        · replace c4 := Bool.eq_false_iff.mpr c4
          subst c4
          have H1 : (stemma_letters_String.l0 k1 a0 x3_1 ((x4_1 + 1) % 256)) = some r := by rw [if_neg (show ¬ (false = true) by decide)] at H; exact H
          clear H
          have H := H1
          clear H1
          have H' := Aside0.mk H
          clear H
          go_wp2_with (first | ((with_reducible refine gate_callee (f := 50) rfl ?_); refine goesL_ (some 11) rfl rfl Try.func50 (by kernel_rfl) rfl #[.int .u32 a0, .int .u8 x4_1] rfl (by (try simp only [List.map_toArray, List.map_cons, List.map_nil]); first | done | rfl | (simp only [List.length_drop, List.length_take]; rfl)) ?_; (with_reducible refine (stemma_letters_has.calls a0 x4_1 false _ A3.out).mono ?_); rintro e w' ⟨rfl, ⟨nd, rfl⟩⟩; refine ⟨_, rfl, ?_⟩))
          go_roundg k1
          case measure => have := HK1.out; omega
          case rel => exact ⟨(x3_1), ((x4_1 + 1) % 256), (by first | rfl | (simp; done) | (simp [*]; done)), H', ⟨by have := HK1.out; omega⟩, ⟨by (with_reducible repeat (first | apply Kd.R_alloc | apply Kd.R_drewN | apply Kd.R_drew)); exact HO_3.out⟩, ⟨by repeat (first | (with_reducible first | exact HB.out | apply below_alloc | apply pw_below_drewN | apply below_drew1) | exact HB.out)⟩⟩
      · rw [if_neg c2] at H
        have c2b0 : decide (x4_1 ≤ 90) = false := decide_eq_false c2
        clear c2
        obtain rfl := Option.some.inj H
        have hcv7 := own_string (P := Try.prog) Try.underlying61 Try.underlying5 Try.underlying9 (Kd.own_of_R HO_3.out)
        go_wp2
        go_ret
        exact ⟨by first | rfl | (simp [errW_none, errW_some] <;> rfl) | (simp [*, errW_none, errW_some] <;> rfl), by repeat (first | (with_reducible first | exact HB.out | apply below_alloc | apply pw_below_drewN | apply below_drew1) | exact HB.out)⟩
end Go.Proofs.Ytegjollhajgcdaa.P
namespace Go.Proofs.Ytegjollhajgcdaa.P.OwnSt
open Go.RowKit Go.Proofs.YtegjollhajgcdaaW.PrintWords Go.Proofs.YtegjollhajgcdaaW.PrintLast Go.Proofs.YtegjollhajgcdaaW.PrintMore
set_option linter.unusedVariables false
set_option linter.unusedSimpArgs false
def IsMask (m : Int) (M : Nat → Bool) : Prop := ∃ n : Nat, m = (n : Int) ∧ n < 2 ^ 26 ∧ ∀ j, n.testBit j = (decide (j < 26) && M j)
theorem isMask_zero : IsMask 0 (fun _ => false) := ⟨0, rfl, by decide, fun j => by simp⟩
theorem wraps_u32 (n : Int) (h₀ : 0 ≤ n) (h₁ : n < 2 ^ 32) : IntKind.u32.wrap n = n := by rw [IntKind.wrap_u32]; omega
theorem mask_has {m : Int} {M : Nat → Bool} (h : IsMask m M) (j : Nat) (hj : j < 26) : stemma_letters_has.f m (65 + (j : Int)) = some (M j) := by
  obtain ⟨n, rfl, hn, hb⟩ := h
  unfold stemma_letters_has.f shr
  rw [show (65 + (j : Int) - 65) % 256 = (j : Int) by omega, Int.toNat_natCast, Nat.min_eq_left (by simp [IntKind.bits]; omega)]
  have e1 : ((n : Int) / 2 ^ j) = ((n >>> j : Nat) : Int) := by rw [Nat.shiftRight_eq_div_pow]; simp
  have hlt : n >>> j < 2 ^ 26 := by rw [Nat.shiftRight_eq_div_pow]; exact Nat.lt_of_le_of_lt (Nat.div_le_self _ _) hn
  rw [e1]
  have e2 := (bits_nat .u32 32 (by decide) wraps_u32 (n >>> j) 1 (by omega) (by decide)).1
  rw [show ((1 : Int)) = ((1 : Nat) : Int) from rfl, e2]
  have h3 := hb j
  rw [show decide (j < 26) = true from decide_eq_true hj, Bool.true_and] at h3
  rw [← h3]
  unfold Nat.testBit
  congr 1
  have h4 : (n >>> j) &&& 1 = 0 ∨ (n >>> j) &&& 1 = 1 := by
    rw [Nat.and_one_is_mod]
    omega
  rw [Nat.and_comm 1]
  rcases h4 with h4 | h4 <;> rw [h4] <;> rfl
theorem mask_with {m : Int} {M : Nat → Bool} (h : IsMask m M) (j : Nat) (hj : j < 26) : ∃ m', stemma_letters_with.f m (65 + (j : Int)) = some m' ∧ IsMask m' (fun i => M i || i == j) := by
  obtain ⟨n, rfl, hn, hb⟩ := h
  unfold stemma_letters_with.f shl
  rw [show (65 + (j : Int) - 65) % 256 = (j : Int) by omega, Int.toNat_natCast, Nat.min_eq_left (by simp [IntKind.bits]; omega)]
  have hp : (2 : Nat) ^ j < 2 ^ 26 := Nat.pow_lt_pow_right (by decide) hj
  have e1 : (1 : Int) * 2 ^ j = ((2 ^ j : Nat) : Int) := by simp
  have hp2 : ((2 ^ j : Nat) : Int) < 2 ^ 32 := by
    have : ((2 ^ j : Nat) : Int) < ((2 ^ 26 : Nat) : Int) := by exact_mod_cast hp
    omega
  rw [e1, wraps_u32 _ (Int.natCast_nonneg _) hp2]
  have e2 := (bits_nat .u32 32 (by decide) wraps_u32 n (2 ^ j) (by omega) (by omega)).2
  rw [e2]
  refine ⟨_, rfl, n ||| 2 ^ j, rfl, Nat.or_lt_two_pow hn hp, fun i => ?_⟩
  rw [Nat.testBit_or, hb i, Nat.testBit_two_pow]
  by_cases e : j = i
  · subst e
    simp [hj]
  · by_cases hi : i < 26
    · simp [hi, e, show ¬ i = j from fun h => e h.symm]
    · simp [hi, e]
def maskLetters (M : Nat → Bool) (k : Nat) : List Int := ((List.range k).filter M).map fun (j : Nat) => 65 + (j : Int)
theorem mask_string_l0 {m : Int} {M : Nat → Bool} (h : IsMask m M) : ∀ (rem j : Nat), j + rem = 26 → Ev (fun k => stemma_letters_String.l0 k m (maskLetters M j) (65 + (j : Int))) (strOfNums (maskLetters M 26)) := by
  intro rem
  induction rem with
  | zero =>
    intro j hj
    refine Ev.step (fun k => by rw [stemma_letters_String.l0]) ?_
    rw [show j = 26 by omega]
    exact Ev.if_neg' (by omega) (Ev.now _)
  | succ rem ih =>
    intro j hj
    refine Ev.step (fun k => by rw [stemma_letters_String.l0]) ?_
    refine Ev.if_pos' (by omega) ?_
    rw [mask_has h j (by omega)]
    simp only [Option.bind_some]
    have h2 := ih (j + 1) (by omega)
    have e1 : ((65 + (j : Int) + 1) % 256) = 65 + ((j + 1 : Nat) : Int) := by omega
    have hl : (maskLetters M j).length ≤ j := by unfold maskLetters; rw [List.length_map]; exact Nat.le_trans (List.length_filter_le _ _) (by simp)
    rw [e1]
    have e2 : maskLetters M (j + 1) = maskLetters M j ++ (if M j = true then [65 + (j : Int)] else []) := by
      unfold maskLetters
      rw [List.range_succ, List.filter_append, List.map_append]
      congr 1
      by_cases hm : M j = true <;> simp [hm]
    rw [e2] at h2
    by_cases hm : M j = true
    · refine Ev.if_pos' hm (Ev.if_pos' (by omega) ?_)
      rw [if_pos hm] at h2
      exact h2
    · refine Ev.if_neg' hm ?_
      rw [if_neg hm, List.append_nil] at h2
      exact h2
theorem mask_string {m : Int} {M : Nat → Bool} (h : IsMask m M) : Ev (fun k => stemma_letters_String.f k m) (strOfNums (maskLetters M 26)) := by
  unfold stemma_letters_String.f
  exact mask_string_l0 h 26 0 (by omega)
theorem IsMask.congr {m : Int} {M M' : Nat → Bool} (h : IsMask m M) (e : ∀ j, j < 26 → M j = M' j) : IsMask m M' := by
  obtain ⟨n, rfl, hn, hb⟩ := h
  refine ⟨n, rfl, hn, fun j => ?_⟩
  rw [hb j]
  by_cases hj : j < 26
  · rw [e j hj]
  · simp [hj]
end Go.Proofs.Ytegjollhajgcdaa.P.OwnSt
namespace Go.Proofs.Ytegjollhajgcdaa.P.OwnSt
open Go.RowKit Go.Shelf Go.Proofs.YtegjollhajgcdaaW.PrintWords Go.Proofs.YtegjollhajgcdaaW.PrintLast Go.Proofs.YtegjollhajgcdaaW.PrintMore
set_option linter.unusedVariables false
set_option linter.unusedSimpArgs false
def mayC (l : List S24) (i : Nat) (j : Nat) (s : Nat → Int) : Bool := decide (leastV l s (i : Int) (65 + (j : Int)) < 1048576)
def mayK (l : List S24) (i k : Nat) (j : Nat) : Bool := ((knownV l).take k).any (mayC l i j)
def mayAt (l : List S24) (i : Nat) (j : Nat) : Bool := (knownV l).any (mayC l i j)
def letterRow (l : List S24) (i : Nat) : ByteArray := strOfNums (maskLetters (mayAt l i) 26)
def lettersV (l : List S24) : List ByteArray × Int := if knownE l = 0 then ((List.range (rd_T24 l 0).f0.size).map (letterRow l), 0) else ([], knownE l)
def LetR (l : List S24) (k : Nat) (key val : Value) : Prop := val = .bool true ∧ ∃ s ∈ (knownV l).take k, key = madeV (madeB l.length s)
theorem mayC_made (l : List S24) (i j : Nat) (s s' : Nat → Int) (h : madeB l.length s = madeB l.length s') : mayC l i j s = mayC l i j s' := by
  unfold mayC
  rw [leastV_made l s s' _ _ h]
theorem mayK_succ (l : List S24) (i k j : Nat) (s : Nat → Int) (hs : (knownV l)[k]? = some s) : mayK l i (k + 1) j = (mayK l i k j || mayC l i j s) := by
  unfold mayK
  rw [List.take_add_one, hs, Option.toList_some, List.any_append]
  simp
theorem mayK_met (l : List S24) (h5 : l.length ≤ 5) (i k j : Nat) (s : Nat → Int) (hs : (knownV l)[k]? = some s) {v : Value} (h : LetR l k (madeV (madeB l.length s)) v) : mayK l i (k + 1) j = mayK l i k j := by
  rw [mayK_succ l i k j s hs]
  obtain ⟨_, s', hm, e⟩ := h
  have h1 := mayC_made l i j s s' (madeB_of_key l h5 s s' e)
  by_cases hc : mayC l i j s' = true
  · have : mayK l i k j = true := by
      unfold mayK
      rw [List.any_eq_true]
      exact ⟨s', hm, hc⟩
    rw [this, Bool.true_or]
  · rw [h1]
    simp [hc]
theorem mayK_all (l : List S24) (i j : Nat) : mayK l i (knownV l).length j = mayAt l i j := by
  unfold mayK mayAt
  rw [List.take_length]
theorem LetR.mono {l : List S24} {k : Nat} {key val : Value} (h : LetR l k key val) : LetR l (k + 1) key val := by
  obtain ⟨h1, s, hs, h2⟩ := h
  refine ⟨h1, s, ?_, h2⟩
  rw [List.take_add_one]
  exact List.mem_append_left _ hs
theorem MemoAt.weaken {P : Program} {K : TypeId} {Φ Ψ : Value → Value → Prop} {W : World} {mb : Nat} (h : MemoAt P K Φ W mb) (hm : ∀ a b, Φ a b → Ψ a b) : MemoAt P K Ψ W mb := by
  obtain ⟨es, ck, h1, h2⟩ := h
  exact ⟨es, ck, h1, fun e he => ⟨(h2 e he).1, hm _ _ (h2 e he).2⟩⟩
structure LQ (l : List S24) (W1 : World) (i mb : Nat) (out : Value) (k : Nat) (W : World) : Prop where
  memo : MemoAt Try.prog 85 (LetR l k) W mb
  orow : Kd.R Kd.string 9 W W1.heap.size (fun k => W1.heap.size ≤ k ∧ k < mb) out ((List.range i).map (letterRow l))
  below : Below W1.heap.size W1 W
  low : W1.heap.size ≤ mb
theorem LQ.step {l : List S24} {W1 : World} {i mb : Nat} {out : Value} {k : Nat} {W W' : World} (h : LQ l W1 i mb out k W) (hb : Below W.heap.size W W') : LQ l W1 i mb out k W' :=
  ⟨h.memo.keep (hb.block mb h.memo.lt), Kd.R_below h.orow hb, h.below.trans (hb.mono h.below.size), h.low⟩
theorem LQ.put {l : List S24} {W1 : World} {i mb : Nat} {out : Value} {k : Nat} {W : World} (h : LQ l W1 i mb out k W) (o : Obj) (hm : MemoAt Try.prog 85 (LetR l (k + 1)) (W.putObj mb o) mb) : LQ l W1 i mb out (k + 1) (W.putObj mb o) :=
  ⟨hm, Kd.R_kept (S := fun k => k = mb) h.orow ⟨by simp [World.putObj], fun j _ hj => World.putObj_heap_other hj⟩ (fun k hk e => by omega), below_put h.below h.low o, h.low⟩
theorem lost_ne_memo {W : World} {b mb n c : Nat} {A : Option Addr} {fs : Nat → Int} {P : Program} {K : TypeId} {Φ : Value → Value → Prop} (h : LostAt W b A n c fs) (m : MemoAt P K Φ W mb) : b ≠ mb := by
  obtain ⟨es, ck, hE, _⟩ := m
  intro e
  subst e
  have h2 : W.heap[b]? = _ := h
  rw [hE] at h2
  cases h2
set_option maxHeartbeats 4000000 in
set_option maxRecDepth 100000 in
theorem letters_calls (A : Option Addr) (c : Nat) (l : List S24) (w : World) (hr : Kd.C k24 w A l.length l) (hc : l.length ≤ c) :
    Calls Try.prog 18 #[.slice A l.length c] w fun e w' => ∃ v, e = .returned (.tuple #[v, .int .i64 (lettersV l).2]) ∧ Kd.R Kd.string 9 w' w.heap.size (fun _ => True) v (lettersV l).1 ∧ Below w.heap.size w w' := by
  by_cases hk : knownE l = 0
  · have hV : lettersV l = ((List.range (rd_T24 l 0).f0.size).map (letterRow l), 0) := by unfold lettersV; rw [if_pos hk]
    rw [hV]
    have HR := Aside0.mk hr
    have HK := Aside0.mk hk
    have HVA := Aside0.mk (valid_of_check (knownE_zero hk).1)
    have h5 := HVA.out.five
    have h1 := HVA.out.one
    have hkL := known_len l h5
    clear hr hk hV
    go_enter Try.func18, Try.ntmps18
    go_upto_region 4 with (first | (go_at_call 48; refine (known_ok A c l w HR.out hc HK.out).mono ?_; rintro e w2 ⟨gv, cv, rfl, hB, hown⟩; have HB := Aside0.mk hB; have HOWN := Aside0.mk hown; clear hB hown))
    obtain ⟨W1, hW1⟩ : ∃ W1, W1 = w2 := ⟨_, rfl⟩
    rw [← hW1] at HB HOWN ⊢
    clear hW1 w2
    obtain ⟨ad, hA, y0, _⟩ := at_T24 (Kd.C_below HR.out HB.out) 0 (by omega) (by omega)
    subst hA
    simp only [Int.toNat_zero, Nat.zero_mul, Addr.add_zero'] at y0
    obtain ⟨L, hL⟩ : ∃ L, L = (rd_T24 l 0).f0.size := ⟨_, rfl⟩
    have HLL := Aside0.mk hL
    have hL8 : L ≤ 8 := by rw [hL]; exact HVA.out.high
    obtain ⟨tx, htx⟩ : ∃ tx, tx = (rd_T24 l 0).f0 := ⟨_, rfl⟩
    rw [← htx] at y0 hL
    have HTX := Aside0.mk hL
    clear htx hL
    go_wp2_with fail
    rw [← HTX.out]
    clear y0
    go_loopg [6, 26] L (fun k s6 s26 wr => ∃ i : Nat, i + k = L ∧ s26 = .int .i64 (i : Int) ∧ Aside0 (Kd.R Kd.string 9 wr W1.heap.size (fun k => W1.heap.size ≤ k) s6 ((List.range i).map (letterRow l))) ∧ Aside0 (Below W1.heap.size W1 wr))
    case atStart => exact ⟨0, by omega, rfl, ⟨Kd.R_nil _ _ _ _ _⟩, ⟨Below.refl _ _⟩⟩
    case round =>
      obtain ⟨gj, rfl⟩ : ∃ gj, gj = gk := ⟨_, rfl⟩
      obtain ⟨i, hik, rfl, HN, HB1⟩ := hrel
      have HIK := Aside0.mk hik
      clear hik
      by_cases hi : i < L
      · obtain ⟨mb, hmb⟩ : ∃ mb, mb = wr.heap.size := ⟨_, rfl⟩
        have hmk := run_makeMap (P := Try.prog) 80 wr
        rw [← hmb] at hmk
        go_upto_region 10 with fail
        rw [← hmb]
        refine wp_gen (fun wx => Aside0 (LQ l W1 i mb u6 0 wx)) ?_ ?_
        · refine ⟨⟨?_, Kd.R_mono (Kd.R_alloc (Kd.R_bound HN.out) _) (fun k hk => ⟨hk.1, by rw [hmb]; exact hk.2.2.1⟩), HB1.out.alloc HB1.out.size _, by rw [hmb]; exact HB1.out.size⟩⟩
          rw [hmb]
          exact MemoAt.new 85 _ wr
        clear hmk hmb HN HB1
        intro W2 HQ
        go_wp2_with fail
        go_loopg [8, 32] (knownV l).length (fun n s8 s32 wr => ∃ (k : Nat) (m : Int), k + n = (knownV l).length ∧ s8 = .int .u32 m ∧ s32 = .int .i64 (k : Int) ∧ Aside0 (IsMask m (mayK l i k)) ∧ Aside0 (LQ l W1 i mb u6 k wr))
        case atStart => exact ⟨0, 0, by omega, rfl, rfl, ⟨isMask_zero⟩, HQ⟩
        case round =>
          clear HQ
          obtain ⟨gm, rfl⟩ : ∃ gm, gm = gk := ⟨_, rfl⟩
          obtain ⟨k, m, hkn, rfl, rfl, HM, HQ⟩ := hrel
          have HKN := Aside0.mk hkn
          clear hkn
          by_cases hkl : k < (knownV l).length
          · obtain ⟨s, hs⟩ : ∃ s, (knownV l)[k]? = some s := ⟨_, List.getElem?_eq_getElem hkl⟩
            obtain ⟨⟨x0, x1, x2, x3, x4, x5⟩, xgl⟩ := lost_cells HOWN.out HQ.out.below k s hs
            have HS := Aside0.mk hs
            clear hs
            go_upto_region 13 with fail
            obtain ⟨b11, hb11⟩ : ∃ b11, b11 = wr.heap.size := ⟨_, rfl⟩
            rw [← hb11]
            refine wp_gen (fun wx => Aside0 (LQ l W1 i mb u6 k wx) ∧ Aside0 (LostAt wx b11 (some ad) l.length c s)) ?_ ?_
            · subst hb11
              exact ⟨⟨HQ.out.step ((Below.refl _ _).alloc (Nat.le_refl _) _)⟩, ⟨blk_new wr _⟩⟩
            clear hb11 HQ x0 x1 x2 x3 x4 x5 xgl
            rintro W3 ⟨HQ, HX⟩
            obtain ⟨x0, x1, x2, x3, x4, x5⟩ := HX.out.cells
            have hxl := blk_lt HX.out
            by_cases hmet : MemoHas W3 mb (madeV (madeB l.length s))
            · have HMET := Aside0.mk hmet
              clear hmet
              go_wp2_with (first | (go_at_call 49; refine (made_calls (some ad) c l s _ (Kd.C_below HR.out (HB.out.trans (HQ.out.below.mono HB.out.size))) h5).mono ?_; rintro e w4 ⟨rfl, hB4⟩; have HB4 := Aside0.mk hB4; obtain ⟨vv, bb, hlook, hvv⟩ := (HQ.out.step hB4).memo.look law85 (T := 80) (E := 4) (z := .bool false) (by kernel_rfl) (by kernel_rfl) (keyOf_made (madeB l.length s)).choose_spec; have HV := Aside0.mk (show LetR l k (madeV (madeB l.length s)) vv from by (rcases hvv with ⟨g1, g2, _⟩ | ⟨_, _, g2⟩; exact g2; exact absurd (HMET.out.keep (hB4.block mb HQ.out.memo.lt)) g2)); have hlk := hlook false; simp only [Bool.false_eq_true, if_false] at hlk; obtain rfl := HV.out.1; clear hlook hvv hB4))
              go_roundg (gm - 1)
              case measure => have := HKN.out; omega
              case rel =>
                refine ⟨k + 1, m, by have := HKN.out; omega, rfl, by go_num, ⟨HM.out.congr (fun j hj => (mayK_met l h5 i k j s HS.out HV.out).symm)⟩, ⟨?_⟩⟩
                have h8 := HQ.out.step HB4.out
                exact ⟨h8.memo.weaken (fun _ _ hh => hh.mono), h8.orow, h8.below, h8.low⟩
            · have HMET := Aside0.mk hmet
              clear hmet
              go_upto_region 14 with (first | (go_at_call 49; refine (made_calls (some ad) c l s _ (Kd.C_below HR.out (HB.out.trans (HQ.out.below.mono HB.out.size))) h5).mono ?_; rintro e w4 ⟨rfl, hB4⟩; have HB4 := Aside0.mk hB4; obtain ⟨vv, bb, hlook, hvv⟩ := (HQ.out.step hB4).memo.look law85 (T := 80) (E := 4) (z := .bool false) (by kernel_rfl) (by kernel_rfl) (keyOf_made (madeB l.length s)).choose_spec; have HV := Aside0.mk (show vv = .bool false from by (rcases hvv with ⟨_, _, g2⟩ | ⟨_, g1, _⟩; exact absurd (g2.keep (hB4.block mb HQ.out.memo.lt).symm) HMET.out; exact g1)); have hlk := hlook false; simp only [Bool.false_eq_true, if_false] at hlk; obtain rfl := HV.out; clear hlook hvv hB4))
              refine wp_gen (fun wx => Aside0 (LQ l W1 i mb u6 k wx) ∧ Aside0 (LostAt wx b11 (some ad) l.length c s)) ⟨⟨HQ.out.step HB4.out⟩, ⟨HX.out.below HB4.out⟩⟩ ?_
              clear HQ HX HB4 HV hlk w4 HMET W3 x0 x1 x2 x3 x4 x5 hxl
              rintro W3 ⟨HQ, HX⟩
              obtain ⟨x0, x1, x2, x3, x4, x5⟩ := HX.out.cells
              have hxl := blk_lt HX.out
              go_upto_block 4 with (first | (go_at_call 49; refine (made_calls (some ad) c l s _ (Kd.C_below HR.out (HB.out.trans (HQ.out.below.mono HB.out.size))) h5).mono ?_; rintro e w4 ⟨rfl, hB4⟩; have HB4 := Aside0.mk hB4; obtain ⟨o, hup, hm, hq1, hq2⟩ := (HQ.out.step hB4).memo.weaken (Ψ := LetR l (k + 1)) (fun _ _ hh => hh.mono) |>.update (T := 80) (E := 4) (val := .bool true) law85 (by kernel_rfl) (keyOf_made (madeB l.length s)).choose_spec ⟨rfl, s, by rw [List.take_add_one, HS.out]; exact List.mem_append_right _ (by simp), rfl⟩; have HMM := Aside0.mk hm; clear hB4 hm hq1 hq2))
              refine wp_gen (fun wx => Aside0 (LQ l W1 i mb u6 (k + 1) wx) ∧ Aside0 (LostAt wx b11 (some ad) l.length c s)) ⟨⟨(HQ.out.step HB4.out).put o HMM.out⟩, ⟨?_⟩⟩ ?_
              · have h9 := HX.out.below HB4.out
                exact (World.putObj_heap_other (lost_ne_memo h9 (HQ.out.step HB4.out).memo)).trans h9
              clear HQ HX HB4 HMM hup o w4 W3 x0 x1 x2 x3 x4 x5 hxl
              rintro W3 ⟨HQ, HX⟩
              go_wp2_with fail
              go_loopg [8, 12] 26 (fun n s8 s12 wr => ∃ (j : Nat) (m' : Int), j + n = 26 ∧ s12 = .int .u8 (65 + (j : Int)) ∧ s8 = .int .u32 m' ∧ Aside0 (IsMask m' (fun x => mayK l i k x || (decide (x < j) && mayC l i x s))) ∧ Aside0 (LQ l W1 i mb u6 (k + 1) wr) ∧ Aside0 (LostAt wr b11 (some ad) l.length c s))
              case atStart => exact ⟨0, m, by omega, rfl, rfl, ⟨HM.out.congr (fun j hj => by simp)⟩, HQ, HX⟩
              case round =>
                clear HQ HX HM
                obtain ⟨j, m', hjn, rfl, rfl, HM, HQ, HX⟩ := hrel
                have HJN := Aside0.mk hjn
                have hj26 : j ≤ 26 := by omega
                clear hjn
                obtain ⟨cc, hcc⟩ : ∃ cc : Int, cc = 65 + (j : Int) := ⟨_, rfl⟩
                rw [← hcc]
                have HCC := Aside0.mk hcc
                have hcc65 : 65 ≤ cc := by omega
                have hcc91 : cc ≤ 91 := by omega
                obtain ⟨x0, x1, x2, x3, x4, x5⟩ := HX.out.cells
                have hxl := blk_lt HX.out
                by_cases hj : j < 26
                · have hcc90 : cc ≤ 90 := by omega
                  have hh := mask_has HM.out j hj
                  rw [← hcc] at hh
                  have HH := Aside0.mk hh
                  have hjj : (decide (j < j) && mayC l i j s) = false := by simp
                  rw [hjj, Bool.or_false] at HH
                  clear hcc hh hjj
                  by_cases hb : mayK l i k j = true
                  · rw [hb] at HH
                    have HBT := Aside0.mk hb
                    clear hb
                    go_wp2_with (first | (go_at_call 50; refine (stemma_letters_has.calls m' cc true _ HH.out).mono ?_; rintro e w' ⟨rfl, ⟨nd, rfl⟩⟩))
                    go_roundg (gk - 1)
                    case measure => have := HJN.out; omega
                    case rel =>
                      refine ⟨j + 1, m', by have := HJN.out; omega, by rw [HCC.out]; congr 1 <;> omega, rfl, ⟨HM.out.congr (fun x hx => ?_)⟩, ⟨HQ.out.step (pw_below_drewN (Below.refl _ _) nd)⟩, ⟨HX.out.below (pw_below_drewN (Below.refl _ _) nd)⟩⟩
                      by_cases e : x = j
                      · subst e
                        rw [HBT.out]
                        simp
                      · congr 2
                        exact decide_eq_decide.2 (by omega)
                  · have hbf : mayK l i k j = false := by simpa using hb
                    rw [hbf] at HH
                    have HBF := Aside0.mk hbf
                    clear hb hbf
                    obtain ⟨lv, hlv⟩ : ∃ lv, lv = leastV l s (i : Int) cc := ⟨_, rfl⟩
                    have hlb := leastV_bound l s (i : Int) cc
                    rw [← hlv] at hlb
                    obtain ⟨hlb0, hlb1⟩ := hlb
                    have HLV := Aside0.mk hlv
                    clear hlv
                    by_cases hlt : lv < 1048576
                    · have hmc : mayC l i j s = true := by
                        unfold mayC
                        rw [← HCC.out, ← HLV.out]
                        exact decide_eq_true hlt
                      obtain ⟨m2, hm2, hM2⟩ := mask_with HM.out j hj
                      rw [← HCC.out] at hm2
                      have HM2 := Aside0.mk hM2
                      have HMC := Aside0.mk hmc
                      have HW := Aside0.mk hm2
                      clear hM2 hmc hm2
                      go_wp2_with (first
                        | (go_at_call 50; refine (stemma_letters_has.calls m' cc false _ HH.out).mono ?_; rintro e w' ⟨rfl, ⟨nd, rfl⟩⟩; have HQ2 := Aside0.mk (HQ.out.step (pw_below_drewN (Below.refl _ _) nd)); have HX2 := Aside0.mk (HX.out.below (pw_below_drewN (Below.refl _ _) nd)))
                        | (go_at_call 51; refine (least_calls (some ad) c l s (i : Int) cc _ (Kd.C_below HR.out (HB.out.trans (HQ2.out.below.mono HB.out.size))) hc h1 h5 HVA.out.size HVA.out.high (fun i hi => ⟨(HVA.out.err i hi).1, by have := (HVA.out.err i hi).2; omega⟩)).mono ?_; rintro e w5 ⟨rfl, hB5⟩; rw [← HLV.out]; have HQ3 := Aside0.mk (HQ2.out.step hB5); have HX3 := Aside0.mk (HX2.out.below hB5); clear hB5)
                        | (go_at_call 52; refine (stemma_letters_with.calls m' cc m2 _ HW.out).mono ?_; rintro e w' ⟨rfl, ⟨nd2, rfl⟩⟩))
                      go_roundg (gk - 1)
                      case measure => have := HJN.out; omega
                      case rel =>
                        refine ⟨j + 1, m2, by have := HJN.out; omega, by rw [HCC.out]; congr 1 <;> omega, rfl, ⟨HM2.out.congr (fun x hx => ?_)⟩, ⟨HQ3.out.step (pw_below_drewN (Below.refl _ _) nd2)⟩, ⟨HX3.out.below (pw_below_drewN (Below.refl _ _) nd2)⟩⟩
                        by_cases e : x = j
                        · subst e
                          rw [HMC.out]
                          simp
                        · rw [show (x == j) = false from beq_false_of_ne e, Bool.or_false]
                          congr 2
                          exact decide_eq_decide.2 (by omega)
                    · have hmc : mayC l i j s = false := by
                        unfold mayC
                        rw [← HCC.out, ← HLV.out]
                        exact decide_eq_false hlt
                      have HMC := Aside0.mk hmc
                      clear hmc
                      go_wp2_with (first
                        | (go_at_call 50; refine (stemma_letters_has.calls m' cc false _ HH.out).mono ?_; rintro e w' ⟨rfl, ⟨nd, rfl⟩⟩; have HQ2 := Aside0.mk (HQ.out.step (pw_below_drewN (Below.refl _ _) nd)); have HX2 := Aside0.mk (HX.out.below (pw_below_drewN (Below.refl _ _) nd)))
                        | (go_at_call 51; refine (least_calls (some ad) c l s (i : Int) cc _ (Kd.C_below HR.out (HB.out.trans (HQ2.out.below.mono HB.out.size))) hc h1 h5 HVA.out.size HVA.out.high (fun i hi => ⟨(HVA.out.err i hi).1, by have := (HVA.out.err i hi).2; omega⟩)).mono ?_; rintro e w5 ⟨rfl, hB5⟩; rw [← HLV.out]; have HQ3 := Aside0.mk (HQ2.out.step hB5); have HX3 := Aside0.mk (HX2.out.below hB5); clear hB5))
                      go_roundg (gk - 1)
                      case measure => have := HJN.out; omega
                      case rel =>
                        refine ⟨j + 1, m', by have := HJN.out; omega, by rw [HCC.out]; congr 1 <;> omega, rfl, ⟨HM.out.congr (fun x hx => ?_)⟩, HQ3, HX3⟩
                        by_cases e : x = j
                        · subst e
                          rw [HMC.out]
                          simp
                        · congr 2
                          exact decide_eq_decide.2 (by omega)
                · have hcc90 : ¬ cc ≤ 90 := by omega
                  clear hcc
                  go_wp2_with fail
                  go_roundg (gm - 1)
                  case measure => have := HKN.out; omega
                  case rel =>
                    refine ⟨k + 1, m', by have := HKN.out; omega, rfl, by go_num, ⟨HM.out.congr (fun x hx => ?_)⟩, HQ⟩
                    rw [mayK_succ l i k x s HS.out, show decide (x < j) = true from decide_eq_true (by omega), Bool.true_and]
          · have hkk : k = (knownV l).length := by have := HKN.out; omega
            have HKK := Aside0.mk hkk
            clear hkk
            obtain ⟨kk, hkk⟩ := (mask_string HM.out).rounds
            have HST := Aside0.mk hkk
            clear hkk
            obtain ⟨st, hst⟩ : ∃ st, st = strOfNums (maskLetters (mayK l i k) 26) := ⟨_, rfl⟩
            have HSE := Aside0.mk hst
            clear hst
            go_wp2_with (first
              | (go_at_call 53; refine (stemma_letters_String.calls kk m _ wr HST.out).mono ?_; rintro e w7 ⟨rfl, hB7⟩; rw [← HSE.out]; have HQ7 := Aside0.mk (HQ.out.step hB7); clear hB7)
              | (at_builtin; refine Kd.R_append Kd.string (w0 := W1) W1.heap.size rfl _ _ 36 9 (.string ⟨#[]⟩) 16 rfl (by kernel_rfl) info9 rfl (by decide) (by omega) u6 _ st [.string st] (fun k => W1.heap.size ≤ k) (fun _ => False) rfl rfl ?aP (fun _ hk => hk.elim) ?aF (Kd.R_mono HQ7.out.orow (fun _ hk => hk.1)) HQ7.out.below HQ7.out.below.size ?aL ?_; (case aP => exact rfl); (case aF => exact fun k hk => Nat.le_trans HQ7.out.below.size hk); (case aL => (simp; omega)); intro v8 w8 hN8 hB8 hg8 hat8; have HN8 := Aside0.mk hN8; have HB8 := Aside0.mk hB8; clear hN8 hB8 hg8 hat8))
            go_roundg (gj - 1)
            case measure => have := HIK.out; omega
            case rel =>
              refine ⟨i + 1, by have := HIK.out; omega, by go_num, ⟨?_⟩, HB8⟩
              rw [List.range_succ, List.map_append]
              have h9 := HN8.out
              rw [HSE.out, HKK.out] at h9
              have e9 : maskLetters (mayK l i (knownV l).length) 26 = maskLetters (mayAt l i) 26 := by
                unfold maskLetters
                rw [show mayK l i (knownV l).length = mayAt l i from funext fun j => mayK_all l i j]
              rw [e9] at h9
              exact h9
      · go_wp2_with fail
        refine bodyPost_ret (results_tmp2 rfl _ _ _) rfl ⟨_, rfl, ?_, HB.out.trans (HB1.out.mono HB.out.size)⟩
        have h7 := HN.out
        rw [show i = L by have := HIK.out; omega, HLL.out] at h7
        exact Kd.R_mono (Kd.R_lower h7 HB.out.size) (fun k hk => trivial)
  · have hV : lettersV l = ([], knownE l) := by unfold lettersV; rw [if_neg hk]
    rw [hV]
    obtain ⟨e0, he0⟩ : ∃ e0, e0 = knownE l := ⟨_, rfl⟩
    have HR := Aside0.mk hr
    have HK := Aside0.mk hk
    have HE := Aside0.mk he0
    have b1 : (e0 != 0) = true := bne_iff_ne.2 (by rw [he0]; exact hk)
    rw [← he0]
    clear hr hk hV he0
    go_enter Try.func18, Try.ntmps18
    go_wp2_with (first | (go_at_call 48; refine (known_err A c l w HR.out hc HK.out).mono ?_; rintro e w2 ⟨rfl, hB⟩; rw [← HE.out]; have HB := Aside0.mk hB; clear hB))
    exact bodyPost_ret (results_tmp2 rfl _ _ _) rfl ⟨_, rfl, Kd.R_nil _ _ _ _ _, HB.out⟩
end Go.Proofs.Ytegjollhajgcdaa.P.OwnSt
namespace Go.Proofs.Ytegjollhajgcdaa.P
open Go.RowKit Go.Proofs.YtegjollhajgcdaaW.PrintWords Go.Proofs.YtegjollhajgcdaaW.PrintLast Go.Proofs.YtegjollhajgcdaaW.PrintMore
attribute [local go_sem] max2_int min2_int max_two min_two max_three min_three max_four min_four   -- for this text's walks alone
set_option linter.unusedVariables false
set_option linter.unusedSimpArgs false
def stemma_Letters.f (k : Nat) (l0 : List (S24)) : Option (List ByteArray × Int) := some (OwnSt.lettersV l0)
theorem stemma_Letters.mono : ∀ a0 k, LeO (stemma_Letters.f k a0) (stemma_Letters.f (k + 1) a0) := by intros; exact LeO.refl _
theorem stemma_Letters.calls (k : Nat) (A0 : Option Addr) (c0 : Nat) (l0 : List (S24)) (r1 : List ByteArray) (r2 : Int) (w : World) (hr0 : Kd.C k24 w A0 l0.length l0) (hc0 : l0.length ≤ c0) (h : stemma_Letters.f k l0 = some (r1, r2)) :
    Calls Try.prog 18 #[.slice A0 l0.length c0] w fun e w' => ∃ v0_ : Value, e = .returned (.tuple #[v0_, .int .i64 r2]) ∧ Kd.R Kd.string 9 w' w.heap.size (fun _ => True) v0_ r1 ∧ Below w.heap.size w w' := by
  have h2 := OwnSt.letters_calls A0 c0 l0 w hr0 hc0; rw [show OwnSt.lettersV l0 = (r1, r2) from Option.some.inj h] at h2; exact h2
end Go.Proofs.Ytegjollhajgcdaa.P
namespace Go.Proofs.Ytegjollhajgcdaa.P
open Go.RowKit Go.Proofs.YtegjollhajgcdaaW.PrintWords Go.Proofs.YtegjollhajgcdaaW.PrintLast Go.Proofs.YtegjollhajgcdaaW.PrintMore
attribute [local go_sem] max2_int min2_int max_two min_two max_three min_three max_four min_four   -- for this text's walks alone
set_option linter.unusedVariables false
set_option linter.unusedSimpArgs false
def stemma_Print.l0 : Nat → ByteArray → List ByteArray → Int → Int → Option (ByteArray × Int)
  | 0, _, _, _, _ => none
  | k + 1, x6, x17, x18, x19 => if x19 < x18 then (if 0 ≤ x19 then (if x19 < (x17.length : Int) then (if ((rdOf ByteArray.empty x17 x19).size : Int) > 1 then (if x6.size + 1 ≤ 9223372036854775807 then (stemma_Print.l0 k (x6 ++ (⟨#[45]⟩ : ByteArray)) x17 x18 (wrap64 (x19 + 1))) else (none)) else (if x6.size + (rdOf ByteArray.empty x17 x19).size ≤ 9223372036854775807 then (stemma_Print.l0 k (x6 ++ (rdOf ByteArray.empty x17 x19)) x17 x18 (wrap64 (x19 + 1))) else (none))) else (none)) else (none)) else (some (x6, 0))
def stemma_Print.f (k : Nat) (l0 : List (S24)) : Option (ByteArray × Int) := (stemma_Letters.f k l0).bind fun bt228 => (if bt228.2 = 0 then (stemma_Print.l0 k (⟨#[]⟩ : ByteArray) bt228.1 (bt228.1.length : Int) 0) else (some ((⟨#[]⟩ : ByteArray), bt228.2)))
theorem stemma_Print.mono_l : ∀ k, (∀ y0 y1 y2 y3, LeO (stemma_Print.l0 k y0 y1 y2 y3) (stemma_Print.l0 (k + 1) y0 y1 y2 y3))
  | 0 => fun _ _ _ _ r h => by simp [stemma_Print.l0] at h
  | k + 1 => by
    have ih0 := stemma_Print.mono_l k
    · intro y0 y1 y2 y3
      unfold stemma_Print.l0
      repeat' first
      | (with_reducible exact ih0 _ _ _ _)
      | (with_reducible exact stemma_Letters.mono _ _)
      | (with_reducible exact LeO.refl _)
      | (with_reducible exact LeO.none _)
      | (with_reducible refine LeO.ite ?_ ?_)
      | (with_reducible refine LeO.bind ?_ (fun _ => ?_))
      | exact ih0 _ _ _ _
      | exact stemma_Letters.mono _ _
      | exact LeO.none _
      | refine LeO.ite ?_ ?_
      | refine LeO.bind ?_ (fun _ => ?_)
theorem stemma_Print.mono : ∀ a0 k, LeO (stemma_Print.f k a0) (stemma_Print.f (k + 1) a0) := by
  intro a0 k
  have ih0 := stemma_Print.mono_l k
  unfold stemma_Print.f
  repeat' first
      | (with_reducible exact ih0 _ _ _ _)
      | (with_reducible exact stemma_Letters.mono _ _)
      | (with_reducible exact LeO.refl _)
      | (with_reducible exact LeO.none _)
      | (with_reducible refine LeO.ite ?_ ?_)
      | (with_reducible refine LeO.bind ?_ (fun _ => ?_))
      | exact ih0 _ _ _ _
      | exact stemma_Letters.mono _ _
      | exact LeO.none _
      | refine LeO.ite ?_ ?_
      | refine LeO.bind ?_ (fun _ => ?_)
set_option maxHeartbeats 8000000 in
set_option maxRecDepth 100000 in
theorem stemma_Print.calls (k : Nat) (A0 : Option Addr) (c0 : Nat) (l0 : List (S24)) (r1 : ByteArray) (r2 : Int) (w : World) (hr0 : Kd.C k24 w A0 l0.length l0) (hc0 : l0.length ≤ c0) (h : stemma_Print.f k l0 = some (r1, r2)) :
    Calls Try.prog 20 #[.slice A0 l0.length c0] w fun e w' => e = .returned (.tuple #[.string r1, .int .i64 r2]) ∧ Below w.heap.size w w' := by
  have HR0 := Aside0.mk hr0
  have HC0 := Aside0.mk hc0
  clear hr0 hc0
  have HB := Aside0.mk (Below.refl w.heap.size w)
  have H : ((stemma_Letters.f k l0).bind fun bt228 => (if bt228.2 = 0 then (stemma_Print.l0 k (⟨#[]⟩ : ByteArray) bt228.1 (bt228.1.length : Int) 0) else (some ((⟨#[]⟩ : ByteArray), bt228.2)))) = some (r1, r2) := h
  clear h
  replace H := Option.bind_eq_some_iff.mp H
  obtain ⟨⟨t228, t229⟩, A20, H⟩ := H
  replace H : (if t229 = 0 then (stemma_Print.l0 k (⟨#[]⟩ : ByteArray) t228 (t228.length : Int) 0) else (some ((⟨#[]⟩ : ByteArray), t229))) = some (r1, r2) := H
  have A2 := Aside0.mk A20
  clear A20
  by_cases c3 : t229 = 0
  · rw [if_pos c3] at H
    have c3b0 : (t229 == 0) = true := beq_iff_eq.mpr c3
    have c3b1 : (t229 != 0) = false := bne_eq_false_iff_eq.mpr c3
    clear c3
    have H' := Aside0.mk H
    clear H
    go_enter Try.func20, Try.ntmps20
    go_wp2_with (first | ((with_reducible refine gate_callee (f := 18) rfl ?_); refine goesL_ (some 11) rfl rfl Try.func18 (by kernel_rfl) rfl #[.slice A0 l0.length c0] rfl (by (try simp only [List.map_toArray, List.map_cons, List.map_nil]); first | done | rfl | (simp only [List.length_drop, List.length_take]; rfl)) ?_; (with_reducible refine (stemma_Letters.calls k _ _ l0 t228 t229 _ ?side1 ?side2 A2.out).mono ?_); (case side1 => repeat (first | exact HR0.out | (with_reducible refine Kd.C_alloc ?_ _) | (with_reducible refine Kd.C_drewN ?_ _) | (with_reducible refine Kd.C_drew ?_))); (case side2 => exact HC0.out); rintro e w4 ⟨v230, rfl, ho0, hb⟩; refine ⟨_, rfl, ?_⟩; have n0_ := Aside0.mk (Kd.R_lower ho0 (below_size (by repeat (first | (with_reducible first | exact HB.out | apply below_alloc | apply pw_below_drewN | apply below_drew1) | exact HB.out)))); have n1_ := Aside0.mk (below_step (by repeat (first | (with_reducible first | exact HB.out | apply below_alloc | apply pw_below_drewN | apply below_drew1) | exact HB.out)) hb); clear HB; have HO231 := n0_; have HB := n1_; clear n0_ n1_; (try clear hb); (try clear hb2); (try clear hk); (try clear hi); (try clear ho0); obtain ⟨Ao5, co5, eo5⟩ := Kd.R_slice HO231.out; subst eo5))
    go_loopg [6, 19] k (fun kq v6 v19 w' => ∃ (x6_1 : ByteArray) (x19_1 : Int), v6 = .string x6_1 ∧ v19 = .int .i64 x19_1 ∧ Aside0 (stemma_Print.l0 kq x6_1 t228 (t228.length : Int) x19_1 = some (r1, r2)) ∧ Aside0 (kq ≤ k) ∧ Aside0 (Kd.R Kd.string 9 w' w.heap.size (fun _ => True) (.slice Ao5 t228.length co5) t228) ∧ Aside0 (Below w.heap.size w w'))
    case atStart => exact ⟨((⟨#[]⟩ : ByteArray)), (0), (by first | rfl | (simp; done) | (simp [*]; done)), (by first | rfl | (simp; done) | (simp [*]; done)), H', ⟨Nat.le_refl _⟩, ⟨by (with_reducible repeat (first | apply Kd.R_alloc | apply Kd.R_drewN | apply Kd.R_drew)); exact HO231.out⟩, ⟨by repeat (first | (with_reducible first | exact HB.out | apply below_alloc | apply pw_below_drewN | apply below_drew1) | exact HB.out)⟩⟩
    case round =>
      clear H'
      try clear c1
      try clear c2
      try clear p2
      try clear c3
      try clear c3b0
      try clear c3b1
      obtain ⟨x6_1, x19_1, rfl, rfl, HA, HK1, HO_17, HB⟩ := hrel
      cases gk with
      | zero => exact absurd HA.out (by simp [stemma_Print.l0])
      | succ k1 =>
        have H := HA.out
        clear HA
        simp only [stemma_Print.l0] at H
        by_cases c6 : x19_1 < (t228.length : Int)
        · rw [if_pos c6] at H
          have c6b0 : decide (x19_1 < (t228.length : Int)) = true := decide_eq_true c6
          clear c6
          by_cases c7 : 0 ≤ x19_1
          · rw [if_pos c7] at H
            have c7b0 : decide (0 ≤ x19_1) = true := decide_eq_true c7
            clear c7
            by_cases c8 : x19_1 < (t228.length : Int)
            · rw [if_pos c8] at H
              have c8b0 : decide (x19_1 < (t228.length : Int)) = true := decide_eq_true c8
              clear c8
              by_cases c9 : ((rdOf ByteArray.empty t228 x19_1).size : Int) > 1
              · rw [if_pos c9] at H
                have c9b0 : decide (1 < ((rdOf ByteArray.empty t228 x19_1).size : Int)) = true := decide_eq_true c9
                have c9b1 : decide (1 < (rdOf ByteArray.empty t228 x19_1).size) = true := decide_eq_true (by omega)
                clear c9
                by_cases c10 : x6_1.size + 1 ≤ 9223372036854775807
                · rw [if_pos c10] at H
                  have c10b0 := eq_true c10
                  have c10b1 : decide (x6_1.size + 1 ≤ 9223372036854775807) = true := decide_eq_true c10
                  try have c10b2 : (9223372036854775807 < x6_1.size + 1) = False := eq_false (Nat.not_lt.2 c10)
                  have H' := Aside0.mk H
                  clear H
                  have p232 : 0 ≤ (x19_1 : Int) := of_decide_eq_true (by first | (with_reducible assumption) | assumption)
                  have q232 : x19_1 < (t228.length : Int) := of_decide_eq_true (by first | (with_reducible assumption) | assumption)
                  obtain ⟨ad232, e232, hx232_0⟩ := Kd.at_string (Kd.R_reads' HO_17.out).2.2 x19_1 p232 q232
                  cases e232
                  replace p232 := eq_true p232
                  replace q232 := eq_true q232
                  go_wp2
                  go_roundg k1
                  case measure => have := HK1.out; omega
                  case rel => exact ⟨(x6_1 ++ (⟨#[45]⟩ : ByteArray)), (wrap64 (x19_1 + 1)), (by first | rfl | (simp; done) | (simp [*]; done)), (by first | rfl | (simp; done) | (simp [*]; done)), H', ⟨by have := HK1.out; omega⟩, ⟨by (with_reducible repeat (first | apply Kd.R_alloc | apply Kd.R_drewN | apply Kd.R_drew)); exact HO_17.out⟩, ⟨by repeat (first | (with_reducible first | exact HB.out | apply below_alloc | apply pw_below_drewN | apply below_drew1) | exact HB.out)⟩⟩
                · rw [if_neg c10] at H
                  exact absurd H (by simp)
              · rw [if_neg c9] at H
                have c9b0 : decide (1 < ((rdOf ByteArray.empty t228 x19_1).size : Int)) = false := decide_eq_false c9
                have c9b1 : decide (1 < (rdOf ByteArray.empty t228 x19_1).size) = false := decide_eq_false (by omega)
                clear c9
                by_cases c11 : x6_1.size + (rdOf ByteArray.empty t228 x19_1).size ≤ 9223372036854775807
                · rw [if_pos c11] at H
                  have c11b0 := eq_true c11
                  have c11b1 : decide (x6_1.size + (rdOf ByteArray.empty t228 x19_1).size ≤ 9223372036854775807) = true := decide_eq_true c11
                  try have c11b2 : (9223372036854775807 < x6_1.size + (rdOf ByteArray.empty t228 x19_1).size) = False := eq_false (Nat.not_lt.2 c11)
                  have H' := Aside0.mk H
                  clear H
                  have p232 : 0 ≤ (x19_1 : Int) := of_decide_eq_true (by first | (with_reducible assumption) | assumption)
                  have q232 : x19_1 < (t228.length : Int) := of_decide_eq_true (by first | (with_reducible assumption) | assumption)
                  obtain ⟨ad232, e232, hx232_0⟩ := Kd.at_string (Kd.R_reads' HO_17.out).2.2 x19_1 p232 q232
                  cases e232
                  replace p232 := eq_true p232
                  replace q232 := eq_true q232
                  go_wp2
                  go_roundg k1
                  case measure => have := HK1.out; omega
                  case rel => exact ⟨(x6_1 ++ (rdOf ByteArray.empty t228 x19_1)), (wrap64 (x19_1 + 1)), (by first | rfl | (simp; done) | (simp [*]; done)), (by first | rfl | (simp; done) | (simp [*]; done)), H', ⟨by have := HK1.out; omega⟩, ⟨by (with_reducible repeat (first | apply Kd.R_alloc | apply Kd.R_drewN | apply Kd.R_drew)); exact HO_17.out⟩, ⟨by repeat (first | (with_reducible first | exact HB.out | apply below_alloc | apply pw_below_drewN | apply below_drew1) | exact HB.out)⟩⟩
                · rw [if_neg c11] at H
                  exact absurd H (by simp)
            · rw [if_neg c8] at H
              exact absurd H (by simp)
          · rw [if_neg c7] at H
            exact absurd H (by simp)
        · rw [if_neg c6] at H
          have c6b0 : decide (x19_1 < (t228.length : Int)) = false := decide_eq_false c6
          clear c6
          simp only [Option.some.injEq, Prod.mk.injEq] at H
          obtain ⟨rfl, rfl⟩ := H
          go_wp2
          go_ret2
          exact ⟨by first | rfl | (simp [errW_none, errW_some] <;> rfl) | (simp [*, errW_none, errW_some] <;> rfl), by repeat (first | (with_reducible first | exact HB.out | apply below_alloc | apply pw_below_drewN | apply below_drew1) | exact HB.out)⟩
  · rw [if_neg c3] at H
    have c3b0 : (t229 == 0) = false := beq_eq_false_iff_ne.mpr c3
    have c3b1 : (t229 != 0) = true := bne_iff_ne.mpr c3
    simp only [Option.some.injEq, Prod.mk.injEq] at H
    obtain ⟨rfl, rfl⟩ := H
    go_enter Try.func20, Try.ntmps20
    go_wp2_with (first | ((with_reducible refine gate_callee (f := 18) rfl ?_); refine goesL_ (some 11) rfl rfl Try.func18 (by kernel_rfl) rfl #[.slice A0 l0.length c0] rfl (by (try simp only [List.map_toArray, List.map_cons, List.map_nil]); first | done | rfl | (simp only [List.length_drop, List.length_take]; rfl)) ?_; (with_reducible refine (stemma_Letters.calls k _ _ l0 t228 t229 _ ?side1 ?side2 A2.out).mono ?_); (case side1 => repeat (first | exact HR0.out | (with_reducible refine Kd.C_alloc ?_ _) | (with_reducible refine Kd.C_drewN ?_ _) | (with_reducible refine Kd.C_drew ?_))); (case side2 => exact HC0.out); rintro e w12 ⟨v230, rfl, ho0, hb⟩; refine ⟨_, rfl, ?_⟩; have n0_ := Aside0.mk (Kd.R_lower ho0 (below_size (by repeat (first | (with_reducible first | exact HB.out | apply below_alloc | apply pw_below_drewN | apply below_drew1) | exact HB.out)))); have n1_ := Aside0.mk (below_step (by repeat (first | (with_reducible first | exact HB.out | apply below_alloc | apply pw_below_drewN | apply below_drew1) | exact HB.out)) hb); clear HB; have HO231 := n0_; have HB := n1_; clear n0_ n1_; (try clear hb); (try clear hb2); (try clear hk); (try clear hi); (try clear ho0)))
    go_ret2
    exact ⟨by first | rfl | (simp [errW_none, errW_some] <;> rfl) | (simp [*, errW_none, errW_some] <;> rfl), by repeat (first | (with_reducible first | exact HB.out | apply below_alloc | apply pw_below_drewN | apply below_drew1) | exact HB.out)⟩
end Go.Proofs.Ytegjollhajgcdaa.P
namespace Go.Proofs.Ytegjollhajgcdaa.P.OwnSt
open Go.RowKit Go.Shelf Go.Proofs.YtegjollhajgcdaaW.PrintWords Go.Proofs.YtegjollhajgcdaaW.PrintLast Go.Proofs.YtegjollhajgcdaaW.PrintMore
set_option linter.unusedVariables false
set_option linter.unusedSimpArgs false
theorem treesG_of_mem (l : List S24) : ∀ (rem i : Nat) (s t : Nat → Int), t ∈ treesG l rem i s → (∀ k, k < i → t k = s k) ∧ (∀ k, i + rem ≤ k → t k = s k) ∧ ∀ k, i ≤ k → k < i + rem → -1 ≤ t k ∧ t k < k ∧ canF l k (t k) = true := by
  intro rem
  induction rem with
  | zero =>
    intro i s t h
    simp [treesG] at h
    subst h
    exact ⟨fun _ _ => rfl, fun _ _ => rfl, fun k h1 h2 => by omega⟩
  | succ rem ih =>
    intro i s t h
    simp only [treesG, List.mem_flatMap, List.mem_range] at h
    obtain ⟨f, hf, h⟩ := h
    split at h
    · rename_i hc
      obtain ⟨h1, h2, h3⟩ := ih (i + 1) _ t h
      have hi : t i = (f : Int) - 1 := by rw [h1 i (by omega)]; simp [upd]
      refine ⟨fun k hk => ?_, fun k hk => ?_, fun k h4 h5 => ?_⟩
      · rw [h1 k (by omega)]; simp [upd, show k ≠ i by omega]
      · rw [h2 k (by omega)]; simp [upd, show k ≠ i by omega]
      · by_cases e : k = i
        · subst e
          rw [hi]
          exact ⟨by omega, by omega, hc⟩
        · exact h3 k (by omega) (by omega)
    · simp at h
theorem treesG_mem (l : List S24) : ∀ (rem i : Nat) (s t : Nat → Int), (∀ k, k < i → t k = s k) → (∀ k, i + rem ≤ k → t k = s k) → (∀ k, i ≤ k → k < i + rem → -1 ≤ t k ∧ t k < k ∧ canF l k (t k) = true) → t ∈ treesG l rem i s := by
  intro rem
  induction rem with
  | zero =>
    intro i s t h1 h2 h3
    have : t = s := funext fun k => by
      by_cases e : k < i
      · exact h1 k e
      · exact h2 k (by omega)
    simp [treesG, this]
  | succ rem ih =>
    intro i s t h1 h2 h3
    have h4 := h3 i (by omega) (by omega)
    simp only [treesG, List.mem_flatMap, List.mem_range]
    refine ⟨(t i + 1).toNat, by omega, ?_⟩
    have e : (((t i + 1).toNat : Nat) : Int) - 1 = t i := by omega
    rw [e, if_pos h4.2.2]
    refine ih (i + 1) _ t (fun k hk => ?_) (fun k hk => ?_) (fun k h5 h6 => h3 k (by omega) (by omega))
    · by_cases e2 : k = i
      · subst e2; simp [upd]
      · rw [h1 k (by omega)]; simp [upd, e2]
    · rw [h2 k (by omega)]; simp [upd, show k ≠ i by omega]
theorem knownV_mem {l : List S24} {s : Nat → Int} (h : s ∈ knownV l) : (∀ k, k < l.length → -1 ≤ s k ∧ s k < k ∧ canF l k (s k) = true) ∧ (∀ k, l.length ≤ k → s k = 0) ∧ liesB l s = true := by
  unfold knownV at h
  rw [List.mem_filter] at h
  obtain ⟨_, h2, h3⟩ := treesG_of_mem l l.length 0 _ s h.1
  exact ⟨fun k hk => h3 k (by omega) (by omega), fun k hk => h2 k (by omega), h.2⟩
theorem mem_knownV {l : List S24} {s : Nat → Int} (h1 : ∀ k, k < l.length → -1 ≤ s k ∧ s k < k ∧ canF l k (s k) = true) (h2 : ∀ k, l.length ≤ k → s k = 0) (h3 : liesB l s = true) : s ∈ knownV l := by
  unfold knownV
  rw [List.mem_filter]
  exact ⟨treesG_mem l l.length 0 _ s (fun k hk => by omega) (fun k hk => h2 k (by omega)) (fun k _ hk => h1 k (by omega)), h3⟩
def dependsV (l : List S24) (a b : Int) : Int × Int :=
  if checkV l ≠ 0 then (0, checkV l) else if min a b < 0 ∨ (l.length : Int) ≤ max a b then (0, 3) else if knownE l ≠ 0 then (0, knownE l) else (verdictI ((knownV l).countP fun s => dependB s a.toNat b.toNat) (knownV l).length, 0)
set_option maxHeartbeats 2000000 in
set_option maxRecDepth 100000 in
theorem depends_calls (A : Option Addr) (c : Nat) (l : List S24) (a b : Int) (w : World) (hr : Kd.C k24 w A l.length l) (hc : l.length ≤ c) :
    Calls Try.prog 37 #[.slice A l.length c, .int .i64 a, .int .i64 b] w fun e w' => e = .returned (.tuple #[.int .i64 (dependsV l a b).1, .int .i64 (dependsV l a b).2]) ∧ Below w.heap.size w w' := by
  obtain ⟨k, hk⟩ := (check_ev l).rounds
  have HR := Aside0.mk hr
  have HK := Aside0.mk hk
  clear hr hk
  obtain ⟨ba, hba⟩ : ∃ ba, ba = w.heap.size := ⟨_, rfl⟩
  by_cases h1 : checkV l = 0
  · have hv := valid_of_check h1
    have h5 := hv.five
    have H1 := Aside0.mk h1
    rw [h1] at HK
    clear h1 hv
    obtain ⟨dv, hdv⟩ : ∃ dv, dv = dependsV l a b := ⟨_, rfl⟩
    rw [← hdv]
    have HDV := Aside0.mk hdv
    clear hdv
    go_enter Try.func37, Try.ntmps37
    go_upto_region 4 with (first | (go_at_call 39; refine (stemma_Check.calls k A c l 0 _ (Kd.C_below HR.out (((Below.refl _ _).alloc (Nat.le_refl _) _).alloc (by simp) _)) hc HK.out).mono ?_; rintro e w2 ⟨rfl, hd2⟩; have HD := Aside0.mk hd2; clear hd2))
    rw [← hba]
    refine wp_gen (fun wx => Aside0 (Below w.heap.size w wx) ∧ Aside0 (wx.heap[ba]? = some (.cells #[.int .i64 a] 3 (0, 0)) ∧ wx.heap[ba + 1]? = some (.cells #[.int .i64 b] 3 (0, 0)))) ?_ ?_
    · refine ⟨⟨(((Below.refl w.heap.size w).alloc (Nat.le_refl _) _).alloc (by simp) _).trans (HD.out.mono (by simp; omega))⟩, ⟨blk_below (blk_alloc (by rw [hba]; exact blk_new w _) _) HD.out, blk_below ?_ HD.out⟩⟩
      rw [hba]
      have := blk_new (w.alloc (.cells #[.int .i64 a] 3)) (.cells #[.int .i64 b] 3)
      rwa [World.size_alloc] at this
    clear HD hba w2
    rintro W1 ⟨HB, HX⟩
    have c1 := (blk_cell HX.out.1 0).trans (show (#[Value.int .i64 a] : Array Value)[0]? = some _ from rfl)
    have c2 := (blk_cell HX.out.2 0).trans (show (#[Value.int .i64 b] : Array Value)[0]? = some _ from rfl)
    by_cases h3 : min a b < 0
    · have hV : dv = (0, 3) := by rw [HDV.out]; unfold dependsV; rw [if_neg (by simpa using H1.out), if_pos (.inl h3)]
      subst hV
      go_wp2_with fail
      all_goals exact bodyPost_ret (results_tmp2 rfl _ _ _) rfl ⟨rfl, HB.out⟩
    · by_cases h4 : (l.length : Int) ≤ max a b
      · have hV : dv = (0, 3) := by rw [HDV.out]; unfold dependsV; rw [if_neg (by simpa using H1.out), if_pos (.inr h4)]
        subst hV
        go_wp2_with fail
        all_goals exact bodyPost_ret (results_tmp2 rfl _ _ _) rfl ⟨rfl, HB.out⟩
      · obtain ⟨an, rfl⟩ : ∃ an : Nat, a = (an : Int) := ⟨a.toNat, by omega⟩
        obtain ⟨bn, rfl⟩ : ∃ bn : Nat, b = (bn : Int) := ⟨b.toNat, by omega⟩
        have ha : an < l.length := by omega
        have hb : bn < l.length := by omega
        have g1 : ¬ ((an : Int) < 0) := by omega
        have g2 : ¬ ((bn : Int) < 0) := by omega
        have g3 : ¬ ((l.length : Int) ≤ (an : Int)) := by omega
        have g4 : ¬ ((l.length : Int) ≤ (bn : Int)) := by omega
        have HHH := Aside0.mk (And.intro h3 h4)
        have m1 : min (an : Int) (bn : Int) = ((min an bn : Nat) : Int) := by omega
        have m2 : max (an : Int) (bn : Int) = ((max an bn : Nat) : Int) := by omega
        have m3 : max an bn < l.length := by omega
        clear h3 h4
        by_cases hk : knownE l = 0
        · have HKE := Aside0.mk hk
          have HKL := Aside0.mk (known_len l h5)
          have hV : dv = (verdictI ((knownV l).countP fun s => dependB s an bn) (knownV l).length, 0) := by
            rw [HDV.out]; unfold dependsV; rw [if_neg (by simpa using H1.out), if_neg (by have := HHH.out; omega), if_neg (by simpa using hk)]; rfl
          subst hV
          clear hk
          go_upto_region 9 with (first | (go_at_call 48; refine (known_ok A c l W1 (Kd.C_below HR.out HB.out) hc HKE.out).mono ?_; rintro e w2 ⟨gv, cv, rfl, hB, hown⟩; have HB2 := Aside0.mk hB; have HOWN := Aside0.mk hown; clear hB hown))
          all_goals
            have hvc := verdicts_calls 64 (enters_of Try.func64 (by kernel_rfl) rfl) A l.length c (knownV l) gv cv W1.heap.size w2.heap.size 1 w2.heap.size [#[.pointer (some ⟨ba, 0, none⟩), .pointer (some ⟨ba + 1, 0, none⟩)]] [fun s => dependB s an bn]
              (w2.alloc (.cells #[.func (.func 64) #[] #[.pointer (some ⟨ba, 0, none⟩), .pointer (some ⟨ba + 1, 0, none⟩)]] 101)) (own_move HOWN.out (fun k hk => by
                obtain ⟨_, h2⟩ := own_typed HOWN.out k hk
                exact Below.heap_alloc _ _ _ (blk_lt h2)))
              ⟨rfl, .inr ⟨w2.heap.size, 1, #[.func (.func 64) #[] #[.pointer (some ⟨ba, 0, none⟩), .pointer (some ⟨ba + 1, 0, none⟩)]], rfl, Nat.le_refl _, blk_new w2 _, Nat.le_refl _, by decide, rfl, rfl⟩⟩ rfl (by
                intro j lb p hlb hp s hs W' hW'
                cases j with
                | succ j => simp at hlb
                | zero =>
                  simp at hlb hp
                  subst hlb
                  subst hp
                  have hm := knownV_mem hs
                  have h64 := ask64_calls A l.length c s ba (ba + 1) an bn W' (by omega) (fun i hi => by
                    by_cases e : i < l.length
                    · exact ⟨(hm.1 i e).1, .inl (hm.1 i e).2.1⟩
                    · rw [hm.2.1 i (by omega)]; exact ⟨by decide, .inr rfl⟩) (hm.1 an ha).2.1
                    (blk_below (blk_alloc (blk_below HX.out.1 HB2.out) _) hW') (blk_below (blk_alloc (blk_below HX.out.2 HB2.out) _) hW')
                  simpa using h64) HKL.out (by simp)
            have HVC := Aside0.mk hvc
            clear hvc
            go_wp2_with (first
              | (go_at_call 61; refine HVC.out.mono ?_; rintro e w7 ⟨v7, rfl, hR7, hB7⟩; obtain ⟨A7, c7, rfl⟩ := Kd.R_slice hR7; obtain ⟨ad, cc, rfl, _, hK7, hc7⟩ := Kd.C_get (Kd.R_reads' hR7).2.2 0 0 (by decide) (by simp); have HB7 := Aside0.mk hB7; have hcell : w7.cell? ad = some (.int .i64 (verdictI ((knownV l).countP fun s => dependB s an bn) (knownV l).length)) := (by have h9 := hc7 0 (.int .i64 (verdictI ((knownV l).countP fun s => dependB s an bn) (knownV l).length)) (by rw [show cc = [_] from hK7]; rfl); simpa only [Int.toNat_zero, Nat.zero_mul, Nat.add_zero, Addr.add_zero'] using h9); clear hR7 hB7 hc7 hK7))
            all_goals exact bodyPost_ret (results_tmp2 rfl _ _ _) rfl ⟨rfl, HB.out.trans ((HB2.out.trans (((Below.refl _ _).alloc (Nat.le_refl _) _).mono HB2.out.size |>.trans (HB7.out.mono (by have := HB2.out.size; simp; omega)))).mono HB.out.size)⟩
        · have HKE := Aside0.mk hk
          obtain ⟨e0, he0⟩ : ∃ e0, e0 = knownE l := ⟨_, rfl⟩
          have hV : dv = (0, e0) := by
            rw [HDV.out, he0]; unfold dependsV; rw [if_neg (by simpa using H1.out), if_neg (by have := HHH.out; omega), if_pos hk]
          have b1 : (e0 != 0) = true := bne_iff_ne.2 (by rw [he0]; exact hk)
          have HE := Aside0.mk he0
          subst hV
          clear hk he0
          go_wp2_with (first | (go_at_call 48; refine (known_err A c l W1 (Kd.C_below HR.out HB.out) hc HKE.out).mono ?_; rintro e w2 ⟨rfl, hB⟩; rw [← HE.out]; have HB2 := Aside0.mk hB; clear hB))
          all_goals exact bodyPost_ret (results_tmp2 rfl _ _ _) rfl ⟨rfl, HB.out.trans (HB2.out.mono HB.out.size)⟩
  · have hV : dependsV l a b = (0, checkV l) := by unfold dependsV; rw [if_pos h1]
    obtain ⟨e0, he0⟩ : ∃ e0, e0 = checkV l := ⟨_, rfl⟩
    rw [hV, ← he0]
    have HE := Aside0.mk he0
    have b1 : (e0 != 0) = true := bne_iff_ne.2 (by rw [he0]; exact h1)
    clear h1 hV he0
    go_enter Try.func37, Try.ntmps37
    go_wp2_with (first | (go_at_call 39; refine (stemma_Check.calls k A c l (checkV l) _ (Kd.C_below HR.out (((Below.refl _ _).alloc (Nat.le_refl _) _).alloc (by simp) _)) hc HK.out).mono ?_; rintro e w2 ⟨rfl, hd2⟩; rw [← HE.out]; have HD := Aside0.mk ((((Below.refl w.heap.size w).alloc (Nat.le_refl _) _).alloc (by simp) _).trans (hd2.mono (by simp; omega))); clear hd2))
    exact bodyPost_ret (results_tmp2 rfl _ _ _) rfl ⟨rfl, HD.out⟩
end Go.Proofs.Ytegjollhajgcdaa.P.OwnSt
namespace Go.Proofs.Ytegjollhajgcdaa.P.OwnSt
open Go.RowKit Go.Shelf Go.Proofs.YtegjollhajgcdaaW.PrintWords Go.Proofs.YtegjollhajgcdaaW.PrintLast Go.Proofs.YtegjollhajgcdaaW.PrintMore
set_option linter.unusedVariables false
set_option linter.unusedSimpArgs false
def apTo (l : List S24) (s : Nat → Int) : Nat → Int
  | 0 => 0
  | k + 1 => apTo l s k + if s k = -1 then 0 else apN (rd_T24 l (s k)).f0 (rd_T24 l (k : Int)).f0 (rd_T24 l (s k)).f0.size
def numF (l : List S24) (s : Nat → Int) : Int := leastV l s (-1) 0 + apTo l s l.length
theorem apTo_bound (l : List S24) (s : Nat → Int) (hv : Valid l) (hs : ∀ k, k < l.length → -1 ≤ s k ∧ s k < k) : ∀ k, k ≤ l.length → 0 ≤ apTo l s k ∧ apTo l s k ≤ 8 * k := by
  intro k
  induction k with
  | zero => intro _; simp [apTo]
  | succ k ih =>
    intro hk
    have h1 := ih (by omega)
    unfold apTo
    split
    · omega
    · have h2 := apN_bound (rd_T24 l (s k)).f0 (rd_T24 l (k : Int)).f0 (rd_T24 l (s k)).f0.size
      have h3 := hs k (by omega)
      obtain ⟨sn, hsn⟩ : ∃ sn : Nat, s k = (sn : Int) := ⟨(s k).toNat, by omega⟩
      rw [hsn] at h2 ⊢
      have h4 := hv.size sn (by omega)
      have := hv.high
      omega
set_option maxHeartbeats 2000000 in
set_option maxRecDepth 100000 in
theorem ask57_calls (A : Option Addr) (c : Nat) (l : List S24) (s : Nat → Int) (bl : Nat) (w : World) (hr : Kd.C k24 w A l.length l) (hc : l.length ≤ c) (hv : Valid l) (hs : ∀ k, k < l.length → -1 ≤ s k ∧ s k < k) (hbl : w.heap[bl]? = some (.cells #[.slice A l.length c] 22 (0, 0))) :
    Calls Try.prog 57 #[lostV A l.length c s, .pointer (some ⟨bl, 0, none⟩)] w fun e w' => e = .returned (.int .i64 (numF l s)) ∧ Below w.heap.size w w' := by
  have HR := Aside0.mk hr
  have HV := Aside0.mk hv
  have HS := Aside0.mk hs
  have h1 := hv.one
  have h5 := hv.five
  have HX0 := Aside0.mk (show LostAt (w.alloc (.cells #[.slice A l.length c, .int .i64 (s 0), .int .i64 (s 1), .int .i64 (s 2), .int .i64 (s 3), .int .i64 (s 4)] 84)) w.heap.size A l.length c s from blk_new w _)
  have HL0 := Aside0.mk (blk_alloc hbl (.cells #[.slice A l.length c, .int .i64 (s 0), .int .i64 (s 1), .int .i64 (s 2), .int .i64 (s 3), .int .i64 (s 4)] 84))
  have HB0 := Aside0.mk ((Below.refl w.heap.size w).alloc (Nat.le_refl _) (.cells #[.slice A l.length c, .int .i64 (s 0), .int .i64 (s 1), .int .i64 (s 2), .int .i64 (s 3), .int .i64 (s 4)] 84))
  clear hr hv hs hbl
  have hmix : Try.prog.follows Departure.mixedOrders = true := by kernel_rfl
  unfold lostV
  go_enter Try.func57, Try.ntmps57
  go_upto_region 1 with fail
  obtain ⟨bx, hbx⟩ : ∃ bx, bx = w.heap.size := ⟨_, rfl⟩
  rw [← hbx] at HX0 ⊢
  refine wp_gen (fun wx => Aside0 (LostAt wx bx A l.length c s) ∧ Aside0 (wx.heap[bl]? = some (.cells #[.slice A l.length c] 22 (0, 0))) ∧ Aside0 (Below w.heap.size w wx)) ⟨HX0, HL0, HB0⟩ ?_
  clear hbx HX0 HL0 HB0
  rintro W1 ⟨HX, HL, HB⟩
  obtain ⟨x0, x1, x2, x3, x4, x5⟩ := HX.out.cells
  have hxl := blk_lt HX.out
  obtain ⟨nl, hnl⟩ : ∃ nl, nl = leastV l s (-1) 0 := ⟨_, rfl⟩
  have HNL := Aside0.mk hnl
  clear hnl
  go_upto_region 2 with (first | (go_at_call 51; refine (least_calls A c l s (-1) 0 _ (Kd.C_below HR.out HB.out) hc h1 h5 HV.out.size HV.out.high (fun i hi => ⟨(HV.out.err i hi).1, by have := (HV.out.err i hi).2; omega⟩)).mono ?_; rintro e w5 ⟨rfl, hB5⟩; rw [← HNL.out]; have HB5 := Aside0.mk hB5; clear hB5))
  refine wp_gen (fun wx => Aside0 (LostAt wx bx A l.length c s) ∧ Aside0 (wx.heap[bl]? = some (.cells #[.slice A l.length c] 22 (0, 0))) ∧ Aside0 (Below w.heap.size w wx)) ⟨⟨HX.out.below HB5.out⟩, ⟨blk_below HL.out HB5.out⟩, ⟨HB.out.trans (HB5.out.mono HB.out.size)⟩⟩ ?_
  clear HX HL HB HB5 w5 W1 x0 x1 x2 x3 x4 x5 hxl
  rintro W1 ⟨HX, HL, HB⟩
  obtain ⟨x0, x1, x2, x3, x4, x5⟩ := HX.out.cells
  have hxl := blk_lt HX.out
  have hl0 := (blk_cell HL.out 0).trans (show (#[Value.slice A l.length c] : Array Value)[0]? = some _ from rfl)
  have hsl : (Instr.sliceAt 82 (.pointer (some ⟨bx, 1, none⟩)) none (some (.int .i64 (l.length : Int))) none).run Try.prog W1 = .ok (.slice (some ⟨bx, 1, none⟩) l.length 5) W1 := by
    have h82 : Try.prog.underlying 82 = some (.array 5 3) := by kernel_rfl
    have hal : Try.prog.arrayLen 82 = 5 := by simp [Program.arrayLen, h82]
    have hel : Try.prog.elem 82 = 3 := by simp [Program.elem, h82]
    rw [run_sliceAt_array_h W1 82 ⟨bx, 1, none⟩ (by rw [hal, hel]; exact h82) .i64 (l.length : Int) (by omega) (by rw [hal]; omega), hal, hel]
    go_simp
  go_wp2_with fail
  have hnb := leastV_bound l s (-1) 0
  rw [← HNL.out] at hnb
  have HNB := Aside0.mk hnb
  clear hnb hsl x0 x1 x2 x3 x4 x5 hxl hl0
  go_loopg [4, 14] l.length (fun k s4 s14 wr => ∃ i : Nat, i + k = l.length ∧ s14 = .int .i64 (i : Int) ∧ s4 = .int .i64 (nl + apTo l s i) ∧ Aside0 (LostAt wr bx A l.length c s) ∧ Aside0 (wr.heap[bl]? = some (.cells #[.slice A l.length c] 22 (0, 0))) ∧ Aside0 (Below w.heap.size w wr))
  case atStart => exact ⟨0, by omega, rfl, by simp [apTo], HX, HL, HB⟩
  case round =>
    clear HX HL HB
    obtain ⟨i, hik, rfl, rfl, HX, HL, HB⟩ := hrel
    have HIK := Aside0.mk hik
    clear hik
    have hab := apTo_bound l s HV.out HS.out i (by have := HIK.out; omega)
    obtain ⟨acc, hacc⟩ : ∃ acc, acc = nl + apTo l s i := ⟨_, rfl⟩
    rw [← hacc]
    have ha0 : 0 ≤ acc := by have := HNB.out; omega
    have ha1 : acc ≤ 2000000 := by have := HNB.out; have := HIK.out; omega
    have HAC := Aside0.mk hacc
    clear hab hacc
    by_cases hi : i < l.length
    · have hx := HX.out.src i (by omega)
      have hxl := blk_lt HX.out
      have hl0 := (blk_cell HL.out 0).trans (show (#[Value.slice A l.length c] : Array Value)[0]? = some _ from rfl)
      by_cases hsi : s i = -1
      · have HSI := Aside0.mk hsi
        have b1 : (s i != -1) = false := by rw [hsi]; rfl
        clear hsi
        go_wp2_with fail
        go_roundg (gk - 1)
        case measure => have := HIK.out; omega
        case rel =>
          refine ⟨i + 1, by have := HIK.out; omega, by go_num, ?_, HX, HL, HB⟩
          rw [apTo, if_pos HSI.out, Int.add_zero, HAC.out]
      · have HSI := Aside0.mk hsi
        have b1 : (s i != -1) = true := bne_iff_ne.2 hsi
        have hsb := HS.out i hi
        obtain ⟨sn, hsn⟩ : ∃ sn : Nat, s i = (sn : Int) := ⟨(s i).toNat, by omega⟩
        have HSN := Aside0.mk hsn
        rw [hsn] at hx b1 hsb
        have hsn5 : sn < l.length := by omega
        obtain ⟨ad, hA, y0, _⟩ := at_T24 (Kd.C_below HR.out HB.out) (sn : Int) (by omega) (by omega)
        subst hA
        obtain ⟨ad', hA', z0, _⟩ := at_T24 (Kd.C_below HR.out HB.out) (i : Int) (by omega) (by omega)
        injection hA' with hA'
        subst hA'
        have hap := apart_f (rd_T24 l (sn : Int)).f0 (rd_T24 l (i : Int)).f0 (by rw [HV.out.size sn hsn5, HV.out.size i hi]; exact Nat.le_refl _) (by rw [HV.out.size sn hsn5]; have := HV.out.high; omega)
        have hapb := apN_bound (rd_T24 l (sn : Int)).f0 (rd_T24 l (i : Int)).f0 (rd_T24 l (sn : Int)).f0.size
        have hsz := HV.out.size sn hsn5
        have h8 := HV.out.high
        obtain ⟨ap, hapE⟩ : ∃ ap, ap = apN (rd_T24 l (sn : Int)).f0 (rd_T24 l (i : Int)).f0 (rd_T24 l (sn : Int)).f0.size := ⟨_, rfl⟩
        rw [← hapE] at hap hapb
        have hap0 : 0 ≤ ap := hapb.1
        have hap8 : ap ≤ 8 := by omega
        have HAP := Aside0.mk hap
        have HAE := Aside0.mk hapE
        clear hap hapb hapE hsz h8 hsn hsi hsb
        simp only [Int.toNat_natCast] at y0 z0
        have hadl := World.block_lt_of_cell? wr _ y0
        have hi1 : (sn : Int) < (l.length : Int) := by omega
        have hi2 : (i : Int) < (l.length : Int) := by omega
        go_upto_region 6 with fail
        go_quiet (first | (go_at_call 58; exact Calls.quiet_of ((stemma_apart.calls _ _ _ ap _ HAP.out).mono (fun e w' h => ⟨h.1, h.2.out⟩))))
        go_wp2_with fail
        go_roundg (gk - 1)
        case measure => have := HIK.out; omega
        case rel =>
          refine ⟨i + 1, by have := HIK.out; omega, by go_num, ?_, ⟨HX.out.below (pw_below_drewN (Below.refl _ _) nq)⟩, ⟨blk_below HL.out (pw_below_drewN (Below.refl _ _) nq)⟩, ⟨HB.out.trans ((pw_below_drewN (Below.refl _ _) nq).mono HB.out.size)⟩⟩
          rw [apTo, if_neg HSI.out, HSN.out, ← HAE.out, ← Int.add_assoc, ← HAC.out]
    · have hii : i = l.length := by have := HIK.out; omega
      have HII := Aside0.mk hii
      clear hii
      go_wp2_with fail
      refine bodyPost_ret (results_tmp rfl _ _ _) rfl ⟨?_, HB.out⟩
      unfold numF
      rw [← HNL.out, ← HII.out, ← HAC.out]
      rfl
theorem ask57_calls' (A : Option Addr) (c : Nat) (l : List S24) (s : Nat → Int) (bl : Nat) (w : World) (hr : Kd.C k24 w A l.length l) (hc : l.length ≤ c) (hv : Valid l) (hs : ∀ k, k < l.length → -1 ≤ s k ∧ s k < k) (hbl : w.heap[bl]? = some (.cells #[.slice A l.length c] 22 (0, 0))) :
    Calls Try.prog 57 #[.agg #[.slice A l.length c, .int .i64 (s 0), .int .i64 (s 1), .int .i64 (s 2), .int .i64 (s 3), .int .i64 (s 4)], .pointer (some ⟨bl, 0, none⟩)] w fun e w' => e = .returned (.int .i64 (numF l s)) ∧ Below w.heap.size w w' := ask57_calls A c l s bl w hr hc hv hs hbl
theorem isNaN_calls (x : Int) (w : World) : Calls Try.prog 78 #[.int .i64 x] w fun e w' => e = .returned (.bool false) ∧ w' = w := by
  go_enter Try.func78, Try.ntmps78
  go_wp2_with fail
  exact bodyPost_ret (results_tmp rfl _ _ _) rfl ⟨rfl, rfl⟩
def cmpI (x y : Int) : Int := if x < y then -1 else if y < x then 1 else 0
theorem compare_calls (x y : Int) (w : World) : Calls Try.prog 71 #[.int .i64 x, .int .i64 y] w fun e w' => e = .returned (.int .i64 (cmpI x y)) ∧ w' = w := by
  by_cases h1 : x < y
  · have h : cmpI x y = -1 := by unfold cmpI; rw [if_pos h1]
    rw [h]
    go_enter Try.func71, Try.ntmps71
    go_wp2_with (first | (go_at_call 78; refine (isNaN_calls _ _).mono ?_; rintro e w2 ⟨rfl, rfl⟩))
    exact bodyPost_ret (results_tmp rfl _ _ _) rfl ⟨rfl, rfl⟩
  · by_cases h2 : y < x
    · have h : cmpI x y = 1 := by unfold cmpI; rw [if_neg h1, if_pos h2]
      rw [h]
      have b1 : decide (x < y) = false := decide_eq_false h1
      have b2 : decide (y < x) = true := decide_eq_true h2
      clear h
      go_enter Try.func71, Try.ntmps71
      go_wp2_with (first | (go_at_call 78; refine (isNaN_calls _ _).mono ?_; rintro e w2 ⟨rfl, rfl⟩))
      exact bodyPost_ret (results_tmp rfl _ _ _) rfl ⟨rfl, rfl⟩
    · have h : cmpI x y = 0 := by unfold cmpI; rw [if_neg h1, if_neg h2]
      rw [h]
      have b1 : decide (x < y) = false := decide_eq_false h1
      have b2 : decide (y < x) = false := decide_eq_false h2
      clear h
      go_enter Try.func71, Try.ntmps71
      go_wp2_with (first | (go_at_call 78; refine (isNaN_calls _ _).mono ?_; rintro e w2 ⟨rfl, rfl⟩))
      exact bodyPost_ret (results_tmp rfl _ _ _) rfl ⟨rfl, rfl⟩
structure TrAt (A : Option Addr) (c : Nat) (l : List S24) (bl : Nat) (W : World) : Prop where
  list : Kd.C k24 W A l.length l
  box : W.heap[bl]? = some (.cells #[.slice A l.length c] 22 (0, 0))
theorem TrAt.below {A : Option Addr} {c : Nat} {l : List S24} {bl : Nat} {W W' : World} (h : TrAt A c l bl W) (hb : Below W.heap.size W W') : TrAt A c l bl W' := ⟨Kd.C_below h.list hb, blk_below h.box hb⟩
def numV (bl : Nat) : Value := .func (.func 57) #[] #[.pointer (some ⟨bl, 0, none⟩)]
def SrcOk (l : List S24) (s : Nat → Int) : Prop := ∀ k, k < l.length → -1 ≤ s k ∧ s k < k
set_option maxHeartbeats 2000000 in
set_option maxRecDepth 100000 in
theorem ask70_calls (A : Option Addr) (c : Nat) (l : List S24) (s t : Nat → Int) (bl bn : Nat) (w : World) (hr : TrAt A c l bl w) (hc : l.length ≤ c) (hv : Valid l) (hs : SrcOk l s) (ht : SrcOk l t) (hbn : w.heap[bn]? = some (.cells #[numV bl] 97 (0, 0))) :
    Calls Try.prog 70 #[lostV A l.length c s, lostV A l.length c t, .pointer (some ⟨bn, 0, none⟩)] w fun e w' => e = .returned (.int .i64 (cmpI (numF l s) (numF l t))) ∧ Below w.heap.size w w' := by
  have HR := Aside0.mk hr
  have HV := Aside0.mk hv
  have HS := Aside0.mk hs
  have HT := Aside0.mk ht
  have HN := Aside0.mk hbn
  clear hr hv hs ht hbn
  have hmix : Try.prog.follows Departure.mixedOrders = true := by kernel_rfl
  obtain ⟨ns, hns⟩ : ∃ ns, ns = numF l s := ⟨_, rfl⟩
  obtain ⟨nt, hnt⟩ : ∃ nt, nt = numF l t := ⟨_, rfl⟩
  rw [← hns, ← hnt]
  have HNS := Aside0.mk hns
  have HNT := Aside0.mk hnt
  clear hns hnt
  unfold lostV
  go_enter Try.func70, Try.ntmps70
  go_upto_region 1 with fail
  obtain ⟨ba, hba⟩ : ∃ ba, ba = w.heap.size := ⟨_, rfl⟩
  rw [← hba]
  refine wp_gen (fun wx => Aside0 (LostAt wx ba A l.length c s) ∧ Aside0 (LostAt wx (ba + 1) A l.length c t) ∧ Aside0 (TrAt A c l bl wx) ∧ Aside0 (wx.heap[bn]? = some (.cells #[numV bl] 97 (0, 0))) ∧ Aside0 (Below w.heap.size w wx)) ?_ ?_
  · subst hba
    refine ⟨⟨blk_alloc (blk_new w _) _⟩, ⟨?_⟩, ⟨HR.out.below (((Below.refl _ _).alloc (Nat.le_refl _) _).alloc (by simp) _)⟩, ⟨blk_alloc (blk_alloc HN.out _) _⟩, ⟨((Below.refl _ _).alloc (Nat.le_refl _) _).alloc (by simp) _⟩⟩
    have := blk_new (w.alloc (.cells #[.slice A l.length c, .int .i64 (s 0), .int .i64 (s 1), .int .i64 (s 2), .int .i64 (s 3), .int .i64 (s 4)] 84)) (.cells #[.slice A l.length c, .int .i64 (t 0), .int .i64 (t 1), .int .i64 (t 2), .int .i64 (t 3), .int .i64 (t 4)] 84)
    rwa [World.size_alloc] at this
  clear hba HR HN
  rintro W1 ⟨HX, HY, HR, HN, HB⟩
  obtain ⟨x0, x1, x2, x3, x4, x5⟩ := HX.out.cells
  obtain ⟨y0, y1, y2, y3, y4, y5⟩ := HY.out.cells
  have hxl := blk_lt HX.out
  have hyl := blk_lt HY.out
  have hnl := blk_lt HN.out
  have hn0 := (blk_cell HN.out 0).trans (show (#[numV bl] : Array Value)[0]? = some (.func (.func 57) #[] #[.pointer (some ⟨bl, 0, none⟩)]) from rfl)
  have HRd := HR.out.below (below_drew (Below.refl _ _))
  have HC57 := Aside0.mk (ask57_calls' A c l s bl W1.drew HRd.list hc HV.out HS.out HRd.box)
  clear HRd
  go_region_held3 (fun w' => (w'.cell? ⟨bn, 0, none⟩ = some (.func (.func 57) #[] #[.pointer (some ⟨bl, 0, none⟩)]) ∧ (w'.cell? ⟨ba, 0, none⟩ = some (.slice A l.length c) ∧ w'.cell? ⟨ba, 1, none⟩ = some (.int .i64 (s 0)) ∧ w'.cell? ⟨ba, 2, none⟩ = some (.int .i64 (s 1)) ∧ w'.cell? ⟨ba, 3, none⟩ = some (.int .i64 (s 2)) ∧ w'.cell? ⟨ba, 4, none⟩ = some (.int .i64 (s 3)) ∧ w'.cell? ⟨ba, 5, none⟩ = some (.int .i64 (s 4))) ∧ (w'.cell? ⟨ba + 1, 0, none⟩ = some (.slice A l.length c) ∧ w'.cell? ⟨ba + 1, 1, none⟩ = some (.int .i64 (t 0)) ∧ w'.cell? ⟨ba + 1, 2, none⟩ = some (.int .i64 (t 1)) ∧ w'.cell? ⟨ba + 1, 3, none⟩ = some (.int .i64 (t 2)) ∧ w'.cell? ⟨ba + 1, 4, none⟩ = some (.int .i64 (t 3)) ∧ w'.cell? ⟨ba + 1, 5, none⟩ = some (.int .i64 (t 4)))))
    (first | exact ⟨hn0, ⟨x0, x1, x2, x3, x4, x5⟩, ⟨y0, y1, y2, y3, y4, y5⟩⟩ | exact ⟨hn3, HX3.out.cells, HY3.out.cells⟩ | exact ⟨hn4, HX4.out.cells, HY4.out.cells⟩)
    (first
      | (go_at_call 57; (with_reducible refine HC57.out.mono ?_); rintro e w3 ⟨rfl, hB3⟩; rw [← HNS.out]; have HB3 := Aside0.mk ((below_drew (Below.refl W1.heap.size W1)).trans hB3); have HX3 := Aside0.mk (HX.out.below HB3.out); have HY3 := Aside0.mk (HY.out.below HB3.out); have HR3 := Aside0.mk (HR.out.below HB3.out); have hn3 := (HB3.out.cell (p := ⟨bn, 0, none⟩) hnl).trans hn0; clear hB3)
      | (go_at_call 57; have hct := ask57_calls' A c l t bl w3 HR3.out.list hc HV.out HT.out HR3.out.box; (with_reducible refine hct.mono ?_); clear hct; rintro e w4 ⟨rfl, hB4⟩; rw [← HNT.out]; have HB4 := Aside0.mk hB4; have HX4 := Aside0.mk (HX3.out.below hB4); have HY4 := Aside0.mk (HY3.out.below hB4); have hn4 := (hB4.cell (p := ⟨bn, 0, none⟩) (Nat.lt_of_lt_of_le hnl HB3.out.size)).trans hn3; clear hB4)
      | (go_at_call 71; refine (compare_calls ns nt _).mono ?_; rintro e w5 ⟨rfl, rfl⟩))
  go_wp2_with fail
  exact bodyPost_ret (results_tmp rfl _ _ _) rfl ⟨rfl, HB.out.trans ((HB3.out.trans (HB4.out.mono HB3.out.size)).mono HB.out.size)⟩
end Go.Proofs.Ytegjollhajgcdaa.P.OwnSt
namespace Go.Proofs.Ytegjollhajgcdaa.P.OwnSt
open Go.RowKit Go.Shelf Go.Proofs.YtegjollhajgcdaaW.PrintWords Go.Proofs.YtegjollhajgcdaaW.PrintLast Go.Proofs.YtegjollhajgcdaaW.PrintMore
set_option linter.unusedVariables false
set_option linter.unusedSimpArgs false
def minF (l : List S24) : List (Nat → Int) → (Nat → Int) → (Nat → Int)
  | [], m => m
  | s :: r, m => minF l r (if numF l s < numF l m then s else m)
theorem minF_snoc (l : List S24) (s : Nat → Int) : ∀ (r : List (Nat → Int)) (m : Nat → Int), minF l (r ++ [s]) m = if numF l s < numF l (minF l r m) then s else minF l r m := by
  intro r
  induction r with
  | nil => intro m; rfl
  | cons x r ih => intro m; exact ih _
def minTo (l : List S24) (ss : List (Nat → Int)) (m : Nat → Int) (k : Nat) : Nat → Int := minF l ((ss.take k).drop 1) m
theorem minTo_one (l : List S24) (ss : List (Nat → Int)) (m : Nat → Int) : minTo l ss m 1 = m := by
  unfold minTo
  rw [show (ss.take 1).drop 1 = [] from List.eq_nil_of_length_eq_zero (by simp <;> omega)]
  rfl
theorem minTo_succ (l : List S24) (ss : List (Nat → Int)) (m : Nat → Int) (k : Nat) (h1 : 1 ≤ k) (s : Nat → Int) (hs : ss[k]? = some s) : minTo l ss m (k + 1) = if numF l s < numF l (minTo l ss m k) then s else minTo l ss m k := by
  unfold minTo
  have hk : k < ss.length := (List.getElem?_eq_some_iff.1 hs).1
  rw [List.take_add_one, hs, Option.toList_some, List.drop_append_of_le_length (by simp; omega), minF_snoc]
theorem minF_mem (l : List S24) : ∀ (r : List (Nat → Int)) (m : Nat → Int), minF l r m = m ∨ minF l r m ∈ r := by
  intro r
  induction r with
  | nil => intro m; exact .inl rfl
  | cons x r ih =>
    intro m
    unfold minF
    rcases ih (if numF l x < numF l m then x else m) with h | h
    · rw [h]
      split
      · exact .inr List.mem_cons_self
      · exact .inl rfl
    · exact .inr (List.mem_cons_of_mem _ h)
theorem minF_le (l : List S24) : ∀ (r : List (Nat → Int)) (m : Nat → Int), numF l (minF l r m) ≤ numF l m ∧ ∀ s ∈ r, numF l (minF l r m) ≤ numF l s := by
  intro r
  induction r with
  | nil => intro m; exact ⟨Int.le_refl _, fun s h => by simp at h⟩
  | cons x r ih =>
    intro m
    unfold minF
    have h := ih (if numF l x < numF l m then x else m)
    refine ⟨?_, fun s hs => ?_⟩
    · have h1 := h.1
      split at h1 <;> rename_i hc
      · simp only [hc, if_true] at h1 ⊢; omega
      · simp only [hc, if_false] at h1 ⊢; omega
    · rcases List.mem_cons.1 hs with rfl | hs
      · have h1 := h.1
        split at h1 <;> rename_i hc
        · simp only [hc, if_true] at h1 ⊢; omega
        · simp only [hc, if_false] at h1 ⊢; omega
      · exact h.2 s hs
theorem minTo_mem (l : List S24) (ss : List (Nat → Int)) (m : Nat → Int) (k : Nat) (hm : ss[0]? = some m) : minTo l ss m k ∈ ss := by
  unfold minTo
  rcases minF_mem l ((ss.take k).drop 1) m with h | h
  · rw [h]; exact List.mem_of_getElem? hm
  · exact List.mem_of_mem_take (List.mem_of_mem_drop h)
def Z84 (W : World) (b : Nat) : Prop := W.heap[b]? = some (.cells #[.slice none 0 0, .int .i64 0, .int .i64 0, .int .i64 0, .int .i64 0, .int .i64 0] 84 (0, 0))
set_option maxHeartbeats 2000000 in
set_option maxRecDepth 100000 in
theorem minFunc_calls (A : Option Addr) (c : Nat) (l : List S24) (ss : List (Nat → Int)) (m : Nat → Int) (gv cv bl bn bb : Nat) (w : World) (hr : TrAt A c l bl w) (hc : l.length ≤ c) (hv : Valid l) (hss : ∀ s ∈ ss, SrcOk l s) (hm : ss[0]? = some m) (hlen : ss.length < 10000)
    (hown : w.ownsRow bb 84 6 (.slice (some ⟨gv, 0, none⟩) ss.length cv) ss.length (lostRow A l.length c ss)) (hbn : w.heap[bn]? = some (.cells #[numV bl] 97 (0, 0))) :
    Calls Try.prog 69 #[.slice (some ⟨gv, 0, none⟩) ss.length cv, .func (.func 70) #[] #[.pointer (some ⟨bn, 0, none⟩)]] w fun e w' => e = .returned (lostV A l.length c (minTo l ss m ss.length)) ∧ Below w.heap.size w w' := by
  have HR := Aside0.mk hr
  have HV := Aside0.mk hv
  have HSS := Aside0.mk hss
  have HM := Aside0.mk hm
  have HOWN := Aside0.mk hown
  have HN := Aside0.mk hbn
  have hl1 : 1 ≤ ss.length := by
    have := (List.getElem?_eq_some_iff.1 hm).1
    omega
  obtain ⟨mn, hmn⟩ : ∃ mn, mn = minTo l ss m ss.length := ⟨_, rfl⟩
  rw [← hmn]
  have HMN := Aside0.mk hmn
  have hmix : Try.prog.follows Departure.mixedOrders = true := by kernel_rfl
  clear hr hv hss hm hown hbn hmn
  go_enter Try.func69, Try.ntmps69
  go_upto_region 1 with fail
  obtain ⟨b4, hb4⟩ : ∃ b4, b4 = w.heap.size := ⟨_, rfl⟩
  rw [← hb4]
  refine wp_gen (fun wx => Aside0 (Z84 wx b4) ∧ Aside0 (Below w.heap.size w wx) ∧ Aside0 (w.heap.size ≤ b4)) ?_ ?_
  · subst hb4
    exact ⟨⟨blk_new w _⟩, ⟨(Below.refl _ _).alloc (Nat.le_refl _) _⟩, ⟨Nat.le_refl _⟩⟩
  clear hb4
  rintro W1 ⟨HZ, HB, H4⟩
  obtain ⟨⟨y0, y1, y2, y3, y4, y5⟩, ygl⟩ := lost_cells HOWN.out HB.out 0 m HM.out
  simp only [Nat.zero_mul, Nat.zero_add] at y0 y1 y2 y3 y4 y5
  go_upto_region 4 with fail
  obtain ⟨b5, hb5⟩ : ∃ b5, b5 = W1.heap.size := ⟨_, rfl⟩
  rw [← hb5]
  refine wp_gen (fun wx => Aside0 (Z84 wx b4) ∧ Aside0 (LostAt wx b5 A l.length c (minTo l ss m 1)) ∧ Aside0 (Below w.heap.size w wx) ∧ Aside0 (b4 < b5)) ?_ ?_
  · rw [minTo_one]
    refine ⟨⟨blk_alloc HZ.out _⟩, ⟨?_⟩, ⟨HB.out.alloc HB.out.size _⟩, ⟨by rw [hb5]; exact blk_lt HZ.out⟩⟩
    rw [hb5]
    exact blk_new W1 _
  clear hb5 HZ HB y0 y1 y2 y3 y4 y5 ygl W1
  rintro W1 ⟨HZ, HX, HB, H45⟩
  go_wp2_with fail
  go_loopg [6] ss.length (fun k s6 wr => ∃ i : Nat, i + k = ss.length + 1 ∧ (1 ≤ i ∧ i ≤ ss.length) ∧ s6 = .int .i64 (i : Int) ∧ Aside0 (Z84 wr b4) ∧ Aside0 (LostAt wr b5 A l.length c (minTo l ss m i)) ∧ Aside0 (Below w.heap.size w wr))
  case atStart => exact ⟨1, by omega, ⟨by omega, by omega⟩, rfl, HZ, HX, HB⟩
  case round =>
    clear HZ HX HB
    obtain ⟨i, hik, ⟨hi1, hi2⟩, rfl, HZ, HX, HB⟩ := hrel
    have HIK := Aside0.mk hik
    clear hik
    by_cases hi : i < ss.length
    · obtain ⟨s, hs⟩ : ∃ s, ss[i]? = some s := ⟨_, List.getElem?_eq_getElem hi⟩
      obtain ⟨⟨y0, y1, y2, y3, y4, y5⟩, ygl⟩ := lost_cells HOWN.out HB.out i s hs
      have HS := Aside0.mk hs
      obtain ⟨mm, hmm⟩ : ∃ mm, mm = minTo l ss m i := ⟨_, rfl⟩
      rw [← hmm] at HX
      have HMM := Aside0.mk hmm
      obtain ⟨x0, x1, x2, x3, x4, x5⟩ := HX.out.cells
      have hxl := blk_lt HX.out
      obtain ⟨cp, hcp⟩ : ∃ cp, cp = cmpI (numF l s) (numF l mm) := ⟨_, rfl⟩
      have HCP := Aside0.mk hcp
      clear hs hmm hcp
      go_upto_region 7 with fail
      have HRd := Aside0.mk ((HR.out.below HB.out))
      go_cut [27] from 20 to 31 (fun s27 wy => s27 = .bool (decide (cp < 0)) ∧ Aside0 (Z84 wy b4 ∧ LostAt wy b5 A l.length c mm ∧ Below w.heap.size w wy))
      case first =>
        go_region_with (first
          | (go_at_call 70; refine (ask70_calls A c l s mm bl bn wr.drew (HRd.out.below (below_drew (Below.refl _ _))) hc HV.out (HSS.out s (List.mem_of_getElem? HS.out)) (by rw [HMM.out]; exact HSS.out _ (minTo_mem l ss m i HM.out)) (blk_below HN.out (below_drew HB.out))).mono ?_; rintro e w7 ⟨rfl, hB7⟩; rw [← HCP.out]; have HB7 := Aside0.mk ((below_drew (Below.refl wr.heap.size wr)).trans hB7); have HX7 := Aside0.mk (HX.out.below HB7.out); have HZ7 := Aside0.mk (show Z84 w7 b4 from blk_below HZ.out HB7.out); clear hB7))
        all_goals go_wp2_with fail
        all_goals
          refine Met.intro ?_
          go_step
          (repeat apply Exists.intro)
          exact ⟨⟨rfl, ⟨HZ7.out, HX7.out, HB.out.trans (HB7.out.mono HB.out.size)⟩⟩, rfl⟩
      case rest =>
        obtain ⟨rfl, HW⟩ := hcut
        clear HZ HX HB HRd y0 y1 y2 y3 y4 y5 ygl x0 x1 x2 x3 x4 x5 hxl
        by_cases hlt : cp < 0
        · have b1 : decide (cp < 0) = true := decide_eq_true hlt
          have HLT := Aside0.mk hlt
          rw [b1]
          clear hlt b1
          obtain ⟨⟨y0, y1, y2, y3, y4, y5⟩, ygl⟩ := lost_cells HOWN.out HW.out.2.2 i s HS.out
          obtain ⟨x0, x1, x2, x3, x4, x5⟩ := HW.out.2.1.cells
          have hxl := blk_lt HW.out.2.1
          have f0 := blk_frozen HW.out.2.1 0
          have f1 := blk_frozen HW.out.2.1 1
          have f2 := blk_frozen HW.out.2.1 2
          have f3 := blk_frozen HW.out.2.1 3
          have f4 := blk_frozen HW.out.2.1 4
          have f5 := blk_frozen HW.out.2.1 5
          go_wp2_with fail
          go_roundg (gk - 1)
          case measure => have := HIK.out; omega
          case rel =>
            refine ⟨i + 1, by have := HIK.out; omega, ⟨by omega, by omega⟩, by go_num, ⟨?_⟩, ⟨?_⟩, ⟨?_⟩⟩
            · have hz := HW.out.1
              have hne : b4 ≠ b5 := by have := H45.out; omega
              exact blk_far (blk_far (blk_far (blk_far (blk_far (blk_far hz hne _) hne _) hne _) hne _) hne _) hne _
            · rw [minTo_succ l ss m i hi1 s HS.out, ← HMM.out, if_pos (show numF l s < numF l mm from by
                have h := HLT.out
                rw [HCP.out] at h
                unfold cmpI at h
                split at h
                · assumption
                · split at h <;> omega)]
              have s0 := blk_set HW.out.2.1 0 (.slice A l.length c)
              have s1 := blk_set s0 1 (.int .i64 (s 0))
              have s2 := blk_set s1 2 (.int .i64 (s 1))
              have s3 := blk_set s2 3 (.int .i64 (s 2))
              have s4 := blk_set s3 4 (.int .i64 (s 3))
              have s5 := blk_set s4 5 (.int .i64 (s 4))
              simp only [List.setIfInBounds_toArray, List.set_cons_zero, List.set_cons_succ] at s5
              exact s5
            · have h45 : w.heap.size ≤ b5 := by have := H4.out; have := H45.out; omega
              exact ((((((HW.out.2.2).setCell h45 _).setCell h45 _).setCell h45 _).setCell h45 _).setCell h45 _).setCell h45 _
        · have b1 : decide (cp < 0) = false := decide_eq_false hlt
          have HLT := Aside0.mk hlt
          rw [b1]
          clear hlt b1
          go_wp2_with fail
          go_roundg (gk - 1)
          case measure => have := HIK.out; omega
          case rel =>
            refine ⟨i + 1, by have := HIK.out; omega, ⟨by omega, by omega⟩, by go_num, ⟨HW.out.1⟩, ⟨?_⟩, ⟨HW.out.2.2⟩⟩
            rw [minTo_succ l ss m i hi1 s HS.out, ← HMM.out, if_neg (fun h => by have h2 := HLT.out; rw [HCP.out] at h2; unfold cmpI at h2; rw [if_pos h] at h2; omega)]
            exact HW.out.2.1
    · have hii : i = ss.length := by omega
      have HII := Aside0.mk hii
      clear hii
      rw [HII.out, ← HMN.out] at HX
      obtain ⟨x0, x1, x2, x3, x4, x5⟩ := HX.out.cells
      have hxl := blk_lt HX.out
      have hzl := blk_lt HZ.out
      have z0 := (blk_cell HZ.out 0).trans rfl
      have z1 := (blk_cell HZ.out 1).trans rfl
      have z2 := (blk_cell HZ.out 2).trans rfl
      have z3 := (blk_cell HZ.out 3).trans rfl
      have z4 := (blk_cell HZ.out 4).trans rfl
      have z5 := (blk_cell HZ.out 5).trans rfl
      have f0 := blk_frozen HZ.out 0
      have f1 := blk_frozen HZ.out 1
      have f2 := blk_frozen HZ.out 2
      have f3 := blk_frozen HZ.out 3
      have f4 := blk_frozen HZ.out 4
      have f5 := blk_frozen HZ.out 5
      go_wp2_with fail
      have s0 := blk_set HZ.out 0 (.slice A l.length c)
      have s1 := blk_set s0 1 (.int .i64 (mn 0))
      have s2 := blk_set s1 2 (.int .i64 (mn 1))
      have s3 := blk_set s2 3 (.int .i64 (mn 2))
      have s4 := blk_set s3 4 (.int .i64 (mn 3))
      have s5 := blk_set s4 5 (.int .i64 (mn 4))
      simp only [List.setIfInBounds_toArray, List.set_cons_zero, List.set_cons_succ] at s5
      refine bodyPost_ret (results_cell_row rfl _ _ b4 84 _ (0, 0) _ rfl s5 Try.underlying84 rfl (by kernel_rfl)) rfl ⟨rfl, ?_⟩
      exact (((((((HB.out).setCell H4.out _).setCell H4.out _).setCell H4.out _).setCell H4.out _).setCell H4.out _).setCell H4.out _)
end Go.Proofs.Ytegjollhajgcdaa.P.OwnSt
namespace Go.Proofs.Ytegjollhajgcdaa.P.OwnSt
open Go.RowKit Go.Shelf Go.Proofs.YtegjollhajgcdaaW.PrintWords Go.Proofs.YtegjollhajgcdaaW.PrintLast Go.Proofs.YtegjollhajgcdaaW.PrintMore
set_option linter.unusedVariables false
set_option linter.unusedSimpArgs false
set_option maxHeartbeats 2000000 in
set_option maxRecDepth 100000 in
theorem smallest_calls (A : Option Addr) (c : Nat) (l : List S24) (ss : List (Nat → Int)) (m : Nat → Int) (gv cv bl bb : Nat) (w : World) (hr : TrAt A c l bl w) (hc : l.length ≤ c) (hv : Valid l) (hss : ∀ s ∈ ss, SrcOk l s) (hm : ss[0]? = some m) (hlen : ss.length < 10000)
    (hown : w.ownsRow bb 84 6 (.slice (some ⟨gv, 0, none⟩) ss.length cv) ss.length (lostRow A l.length c ss)) :
    Calls Try.prog 56 #[.slice (some ⟨gv, 0, none⟩) ss.length cv, numV bl] w fun e w' => e = .returned (.int .i64 (numF l (minTo l ss m ss.length))) ∧ Below w.heap.size w w' := by
  have HR := Aside0.mk hr
  have HV := Aside0.mk hv
  have HSS := Aside0.mk hss
  have HM := Aside0.mk hm
  have HOWN := Aside0.mk hown
  obtain ⟨mn, hmn⟩ : ∃ mn, mn = minTo l ss m ss.length := ⟨_, rfl⟩
  obtain ⟨nn, hnn⟩ : ∃ nn, nn = numF l mn := ⟨_, rfl⟩
  rw [← hmn, ← hnn]
  have HMN := Aside0.mk hmn
  have HNN := Aside0.mk hnn
  have HSM := Aside0.mk (show SrcOk l mn by rw [hmn]; exact hss _ (minTo_mem l ss m _ hm))
  have hmix : Try.prog.follows Departure.mixedOrders = true := by kernel_rfl
  clear hr hv hss hm hown hmn hnn
  unfold numV
  go_enter Try.func56, Try.ntmps56
  go_upto_region 1 with fail
  obtain ⟨bn, hbn⟩ : ∃ bn, bn = w.heap.size := ⟨_, rfl⟩
  rw [← hbn]
  refine wp_gen (fun wx => Aside0 (wx.heap[bn]? = some (.cells #[numV bl] 97 (0, 0))) ∧ Aside0 (Below w.heap.size w wx) ∧ Aside0 (TrAt A c l bl wx) ∧ Aside0 (wx.ownsRow bb 84 6 (.slice (some ⟨gv, 0, none⟩) ss.length cv) ss.length (lostRow A l.length c ss))) ?_ ?_
  · subst hbn
    exact ⟨⟨blk_new w _⟩, ⟨(Below.refl _ _).alloc (Nat.le_refl _) _⟩, ⟨HR.out.below ((Below.refl _ _).alloc (Nat.le_refl _) _)⟩, ⟨HOWN.out.alloc _⟩⟩
  clear hbn HR HOWN
  rintro W1 ⟨HN, HB, HR, HOWN⟩
  have hnl := blk_lt HN.out
  have hn0 := (blk_cell HN.out 0).trans (show (#[numV bl] : Array Value)[0]? = some (.func (.func 57) #[] #[.pointer (some ⟨bl, 0, none⟩)]) from rfl)
  have HRd := HR.out.below (below_drew (Below.refl _ _))
  have HC69 := Aside0.mk (minFunc_calls A c l ss m gv cv bl bn bb W1.drew HRd hc HV.out HSS.out HM.out hlen (own_move HOWN.out (fun _ _ => rfl)) (blk_below HN.out (below_drew (Below.refl _ _))))
  clear HRd
  go_region_with (first
    | (go_at_call 69; refine HC69.out.mono ?_; rintro e w3 ⟨rfl, hB3⟩; rw [← HMN.out]; unfold lostV; have HB3 := Aside0.mk ((below_drew (Below.refl W1.heap.size W1)).trans hB3); have hn3 := (HB3.out.cell (p := ⟨bn, 0, none⟩) hnl).trans hn0; have HR3 := Aside0.mk (HR.out.below HB3.out); clear hB3)
    | (go_at_call 57; refine (ask57_calls' A c l mn bl w3 HR3.out.list hc HV.out HSM.out HR3.out.box).mono ?_; rintro e w4 ⟨rfl, hB4⟩; rw [← HNN.out]; have HB4 := Aside0.mk hB4; clear hB4))
  all_goals go_wp2_with fail
  all_goals exact bodyPost_ret (results_tmp rfl _ _ _) rfl ⟨rfl, HB.out.trans ((HB3.out.trans (HB4.out.mono HB3.out.size)).mono HB.out.size)⟩
def fewestV (l : List S24) : Int × Int := if knownE l = 0 then (numF l (minTo l (knownV l) ((knownV l).headD fun _ => 0) (knownV l).length), 0) else (0, knownE l)
set_option maxHeartbeats 2000000 in
set_option maxRecDepth 100000 in
theorem fewest_calls (A : Option Addr) (c : Nat) (l : List S24) (w : World) (hr : Kd.C k24 w A l.length l) (hc : l.length ≤ c) :
    Calls Try.prog 24 #[.slice A l.length c] w fun e w' => e = .returned (.tuple #[.int .i64 (fewestV l).1, .int .i64 (fewestV l).2]) ∧ Below w.heap.size w w' := by
  have HL0 := Aside0.mk (show (w.alloc (.cells #[.slice A l.length c] 22)).heap[w.heap.size]? = some (.cells #[.slice A l.length c] 22 (0, 0)) from blk_new w _)
  by_cases hk : knownE l = 0
  · obtain ⟨nn, hnn⟩ : ∃ nn, nn = numF l (minTo l (knownV l) ((knownV l).headD fun _ => 0) (knownV l).length) := ⟨_, rfl⟩
    have hV : fewestV l = (nn, 0) := by unfold fewestV; rw [if_pos hk, hnn]
    rw [hV]
    have HNN := Aside0.mk hnn
    have HR := Aside0.mk hr
    have HK := Aside0.mk hk
    have HVA := Aside0.mk (valid_of_check (knownE_zero hk).1)
    have HNE := Aside0.mk (knownE_zero hk).2
    have hkL := known_len l HVA.out.five
    clear hr hk hV hnn
    go_enter Try.func24, Try.ntmps24
    go_upto_region 1 with fail
    obtain ⟨bl, hbl⟩ : ∃ bl, bl = w.heap.size := ⟨_, rfl⟩
    rw [← hbl] at HL0 ⊢
    refine wp_gen (fun wx => Aside0 (Below w.heap.size w wx) ∧ Aside0 (TrAt A c l bl wx)) ⟨⟨(Below.refl _ _).alloc (Nat.le_refl _) _⟩, ⟨Kd.C_below HR.out ((Below.refl _ _).alloc (Nat.le_refl _) _), HL0.out⟩⟩ ?_
    clear hbl HL0 HR
    rintro W1 ⟨HB, HR⟩
    have hl0 := (blk_cell HR.out.box 0).trans (show (#[Value.slice A l.length c] : Array Value)[0]? = some _ from rfl)
    go_wp2_with (first
      | (go_at_call 48; refine (known_ok A c l W1 HR.out.list hc HK.out).mono ?_; rintro e w2 ⟨gv, cv, rfl, hB2, hown⟩; have HB2 := Aside0.mk hB2; have HOWN := Aside0.mk hown; clear hB2 hown)
      | (go_at_call 56; refine (smallest_calls A c l (knownV l) ((knownV l).headD fun _ => 0) gv cv bl W1.heap.size w2 (HR.out.below HB2.out) hc HVA.out (fun s hs k hk => ⟨((knownV_mem hs).1 k hk).1, ((knownV_mem hs).1 k hk).2.1⟩) ?hd hkL HOWN.out).mono ?_; (case hd => (have hne := HNE.out; revert hne; cases knownV l with | nil => (intro h; exact absurd rfl h) | cons x r => (intro _; rfl))); rintro e w5 ⟨rfl, hB5⟩; rw [← HNN.out]; have HB5 := Aside0.mk hB5; clear hB5))
    exact bodyPost_ret (results_tmp2 rfl _ _ _) rfl ⟨rfl, HB.out.trans ((HB2.out.trans (HB5.out.mono HB2.out.size)).mono HB.out.size)⟩
  · have hV : fewestV l = (0, knownE l) := by unfold fewestV; rw [if_neg hk]
    rw [hV]
    obtain ⟨e0, he0⟩ : ∃ e0, e0 = knownE l := ⟨_, rfl⟩
    have HR := Aside0.mk hr
    have HK := Aside0.mk hk
    have HE := Aside0.mk he0
    have b1 : (e0 != 0) = true := bne_iff_ne.2 (by rw [he0]; exact hk)
    rw [← he0]
    clear hr hk hV he0
    have hl0 := (blk_cell HL0.out 0).trans (show (#[Value.slice A l.length c] : Array Value)[0]? = some _ from rfl)
    go_enter Try.func24, Try.ntmps24
    go_wp2_with (first | (go_at_call 48; refine (known_err A c l _ (Kd.C_below HR.out ((Below.refl _ _).alloc (Nat.le_refl _) _)) hc HK.out).mono ?_; rintro e w2 ⟨rfl, hB⟩; rw [← HE.out]; have HB := Aside0.mk (((Below.refl w.heap.size w).alloc (Nat.le_refl _) (.cells #[.slice A l.length c] 22)).trans (hB.mono (by simp))); clear hB))
    exact bodyPost_ret (results_tmp2 rfl _ _ _) rfl ⟨rfl, HB.out⟩
end Go.Proofs.Ytegjollhajgcdaa.P.OwnSt
namespace Go.Proofs.Ytegjollhajgcdaa.P
open Go.RowKit Go.Proofs.YtegjollhajgcdaaW.PrintWords Go.Proofs.YtegjollhajgcdaaW.PrintLast Go.Proofs.YtegjollhajgcdaaW.PrintMore
attribute [local go_sem] max2_int min2_int max_two min_two max_three min_three max_four min_four   -- for this text's walks alone
set_option linter.unusedVariables false
set_option linter.unusedSimpArgs false
def stemma_Fewest.f (k : Nat) (l0 : List (S24)) : Option (Int × Int) := some (OwnSt.fewestV l0)
theorem stemma_Fewest.mono : ∀ a0 k, LeO (stemma_Fewest.f k a0) (stemma_Fewest.f (k + 1) a0) := by intros; exact LeO.refl _
theorem stemma_Fewest.calls (k : Nat) (A0 : Option Addr) (c0 : Nat) (l0 : List (S24)) (r1 : Int) (r2 : Int) (w : World) (hr0 : Kd.C k24 w A0 l0.length l0) (hc0 : l0.length ≤ c0) (h : stemma_Fewest.f k l0 = some (r1, r2)) :
    Calls Try.prog 24 #[.slice A0 l0.length c0] w fun e w' => e = .returned (.tuple #[.int .i64 r1, .int .i64 r2]) ∧ Below w.heap.size w w' := by
  have h2 := OwnSt.fewest_calls A0 c0 l0 w hr0 hc0; rw [show OwnSt.fewestV l0 = (r1, r2) from Option.some.inj h] at h2; exact h2
end Go.Proofs.Ytegjollhajgcdaa.P
namespace Go.Proofs.Ytegjollhajgcdaa.P
open Go.RowKit Go.Proofs.YtegjollhajgcdaaW.PrintWords Go.Proofs.YtegjollhajgcdaaW.PrintLast Go.Proofs.YtegjollhajgcdaaW.PrintMore
attribute [local go_sem] max2_int min2_int max_two min_two max_three min_three max_four min_four   -- for this text's walks alone
set_option linter.unusedVariables false
set_option linter.unusedSimpArgs false
def cippuslaw07_copies.f (a0 : Int) (a1 : Int) (a2 : Bool) : Option ((List (S24))) := some (([(⟨(⟨#[65, 82, 77, 65]⟩ : ByteArray), a0, true⟩ : S24), (⟨(⟨#[65, 82, 77, 79]⟩ : ByteArray), a1, a2⟩ : S24), (⟨(⟨#[69, 82, 77, 79]⟩ : ByteArray), 1, false⟩ : S24)] : List (S24)))
set_option maxHeartbeats 8000000 in
set_option maxRecDepth 100000 in
theorem cippuslaw07_copies.calls (a0 : Int) (a1 : Int) (a2 : Bool) (r : List (S24)) (w : World) (h : cippuslaw07_copies.f a0 a1 a2 = some r) :
    Calls Try.prog 47 #[.int .i64 a0, .int .i64 a1, .bool a2] w fun e w' => ∃ v0_ : Value, e = .returned (v0_) ∧ Kd.R k24 24 w' w.heap.size (fun _ => True) v0_ r ∧ Below w.heap.size w w' := by
  have hu24 := Try.underlying24
  have HB := Aside0.mk (Below.refl w.heap.size w)
  have H : (some (([(⟨(⟨#[65, 82, 77, 65]⟩ : ByteArray), a0, true⟩ : S24), (⟨(⟨#[65, 82, 77, 79]⟩ : ByteArray), a1, a2⟩ : S24), (⟨(⟨#[69, 82, 77, 79]⟩ : ByteArray), 1, false⟩ : S24)] : List (S24)))) = some r := h
  clear h
  obtain ⟨y265, hy265⟩ : ∃ y_ : List (S24), y_ = (([(⟨(⟨#[65, 82, 77, 65]⟩ : ByteArray), a0, true⟩ : S24), (⟨(⟨#[65, 82, 77, 79]⟩ : ByteArray), a1, a2⟩ : S24), (⟨(⟨#[69, 82, 77, 79]⟩ : ByteArray), 1, false⟩ : S24)] : List (S24))) := ⟨_, rfl⟩
  replace H : (some y265) = some r := by first | (rw [hy265]; with_reducible exact H) | (have H2_ := (Option.bind_some _ _).symm.trans H; rw [hy265]; with_reducible exact H2_) | (have H2_ := (Option.bind_some _ _).symm.trans H; with_reducible exact H2_) | with_reducible exact H | (rw [hy265]; exact H) | exact H
  have Ny265 := Aside0.mk hy265
  clear hy265
  obtain rfl := Option.some.inj H
  go_enter Try.func47, Try.ntmps47
  go_wp2_with (first | ((with_reducible refine gate_dst (N := 13) rfl ?_); refine Kd.R_lit k24 _ 24 ?hg (N := 13) ?hd (xs := ([(⟨(⟨#[65, 82, 77, 65]⟩ : ByteArray), a0, true⟩ : S24), (⟨(⟨#[65, 82, 77, 79]⟩ : ByteArray), a1, a2⟩ : S24), (⟨(⟨#[69, 82, 77, 79]⟩ : ByteArray), 1, false⟩ : S24)] : List (S24))) (inner := [.string (⟨#[65, 82, 77, 65]⟩ : ByteArray), .int .i64 a0, .bool true, .string (⟨#[65, 82, 77, 79]⟩ : ByteArray), .int .i64 a1, .bool a2, .string (⟨#[69, 82, 77, 79]⟩ : ByteArray), .int .i64 1, .bool false]) (ok := fun _ => True) (okp := fun _ => True) ?hr ?hp (fun _ hk => hk) trivial (Below.refl _ _) (Nat.le_refl _) (by simp) ?_; (case hd => rfl); (case hg => rfl); (case hr => first | (go_simp; done) | (go_simp; rfl)); (case hp => exact (Reps.c3 (show Kd.M k24 _ _ _ (⟨(⟨#[65, 82, 77, 65]⟩ : ByteArray), a0, true⟩ : S24) [.string (⟨#[65, 82, 77, 65]⟩ : ByteArray), .int .i64 a0, .bool true] from (k24_mkM _ _ _ (⟨(⟨#[65, 82, 77, 65]⟩ : ByteArray), a0, true⟩ : S24) )) (Reps.c3 (show Kd.M k24 _ _ _ (⟨(⟨#[65, 82, 77, 79]⟩ : ByteArray), a1, a2⟩ : S24) [.string (⟨#[65, 82, 77, 79]⟩ : ByteArray), .int .i64 a1, .bool a2] from (k24_mkM _ _ _ (⟨(⟨#[65, 82, 77, 79]⟩ : ByteArray), a1, a2⟩ : S24) )) (Reps.c3 (show Kd.M k24 _ _ _ (⟨(⟨#[69, 82, 77, 79]⟩ : ByteArray), 1, false⟩ : S24) [.string (⟨#[69, 82, 77, 79]⟩ : ByteArray), .int .i64 1, .bool false] from (k24_mkM _ _ _ (⟨(⟨#[69, 82, 77, 79]⟩ : ByteArray), 1, false⟩ : S24) )) (Reps.none _ _))))); intro v266 w4 ho5 hb hg_ hnew_; clear hg_ hnew_; (first | rw [← Ny265.out] at ho5 | (simp only [Int.reduceToNat] at ho5; rw [← Ny265.out] at ho5)); have n0_ := Aside0.mk (Kd.R_lower ho5 (below_size (by repeat (first | (with_reducible first | exact HB.out | apply below_alloc | apply pw_below_drewN | apply below_drew1) | exact HB.out)))); have n1_ := Aside0.mk (below_step (by repeat (first | (with_reducible first | exact HB.out | apply below_alloc | apply pw_below_drewN | apply below_drew1) | exact HB.out)) hb); clear HB; have HO267 := n0_; have HB := n1_; clear n0_ n1_; clear hb ho5))
  go_ret
  exact ⟨_, by first | rfl | (simp [errW_none, errW_some] <;> rfl) | (simp [*, errW_none, errW_some] <;> rfl), by (with_reducible repeat (first | apply Kd.R_alloc | apply Kd.R_drewN | apply Kd.R_drew)); exact HO267.out, by repeat (first | (with_reducible first | exact HB.out | apply below_alloc | apply pw_below_drewN | apply below_drew1) | exact HB.out)⟩
end Go.Proofs.Ytegjollhajgcdaa.P
