/- Lemmas for the statement StemmaAll of the given program, for every input that its row lets in. Conditions: none beyond those that each lemma tells. -/
import Derived.Test.YtegjollhajgcdaaMStemmaAll2
set_option linter.unusedVariables false
set_option linter.unusedSimpArgs false
namespace Go.Proofs.Ytegjollhajgcdaa.P.OwnSt
open Go.RowKit Go.Proofs.YtegjollhajgcdaaW.PrintWords Go.Proofs.YtegjollhajgcdaaW.PrintLast Go.Proofs.YtegjollhajgcdaaW.PrintMore
set_option linter.unusedVariables false
set_option linter.unusedSimpArgs false
def IsMask (m : Int) (M : Nat → Bool) : Prop := ∃ n : Nat, m = (n : Int) ∧ n < 2 ^ 26 ∧ ∀ j, n.testBit j = (decide (j < 26) && M j)
theorem isMask_zero : IsMask 0 (fun _ => false) := ⟨0, rfl, by decide, fun j => by simp⟩
theorem wraps_u32 (n : Int) (h₀ : 0 ≤ n) (h₁ : n < 2 ^ 32) : IntKind.u32.wrap n = n := by rw [IntKind.wrap_u32]; omega
theorem mask_has {m : Int} {M : Nat → Bool} (h : IsMask m M) (j : Nat) (hj : j < 26) : stemma_letters_has.f m (65 + (j : Int)) = some (M j) := by
  obtain ⟨n, rfl, hn, hb⟩ := h
  unfold stemma_letters_has.f shr
  rw [show (65 + (j : Int) - 65) % 256 = (j : Int) by omega, Int.toNat_natCast, Nat.min_eq_left (by simp [IntKind.bits]; omega)]
  have e1 : ((n : Int) / 2 ^ j) = ((n >>> j : Nat) : Int) := by rw [Nat.shiftRight_eq_div_pow]; simp
  have hlt : n >>> j < 2 ^ 26 := by rw [Nat.shiftRight_eq_div_pow]; exact Nat.lt_of_le_of_lt (Nat.div_le_self _ _) hn
  rw [e1]
  have e2 := (bits_nat .u32 32 (by decide) wraps_u32 (n >>> j) 1 (by omega) (by decide)).1
  rw [show ((1 : Int)) = ((1 : Nat) : Int) from rfl, e2]
  have h3 := hb j
  rw [show decide (j < 26) = true from decide_eq_true hj, Bool.true_and] at h3
  rw [← h3]
  unfold Nat.testBit
  congr 1
  have h4 : (n >>> j) &&& 1 = 0 ∨ (n >>> j) &&& 1 = 1 := by
    rw [Nat.and_one_is_mod]
    omega
  rw [Nat.and_comm 1]
  rcases h4 with h4 | h4 <;> rw [h4] <;> rfl
theorem mask_with {m : Int} {M : Nat → Bool} (h : IsMask m M) (j : Nat) (hj : j < 26) : ∃ m', stemma_letters_with.f m (65 + (j : Int)) = some m' ∧ IsMask m' (fun i => M i || i == j) := by
  obtain ⟨n, rfl, hn, hb⟩ := h
  unfold stemma_letters_with.f shl
  rw [show (65 + (j : Int) - 65) % 256 = (j : Int) by omega, Int.toNat_natCast, Nat.min_eq_left (by simp [IntKind.bits]; omega)]
  have hp : (2 : Nat) ^ j < 2 ^ 26 := Nat.pow_lt_pow_right (by decide) hj
  have e1 : (1 : Int) * 2 ^ j = ((2 ^ j : Nat) : Int) := by simp
  have hp2 : ((2 ^ j : Nat) : Int) < 2 ^ 32 := by
    have : ((2 ^ j : Nat) : Int) < ((2 ^ 26 : Nat) : Int) := by exact_mod_cast hp
    omega
  rw [e1, wraps_u32 _ (Int.natCast_nonneg _) hp2]
  have e2 := (bits_nat .u32 32 (by decide) wraps_u32 n (2 ^ j) (by omega) (by omega)).2
  rw [e2]
  refine ⟨_, rfl, n ||| 2 ^ j, rfl, Nat.or_lt_two_pow hn hp, fun i => ?_⟩
  rw [Nat.testBit_or, hb i, Nat.testBit_two_pow]
  by_cases e : j = i
  · subst e
    simp [hj]
  · by_cases hi : i < 26
    · simp [hi, e, show ¬ i = j from fun h => e h.symm]
    · simp [hi, e]
def maskLetters (M : Nat → Bool) (k : Nat) : List Int := ((List.range k).filter M).map fun (j : Nat) => 65 + (j : Int)
theorem mask_string_l0 {m : Int} {M : Nat → Bool} (h : IsMask m M) : ∀ (rem j : Nat), j + rem = 26 → Ev (fun k => stemma_letters_String.l0 k m (maskLetters M j) (65 + (j : Int))) (strOfNums (maskLetters M 26)) := by
  intro rem
  induction rem with
  | zero =>
    intro j hj
    refine Ev.step (fun k => by rw [stemma_letters_String.l0]) ?_
    rw [show j = 26 by omega]
    exact Ev.if_neg' (by omega) (Ev.now _)
  | succ rem ih =>
    intro j hj
    refine Ev.step (fun k => by rw [stemma_letters_String.l0]) ?_
    refine Ev.if_pos' (by omega) ?_
    rw [mask_has h j (by omega)]
    simp only [Option.bind_some]
    have h2 := ih (j + 1) (by omega)
    have e1 : ((65 + (j : Int) + 1) % 256) = 65 + ((j + 1 : Nat) : Int) := by omega
    have hl : (maskLetters M j).length ≤ j := by unfold maskLetters; rw [List.length_map]; exact Nat.le_trans (List.length_filter_le _ _) (by simp)
    rw [e1]
    have e2 : maskLetters M (j + 1) = maskLetters M j ++ (if M j = true then [65 + (j : Int)] else []) := by
      unfold maskLetters
      rw [List.range_succ, List.filter_append, List.map_append]
      congr 1
      by_cases hm : M j = true <;> simp [hm]
    rw [e2] at h2
    by_cases hm : M j = true
    · refine Ev.if_pos' hm (Ev.if_pos' (by omega) ?_)
      rw [if_pos hm] at h2
      exact h2
    · refine Ev.if_neg' hm ?_
      rw [if_neg hm, List.append_nil] at h2
      exact h2
theorem mask_string {m : Int} {M : Nat → Bool} (h : IsMask m M) : Ev (fun k => stemma_letters_String.f k m) (strOfNums (maskLetters M 26)) := by
  unfold stemma_letters_String.f
  exact mask_string_l0 h 26 0 (by omega)
theorem IsMask.congr {m : Int} {M M' : Nat → Bool} (h : IsMask m M) (e : ∀ j, j < 26 → M j = M' j) : IsMask m M' := by
  obtain ⟨n, rfl, hn, hb⟩ := h
  refine ⟨n, rfl, hn, fun j => ?_⟩
  rw [hb j]
  by_cases hj : j < 26
  · rw [e j hj]
  · simp [hj]
end Go.Proofs.Ytegjollhajgcdaa.P.OwnSt
namespace Go.Proofs.Ytegjollhajgcdaa.P.OwnSt
open Go.RowKit Go.Shelf Go.Proofs.YtegjollhajgcdaaW.PrintWords Go.Proofs.YtegjollhajgcdaaW.PrintLast Go.Proofs.YtegjollhajgcdaaW.PrintMore
set_option linter.unusedVariables false
set_option linter.unusedSimpArgs false
def mayC (l : List S24) (i : Nat) (j : Nat) (s : Nat → Int) : Bool := decide (leastV l s (i : Int) (65 + (j : Int)) < 1048576)
def mayK (l : List S24) (i k : Nat) (j : Nat) : Bool := ((knownV l).take k).any (mayC l i j)
def mayAt (l : List S24) (i : Nat) (j : Nat) : Bool := (knownV l).any (mayC l i j)
def letterRow (l : List S24) (i : Nat) : ByteArray := strOfNums (maskLetters (mayAt l i) 26)
def lettersV (l : List S24) : List ByteArray × Int := if knownE l = 0 then ((List.range (rd_T24 l 0).f0.size).map (letterRow l), 0) else ([], knownE l)
def LetR (l : List S24) (k : Nat) (key val : Value) : Prop := val = .bool true ∧ ∃ s ∈ (knownV l).take k, key = madeV (madeB l.length s)
theorem mayC_made (l : List S24) (i j : Nat) (s s' : Nat → Int) (h : madeB l.length s = madeB l.length s') : mayC l i j s = mayC l i j s' := by
  unfold mayC
  rw [leastV_made l s s' _ _ h]
theorem mayK_succ (l : List S24) (i k j : Nat) (s : Nat → Int) (hs : (knownV l)[k]? = some s) : mayK l i (k + 1) j = (mayK l i k j || mayC l i j s) := by
  unfold mayK
  rw [List.take_add_one, hs, Option.toList_some, List.any_append]
  simp
theorem mayK_met (l : List S24) (h5 : l.length ≤ 5) (i k j : Nat) (s : Nat → Int) (hs : (knownV l)[k]? = some s) {v : Value} (h : LetR l k (madeV (madeB l.length s)) v) : mayK l i (k + 1) j = mayK l i k j := by
  rw [mayK_succ l i k j s hs]
  obtain ⟨_, s', hm, e⟩ := h
  have h1 := mayC_made l i j s s' (madeB_of_key l h5 s s' e)
  by_cases hc : mayC l i j s' = true
  · have : mayK l i k j = true := by
      unfold mayK
      rw [List.any_eq_true]
      exact ⟨s', hm, hc⟩
    rw [this, Bool.true_or]
  · rw [h1]
    simp [hc]
theorem mayK_all (l : List S24) (i j : Nat) : mayK l i (knownV l).length j = mayAt l i j := by
  unfold mayK mayAt
  rw [List.take_length]
theorem LetR.mono {l : List S24} {k : Nat} {key val : Value} (h : LetR l k key val) : LetR l (k + 1) key val := by
  obtain ⟨h1, s, hs, h2⟩ := h
  refine ⟨h1, s, ?_, h2⟩
  rw [List.take_add_one]
  exact List.mem_append_left _ hs
theorem MemoAt.weaken {P : Program} {K : TypeId} {Φ Ψ : Value → Value → Prop} {W : World} {mb : Nat} (h : MemoAt P K Φ W mb) (hm : ∀ a b, Φ a b → Ψ a b) : MemoAt P K Ψ W mb := by
  obtain ⟨es, ck, h1, h2⟩ := h
  exact ⟨es, ck, h1, fun e he => ⟨(h2 e he).1, hm _ _ (h2 e he).2⟩⟩
structure LQ (l : List S24) (W1 : World) (i mb : Nat) (out : Value) (k : Nat) (W : World) : Prop where
  memo : MemoAt Try.prog 85 (LetR l k) W mb
  orow : Kd.R Kd.string 9 W W1.heap.size (fun k => W1.heap.size ≤ k ∧ k < mb) out ((List.range i).map (letterRow l))
  below : Below W1.heap.size W1 W
  low : W1.heap.size ≤ mb
theorem LQ.step {l : List S24} {W1 : World} {i mb : Nat} {out : Value} {k : Nat} {W W' : World} (h : LQ l W1 i mb out k W) (hb : Below W.heap.size W W') : LQ l W1 i mb out k W' :=
  ⟨h.memo.keep (hb.block mb h.memo.lt), Kd.R_below h.orow hb, h.below.trans (hb.mono h.below.size), h.low⟩
theorem LQ.put {l : List S24} {W1 : World} {i mb : Nat} {out : Value} {k : Nat} {W : World} (h : LQ l W1 i mb out k W) (o : Obj) (hm : MemoAt Try.prog 85 (LetR l (k + 1)) (W.putObj mb o) mb) : LQ l W1 i mb out (k + 1) (W.putObj mb o) :=
  ⟨hm, Kd.R_kept (S := fun k => k = mb) h.orow ⟨by simp [World.putObj], fun j _ hj => World.putObj_heap_other hj⟩ (fun k hk e => by omega), below_put h.below h.low o, h.low⟩
theorem lost_ne_memo {W : World} {b mb n c : Nat} {A : Option Addr} {fs : Nat → Int} {P : Program} {K : TypeId} {Φ : Value → Value → Prop} (h : LostAt W b A n c fs) (m : MemoAt P K Φ W mb) : b ≠ mb := by
  obtain ⟨es, ck, hE, _⟩ := m
  intro e
  subst e
  have h2 : W.heap[b]? = _ := h
  rw [hE] at h2
  cases h2
set_option maxHeartbeats 4000000 in
set_option maxRecDepth 100000 in
theorem letters_calls (A : Option Addr) (c : Nat) (l : List S24) (w : World) (hr : Kd.C k24 w A l.length l) (hc : l.length ≤ c) :
    Calls Try.prog 18 #[.slice A l.length c] w fun e w' => ∃ v, e = .returned (.tuple #[v, .int .i64 (lettersV l).2]) ∧ Kd.R Kd.string 9 w' w.heap.size (fun _ => True) v (lettersV l).1 ∧ Below w.heap.size w w' := by
  by_cases hk : knownE l = 0
  · have hV : lettersV l = ((List.range (rd_T24 l 0).f0.size).map (letterRow l), 0) := by unfold lettersV; rw [if_pos hk]
    rw [hV]
    have HR := Aside0.mk hr
    have HK := Aside0.mk hk
    have HVA := Aside0.mk (valid_of_check (knownE_zero hk).1)
    have h5 := HVA.out.five
    have h1 := HVA.out.one
    have hkL := known_len l h5
    clear hr hk hV
    go_enter Try.func18, Try.ntmps18
    go_upto_region 4 with (first | (go_at_call 48; refine (known_ok A c l w HR.out hc HK.out).mono ?_; rintro e w2 ⟨gv, cv, rfl, hB, hown⟩; have HB := Aside0.mk hB; have HOWN := Aside0.mk hown; clear hB hown))
    obtain ⟨W1, hW1⟩ : ∃ W1, W1 = w2 := ⟨_, rfl⟩
    rw [← hW1] at HB HOWN ⊢
    clear hW1 w2
    obtain ⟨ad, hA, y0, _⟩ := at_T24 (Kd.C_below HR.out HB.out) 0 (by omega) (by omega)
    subst hA
    simp only [Int.toNat_zero, Nat.zero_mul, Addr.add_zero'] at y0
    obtain ⟨L, hL⟩ : ∃ L, L = (rd_T24 l 0).f0.size := ⟨_, rfl⟩
    have HLL := Aside0.mk hL
    have hL8 : L ≤ 8 := by rw [hL]; exact HVA.out.high
    obtain ⟨tx, htx⟩ : ∃ tx, tx = (rd_T24 l 0).f0 := ⟨_, rfl⟩
    rw [← htx] at y0 hL
    have HTX := Aside0.mk hL
    clear htx hL
    go_wp2_with fail
    rw [← HTX.out]
    clear y0
    go_loopg [6, 26] L (fun k s6 s26 wr => ∃ i : Nat, i + k = L ∧ s26 = .int .i64 (i : Int) ∧ Aside0 (Kd.R Kd.string 9 wr W1.heap.size (fun k => W1.heap.size ≤ k) s6 ((List.range i).map (letterRow l))) ∧ Aside0 (Below W1.heap.size W1 wr))
    case atStart => exact ⟨0, by omega, rfl, ⟨Kd.R_nil _ _ _ _ _⟩, ⟨Below.refl _ _⟩⟩
    case round =>
      obtain ⟨gj, rfl⟩ : ∃ gj, gj = gk := ⟨_, rfl⟩
      obtain ⟨i, hik, rfl, HN, HB1⟩ := hrel
      have HIK := Aside0.mk hik
      clear hik
      by_cases hi : i < L
      · obtain ⟨mb, hmb⟩ : ∃ mb, mb = wr.heap.size := ⟨_, rfl⟩
        have hmk := run_makeMap (P := Try.prog) 80 wr
        rw [← hmb] at hmk
        go_upto_region 10 with fail
        rw [← hmb]
        refine wp_gen (fun wx => Aside0 (LQ l W1 i mb u6 0 wx)) ?_ ?_
        · refine ⟨⟨?_, Kd.R_mono (Kd.R_alloc (Kd.R_bound HN.out) _) (fun k hk => ⟨hk.1, by rw [hmb]; exact hk.2.2.1⟩), HB1.out.alloc HB1.out.size _, by rw [hmb]; exact HB1.out.size⟩⟩
          rw [hmb]
          exact MemoAt.new 85 _ wr
        clear hmk hmb HN HB1
        intro W2 HQ
        go_wp2_with fail
        go_loopg [8, 32] (knownV l).length (fun n s8 s32 wr => ∃ (k : Nat) (m : Int), k + n = (knownV l).length ∧ s8 = .int .u32 m ∧ s32 = .int .i64 (k : Int) ∧ Aside0 (IsMask m (mayK l i k)) ∧ Aside0 (LQ l W1 i mb u6 k wr))
        case atStart => exact ⟨0, 0, by omega, rfl, rfl, ⟨isMask_zero⟩, HQ⟩
        case round =>
          clear HQ
          obtain ⟨gm, rfl⟩ : ∃ gm, gm = gk := ⟨_, rfl⟩
          obtain ⟨k, m, hkn, rfl, rfl, HM, HQ⟩ := hrel
          have HKN := Aside0.mk hkn
          clear hkn
          by_cases hkl : k < (knownV l).length
          · obtain ⟨s, hs⟩ : ∃ s, (knownV l)[k]? = some s := ⟨_, List.getElem?_eq_getElem hkl⟩
            obtain ⟨⟨x0, x1, x2, x3, x4, x5⟩, xgl⟩ := lost_cells HOWN.out HQ.out.below k s hs
            have HS := Aside0.mk hs
            clear hs
            go_upto_region 13 with fail
            obtain ⟨b11, hb11⟩ : ∃ b11, b11 = wr.heap.size := ⟨_, rfl⟩
            rw [← hb11]
            refine wp_gen (fun wx => Aside0 (LQ l W1 i mb u6 k wx) ∧ Aside0 (LostAt wx b11 (some ad) l.length c s)) ?_ ?_
            · subst hb11
              exact ⟨⟨HQ.out.step ((Below.refl _ _).alloc (Nat.le_refl _) _)⟩, ⟨blk_new wr _⟩⟩
            clear hb11 HQ x0 x1 x2 x3 x4 x5 xgl
            rintro W3 ⟨HQ, HX⟩
            obtain ⟨x0, x1, x2, x3, x4, x5⟩ := HX.out.cells
            have hxl := blk_lt HX.out
            by_cases hmet : MemoHas W3 mb (madeV (madeB l.length s))
            · have HMET := Aside0.mk hmet
              clear hmet
              go_wp2_with (first | (go_at_call 49; refine (made_calls (some ad) c l s _ (Kd.C_below HR.out (HB.out.trans (HQ.out.below.mono HB.out.size))) h5).mono ?_; rintro e w4 ⟨rfl, hB4⟩; have HB4 := Aside0.mk hB4; obtain ⟨vv, bb, hlook, hvv⟩ := (HQ.out.step hB4).memo.look law85 (T := 80) (E := 4) (z := .bool false) (by kernel_rfl) (by kernel_rfl) (keyOf_made (madeB l.length s)).choose_spec; have HV := Aside0.mk (show LetR l k (madeV (madeB l.length s)) vv from by (rcases hvv with ⟨g1, g2, _⟩ | ⟨_, _, g2⟩; exact g2; exact absurd (HMET.out.keep (hB4.block mb HQ.out.memo.lt)) g2)); have hlk := hlook false; simp only [Bool.false_eq_true, if_false] at hlk; obtain rfl := HV.out.1; clear hlook hvv hB4))
              go_roundg (gm - 1)
              case measure => have := HKN.out; omega
              case rel =>
                refine ⟨k + 1, m, by have := HKN.out; omega, rfl, by go_num, ⟨HM.out.congr (fun j hj => (mayK_met l h5 i k j s HS.out HV.out).symm)⟩, ⟨?_⟩⟩
                have h8 := HQ.out.step HB4.out
                exact ⟨h8.memo.weaken (fun _ _ hh => hh.mono), h8.orow, h8.below, h8.low⟩
            · have HMET := Aside0.mk hmet
              clear hmet
              go_upto_region 14 with (first | (go_at_call 49; refine (made_calls (some ad) c l s _ (Kd.C_below HR.out (HB.out.trans (HQ.out.below.mono HB.out.size))) h5).mono ?_; rintro e w4 ⟨rfl, hB4⟩; have HB4 := Aside0.mk hB4; obtain ⟨vv, bb, hlook, hvv⟩ := (HQ.out.step hB4).memo.look law85 (T := 80) (E := 4) (z := .bool false) (by kernel_rfl) (by kernel_rfl) (keyOf_made (madeB l.length s)).choose_spec; have HV := Aside0.mk (show vv = .bool false from by (rcases hvv with ⟨_, _, g2⟩ | ⟨_, g1, _⟩; exact absurd (g2.keep (hB4.block mb HQ.out.memo.lt).symm) HMET.out; exact g1)); have hlk := hlook false; simp only [Bool.false_eq_true, if_false] at hlk; obtain rfl := HV.out; clear hlook hvv hB4))
              refine wp_gen (fun wx => Aside0 (LQ l W1 i mb u6 k wx) ∧ Aside0 (LostAt wx b11 (some ad) l.length c s)) ⟨⟨HQ.out.step HB4.out⟩, ⟨HX.out.below HB4.out⟩⟩ ?_
              clear HQ HX HB4 HV hlk w4 HMET W3 x0 x1 x2 x3 x4 x5 hxl
              rintro W3 ⟨HQ, HX⟩
              obtain ⟨x0, x1, x2, x3, x4, x5⟩ := HX.out.cells
              have hxl := blk_lt HX.out
              go_upto_block 4 with (first | (go_at_call 49; refine (made_calls (some ad) c l s _ (Kd.C_below HR.out (HB.out.trans (HQ.out.below.mono HB.out.size))) h5).mono ?_; rintro e w4 ⟨rfl, hB4⟩; have HB4 := Aside0.mk hB4; obtain ⟨o, hup, hm, hq1, hq2⟩ := (HQ.out.step hB4).memo.weaken (Ψ := LetR l (k + 1)) (fun _ _ hh => hh.mono) |>.update (T := 80) (E := 4) (val := .bool true) law85 (by kernel_rfl) (keyOf_made (madeB l.length s)).choose_spec ⟨rfl, s, by rw [List.take_add_one, HS.out]; exact List.mem_append_right _ (by simp), rfl⟩; have HMM := Aside0.mk hm; clear hB4 hm hq1 hq2))
              refine wp_gen (fun wx => Aside0 (LQ l W1 i mb u6 (k + 1) wx) ∧ Aside0 (LostAt wx b11 (some ad) l.length c s)) ⟨⟨(HQ.out.step HB4.out).put o HMM.out⟩, ⟨?_⟩⟩ ?_
              · have h9 := HX.out.below HB4.out
                exact (World.putObj_heap_other (lost_ne_memo h9 (HQ.out.step HB4.out).memo)).trans h9
              clear HQ HX HB4 HMM hup o w4 W3 x0 x1 x2 x3 x4 x5 hxl
              rintro W3 ⟨HQ, HX⟩
              go_wp2_with fail
              go_loopg [8, 12] 26 (fun n s8 s12 wr => ∃ (j : Nat) (m' : Int), j + n = 26 ∧ s12 = .int .u8 (65 + (j : Int)) ∧ s8 = .int .u32 m' ∧ Aside0 (IsMask m' (fun x => mayK l i k x || (decide (x < j) && mayC l i x s))) ∧ Aside0 (LQ l W1 i mb u6 (k + 1) wr) ∧ Aside0 (LostAt wr b11 (some ad) l.length c s))
              case atStart => exact ⟨0, m, by omega, rfl, rfl, ⟨HM.out.congr (fun j hj => by simp)⟩, HQ, HX⟩
              case round =>
                clear HQ HX HM
                obtain ⟨j, m', hjn, rfl, rfl, HM, HQ, HX⟩ := hrel
                have HJN := Aside0.mk hjn
                have hj26 : j ≤ 26 := by omega
                clear hjn
                obtain ⟨cc, hcc⟩ : ∃ cc : Int, cc = 65 + (j : Int) := ⟨_, rfl⟩
                rw [← hcc]
                have HCC := Aside0.mk hcc
                have hcc65 : 65 ≤ cc := by omega
                have hcc91 : cc ≤ 91 := by omega
                obtain ⟨x0, x1, x2, x3, x4, x5⟩ := HX.out.cells
                have hxl := blk_lt HX.out
                by_cases hj : j < 26
                · have hcc90 : cc ≤ 90 := by omega
                  have hh := mask_has HM.out j hj
                  rw [← hcc] at hh
                  have HH := Aside0.mk hh
                  have hjj : (decide (j < j) && mayC l i j s) = false := by simp
                  rw [hjj, Bool.or_false] at HH
                  clear hcc hh hjj
                  by_cases hb : mayK l i k j = true
                  · rw [hb] at HH
                    have HBT := Aside0.mk hb
                    clear hb
                    go_wp2_with (first | (go_at_call 50; refine (stemma_letters_has.calls m' cc true _ HH.out).mono ?_; rintro e w' ⟨rfl, ⟨nd, rfl⟩⟩))
                    go_roundg (gk - 1)
                    case measure => have := HJN.out; omega
                    case rel =>
                      refine ⟨j + 1, m', by have := HJN.out; omega, by rw [HCC.out]; congr 1 <;> omega, rfl, ⟨HM.out.congr (fun x hx => ?_)⟩, ⟨HQ.out.step (pw_below_drewN (Below.refl _ _) nd)⟩, ⟨HX.out.below (pw_below_drewN (Below.refl _ _) nd)⟩⟩
                      by_cases e : x = j
                      · subst e
                        rw [HBT.out]
                        simp
                      · congr 2
                        exact decide_eq_decide.2 (by omega)
                  · have hbf : mayK l i k j = false := by simpa using hb
                    rw [hbf] at HH
                    have HBF := Aside0.mk hbf
                    clear hb hbf
                    obtain ⟨lv, hlv⟩ : ∃ lv, lv = leastV l s (i : Int) cc := ⟨_, rfl⟩
                    have hlb := leastV_bound l s (i : Int) cc
                    rw [← hlv] at hlb
                    obtain ⟨hlb0, hlb1⟩ := hlb
                    have HLV := Aside0.mk hlv
                    clear hlv
                    by_cases hlt : lv < 1048576
                    · have hmc : mayC l i j s = true := by
                        unfold mayC
                        rw [← HCC.out, ← HLV.out]
                        exact decide_eq_true hlt
                      obtain ⟨m2, hm2, hM2⟩ := mask_with HM.out j hj
                      rw [← HCC.out] at hm2
                      have HM2 := Aside0.mk hM2
                      have HMC := Aside0.mk hmc
                      have HW := Aside0.mk hm2
                      clear hM2 hmc hm2
                      go_wp2_with (first
                        | (go_at_call 50; refine (stemma_letters_has.calls m' cc false _ HH.out).mono ?_; rintro e w' ⟨rfl, ⟨nd, rfl⟩⟩; have HQ2 := Aside0.mk (HQ.out.step (pw_below_drewN (Below.refl _ _) nd)); have HX2 := Aside0.mk (HX.out.below (pw_below_drewN (Below.refl _ _) nd)))
                        | (go_at_call 51; refine (least_calls (some ad) c l s (i : Int) cc _ (Kd.C_below HR.out (HB.out.trans (HQ2.out.below.mono HB.out.size))) hc h1 h5 HVA.out.size HVA.out.high (fun i hi => ⟨(HVA.out.err i hi).1, by have := (HVA.out.err i hi).2; omega⟩)).mono ?_; rintro e w5 ⟨rfl, hB5⟩; rw [← HLV.out]; have HQ3 := Aside0.mk (HQ2.out.step hB5); have HX3 := Aside0.mk (HX2.out.below hB5); clear hB5)
                        | (go_at_call 52; refine (stemma_letters_with.calls m' cc m2 _ HW.out).mono ?_; rintro e w' ⟨rfl, ⟨nd2, rfl⟩⟩))
                      go_roundg (gk - 1)
                      case measure => have := HJN.out; omega
                      case rel =>
                        refine ⟨j + 1, m2, by have := HJN.out; omega, by rw [HCC.out]; congr 1 <;> omega, rfl, ⟨HM2.out.congr (fun x hx => ?_)⟩, ⟨HQ3.out.step (pw_below_drewN (Below.refl _ _) nd2)⟩, ⟨HX3.out.below (pw_below_drewN (Below.refl _ _) nd2)⟩⟩
                        by_cases e : x = j
                        · subst e
                          rw [HMC.out]
                          simp
                        · rw [show (x == j) = false from beq_false_of_ne e, Bool.or_false]
                          congr 2
                          exact decide_eq_decide.2 (by omega)
                    · have hmc : mayC l i j s = false := by
                        unfold mayC
                        rw [← HCC.out, ← HLV.out]
                        exact decide_eq_false hlt
                      have HMC := Aside0.mk hmc
                      clear hmc
                      go_wp2_with (first
                        | (go_at_call 50; refine (stemma_letters_has.calls m' cc false _ HH.out).mono ?_; rintro e w' ⟨rfl, ⟨nd, rfl⟩⟩; have HQ2 := Aside0.mk (HQ.out.step (pw_below_drewN (Below.refl _ _) nd)); have HX2 := Aside0.mk (HX.out.below (pw_below_drewN (Below.refl _ _) nd)))
                        | (go_at_call 51; refine (least_calls (some ad) c l s (i : Int) cc _ (Kd.C_below HR.out (HB.out.trans (HQ2.out.below.mono HB.out.size))) hc h1 h5 HVA.out.size HVA.out.high (fun i hi => ⟨(HVA.out.err i hi).1, by have := (HVA.out.err i hi).2; omega⟩)).mono ?_; rintro e w5 ⟨rfl, hB5⟩; rw [← HLV.out]; have HQ3 := Aside0.mk (HQ2.out.step hB5); have HX3 := Aside0.mk (HX2.out.below hB5); clear hB5))
                      go_roundg (gk - 1)
                      case measure => have := HJN.out; omega
                      case rel =>
                        refine ⟨j + 1, m', by have := HJN.out; omega, by rw [HCC.out]; congr 1 <;> omega, rfl, ⟨HM.out.congr (fun x hx => ?_)⟩, HQ3, HX3⟩
                        by_cases e : x = j
                        · subst e
                          rw [HMC.out]
                          simp
                        · congr 2
                          exact decide_eq_decide.2 (by omega)
                · have hcc90 : ¬ cc ≤ 90 := by omega
                  clear hcc
                  go_wp2_with fail
                  go_roundg (gm - 1)
                  case measure => have := HKN.out; omega
                  case rel =>
                    refine ⟨k + 1, m', by have := HKN.out; omega, rfl, by go_num, ⟨HM.out.congr (fun x hx => ?_)⟩, HQ⟩
                    rw [mayK_succ l i k x s HS.out, show decide (x < j) = true from decide_eq_true (by omega), Bool.true_and]
          · have hkk : k = (knownV l).length := by have := HKN.out; omega
            have HKK := Aside0.mk hkk
            clear hkk
            obtain ⟨kk, hkk⟩ := (mask_string HM.out).rounds
            have HST := Aside0.mk hkk
            clear hkk
            obtain ⟨st, hst⟩ : ∃ st, st = strOfNums (maskLetters (mayK l i k) 26) := ⟨_, rfl⟩
            have HSE := Aside0.mk hst
            clear hst
            go_wp2_with (first
              | (go_at_call 53; refine (stemma_letters_String.calls kk m _ wr HST.out).mono ?_; rintro e w7 ⟨rfl, hB7⟩; rw [← HSE.out]; have HQ7 := Aside0.mk (HQ.out.step hB7); clear hB7)
              | (at_builtin; refine Kd.R_append Kd.string (w0 := W1) W1.heap.size rfl _ _ 36 9 (.string ⟨#[]⟩) 16 rfl (by kernel_rfl) info9 rfl (by decide) (by omega) u6 _ st [.string st] (fun k => W1.heap.size ≤ k) (fun _ => False) rfl rfl ?aP (fun _ hk => hk.elim) ?aF (Kd.R_mono HQ7.out.orow (fun _ hk => hk.1)) HQ7.out.below HQ7.out.below.size ?aL ?_; (case aP => exact rfl); (case aF => exact fun k hk => Nat.le_trans HQ7.out.below.size hk); (case aL => (simp; omega)); intro v8 w8 hN8 hB8 hg8 hat8; have HN8 := Aside0.mk hN8; have HB8 := Aside0.mk hB8; clear hN8 hB8 hg8 hat8))
            go_roundg (gj - 1)
            case measure => have := HIK.out; omega
            case rel =>
              refine ⟨i + 1, by have := HIK.out; omega, by go_num, ⟨?_⟩, HB8⟩
              rw [List.range_succ, List.map_append]
              have h9 := HN8.out
              rw [HSE.out, HKK.out] at h9
              have e9 : maskLetters (mayK l i (knownV l).length) 26 = maskLetters (mayAt l i) 26 := by
                unfold maskLetters
                rw [show mayK l i (knownV l).length = mayAt l i from funext fun j => mayK_all l i j]
              rw [e9] at h9
              exact h9
      · go_wp2_with fail
        refine bodyPost_ret (results_tmp2 rfl _ _ _) rfl ⟨_, rfl, ?_, HB.out.trans (HB1.out.mono HB.out.size)⟩
        have h7 := HN.out
        rw [show i = L by have := HIK.out; omega, HLL.out] at h7
        exact Kd.R_mono (Kd.R_lower h7 HB.out.size) (fun k hk => trivial)
  · have hV : lettersV l = ([], knownE l) := by unfold lettersV; rw [if_neg hk]
    rw [hV]
    obtain ⟨e0, he0⟩ : ∃ e0, e0 = knownE l := ⟨_, rfl⟩
    have HR := Aside0.mk hr
    have HK := Aside0.mk hk
    have HE := Aside0.mk he0
    have b1 : (e0 != 0) = true := bne_iff_ne.2 (by rw [he0]; exact hk)
    rw [← he0]
    clear hr hk hV he0
    go_enter Try.func18, Try.ntmps18
    go_wp2_with (first | (go_at_call 48; refine (known_err A c l w HR.out hc HK.out).mono ?_; rintro e w2 ⟨rfl, hB⟩; rw [← HE.out]; have HB := Aside0.mk hB; clear hB))
    exact bodyPost_ret (results_tmp2 rfl _ _ _) rfl ⟨_, rfl, Kd.R_nil _ _ _ _ _, HB.out⟩
end Go.Proofs.Ytegjollhajgcdaa.P.OwnSt
namespace Go.Proofs.Ytegjollhajgcdaa.P
open Go.RowKit Go.Proofs.YtegjollhajgcdaaW.PrintWords Go.Proofs.YtegjollhajgcdaaW.PrintLast Go.Proofs.YtegjollhajgcdaaW.PrintMore
attribute [local go_sem] max2_int min2_int max_two min_two max_three min_three max_four min_four   -- for this text's walks alone
set_option linter.unusedVariables false
set_option linter.unusedSimpArgs false
def stemma_Letters.f (k : Nat) (l0 : List (S24)) : Option (List ByteArray × Int) := some (OwnSt.lettersV l0)
theorem stemma_Letters.mono : ∀ a0 k, LeO (stemma_Letters.f k a0) (stemma_Letters.f (k + 1) a0) := by intros; exact LeO.refl _
theorem stemma_Letters.calls (k : Nat) (A0 : Option Addr) (c0 : Nat) (l0 : List (S24)) (r1 : List ByteArray) (r2 : Int) (w : World) (hr0 : Kd.C k24 w A0 l0.length l0) (hc0 : l0.length ≤ c0) (h : stemma_Letters.f k l0 = some (r1, r2)) :
    Calls Try.prog 18 #[.slice A0 l0.length c0] w fun e w' => ∃ v0_ : Value, e = .returned (.tuple #[v0_, .int .i64 r2]) ∧ Kd.R Kd.string 9 w' w.heap.size (fun _ => True) v0_ r1 ∧ Below w.heap.size w w' := by
  have h2 := OwnSt.letters_calls A0 c0 l0 w hr0 hc0; rw [show OwnSt.lettersV l0 = (r1, r2) from Option.some.inj h] at h2; exact h2
end Go.Proofs.Ytegjollhajgcdaa.P
namespace Go.Proofs.Ytegjollhajgcdaa.P.OwnSt
open Go.RowKit Go.Shelf Go.Proofs.YtegjollhajgcdaaW.PrintWords Go.Proofs.YtegjollhajgcdaaW.PrintLast Go.Proofs.YtegjollhajgcdaaW.PrintMore
set_option linter.unusedVariables false
set_option linter.unusedSimpArgs false
theorem treesG_of_mem (l : List S24) : ∀ (rem i : Nat) (s t : Nat → Int), t ∈ treesG l rem i s → (∀ k, k < i → t k = s k) ∧ (∀ k, i + rem ≤ k → t k = s k) ∧ ∀ k, i ≤ k → k < i + rem → -1 ≤ t k ∧ t k < k ∧ canF l k (t k) = true := by
  intro rem
  induction rem with
  | zero =>
    intro i s t h
    simp [treesG] at h
    subst h
    exact ⟨fun _ _ => rfl, fun _ _ => rfl, fun k h1 h2 => by omega⟩
  | succ rem ih =>
    intro i s t h
    simp only [treesG, List.mem_flatMap, List.mem_range] at h
    obtain ⟨f, hf, h⟩ := h
    split at h
    · rename_i hc
      obtain ⟨h1, h2, h3⟩ := ih (i + 1) _ t h
      have hi : t i = (f : Int) - 1 := by rw [h1 i (by omega)]; simp [upd]
      refine ⟨fun k hk => ?_, fun k hk => ?_, fun k h4 h5 => ?_⟩
      · rw [h1 k (by omega)]; simp [upd, show k ≠ i by omega]
      · rw [h2 k (by omega)]; simp [upd, show k ≠ i by omega]
      · by_cases e : k = i
        · subst e
          rw [hi]
          exact ⟨by omega, by omega, hc⟩
        · exact h3 k (by omega) (by omega)
    · simp at h
theorem treesG_mem (l : List S24) : ∀ (rem i : Nat) (s t : Nat → Int), (∀ k, k < i → t k = s k) → (∀ k, i + rem ≤ k → t k = s k) → (∀ k, i ≤ k → k < i + rem → -1 ≤ t k ∧ t k < k ∧ canF l k (t k) = true) → t ∈ treesG l rem i s := by
  intro rem
  induction rem with
  | zero =>
    intro i s t h1 h2 h3
    have : t = s := funext fun k => by
      by_cases e : k < i
      · exact h1 k e
      · exact h2 k (by omega)
    simp [treesG, this]
  | succ rem ih =>
    intro i s t h1 h2 h3
    have h4 := h3 i (by omega) (by omega)
    simp only [treesG, List.mem_flatMap, List.mem_range]
    refine ⟨(t i + 1).toNat, by omega, ?_⟩
    have e : (((t i + 1).toNat : Nat) : Int) - 1 = t i := by omega
    rw [e, if_pos h4.2.2]
    refine ih (i + 1) _ t (fun k hk => ?_) (fun k hk => ?_) (fun k h5 h6 => h3 k (by omega) (by omega))
    · by_cases e2 : k = i
      · subst e2; simp [upd]
      · rw [h1 k (by omega)]; simp [upd, e2]
    · rw [h2 k (by omega)]; simp [upd, show k ≠ i by omega]
theorem knownV_mem {l : List S24} {s : Nat → Int} (h : s ∈ knownV l) : (∀ k, k < l.length → -1 ≤ s k ∧ s k < k ∧ canF l k (s k) = true) ∧ (∀ k, l.length ≤ k → s k = 0) ∧ liesB l s = true := by
  unfold knownV at h
  rw [List.mem_filter] at h
  obtain ⟨_, h2, h3⟩ := treesG_of_mem l l.length 0 _ s h.1
  exact ⟨fun k hk => h3 k (by omega) (by omega), fun k hk => h2 k (by omega), h.2⟩
theorem mem_knownV {l : List S24} {s : Nat → Int} (h1 : ∀ k, k < l.length → -1 ≤ s k ∧ s k < k ∧ canF l k (s k) = true) (h2 : ∀ k, l.length ≤ k → s k = 0) (h3 : liesB l s = true) : s ∈ knownV l := by
  unfold knownV
  rw [List.mem_filter]
  exact ⟨treesG_mem l l.length 0 _ s (fun k hk => by omega) (fun k hk => h2 k (by omega)) (fun k _ hk => h1 k (by omega)), h3⟩
end Go.Proofs.Ytegjollhajgcdaa.P.OwnSt
namespace Go.Proofs.Ytegjollhajgcdaa.P.OwnSt
open Go.RowKit Go.Shelf Go.Proofs.YtegjollhajgcdaaW.PrintWords Go.Proofs.YtegjollhajgcdaaW.PrintLast Go.Proofs.YtegjollhajgcdaaW.PrintMore
set_option linter.unusedVariables false
set_option linter.unusedSimpArgs false
def apTo (l : List S24) (s : Nat → Int) : Nat → Int
  | 0 => 0
  | k + 1 => apTo l s k + if s k = -1 then 0 else apN (rd_T24 l (s k)).f0 (rd_T24 l (k : Int)).f0 (rd_T24 l (s k)).f0.size
def numF (l : List S24) (s : Nat → Int) : Int := leastV l s (-1) 0 + apTo l s l.length
theorem apTo_bound (l : List S24) (s : Nat → Int) (hv : Valid l) (hs : ∀ k, k < l.length → -1 ≤ s k ∧ s k < k) : ∀ k, k ≤ l.length → 0 ≤ apTo l s k ∧ apTo l s k ≤ 8 * k := by
  intro k
  induction k with
  | zero => intro _; simp [apTo]
  | succ k ih =>
    intro hk
    have h1 := ih (by omega)
    unfold apTo
    split
    · omega
    · have h2 := apN_bound (rd_T24 l (s k)).f0 (rd_T24 l (k : Int)).f0 (rd_T24 l (s k)).f0.size
      have h3 := hs k (by omega)
      obtain ⟨sn, hsn⟩ : ∃ sn : Nat, s k = (sn : Int) := ⟨(s k).toNat, by omega⟩
      rw [hsn] at h2 ⊢
      have h4 := hv.size sn (by omega)
      have := hv.high
      omega
set_option maxHeartbeats 2000000 in
set_option maxRecDepth 100000 in
theorem ask57_calls (A : Option Addr) (c : Nat) (l : List S24) (s : Nat → Int) (bl : Nat) (w : World) (hr : Kd.C k24 w A l.length l) (hc : l.length ≤ c) (hv : Valid l) (hs : ∀ k, k < l.length → -1 ≤ s k ∧ s k < k) (hbl : w.heap[bl]? = some (.cells #[.slice A l.length c] 22 (0, 0))) :
    Calls Try.prog 57 #[lostV A l.length c s, .pointer (some ⟨bl, 0, none⟩)] w fun e w' => e = .returned (.int .i64 (numF l s)) ∧ Below w.heap.size w w' := by
  have HR := Aside0.mk hr
  have HV := Aside0.mk hv
  have HS := Aside0.mk hs
  have h1 := hv.one
  have h5 := hv.five
  have HX0 := Aside0.mk (show LostAt (w.alloc (.cells #[.slice A l.length c, .int .i64 (s 0), .int .i64 (s 1), .int .i64 (s 2), .int .i64 (s 3), .int .i64 (s 4)] 84)) w.heap.size A l.length c s from blk_new w _)
  have HL0 := Aside0.mk (blk_alloc hbl (.cells #[.slice A l.length c, .int .i64 (s 0), .int .i64 (s 1), .int .i64 (s 2), .int .i64 (s 3), .int .i64 (s 4)] 84))
  have HB0 := Aside0.mk ((Below.refl w.heap.size w).alloc (Nat.le_refl _) (.cells #[.slice A l.length c, .int .i64 (s 0), .int .i64 (s 1), .int .i64 (s 2), .int .i64 (s 3), .int .i64 (s 4)] 84))
  clear hr hv hs hbl
  have hmix : Try.prog.follows Departure.mixedOrders = true := by kernel_rfl
  unfold lostV
  go_enter Try.func57, Try.ntmps57
  go_upto_region 1 with fail
  obtain ⟨bx, hbx⟩ : ∃ bx, bx = w.heap.size := ⟨_, rfl⟩
  rw [← hbx] at HX0 ⊢
  refine wp_gen (fun wx => Aside0 (LostAt wx bx A l.length c s) ∧ Aside0 (wx.heap[bl]? = some (.cells #[.slice A l.length c] 22 (0, 0))) ∧ Aside0 (Below w.heap.size w wx)) ⟨HX0, HL0, HB0⟩ ?_
  clear hbx HX0 HL0 HB0
  rintro W1 ⟨HX, HL, HB⟩
  obtain ⟨x0, x1, x2, x3, x4, x5⟩ := HX.out.cells
  have hxl := blk_lt HX.out
  obtain ⟨nl, hnl⟩ : ∃ nl, nl = leastV l s (-1) 0 := ⟨_, rfl⟩
  have HNL := Aside0.mk hnl
  clear hnl
  go_upto_region 2 with (first | (go_at_call 51; refine (least_calls A c l s (-1) 0 _ (Kd.C_below HR.out HB.out) hc h1 h5 HV.out.size HV.out.high (fun i hi => ⟨(HV.out.err i hi).1, by have := (HV.out.err i hi).2; omega⟩)).mono ?_; rintro e w5 ⟨rfl, hB5⟩; rw [← HNL.out]; have HB5 := Aside0.mk hB5; clear hB5))
  refine wp_gen (fun wx => Aside0 (LostAt wx bx A l.length c s) ∧ Aside0 (wx.heap[bl]? = some (.cells #[.slice A l.length c] 22 (0, 0))) ∧ Aside0 (Below w.heap.size w wx)) ⟨⟨HX.out.below HB5.out⟩, ⟨blk_below HL.out HB5.out⟩, ⟨HB.out.trans (HB5.out.mono HB.out.size)⟩⟩ ?_
  clear HX HL HB HB5 w5 W1 x0 x1 x2 x3 x4 x5 hxl
  rintro W1 ⟨HX, HL, HB⟩
  obtain ⟨x0, x1, x2, x3, x4, x5⟩ := HX.out.cells
  have hxl := blk_lt HX.out
  have hl0 := (blk_cell HL.out 0).trans (show (#[Value.slice A l.length c] : Array Value)[0]? = some _ from rfl)
  have hsl : (Instr.sliceAt 82 (.pointer (some ⟨bx, 1, none⟩)) none (some (.int .i64 (l.length : Int))) none).run Try.prog W1 = .ok (.slice (some ⟨bx, 1, none⟩) l.length 5) W1 := by
    have h82 : Try.prog.underlying 82 = some (.array 5 3) := by kernel_rfl
    have hal : Try.prog.arrayLen 82 = 5 := by simp [Program.arrayLen, h82]
    have hel : Try.prog.elem 82 = 3 := by simp [Program.elem, h82]
    rw [run_sliceAt_array_h W1 82 ⟨bx, 1, none⟩ (by rw [hal, hel]; exact h82) .i64 (l.length : Int) (by omega) (by rw [hal]; omega), hal, hel]
    go_simp
  go_wp2_with fail
  have hnb := leastV_bound l s (-1) 0
  rw [← HNL.out] at hnb
  have HNB := Aside0.mk hnb
  clear hnb hsl x0 x1 x2 x3 x4 x5 hxl hl0
  go_loopg [4, 14] l.length (fun k s4 s14 wr => ∃ i : Nat, i + k = l.length ∧ s14 = .int .i64 (i : Int) ∧ s4 = .int .i64 (nl + apTo l s i) ∧ Aside0 (LostAt wr bx A l.length c s) ∧ Aside0 (wr.heap[bl]? = some (.cells #[.slice A l.length c] 22 (0, 0))) ∧ Aside0 (Below w.heap.size w wr))
  case atStart => exact ⟨0, by omega, rfl, by simp [apTo], HX, HL, HB⟩
  case round =>
    clear HX HL HB
    obtain ⟨i, hik, rfl, rfl, HX, HL, HB⟩ := hrel
    have HIK := Aside0.mk hik
    clear hik
    have hab := apTo_bound l s HV.out HS.out i (by have := HIK.out; omega)
    obtain ⟨acc, hacc⟩ : ∃ acc, acc = nl + apTo l s i := ⟨_, rfl⟩
    rw [← hacc]
    have ha0 : 0 ≤ acc := by have := HNB.out; omega
    have ha1 : acc ≤ 2000000 := by have := HNB.out; have := HIK.out; omega
    have HAC := Aside0.mk hacc
    clear hab hacc
    by_cases hi : i < l.length
    · have hx := HX.out.src i (by omega)
      have hxl := blk_lt HX.out
      have hl0 := (blk_cell HL.out 0).trans (show (#[Value.slice A l.length c] : Array Value)[0]? = some _ from rfl)
      by_cases hsi : s i = -1
      · have HSI := Aside0.mk hsi
        have b1 : (s i != -1) = false := by rw [hsi]; rfl
        clear hsi
        go_wp2_with fail
        go_roundg (gk - 1)
        case measure => have := HIK.out; omega
        case rel =>
          refine ⟨i + 1, by have := HIK.out; omega, by go_num, ?_, HX, HL, HB⟩
          rw [apTo, if_pos HSI.out, Int.add_zero, HAC.out]
      · have HSI := Aside0.mk hsi
        have b1 : (s i != -1) = true := bne_iff_ne.2 hsi
        have hsb := HS.out i hi
        obtain ⟨sn, hsn⟩ : ∃ sn : Nat, s i = (sn : Int) := ⟨(s i).toNat, by omega⟩
        have HSN := Aside0.mk hsn
        rw [hsn] at hx b1 hsb
        have hsn5 : sn < l.length := by omega
        obtain ⟨ad, hA, y0, _⟩ := at_T24 (Kd.C_below HR.out HB.out) (sn : Int) (by omega) (by omega)
        subst hA
        obtain ⟨ad', hA', z0, _⟩ := at_T24 (Kd.C_below HR.out HB.out) (i : Int) (by omega) (by omega)
        injection hA' with hA'
        subst hA'
        have hap := apart_f (rd_T24 l (sn : Int)).f0 (rd_T24 l (i : Int)).f0 (by rw [HV.out.size sn hsn5, HV.out.size i hi]; exact Nat.le_refl _) (by rw [HV.out.size sn hsn5]; have := HV.out.high; omega)
        have hapb := apN_bound (rd_T24 l (sn : Int)).f0 (rd_T24 l (i : Int)).f0 (rd_T24 l (sn : Int)).f0.size
        have hsz := HV.out.size sn hsn5
        have h8 := HV.out.high
        obtain ⟨ap, hapE⟩ : ∃ ap, ap = apN (rd_T24 l (sn : Int)).f0 (rd_T24 l (i : Int)).f0 (rd_T24 l (sn : Int)).f0.size := ⟨_, rfl⟩
        rw [← hapE] at hap hapb
        have hap0 : 0 ≤ ap := hapb.1
        have hap8 : ap ≤ 8 := by omega
        have HAP := Aside0.mk hap
        have HAE := Aside0.mk hapE
        clear hap hapb hapE hsz h8 hsn hsi hsb
        simp only [Int.toNat_natCast] at y0 z0
        have hadl := World.block_lt_of_cell? wr _ y0
        have hi1 : (sn : Int) < (l.length : Int) := by omega
        have hi2 : (i : Int) < (l.length : Int) := by omega
        go_upto_region 6 with fail
        go_quiet (first | (go_at_call 58; exact Calls.quiet_of ((stemma_apart.calls _ _ _ ap _ HAP.out).mono (fun e w' h => ⟨h.1, h.2.out⟩))))
        go_wp2_with fail
        go_roundg (gk - 1)
        case measure => have := HIK.out; omega
        case rel =>
          refine ⟨i + 1, by have := HIK.out; omega, by go_num, ?_, ⟨HX.out.below (pw_below_drewN (Below.refl _ _) nq)⟩, ⟨blk_below HL.out (pw_below_drewN (Below.refl _ _) nq)⟩, ⟨HB.out.trans ((pw_below_drewN (Below.refl _ _) nq).mono HB.out.size)⟩⟩
          rw [apTo, if_neg HSI.out, HSN.out, ← HAE.out, ← Int.add_assoc, ← HAC.out]
    · have hii : i = l.length := by have := HIK.out; omega
      have HII := Aside0.mk hii
      clear hii
      go_wp2_with fail
      refine bodyPost_ret (results_tmp rfl _ _ _) rfl ⟨?_, HB.out⟩
      unfold numF
      rw [← HNL.out, ← HII.out, ← HAC.out]
      rfl
theorem ask57_calls' (A : Option Addr) (c : Nat) (l : List S24) (s : Nat → Int) (bl : Nat) (w : World) (hr : Kd.C k24 w A l.length l) (hc : l.length ≤ c) (hv : Valid l) (hs : ∀ k, k < l.length → -1 ≤ s k ∧ s k < k) (hbl : w.heap[bl]? = some (.cells #[.slice A l.length c] 22 (0, 0))) :
    Calls Try.prog 57 #[.agg #[.slice A l.length c, .int .i64 (s 0), .int .i64 (s 1), .int .i64 (s 2), .int .i64 (s 3), .int .i64 (s 4)], .pointer (some ⟨bl, 0, none⟩)] w fun e w' => e = .returned (.int .i64 (numF l s)) ∧ Below w.heap.size w w' := ask57_calls A c l s bl w hr hc hv hs hbl
theorem isNaN_calls (x : Int) (w : World) : Calls Try.prog 78 #[.int .i64 x] w fun e w' => e = .returned (.bool false) ∧ w' = w := by
  go_enter Try.func78, Try.ntmps78
  go_wp2_with fail
  exact bodyPost_ret (results_tmp rfl _ _ _) rfl ⟨rfl, rfl⟩
def cmpI (x y : Int) : Int := if x < y then -1 else if y < x then 1 else 0
theorem compare_calls (x y : Int) (w : World) : Calls Try.prog 71 #[.int .i64 x, .int .i64 y] w fun e w' => e = .returned (.int .i64 (cmpI x y)) ∧ w' = w := by
  by_cases h1 : x < y
  · have h : cmpI x y = -1 := by unfold cmpI; rw [if_pos h1]
    rw [h]
    go_enter Try.func71, Try.ntmps71
    go_wp2_with (first | (go_at_call 78; refine (isNaN_calls _ _).mono ?_; rintro e w2 ⟨rfl, rfl⟩))
    exact bodyPost_ret (results_tmp rfl _ _ _) rfl ⟨rfl, rfl⟩
  · by_cases h2 : y < x
    · have h : cmpI x y = 1 := by unfold cmpI; rw [if_neg h1, if_pos h2]
      rw [h]
      have b1 : decide (x < y) = false := decide_eq_false h1
      have b2 : decide (y < x) = true := decide_eq_true h2
      clear h
      go_enter Try.func71, Try.ntmps71
      go_wp2_with (first | (go_at_call 78; refine (isNaN_calls _ _).mono ?_; rintro e w2 ⟨rfl, rfl⟩))
      exact bodyPost_ret (results_tmp rfl _ _ _) rfl ⟨rfl, rfl⟩
    · have h : cmpI x y = 0 := by unfold cmpI; rw [if_neg h1, if_neg h2]
      rw [h]
      have b1 : decide (x < y) = false := decide_eq_false h1
      have b2 : decide (y < x) = false := decide_eq_false h2
      clear h
      go_enter Try.func71, Try.ntmps71
      go_wp2_with (first | (go_at_call 78; refine (isNaN_calls _ _).mono ?_; rintro e w2 ⟨rfl, rfl⟩))
      exact bodyPost_ret (results_tmp rfl _ _ _) rfl ⟨rfl, rfl⟩
structure TrAt (A : Option Addr) (c : Nat) (l : List S24) (bl : Nat) (W : World) : Prop where
  list : Kd.C k24 W A l.length l
  box : W.heap[bl]? = some (.cells #[.slice A l.length c] 22 (0, 0))
theorem TrAt.below {A : Option Addr} {c : Nat} {l : List S24} {bl : Nat} {W W' : World} (h : TrAt A c l bl W) (hb : Below W.heap.size W W') : TrAt A c l bl W' := ⟨Kd.C_below h.list hb, blk_below h.box hb⟩
def numV (bl : Nat) : Value := .func (.func 57) #[] #[.pointer (some ⟨bl, 0, none⟩)]
def SrcOk (l : List S24) (s : Nat → Int) : Prop := ∀ k, k < l.length → -1 ≤ s k ∧ s k < k
set_option maxHeartbeats 2000000 in
set_option maxRecDepth 100000 in
theorem ask70_calls (A : Option Addr) (c : Nat) (l : List S24) (s t : Nat → Int) (bl bn : Nat) (w : World) (hr : TrAt A c l bl w) (hc : l.length ≤ c) (hv : Valid l) (hs : SrcOk l s) (ht : SrcOk l t) (hbn : w.heap[bn]? = some (.cells #[numV bl] 97 (0, 0))) :
    Calls Try.prog 70 #[lostV A l.length c s, lostV A l.length c t, .pointer (some ⟨bn, 0, none⟩)] w fun e w' => e = .returned (.int .i64 (cmpI (numF l s) (numF l t))) ∧ Below w.heap.size w w' := by
  have HR := Aside0.mk hr
  have HV := Aside0.mk hv
  have HS := Aside0.mk hs
  have HT := Aside0.mk ht
  have HN := Aside0.mk hbn
  clear hr hv hs ht hbn
  have hmix : Try.prog.follows Departure.mixedOrders = true := by kernel_rfl
  obtain ⟨ns, hns⟩ : ∃ ns, ns = numF l s := ⟨_, rfl⟩
  obtain ⟨nt, hnt⟩ : ∃ nt, nt = numF l t := ⟨_, rfl⟩
  rw [← hns, ← hnt]
  have HNS := Aside0.mk hns
  have HNT := Aside0.mk hnt
  clear hns hnt
  unfold lostV
  go_enter Try.func70, Try.ntmps70
  go_upto_region 1 with fail
  obtain ⟨ba, hba⟩ : ∃ ba, ba = w.heap.size := ⟨_, rfl⟩
  rw [← hba]
  refine wp_gen (fun wx => Aside0 (LostAt wx ba A l.length c s) ∧ Aside0 (LostAt wx (ba + 1) A l.length c t) ∧ Aside0 (TrAt A c l bl wx) ∧ Aside0 (wx.heap[bn]? = some (.cells #[numV bl] 97 (0, 0))) ∧ Aside0 (Below w.heap.size w wx)) ?_ ?_
  · subst hba
    refine ⟨⟨blk_alloc (blk_new w _) _⟩, ⟨?_⟩, ⟨HR.out.below (((Below.refl _ _).alloc (Nat.le_refl _) _).alloc (by simp) _)⟩, ⟨blk_alloc (blk_alloc HN.out _) _⟩, ⟨((Below.refl _ _).alloc (Nat.le_refl _) _).alloc (by simp) _⟩⟩
    have := blk_new (w.alloc (.cells #[.slice A l.length c, .int .i64 (s 0), .int .i64 (s 1), .int .i64 (s 2), .int .i64 (s 3), .int .i64 (s 4)] 84)) (.cells #[.slice A l.length c, .int .i64 (t 0), .int .i64 (t 1), .int .i64 (t 2), .int .i64 (t 3), .int .i64 (t 4)] 84)
    rwa [World.size_alloc] at this
  clear hba HR HN
  rintro W1 ⟨HX, HY, HR, HN, HB⟩
  obtain ⟨x0, x1, x2, x3, x4, x5⟩ := HX.out.cells
  obtain ⟨y0, y1, y2, y3, y4, y5⟩ := HY.out.cells
  have hxl := blk_lt HX.out
  have hyl := blk_lt HY.out
  have hnl := blk_lt HN.out
  have hn0 := (blk_cell HN.out 0).trans (show (#[numV bl] : Array Value)[0]? = some (.func (.func 57) #[] #[.pointer (some ⟨bl, 0, none⟩)]) from rfl)
  have HRd := HR.out.below (below_drew (Below.refl _ _))
  have HC57 := Aside0.mk (ask57_calls' A c l s bl W1.drew HRd.list hc HV.out HS.out HRd.box)
  clear HRd
  go_region_held3 (fun w' => (w'.cell? ⟨bn, 0, none⟩ = some (.func (.func 57) #[] #[.pointer (some ⟨bl, 0, none⟩)]) ∧ (w'.cell? ⟨ba, 0, none⟩ = some (.slice A l.length c) ∧ w'.cell? ⟨ba, 1, none⟩ = some (.int .i64 (s 0)) ∧ w'.cell? ⟨ba, 2, none⟩ = some (.int .i64 (s 1)) ∧ w'.cell? ⟨ba, 3, none⟩ = some (.int .i64 (s 2)) ∧ w'.cell? ⟨ba, 4, none⟩ = some (.int .i64 (s 3)) ∧ w'.cell? ⟨ba, 5, none⟩ = some (.int .i64 (s 4))) ∧ (w'.cell? ⟨ba + 1, 0, none⟩ = some (.slice A l.length c) ∧ w'.cell? ⟨ba + 1, 1, none⟩ = some (.int .i64 (t 0)) ∧ w'.cell? ⟨ba + 1, 2, none⟩ = some (.int .i64 (t 1)) ∧ w'.cell? ⟨ba + 1, 3, none⟩ = some (.int .i64 (t 2)) ∧ w'.cell? ⟨ba + 1, 4, none⟩ = some (.int .i64 (t 3)) ∧ w'.cell? ⟨ba + 1, 5, none⟩ = some (.int .i64 (t 4)))))
    (first | exact ⟨hn0, ⟨x0, x1, x2, x3, x4, x5⟩, ⟨y0, y1, y2, y3, y4, y5⟩⟩ | exact ⟨hn3, HX3.out.cells, HY3.out.cells⟩ | exact ⟨hn4, HX4.out.cells, HY4.out.cells⟩)
    (first
      | (go_at_call 57; (with_reducible refine HC57.out.mono ?_); rintro e w3 ⟨rfl, hB3⟩; rw [← HNS.out]; have HB3 := Aside0.mk ((below_drew (Below.refl W1.heap.size W1)).trans hB3); have HX3 := Aside0.mk (HX.out.below HB3.out); have HY3 := Aside0.mk (HY.out.below HB3.out); have HR3 := Aside0.mk (HR.out.below HB3.out); have hn3 := (HB3.out.cell (p := ⟨bn, 0, none⟩) hnl).trans hn0; clear hB3)
      | (go_at_call 57; have hct := ask57_calls' A c l t bl w3 HR3.out.list hc HV.out HT.out HR3.out.box; (with_reducible refine hct.mono ?_); clear hct; rintro e w4 ⟨rfl, hB4⟩; rw [← HNT.out]; have HB4 := Aside0.mk hB4; have HX4 := Aside0.mk (HX3.out.below hB4); have HY4 := Aside0.mk (HY3.out.below hB4); have hn4 := (hB4.cell (p := ⟨bn, 0, none⟩) (Nat.lt_of_lt_of_le hnl HB3.out.size)).trans hn3; clear hB4)
      | (go_at_call 71; refine (compare_calls ns nt _).mono ?_; rintro e w5 ⟨rfl, rfl⟩))
  go_wp2_with fail
  exact bodyPost_ret (results_tmp rfl _ _ _) rfl ⟨rfl, HB.out.trans ((HB3.out.trans (HB4.out.mono HB3.out.size)).mono HB.out.size)⟩
end Go.Proofs.Ytegjollhajgcdaa.P.OwnSt
namespace Go.Proofs.Ytegjollhajgcdaa.P.OwnSt
open Go.RowKit Go.Shelf Go.Proofs.YtegjollhajgcdaaW.PrintWords Go.Proofs.YtegjollhajgcdaaW.PrintLast Go.Proofs.YtegjollhajgcdaaW.PrintMore
set_option linter.unusedVariables false
set_option linter.unusedSimpArgs false
def minF (l : List S24) : List (Nat → Int) → (Nat → Int) → (Nat → Int)
  | [], m => m
  | s :: r, m => minF l r (if numF l s < numF l m then s else m)
theorem minF_snoc (l : List S24) (s : Nat → Int) : ∀ (r : List (Nat → Int)) (m : Nat → Int), minF l (r ++ [s]) m = if numF l s < numF l (minF l r m) then s else minF l r m := by
  intro r
  induction r with
  | nil => intro m; rfl
  | cons x r ih => intro m; exact ih _
def minTo (l : List S24) (ss : List (Nat → Int)) (m : Nat → Int) (k : Nat) : Nat → Int := minF l ((ss.take k).drop 1) m
theorem minTo_one (l : List S24) (ss : List (Nat → Int)) (m : Nat → Int) : minTo l ss m 1 = m := by
  unfold minTo
  rw [show (ss.take 1).drop 1 = [] from List.eq_nil_of_length_eq_zero (by simp <;> omega)]
  rfl
theorem minTo_succ (l : List S24) (ss : List (Nat → Int)) (m : Nat → Int) (k : Nat) (h1 : 1 ≤ k) (s : Nat → Int) (hs : ss[k]? = some s) : minTo l ss m (k + 1) = if numF l s < numF l (minTo l ss m k) then s else minTo l ss m k := by
  unfold minTo
  have hk : k < ss.length := (List.getElem?_eq_some_iff.1 hs).1
  rw [List.take_add_one, hs, Option.toList_some, List.drop_append_of_le_length (by simp; omega), minF_snoc]
theorem minF_mem (l : List S24) : ∀ (r : List (Nat → Int)) (m : Nat → Int), minF l r m = m ∨ minF l r m ∈ r := by
  intro r
  induction r with
  | nil => intro m; exact .inl rfl
  | cons x r ih =>
    intro m
    unfold minF
    rcases ih (if numF l x < numF l m then x else m) with h | h
    · rw [h]
      split
      · exact .inr List.mem_cons_self
      · exact .inl rfl
    · exact .inr (List.mem_cons_of_mem _ h)
theorem minF_le (l : List S24) : ∀ (r : List (Nat → Int)) (m : Nat → Int), numF l (minF l r m) ≤ numF l m ∧ ∀ s ∈ r, numF l (minF l r m) ≤ numF l s := by
  intro r
  induction r with
  | nil => intro m; exact ⟨Int.le_refl _, fun s h => by simp at h⟩
  | cons x r ih =>
    intro m
    unfold minF
    have h := ih (if numF l x < numF l m then x else m)
    refine ⟨?_, fun s hs => ?_⟩
    · have h1 := h.1
      split at h1 <;> rename_i hc
      · simp only [hc, if_true] at h1 ⊢; omega
      · simp only [hc, if_false] at h1 ⊢; omega
    · rcases List.mem_cons.1 hs with rfl | hs
      · have h1 := h.1
        split at h1 <;> rename_i hc
        · simp only [hc, if_true] at h1 ⊢; omega
        · simp only [hc, if_false] at h1 ⊢; omega
      · exact h.2 s hs
theorem minTo_mem (l : List S24) (ss : List (Nat → Int)) (m : Nat → Int) (k : Nat) (hm : ss[0]? = some m) : minTo l ss m k ∈ ss := by
  unfold minTo
  rcases minF_mem l ((ss.take k).drop 1) m with h | h
  · rw [h]; exact List.mem_of_getElem? hm
  · exact List.mem_of_mem_take (List.mem_of_mem_drop h)
def Z84 (W : World) (b : Nat) : Prop := W.heap[b]? = some (.cells #[.slice none 0 0, .int .i64 0, .int .i64 0, .int .i64 0, .int .i64 0, .int .i64 0] 84 (0, 0))
set_option maxHeartbeats 2000000 in
set_option maxRecDepth 100000 in
theorem minFunc_calls (A : Option Addr) (c : Nat) (l : List S24) (ss : List (Nat → Int)) (m : Nat → Int) (gv cv bl bn bb : Nat) (w : World) (hr : TrAt A c l bl w) (hc : l.length ≤ c) (hv : Valid l) (hss : ∀ s ∈ ss, SrcOk l s) (hm : ss[0]? = some m) (hlen : ss.length < 10000)
    (hown : w.ownsRow bb 84 6 (.slice (some ⟨gv, 0, none⟩) ss.length cv) ss.length (lostRow A l.length c ss)) (hbn : w.heap[bn]? = some (.cells #[numV bl] 97 (0, 0))) :
    Calls Try.prog 69 #[.slice (some ⟨gv, 0, none⟩) ss.length cv, .func (.func 70) #[] #[.pointer (some ⟨bn, 0, none⟩)]] w fun e w' => e = .returned (lostV A l.length c (minTo l ss m ss.length)) ∧ Below w.heap.size w w' := by
  have HR := Aside0.mk hr
  have HV := Aside0.mk hv
  have HSS := Aside0.mk hss
  have HM := Aside0.mk hm
  have HOWN := Aside0.mk hown
  have HN := Aside0.mk hbn
  have hl1 : 1 ≤ ss.length := by
    have := (List.getElem?_eq_some_iff.1 hm).1
    omega
  obtain ⟨mn, hmn⟩ : ∃ mn, mn = minTo l ss m ss.length := ⟨_, rfl⟩
  rw [← hmn]
  have HMN := Aside0.mk hmn
  have hmix : Try.prog.follows Departure.mixedOrders = true := by kernel_rfl
  clear hr hv hss hm hown hbn hmn
  go_enter Try.func69, Try.ntmps69
  go_upto_region 1 with fail
  obtain ⟨b4, hb4⟩ : ∃ b4, b4 = w.heap.size := ⟨_, rfl⟩
  rw [← hb4]
  refine wp_gen (fun wx => Aside0 (Z84 wx b4) ∧ Aside0 (Below w.heap.size w wx) ∧ Aside0 (w.heap.size ≤ b4)) ?_ ?_
  · subst hb4
    exact ⟨⟨blk_new w _⟩, ⟨(Below.refl _ _).alloc (Nat.le_refl _) _⟩, ⟨Nat.le_refl _⟩⟩
  clear hb4
  rintro W1 ⟨HZ, HB, H4⟩
  obtain ⟨⟨y0, y1, y2, y3, y4, y5⟩, ygl⟩ := lost_cells HOWN.out HB.out 0 m HM.out
  simp only [Nat.zero_mul, Nat.zero_add] at y0 y1 y2 y3 y4 y5
  go_upto_region 4 with fail
  obtain ⟨b5, hb5⟩ : ∃ b5, b5 = W1.heap.size := ⟨_, rfl⟩
  rw [← hb5]
  refine wp_gen (fun wx => Aside0 (Z84 wx b4) ∧ Aside0 (LostAt wx b5 A l.length c (minTo l ss m 1)) ∧ Aside0 (Below w.heap.size w wx) ∧ Aside0 (b4 < b5)) ?_ ?_
  · rw [minTo_one]
    refine ⟨⟨blk_alloc HZ.out _⟩, ⟨?_⟩, ⟨HB.out.alloc HB.out.size _⟩, ⟨by rw [hb5]; exact blk_lt HZ.out⟩⟩
    rw [hb5]
    exact blk_new W1 _
  clear hb5 HZ HB y0 y1 y2 y3 y4 y5 ygl W1
  rintro W1 ⟨HZ, HX, HB, H45⟩
  go_wp2_with fail
  go_loopg [6] ss.length (fun k s6 wr => ∃ i : Nat, i + k = ss.length + 1 ∧ (1 ≤ i ∧ i ≤ ss.length) ∧ s6 = .int .i64 (i : Int) ∧ Aside0 (Z84 wr b4) ∧ Aside0 (LostAt wr b5 A l.length c (minTo l ss m i)) ∧ Aside0 (Below w.heap.size w wr))
  case atStart => exact ⟨1, by omega, ⟨by omega, by omega⟩, rfl, HZ, HX, HB⟩
  case round =>
    clear HZ HX HB
    obtain ⟨i, hik, ⟨hi1, hi2⟩, rfl, HZ, HX, HB⟩ := hrel
    have HIK := Aside0.mk hik
    clear hik
    by_cases hi : i < ss.length
    · obtain ⟨s, hs⟩ : ∃ s, ss[i]? = some s := ⟨_, List.getElem?_eq_getElem hi⟩
      obtain ⟨⟨y0, y1, y2, y3, y4, y5⟩, ygl⟩ := lost_cells HOWN.out HB.out i s hs
      have HS := Aside0.mk hs
      obtain ⟨mm, hmm⟩ : ∃ mm, mm = minTo l ss m i := ⟨_, rfl⟩
      rw [← hmm] at HX
      have HMM := Aside0.mk hmm
      obtain ⟨x0, x1, x2, x3, x4, x5⟩ := HX.out.cells
      have hxl := blk_lt HX.out
      obtain ⟨cp, hcp⟩ : ∃ cp, cp = cmpI (numF l s) (numF l mm) := ⟨_, rfl⟩
      have HCP := Aside0.mk hcp
      clear hs hmm hcp
      go_upto_region 7 with fail
      have HRd := Aside0.mk ((HR.out.below HB.out))
      go_cut [27] from 20 to 31 (fun s27 wy => s27 = .bool (decide (cp < 0)) ∧ Aside0 (Z84 wy b4 ∧ LostAt wy b5 A l.length c mm ∧ Below w.heap.size w wy))
      case first =>
        go_region_with (first
          | (go_at_call 70; refine (ask70_calls A c l s mm bl bn wr.drew (HRd.out.below (below_drew (Below.refl _ _))) hc HV.out (HSS.out s (List.mem_of_getElem? HS.out)) (by rw [HMM.out]; exact HSS.out _ (minTo_mem l ss m i HM.out)) (blk_below HN.out (below_drew HB.out))).mono ?_; rintro e w7 ⟨rfl, hB7⟩; rw [← HCP.out]; have HB7 := Aside0.mk ((below_drew (Below.refl wr.heap.size wr)).trans hB7); have HX7 := Aside0.mk (HX.out.below HB7.out); have HZ7 := Aside0.mk (show Z84 w7 b4 from blk_below HZ.out HB7.out); clear hB7))
        all_goals go_wp2_with fail
        all_goals
          refine Met.intro ?_
          go_step
          (repeat apply Exists.intro)
          exact ⟨⟨rfl, ⟨HZ7.out, HX7.out, HB.out.trans (HB7.out.mono HB.out.size)⟩⟩, rfl⟩
      case rest =>
        obtain ⟨rfl, HW⟩ := hcut
        clear HZ HX HB HRd y0 y1 y2 y3 y4 y5 ygl x0 x1 x2 x3 x4 x5 hxl
        by_cases hlt : cp < 0
        · have b1 : decide (cp < 0) = true := decide_eq_true hlt
          have HLT := Aside0.mk hlt
          rw [b1]
          clear hlt b1
          obtain ⟨⟨y0, y1, y2, y3, y4, y5⟩, ygl⟩ := lost_cells HOWN.out HW.out.2.2 i s HS.out
          obtain ⟨x0, x1, x2, x3, x4, x5⟩ := HW.out.2.1.cells
          have hxl := blk_lt HW.out.2.1
          have f0 := blk_frozen HW.out.2.1 0
          have f1 := blk_frozen HW.out.2.1 1
          have f2 := blk_frozen HW.out.2.1 2
          have f3 := blk_frozen HW.out.2.1 3
          have f4 := blk_frozen HW.out.2.1 4
          have f5 := blk_frozen HW.out.2.1 5
          go_wp2_with fail
          go_roundg (gk - 1)
          case measure => have := HIK.out; omega
          case rel =>
            refine ⟨i + 1, by have := HIK.out; omega, ⟨by omega, by omega⟩, by go_num, ⟨?_⟩, ⟨?_⟩, ⟨?_⟩⟩
            · have hz := HW.out.1
              have hne : b4 ≠ b5 := by have := H45.out; omega
              exact blk_far (blk_far (blk_far (blk_far (blk_far (blk_far hz hne _) hne _) hne _) hne _) hne _) hne _
            · rw [minTo_succ l ss m i hi1 s HS.out, ← HMM.out, if_pos (show numF l s < numF l mm from by
                have h := HLT.out
                rw [HCP.out] at h
                unfold cmpI at h
                split at h
                · assumption
                · split at h <;> omega)]
              have s0 := blk_set HW.out.2.1 0 (.slice A l.length c)
              have s1 := blk_set s0 1 (.int .i64 (s 0))
              have s2 := blk_set s1 2 (.int .i64 (s 1))
              have s3 := blk_set s2 3 (.int .i64 (s 2))
              have s4 := blk_set s3 4 (.int .i64 (s 3))
              have s5 := blk_set s4 5 (.int .i64 (s 4))
              simp only [List.setIfInBounds_toArray, List.set_cons_zero, List.set_cons_succ] at s5
              exact s5
            · have h45 : w.heap.size ≤ b5 := by have := H4.out; have := H45.out; omega
              exact ((((((HW.out.2.2).setCell h45 _).setCell h45 _).setCell h45 _).setCell h45 _).setCell h45 _).setCell h45 _
        · have b1 : decide (cp < 0) = false := decide_eq_false hlt
          have HLT := Aside0.mk hlt
          rw [b1]
          clear hlt b1
          go_wp2_with fail
          go_roundg (gk - 1)
          case measure => have := HIK.out; omega
          case rel =>
            refine ⟨i + 1, by have := HIK.out; omega, ⟨by omega, by omega⟩, by go_num, ⟨HW.out.1⟩, ⟨?_⟩, ⟨HW.out.2.2⟩⟩
            rw [minTo_succ l ss m i hi1 s HS.out, ← HMM.out, if_neg (fun h => by have h2 := HLT.out; rw [HCP.out] at h2; unfold cmpI at h2; rw [if_pos h] at h2; omega)]
            exact HW.out.2.1
    · have hii : i = ss.length := by omega
      have HII := Aside0.mk hii
      clear hii
      rw [HII.out, ← HMN.out] at HX
      obtain ⟨x0, x1, x2, x3, x4, x5⟩ := HX.out.cells
      have hxl := blk_lt HX.out
      have hzl := blk_lt HZ.out
      have z0 := (blk_cell HZ.out 0).trans rfl
      have z1 := (blk_cell HZ.out 1).trans rfl
      have z2 := (blk_cell HZ.out 2).trans rfl
      have z3 := (blk_cell HZ.out 3).trans rfl
      have z4 := (blk_cell HZ.out 4).trans rfl
      have z5 := (blk_cell HZ.out 5).trans rfl
      have f0 := blk_frozen HZ.out 0
      have f1 := blk_frozen HZ.out 1
      have f2 := blk_frozen HZ.out 2
      have f3 := blk_frozen HZ.out 3
      have f4 := blk_frozen HZ.out 4
      have f5 := blk_frozen HZ.out 5
      go_wp2_with fail
      have s0 := blk_set HZ.out 0 (.slice A l.length c)
      have s1 := blk_set s0 1 (.int .i64 (mn 0))
      have s2 := blk_set s1 2 (.int .i64 (mn 1))
      have s3 := blk_set s2 3 (.int .i64 (mn 2))
      have s4 := blk_set s3 4 (.int .i64 (mn 3))
      have s5 := blk_set s4 5 (.int .i64 (mn 4))
      simp only [List.setIfInBounds_toArray, List.set_cons_zero, List.set_cons_succ] at s5
      refine bodyPost_ret (results_cell_row rfl _ _ b4 84 _ (0, 0) _ rfl s5 Try.underlying84 rfl (by kernel_rfl)) rfl ⟨rfl, ?_⟩
      exact (((((((HB.out).setCell H4.out _).setCell H4.out _).setCell H4.out _).setCell H4.out _).setCell H4.out _).setCell H4.out _)
end Go.Proofs.Ytegjollhajgcdaa.P.OwnSt
namespace Go.Proofs.Ytegjollhajgcdaa.P.OwnSt
open Go.RowKit Go.Shelf Go.Proofs.YtegjollhajgcdaaW.PrintWords Go.Proofs.YtegjollhajgcdaaW.PrintLast Go.Proofs.YtegjollhajgcdaaW.PrintMore
set_option linter.unusedVariables false
set_option linter.unusedSimpArgs false
set_option maxHeartbeats 2000000 in
set_option maxRecDepth 100000 in
theorem smallest_calls (A : Option Addr) (c : Nat) (l : List S24) (ss : List (Nat → Int)) (m : Nat → Int) (gv cv bl bb : Nat) (w : World) (hr : TrAt A c l bl w) (hc : l.length ≤ c) (hv : Valid l) (hss : ∀ s ∈ ss, SrcOk l s) (hm : ss[0]? = some m) (hlen : ss.length < 10000)
    (hown : w.ownsRow bb 84 6 (.slice (some ⟨gv, 0, none⟩) ss.length cv) ss.length (lostRow A l.length c ss)) :
    Calls Try.prog 56 #[.slice (some ⟨gv, 0, none⟩) ss.length cv, numV bl] w fun e w' => e = .returned (.int .i64 (numF l (minTo l ss m ss.length))) ∧ Below w.heap.size w w' := by
  have HR := Aside0.mk hr
  have HV := Aside0.mk hv
  have HSS := Aside0.mk hss
  have HM := Aside0.mk hm
  have HOWN := Aside0.mk hown
  obtain ⟨mn, hmn⟩ : ∃ mn, mn = minTo l ss m ss.length := ⟨_, rfl⟩
  obtain ⟨nn, hnn⟩ : ∃ nn, nn = numF l mn := ⟨_, rfl⟩
  rw [← hmn, ← hnn]
  have HMN := Aside0.mk hmn
  have HNN := Aside0.mk hnn
  have HSM := Aside0.mk (show SrcOk l mn by rw [hmn]; exact hss _ (minTo_mem l ss m _ hm))
  have hmix : Try.prog.follows Departure.mixedOrders = true := by kernel_rfl
  clear hr hv hss hm hown hmn hnn
  unfold numV
  go_enter Try.func56, Try.ntmps56
  go_upto_region 1 with fail
  obtain ⟨bn, hbn⟩ : ∃ bn, bn = w.heap.size := ⟨_, rfl⟩
  rw [← hbn]
  refine wp_gen (fun wx => Aside0 (wx.heap[bn]? = some (.cells #[numV bl] 97 (0, 0))) ∧ Aside0 (Below w.heap.size w wx) ∧ Aside0 (TrAt A c l bl wx) ∧ Aside0 (wx.ownsRow bb 84 6 (.slice (some ⟨gv, 0, none⟩) ss.length cv) ss.length (lostRow A l.length c ss))) ?_ ?_
  · subst hbn
    exact ⟨⟨blk_new w _⟩, ⟨(Below.refl _ _).alloc (Nat.le_refl _) _⟩, ⟨HR.out.below ((Below.refl _ _).alloc (Nat.le_refl _) _)⟩, ⟨HOWN.out.alloc _⟩⟩
  clear hbn HR HOWN
  rintro W1 ⟨HN, HB, HR, HOWN⟩
  have hnl := blk_lt HN.out
  have hn0 := (blk_cell HN.out 0).trans (show (#[numV bl] : Array Value)[0]? = some (.func (.func 57) #[] #[.pointer (some ⟨bl, 0, none⟩)]) from rfl)
  have HRd := HR.out.below (below_drew (Below.refl _ _))
  have HC69 := Aside0.mk (minFunc_calls A c l ss m gv cv bl bn bb W1.drew HRd hc HV.out HSS.out HM.out hlen (own_move HOWN.out (fun _ _ => rfl)) (blk_below HN.out (below_drew (Below.refl _ _))))
  clear HRd
  go_region_with (first
    | (go_at_call 69; refine HC69.out.mono ?_; rintro e w3 ⟨rfl, hB3⟩; rw [← HMN.out]; unfold lostV; have HB3 := Aside0.mk ((below_drew (Below.refl W1.heap.size W1)).trans hB3); have hn3 := (HB3.out.cell (p := ⟨bn, 0, none⟩) hnl).trans hn0; have HR3 := Aside0.mk (HR.out.below HB3.out); clear hB3)
    | (go_at_call 57; refine (ask57_calls' A c l mn bl w3 HR3.out.list hc HV.out HSM.out HR3.out.box).mono ?_; rintro e w4 ⟨rfl, hB4⟩; rw [← HNN.out]; have HB4 := Aside0.mk hB4; clear hB4))
  all_goals go_wp2_with fail
  all_goals exact bodyPost_ret (results_tmp rfl _ _ _) rfl ⟨rfl, HB.out.trans ((HB3.out.trans (HB4.out.mono HB3.out.size)).mono HB.out.size)⟩
def fewestV (l : List S24) : Int × Int := if knownE l = 0 then (numF l (minTo l (knownV l) ((knownV l).headD fun _ => 0) (knownV l).length), 0) else (0, knownE l)
set_option maxHeartbeats 2000000 in
set_option maxRecDepth 100000 in
theorem fewest_calls (A : Option Addr) (c : Nat) (l : List S24) (w : World) (hr : Kd.C k24 w A l.length l) (hc : l.length ≤ c) :
    Calls Try.prog 24 #[.slice A l.length c] w fun e w' => e = .returned (.tuple #[.int .i64 (fewestV l).1, .int .i64 (fewestV l).2]) ∧ Below w.heap.size w w' := by
  have HL0 := Aside0.mk (show (w.alloc (.cells #[.slice A l.length c] 22)).heap[w.heap.size]? = some (.cells #[.slice A l.length c] 22 (0, 0)) from blk_new w _)
  by_cases hk : knownE l = 0
  · obtain ⟨nn, hnn⟩ : ∃ nn, nn = numF l (minTo l (knownV l) ((knownV l).headD fun _ => 0) (knownV l).length) := ⟨_, rfl⟩
    have hV : fewestV l = (nn, 0) := by unfold fewestV; rw [if_pos hk, hnn]
    rw [hV]
    have HNN := Aside0.mk hnn
    have HR := Aside0.mk hr
    have HK := Aside0.mk hk
    have HVA := Aside0.mk (valid_of_check (knownE_zero hk).1)
    have HNE := Aside0.mk (knownE_zero hk).2
    have hkL := known_len l HVA.out.five
    clear hr hk hV hnn
    go_enter Try.func24, Try.ntmps24
    go_upto_region 1 with fail
    obtain ⟨bl, hbl⟩ : ∃ bl, bl = w.heap.size := ⟨_, rfl⟩
    rw [← hbl] at HL0 ⊢
    refine wp_gen (fun wx => Aside0 (Below w.heap.size w wx) ∧ Aside0 (TrAt A c l bl wx)) ⟨⟨(Below.refl _ _).alloc (Nat.le_refl _) _⟩, ⟨Kd.C_below HR.out ((Below.refl _ _).alloc (Nat.le_refl _) _), HL0.out⟩⟩ ?_
    clear hbl HL0 HR
    rintro W1 ⟨HB, HR⟩
    have hl0 := (blk_cell HR.out.box 0).trans (show (#[Value.slice A l.length c] : Array Value)[0]? = some _ from rfl)
    go_wp2_with (first
      | (go_at_call 48; refine (known_ok A c l W1 HR.out.list hc HK.out).mono ?_; rintro e w2 ⟨gv, cv, rfl, hB2, hown⟩; have HB2 := Aside0.mk hB2; have HOWN := Aside0.mk hown; clear hB2 hown)
      | (go_at_call 56; refine (smallest_calls A c l (knownV l) ((knownV l).headD fun _ => 0) gv cv bl W1.heap.size w2 (HR.out.below HB2.out) hc HVA.out (fun s hs k hk => ⟨((knownV_mem hs).1 k hk).1, ((knownV_mem hs).1 k hk).2.1⟩) ?hd hkL HOWN.out).mono ?_; (case hd => (have hne := HNE.out; revert hne; cases knownV l with | nil => (intro h; exact absurd rfl h) | cons x r => (intro _; rfl))); rintro e w5 ⟨rfl, hB5⟩; rw [← HNN.out]; have HB5 := Aside0.mk hB5; clear hB5))
    exact bodyPost_ret (results_tmp2 rfl _ _ _) rfl ⟨rfl, HB.out.trans ((HB2.out.trans (HB5.out.mono HB2.out.size)).mono HB.out.size)⟩
  · have hV : fewestV l = (0, knownE l) := by unfold fewestV; rw [if_neg hk]
    rw [hV]
    obtain ⟨e0, he0⟩ : ∃ e0, e0 = knownE l := ⟨_, rfl⟩
    have HR := Aside0.mk hr
    have HK := Aside0.mk hk
    have HE := Aside0.mk he0
    have b1 : (e0 != 0) = true := bne_iff_ne.2 (by rw [he0]; exact hk)
    rw [← he0]
    clear hr hk hV he0
    have hl0 := (blk_cell HL0.out 0).trans (show (#[Value.slice A l.length c] : Array Value)[0]? = some _ from rfl)
    go_enter Try.func24, Try.ntmps24
    go_wp2_with (first | (go_at_call 48; refine (known_err A c l _ (Kd.C_below HR.out ((Below.refl _ _).alloc (Nat.le_refl _) _)) hc HK.out).mono ?_; rintro e w2 ⟨rfl, hB⟩; rw [← HE.out]; have HB := Aside0.mk (((Below.refl w.heap.size w).alloc (Nat.le_refl _) (.cells #[.slice A l.length c] 22)).trans (hB.mono (by simp))); clear hB))
    exact bodyPost_ret (results_tmp2 rfl _ _ _) rfl ⟨rfl, HB.out⟩
end Go.Proofs.Ytegjollhajgcdaa.P.OwnSt
namespace Go.Proofs.Ytegjollhajgcdaa.P
open Go.RowKit Go.Proofs.YtegjollhajgcdaaW.PrintWords Go.Proofs.YtegjollhajgcdaaW.PrintLast Go.Proofs.YtegjollhajgcdaaW.PrintMore
attribute [local go_sem] max2_int min2_int max_two min_two max_three min_three max_four min_four   -- for this text's walks alone
set_option linter.unusedVariables false
set_option linter.unusedSimpArgs false
def stemma_Fewest.f (k : Nat) (l0 : List (S24)) : Option (Int × Int) := some (OwnSt.fewestV l0)
theorem stemma_Fewest.mono : ∀ a0 k, LeO (stemma_Fewest.f k a0) (stemma_Fewest.f (k + 1) a0) := by intros; exact LeO.refl _
theorem stemma_Fewest.calls (k : Nat) (A0 : Option Addr) (c0 : Nat) (l0 : List (S24)) (r1 : Int) (r2 : Int) (w : World) (hr0 : Kd.C k24 w A0 l0.length l0) (hc0 : l0.length ≤ c0) (h : stemma_Fewest.f k l0 = some (r1, r2)) :
    Calls Try.prog 24 #[.slice A0 l0.length c0] w fun e w' => e = .returned (.tuple #[.int .i64 r1, .int .i64 r2]) ∧ Below w.heap.size w w' := by
  have h2 := OwnSt.fewest_calls A0 c0 l0 w hr0 hc0; rw [show OwnSt.fewestV l0 = (r1, r2) from Option.some.inj h] at h2; exact h2
end Go.Proofs.Ytegjollhajgcdaa.P
namespace Go.Proofs.Ytegjollhajgcdaa.P.OwnSt
open Go.RowKit Go.Shelf Go.Proofs.YtegjollhajgcdaaW.PrintWords Go.Proofs.YtegjollhajgcdaaW.PrintLast Go.Proofs.YtegjollhajgcdaaW.PrintMore
set_option linter.unusedVariables false
set_option linter.unusedSimpArgs false
def srcP (i j : Nat) (s : Nat → Int) : Bool := s i == (j : Int) - 1
def srcRow (l : List S24) (i : Nat) : List Int := (List.range (i + 1)).map fun j => verdictI ((knownV l).countP (srcP i j)) (knownV l).length
def sourcesV (l : List S24) : List (List Int) × Int := if knownE l = 0 then ((List.range l.length).map (srcRow l), 0) else ([], knownE l)
theorem inf101 : ∃ inf, Try.prog.info? 101 = some inf ∧ inf.zero = some .nilFunc ∧ inf.size = 1 ∧ inf.bytes = 8 := by
  have hinf : (Try.prog.info? 101).map (fun i => (i.zero, i.size, i.bytes)) = some (some .nilFunc, 1, 8) := by kernel_rfl
  rw [Option.map_eq_some_iff] at hinf
  obtain ⟨inf, e1, e2⟩ := hinf
  injection e2 with e2 e3
  injection e3 with e3 e4
  exact ⟨inf, e1, e2, e3, e4⟩
def askV (bi b : Nat) : Value := .func (.func 60) #[] #[.pointer (some ⟨bi, 0, none⟩), .pointer (some ⟨b, 0, none⟩)]
structure SQ (l : List S24) (W1 : World) (i bi : Nat) (out asks : Value) (bs : List Nat) (bf : Nat) (W : World) : Prop where
  box : W.heap[bf]? = some (.cells #[.int .i64 ((bs.length : Int) - 1)] 3 (0, 0))
  own : W.heap[bi]? = some (.cells #[.int .i64 (i : Int)] 3 (0, 0))
  boxes : ∀ (q b : Nat), bs[q]? = some b → W.heap[b]? = some (.cells #[.int .i64 ((q : Int) - 1)] 3 (0, 0))
  arow : W.ownsRow W1.heap.size 101 1 asks bs.length (bs.map (askV bi))
  orow : Kd.N (Kd.slice 3 (Kd.int .i64)) 25 W W1.heap.size (fun k => W1.heap.size ≤ k ∧ some k ≠ asks.ownBlock) out ((List.range i).map (srcRow l))
  below : Below W1.heap.size W1 W
theorem SQ.step {l : List S24} {W1 : World} {i bi : Nat} {out asks : Value} {bs : List Nat} {bf : Nat} {W W' : World} (h : SQ l W1 i bi out asks bs bf W) (hb : Below W.heap.size W W') : SQ l W1 i bi out asks bs bf W' :=
  ⟨blk_below h.box hb, blk_below h.own hb, fun q b hq => blk_below (h.boxes q b hq) hb, own_move h.arow (fun k hk => by
    obtain ⟨cells, hc⟩ := own_typed h.arow k hk
    exact hb.block k (blk_lt hc)), Kd.N_below h.orow hb, h.below.trans (hb.mono h.below.size)⟩
theorem SQ.add {l : List S24} {W1 : World} {i bi : Nat} {out asks asks' : Value} {bs : List Nat} {bf : Nat} {W W' : World} (h : SQ l W1 i bi out asks bs bf W) (ho : W'.ownsRow W1.heap.size 101 1 asks' (bs.length + 1) (bs.map (askV bi) ++ [askV bi bf])) (hg : W.grownBy W' asks.ownBlock) (hat : asks'.ownBlock = asks.ownBlock ∨ asks'.ownBlock = some W.heap.size) {b' : Nat} (hb' : W'.heap.size = b') :
    SQ l W1 i bi out asks' (bs ++ [bf]) b' (W'.alloc (.cells #[.int .i64 (bs.length : Int)] 3)) := by
  have hk : ∀ {b : Nat} {v : Value}, W.heap[b]? = some (.cells #[v] 3 (0, 0)) → W'.heap[b]? = some (.cells #[v] 3 (0, 0)) := fun {b} {v} hb => blk_grown hb hg (fun e => by
    obtain ⟨_, h2⟩ := own_typed h.arow b e.symm
    exact blk_ne hb h2 (by decide) rfl)
  subst hb'
  refine ⟨?_, blk_alloc (hk h.own) _, fun q b hq => ?_, ?_, Kd.N_alloc (Kd.N_afterv h.orow hg (hat.imp id fun e => ⟨_, e, Nat.le_refl _⟩)) _, ?_⟩
  · rw [List.length_append, List.length_singleton, show (((bs.length + 1 : Nat) : Int) - 1) = (bs.length : Int) by omega]
    exact blk_new W' _
  · by_cases hq' : q < bs.length
    · rw [List.getElem?_append_left hq'] at hq
      exact blk_alloc (hk (h.boxes q b hq)) _
    · rw [List.getElem?_append_right (by omega)] at hq
      have : q - bs.length = 0 := by
        by_cases e : q - bs.length = 0
        · exact e
        · rw [List.getElem?_eq_none (by simp; omega)] at hq
          cases hq
      rw [this] at hq
      simp at hq
      subst hq
      have hqq : q = bs.length := by omega
      subst hqq
      exact blk_alloc (hk h.box) _
  · rw [List.length_append, List.map_append]
    exact ho.alloc _
  · exact (h.below.grown hg h.below.size (fun k e => own_base h.arow k e)).alloc (Nat.le_trans h.below.size hg.size) _
theorem SQ.far {l : List S24} {W1 : World} {i bi : Nat} {out asks : Value} {bs : List Nat} {bf : Nat} {W W' : World} (h : SQ l W1 i bi out asks bs bf W) (hg : W.grownBy W' asks.ownBlock) : W'.heap[bf]? = some (.cells #[.int .i64 ((bs.length : Int) - 1)] 3 (0, 0)) :=
  blk_grown h.box hg (fun e => by
    obtain ⟨_, h2⟩ := own_typed h.arow bf e.symm
    exact blk_ne h.box h2 (by decide) rfl)
theorem askV_cells (bi bf : Nat) (w : World) : ∀ (j : Nat) (u : Value), [askV bi bf][j]? = some u → (w.alloc (.cells #[.func (.func 60) #[] #[.pointer (some ⟨bi, 0, none⟩), .pointer (some ⟨bf, 0, none⟩)]] 101)).cell? ((⟨w.heap.size, 0, none⟩ : Addr).add j) = some u := by
  intro j u hj
  rw [show ((⟨w.heap.size, 0, none⟩ : Addr).add j) = ⟨w.heap.size, j, none⟩ from by simp [Addr.add]; intro h; exact h.symm, blk_cell (blk_new w _)]
  rw [← hj]
  simp only [askV, List.getElem?_toArray]
theorem fk_row {W : World} {b m n c7 : Nat} {ok okp : Nat → Prop} {A7 : Option Addr} {row : List Int} (hn : n = row.length) (h : Kd.R (Kd.int .i64) 3 W b ok (.slice A7 m c7) row) (hok : ∀ k, ok k → okp k) : (Kd.slice 3 (Kd.int .i64)).FK W okp row [.slice A7 n c7] := by
  have h1 := Kd.R_reads' h
  subst hn
  have h2 := h1.1
  subst h2
  exact Kd.FK_slice_mk h1.2.1 (Kd.R_F (Kd.R_mono h hok))
set_option maxHeartbeats 2000000 in
set_option maxRecDepth 100000 in
theorem sources_calls (A : Option Addr) (c : Nat) (l : List S24) (w : World) (hr : Kd.C k24 w A l.length l) (hc : l.length ≤ c) :
    Calls Try.prog 30 #[.slice A l.length c] w fun e w' => ∃ v, e = .returned (.tuple #[v, .int .i64 (sourcesV l).2]) ∧ Kd.N (Kd.slice 3 (Kd.int .i64)) 25 w' w.heap.size (fun k => w.heap.size ≤ k) v (sourcesV l).1 ∧ Below w.heap.size w w' := by
  by_cases hk : knownE l = 0
  · have hV : sourcesV l = ((List.range l.length).map (srcRow l), 0) := by unfold sourcesV; rw [if_pos hk]
    rw [hV]
    have HR := Aside0.mk hr
    have HK := Aside0.mk hk
    have h5 := (valid_of_check (knownE_zero hk).1).five
    have HKL := Aside0.mk (known_len l h5)
    clear hr hk hV
    go_enter Try.func30, Try.ntmps30
    go_upto_region 4 with (first | (go_at_call 48; refine (known_ok A c l w HR.out hc HK.out).mono ?_; rintro e w2 ⟨gv, cv, rfl, hB, hown⟩; have HB := Aside0.mk hB; have HOWN := Aside0.mk hown; clear hB hown))
    obtain ⟨W1, hW1⟩ : ∃ W1, W1 = w2 := ⟨_, rfl⟩
    rw [← hW1] at HB HOWN ⊢
    clear hW1 w2
    go_wp2_with fail
    go_loopg [6, 20] l.length (fun k s6 s20 wr => ∃ i : Nat, i + k = l.length ∧ s20 = .int .i64 (i : Int) ∧ Aside0 (Kd.N (Kd.slice 3 (Kd.int .i64)) 25 wr W1.heap.size (fun k => W1.heap.size ≤ k) s6 ((List.range i).map (srcRow l))) ∧ Aside0 (Below W1.heap.size W1 wr))
    case atStart => exact ⟨0, by omega, rfl, ⟨Kd.N_nil _ _ _ _ _⟩, ⟨Below.refl _ _⟩⟩
    case round =>
      obtain ⟨gj, rfl⟩ : ∃ gj, gj = gk := ⟨_, rfl⟩
      obtain ⟨i, hik, rfl, HN, HB1⟩ := hrel
      have HIK := Aside0.mk hik
      clear hik
      by_cases hi : i < l.length
      · go_upto_region 8 with fail
        obtain ⟨bi, hbi⟩ : ∃ bi, bi = wr.heap.size := ⟨_, rfl⟩
        rw [← hbi]
        refine wp_gen (fun wx => Aside0 (Kd.N (Kd.slice 3 (Kd.int .i64)) 25 wx W1.heap.size (fun k => W1.heap.size ≤ k) u6 ((List.range i).map (srcRow l)) ∧ Below W1.heap.size W1 wx ∧ wx.heap[bi]? = some (.cells #[.int .i64 (i : Int)] 3 (0, 0))) ∧ wx.heap.size = bi + 1) ?_ ?_
        · subst hbi
          exact ⟨⟨Kd.N_alloc HN.out _, HB1.out.alloc HB1.out.size _, blk_new wr _⟩, by simp⟩
        clear hbi HN HB1
        rintro W2 ⟨HH, hsz⟩
        go_upto_block 2 with fail
        obtain ⟨bf0, hbf0⟩ : ∃ bf0, bf0 = bi + 1 := ⟨_, rfl⟩
        rw [← hbf0]
        refine wp_gen (fun wx => Aside0 (SQ l W1 i bi u6 (.slice none 0 0) [] bf0 wx)) ?_ ?_
        · refine ⟨⟨?_, blk_alloc HH.out.2.2 _, fun q b hq => by simp at hq, World.ownsRow_nil _ _ _ _, Kd.N_apart_nil (Kd.N_alloc HH.out.1 _), HH.out.2.1.alloc HH.out.2.1.size _⟩⟩
          rw [hbf0, ← hsz]
          exact blk_new W2 _
        clear HH hsz hbf0 W2
        intro W2 HQ
        go_wp2_with fail
        go_loopg [8, 9] (i + 1) (fun k s8 s9 wr => ∃ (bs : List Nat) (bf : Nat), bs.length + k = i + 1 ∧ s9 = .pointer (some ⟨bf, 0, none⟩) ∧ Aside0 (SQ l W1 i bi u6 s8 bs bf wr))
        case atStart => exact ⟨[], bf0, by simp, rfl, HQ⟩
        case round =>
          clear HQ
          obtain ⟨bs, bf, hbk, rfl, HQ⟩ := hrel
          obtain ⟨j, hj⟩ : ∃ j, j = bs.length := ⟨_, rfl⟩
          have HBK := Aside0.mk hbk
          have HJ := Aside0.mk hj
          have c1 := (blk_cell HQ.out.box 0).trans (show (#[Value.int .i64 ((bs.length : Int) - 1)] : Array Value)[0]? = some _ from rfl)
          rw [← hj] at c1
          have c2 := (blk_cell HQ.out.own 0).trans (show (#[Value.int .i64 (i : Int)] : Array Value)[0]? = some _ from rfl)
          clear hbk hj
          by_cases hjl : (j : Int) - 1 < (i : Int)
          · obtain ⟨inf, hinf⟩ := inf101
            have HINF := Aside0.mk hinf
            clear hinf
            go_upto_region 13 with (first | (at_builtin; refine wpList_append_own_at _ rfl _ _ 100 rfl W1.heap.size 101 inf .nilFunc 1 8 (by kernel_rfl) HINF.out.1 HINF.out.2.1 HINF.out.2.2.1 HINF.out.2.2.2 rfl (by decide) u8 _ _ rfl ((HQ.out.step ((Below.refl _ _).alloc (Nat.le_refl _) _)).arow) ⟨wr.heap.size, 0, none⟩ 1 1 [askV bi bf] rfl rfl ?cc ?c1 ?c2 ?c3 ?c4 ?_; (case cc => exact askV_cells bi bf wr); (case c1 => (intro u hu; simp at hu; subst hu; rfl)); (case c2 => (have := HBK.out; unfold maxLen; omega)); (case c3 => (have := HBK.out; omega)); (case c4 => (have := HQ.out.below.size; simp; omega)); intro v5 w5 hown5 hgr5 hnil5 hat5; clear hnil5; have HO5 := Aside0.mk hown5; have HG5 := Aside0.mk hgr5; have HA5 := Aside0.mk hat5; clear hown5 hgr5 hat5))
            have HS5 := Aside0.mk ((HQ.out.step ((Below.refl _ _).alloc (Nat.le_refl _) _)).add HO5.out HG5.out HA5.out rfl)
            have d1 := (blk_cell ((HQ.out.step ((Below.refl _ _).alloc (Nat.le_refl _) _)).far HG5.out) 0).trans (show (#[Value.int .i64 ((bs.length : Int) - 1)] : Array Value)[0]? = some _ from rfl)
            rw [← HJ.out] at d1
            clear HO5 HG5 HA5 c1 c2
            go_wp2_with fail
            go_roundg (gk - 1)
            case measure => have := HBK.out; have := HJ.out; omega
            case rel =>
              refine ⟨bs ++ [bf], w5.heap.size, by have := HBK.out; have := HJ.out; simp; omega, rfl, ⟨?_⟩⟩
              rw [HJ.out]
              exact HS5.out
          · have hji : j = i + 1 := by have := HBK.out; have := HJ.out; omega
            obtain ⟨gf, cf, rfl⟩ : ∃ gf cf, u8 = .slice (some ⟨gf, 0, none⟩) bs.length cf := by
              rcases HQ.out.arow.2 with ⟨_, h0⟩ | ⟨g, cap, cur, e, _⟩
              · have := HJ.out; omega
              · exact ⟨g, cap, e⟩
            have hvc := verdicts_calls 60 (enters_of Try.func60 (by kernel_rfl) rfl) A l.length c (knownV l) gv cv w.heap.size gf cf W1.heap.size (bs.map fun b => #[.pointer (some ⟨bi, 0, none⟩), .pointer (some ⟨b, 0, none⟩)]) ((List.range (i + 1)).map fun j => srcP i j) wr
              (own_move HOWN.out (fun k hk => by
                obtain ⟨_, h2⟩ := own_typed HOWN.out k hk
                exact HQ.out.below.block k (blk_lt h2))) (by
                have h3 := HQ.out.arow
                rw [List.map_map, List.length_map]
                exact h3) (by have := HJ.out; simp; omega) (by
                intro j' lb p hlb hp s hs W' hW'
                rw [List.getElem?_map] at hlb hp
                rw [Option.map_eq_some_iff] at hlb hp
                obtain ⟨b, hb, rfl⟩ := hlb
                obtain ⟨j2, hj2, rfl⟩ := hp
                have hj3 : j2 = j' := by
                  rw [List.getElem?_range] at hj2
                  · injection hj2 with hj2
                    exact hj2.symm
                  · by_cases e : j' < i + 1
                    · exact e
                    · rw [List.getElem?_eq_none (by simp; omega)] at hj2
                      cases hj2
                subst hj3
                have h60 := ask60_calls A l.length c s bi b i ((j2 : Int) - 1) W' (by omega) (blk_below HQ.out.own hW') (blk_below (HQ.out.boxes j2 b hb) hW')
                simpa [srcP] using h60) HKL.out (by have := HJ.out; simp; omega)
            rw [List.length_map, List.map_map] at hvc
            have HVC := Aside0.mk hvc
            have HSR := Aside0.mk (show i + 1 = (srcRow l i).length by simp [srcRow])
            clear hvc hji
            go_wp2_with (first
              | (go_at_call 61; refine HVC.out.mono ?_; rintro e w7 ⟨v7, rfl, hR7, hB7⟩; obtain ⟨A7, c7, rfl⟩ := Kd.R_slice hR7; have HR7 := Aside0.mk (show Kd.R (Kd.int .i64) 3 w7 wr.heap.size (fun k => wr.heap.size ≤ k) _ (srcRow l i) from hR7); have HB7 := Aside0.mk hB7; clear hR7 hB7)
              | (at_builtin; refine Kd.N_append (Kd.slice 3 (Kd.int .i64)) (w0 := W1) W1.heap.size rfl _ _ 53 25 (.slice none 0 0) 24 rfl (by kernel_rfl) info25 rfl (by decide) (by omega) u6 _ (srcRow l i) [.slice A7 _ c7] (fun k => W1.heap.size ≤ k) (fun k => (W1.heap.size ≤ k) ∧ some k ≠ (u6 : Value).ownBlock) rfl rfl ?aP (fun _ hk => hk) ?aF (Kd.N_below (Kd.N_mono HQ.out.orow (fun _ hk => hk.1)) HB7.out) (HQ.out.below.trans (HB7.out.mono HQ.out.below.size)) (Nat.le_trans HQ.out.below.size HB7.out.size) ?aL ?_; (case aP => exact fk_row HSR.out HR7.out (fun k hk => ⟨Nat.le_trans HQ.out.below.size hk, Kd.fresh' (Kd.N_lt HQ.out.orow) k hk⟩)); (case aF => exact fun k hk => Nat.le_trans (Nat.le_trans HQ.out.below.size HB7.out.size) hk); (case aL => (simp; omega)); intro v8 w8 hN8 hB8 hg8 hat8; have HN8 := Aside0.mk hN8; have HB8 := Aside0.mk hB8; clear hN8 hB8 hg8 hat8))
            go_roundg (gj - 1)
            case measure => have := HIK.out; omega
            case rel =>
              refine ⟨i + 1, by have := HIK.out; omega, by go_num, ⟨?_⟩, HB8⟩
              rw [List.range_succ, List.map_append]
              exact HN8.out
      · go_wp2_with fail
        refine bodyPost_ret (results_tmp2 rfl _ _ _) rfl ⟨_, rfl, ?_, HB.out.trans (HB1.out.mono HB.out.size)⟩
        have h7 := HN.out
        rw [show i = l.length by have := HIK.out; omega] at h7
        exact Kd.N_mono (Kd.N_lower h7 HB.out.size) (fun k hk => Nat.le_trans HB.out.size hk)
  · have hV : sourcesV l = ([], knownE l) := by unfold sourcesV; rw [if_neg hk]
    rw [hV]
    obtain ⟨e0, he0⟩ : ∃ e0, e0 = knownE l := ⟨_, rfl⟩
    have HR := Aside0.mk hr
    have HK := Aside0.mk hk
    have HE := Aside0.mk he0
    have b1 : (e0 != 0) = true := bne_iff_ne.2 (by rw [he0]; exact hk)
    rw [← he0]
    clear hr hk hV he0
    go_enter Try.func30, Try.ntmps30
    go_wp2_with (first | (go_at_call 48; refine (known_err A c l w HR.out hc HK.out).mono ?_; rintro e w2 ⟨rfl, hB⟩; rw [← HE.out]; have HB := Aside0.mk hB; clear hB))
    exact bodyPost_ret (results_tmp2 rfl _ _ _) rfl ⟨_, rfl, Kd.N_nil _ _ _ _ _, HB.out⟩
end Go.Proofs.Ytegjollhajgcdaa.P.OwnSt
namespace Go.Proofs.Ytegjollhajgcdaa.P
open Go.RowKit Go.Proofs.YtegjollhajgcdaaW.PrintWords Go.Proofs.YtegjollhajgcdaaW.PrintLast Go.Proofs.YtegjollhajgcdaaW.PrintMore
attribute [local go_sem] max2_int min2_int max_two min_two max_three min_three max_four min_four   -- for this text's walks alone
set_option linter.unusedVariables false
set_option linter.unusedSimpArgs false
def stemma_Sources.f (k : Nat) (l0 : List (S24)) : Option ((List (List Int)) × Int) := some (OwnSt.sourcesV l0)
theorem stemma_Sources.mono : ∀ a0 k, LeO (stemma_Sources.f k a0) (stemma_Sources.f (k + 1) a0) := by intros; exact LeO.refl _
theorem stemma_Sources.calls (k : Nat) (A0 : Option Addr) (c0 : Nat) (l0 : List (S24)) (r1 : List (List Int)) (r2 : Int) (w : World) (hr0 : Kd.C k24 w A0 l0.length l0) (hc0 : l0.length ≤ c0) (h : stemma_Sources.f k l0 = some (r1, r2)) :
    Calls Try.prog 30 #[.slice A0 l0.length c0] w fun e w' => ∃ v0_ : Value, e = .returned (.tuple #[v0_, .int .i64 r2]) ∧ Kd.N (Kd.slice 3 (Kd.int .i64)) 25 w' w.heap.size (fun k_ => (w.heap.size ≤ k_)) v0_ r1 ∧ Below w.heap.size w w' := by
  have h2 := OwnSt.sources_calls A0 c0 l0 w hr0 hc0; rw [show OwnSt.sourcesV l0 = (r1, r2) from Option.some.inj h] at h2; exact h2
end Go.Proofs.Ytegjollhajgcdaa.P
namespace Go.Proofs.Ytegjollhajgcdaa.P
open Go.RowKit Go.Proofs.YtegjollhajgcdaaW.PrintWords Go.Proofs.YtegjollhajgcdaaW.PrintLast Go.Proofs.YtegjollhajgcdaaW.PrintMore
attribute [local go_sem] max2_int min2_int max_two min_two max_three min_three max_four min_four   -- for this text's walks alone
set_option linter.unusedVariables false
set_option linter.unusedSimpArgs false
def stemma_Print.l0 : Nat → ByteArray → List ByteArray → Int → Int → Option (ByteArray × Int)
  | 0, _, _, _, _ => none
  | k + 1, x6, x17, x18, x19 => if x19 < x18 then (if 0 ≤ x19 then (if x19 < (x17.length : Int) then (if ((rdOf ByteArray.empty x17 x19).size : Int) > 1 then (if x6.size + 1 ≤ 9223372036854775807 then (stemma_Print.l0 k (x6 ++ (⟨#[45]⟩ : ByteArray)) x17 x18 (wrap64 (x19 + 1))) else (none)) else (if x6.size + (rdOf ByteArray.empty x17 x19).size ≤ 9223372036854775807 then (stemma_Print.l0 k (x6 ++ (rdOf ByteArray.empty x17 x19)) x17 x18 (wrap64 (x19 + 1))) else (none))) else (none)) else (none)) else (some (x6, 0))
def stemma_Print.f (k : Nat) (l0 : List (S24)) : Option (ByteArray × Int) := (stemma_Letters.f k l0).bind fun bt228 => (if bt228.2 = 0 then (stemma_Print.l0 k (⟨#[]⟩ : ByteArray) bt228.1 (bt228.1.length : Int) 0) else (some ((⟨#[]⟩ : ByteArray), bt228.2)))
theorem stemma_Print.mono_l : ∀ k, (∀ y0 y1 y2 y3, LeO (stemma_Print.l0 k y0 y1 y2 y3) (stemma_Print.l0 (k + 1) y0 y1 y2 y3))
  | 0 => fun _ _ _ _ r h => by simp [stemma_Print.l0] at h
  | k + 1 => by
    have ih0 := stemma_Print.mono_l k
    · intro y0 y1 y2 y3
      unfold stemma_Print.l0
      repeat' first
      | (with_reducible exact ih0 _ _ _ _)
      | (with_reducible exact stemma_Letters.mono _ _)
      | (with_reducible exact LeO.refl _)
      | (with_reducible exact LeO.none _)
      | (with_reducible refine LeO.ite ?_ ?_)
      | (with_reducible refine LeO.bind ?_ (fun _ => ?_))
      | exact ih0 _ _ _ _
      | exact stemma_Letters.mono _ _
      | exact LeO.none _
      | refine LeO.ite ?_ ?_
      | refine LeO.bind ?_ (fun _ => ?_)
theorem stemma_Print.mono : ∀ a0 k, LeO (stemma_Print.f k a0) (stemma_Print.f (k + 1) a0) := by
  intro a0 k
  have ih0 := stemma_Print.mono_l k
  unfold stemma_Print.f
  repeat' first
      | (with_reducible exact ih0 _ _ _ _)
      | (with_reducible exact stemma_Letters.mono _ _)
      | (with_reducible exact LeO.refl _)
      | (with_reducible exact LeO.none _)
      | (with_reducible refine LeO.ite ?_ ?_)
      | (with_reducible refine LeO.bind ?_ (fun _ => ?_))
      | exact ih0 _ _ _ _
      | exact stemma_Letters.mono _ _
      | exact LeO.none _
      | refine LeO.ite ?_ ?_
      | refine LeO.bind ?_ (fun _ => ?_)
set_option maxHeartbeats 8000000 in
set_option maxRecDepth 100000 in
theorem stemma_Print.calls (k : Nat) (A0 : Option Addr) (c0 : Nat) (l0 : List (S24)) (r1 : ByteArray) (r2 : Int) (w : World) (hr0 : Kd.C k24 w A0 l0.length l0) (hc0 : l0.length ≤ c0) (h : stemma_Print.f k l0 = some (r1, r2)) :
    Calls Try.prog 20 #[.slice A0 l0.length c0] w fun e w' => e = .returned (.tuple #[.string r1, .int .i64 r2]) ∧ Below w.heap.size w w' := by
  have HR0 := Aside0.mk hr0
  have HC0 := Aside0.mk hc0
  clear hr0 hc0
  have HB := Aside0.mk (Below.refl w.heap.size w)
  have H : ((stemma_Letters.f k l0).bind fun bt228 => (if bt228.2 = 0 then (stemma_Print.l0 k (⟨#[]⟩ : ByteArray) bt228.1 (bt228.1.length : Int) 0) else (some ((⟨#[]⟩ : ByteArray), bt228.2)))) = some (r1, r2) := h
  clear h
  replace H := Option.bind_eq_some_iff.mp H
  obtain ⟨⟨t228, t229⟩, A20, H⟩ := H
  replace H : (if t229 = 0 then (stemma_Print.l0 k (⟨#[]⟩ : ByteArray) t228 (t228.length : Int) 0) else (some ((⟨#[]⟩ : ByteArray), t229))) = some (r1, r2) := H
  have A2 := Aside0.mk A20
  clear A20
  by_cases c3 : t229 = 0
  · rw [if_pos c3] at H
    have c3b0 : (t229 == 0) = true := beq_iff_eq.mpr c3
    have c3b1 : (t229 != 0) = false := bne_eq_false_iff_eq.mpr c3
    clear c3
    have H' := Aside0.mk H
    clear H
    go_enter Try.func20, Try.ntmps20
    go_wp2_with (first | ((with_reducible refine gate_callee (f := 18) rfl ?_); refine goesL_ (some 11) rfl rfl Try.func18 (by kernel_rfl) rfl #[.slice A0 l0.length c0] rfl (by (try simp only [List.map_toArray, List.map_cons, List.map_nil]); first | done | rfl | (simp only [List.length_drop, List.length_take]; rfl)) ?_; (with_reducible refine (stemma_Letters.calls k _ _ l0 t228 t229 _ ?side1 ?side2 A2.out).mono ?_); (case side1 => repeat (first | exact HR0.out | (with_reducible refine Kd.C_alloc ?_ _) | (with_reducible refine Kd.C_drewN ?_ _) | (with_reducible refine Kd.C_drew ?_))); (case side2 => exact HC0.out); rintro e w4 ⟨v230, rfl, ho0, hb⟩; refine ⟨_, rfl, ?_⟩; have n0_ := Aside0.mk (Kd.R_lower ho0 (below_size (by repeat (first | (with_reducible first | exact HB.out | apply below_alloc | apply pw_below_drewN | apply below_drew1) | exact HB.out)))); have n1_ := Aside0.mk (below_step (by repeat (first | (with_reducible first | exact HB.out | apply below_alloc | apply pw_below_drewN | apply below_drew1) | exact HB.out)) hb); clear HB; have HO231 := n0_; have HB := n1_; clear n0_ n1_; (try clear hb); (try clear hb2); (try clear hk); (try clear hi); (try clear ho0); obtain ⟨Ao5, co5, eo5⟩ := Kd.R_slice HO231.out; subst eo5))
    go_loopg [6, 19] k (fun kq v6 v19 w' => ∃ (x6_1 : ByteArray) (x19_1 : Int), v6 = .string x6_1 ∧ v19 = .int .i64 x19_1 ∧ Aside0 (stemma_Print.l0 kq x6_1 t228 (t228.length : Int) x19_1 = some (r1, r2)) ∧ Aside0 (kq ≤ k) ∧ Aside0 (Kd.R Kd.string 9 w' w.heap.size (fun _ => True) (.slice Ao5 t228.length co5) t228) ∧ Aside0 (Below w.heap.size w w'))
    case atStart => exact ⟨((⟨#[]⟩ : ByteArray)), (0), (by first | rfl | (simp; done) | (simp [*]; done)), (by first | rfl | (simp; done) | (simp [*]; done)), H', ⟨Nat.le_refl _⟩, ⟨by (with_reducible repeat (first | apply Kd.R_alloc | apply Kd.R_drewN | apply Kd.R_drew)); exact HO231.out⟩, ⟨by repeat (first | (with_reducible first | exact HB.out | apply below_alloc | apply pw_below_drewN | apply below_drew1) | exact HB.out)⟩⟩
    case round =>
      clear H'
      try clear c1
      try clear c2
      try clear p2
      try clear c3
      try clear c3b0
      try clear c3b1
      obtain ⟨x6_1, x19_1, rfl, rfl, HA, HK1, HO_17, HB⟩ := hrel
      cases gk with
      | zero => exact absurd HA.out (by simp [stemma_Print.l0])
      | succ k1 =>
        have H := HA.out
        clear HA
        simp only [stemma_Print.l0] at H
        by_cases c6 : x19_1 < (t228.length : Int)
        · rw [if_pos c6] at H
          have c6b0 : decide (x19_1 < (t228.length : Int)) = true := decide_eq_true c6
          clear c6
          by_cases c7 : 0 ≤ x19_1
          · rw [if_pos c7] at H
            have c7b0 : decide (0 ≤ x19_1) = true := decide_eq_true c7
            clear c7
            by_cases c8 : x19_1 < (t228.length : Int)
            · rw [if_pos c8] at H
              have c8b0 : decide (x19_1 < (t228.length : Int)) = true := decide_eq_true c8
              clear c8
              by_cases c9 : ((rdOf ByteArray.empty t228 x19_1).size : Int) > 1
              · rw [if_pos c9] at H
                have c9b0 : decide (1 < ((rdOf ByteArray.empty t228 x19_1).size : Int)) = true := decide_eq_true c9
                have c9b1 : decide (1 < (rdOf ByteArray.empty t228 x19_1).size) = true := decide_eq_true (by omega)
                clear c9
                by_cases c10 : x6_1.size + 1 ≤ 9223372036854775807
                · rw [if_pos c10] at H
                  have c10b0 := eq_true c10
                  have c10b1 : decide (x6_1.size + 1 ≤ 9223372036854775807) = true := decide_eq_true c10
                  try have c10b2 : (9223372036854775807 < x6_1.size + 1) = False := eq_false (Nat.not_lt.2 c10)
                  have H' := Aside0.mk H
                  clear H
                  have p232 : 0 ≤ (x19_1 : Int) := of_decide_eq_true (by first | (with_reducible assumption) | assumption)
                  have q232 : x19_1 < (t228.length : Int) := of_decide_eq_true (by first | (with_reducible assumption) | assumption)
                  obtain ⟨ad232, e232, hx232_0⟩ := Kd.at_string (Kd.R_reads' HO_17.out).2.2 x19_1 p232 q232
                  cases e232
                  replace p232 := eq_true p232
                  replace q232 := eq_true q232
                  go_wp2
                  go_roundg k1
                  case measure => have := HK1.out; omega
                  case rel => exact ⟨(x6_1 ++ (⟨#[45]⟩ : ByteArray)), (wrap64 (x19_1 + 1)), (by first | rfl | (simp; done) | (simp [*]; done)), (by first | rfl | (simp; done) | (simp [*]; done)), H', ⟨by have := HK1.out; omega⟩, ⟨by (with_reducible repeat (first | apply Kd.R_alloc | apply Kd.R_drewN | apply Kd.R_drew)); exact HO_17.out⟩, ⟨by repeat (first | (with_reducible first | exact HB.out | apply below_alloc | apply pw_below_drewN | apply below_drew1) | exact HB.out)⟩⟩
                · rw [if_neg c10] at H
                  exact absurd H (by simp)
              · rw [if_neg c9] at H
                have c9b0 : decide (1 < ((rdOf ByteArray.empty t228 x19_1).size : Int)) = false := decide_eq_false c9
                have c9b1 : decide (1 < (rdOf ByteArray.empty t228 x19_1).size) = false := decide_eq_false (by omega)
                clear c9
                by_cases c11 : x6_1.size + (rdOf ByteArray.empty t228 x19_1).size ≤ 9223372036854775807
                · rw [if_pos c11] at H
                  have c11b0 := eq_true c11
                  have c11b1 : decide (x6_1.size + (rdOf ByteArray.empty t228 x19_1).size ≤ 9223372036854775807) = true := decide_eq_true c11
                  try have c11b2 : (9223372036854775807 < x6_1.size + (rdOf ByteArray.empty t228 x19_1).size) = False := eq_false (Nat.not_lt.2 c11)
                  have H' := Aside0.mk H
                  clear H
                  have p232 : 0 ≤ (x19_1 : Int) := of_decide_eq_true (by first | (with_reducible assumption) | assumption)
                  have q232 : x19_1 < (t228.length : Int) := of_decide_eq_true (by first | (with_reducible assumption) | assumption)
                  obtain ⟨ad232, e232, hx232_0⟩ := Kd.at_string (Kd.R_reads' HO_17.out).2.2 x19_1 p232 q232
                  cases e232
                  replace p232 := eq_true p232
                  replace q232 := eq_true q232
                  go_wp2
                  go_roundg k1
                  case measure => have := HK1.out; omega
                  case rel => exact ⟨(x6_1 ++ (rdOf ByteArray.empty t228 x19_1)), (wrap64 (x19_1 + 1)), (by first | rfl | (simp; done) | (simp [*]; done)), (by first | rfl | (simp; done) | (simp [*]; done)), H', ⟨by have := HK1.out; omega⟩, ⟨by (with_reducible repeat (first | apply Kd.R_alloc | apply Kd.R_drewN | apply Kd.R_drew)); exact HO_17.out⟩, ⟨by repeat (first | (with_reducible first | exact HB.out | apply below_alloc | apply pw_below_drewN | apply below_drew1) | exact HB.out)⟩⟩
                · rw [if_neg c11] at H
                  exact absurd H (by simp)
            · rw [if_neg c8] at H
              exact absurd H (by simp)
          · rw [if_neg c7] at H
            exact absurd H (by simp)
        · rw [if_neg c6] at H
          have c6b0 : decide (x19_1 < (t228.length : Int)) = false := decide_eq_false c6
          clear c6
          simp only [Option.some.injEq, Prod.mk.injEq] at H
          obtain ⟨rfl, rfl⟩ := H
          go_wp2
          go_ret2
          exact ⟨by first | rfl | (simp [errW_none, errW_some] <;> rfl) | (simp [*, errW_none, errW_some] <;> rfl), by repeat (first | (with_reducible first | exact HB.out | apply below_alloc | apply pw_below_drewN | apply below_drew1) | exact HB.out)⟩
  · rw [if_neg c3] at H
    have c3b0 : (t229 == 0) = false := beq_eq_false_iff_ne.mpr c3
    have c3b1 : (t229 != 0) = true := bne_iff_ne.mpr c3
    simp only [Option.some.injEq, Prod.mk.injEq] at H
    obtain ⟨rfl, rfl⟩ := H
    go_enter Try.func20, Try.ntmps20
    go_wp2_with (first | ((with_reducible refine gate_callee (f := 18) rfl ?_); refine goesL_ (some 11) rfl rfl Try.func18 (by kernel_rfl) rfl #[.slice A0 l0.length c0] rfl (by (try simp only [List.map_toArray, List.map_cons, List.map_nil]); first | done | rfl | (simp only [List.length_drop, List.length_take]; rfl)) ?_; (with_reducible refine (stemma_Letters.calls k _ _ l0 t228 t229 _ ?side1 ?side2 A2.out).mono ?_); (case side1 => repeat (first | exact HR0.out | (with_reducible refine Kd.C_alloc ?_ _) | (with_reducible refine Kd.C_drewN ?_ _) | (with_reducible refine Kd.C_drew ?_))); (case side2 => exact HC0.out); rintro e w12 ⟨v230, rfl, ho0, hb⟩; refine ⟨_, rfl, ?_⟩; have n0_ := Aside0.mk (Kd.R_lower ho0 (below_size (by repeat (first | (with_reducible first | exact HB.out | apply below_alloc | apply pw_below_drewN | apply below_drew1) | exact HB.out)))); have n1_ := Aside0.mk (below_step (by repeat (first | (with_reducible first | exact HB.out | apply below_alloc | apply pw_below_drewN | apply below_drew1) | exact HB.out)) hb); clear HB; have HO231 := n0_; have HB := n1_; clear n0_ n1_; (try clear hb); (try clear hb2); (try clear hk); (try clear hi); (try clear ho0)))
    go_ret2
    exact ⟨by first | rfl | (simp [errW_none, errW_some] <;> rfl) | (simp [*, errW_none, errW_some] <;> rfl), by repeat (first | (with_reducible first | exact HB.out | apply below_alloc | apply pw_below_drewN | apply below_drew1) | exact HB.out)⟩
end Go.Proofs.Ytegjollhajgcdaa.P
namespace Go.Proofs.Ytegjollhajgcdaa.P
open Go.RowKit Go.Proofs.YtegjollhajgcdaaW.PrintWords Go.Proofs.YtegjollhajgcdaaW.PrintLast Go.Proofs.YtegjollhajgcdaaW.PrintMore
attribute [local go_sem] max2_int min2_int max_two min_two max_three min_three max_four min_four   -- for this text's walks alone
set_option linter.unusedVariables false
set_option linter.unusedSimpArgs false
def cippuskit_SameInts.l0 : Nat → List Int → List Int → Bool → Int → Option (Bool)
  | 0, _, _, _, _ => none
  | k + 1, x0, x1, x5, x6 => if x5 = true then (if x6 < (x0.length : Int) then (if 0 ≤ x6 then (if x6 < (x1.length : Int) then (cippuskit_SameInts.l0 k x0 x1 ((rd x0 x6) == (rd x1 x6)) (wrap64 (x6 + 1))) else (none)) else (none)) else (some x5)) else (some x5)
def cippuskit_SameInts.f (k : Nat) (l0 : List Int) (l1 : List Int) : Option (Bool) := cippuskit_SameInts.l0 k l0 l1 ((l0.length : Int) == (l1.length : Int)) 0
theorem cippuskit_SameInts.mono_l : ∀ k, (∀ y0 y1 y2 y3, LeO (cippuskit_SameInts.l0 k y0 y1 y2 y3) (cippuskit_SameInts.l0 (k + 1) y0 y1 y2 y3))
  | 0 => fun _ _ _ _ r h => by simp [cippuskit_SameInts.l0] at h
  | k + 1 => by
    have ih0 := cippuskit_SameInts.mono_l k
    · intro y0 y1 y2 y3
      unfold cippuskit_SameInts.l0
      repeat' first
      | (with_reducible exact ih0 _ _ _ _)
      | (with_reducible exact LeO.refl _)
      | (with_reducible exact LeO.none _)
      | (with_reducible refine LeO.ite ?_ ?_)
      | (with_reducible refine LeO.bind ?_ (fun _ => ?_))
      | exact ih0 _ _ _ _
      | exact LeO.none _
      | refine LeO.ite ?_ ?_
      | refine LeO.bind ?_ (fun _ => ?_)
theorem cippuskit_SameInts.mono : ∀ a0 a1 k, LeO (cippuskit_SameInts.f k a0 a1) (cippuskit_SameInts.f (k + 1) a0 a1) := by
  intro a0 a1 k
  have ih0 := cippuskit_SameInts.mono_l k
  unfold cippuskit_SameInts.f
  repeat' first
      | (with_reducible exact ih0 _ _ _ _)
      | (with_reducible exact LeO.refl _)
      | (with_reducible exact LeO.none _)
      | (with_reducible refine LeO.ite ?_ ?_)
      | (with_reducible refine LeO.bind ?_ (fun _ => ?_))
      | exact ih0 _ _ _ _
      | exact LeO.none _
      | refine LeO.ite ?_ ?_
      | refine LeO.bind ?_ (fun _ => ?_)
set_option maxHeartbeats 8000000 in
set_option maxRecDepth 100000 in
theorem cippuskit_SameInts.calls (k : Nat) (A0 : Option Addr) (c0 : Nat) (l0 : List Int) (A1 : Option Addr) (c1 : Nat) (l1 : List Int) (r : Bool) (w : World) (hr0 : Kd.C (Kd.int .i64) w A0 l0.length l0) (hc0 : l0.length ≤ c0) (hr1 : Kd.C (Kd.int .i64) w A1 l1.length l1) (hc1 : l1.length ≤ c1) (h : cippuskit_SameInts.f k l0 l1 = some r) :
    Calls Try.prog 62 #[.slice A0 l0.length c0, .slice A1 l1.length c1] w fun e w' => e = .returned (.bool r) ∧ Drawn0 w w' := by
  have HR0 := Aside0.mk hr0
  have HC0 := Aside0.mk hc0
  clear hr0 hc0
  have HR1 := Aside0.mk hr1
  have HC1 := Aside0.mk hc1
  clear hr1 hc1
  have H : (cippuskit_SameInts.l0 k l0 l1 ((l0.length : Int) == (l1.length : Int)) 0) = some r := h
  clear h
  have H' := Aside0.mk H
  clear H
  go_enter Try.func62, Try.ntmps62
  go_wp2
  repeat (go_quiet (fail); try go_wp2)
  go_loopg [5, 6] k (fun kq v5 v6 w' => ∃ (x5_1 : Bool) (x6_1 : Int), v5 = .bool x5_1 ∧ v6 = .int .i64 x6_1 ∧ Aside0 (cippuskit_SameInts.l0 kq l0 l1 x5_1 x6_1 = some r) ∧ Aside0 (kq ≤ k) ∧ Drawn0 w w')
  case atStart => exact ⟨(((l0.length : Int) == (l1.length : Int))), (0), (by first | rfl | (simp; done) | (simp [*]; done)), (by first | rfl | (simp; done) | (simp [*]; done)), H', ⟨Nat.le_refl _⟩, by repeat (first | exact Drawn0.refl _ | apply Drawn0.step)⟩
  case round =>
    clear H'
    try clear c1
    try clear p2
    obtain ⟨x5_1, x6_1, rfl, rfl, HA, HK1, ⟨m1, rfl⟩⟩ := hrel
    cases gk with
    | zero => exact absurd HA.out (by simp [cippuskit_SameInts.l0])
    | succ k1 =>
      have H := HA.out
      clear HA
      simp only [cippuskit_SameInts.l0] at H
      by_cases c3 : x5_1 = true
      · subst c3
        have H1 : (if x6_1 < (l0.length : Int) then (if 0 ≤ x6_1 then (if x6_1 < (l1.length : Int) then (cippuskit_SameInts.l0 k1 l0 l1 ((rd l0 x6_1) == (rd l1 x6_1)) (wrap64 (x6_1 + 1))) else (none)) else (none)) else (some true)) = some r := by rw [if_pos rfl] at H; exact H
        clear H
        have H := H1
        clear H1
        by_cases c4 : x6_1 < (l0.length : Int)
        · rw [if_pos c4] at H
          have c4b0 : decide (x6_1 < (l0.length : Int)) = true := decide_eq_true c4
          clear c4
          by_cases c5 : 0 ≤ x6_1
          · rw [if_pos c5] at H
            have c5b0 : decide (0 ≤ x6_1) = true := decide_eq_true c5
            clear c5
            by_cases c6 : x6_1 < (l1.length : Int)
            · rw [if_pos c6] at H
              have c6b0 : decide (x6_1 < (l1.length : Int)) = true := decide_eq_true c6
              clear c6
              have H' := Aside0.mk H
              clear H
              have p260 : 0 ≤ (x6_1 : Int) := of_decide_eq_true (by first | (with_reducible assumption) | assumption)
              have q260 : x6_1 < (l0.length : Int) := of_decide_eq_true (by first | (with_reducible assumption) | assumption)
              obtain ⟨ad260, e260, hx260_0⟩ := Kd.at_int HR0.out x6_1 p260 q260
              cases e260
              replace p260 := eq_true p260
              replace q260 := eq_true q260
              have p261 : 0 ≤ (x6_1 : Int) := of_decide_eq_true (by first | (with_reducible assumption) | assumption)
              have q261 : x6_1 < (l1.length : Int) := of_decide_eq_true (by first | (with_reducible assumption) | assumption)
              obtain ⟨ad261, e261, hx261_0⟩ := Kd.at_int HR1.out x6_1 p261 q261
              cases e261
              replace p261 := eq_true p261
              replace q261 := eq_true q261
              go_wp2
              repeat (go_quiet (fail); try go_wp2)
              go_roundg k1
              case measure => have := HK1.out; omega
              case rel => exact ⟨(((rd l0 x6_1) == (rd l1 x6_1))), (wrap64 (x6_1 + 1)), (by first | rfl | (simp; done) | (simp [*]; done)), (by first | rfl | (simp; done) | (simp [*]; done)), H', ⟨by have := HK1.out; omega⟩, by repeat (first | exact Drawn0.refl _ | apply Drawn0.step)⟩
            · rw [if_neg c6] at H
              exact absurd H (by simp)
          · rw [if_neg c5] at H
            exact absurd H (by simp)
        · rw [if_neg c4] at H
          have c4b0 : decide (x6_1 < (l0.length : Int)) = false := decide_eq_false c4
          clear c4
          obtain rfl := Option.some.inj H
          go_wp2
          repeat (go_quiet (fail); try go_wp2)
          go_ret
          exact ⟨by first | rfl | (simp; done) | (simp [*]; done), by repeat (first | exact Drawn0.refl _ | apply Drawn0.step)⟩
      · replace c3 := Bool.eq_false_iff.mpr c3
        subst c3
        have H1 : (some false) = some r := by rw [if_neg (show ¬ (false = true) by decide)] at H; exact H
        clear H
        have H := H1
        clear H1
        obtain rfl := Option.some.inj H
        go_wp2
        repeat (go_quiet (fail); try go_wp2)
        go_ret
        exact ⟨by first | rfl | (simp; done) | (simp [*]; done), by repeat (first | exact Drawn0.refl _ | apply Drawn0.step)⟩
end Go.Proofs.Ytegjollhajgcdaa.P
namespace Go.Proofs.Ytegjollhajgcdaa.P
open Go.RowKit Go.Proofs.YtegjollhajgcdaaW.PrintWords Go.Proofs.YtegjollhajgcdaaW.PrintLast Go.Proofs.YtegjollhajgcdaaW.PrintMore
attribute [local go_sem] max2_int min2_int max_two min_two max_three min_three max_four min_four   -- for this text's walks alone
set_option linter.unusedVariables false
set_option linter.unusedSimpArgs false
def cippuskit_SameGrids.l0 : Nat → List (List Int) → List (List Int) → Bool → Int → Option (Bool)
  | 0, _, _, _, _ => none
  | k + 1, x0, x1, x5, x6 => if x5 = true then (if x6 < (x0.length : Int) then (if 0 ≤ x6 then (if x6 < (x1.length : Int) then ((cippuskit_SameInts.f k (rd_L4 x0 x6) (rd_L4 x1 x6)).bind fun t264 => (cippuskit_SameGrids.l0 k x0 x1 t264 (wrap64 (x6 + 1)))) else (none)) else (none)) else (some x5)) else (some x5)
def cippuskit_SameGrids.f (k : Nat) (l0 : List (List Int)) (l1 : List (List Int)) : Option (Bool) := cippuskit_SameGrids.l0 k l0 l1 ((l0.length : Int) == (l1.length : Int)) 0
theorem cippuskit_SameGrids.mono_l : ∀ k, (∀ y0 y1 y2 y3, LeO (cippuskit_SameGrids.l0 k y0 y1 y2 y3) (cippuskit_SameGrids.l0 (k + 1) y0 y1 y2 y3))
  | 0 => fun _ _ _ _ r h => by simp [cippuskit_SameGrids.l0] at h
  | k + 1 => by
    have ih0 := cippuskit_SameGrids.mono_l k
    · intro y0 y1 y2 y3
      unfold cippuskit_SameGrids.l0
      repeat' first
      | (with_reducible exact ih0 _ _ _ _)
      | (with_reducible exact cippuskit_SameInts.mono _ _ _)
      | (with_reducible exact LeO.refl _)
      | (with_reducible exact LeO.none _)
      | (with_reducible refine LeO.ite ?_ ?_)
      | (with_reducible refine LeO.bind ?_ (fun _ => ?_))
      | exact ih0 _ _ _ _
      | exact cippuskit_SameInts.mono _ _ _
      | exact LeO.none _
      | refine LeO.ite ?_ ?_
      | refine LeO.bind ?_ (fun _ => ?_)
theorem cippuskit_SameGrids.mono : ∀ a0 a1 k, LeO (cippuskit_SameGrids.f k a0 a1) (cippuskit_SameGrids.f (k + 1) a0 a1) := by
  intro a0 a1 k
  have ih0 := cippuskit_SameGrids.mono_l k
  unfold cippuskit_SameGrids.f
  repeat' first
      | (with_reducible exact ih0 _ _ _ _)
      | (with_reducible exact cippuskit_SameInts.mono _ _ _)
      | (with_reducible exact LeO.refl _)
      | (with_reducible exact LeO.none _)
      | (with_reducible refine LeO.ite ?_ ?_)
      | (with_reducible refine LeO.bind ?_ (fun _ => ?_))
      | exact ih0 _ _ _ _
      | exact cippuskit_SameInts.mono _ _ _
      | exact LeO.none _
      | refine LeO.ite ?_ ?_
      | refine LeO.bind ?_ (fun _ => ?_)
set_option maxHeartbeats 8000000 in
set_option maxRecDepth 100000 in
theorem cippuskit_SameGrids.calls (k : Nat) (A0 : Option Addr) (c0 : Nat) (l0 : List (List Int)) (A1 : Option Addr) (c1 : Nat) (l1 : List (List Int)) (r : Bool) (w : World) (hr0 : Kd.C (Kd.slice 3 (Kd.int .i64)) w A0 l0.length l0) (hc0 : l0.length ≤ c0) (hr1 : Kd.C (Kd.slice 3 (Kd.int .i64)) w A1 l1.length l1) (hc1 : l1.length ≤ c1) (h : cippuskit_SameGrids.f k l0 l1 = some r) :
    Calls Try.prog 35 #[.slice A0 l0.length c0, .slice A1 l1.length c1] w fun e w' => e = .returned (.bool r) ∧ Drawn0 w w' := by
  have HR0 := Aside0.mk hr0
  have HC0 := Aside0.mk hc0
  clear hr0 hc0
  have HR1 := Aside0.mk hr1
  have HC1 := Aside0.mk hc1
  clear hr1 hc1
  have H : (cippuskit_SameGrids.l0 k l0 l1 ((l0.length : Int) == (l1.length : Int)) 0) = some r := h
  clear h
  have H' := Aside0.mk H
  clear H
  go_enter Try.func35, Try.ntmps35
  go_wp2
  repeat (go_quiet (fail); try go_wp2)
  go_loopg [5, 6] k (fun kq v5 v6 w' => ∃ (x5_1 : Bool) (x6_1 : Int), v5 = .bool x5_1 ∧ v6 = .int .i64 x6_1 ∧ Aside0 (cippuskit_SameGrids.l0 kq l0 l1 x5_1 x6_1 = some r) ∧ Aside0 (kq ≤ k) ∧ Drawn0 w w')
  case atStart => exact ⟨(((l0.length : Int) == (l1.length : Int))), (0), (by first | rfl | (simp; done) | (simp [*]; done)), (by first | rfl | (simp; done) | (simp [*]; done)), H', ⟨Nat.le_refl _⟩, by repeat (first | exact Drawn0.refl _ | apply Drawn0.step)⟩
  case round =>
    clear H'
    try clear c1
    try clear p2
    obtain ⟨x5_1, x6_1, rfl, rfl, HA, HK1, ⟨m1, rfl⟩⟩ := hrel
    cases gk with
    | zero => exact absurd HA.out (by simp [cippuskit_SameGrids.l0])
    | succ k1 =>
      have H := HA.out
      clear HA
      simp only [cippuskit_SameGrids.l0] at H
      by_cases c3 : x5_1 = true
      · subst c3
        have H1 : (if x6_1 < (l0.length : Int) then (if 0 ≤ x6_1 then (if x6_1 < (l1.length : Int) then ((cippuskit_SameInts.f k1 (rd_L4 l0 x6_1) (rd_L4 l1 x6_1)).bind fun t264 => (cippuskit_SameGrids.l0 k1 l0 l1 t264 (wrap64 (x6_1 + 1)))) else (none)) else (none)) else (some true)) = some r := by rw [if_pos rfl] at H; exact H
        clear H
        have H := H1
        clear H1
        by_cases c4 : x6_1 < (l0.length : Int)
        · rw [if_pos c4] at H
          have c4b0 : decide (x6_1 < (l0.length : Int)) = true := decide_eq_true c4
          clear c4
          by_cases c5 : 0 ≤ x6_1
          · rw [if_pos c5] at H
            have c5b0 : decide (0 ≤ x6_1) = true := decide_eq_true c5
            clear c5
            by_cases c6 : x6_1 < (l1.length : Int)
            · rw [if_pos c6] at H
              have c6b0 : decide (x6_1 < (l1.length : Int)) = true := decide_eq_true c6
              clear c6
              replace H := Option.bind_eq_some_iff.mp H
              obtain ⟨t264, A70, H⟩ := H
              replace H : (cippuskit_SameGrids.l0 k1 l0 l1 t264 (wrap64 (x6_1 + 1))) = some r := H
              have A7 := Aside0.mk A70
              clear A70
              have H' := Aside0.mk H
              clear H
              have p262 : 0 ≤ (x6_1 : Int) := of_decide_eq_true (by first | (with_reducible assumption) | assumption)
              have q262 : x6_1 < (l0.length : Int) := of_decide_eq_true (by first | (with_reducible assumption) | assumption)
              obtain ⟨ad262, A262_0, c262_0, e262, hx262_0, hl262_0, hi262_0⟩ := at_L4 HR0.out x6_1 p262 q262
              cases e262
              have HR262_0 := Aside0.mk hi262_0
              have HC262_0 := Aside0.mk hl262_0
              clear hi262_0 hl262_0
              replace p262 := eq_true p262
              replace q262 := eq_true q262
              have p263 : 0 ≤ (x6_1 : Int) := of_decide_eq_true (by first | (with_reducible assumption) | assumption)
              have q263 : x6_1 < (l1.length : Int) := of_decide_eq_true (by first | (with_reducible assumption) | assumption)
              obtain ⟨ad263, A263_0, c263_0, e263, hx263_0, hl263_0, hi263_0⟩ := at_L4 HR1.out x6_1 p263 q263
              cases e263
              have HR263_0 := Aside0.mk hi263_0
              have HC263_0 := Aside0.mk hl263_0
              clear hi263_0 hl263_0
              replace p263 := eq_true p263
              replace q263 := eq_true q263
              go_wp2_with (first | (go_at_call 62; (with_reducible refine (cippuskit_SameInts.calls k1 _ _ (rd_L4 l0 x6_1) _ _ (rd_L4 l1 x6_1) t264 _ ?side1 ?side2 ?side3 ?side4 A7.out).mono ?_); (case side1 => repeat (first | exact HR262_0.out | (with_reducible refine Kd.C_alloc ?_ _) | (with_reducible refine Kd.C_drewN ?_ _) | (with_reducible refine Kd.C_drew ?_))); (case side2 => exact HC262_0.out); (case side3 => repeat (first | exact HR263_0.out | (with_reducible refine Kd.C_alloc ?_ _) | (with_reducible refine Kd.C_drewN ?_ _) | (with_reducible refine Kd.C_drew ?_))); (case side4 => exact HC263_0.out); rintro e w' ⟨rfl, ⟨nd, rfl⟩⟩; (try first | exact ⟨rfl, _, World.drewN_drewN _ _ _⟩ | exact ⟨rfl, _, Eq.trans (World.drewN_drewN _ _ _) (congrArg (World.drewN _) (Nat.add_assoc _ _ _))⟩)))
              repeat (go_quiet (first | (go_at_call 62; (with_reducible refine (cippuskit_SameInts.calls k1 _ _ (rd_L4 l0 x6_1) _ _ (rd_L4 l1 x6_1) t264 _ ?side1 ?side2 ?side3 ?side4 A7.out).mono ?_); (case side1 => repeat (first | exact HR262_0.out | (with_reducible refine Kd.C_alloc ?_ _) | (with_reducible refine Kd.C_drewN ?_ _) | (with_reducible refine Kd.C_drew ?_))); (case side2 => exact HC262_0.out); (case side3 => repeat (first | exact HR263_0.out | (with_reducible refine Kd.C_alloc ?_ _) | (with_reducible refine Kd.C_drewN ?_ _) | (with_reducible refine Kd.C_drew ?_))); (case side4 => exact HC263_0.out); rintro e w' ⟨rfl, ⟨nd, rfl⟩⟩; (try first | exact ⟨rfl, _, World.drewN_drewN _ _ _⟩ | exact ⟨rfl, _, Eq.trans (World.drewN_drewN _ _ _) (congrArg (World.drewN _) (Nat.add_assoc _ _ _))⟩))); try go_wp2_with (first | (go_at_call 62; (with_reducible refine (cippuskit_SameInts.calls k1 _ _ (rd_L4 l0 x6_1) _ _ (rd_L4 l1 x6_1) t264 _ ?side1 ?side2 ?side3 ?side4 A7.out).mono ?_); (case side1 => repeat (first | exact HR262_0.out | (with_reducible refine Kd.C_alloc ?_ _) | (with_reducible refine Kd.C_drewN ?_ _) | (with_reducible refine Kd.C_drew ?_))); (case side2 => exact HC262_0.out); (case side3 => repeat (first | exact HR263_0.out | (with_reducible refine Kd.C_alloc ?_ _) | (with_reducible refine Kd.C_drewN ?_ _) | (with_reducible refine Kd.C_drew ?_))); (case side4 => exact HC263_0.out); rintro e w' ⟨rfl, ⟨nd, rfl⟩⟩; (try first | exact ⟨rfl, _, World.drewN_drewN _ _ _⟩ | exact ⟨rfl, _, Eq.trans (World.drewN_drewN _ _ _) (congrArg (World.drewN _) (Nat.add_assoc _ _ _))⟩))))
              go_roundg k1
              case measure => have := HK1.out; omega
              case rel => exact ⟨(t264), (wrap64 (x6_1 + 1)), (by first | rfl | (simp; done) | (simp [*]; done)), (by first | rfl | (simp; done) | (simp [*]; done)), H', ⟨by have := HK1.out; omega⟩, by repeat (first | exact Drawn0.refl _ | apply Drawn0.step)⟩
            · rw [if_neg c6] at H
              exact absurd H (by simp)
          · rw [if_neg c5] at H
            exact absurd H (by simp)
        · rw [if_neg c4] at H
          have c4b0 : decide (x6_1 < (l0.length : Int)) = false := decide_eq_false c4
          clear c4
          obtain rfl := Option.some.inj H
          go_wp2
          repeat (go_quiet (fail); try go_wp2)
          go_ret
          exact ⟨by first | rfl | (simp; done) | (simp [*]; done), by repeat (first | exact Drawn0.refl _ | apply Drawn0.step)⟩
      · replace c3 := Bool.eq_false_iff.mpr c3
        subst c3
        have H1 : (some false) = some r := by rw [if_neg (show ¬ (false = true) by decide)] at H; exact H
        clear H
        have H := H1
        clear H1
        obtain rfl := Option.some.inj H
        go_wp2
        repeat (go_quiet (fail); try go_wp2)
        go_ret
        exact ⟨by first | rfl | (simp; done) | (simp [*]; done), by repeat (first | exact Drawn0.refl _ | apply Drawn0.step)⟩
end Go.Proofs.Ytegjollhajgcdaa.P
namespace Go.Proofs.Ytegjollhajgcdaa.P
open Go.RowKit Go.Proofs.YtegjollhajgcdaaW.PrintWords Go.Proofs.YtegjollhajgcdaaW.PrintLast Go.Proofs.YtegjollhajgcdaaW.PrintMore
attribute [local go_sem] max2_int min2_int max_two min_two max_three min_three max_four min_four   -- for this text's walks alone
set_option linter.unusedVariables false
set_option linter.unusedSimpArgs false
def cippuslaw07_copies.f (a0 : Int) (a1 : Int) (a2 : Bool) : Option ((List (S24))) := some (([(⟨(⟨#[65, 82, 77, 65]⟩ : ByteArray), a0, true⟩ : S24), (⟨(⟨#[65, 82, 77, 79]⟩ : ByteArray), a1, a2⟩ : S24), (⟨(⟨#[69, 82, 77, 79]⟩ : ByteArray), 1, false⟩ : S24)] : List (S24)))
set_option maxHeartbeats 8000000 in
set_option maxRecDepth 100000 in
theorem cippuslaw07_copies.calls (a0 : Int) (a1 : Int) (a2 : Bool) (r : List (S24)) (w : World) (h : cippuslaw07_copies.f a0 a1 a2 = some r) :
    Calls Try.prog 47 #[.int .i64 a0, .int .i64 a1, .bool a2] w fun e w' => ∃ v0_ : Value, e = .returned (v0_) ∧ Kd.R k24 24 w' w.heap.size (fun _ => True) v0_ r ∧ Below w.heap.size w w' := by
  have hu24 := Try.underlying24
  have HB := Aside0.mk (Below.refl w.heap.size w)
  have H : (some (([(⟨(⟨#[65, 82, 77, 65]⟩ : ByteArray), a0, true⟩ : S24), (⟨(⟨#[65, 82, 77, 79]⟩ : ByteArray), a1, a2⟩ : S24), (⟨(⟨#[69, 82, 77, 79]⟩ : ByteArray), 1, false⟩ : S24)] : List (S24)))) = some r := h
  clear h
  obtain ⟨y265, hy265⟩ : ∃ y_ : List (S24), y_ = (([(⟨(⟨#[65, 82, 77, 65]⟩ : ByteArray), a0, true⟩ : S24), (⟨(⟨#[65, 82, 77, 79]⟩ : ByteArray), a1, a2⟩ : S24), (⟨(⟨#[69, 82, 77, 79]⟩ : ByteArray), 1, false⟩ : S24)] : List (S24))) := ⟨_, rfl⟩
  replace H : (some y265) = some r := by first | (rw [hy265]; with_reducible exact H) | (have H2_ := (Option.bind_some _ _).symm.trans H; rw [hy265]; with_reducible exact H2_) | (have H2_ := (Option.bind_some _ _).symm.trans H; with_reducible exact H2_) | with_reducible exact H | (rw [hy265]; exact H) | exact H
  have Ny265 := Aside0.mk hy265
  clear hy265
  obtain rfl := Option.some.inj H
  go_enter Try.func47, Try.ntmps47
  go_wp2_with (first | ((with_reducible refine gate_dst (N := 13) rfl ?_); refine Kd.R_lit k24 _ 24 ?hg (N := 13) ?hd (xs := ([(⟨(⟨#[65, 82, 77, 65]⟩ : ByteArray), a0, true⟩ : S24), (⟨(⟨#[65, 82, 77, 79]⟩ : ByteArray), a1, a2⟩ : S24), (⟨(⟨#[69, 82, 77, 79]⟩ : ByteArray), 1, false⟩ : S24)] : List (S24))) (inner := [.string (⟨#[65, 82, 77, 65]⟩ : ByteArray), .int .i64 a0, .bool true, .string (⟨#[65, 82, 77, 79]⟩ : ByteArray), .int .i64 a1, .bool a2, .string (⟨#[69, 82, 77, 79]⟩ : ByteArray), .int .i64 1, .bool false]) (ok := fun _ => True) (okp := fun _ => True) ?hr ?hp (fun _ hk => hk) trivial (Below.refl _ _) (Nat.le_refl _) (by simp) ?_; (case hd => rfl); (case hg => rfl); (case hr => first | (go_simp; done) | (go_simp; rfl)); (case hp => exact (Reps.c3 (show Kd.M k24 _ _ _ (⟨(⟨#[65, 82, 77, 65]⟩ : ByteArray), a0, true⟩ : S24) [.string (⟨#[65, 82, 77, 65]⟩ : ByteArray), .int .i64 a0, .bool true] from (k24_mkM _ _ _ (⟨(⟨#[65, 82, 77, 65]⟩ : ByteArray), a0, true⟩ : S24) )) (Reps.c3 (show Kd.M k24 _ _ _ (⟨(⟨#[65, 82, 77, 79]⟩ : ByteArray), a1, a2⟩ : S24) [.string (⟨#[65, 82, 77, 79]⟩ : ByteArray), .int .i64 a1, .bool a2] from (k24_mkM _ _ _ (⟨(⟨#[65, 82, 77, 79]⟩ : ByteArray), a1, a2⟩ : S24) )) (Reps.c3 (show Kd.M k24 _ _ _ (⟨(⟨#[69, 82, 77, 79]⟩ : ByteArray), 1, false⟩ : S24) [.string (⟨#[69, 82, 77, 79]⟩ : ByteArray), .int .i64 1, .bool false] from (k24_mkM _ _ _ (⟨(⟨#[69, 82, 77, 79]⟩ : ByteArray), 1, false⟩ : S24) )) (Reps.none _ _))))); intro v266 w4 ho5 hb hg_ hnew_; clear hg_ hnew_; (first | rw [← Ny265.out] at ho5 | (simp only [Int.reduceToNat] at ho5; rw [← Ny265.out] at ho5)); have n0_ := Aside0.mk (Kd.R_lower ho5 (below_size (by repeat (first | (with_reducible first | exact HB.out | apply below_alloc | apply pw_below_drewN | apply below_drew1) | exact HB.out)))); have n1_ := Aside0.mk (below_step (by repeat (first | (with_reducible first | exact HB.out | apply below_alloc | apply pw_below_drewN | apply below_drew1) | exact HB.out)) hb); clear HB; have HO267 := n0_; have HB := n1_; clear n0_ n1_; clear hb ho5))
  go_ret
  exact ⟨_, by first | rfl | (simp [errW_none, errW_some] <;> rfl) | (simp [*, errW_none, errW_some] <;> rfl), by (with_reducible repeat (first | apply Kd.R_alloc | apply Kd.R_drewN | apply Kd.R_drew)); exact HO267.out, by repeat (first | (with_reducible first | exact HB.out | apply below_alloc | apply pw_below_drewN | apply below_drew1) | exact HB.out)⟩
end Go.Proofs.Ytegjollhajgcdaa.P
namespace Go.Proofs.Ytegjollhajgcdaa.P
open Go.RowKit Go.Proofs.YtegjollhajgcdaaW.PrintWords Go.Proofs.YtegjollhajgcdaaW.PrintLast Go.Proofs.YtegjollhajgcdaaW.PrintMore
attribute [local go_sem] max2_int min2_int max_two min_two max_three min_three max_four min_four   -- for this text's walks alone
set_option linter.unusedVariables false
set_option linter.unusedSimpArgs false
def cippuslaw07_found.f (k : Nat)  : Option (Bool) := (cippuslaw07_copies.f 1 1 true).bind fun t268 => ((stemma_Sources.f k t268).bind fun bt271 => ((cippuslaw07_copies.f 1 0 true).bind fun t275 => ((stemma_Print.f k t275).bind fun bt278 => ((cippuslaw07_copies.f 0 1 true).bind fun t280 => ((stemma_Print.f k t280).bind fun bt283 => ((cippuslaw07_copies.f 1 0 true).bind fun t285 => ((stemma_Fewest.f k t285).bind fun bt288 => (if bt271.2 = 0 then (if bt278.2 = 0 then (if bt283.2 = 0 then (if bt288.2 = 0 then (if bt278.1.toList = ([65, 82, 77, 79] : List UInt8) then (if bt283.1.toList = ([65, 82, 77, 65] : List UInt8) then (if bt288.1 = 2 then ((cippuskit_SameGrids.f k bt271.1 (([(([1] : List Int)), (([3, 3] : List Int)), (([2, 2, 1] : List Int))] : List (List Int)))).bind fun t302 => (some t302)) else (some false)) else (some false)) else (some false)) else (some false)) else (some false)) else (some false)) else (some false)))))))))
theorem cippuslaw07_found.mono : ∀ k, LeO (cippuslaw07_found.f k ) (cippuslaw07_found.f (k + 1) ) := by
  intro  k
  unfold cippuslaw07_found.f
  repeat' first
      | (with_reducible exact cippuskit_SameGrids.mono _ _ _)
      | (with_reducible exact stemma_Fewest.mono _ _)
      | (with_reducible exact stemma_Print.mono _ _)
      | (with_reducible exact stemma_Sources.mono _ _)
      | (with_reducible exact LeO.refl _)
      | (with_reducible exact LeO.none _)
      | (with_reducible refine LeO.ite ?_ ?_)
      | (with_reducible refine LeO.bind ?_ (fun _ => ?_))
      | exact cippuskit_SameGrids.mono _ _ _
      | exact stemma_Fewest.mono _ _
      | exact stemma_Print.mono _ _
      | exact stemma_Sources.mono _ _
      | exact LeO.none _
      | refine LeO.ite ?_ ?_
      | refine LeO.bind ?_ (fun _ => ?_)
set_option maxHeartbeats 8000000 in
set_option maxRecDepth 100000 in
theorem cippuslaw07_found.calls (k : Nat)  (r : Bool) (w : World) (h : cippuslaw07_found.f k  = some r) :
    Calls Try.prog 17 #[] w fun e w' => e = .returned (.bool r) ∧ Below w.heap.size w w' := by
  have HB := Aside0.mk (Below.refl w.heap.size w)
  have H : ((cippuslaw07_copies.f 1 1 true).bind fun t268 => ((stemma_Sources.f k t268).bind fun bt271 => ((cippuslaw07_copies.f 1 0 true).bind fun t275 => ((stemma_Print.f k t275).bind fun bt278 => ((cippuslaw07_copies.f 0 1 true).bind fun t280 => ((stemma_Print.f k t280).bind fun bt283 => ((cippuslaw07_copies.f 1 0 true).bind fun t285 => ((stemma_Fewest.f k t285).bind fun bt288 => (if bt271.2 = 0 then (if bt278.2 = 0 then (if bt283.2 = 0 then (if bt288.2 = 0 then (if bt278.1.toList = ([65, 82, 77, 79] : List UInt8) then (if bt283.1.toList = ([65, 82, 77, 65] : List UInt8) then (if bt288.1 = 2 then ((cippuskit_SameGrids.f k bt271.1 (([(([1] : List Int)), (([3, 3] : List Int)), (([2, 2, 1] : List Int))] : List (List Int)))).bind fun t302 => (some t302)) else (some false)) else (some false)) else (some false)) else (some false)) else (some false)) else (some false)) else (some false)))))))))) = some r := h
  clear h
  replace H := Option.bind_eq_some_iff.mp H
  obtain ⟨t268, A10, H⟩ := H
  replace H : ((stemma_Sources.f k t268).bind fun bt271 => ((cippuslaw07_copies.f 1 0 true).bind fun t275 => ((stemma_Print.f k t275).bind fun bt278 => ((cippuslaw07_copies.f 0 1 true).bind fun t280 => ((stemma_Print.f k t280).bind fun bt283 => ((cippuslaw07_copies.f 1 0 true).bind fun t285 => ((stemma_Fewest.f k t285).bind fun bt288 => (if bt271.2 = 0 then (if bt278.2 = 0 then (if bt283.2 = 0 then (if bt288.2 = 0 then (if bt278.1.toList = ([65, 82, 77, 79] : List UInt8) then (if bt283.1.toList = ([65, 82, 77, 65] : List UInt8) then (if bt288.1 = 2 then ((cippuskit_SameGrids.f k bt271.1 (([(([1] : List Int)), (([3, 3] : List Int)), (([2, 2, 1] : List Int))] : List (List Int)))).bind fun t302 => (some t302)) else (some false)) else (some false)) else (some false)) else (some false)) else (some false)) else (some false)) else (some false))))))))) = some r := H
  have A1 := Aside0.mk A10
  clear A10
  replace H := Option.bind_eq_some_iff.mp H
  obtain ⟨⟨t271, t274⟩, A20, H⟩ := H
  replace H : ((cippuslaw07_copies.f 1 0 true).bind fun t275 => ((stemma_Print.f k t275).bind fun bt278 => ((cippuslaw07_copies.f 0 1 true).bind fun t280 => ((stemma_Print.f k t280).bind fun bt283 => ((cippuslaw07_copies.f 1 0 true).bind fun t285 => ((stemma_Fewest.f k t285).bind fun bt288 => (if t274 = 0 then (if bt278.2 = 0 then (if bt283.2 = 0 then (if bt288.2 = 0 then (if bt278.1.toList = ([65, 82, 77, 79] : List UInt8) then (if bt283.1.toList = ([65, 82, 77, 65] : List UInt8) then (if bt288.1 = 2 then ((cippuskit_SameGrids.f k t271 (([(([1] : List Int)), (([3, 3] : List Int)), (([2, 2, 1] : List Int))] : List (List Int)))).bind fun t302 => (some t302)) else (some false)) else (some false)) else (some false)) else (some false)) else (some false)) else (some false)) else (some false)))))))) = some r := H
  have A2 := Aside0.mk A20
  clear A20
  replace H := Option.bind_eq_some_iff.mp H
  obtain ⟨t275, A30, H⟩ := H
  replace H : ((stemma_Print.f k t275).bind fun bt278 => ((cippuslaw07_copies.f 0 1 true).bind fun t280 => ((stemma_Print.f k t280).bind fun bt283 => ((cippuslaw07_copies.f 1 0 true).bind fun t285 => ((stemma_Fewest.f k t285).bind fun bt288 => (if t274 = 0 then (if bt278.2 = 0 then (if bt283.2 = 0 then (if bt288.2 = 0 then (if bt278.1.toList = ([65, 82, 77, 79] : List UInt8) then (if bt283.1.toList = ([65, 82, 77, 65] : List UInt8) then (if bt288.1 = 2 then ((cippuskit_SameGrids.f k t271 (([(([1] : List Int)), (([3, 3] : List Int)), (([2, 2, 1] : List Int))] : List (List Int)))).bind fun t302 => (some t302)) else (some false)) else (some false)) else (some false)) else (some false)) else (some false)) else (some false)) else (some false))))))) = some r := H
  have A3 := Aside0.mk A30
  clear A30
  replace H := Option.bind_eq_some_iff.mp H
  obtain ⟨⟨t278, t279⟩, A40, H⟩ := H
  replace H : ((cippuslaw07_copies.f 0 1 true).bind fun t280 => ((stemma_Print.f k t280).bind fun bt283 => ((cippuslaw07_copies.f 1 0 true).bind fun t285 => ((stemma_Fewest.f k t285).bind fun bt288 => (if t274 = 0 then (if t279 = 0 then (if bt283.2 = 0 then (if bt288.2 = 0 then (if t278.toList = ([65, 82, 77, 79] : List UInt8) then (if bt283.1.toList = ([65, 82, 77, 65] : List UInt8) then (if bt288.1 = 2 then ((cippuskit_SameGrids.f k t271 (([(([1] : List Int)), (([3, 3] : List Int)), (([2, 2, 1] : List Int))] : List (List Int)))).bind fun t302 => (some t302)) else (some false)) else (some false)) else (some false)) else (some false)) else (some false)) else (some false)) else (some false)))))) = some r := H
  have A4 := Aside0.mk A40
  clear A40
  replace H := Option.bind_eq_some_iff.mp H
  obtain ⟨t280, A50, H⟩ := H
  replace H : ((stemma_Print.f k t280).bind fun bt283 => ((cippuslaw07_copies.f 1 0 true).bind fun t285 => ((stemma_Fewest.f k t285).bind fun bt288 => (if t274 = 0 then (if t279 = 0 then (if bt283.2 = 0 then (if bt288.2 = 0 then (if t278.toList = ([65, 82, 77, 79] : List UInt8) then (if bt283.1.toList = ([65, 82, 77, 65] : List UInt8) then (if bt288.1 = 2 then ((cippuskit_SameGrids.f k t271 (([(([1] : List Int)), (([3, 3] : List Int)), (([2, 2, 1] : List Int))] : List (List Int)))).bind fun t302 => (some t302)) else (some false)) else (some false)) else (some false)) else (some false)) else (some false)) else (some false)) else (some false))))) = some r := H
  have A5 := Aside0.mk A50
  clear A50
  replace H := Option.bind_eq_some_iff.mp H
  obtain ⟨⟨t283, t284⟩, A60, H⟩ := H
  replace H : ((cippuslaw07_copies.f 1 0 true).bind fun t285 => ((stemma_Fewest.f k t285).bind fun bt288 => (if t274 = 0 then (if t279 = 0 then (if t284 = 0 then (if bt288.2 = 0 then (if t278.toList = ([65, 82, 77, 79] : List UInt8) then (if t283.toList = ([65, 82, 77, 65] : List UInt8) then (if bt288.1 = 2 then ((cippuskit_SameGrids.f k t271 (([(([1] : List Int)), (([3, 3] : List Int)), (([2, 2, 1] : List Int))] : List (List Int)))).bind fun t302 => (some t302)) else (some false)) else (some false)) else (some false)) else (some false)) else (some false)) else (some false)) else (some false)))) = some r := H
  have A6 := Aside0.mk A60
  clear A60
  replace H := Option.bind_eq_some_iff.mp H
  obtain ⟨t285, A70, H⟩ := H
  replace H : ((stemma_Fewest.f k t285).bind fun bt288 => (if t274 = 0 then (if t279 = 0 then (if t284 = 0 then (if bt288.2 = 0 then (if t278.toList = ([65, 82, 77, 79] : List UInt8) then (if t283.toList = ([65, 82, 77, 65] : List UInt8) then (if bt288.1 = 2 then ((cippuskit_SameGrids.f k t271 (([(([1] : List Int)), (([3, 3] : List Int)), (([2, 2, 1] : List Int))] : List (List Int)))).bind fun t302 => (some t302)) else (some false)) else (some false)) else (some false)) else (some false)) else (some false)) else (some false)) else (some false))) = some r := H
  have A7 := Aside0.mk A70
  clear A70
  replace H := Option.bind_eq_some_iff.mp H
  obtain ⟨⟨t288, t289⟩, A80, H⟩ := H
  replace H : (if t274 = 0 then (if t279 = 0 then (if t284 = 0 then (if t289 = 0 then (if t278.toList = ([65, 82, 77, 79] : List UInt8) then (if t283.toList = ([65, 82, 77, 65] : List UInt8) then (if t288 = 2 then ((cippuskit_SameGrids.f k t271 (([(([1] : List Int)), (([3, 3] : List Int)), (([2, 2, 1] : List Int))] : List (List Int)))).bind fun t302 => (some t302)) else (some false)) else (some false)) else (some false)) else (some false)) else (some false)) else (some false)) else (some false)) = some r := H
  have A8 := Aside0.mk A80
  clear A80
  by_cases c9 : t274 = 0
  · rw [if_pos c9] at H
    have c9b0 : (t274 == 0) = true := beq_iff_eq.mpr c9
    have c9b1 : (t274 != 0) = false := bne_eq_false_iff_eq.mpr c9
    clear c9
    by_cases c10 : t279 = 0
    · rw [if_pos c10] at H
      have c10b0 : (t279 == 0) = true := beq_iff_eq.mpr c10
      have c10b1 : (t279 != 0) = false := bne_eq_false_iff_eq.mpr c10
      clear c10
      by_cases c11 : t284 = 0
      · rw [if_pos c11] at H
        have c11b0 : (t284 == 0) = true := beq_iff_eq.mpr c11
        have c11b1 : (t284 != 0) = false := bne_eq_false_iff_eq.mpr c11
        clear c11
        by_cases c12 : t289 = 0
        · rw [if_pos c12] at H
          have c12b0 : (t289 == 0) = true := beq_iff_eq.mpr c12
          have c12b1 : (t289 != 0) = false := bne_eq_false_iff_eq.mpr c12
          clear c12
          by_cases c13 : t278.toList = ([65, 82, 77, 79] : List UInt8)
          · rw [if_pos c13] at H
            have c13b0 : (t278.toList == ([65, 82, 77, 79] : List UInt8)) = true := beq_iff_eq.mpr c13
            have c13b1 : (t278.toList != ([65, 82, 77, 79] : List UInt8)) = false := bne_eq_false_iff_eq.mpr c13
            clear c13
            by_cases c14 : t283.toList = ([65, 82, 77, 65] : List UInt8)
            · rw [if_pos c14] at H
              have c14b0 : (t283.toList == ([65, 82, 77, 65] : List UInt8)) = true := beq_iff_eq.mpr c14
              have c14b1 : (t283.toList != ([65, 82, 77, 65] : List UInt8)) = false := bne_eq_false_iff_eq.mpr c14
              clear c14
              by_cases c15 : t288 = 2
              · rw [if_pos c15] at H
                have c15b0 : (t288 == 2) = true := beq_iff_eq.mpr c15
                have c15b1 : (t288 != 2) = false := bne_eq_false_iff_eq.mpr c15
                clear c15
                obtain ⟨y290, hy290⟩ : ∃ y_ : List Int, y_ = (([1] : List Int)) := ⟨_, rfl⟩
                replace H : ((cippuskit_SameGrids.f k t271 (([y290, (([3, 3] : List Int)), (([2, 2, 1] : List Int))] : List (List Int)))).bind fun t302 => (some t302)) = some r := by first | (rw [hy290]; with_reducible exact H) | (have H2_ := (Option.bind_some _ _).symm.trans H; rw [hy290]; with_reducible exact H2_) | (have H2_ := (Option.bind_some _ _).symm.trans H; with_reducible exact H2_) | with_reducible exact H | (rw [hy290]; exact H) | exact H
                have Ny290 := Aside0.mk hy290
                clear hy290
                obtain ⟨y293, hy293⟩ : ∃ y_ : List Int, y_ = (([3, 3] : List Int)) := ⟨_, rfl⟩
                replace H : ((cippuskit_SameGrids.f k t271 (([y290, y293, (([2, 2, 1] : List Int))] : List (List Int)))).bind fun t302 => (some t302)) = some r := by first | (rw [hy293]; with_reducible exact H) | (have H2_ := (Option.bind_some _ _).symm.trans H; rw [hy293]; with_reducible exact H2_) | (have H2_ := (Option.bind_some _ _).symm.trans H; with_reducible exact H2_) | with_reducible exact H | (rw [hy293]; exact H) | exact H
                have Ny293 := Aside0.mk hy293
                clear hy293
                obtain ⟨y296, hy296⟩ : ∃ y_ : List Int, y_ = (([2, 2, 1] : List Int)) := ⟨_, rfl⟩
                replace H : ((cippuskit_SameGrids.f k t271 (([y290, y293, y296] : List (List Int)))).bind fun t302 => (some t302)) = some r := by first | (rw [hy296]; with_reducible exact H) | (have H2_ := (Option.bind_some _ _).symm.trans H; rw [hy296]; with_reducible exact H2_) | (have H2_ := (Option.bind_some _ _).symm.trans H; with_reducible exact H2_) | with_reducible exact H | (rw [hy296]; exact H) | exact H
                have Ny296 := Aside0.mk hy296
                clear hy296
                obtain ⟨y299, hy299⟩ : ∃ y_ : List (List Int), y_ = (([y290, y293, y296] : List (List Int))) := ⟨_, rfl⟩
                replace H : ((cippuskit_SameGrids.f k t271 y299).bind fun t302 => (some t302)) = some r := by first | (rw [hy299]; with_reducible exact H) | (have H2_ := (Option.bind_some _ _).symm.trans H; rw [hy299]; with_reducible exact H2_) | (have H2_ := (Option.bind_some _ _).symm.trans H; with_reducible exact H2_) | with_reducible exact H | (rw [hy299]; exact H) | exact H
                have Ny299 := Aside0.mk hy299
                clear hy299
                replace H := Option.bind_eq_some_iff.mp H
                obtain ⟨t302, A160, H⟩ := H
                replace H : (some t302) = some r := H
                have A16 := Aside0.mk A160
                clear A160
                obtain rfl := Option.some.inj H
                go_enter Try.func17, Try.ntmps17
                go_wp2_with (first | ((with_reducible refine gate_callee (f := 47) rfl ?_); refine goesL_ (some 10) rfl rfl Try.func47 (by kernel_rfl) rfl #[.int .i64 1, .int .i64 1, .bool true] rfl (by (try simp only [List.map_toArray, List.map_cons, List.map_nil]); first | done | rfl | (simp only [List.length_drop, List.length_take]; rfl)) ?_; (with_reducible refine (cippuslaw07_copies.calls 1 1 true t268 _ A1.out).mono ?_); rintro e w17 ⟨v269, rfl, ho0, hb⟩; refine ⟨_, rfl, ?_⟩; have n0_ := Aside0.mk (Kd.R_lower ho0 (below_size (by repeat (first | (with_reducible first | exact HB.out | apply below_alloc | apply pw_below_drewN | apply below_drew1) | exact HB.out)))); have n1_ := Aside0.mk (below_step (by repeat (first | (with_reducible first | exact HB.out | apply below_alloc | apply pw_below_drewN | apply below_drew1) | exact HB.out)) hb); clear HB; have HO270 := n0_; have HB := n1_; clear n0_ n1_; (try clear hb); (try clear hb2); (try clear hk); (try clear hi); (try clear ho0); obtain ⟨Ao18, co18, eo18⟩ := Kd.R_slice HO270.out; subst eo18) | ((with_reducible refine gate_callee (f := 30) rfl ?_); refine goesL_ (some 11) rfl rfl Try.func30 (by kernel_rfl) rfl #[.slice Ao18 t268.length co18] rfl (by (try simp only [List.map_toArray, List.map_cons, List.map_nil]); first | done | rfl | (simp only [List.length_drop, List.length_take]; rfl)) ?_; (with_reducible refine (stemma_Sources.calls k _ _ t268 t271 t274 _ ?side1 ?side2 A2.out).mono ?_); (case side1 => repeat (first | exact (Kd.R_reads' HO270.out).2.2 | (with_reducible refine Kd.C_alloc ?_ _) | (with_reducible refine Kd.C_drewN ?_ _) | (with_reducible refine Kd.C_drew ?_))); (case side2 => exact (Kd.R_reads' HO270.out).2.1); rintro e w19 ⟨v272, rfl, ho0, hb⟩; refine ⟨_, rfl, ?_⟩; have n0_ := Aside0.mk (Kd.R_below (by (with_reducible repeat (first | apply Kd.R_alloc | apply Kd.R_drewN | apply Kd.R_drew)); exact HO270.out) hb); have n1_ := Aside0.mk (Kd.N_lower (Kd.N_mono (ok' := fun k_ => some k_ ≠ (.slice Ao18 t268.length co18 : Value).ownBlock) ho0 (fun k_ hk_ => (Kd.fresh' (Kd.R_lt (by (with_reducible repeat (first | apply Kd.R_alloc | apply Kd.R_drewN | apply Kd.R_drew)); exact HO270.out)) k_ hk_))) (below_size (by repeat (first | (with_reducible first | exact HB.out | apply below_alloc | apply pw_below_drewN | apply below_drew1) | exact HB.out)))); have n2_ := Aside0.mk (below_step (by repeat (first | (with_reducible first | exact HB.out | apply below_alloc | apply pw_below_drewN | apply below_drew1) | exact HB.out)) hb); clear HO270; clear HB; have HO270 := n0_; have HO273 := n1_; have HB := n2_; clear n0_ n1_ n2_; (try clear hb); (try clear hb2); (try clear hk); (try clear hi); (try clear ho0)) | ((with_reducible refine gate_callee (f := 47) rfl ?_); refine goesL_ (some 15) rfl rfl Try.func47 (by kernel_rfl) rfl #[.int .i64 1, .int .i64 0, .bool true] rfl (by (try simp only [List.map_toArray, List.map_cons, List.map_nil]); first | done | rfl | (simp only [List.length_drop, List.length_take]; rfl)) ?_; (with_reducible refine (cippuslaw07_copies.calls 1 0 true t275 _ A3.out).mono ?_); rintro e w20 ⟨v276, rfl, ho0, hb⟩; refine ⟨_, rfl, ?_⟩; have n0_ := Aside0.mk (Kd.R_elder' (by (with_reducible repeat (first | apply Kd.R_alloc | apply Kd.R_drewN | apply Kd.R_drew)); exact HO270.out) (Kd.R_base ho0) hb); have n1_ := Aside0.mk (Kd.N_elder' (by (with_reducible repeat (first | apply Kd.N_alloc | apply Kd.N_drewN | apply Kd.N_drew)); exact HO273.out) (Kd.R_base ho0) hb); have n2_ := Aside0.mk (Kd.R_lower (Kd.R_new' ho0 (Kd.R_lt (by (with_reducible repeat (first | apply Kd.R_alloc | apply Kd.R_drewN | apply Kd.R_drew)); exact HO270.out))) (below_size (by repeat (first | (with_reducible first | exact HB.out | apply below_alloc | apply pw_below_drewN | apply below_drew1) | exact HB.out)))); have n3_ := Aside0.mk (below_step (by repeat (first | (with_reducible first | exact HB.out | apply below_alloc | apply pw_below_drewN | apply below_drew1) | exact HB.out)) hb); clear HO270; clear HO273; clear HB; have HO270 := n0_; have HO273 := n1_; have HO277 := n2_; have HB := n3_; clear n0_ n1_ n2_ n3_; (try clear hb); (try clear hb2); (try clear hk); (try clear hi); (try clear ho0); obtain ⟨Ao21, co21, eo21⟩ := Kd.R_slice HO277.out; subst eo21) | ((with_reducible refine gate_callee (f := 20) rfl ?_); refine goesL_ (some 16) rfl rfl Try.func20 (by kernel_rfl) rfl #[.slice Ao21 t275.length co21] rfl (by (try simp only [List.map_toArray, List.map_cons, List.map_nil]); first | done | rfl | (simp only [List.length_drop, List.length_take]; rfl)) ?_; (with_reducible refine (stemma_Print.calls k _ _ t275 t278 t279 _ ?side1 ?side2 A4.out).mono ?_); (case side1 => repeat (first | exact (Kd.R_reads' HO277.out).2.2 | (with_reducible refine Kd.C_alloc ?_ _) | (with_reducible refine Kd.C_drewN ?_ _) | (with_reducible refine Kd.C_drew ?_))); (case side2 => exact (Kd.R_reads' HO277.out).2.1); rintro e w22 ⟨rfl, hb⟩; refine ⟨_, rfl, ?_⟩; have n0_ := Aside0.mk (Kd.R_below (by (with_reducible repeat (first | apply Kd.R_alloc | apply Kd.R_drewN | apply Kd.R_drew)); exact HO270.out) hb); have n1_ := Aside0.mk (Kd.N_below (by (with_reducible repeat (first | apply Kd.N_alloc | apply Kd.N_drewN | apply Kd.N_drew)); exact HO273.out) hb); have n2_ := Aside0.mk (Kd.R_below (by (with_reducible repeat (first | apply Kd.R_alloc | apply Kd.R_drewN | apply Kd.R_drew)); exact HO277.out) hb); have n3_ := Aside0.mk (below_step (by repeat (first | (with_reducible first | exact HB.out | apply below_alloc | apply pw_below_drewN | apply below_drew1) | exact HB.out)) hb); clear HO270; clear HO273; clear HO277; clear HB; have HO270 := n0_; have HO273 := n1_; have HO277 := n2_; have HB := n3_; clear n0_ n1_ n2_ n3_; (try clear hb); (try clear hb2); (try clear hk); (try clear hi)) | ((with_reducible refine gate_callee (f := 47) rfl ?_); refine goesL_ (some 20) rfl rfl Try.func47 (by kernel_rfl) rfl #[.int .i64 0, .int .i64 1, .bool true] rfl (by (try simp only [List.map_toArray, List.map_cons, List.map_nil]); first | done | rfl | (simp only [List.length_drop, List.length_take]; rfl)) ?_; (with_reducible refine (cippuslaw07_copies.calls 0 1 true t280 _ A5.out).mono ?_); rintro e w23 ⟨v281, rfl, ho0, hb⟩; refine ⟨_, rfl, ?_⟩; have n0_ := Aside0.mk (Kd.R_elder' (by (with_reducible repeat (first | apply Kd.R_alloc | apply Kd.R_drewN | apply Kd.R_drew)); exact HO270.out) (Kd.R_base ho0) hb); have n1_ := Aside0.mk (Kd.N_elder' (by (with_reducible repeat (first | apply Kd.N_alloc | apply Kd.N_drewN | apply Kd.N_drew)); exact HO273.out) (Kd.R_base ho0) hb); have n2_ := Aside0.mk (Kd.R_elder' (by (with_reducible repeat (first | apply Kd.R_alloc | apply Kd.R_drewN | apply Kd.R_drew)); exact HO277.out) (Kd.R_base ho0) hb); have n3_ := Aside0.mk (Kd.R_lower (Kd.R_new' (Kd.R_new' ho0 (Kd.R_lt (by (with_reducible repeat (first | apply Kd.R_alloc | apply Kd.R_drewN | apply Kd.R_drew)); exact HO270.out))) (Kd.R_lt (by (with_reducible repeat (first | apply Kd.R_alloc | apply Kd.R_drewN | apply Kd.R_drew)); exact HO277.out))) (below_size (by repeat (first | (with_reducible first | exact HB.out | apply below_alloc | apply pw_below_drewN | apply below_drew1) | exact HB.out)))); have n4_ := Aside0.mk (below_step (by repeat (first | (with_reducible first | exact HB.out | apply below_alloc | apply pw_below_drewN | apply below_drew1) | exact HB.out)) hb); clear HO270; clear HO273; clear HO277; clear HB; have HO270 := n0_; have HO273 := n1_; have HO277 := n2_; have HO282 := n3_; have HB := n4_; clear n0_ n1_ n2_ n3_ n4_; (try clear hb); (try clear hb2); (try clear hk); (try clear hi); (try clear ho0); obtain ⟨Ao24, co24, eo24⟩ := Kd.R_slice HO282.out; subst eo24) | ((with_reducible refine gate_callee (f := 20) rfl ?_); refine goesL_ (some 21) rfl rfl Try.func20 (by kernel_rfl) rfl #[.slice Ao24 t280.length co24] rfl (by (try simp only [List.map_toArray, List.map_cons, List.map_nil]); first | done | rfl | (simp only [List.length_drop, List.length_take]; rfl)) ?_; (with_reducible refine (stemma_Print.calls k _ _ t280 t283 t284 _ ?side1 ?side2 A6.out).mono ?_); (case side1 => repeat (first | exact (Kd.R_reads' HO282.out).2.2 | (with_reducible refine Kd.C_alloc ?_ _) | (with_reducible refine Kd.C_drewN ?_ _) | (with_reducible refine Kd.C_drew ?_))); (case side2 => exact (Kd.R_reads' HO282.out).2.1); rintro e w25 ⟨rfl, hb⟩; refine ⟨_, rfl, ?_⟩; have n0_ := Aside0.mk (Kd.R_below (by (with_reducible repeat (first | apply Kd.R_alloc | apply Kd.R_drewN | apply Kd.R_drew)); exact HO270.out) hb); have n1_ := Aside0.mk (Kd.N_below (by (with_reducible repeat (first | apply Kd.N_alloc | apply Kd.N_drewN | apply Kd.N_drew)); exact HO273.out) hb); have n2_ := Aside0.mk (Kd.R_below (by (with_reducible repeat (first | apply Kd.R_alloc | apply Kd.R_drewN | apply Kd.R_drew)); exact HO277.out) hb); have n3_ := Aside0.mk (Kd.R_below (by (with_reducible repeat (first | apply Kd.R_alloc | apply Kd.R_drewN | apply Kd.R_drew)); exact HO282.out) hb); have n4_ := Aside0.mk (below_step (by repeat (first | (with_reducible first | exact HB.out | apply below_alloc | apply pw_below_drewN | apply below_drew1) | exact HB.out)) hb); clear HO270; clear HO273; clear HO277; clear HO282; clear HB; have HO270 := n0_; have HO273 := n1_; have HO277 := n2_; have HO282 := n3_; have HB := n4_; clear n0_ n1_ n2_ n3_ n4_; (try clear hb); (try clear hb2); (try clear hk); (try clear hi)) | ((with_reducible refine gate_callee (f := 47) rfl ?_); refine goesL_ (some 25) rfl rfl Try.func47 (by kernel_rfl) rfl #[.int .i64 1, .int .i64 0, .bool true] rfl (by (try simp only [List.map_toArray, List.map_cons, List.map_nil]); first | done | rfl | (simp only [List.length_drop, List.length_take]; rfl)) ?_; (with_reducible refine (cippuslaw07_copies.calls 1 0 true t285 _ A7.out).mono ?_); rintro e w26 ⟨v286, rfl, ho0, hb⟩; refine ⟨_, rfl, ?_⟩; have n0_ := Aside0.mk (Kd.R_elder' (by (with_reducible repeat (first | apply Kd.R_alloc | apply Kd.R_drewN | apply Kd.R_drew)); exact HO270.out) (Kd.R_base ho0) hb); have n1_ := Aside0.mk (Kd.N_elder' (by (with_reducible repeat (first | apply Kd.N_alloc | apply Kd.N_drewN | apply Kd.N_drew)); exact HO273.out) (Kd.R_base ho0) hb); have n2_ := Aside0.mk (Kd.R_elder' (by (with_reducible repeat (first | apply Kd.R_alloc | apply Kd.R_drewN | apply Kd.R_drew)); exact HO277.out) (Kd.R_base ho0) hb); have n3_ := Aside0.mk (Kd.R_elder' (by (with_reducible repeat (first | apply Kd.R_alloc | apply Kd.R_drewN | apply Kd.R_drew)); exact HO282.out) (Kd.R_base ho0) hb); have n4_ := Aside0.mk (Kd.R_lower (Kd.R_new' (Kd.R_new' (Kd.R_new' ho0 (Kd.R_lt (by (with_reducible repeat (first | apply Kd.R_alloc | apply Kd.R_drewN | apply Kd.R_drew)); exact HO270.out))) (Kd.R_lt (by (with_reducible repeat (first | apply Kd.R_alloc | apply Kd.R_drewN | apply Kd.R_drew)); exact HO277.out))) (Kd.R_lt (by (with_reducible repeat (first | apply Kd.R_alloc | apply Kd.R_drewN | apply Kd.R_drew)); exact HO282.out))) (below_size (by repeat (first | (with_reducible first | exact HB.out | apply below_alloc | apply pw_below_drewN | apply below_drew1) | exact HB.out)))); have n5_ := Aside0.mk (below_step (by repeat (first | (with_reducible first | exact HB.out | apply below_alloc | apply pw_below_drewN | apply below_drew1) | exact HB.out)) hb); clear HO270; clear HO273; clear HO277; clear HO282; clear HB; have HO270 := n0_; have HO273 := n1_; have HO277 := n2_; have HO282 := n3_; have HO287 := n4_; have HB := n5_; clear n0_ n1_ n2_ n3_ n4_ n5_; (try clear hb); (try clear hb2); (try clear hk); (try clear hi); (try clear ho0); obtain ⟨Ao27, co27, eo27⟩ := Kd.R_slice HO287.out; subst eo27) | ((with_reducible refine gate_callee (f := 24) rfl ?_); refine goesL_ (some 26) rfl rfl Try.func24 (by kernel_rfl) rfl #[.slice Ao27 t285.length co27] rfl (by (try simp only [List.map_toArray, List.map_cons, List.map_nil]); first | done | rfl | (simp only [List.length_drop, List.length_take]; rfl)) ?_; (with_reducible refine (stemma_Fewest.calls k _ _ t285 t288 t289 _ ?side1 ?side2 A8.out).mono ?_); (case side1 => repeat (first | exact (Kd.R_reads' HO287.out).2.2 | (with_reducible refine Kd.C_alloc ?_ _) | (with_reducible refine Kd.C_drewN ?_ _) | (with_reducible refine Kd.C_drew ?_))); (case side2 => exact (Kd.R_reads' HO287.out).2.1); rintro e w28 ⟨rfl, hb⟩; refine ⟨_, rfl, ?_⟩; have n0_ := Aside0.mk (Kd.R_below (by (with_reducible repeat (first | apply Kd.R_alloc | apply Kd.R_drewN | apply Kd.R_drew)); exact HO270.out) hb); have n1_ := Aside0.mk (Kd.N_below (by (with_reducible repeat (first | apply Kd.N_alloc | apply Kd.N_drewN | apply Kd.N_drew)); exact HO273.out) hb); have n2_ := Aside0.mk (Kd.R_below (by (with_reducible repeat (first | apply Kd.R_alloc | apply Kd.R_drewN | apply Kd.R_drew)); exact HO277.out) hb); have n3_ := Aside0.mk (Kd.R_below (by (with_reducible repeat (first | apply Kd.R_alloc | apply Kd.R_drewN | apply Kd.R_drew)); exact HO282.out) hb); have n4_ := Aside0.mk (Kd.R_below (by (with_reducible repeat (first | apply Kd.R_alloc | apply Kd.R_drewN | apply Kd.R_drew)); exact HO287.out) hb); have n5_ := Aside0.mk (below_step (by repeat (first | (with_reducible first | exact HB.out | apply below_alloc | apply pw_below_drewN | apply below_drew1) | exact HB.out)) hb); clear HO270; clear HO273; clear HO277; clear HO282; clear HO287; clear HB; have HO270 := n0_; have HO273 := n1_; have HO277 := n2_; have HO282 := n3_; have HO287 := n4_; have HB := n5_; clear n0_ n1_ n2_ n3_ n4_ n5_; (try clear hb); (try clear hb2); (try clear hk); (try clear hi)) | ((with_reducible refine gate_dst (N := 57) rfl ?_); (try (refine gate_guard (by rfl) ?_; dsimp only)); refine Kd.R_lit (Kd.int .i64) _ 3 ?hg (N := 57) ?hd (xs := ([1] : List Int)) (inner := [.int .i64 1]) (ok := fun _ => True) (okp := fun _ => True) ?hr ?hp (fun _ hk => hk) trivial (Below.refl _ _) (Nat.le_refl _) (by simp) ?_; (case hd => rfl); (case hg => rfl); (case hr => first | (go_simp; done) | (go_simp; rfl)); (case hp => exact (Reps.one (show Kd.M (Kd.int .i64) _ _ _ 1 [.int .i64 1] from rfl) (Reps.none _ _))); intro v291 w29 ho30 hb hg_ hnew_; clear hg_ hnew_; (first | rw [← Ny290.out] at ho30 | (simp only [Int.reduceToNat] at ho30; rw [← Ny290.out] at ho30)); have n0_ := Aside0.mk (Kd.R_below (by (with_reducible repeat (first | apply Kd.R_alloc | apply Kd.R_drewN | apply Kd.R_drew)); exact HO270.out) hb); have n1_ := Aside0.mk (Kd.N_elder' (by (with_reducible repeat (first | apply Kd.N_alloc | apply Kd.N_drewN | apply Kd.N_drew)); exact HO273.out) (Kd.R_base ho30) hb); have n2_ := Aside0.mk (Kd.R_below (by (with_reducible repeat (first | apply Kd.R_alloc | apply Kd.R_drewN | apply Kd.R_drew)); exact HO277.out) hb); have n3_ := Aside0.mk (Kd.R_below (by (with_reducible repeat (first | apply Kd.R_alloc | apply Kd.R_drewN | apply Kd.R_drew)); exact HO282.out) hb); have n4_ := Aside0.mk (Kd.R_below (by (with_reducible repeat (first | apply Kd.R_alloc | apply Kd.R_drewN | apply Kd.R_drew)); exact HO287.out) hb); have n5_ := Aside0.mk (Kd.R_lower ho30 (below_size (by repeat (first | (with_reducible first | exact HB.out | apply below_alloc | apply pw_below_drewN | apply below_drew1) | exact HB.out)))); have n6_ := Aside0.mk (below_step (by repeat (first | (with_reducible first | exact HB.out | apply below_alloc | apply pw_below_drewN | apply below_drew1) | exact HB.out)) hb); clear HO270; clear HO273; clear HO277; clear HO282; clear HO287; clear HB; have HO270 := n0_; have HO273 := n1_; have HO277 := n2_; have HO282 := n3_; have HO287 := n4_; have HO292 := n5_; have HB := n6_; clear n0_ n1_ n2_ n3_ n4_ n5_ n6_; clear hb ho30) | ((with_reducible refine gate_dst (N := 58) rfl ?_); (try (refine gate_guard (by rfl) ?_; dsimp only)); refine Kd.R_lit (Kd.int .i64) _ 3 ?hg (N := 58) ?hd (xs := ([3, 3] : List Int)) (inner := [.int .i64 3, .int .i64 3]) (ok := fun _ => True) (okp := fun _ => True) ?hr ?hp (fun _ hk => hk) trivial (Below.refl _ _) (Nat.le_refl _) (by simp) ?_; (case hd => rfl); (case hg => rfl); (case hr => first | (go_simp; done) | (go_simp; rfl)); (case hp => exact (Reps.one (show Kd.M (Kd.int .i64) _ _ _ 3 [.int .i64 3] from rfl) (Reps.one (show Kd.M (Kd.int .i64) _ _ _ 3 [.int .i64 3] from rfl) (Reps.none _ _)))); intro v294 w31 ho32 hb hg_ hnew_; clear hg_ hnew_; (first | rw [← Ny293.out] at ho32 | (simp only [Int.reduceToNat] at ho32; rw [← Ny293.out] at ho32)); have n0_ := Aside0.mk (Kd.R_below (by (with_reducible repeat (first | apply Kd.R_alloc | apply Kd.R_drewN | apply Kd.R_drew)); exact HO270.out) hb); have n1_ := Aside0.mk (Kd.N_elder' (by (with_reducible repeat (first | apply Kd.N_alloc | apply Kd.N_drewN | apply Kd.N_drew)); exact HO273.out) (Kd.R_base ho32) hb); have n2_ := Aside0.mk (Kd.R_below (by (with_reducible repeat (first | apply Kd.R_alloc | apply Kd.R_drewN | apply Kd.R_drew)); exact HO277.out) hb); have n3_ := Aside0.mk (Kd.R_below (by (with_reducible repeat (first | apply Kd.R_alloc | apply Kd.R_drewN | apply Kd.R_drew)); exact HO282.out) hb); have n4_ := Aside0.mk (Kd.R_below (by (with_reducible repeat (first | apply Kd.R_alloc | apply Kd.R_drewN | apply Kd.R_drew)); exact HO287.out) hb); have n5_ := Aside0.mk (Kd.R_elder' (by (with_reducible repeat (first | apply Kd.R_alloc | apply Kd.R_drewN | apply Kd.R_drew)); exact HO292.out) (Kd.R_base ho32) hb); have n6_ := Aside0.mk (Kd.R_lower (Kd.R_new' ho32 (Kd.R_lt (by (with_reducible repeat (first | apply Kd.R_alloc | apply Kd.R_drewN | apply Kd.R_drew)); exact HO292.out))) (below_size (by repeat (first | (with_reducible first | exact HB.out | apply below_alloc | apply pw_below_drewN | apply below_drew1) | exact HB.out)))); have n7_ := Aside0.mk (below_step (by repeat (first | (with_reducible first | exact HB.out | apply below_alloc | apply pw_below_drewN | apply below_drew1) | exact HB.out)) hb); clear HO270; clear HO273; clear HO277; clear HO282; clear HO287; clear HO292; clear HB; have HO270 := n0_; have HO273 := n1_; have HO277 := n2_; have HO282 := n3_; have HO287 := n4_; have HO292 := n5_; have HO295 := n6_; have HB := n7_; clear n0_ n1_ n2_ n3_ n4_ n5_ n6_ n7_; clear hb ho32) | ((with_reducible refine gate_dst (N := 59) rfl ?_); (try (refine gate_guard (by rfl) ?_; dsimp only)); refine Kd.R_lit (Kd.int .i64) _ 3 ?hg (N := 59) ?hd (xs := ([2, 2, 1] : List Int)) (inner := [.int .i64 2, .int .i64 2, .int .i64 1]) (ok := fun _ => True) (okp := fun _ => True) ?hr ?hp (fun _ hk => hk) trivial (Below.refl _ _) (Nat.le_refl _) (by simp) ?_; (case hd => rfl); (case hg => rfl); (case hr => first | (go_simp; done) | (go_simp; rfl)); (case hp => exact (Reps.one (show Kd.M (Kd.int .i64) _ _ _ 2 [.int .i64 2] from rfl) (Reps.one (show Kd.M (Kd.int .i64) _ _ _ 2 [.int .i64 2] from rfl) (Reps.one (show Kd.M (Kd.int .i64) _ _ _ 1 [.int .i64 1] from rfl) (Reps.none _ _))))); intro v297 w33 ho34 hb hg_ hnew_; clear hg_ hnew_; (first | rw [← Ny296.out] at ho34 | (simp only [Int.reduceToNat] at ho34; rw [← Ny296.out] at ho34)); have n0_ := Aside0.mk (Kd.R_below (by (with_reducible repeat (first | apply Kd.R_alloc | apply Kd.R_drewN | apply Kd.R_drew)); exact HO270.out) hb); have n1_ := Aside0.mk (Kd.N_elder' (by (with_reducible repeat (first | apply Kd.N_alloc | apply Kd.N_drewN | apply Kd.N_drew)); exact HO273.out) (Kd.R_base ho34) hb); have n2_ := Aside0.mk (Kd.R_below (by (with_reducible repeat (first | apply Kd.R_alloc | apply Kd.R_drewN | apply Kd.R_drew)); exact HO277.out) hb); have n3_ := Aside0.mk (Kd.R_below (by (with_reducible repeat (first | apply Kd.R_alloc | apply Kd.R_drewN | apply Kd.R_drew)); exact HO282.out) hb); have n4_ := Aside0.mk (Kd.R_below (by (with_reducible repeat (first | apply Kd.R_alloc | apply Kd.R_drewN | apply Kd.R_drew)); exact HO287.out) hb); have n5_ := Aside0.mk (Kd.R_elder' (by (with_reducible repeat (first | apply Kd.R_alloc | apply Kd.R_drewN | apply Kd.R_drew)); exact HO292.out) (Kd.R_base ho34) hb); have n6_ := Aside0.mk (Kd.R_elder' (by (with_reducible repeat (first | apply Kd.R_alloc | apply Kd.R_drewN | apply Kd.R_drew)); exact HO295.out) (Kd.R_base ho34) hb); have n7_ := Aside0.mk (Kd.R_lower (Kd.R_new' (Kd.R_new' ho34 (Kd.R_lt (by (with_reducible repeat (first | apply Kd.R_alloc | apply Kd.R_drewN | apply Kd.R_drew)); exact HO292.out))) (Kd.R_lt (by (with_reducible repeat (first | apply Kd.R_alloc | apply Kd.R_drewN | apply Kd.R_drew)); exact HO295.out))) (below_size (by repeat (first | (with_reducible first | exact HB.out | apply below_alloc | apply pw_below_drewN | apply below_drew1) | exact HB.out)))); have n8_ := Aside0.mk (below_step (by repeat (first | (with_reducible first | exact HB.out | apply below_alloc | apply pw_below_drewN | apply below_drew1) | exact HB.out)) hb); clear HO270; clear HO273; clear HO277; clear HO282; clear HO287; clear HO292; clear HO295; clear HB; have HO270 := n0_; have HO273 := n1_; have HO277 := n2_; have HO282 := n3_; have HO287 := n4_; have HO292 := n5_; have HO295 := n6_; have HO298 := n7_; have HB := n8_; clear n0_ n1_ n2_ n3_ n4_ n5_ n6_ n7_ n8_; clear hb ho34; obtain ⟨Ao35, co35, eo35⟩ := Kd.R_slice HO292.out; subst eo35; obtain ⟨Ao36, co36, eo36⟩ := Kd.R_slice HO295.out; subst eo36; obtain ⟨Ao37, co37, eo37⟩ := Kd.R_slice HO298.out; subst eo37) | ((with_reducible refine gate_dst (N := 60) rfl ?_); (try (refine gate_guard (by rfl) ?_; dsimp only)); refine Kd.N_lit (Kd.slice 3 (Kd.int .i64)) _ 25 ?hg (N' := 60) ?hd (xs := ([y290, y293, y296] : List (List Int))) (inner := [.slice Ao35 y290.length co35, .slice Ao36 y293.length co36, .slice Ao37 y296.length co37]) (ok := (fun k_ => some k_ ≠ (.slice Ao18 t268.length co18 : Value).ownBlock ∧ some k_ ≠ (v272 : Value).ownBlock ∧ some k_ ≠ (.slice Ao21 t275.length co21 : Value).ownBlock ∧ some k_ ≠ (.slice Ao24 t280.length co24 : Value).ownBlock ∧ some k_ ≠ (.slice Ao27 t285.length co27 : Value).ownBlock)) (okp := (fun k_ => some k_ ≠ (.slice Ao18 t268.length co18 : Value).ownBlock ∧ some k_ ≠ (v272 : Value).ownBlock ∧ some k_ ≠ (.slice Ao21 t275.length co21 : Value).ownBlock ∧ some k_ ≠ (.slice Ao24 t280.length co24 : Value).ownBlock ∧ some k_ ≠ (.slice Ao27 t285.length co27 : Value).ownBlock)) ?hr ?hp (fun _ hk => hk) ((show ∀ k_, w33.heap.size ≤ k_ → (fun k_ => some k_ ≠ (.slice Ao18 t268.length co18 : Value).ownBlock ∧ some k_ ≠ (v272 : Value).ownBlock ∧ some k_ ≠ (.slice Ao21 t275.length co21 : Value).ownBlock ∧ some k_ ≠ (.slice Ao24 t280.length co24 : Value).ownBlock ∧ some k_ ≠ (.slice Ao27 t285.length co27 : Value).ownBlock) k_ from fun k_ hk => ⟨Kd.fresh' (Kd.R_lt (by (with_reducible repeat (first | apply Kd.R_alloc | apply Kd.R_drewN | apply Kd.R_drew)); exact HO270.out)) k_ hk, Kd.fresh' (Kd.N_lt (by (with_reducible repeat (first | apply Kd.N_alloc | apply Kd.N_drewN | apply Kd.N_drew)); exact HO273.out)) k_ hk, Kd.fresh' (Kd.R_lt (by (with_reducible repeat (first | apply Kd.R_alloc | apply Kd.R_drewN | apply Kd.R_drew)); exact HO277.out)) k_ hk, Kd.fresh' (Kd.R_lt (by (with_reducible repeat (first | apply Kd.R_alloc | apply Kd.R_drewN | apply Kd.R_drew)); exact HO282.out)) k_ hk, Kd.fresh' (Kd.R_lt (by (with_reducible repeat (first | apply Kd.R_alloc | apply Kd.R_drewN | apply Kd.R_drew)); exact HO287.out)) k_ hk⟩) _ (Nat.le_refl _)) (Below.refl _ _) (Nat.le_refl _) (by simp) ?_; (case hd => rfl); (case hg => rfl); (case hr => first | (go_simp; done) | (go_simp; rfl)); (case hp => exact (Reps.one (show Kd.FK (Kd.slice 3 (Kd.int .i64)) _ _ y290 [.slice Ao35 y290.length co35] from (Kd.FK_slice_mk (Kd.R_reads' (Kd.R_mono (ok' := (fun k_ => some k_ ≠ (.slice Ao18 t268.length co18 : Value).ownBlock ∧ some k_ ≠ (v272 : Value).ownBlock ∧ some k_ ≠ (.slice Ao21 t275.length co21 : Value).ownBlock ∧ some k_ ≠ (.slice Ao24 t280.length co24 : Value).ownBlock ∧ some k_ ≠ (.slice Ao27 t285.length co27 : Value).ownBlock)) (Kd.R_apart' (Kd.R_apart' (Kd.R_apart' (Kd.R_apart' (Kd.R_apart' (HO292.out) (Kd.R_typed HO270.out) (by decide)) (Kd.N_typed HO273.out) (by decide)) (Kd.R_typed HO277.out) (by decide)) (Kd.R_typed HO282.out) (by decide)) (Kd.R_typed HO287.out) (by decide)) (fun k_ hk => ⟨hk.1.1.1.1.2, ⟨hk.1.1.1.2, ⟨hk.1.1.2, ⟨hk.1.2, hk.2⟩⟩⟩⟩))).2.1 (Kd.R_F (Kd.R_mono (ok' := (fun k_ => some k_ ≠ (.slice Ao18 t268.length co18 : Value).ownBlock ∧ some k_ ≠ (v272 : Value).ownBlock ∧ some k_ ≠ (.slice Ao21 t275.length co21 : Value).ownBlock ∧ some k_ ≠ (.slice Ao24 t280.length co24 : Value).ownBlock ∧ some k_ ≠ (.slice Ao27 t285.length co27 : Value).ownBlock)) (Kd.R_apart' (Kd.R_apart' (Kd.R_apart' (Kd.R_apart' (Kd.R_apart' (HO292.out) (Kd.R_typed HO270.out) (by decide)) (Kd.N_typed HO273.out) (by decide)) (Kd.R_typed HO277.out) (by decide)) (Kd.R_typed HO282.out) (by decide)) (Kd.R_typed HO287.out) (by decide)) (fun k_ hk => ⟨hk.1.1.1.1.2, ⟨hk.1.1.1.2, ⟨hk.1.1.2, ⟨hk.1.2, hk.2⟩⟩⟩⟩))))) (Reps.one (show Kd.FK (Kd.slice 3 (Kd.int .i64)) _ _ y293 [.slice Ao36 y293.length co36] from (Kd.FK_slice_mk (Kd.R_reads' (Kd.R_mono (ok' := (fun k_ => some k_ ≠ (.slice Ao18 t268.length co18 : Value).ownBlock ∧ some k_ ≠ (v272 : Value).ownBlock ∧ some k_ ≠ (.slice Ao21 t275.length co21 : Value).ownBlock ∧ some k_ ≠ (.slice Ao24 t280.length co24 : Value).ownBlock ∧ some k_ ≠ (.slice Ao27 t285.length co27 : Value).ownBlock)) (Kd.R_apart' (Kd.R_apart' (Kd.R_apart' (Kd.R_apart' (Kd.R_apart' (HO295.out) (Kd.R_typed HO270.out) (by decide)) (Kd.N_typed HO273.out) (by decide)) (Kd.R_typed HO277.out) (by decide)) (Kd.R_typed HO282.out) (by decide)) (Kd.R_typed HO287.out) (by decide)) (fun k_ hk => ⟨hk.1.1.1.1.2, ⟨hk.1.1.1.2, ⟨hk.1.1.2, ⟨hk.1.2, hk.2⟩⟩⟩⟩))).2.1 (Kd.R_F (Kd.R_mono (ok' := (fun k_ => some k_ ≠ (.slice Ao18 t268.length co18 : Value).ownBlock ∧ some k_ ≠ (v272 : Value).ownBlock ∧ some k_ ≠ (.slice Ao21 t275.length co21 : Value).ownBlock ∧ some k_ ≠ (.slice Ao24 t280.length co24 : Value).ownBlock ∧ some k_ ≠ (.slice Ao27 t285.length co27 : Value).ownBlock)) (Kd.R_apart' (Kd.R_apart' (Kd.R_apart' (Kd.R_apart' (Kd.R_apart' (HO295.out) (Kd.R_typed HO270.out) (by decide)) (Kd.N_typed HO273.out) (by decide)) (Kd.R_typed HO277.out) (by decide)) (Kd.R_typed HO282.out) (by decide)) (Kd.R_typed HO287.out) (by decide)) (fun k_ hk => ⟨hk.1.1.1.1.2, ⟨hk.1.1.1.2, ⟨hk.1.1.2, ⟨hk.1.2, hk.2⟩⟩⟩⟩))))) (Reps.one (show Kd.FK (Kd.slice 3 (Kd.int .i64)) _ _ y296 [.slice Ao37 y296.length co37] from (Kd.FK_slice_mk (Kd.R_reads' (Kd.R_mono (ok' := (fun k_ => some k_ ≠ (.slice Ao18 t268.length co18 : Value).ownBlock ∧ some k_ ≠ (v272 : Value).ownBlock ∧ some k_ ≠ (.slice Ao21 t275.length co21 : Value).ownBlock ∧ some k_ ≠ (.slice Ao24 t280.length co24 : Value).ownBlock ∧ some k_ ≠ (.slice Ao27 t285.length co27 : Value).ownBlock)) (Kd.R_apart' (Kd.R_apart' (Kd.R_apart' (Kd.R_apart' (Kd.R_apart' (HO298.out) (Kd.R_typed HO270.out) (by decide)) (Kd.N_typed HO273.out) (by decide)) (Kd.R_typed HO277.out) (by decide)) (Kd.R_typed HO282.out) (by decide)) (Kd.R_typed HO287.out) (by decide)) (fun k_ hk => ⟨hk.1.1.1.1.2, ⟨hk.1.1.1.2, ⟨hk.1.1.2, ⟨hk.1.2, hk.2⟩⟩⟩⟩))).2.1 (Kd.R_F (Kd.R_mono (ok' := (fun k_ => some k_ ≠ (.slice Ao18 t268.length co18 : Value).ownBlock ∧ some k_ ≠ (v272 : Value).ownBlock ∧ some k_ ≠ (.slice Ao21 t275.length co21 : Value).ownBlock ∧ some k_ ≠ (.slice Ao24 t280.length co24 : Value).ownBlock ∧ some k_ ≠ (.slice Ao27 t285.length co27 : Value).ownBlock)) (Kd.R_apart' (Kd.R_apart' (Kd.R_apart' (Kd.R_apart' (Kd.R_apart' (HO298.out) (Kd.R_typed HO270.out) (by decide)) (Kd.N_typed HO273.out) (by decide)) (Kd.R_typed HO277.out) (by decide)) (Kd.R_typed HO282.out) (by decide)) (Kd.R_typed HO287.out) (by decide)) (fun k_ hk => ⟨hk.1.1.1.1.2, ⟨hk.1.1.1.2, ⟨hk.1.1.2, ⟨hk.1.2, hk.2⟩⟩⟩⟩))))) (Reps.none _ _))))); intro v300 w38 ho39 hb hg_ hnew_; clear hg_ hnew_; (first | rw [← Ny299.out] at ho39 | (simp only [Int.reduceToNat] at ho39; rw [← Ny299.out] at ho39)); have n0_ := Aside0.mk (Kd.R_below (by (with_reducible repeat (first | apply Kd.R_alloc | apply Kd.R_drewN | apply Kd.R_drew)); exact HO270.out) hb); have n1_ := Aside0.mk (Kd.N_elder' (by (with_reducible repeat (first | apply Kd.N_alloc | apply Kd.N_drewN | apply Kd.N_drew)); exact HO273.out) (Kd.N_base ho39) hb); have n2_ := Aside0.mk (Kd.R_below (by (with_reducible repeat (first | apply Kd.R_alloc | apply Kd.R_drewN | apply Kd.R_drew)); exact HO277.out) hb); have n3_ := Aside0.mk (Kd.R_below (by (with_reducible repeat (first | apply Kd.R_alloc | apply Kd.R_drewN | apply Kd.R_drew)); exact HO282.out) hb); have n4_ := Aside0.mk (Kd.R_below (by (with_reducible repeat (first | apply Kd.R_alloc | apply Kd.R_drewN | apply Kd.R_drew)); exact HO287.out) hb); have n5_ := Aside0.mk (Kd.N_lower ho39 (below_size (by repeat (first | (with_reducible first | exact HB.out | apply below_alloc | apply pw_below_drewN | apply below_drew1) | exact HB.out)))); have n6_ := Aside0.mk (below_step (by repeat (first | (with_reducible first | exact HB.out | apply below_alloc | apply pw_below_drewN | apply below_drew1) | exact HB.out)) hb); clear HO270; clear HO273; clear HO277; clear HO282; clear HO287; clear HB; clear HO292; clear HO295; clear HO298; have HO270 := n0_; have HO273 := n1_; have HO277 := n2_; have HO282 := n3_; have HO287 := n4_; have HO301 := n5_; have HB := n6_; clear n0_ n1_ n2_ n3_ n4_ n5_ n6_; clear hb ho39; obtain ⟨Ao40, co40, eo40⟩ := Kd.N_slice HO273.out; subst eo40; obtain ⟨Ao41, co41, eo41⟩ := Kd.N_slice HO301.out; subst eo41) | (go_at_call 35; (with_reducible refine (cippuskit_SameGrids.calls k _ _ t271 _ _ y299 t302 _ ?side1 ?side2 ?side3 ?side4 A16.out).mono ?_); (case side1 => repeat (first | exact (Kd.N_reads' HO273.out).2.2 | (with_reducible refine Kd.C_alloc ?_ _) | (with_reducible refine Kd.C_drewN ?_ _) | (with_reducible refine Kd.C_drew ?_))); (case side2 => exact (Kd.N_reads' HO273.out).2.1); (case side3 => repeat (first | exact (Kd.N_reads' HO301.out).2.2 | (with_reducible refine Kd.C_alloc ?_ _) | (with_reducible refine Kd.C_drewN ?_ _) | (with_reducible refine Kd.C_drew ?_))); (case side4 => exact (Kd.N_reads' HO301.out).2.1); rintro e w' ⟨rfl, ⟨nd, rfl⟩⟩))
                go_ret
                exact ⟨by first | rfl | (simp [errW_none, errW_some] <;> rfl) | (simp [*, errW_none, errW_some] <;> rfl), by repeat (first | (with_reducible first | exact HB.out | apply below_alloc | apply pw_below_drewN | apply below_drew1) | exact HB.out)⟩
              · rw [if_neg c15] at H
                have c15b0 : (t288 == 2) = false := beq_eq_false_iff_ne.mpr c15
                have c15b1 : (t288 != 2) = true := bne_iff_ne.mpr c15
                obtain rfl := Option.some.inj H
                go_enter Try.func17, Try.ntmps17
                go_wp2_with (first | ((with_reducible refine gate_callee (f := 47) rfl ?_); refine goesL_ (some 10) rfl rfl Try.func47 (by kernel_rfl) rfl #[.int .i64 1, .int .i64 1, .bool true] rfl (by (try simp only [List.map_toArray, List.map_cons, List.map_nil]); first | done | rfl | (simp only [List.length_drop, List.length_take]; rfl)) ?_; (with_reducible refine (cippuslaw07_copies.calls 1 1 true t268 _ A1.out).mono ?_); rintro e w42 ⟨v269, rfl, ho0, hb⟩; refine ⟨_, rfl, ?_⟩; have n0_ := Aside0.mk (Kd.R_lower ho0 (below_size (by repeat (first | (with_reducible first | exact HB.out | apply below_alloc | apply pw_below_drewN | apply below_drew1) | exact HB.out)))); have n1_ := Aside0.mk (below_step (by repeat (first | (with_reducible first | exact HB.out | apply below_alloc | apply pw_below_drewN | apply below_drew1) | exact HB.out)) hb); clear HB; have HO270 := n0_; have HB := n1_; clear n0_ n1_; (try clear hb); (try clear hb2); (try clear hk); (try clear hi); (try clear ho0); obtain ⟨Ao43, co43, eo43⟩ := Kd.R_slice HO270.out; subst eo43) | ((with_reducible refine gate_callee (f := 30) rfl ?_); refine goesL_ (some 11) rfl rfl Try.func30 (by kernel_rfl) rfl #[.slice Ao43 t268.length co43] rfl (by (try simp only [List.map_toArray, List.map_cons, List.map_nil]); first | done | rfl | (simp only [List.length_drop, List.length_take]; rfl)) ?_; (with_reducible refine (stemma_Sources.calls k _ _ t268 t271 t274 _ ?side1 ?side2 A2.out).mono ?_); (case side1 => repeat (first | exact (Kd.R_reads' HO270.out).2.2 | (with_reducible refine Kd.C_alloc ?_ _) | (with_reducible refine Kd.C_drewN ?_ _) | (with_reducible refine Kd.C_drew ?_))); (case side2 => exact (Kd.R_reads' HO270.out).2.1); rintro e w44 ⟨v272, rfl, ho0, hb⟩; refine ⟨_, rfl, ?_⟩; have n0_ := Aside0.mk (Kd.R_below (by (with_reducible repeat (first | apply Kd.R_alloc | apply Kd.R_drewN | apply Kd.R_drew)); exact HO270.out) hb); have n1_ := Aside0.mk (Kd.N_lower (Kd.N_mono (ok' := fun k_ => some k_ ≠ (.slice Ao43 t268.length co43 : Value).ownBlock) ho0 (fun k_ hk_ => (Kd.fresh' (Kd.R_lt (by (with_reducible repeat (first | apply Kd.R_alloc | apply Kd.R_drewN | apply Kd.R_drew)); exact HO270.out)) k_ hk_))) (below_size (by repeat (first | (with_reducible first | exact HB.out | apply below_alloc | apply pw_below_drewN | apply below_drew1) | exact HB.out)))); have n2_ := Aside0.mk (below_step (by repeat (first | (with_reducible first | exact HB.out | apply below_alloc | apply pw_below_drewN | apply below_drew1) | exact HB.out)) hb); clear HO270; clear HB; have HO270 := n0_; have HO273 := n1_; have HB := n2_; clear n0_ n1_ n2_; (try clear hb); (try clear hb2); (try clear hk); (try clear hi); (try clear ho0)) | ((with_reducible refine gate_callee (f := 47) rfl ?_); refine goesL_ (some 15) rfl rfl Try.func47 (by kernel_rfl) rfl #[.int .i64 1, .int .i64 0, .bool true] rfl (by (try simp only [List.map_toArray, List.map_cons, List.map_nil]); first | done | rfl | (simp only [List.length_drop, List.length_take]; rfl)) ?_; (with_reducible refine (cippuslaw07_copies.calls 1 0 true t275 _ A3.out).mono ?_); rintro e w45 ⟨v276, rfl, ho0, hb⟩; refine ⟨_, rfl, ?_⟩; have n0_ := Aside0.mk (Kd.R_elder' (by (with_reducible repeat (first | apply Kd.R_alloc | apply Kd.R_drewN | apply Kd.R_drew)); exact HO270.out) (Kd.R_base ho0) hb); have n1_ := Aside0.mk (Kd.N_elder' (by (with_reducible repeat (first | apply Kd.N_alloc | apply Kd.N_drewN | apply Kd.N_drew)); exact HO273.out) (Kd.R_base ho0) hb); have n2_ := Aside0.mk (Kd.R_lower (Kd.R_new' ho0 (Kd.R_lt (by (with_reducible repeat (first | apply Kd.R_alloc | apply Kd.R_drewN | apply Kd.R_drew)); exact HO270.out))) (below_size (by repeat (first | (with_reducible first | exact HB.out | apply below_alloc | apply pw_below_drewN | apply below_drew1) | exact HB.out)))); have n3_ := Aside0.mk (below_step (by repeat (first | (with_reducible first | exact HB.out | apply below_alloc | apply pw_below_drewN | apply below_drew1) | exact HB.out)) hb); clear HO270; clear HO273; clear HB; have HO270 := n0_; have HO273 := n1_; have HO277 := n2_; have HB := n3_; clear n0_ n1_ n2_ n3_; (try clear hb); (try clear hb2); (try clear hk); (try clear hi); (try clear ho0); obtain ⟨Ao46, co46, eo46⟩ := Kd.R_slice HO277.out; subst eo46) | ((with_reducible refine gate_callee (f := 20) rfl ?_); refine goesL_ (some 16) rfl rfl Try.func20 (by kernel_rfl) rfl #[.slice Ao46 t275.length co46] rfl (by (try simp only [List.map_toArray, List.map_cons, List.map_nil]); first | done | rfl | (simp only [List.length_drop, List.length_take]; rfl)) ?_; (with_reducible refine (stemma_Print.calls k _ _ t275 t278 t279 _ ?side1 ?side2 A4.out).mono ?_); (case side1 => repeat (first | exact (Kd.R_reads' HO277.out).2.2 | (with_reducible refine Kd.C_alloc ?_ _) | (with_reducible refine Kd.C_drewN ?_ _) | (with_reducible refine Kd.C_drew ?_))); (case side2 => exact (Kd.R_reads' HO277.out).2.1); rintro e w47 ⟨rfl, hb⟩; refine ⟨_, rfl, ?_⟩; have n0_ := Aside0.mk (Kd.R_below (by (with_reducible repeat (first | apply Kd.R_alloc | apply Kd.R_drewN | apply Kd.R_drew)); exact HO270.out) hb); have n1_ := Aside0.mk (Kd.N_below (by (with_reducible repeat (first | apply Kd.N_alloc | apply Kd.N_drewN | apply Kd.N_drew)); exact HO273.out) hb); have n2_ := Aside0.mk (Kd.R_below (by (with_reducible repeat (first | apply Kd.R_alloc | apply Kd.R_drewN | apply Kd.R_drew)); exact HO277.out) hb); have n3_ := Aside0.mk (below_step (by repeat (first | (with_reducible first | exact HB.out | apply below_alloc | apply pw_below_drewN | apply below_drew1) | exact HB.out)) hb); clear HO270; clear HO273; clear HO277; clear HB; have HO270 := n0_; have HO273 := n1_; have HO277 := n2_; have HB := n3_; clear n0_ n1_ n2_ n3_; (try clear hb); (try clear hb2); (try clear hk); (try clear hi)) | ((with_reducible refine gate_callee (f := 47) rfl ?_); refine goesL_ (some 20) rfl rfl Try.func47 (by kernel_rfl) rfl #[.int .i64 0, .int .i64 1, .bool true] rfl (by (try simp only [List.map_toArray, List.map_cons, List.map_nil]); first | done | rfl | (simp only [List.length_drop, List.length_take]; rfl)) ?_; (with_reducible refine (cippuslaw07_copies.calls 0 1 true t280 _ A5.out).mono ?_); rintro e w48 ⟨v281, rfl, ho0, hb⟩; refine ⟨_, rfl, ?_⟩; have n0_ := Aside0.mk (Kd.R_elder' (by (with_reducible repeat (first | apply Kd.R_alloc | apply Kd.R_drewN | apply Kd.R_drew)); exact HO270.out) (Kd.R_base ho0) hb); have n1_ := Aside0.mk (Kd.N_elder' (by (with_reducible repeat (first | apply Kd.N_alloc | apply Kd.N_drewN | apply Kd.N_drew)); exact HO273.out) (Kd.R_base ho0) hb); have n2_ := Aside0.mk (Kd.R_elder' (by (with_reducible repeat (first | apply Kd.R_alloc | apply Kd.R_drewN | apply Kd.R_drew)); exact HO277.out) (Kd.R_base ho0) hb); have n3_ := Aside0.mk (Kd.R_lower (Kd.R_new' (Kd.R_new' ho0 (Kd.R_lt (by (with_reducible repeat (first | apply Kd.R_alloc | apply Kd.R_drewN | apply Kd.R_drew)); exact HO270.out))) (Kd.R_lt (by (with_reducible repeat (first | apply Kd.R_alloc | apply Kd.R_drewN | apply Kd.R_drew)); exact HO277.out))) (below_size (by repeat (first | (with_reducible first | exact HB.out | apply below_alloc | apply pw_below_drewN | apply below_drew1) | exact HB.out)))); have n4_ := Aside0.mk (below_step (by repeat (first | (with_reducible first | exact HB.out | apply below_alloc | apply pw_below_drewN | apply below_drew1) | exact HB.out)) hb); clear HO270; clear HO273; clear HO277; clear HB; have HO270 := n0_; have HO273 := n1_; have HO277 := n2_; have HO282 := n3_; have HB := n4_; clear n0_ n1_ n2_ n3_ n4_; (try clear hb); (try clear hb2); (try clear hk); (try clear hi); (try clear ho0); obtain ⟨Ao49, co49, eo49⟩ := Kd.R_slice HO282.out; subst eo49) | ((with_reducible refine gate_callee (f := 20) rfl ?_); refine goesL_ (some 21) rfl rfl Try.func20 (by kernel_rfl) rfl #[.slice Ao49 t280.length co49] rfl (by (try simp only [List.map_toArray, List.map_cons, List.map_nil]); first | done | rfl | (simp only [List.length_drop, List.length_take]; rfl)) ?_; (with_reducible refine (stemma_Print.calls k _ _ t280 t283 t284 _ ?side1 ?side2 A6.out).mono ?_); (case side1 => repeat (first | exact (Kd.R_reads' HO282.out).2.2 | (with_reducible refine Kd.C_alloc ?_ _) | (with_reducible refine Kd.C_drewN ?_ _) | (with_reducible refine Kd.C_drew ?_))); (case side2 => exact (Kd.R_reads' HO282.out).2.1); rintro e w50 ⟨rfl, hb⟩; refine ⟨_, rfl, ?_⟩; have n0_ := Aside0.mk (Kd.R_below (by (with_reducible repeat (first | apply Kd.R_alloc | apply Kd.R_drewN | apply Kd.R_drew)); exact HO270.out) hb); have n1_ := Aside0.mk (Kd.N_below (by (with_reducible repeat (first | apply Kd.N_alloc | apply Kd.N_drewN | apply Kd.N_drew)); exact HO273.out) hb); have n2_ := Aside0.mk (Kd.R_below (by (with_reducible repeat (first | apply Kd.R_alloc | apply Kd.R_drewN | apply Kd.R_drew)); exact HO277.out) hb); have n3_ := Aside0.mk (Kd.R_below (by (with_reducible repeat (first | apply Kd.R_alloc | apply Kd.R_drewN | apply Kd.R_drew)); exact HO282.out) hb); have n4_ := Aside0.mk (below_step (by repeat (first | (with_reducible first | exact HB.out | apply below_alloc | apply pw_below_drewN | apply below_drew1) | exact HB.out)) hb); clear HO270; clear HO273; clear HO277; clear HO282; clear HB; have HO270 := n0_; have HO273 := n1_; have HO277 := n2_; have HO282 := n3_; have HB := n4_; clear n0_ n1_ n2_ n3_ n4_; (try clear hb); (try clear hb2); (try clear hk); (try clear hi)) | ((with_reducible refine gate_callee (f := 47) rfl ?_); refine goesL_ (some 25) rfl rfl Try.func47 (by kernel_rfl) rfl #[.int .i64 1, .int .i64 0, .bool true] rfl (by (try simp only [List.map_toArray, List.map_cons, List.map_nil]); first | done | rfl | (simp only [List.length_drop, List.length_take]; rfl)) ?_; (with_reducible refine (cippuslaw07_copies.calls 1 0 true t285 _ A7.out).mono ?_); rintro e w51 ⟨v286, rfl, ho0, hb⟩; refine ⟨_, rfl, ?_⟩; have n0_ := Aside0.mk (Kd.R_elder' (by (with_reducible repeat (first | apply Kd.R_alloc | apply Kd.R_drewN | apply Kd.R_drew)); exact HO270.out) (Kd.R_base ho0) hb); have n1_ := Aside0.mk (Kd.N_elder' (by (with_reducible repeat (first | apply Kd.N_alloc | apply Kd.N_drewN | apply Kd.N_drew)); exact HO273.out) (Kd.R_base ho0) hb); have n2_ := Aside0.mk (Kd.R_elder' (by (with_reducible repeat (first | apply Kd.R_alloc | apply Kd.R_drewN | apply Kd.R_drew)); exact HO277.out) (Kd.R_base ho0) hb); have n3_ := Aside0.mk (Kd.R_elder' (by (with_reducible repeat (first | apply Kd.R_alloc | apply Kd.R_drewN | apply Kd.R_drew)); exact HO282.out) (Kd.R_base ho0) hb); have n4_ := Aside0.mk (Kd.R_lower (Kd.R_new' (Kd.R_new' (Kd.R_new' ho0 (Kd.R_lt (by (with_reducible repeat (first | apply Kd.R_alloc | apply Kd.R_drewN | apply Kd.R_drew)); exact HO270.out))) (Kd.R_lt (by (with_reducible repeat (first | apply Kd.R_alloc | apply Kd.R_drewN | apply Kd.R_drew)); exact HO277.out))) (Kd.R_lt (by (with_reducible repeat (first | apply Kd.R_alloc | apply Kd.R_drewN | apply Kd.R_drew)); exact HO282.out))) (below_size (by repeat (first | (with_reducible first | exact HB.out | apply below_alloc | apply pw_below_drewN | apply below_drew1) | exact HB.out)))); have n5_ := Aside0.mk (below_step (by repeat (first | (with_reducible first | exact HB.out | apply below_alloc | apply pw_below_drewN | apply below_drew1) | exact HB.out)) hb); clear HO270; clear HO273; clear HO277; clear HO282; clear HB; have HO270 := n0_; have HO273 := n1_; have HO277 := n2_; have HO282 := n3_; have HO287 := n4_; have HB := n5_; clear n0_ n1_ n2_ n3_ n4_ n5_; (try clear hb); (try clear hb2); (try clear hk); (try clear hi); (try clear ho0); obtain ⟨Ao52, co52, eo52⟩ := Kd.R_slice HO287.out; subst eo52) | ((with_reducible refine gate_callee (f := 24) rfl ?_); refine goesL_ (some 26) rfl rfl Try.func24 (by kernel_rfl) rfl #[.slice Ao52 t285.length co52] rfl (by (try simp only [List.map_toArray, List.map_cons, List.map_nil]); first | done | rfl | (simp only [List.length_drop, List.length_take]; rfl)) ?_; (with_reducible refine (stemma_Fewest.calls k _ _ t285 t288 t289 _ ?side1 ?side2 A8.out).mono ?_); (case side1 => repeat (first | exact (Kd.R_reads' HO287.out).2.2 | (with_reducible refine Kd.C_alloc ?_ _) | (with_reducible refine Kd.C_drewN ?_ _) | (with_reducible refine Kd.C_drew ?_))); (case side2 => exact (Kd.R_reads' HO287.out).2.1); rintro e w53 ⟨rfl, hb⟩; refine ⟨_, rfl, ?_⟩; have n0_ := Aside0.mk (Kd.R_below (by (with_reducible repeat (first | apply Kd.R_alloc | apply Kd.R_drewN | apply Kd.R_drew)); exact HO270.out) hb); have n1_ := Aside0.mk (Kd.N_below (by (with_reducible repeat (first | apply Kd.N_alloc | apply Kd.N_drewN | apply Kd.N_drew)); exact HO273.out) hb); have n2_ := Aside0.mk (Kd.R_below (by (with_reducible repeat (first | apply Kd.R_alloc | apply Kd.R_drewN | apply Kd.R_drew)); exact HO277.out) hb); have n3_ := Aside0.mk (Kd.R_below (by (with_reducible repeat (first | apply Kd.R_alloc | apply Kd.R_drewN | apply Kd.R_drew)); exact HO282.out) hb); have n4_ := Aside0.mk (Kd.R_below (by (with_reducible repeat (first | apply Kd.R_alloc | apply Kd.R_drewN | apply Kd.R_drew)); exact HO287.out) hb); have n5_ := Aside0.mk (below_step (by repeat (first | (with_reducible first | exact HB.out | apply below_alloc | apply pw_below_drewN | apply below_drew1) | exact HB.out)) hb); clear HO270; clear HO273; clear HO277; clear HO282; clear HO287; clear HB; have HO270 := n0_; have HO273 := n1_; have HO277 := n2_; have HO282 := n3_; have HO287 := n4_; have HB := n5_; clear n0_ n1_ n2_ n3_ n4_ n5_; (try clear hb); (try clear hb2); (try clear hk); (try clear hi)))
                go_ret
                exact ⟨by first | rfl | (simp [errW_none, errW_some] <;> rfl) | (simp [*, errW_none, errW_some] <;> rfl), by repeat (first | (with_reducible first | exact HB.out | apply below_alloc | apply pw_below_drewN | apply below_drew1) | exact HB.out)⟩
            · rw [if_neg c14] at H
              have c14b0 : (t283.toList == ([65, 82, 77, 65] : List UInt8)) = false := beq_eq_false_iff_ne.mpr c14
              have c14b1 : (t283.toList != ([65, 82, 77, 65] : List UInt8)) = true := bne_iff_ne.mpr c14
              obtain rfl := Option.some.inj H
              go_enter Try.func17, Try.ntmps17
              go_wp2_with (first | ((with_reducible refine gate_callee (f := 47) rfl ?_); refine goesL_ (some 10) rfl rfl Try.func47 (by kernel_rfl) rfl #[.int .i64 1, .int .i64 1, .bool true] rfl (by (try simp only [List.map_toArray, List.map_cons, List.map_nil]); first | done | rfl | (simp only [List.length_drop, List.length_take]; rfl)) ?_; (with_reducible refine (cippuslaw07_copies.calls 1 1 true t268 _ A1.out).mono ?_); rintro e w54 ⟨v269, rfl, ho0, hb⟩; refine ⟨_, rfl, ?_⟩; have n0_ := Aside0.mk (Kd.R_lower ho0 (below_size (by repeat (first | (with_reducible first | exact HB.out | apply below_alloc | apply pw_below_drewN | apply below_drew1) | exact HB.out)))); have n1_ := Aside0.mk (below_step (by repeat (first | (with_reducible first | exact HB.out | apply below_alloc | apply pw_below_drewN | apply below_drew1) | exact HB.out)) hb); clear HB; have HO270 := n0_; have HB := n1_; clear n0_ n1_; (try clear hb); (try clear hb2); (try clear hk); (try clear hi); (try clear ho0); obtain ⟨Ao55, co55, eo55⟩ := Kd.R_slice HO270.out; subst eo55) | ((with_reducible refine gate_callee (f := 30) rfl ?_); refine goesL_ (some 11) rfl rfl Try.func30 (by kernel_rfl) rfl #[.slice Ao55 t268.length co55] rfl (by (try simp only [List.map_toArray, List.map_cons, List.map_nil]); first | done | rfl | (simp only [List.length_drop, List.length_take]; rfl)) ?_; (with_reducible refine (stemma_Sources.calls k _ _ t268 t271 t274 _ ?side1 ?side2 A2.out).mono ?_); (case side1 => repeat (first | exact (Kd.R_reads' HO270.out).2.2 | (with_reducible refine Kd.C_alloc ?_ _) | (with_reducible refine Kd.C_drewN ?_ _) | (with_reducible refine Kd.C_drew ?_))); (case side2 => exact (Kd.R_reads' HO270.out).2.1); rintro e w56 ⟨v272, rfl, ho0, hb⟩; refine ⟨_, rfl, ?_⟩; have n0_ := Aside0.mk (Kd.R_below (by (with_reducible repeat (first | apply Kd.R_alloc | apply Kd.R_drewN | apply Kd.R_drew)); exact HO270.out) hb); have n1_ := Aside0.mk (Kd.N_lower (Kd.N_mono (ok' := fun k_ => some k_ ≠ (.slice Ao55 t268.length co55 : Value).ownBlock) ho0 (fun k_ hk_ => (Kd.fresh' (Kd.R_lt (by (with_reducible repeat (first | apply Kd.R_alloc | apply Kd.R_drewN | apply Kd.R_drew)); exact HO270.out)) k_ hk_))) (below_size (by repeat (first | (with_reducible first | exact HB.out | apply below_alloc | apply pw_below_drewN | apply below_drew1) | exact HB.out)))); have n2_ := Aside0.mk (below_step (by repeat (first | (with_reducible first | exact HB.out | apply below_alloc | apply pw_below_drewN | apply below_drew1) | exact HB.out)) hb); clear HO270; clear HB; have HO270 := n0_; have HO273 := n1_; have HB := n2_; clear n0_ n1_ n2_; (try clear hb); (try clear hb2); (try clear hk); (try clear hi); (try clear ho0)) | ((with_reducible refine gate_callee (f := 47) rfl ?_); refine goesL_ (some 15) rfl rfl Try.func47 (by kernel_rfl) rfl #[.int .i64 1, .int .i64 0, .bool true] rfl (by (try simp only [List.map_toArray, List.map_cons, List.map_nil]); first | done | rfl | (simp only [List.length_drop, List.length_take]; rfl)) ?_; (with_reducible refine (cippuslaw07_copies.calls 1 0 true t275 _ A3.out).mono ?_); rintro e w57 ⟨v276, rfl, ho0, hb⟩; refine ⟨_, rfl, ?_⟩; have n0_ := Aside0.mk (Kd.R_elder' (by (with_reducible repeat (first | apply Kd.R_alloc | apply Kd.R_drewN | apply Kd.R_drew)); exact HO270.out) (Kd.R_base ho0) hb); have n1_ := Aside0.mk (Kd.N_elder' (by (with_reducible repeat (first | apply Kd.N_alloc | apply Kd.N_drewN | apply Kd.N_drew)); exact HO273.out) (Kd.R_base ho0) hb); have n2_ := Aside0.mk (Kd.R_lower (Kd.R_new' ho0 (Kd.R_lt (by (with_reducible repeat (first | apply Kd.R_alloc | apply Kd.R_drewN | apply Kd.R_drew)); exact HO270.out))) (below_size (by repeat (first | (with_reducible first | exact HB.out | apply below_alloc | apply pw_below_drewN | apply below_drew1) | exact HB.out)))); have n3_ := Aside0.mk (below_step (by repeat (first | (with_reducible first | exact HB.out | apply below_alloc | apply pw_below_drewN | apply below_drew1) | exact HB.out)) hb); clear HO270; clear HO273; clear HB; have HO270 := n0_; have HO273 := n1_; have HO277 := n2_; have HB := n3_; clear n0_ n1_ n2_ n3_; (try clear hb); (try clear hb2); (try clear hk); (try clear hi); (try clear ho0); obtain ⟨Ao58, co58, eo58⟩ := Kd.R_slice HO277.out; subst eo58) | ((with_reducible refine gate_callee (f := 20) rfl ?_); refine goesL_ (some 16) rfl rfl Try.func20 (by kernel_rfl) rfl #[.slice Ao58 t275.length co58] rfl (by (try simp only [List.map_toArray, List.map_cons, List.map_nil]); first | done | rfl | (simp only [List.length_drop, List.length_take]; rfl)) ?_; (with_reducible refine (stemma_Print.calls k _ _ t275 t278 t279 _ ?side1 ?side2 A4.out).mono ?_); (case side1 => repeat (first | exact (Kd.R_reads' HO277.out).2.2 | (with_reducible refine Kd.C_alloc ?_ _) | (with_reducible refine Kd.C_drewN ?_ _) | (with_reducible refine Kd.C_drew ?_))); (case side2 => exact (Kd.R_reads' HO277.out).2.1); rintro e w59 ⟨rfl, hb⟩; refine ⟨_, rfl, ?_⟩; have n0_ := Aside0.mk (Kd.R_below (by (with_reducible repeat (first | apply Kd.R_alloc | apply Kd.R_drewN | apply Kd.R_drew)); exact HO270.out) hb); have n1_ := Aside0.mk (Kd.N_below (by (with_reducible repeat (first | apply Kd.N_alloc | apply Kd.N_drewN | apply Kd.N_drew)); exact HO273.out) hb); have n2_ := Aside0.mk (Kd.R_below (by (with_reducible repeat (first | apply Kd.R_alloc | apply Kd.R_drewN | apply Kd.R_drew)); exact HO277.out) hb); have n3_ := Aside0.mk (below_step (by repeat (first | (with_reducible first | exact HB.out | apply below_alloc | apply pw_below_drewN | apply below_drew1) | exact HB.out)) hb); clear HO270; clear HO273; clear HO277; clear HB; have HO270 := n0_; have HO273 := n1_; have HO277 := n2_; have HB := n3_; clear n0_ n1_ n2_ n3_; (try clear hb); (try clear hb2); (try clear hk); (try clear hi)) | ((with_reducible refine gate_callee (f := 47) rfl ?_); refine goesL_ (some 20) rfl rfl Try.func47 (by kernel_rfl) rfl #[.int .i64 0, .int .i64 1, .bool true] rfl (by (try simp only [List.map_toArray, List.map_cons, List.map_nil]); first | done | rfl | (simp only [List.length_drop, List.length_take]; rfl)) ?_; (with_reducible refine (cippuslaw07_copies.calls 0 1 true t280 _ A5.out).mono ?_); rintro e w60 ⟨v281, rfl, ho0, hb⟩; refine ⟨_, rfl, ?_⟩; have n0_ := Aside0.mk (Kd.R_elder' (by (with_reducible repeat (first | apply Kd.R_alloc | apply Kd.R_drewN | apply Kd.R_drew)); exact HO270.out) (Kd.R_base ho0) hb); have n1_ := Aside0.mk (Kd.N_elder' (by (with_reducible repeat (first | apply Kd.N_alloc | apply Kd.N_drewN | apply Kd.N_drew)); exact HO273.out) (Kd.R_base ho0) hb); have n2_ := Aside0.mk (Kd.R_elder' (by (with_reducible repeat (first | apply Kd.R_alloc | apply Kd.R_drewN | apply Kd.R_drew)); exact HO277.out) (Kd.R_base ho0) hb); have n3_ := Aside0.mk (Kd.R_lower (Kd.R_new' (Kd.R_new' ho0 (Kd.R_lt (by (with_reducible repeat (first | apply Kd.R_alloc | apply Kd.R_drewN | apply Kd.R_drew)); exact HO270.out))) (Kd.R_lt (by (with_reducible repeat (first | apply Kd.R_alloc | apply Kd.R_drewN | apply Kd.R_drew)); exact HO277.out))) (below_size (by repeat (first | (with_reducible first | exact HB.out | apply below_alloc | apply pw_below_drewN | apply below_drew1) | exact HB.out)))); have n4_ := Aside0.mk (below_step (by repeat (first | (with_reducible first | exact HB.out | apply below_alloc | apply pw_below_drewN | apply below_drew1) | exact HB.out)) hb); clear HO270; clear HO273; clear HO277; clear HB; have HO270 := n0_; have HO273 := n1_; have HO277 := n2_; have HO282 := n3_; have HB := n4_; clear n0_ n1_ n2_ n3_ n4_; (try clear hb); (try clear hb2); (try clear hk); (try clear hi); (try clear ho0); obtain ⟨Ao61, co61, eo61⟩ := Kd.R_slice HO282.out; subst eo61) | ((with_reducible refine gate_callee (f := 20) rfl ?_); refine goesL_ (some 21) rfl rfl Try.func20 (by kernel_rfl) rfl #[.slice Ao61 t280.length co61] rfl (by (try simp only [List.map_toArray, List.map_cons, List.map_nil]); first | done | rfl | (simp only [List.length_drop, List.length_take]; rfl)) ?_; (with_reducible refine (stemma_Print.calls k _ _ t280 t283 t284 _ ?side1 ?side2 A6.out).mono ?_); (case side1 => repeat (first | exact (Kd.R_reads' HO282.out).2.2 | (with_reducible refine Kd.C_alloc ?_ _) | (with_reducible refine Kd.C_drewN ?_ _) | (with_reducible refine Kd.C_drew ?_))); (case side2 => exact (Kd.R_reads' HO282.out).2.1); rintro e w62 ⟨rfl, hb⟩; refine ⟨_, rfl, ?_⟩; have n0_ := Aside0.mk (Kd.R_below (by (with_reducible repeat (first | apply Kd.R_alloc | apply Kd.R_drewN | apply Kd.R_drew)); exact HO270.out) hb); have n1_ := Aside0.mk (Kd.N_below (by (with_reducible repeat (first | apply Kd.N_alloc | apply Kd.N_drewN | apply Kd.N_drew)); exact HO273.out) hb); have n2_ := Aside0.mk (Kd.R_below (by (with_reducible repeat (first | apply Kd.R_alloc | apply Kd.R_drewN | apply Kd.R_drew)); exact HO277.out) hb); have n3_ := Aside0.mk (Kd.R_below (by (with_reducible repeat (first | apply Kd.R_alloc | apply Kd.R_drewN | apply Kd.R_drew)); exact HO282.out) hb); have n4_ := Aside0.mk (below_step (by repeat (first | (with_reducible first | exact HB.out | apply below_alloc | apply pw_below_drewN | apply below_drew1) | exact HB.out)) hb); clear HO270; clear HO273; clear HO277; clear HO282; clear HB; have HO270 := n0_; have HO273 := n1_; have HO277 := n2_; have HO282 := n3_; have HB := n4_; clear n0_ n1_ n2_ n3_ n4_; (try clear hb); (try clear hb2); (try clear hk); (try clear hi)) | ((with_reducible refine gate_callee (f := 47) rfl ?_); refine goesL_ (some 25) rfl rfl Try.func47 (by kernel_rfl) rfl #[.int .i64 1, .int .i64 0, .bool true] rfl (by (try simp only [List.map_toArray, List.map_cons, List.map_nil]); first | done | rfl | (simp only [List.length_drop, List.length_take]; rfl)) ?_; (with_reducible refine (cippuslaw07_copies.calls 1 0 true t285 _ A7.out).mono ?_); rintro e w63 ⟨v286, rfl, ho0, hb⟩; refine ⟨_, rfl, ?_⟩; have n0_ := Aside0.mk (Kd.R_elder' (by (with_reducible repeat (first | apply Kd.R_alloc | apply Kd.R_drewN | apply Kd.R_drew)); exact HO270.out) (Kd.R_base ho0) hb); have n1_ := Aside0.mk (Kd.N_elder' (by (with_reducible repeat (first | apply Kd.N_alloc | apply Kd.N_drewN | apply Kd.N_drew)); exact HO273.out) (Kd.R_base ho0) hb); have n2_ := Aside0.mk (Kd.R_elder' (by (with_reducible repeat (first | apply Kd.R_alloc | apply Kd.R_drewN | apply Kd.R_drew)); exact HO277.out) (Kd.R_base ho0) hb); have n3_ := Aside0.mk (Kd.R_elder' (by (with_reducible repeat (first | apply Kd.R_alloc | apply Kd.R_drewN | apply Kd.R_drew)); exact HO282.out) (Kd.R_base ho0) hb); have n4_ := Aside0.mk (Kd.R_lower (Kd.R_new' (Kd.R_new' (Kd.R_new' ho0 (Kd.R_lt (by (with_reducible repeat (first | apply Kd.R_alloc | apply Kd.R_drewN | apply Kd.R_drew)); exact HO270.out))) (Kd.R_lt (by (with_reducible repeat (first | apply Kd.R_alloc | apply Kd.R_drewN | apply Kd.R_drew)); exact HO277.out))) (Kd.R_lt (by (with_reducible repeat (first | apply Kd.R_alloc | apply Kd.R_drewN | apply Kd.R_drew)); exact HO282.out))) (below_size (by repeat (first | (with_reducible first | exact HB.out | apply below_alloc | apply pw_below_drewN | apply below_drew1) | exact HB.out)))); have n5_ := Aside0.mk (below_step (by repeat (first | (with_reducible first | exact HB.out | apply below_alloc | apply pw_below_drewN | apply below_drew1) | exact HB.out)) hb); clear HO270; clear HO273; clear HO277; clear HO282; clear HB; have HO270 := n0_; have HO273 := n1_; have HO277 := n2_; have HO282 := n3_; have HO287 := n4_; have HB := n5_; clear n0_ n1_ n2_ n3_ n4_ n5_; (try clear hb); (try clear hb2); (try clear hk); (try clear hi); (try clear ho0); obtain ⟨Ao64, co64, eo64⟩ := Kd.R_slice HO287.out; subst eo64) | ((with_reducible refine gate_callee (f := 24) rfl ?_); refine goesL_ (some 26) rfl rfl Try.func24 (by kernel_rfl) rfl #[.slice Ao64 t285.length co64] rfl (by (try simp only [List.map_toArray, List.map_cons, List.map_nil]); first | done | rfl | (simp only [List.length_drop, List.length_take]; rfl)) ?_; (with_reducible refine (stemma_Fewest.calls k _ _ t285 t288 t289 _ ?side1 ?side2 A8.out).mono ?_); (case side1 => repeat (first | exact (Kd.R_reads' HO287.out).2.2 | (with_reducible refine Kd.C_alloc ?_ _) | (with_reducible refine Kd.C_drewN ?_ _) | (with_reducible refine Kd.C_drew ?_))); (case side2 => exact (Kd.R_reads' HO287.out).2.1); rintro e w65 ⟨rfl, hb⟩; refine ⟨_, rfl, ?_⟩; have n0_ := Aside0.mk (Kd.R_below (by (with_reducible repeat (first | apply Kd.R_alloc | apply Kd.R_drewN | apply Kd.R_drew)); exact HO270.out) hb); have n1_ := Aside0.mk (Kd.N_below (by (with_reducible repeat (first | apply Kd.N_alloc | apply Kd.N_drewN | apply Kd.N_drew)); exact HO273.out) hb); have n2_ := Aside0.mk (Kd.R_below (by (with_reducible repeat (first | apply Kd.R_alloc | apply Kd.R_drewN | apply Kd.R_drew)); exact HO277.out) hb); have n3_ := Aside0.mk (Kd.R_below (by (with_reducible repeat (first | apply Kd.R_alloc | apply Kd.R_drewN | apply Kd.R_drew)); exact HO282.out) hb); have n4_ := Aside0.mk (Kd.R_below (by (with_reducible repeat (first | apply Kd.R_alloc | apply Kd.R_drewN | apply Kd.R_drew)); exact HO287.out) hb); have n5_ := Aside0.mk (below_step (by repeat (first | (with_reducible first | exact HB.out | apply below_alloc | apply pw_below_drewN | apply below_drew1) | exact HB.out)) hb); clear HO270; clear HO273; clear HO277; clear HO282; clear HO287; clear HB; have HO270 := n0_; have HO273 := n1_; have HO277 := n2_; have HO282 := n3_; have HO287 := n4_; have HB := n5_; clear n0_ n1_ n2_ n3_ n4_ n5_; (try clear hb); (try clear hb2); (try clear hk); (try clear hi)))
              go_ret
              exact ⟨by first | rfl | (simp [errW_none, errW_some] <;> rfl) | (simp [*, errW_none, errW_some] <;> rfl), by repeat (first | (with_reducible first | exact HB.out | apply below_alloc | apply pw_below_drewN | apply below_drew1) | exact HB.out)⟩
          · rw [if_neg c13] at H
            have c13b0 : (t278.toList == ([65, 82, 77, 79] : List UInt8)) = false := beq_eq_false_iff_ne.mpr c13
            have c13b1 : (t278.toList != ([65, 82, 77, 79] : List UInt8)) = true := bne_iff_ne.mpr c13
            obtain rfl := Option.some.inj H
            go_enter Try.func17, Try.ntmps17
            go_wp2_with (first | ((with_reducible refine gate_callee (f := 47) rfl ?_); refine goesL_ (some 10) rfl rfl Try.func47 (by kernel_rfl) rfl #[.int .i64 1, .int .i64 1, .bool true] rfl (by (try simp only [List.map_toArray, List.map_cons, List.map_nil]); first | done | rfl | (simp only [List.length_drop, List.length_take]; rfl)) ?_; (with_reducible refine (cippuslaw07_copies.calls 1 1 true t268 _ A1.out).mono ?_); rintro e w66 ⟨v269, rfl, ho0, hb⟩; refine ⟨_, rfl, ?_⟩; have n0_ := Aside0.mk (Kd.R_lower ho0 (below_size (by repeat (first | (with_reducible first | exact HB.out | apply below_alloc | apply pw_below_drewN | apply below_drew1) | exact HB.out)))); have n1_ := Aside0.mk (below_step (by repeat (first | (with_reducible first | exact HB.out | apply below_alloc | apply pw_below_drewN | apply below_drew1) | exact HB.out)) hb); clear HB; have HO270 := n0_; have HB := n1_; clear n0_ n1_; (try clear hb); (try clear hb2); (try clear hk); (try clear hi); (try clear ho0); obtain ⟨Ao67, co67, eo67⟩ := Kd.R_slice HO270.out; subst eo67) | ((with_reducible refine gate_callee (f := 30) rfl ?_); refine goesL_ (some 11) rfl rfl Try.func30 (by kernel_rfl) rfl #[.slice Ao67 t268.length co67] rfl (by (try simp only [List.map_toArray, List.map_cons, List.map_nil]); first | done | rfl | (simp only [List.length_drop, List.length_take]; rfl)) ?_; (with_reducible refine (stemma_Sources.calls k _ _ t268 t271 t274 _ ?side1 ?side2 A2.out).mono ?_); (case side1 => repeat (first | exact (Kd.R_reads' HO270.out).2.2 | (with_reducible refine Kd.C_alloc ?_ _) | (with_reducible refine Kd.C_drewN ?_ _) | (with_reducible refine Kd.C_drew ?_))); (case side2 => exact (Kd.R_reads' HO270.out).2.1); rintro e w68 ⟨v272, rfl, ho0, hb⟩; refine ⟨_, rfl, ?_⟩; have n0_ := Aside0.mk (Kd.R_below (by (with_reducible repeat (first | apply Kd.R_alloc | apply Kd.R_drewN | apply Kd.R_drew)); exact HO270.out) hb); have n1_ := Aside0.mk (Kd.N_lower (Kd.N_mono (ok' := fun k_ => some k_ ≠ (.slice Ao67 t268.length co67 : Value).ownBlock) ho0 (fun k_ hk_ => (Kd.fresh' (Kd.R_lt (by (with_reducible repeat (first | apply Kd.R_alloc | apply Kd.R_drewN | apply Kd.R_drew)); exact HO270.out)) k_ hk_))) (below_size (by repeat (first | (with_reducible first | exact HB.out | apply below_alloc | apply pw_below_drewN | apply below_drew1) | exact HB.out)))); have n2_ := Aside0.mk (below_step (by repeat (first | (with_reducible first | exact HB.out | apply below_alloc | apply pw_below_drewN | apply below_drew1) | exact HB.out)) hb); clear HO270; clear HB; have HO270 := n0_; have HO273 := n1_; have HB := n2_; clear n0_ n1_ n2_; (try clear hb); (try clear hb2); (try clear hk); (try clear hi); (try clear ho0)) | ((with_reducible refine gate_callee (f := 47) rfl ?_); refine goesL_ (some 15) rfl rfl Try.func47 (by kernel_rfl) rfl #[.int .i64 1, .int .i64 0, .bool true] rfl (by (try simp only [List.map_toArray, List.map_cons, List.map_nil]); first | done | rfl | (simp only [List.length_drop, List.length_take]; rfl)) ?_; (with_reducible refine (cippuslaw07_copies.calls 1 0 true t275 _ A3.out).mono ?_); rintro e w69 ⟨v276, rfl, ho0, hb⟩; refine ⟨_, rfl, ?_⟩; have n0_ := Aside0.mk (Kd.R_elder' (by (with_reducible repeat (first | apply Kd.R_alloc | apply Kd.R_drewN | apply Kd.R_drew)); exact HO270.out) (Kd.R_base ho0) hb); have n1_ := Aside0.mk (Kd.N_elder' (by (with_reducible repeat (first | apply Kd.N_alloc | apply Kd.N_drewN | apply Kd.N_drew)); exact HO273.out) (Kd.R_base ho0) hb); have n2_ := Aside0.mk (Kd.R_lower (Kd.R_new' ho0 (Kd.R_lt (by (with_reducible repeat (first | apply Kd.R_alloc | apply Kd.R_drewN | apply Kd.R_drew)); exact HO270.out))) (below_size (by repeat (first | (with_reducible first | exact HB.out | apply below_alloc | apply pw_below_drewN | apply below_drew1) | exact HB.out)))); have n3_ := Aside0.mk (below_step (by repeat (first | (with_reducible first | exact HB.out | apply below_alloc | apply pw_below_drewN | apply below_drew1) | exact HB.out)) hb); clear HO270; clear HO273; clear HB; have HO270 := n0_; have HO273 := n1_; have HO277 := n2_; have HB := n3_; clear n0_ n1_ n2_ n3_; (try clear hb); (try clear hb2); (try clear hk); (try clear hi); (try clear ho0); obtain ⟨Ao70, co70, eo70⟩ := Kd.R_slice HO277.out; subst eo70) | ((with_reducible refine gate_callee (f := 20) rfl ?_); refine goesL_ (some 16) rfl rfl Try.func20 (by kernel_rfl) rfl #[.slice Ao70 t275.length co70] rfl (by (try simp only [List.map_toArray, List.map_cons, List.map_nil]); first | done | rfl | (simp only [List.length_drop, List.length_take]; rfl)) ?_; (with_reducible refine (stemma_Print.calls k _ _ t275 t278 t279 _ ?side1 ?side2 A4.out).mono ?_); (case side1 => repeat (first | exact (Kd.R_reads' HO277.out).2.2 | (with_reducible refine Kd.C_alloc ?_ _) | (with_reducible refine Kd.C_drewN ?_ _) | (with_reducible refine Kd.C_drew ?_))); (case side2 => exact (Kd.R_reads' HO277.out).2.1); rintro e w71 ⟨rfl, hb⟩; refine ⟨_, rfl, ?_⟩; have n0_ := Aside0.mk (Kd.R_below (by (with_reducible repeat (first | apply Kd.R_alloc | apply Kd.R_drewN | apply Kd.R_drew)); exact HO270.out) hb); have n1_ := Aside0.mk (Kd.N_below (by (with_reducible repeat (first | apply Kd.N_alloc | apply Kd.N_drewN | apply Kd.N_drew)); exact HO273.out) hb); have n2_ := Aside0.mk (Kd.R_below (by (with_reducible repeat (first | apply Kd.R_alloc | apply Kd.R_drewN | apply Kd.R_drew)); exact HO277.out) hb); have n3_ := Aside0.mk (below_step (by repeat (first | (with_reducible first | exact HB.out | apply below_alloc | apply pw_below_drewN | apply below_drew1) | exact HB.out)) hb); clear HO270; clear HO273; clear HO277; clear HB; have HO270 := n0_; have HO273 := n1_; have HO277 := n2_; have HB := n3_; clear n0_ n1_ n2_ n3_; (try clear hb); (try clear hb2); (try clear hk); (try clear hi)) | ((with_reducible refine gate_callee (f := 47) rfl ?_); refine goesL_ (some 20) rfl rfl Try.func47 (by kernel_rfl) rfl #[.int .i64 0, .int .i64 1, .bool true] rfl (by (try simp only [List.map_toArray, List.map_cons, List.map_nil]); first | done | rfl | (simp only [List.length_drop, List.length_take]; rfl)) ?_; (with_reducible refine (cippuslaw07_copies.calls 0 1 true t280 _ A5.out).mono ?_); rintro e w72 ⟨v281, rfl, ho0, hb⟩; refine ⟨_, rfl, ?_⟩; have n0_ := Aside0.mk (Kd.R_elder' (by (with_reducible repeat (first | apply Kd.R_alloc | apply Kd.R_drewN | apply Kd.R_drew)); exact HO270.out) (Kd.R_base ho0) hb); have n1_ := Aside0.mk (Kd.N_elder' (by (with_reducible repeat (first | apply Kd.N_alloc | apply Kd.N_drewN | apply Kd.N_drew)); exact HO273.out) (Kd.R_base ho0) hb); have n2_ := Aside0.mk (Kd.R_elder' (by (with_reducible repeat (first | apply Kd.R_alloc | apply Kd.R_drewN | apply Kd.R_drew)); exact HO277.out) (Kd.R_base ho0) hb); have n3_ := Aside0.mk (Kd.R_lower (Kd.R_new' (Kd.R_new' ho0 (Kd.R_lt (by (with_reducible repeat (first | apply Kd.R_alloc | apply Kd.R_drewN | apply Kd.R_drew)); exact HO270.out))) (Kd.R_lt (by (with_reducible repeat (first | apply Kd.R_alloc | apply Kd.R_drewN | apply Kd.R_drew)); exact HO277.out))) (below_size (by repeat (first | (with_reducible first | exact HB.out | apply below_alloc | apply pw_below_drewN | apply below_drew1) | exact HB.out)))); have n4_ := Aside0.mk (below_step (by repeat (first | (with_reducible first | exact HB.out | apply below_alloc | apply pw_below_drewN | apply below_drew1) | exact HB.out)) hb); clear HO270; clear HO273; clear HO277; clear HB; have HO270 := n0_; have HO273 := n1_; have HO277 := n2_; have HO282 := n3_; have HB := n4_; clear n0_ n1_ n2_ n3_ n4_; (try clear hb); (try clear hb2); (try clear hk); (try clear hi); (try clear ho0); obtain ⟨Ao73, co73, eo73⟩ := Kd.R_slice HO282.out; subst eo73) | ((with_reducible refine gate_callee (f := 20) rfl ?_); refine goesL_ (some 21) rfl rfl Try.func20 (by kernel_rfl) rfl #[.slice Ao73 t280.length co73] rfl (by (try simp only [List.map_toArray, List.map_cons, List.map_nil]); first | done | rfl | (simp only [List.length_drop, List.length_take]; rfl)) ?_; (with_reducible refine (stemma_Print.calls k _ _ t280 t283 t284 _ ?side1 ?side2 A6.out).mono ?_); (case side1 => repeat (first | exact (Kd.R_reads' HO282.out).2.2 | (with_reducible refine Kd.C_alloc ?_ _) | (with_reducible refine Kd.C_drewN ?_ _) | (with_reducible refine Kd.C_drew ?_))); (case side2 => exact (Kd.R_reads' HO282.out).2.1); rintro e w74 ⟨rfl, hb⟩; refine ⟨_, rfl, ?_⟩; have n0_ := Aside0.mk (Kd.R_below (by (with_reducible repeat (first | apply Kd.R_alloc | apply Kd.R_drewN | apply Kd.R_drew)); exact HO270.out) hb); have n1_ := Aside0.mk (Kd.N_below (by (with_reducible repeat (first | apply Kd.N_alloc | apply Kd.N_drewN | apply Kd.N_drew)); exact HO273.out) hb); have n2_ := Aside0.mk (Kd.R_below (by (with_reducible repeat (first | apply Kd.R_alloc | apply Kd.R_drewN | apply Kd.R_drew)); exact HO277.out) hb); have n3_ := Aside0.mk (Kd.R_below (by (with_reducible repeat (first | apply Kd.R_alloc | apply Kd.R_drewN | apply Kd.R_drew)); exact HO282.out) hb); have n4_ := Aside0.mk (below_step (by repeat (first | (with_reducible first | exact HB.out | apply below_alloc | apply pw_below_drewN | apply below_drew1) | exact HB.out)) hb); clear HO270; clear HO273; clear HO277; clear HO282; clear HB; have HO270 := n0_; have HO273 := n1_; have HO277 := n2_; have HO282 := n3_; have HB := n4_; clear n0_ n1_ n2_ n3_ n4_; (try clear hb); (try clear hb2); (try clear hk); (try clear hi)) | ((with_reducible refine gate_callee (f := 47) rfl ?_); refine goesL_ (some 25) rfl rfl Try.func47 (by kernel_rfl) rfl #[.int .i64 1, .int .i64 0, .bool true] rfl (by (try simp only [List.map_toArray, List.map_cons, List.map_nil]); first | done | rfl | (simp only [List.length_drop, List.length_take]; rfl)) ?_; (with_reducible refine (cippuslaw07_copies.calls 1 0 true t285 _ A7.out).mono ?_); rintro e w75 ⟨v286, rfl, ho0, hb⟩; refine ⟨_, rfl, ?_⟩; have n0_ := Aside0.mk (Kd.R_elder' (by (with_reducible repeat (first | apply Kd.R_alloc | apply Kd.R_drewN | apply Kd.R_drew)); exact HO270.out) (Kd.R_base ho0) hb); have n1_ := Aside0.mk (Kd.N_elder' (by (with_reducible repeat (first | apply Kd.N_alloc | apply Kd.N_drewN | apply Kd.N_drew)); exact HO273.out) (Kd.R_base ho0) hb); have n2_ := Aside0.mk (Kd.R_elder' (by (with_reducible repeat (first | apply Kd.R_alloc | apply Kd.R_drewN | apply Kd.R_drew)); exact HO277.out) (Kd.R_base ho0) hb); have n3_ := Aside0.mk (Kd.R_elder' (by (with_reducible repeat (first | apply Kd.R_alloc | apply Kd.R_drewN | apply Kd.R_drew)); exact HO282.out) (Kd.R_base ho0) hb); have n4_ := Aside0.mk (Kd.R_lower (Kd.R_new' (Kd.R_new' (Kd.R_new' ho0 (Kd.R_lt (by (with_reducible repeat (first | apply Kd.R_alloc | apply Kd.R_drewN | apply Kd.R_drew)); exact HO270.out))) (Kd.R_lt (by (with_reducible repeat (first | apply Kd.R_alloc | apply Kd.R_drewN | apply Kd.R_drew)); exact HO277.out))) (Kd.R_lt (by (with_reducible repeat (first | apply Kd.R_alloc | apply Kd.R_drewN | apply Kd.R_drew)); exact HO282.out))) (below_size (by repeat (first | (with_reducible first | exact HB.out | apply below_alloc | apply pw_below_drewN | apply below_drew1) | exact HB.out)))); have n5_ := Aside0.mk (below_step (by repeat (first | (with_reducible first | exact HB.out | apply below_alloc | apply pw_below_drewN | apply below_drew1) | exact HB.out)) hb); clear HO270; clear HO273; clear HO277; clear HO282; clear HB; have HO270 := n0_; have HO273 := n1_; have HO277 := n2_; have HO282 := n3_; have HO287 := n4_; have HB := n5_; clear n0_ n1_ n2_ n3_ n4_ n5_; (try clear hb); (try clear hb2); (try clear hk); (try clear hi); (try clear ho0); obtain ⟨Ao76, co76, eo76⟩ := Kd.R_slice HO287.out; subst eo76) | ((with_reducible refine gate_callee (f := 24) rfl ?_); refine goesL_ (some 26) rfl rfl Try.func24 (by kernel_rfl) rfl #[.slice Ao76 t285.length co76] rfl (by (try simp only [List.map_toArray, List.map_cons, List.map_nil]); first | done | rfl | (simp only [List.length_drop, List.length_take]; rfl)) ?_; (with_reducible refine (stemma_Fewest.calls k _ _ t285 t288 t289 _ ?side1 ?side2 A8.out).mono ?_); (case side1 => repeat (first | exact (Kd.R_reads' HO287.out).2.2 | (with_reducible refine Kd.C_alloc ?_ _) | (with_reducible refine Kd.C_drewN ?_ _) | (with_reducible refine Kd.C_drew ?_))); (case side2 => exact (Kd.R_reads' HO287.out).2.1); rintro e w77 ⟨rfl, hb⟩; refine ⟨_, rfl, ?_⟩; have n0_ := Aside0.mk (Kd.R_below (by (with_reducible repeat (first | apply Kd.R_alloc | apply Kd.R_drewN | apply Kd.R_drew)); exact HO270.out) hb); have n1_ := Aside0.mk (Kd.N_below (by (with_reducible repeat (first | apply Kd.N_alloc | apply Kd.N_drewN | apply Kd.N_drew)); exact HO273.out) hb); have n2_ := Aside0.mk (Kd.R_below (by (with_reducible repeat (first | apply Kd.R_alloc | apply Kd.R_drewN | apply Kd.R_drew)); exact HO277.out) hb); have n3_ := Aside0.mk (Kd.R_below (by (with_reducible repeat (first | apply Kd.R_alloc | apply Kd.R_drewN | apply Kd.R_drew)); exact HO282.out) hb); have n4_ := Aside0.mk (Kd.R_below (by (with_reducible repeat (first | apply Kd.R_alloc | apply Kd.R_drewN | apply Kd.R_drew)); exact HO287.out) hb); have n5_ := Aside0.mk (below_step (by repeat (first | (with_reducible first | exact HB.out | apply below_alloc | apply pw_below_drewN | apply below_drew1) | exact HB.out)) hb); clear HO270; clear HO273; clear HO277; clear HO282; clear HO287; clear HB; have HO270 := n0_; have HO273 := n1_; have HO277 := n2_; have HO282 := n3_; have HO287 := n4_; have HB := n5_; clear n0_ n1_ n2_ n3_ n4_ n5_; (try clear hb); (try clear hb2); (try clear hk); (try clear hi)))
            go_ret
            exact ⟨by first | rfl | (simp [errW_none, errW_some] <;> rfl) | (simp [*, errW_none, errW_some] <;> rfl), by repeat (first | (with_reducible first | exact HB.out | apply below_alloc | apply pw_below_drewN | apply below_drew1) | exact HB.out)⟩
        · rw [if_neg c12] at H
          have c12b0 : (t289 == 0) = false := beq_eq_false_iff_ne.mpr c12
          have c12b1 : (t289 != 0) = true := bne_iff_ne.mpr c12
          obtain rfl := Option.some.inj H
          go_enter Try.func17, Try.ntmps17
          go_wp2_with (first | ((with_reducible refine gate_callee (f := 47) rfl ?_); refine goesL_ (some 10) rfl rfl Try.func47 (by kernel_rfl) rfl #[.int .i64 1, .int .i64 1, .bool true] rfl (by (try simp only [List.map_toArray, List.map_cons, List.map_nil]); first | done | rfl | (simp only [List.length_drop, List.length_take]; rfl)) ?_; (with_reducible refine (cippuslaw07_copies.calls 1 1 true t268 _ A1.out).mono ?_); rintro e w78 ⟨v269, rfl, ho0, hb⟩; refine ⟨_, rfl, ?_⟩; have n0_ := Aside0.mk (Kd.R_lower ho0 (below_size (by repeat (first | (with_reducible first | exact HB.out | apply below_alloc | apply pw_below_drewN | apply below_drew1) | exact HB.out)))); have n1_ := Aside0.mk (below_step (by repeat (first | (with_reducible first | exact HB.out | apply below_alloc | apply pw_below_drewN | apply below_drew1) | exact HB.out)) hb); clear HB; have HO270 := n0_; have HB := n1_; clear n0_ n1_; (try clear hb); (try clear hb2); (try clear hk); (try clear hi); (try clear ho0); obtain ⟨Ao79, co79, eo79⟩ := Kd.R_slice HO270.out; subst eo79) | ((with_reducible refine gate_callee (f := 30) rfl ?_); refine goesL_ (some 11) rfl rfl Try.func30 (by kernel_rfl) rfl #[.slice Ao79 t268.length co79] rfl (by (try simp only [List.map_toArray, List.map_cons, List.map_nil]); first | done | rfl | (simp only [List.length_drop, List.length_take]; rfl)) ?_; (with_reducible refine (stemma_Sources.calls k _ _ t268 t271 t274 _ ?side1 ?side2 A2.out).mono ?_); (case side1 => repeat (first | exact (Kd.R_reads' HO270.out).2.2 | (with_reducible refine Kd.C_alloc ?_ _) | (with_reducible refine Kd.C_drewN ?_ _) | (with_reducible refine Kd.C_drew ?_))); (case side2 => exact (Kd.R_reads' HO270.out).2.1); rintro e w80 ⟨v272, rfl, ho0, hb⟩; refine ⟨_, rfl, ?_⟩; have n0_ := Aside0.mk (Kd.R_below (by (with_reducible repeat (first | apply Kd.R_alloc | apply Kd.R_drewN | apply Kd.R_drew)); exact HO270.out) hb); have n1_ := Aside0.mk (Kd.N_lower (Kd.N_mono (ok' := fun k_ => some k_ ≠ (.slice Ao79 t268.length co79 : Value).ownBlock) ho0 (fun k_ hk_ => (Kd.fresh' (Kd.R_lt (by (with_reducible repeat (first | apply Kd.R_alloc | apply Kd.R_drewN | apply Kd.R_drew)); exact HO270.out)) k_ hk_))) (below_size (by repeat (first | (with_reducible first | exact HB.out | apply below_alloc | apply pw_below_drewN | apply below_drew1) | exact HB.out)))); have n2_ := Aside0.mk (below_step (by repeat (first | (with_reducible first | exact HB.out | apply below_alloc | apply pw_below_drewN | apply below_drew1) | exact HB.out)) hb); clear HO270; clear HB; have HO270 := n0_; have HO273 := n1_; have HB := n2_; clear n0_ n1_ n2_; (try clear hb); (try clear hb2); (try clear hk); (try clear hi); (try clear ho0)) | ((with_reducible refine gate_callee (f := 47) rfl ?_); refine goesL_ (some 15) rfl rfl Try.func47 (by kernel_rfl) rfl #[.int .i64 1, .int .i64 0, .bool true] rfl (by (try simp only [List.map_toArray, List.map_cons, List.map_nil]); first | done | rfl | (simp only [List.length_drop, List.length_take]; rfl)) ?_; (with_reducible refine (cippuslaw07_copies.calls 1 0 true t275 _ A3.out).mono ?_); rintro e w81 ⟨v276, rfl, ho0, hb⟩; refine ⟨_, rfl, ?_⟩; have n0_ := Aside0.mk (Kd.R_elder' (by (with_reducible repeat (first | apply Kd.R_alloc | apply Kd.R_drewN | apply Kd.R_drew)); exact HO270.out) (Kd.R_base ho0) hb); have n1_ := Aside0.mk (Kd.N_elder' (by (with_reducible repeat (first | apply Kd.N_alloc | apply Kd.N_drewN | apply Kd.N_drew)); exact HO273.out) (Kd.R_base ho0) hb); have n2_ := Aside0.mk (Kd.R_lower (Kd.R_new' ho0 (Kd.R_lt (by (with_reducible repeat (first | apply Kd.R_alloc | apply Kd.R_drewN | apply Kd.R_drew)); exact HO270.out))) (below_size (by repeat (first | (with_reducible first | exact HB.out | apply below_alloc | apply pw_below_drewN | apply below_drew1) | exact HB.out)))); have n3_ := Aside0.mk (below_step (by repeat (first | (with_reducible first | exact HB.out | apply below_alloc | apply pw_below_drewN | apply below_drew1) | exact HB.out)) hb); clear HO270; clear HO273; clear HB; have HO270 := n0_; have HO273 := n1_; have HO277 := n2_; have HB := n3_; clear n0_ n1_ n2_ n3_; (try clear hb); (try clear hb2); (try clear hk); (try clear hi); (try clear ho0); obtain ⟨Ao82, co82, eo82⟩ := Kd.R_slice HO277.out; subst eo82) | ((with_reducible refine gate_callee (f := 20) rfl ?_); refine goesL_ (some 16) rfl rfl Try.func20 (by kernel_rfl) rfl #[.slice Ao82 t275.length co82] rfl (by (try simp only [List.map_toArray, List.map_cons, List.map_nil]); first | done | rfl | (simp only [List.length_drop, List.length_take]; rfl)) ?_; (with_reducible refine (stemma_Print.calls k _ _ t275 t278 t279 _ ?side1 ?side2 A4.out).mono ?_); (case side1 => repeat (first | exact (Kd.R_reads' HO277.out).2.2 | (with_reducible refine Kd.C_alloc ?_ _) | (with_reducible refine Kd.C_drewN ?_ _) | (with_reducible refine Kd.C_drew ?_))); (case side2 => exact (Kd.R_reads' HO277.out).2.1); rintro e w83 ⟨rfl, hb⟩; refine ⟨_, rfl, ?_⟩; have n0_ := Aside0.mk (Kd.R_below (by (with_reducible repeat (first | apply Kd.R_alloc | apply Kd.R_drewN | apply Kd.R_drew)); exact HO270.out) hb); have n1_ := Aside0.mk (Kd.N_below (by (with_reducible repeat (first | apply Kd.N_alloc | apply Kd.N_drewN | apply Kd.N_drew)); exact HO273.out) hb); have n2_ := Aside0.mk (Kd.R_below (by (with_reducible repeat (first | apply Kd.R_alloc | apply Kd.R_drewN | apply Kd.R_drew)); exact HO277.out) hb); have n3_ := Aside0.mk (below_step (by repeat (first | (with_reducible first | exact HB.out | apply below_alloc | apply pw_below_drewN | apply below_drew1) | exact HB.out)) hb); clear HO270; clear HO273; clear HO277; clear HB; have HO270 := n0_; have HO273 := n1_; have HO277 := n2_; have HB := n3_; clear n0_ n1_ n2_ n3_; (try clear hb); (try clear hb2); (try clear hk); (try clear hi)) | ((with_reducible refine gate_callee (f := 47) rfl ?_); refine goesL_ (some 20) rfl rfl Try.func47 (by kernel_rfl) rfl #[.int .i64 0, .int .i64 1, .bool true] rfl (by (try simp only [List.map_toArray, List.map_cons, List.map_nil]); first | done | rfl | (simp only [List.length_drop, List.length_take]; rfl)) ?_; (with_reducible refine (cippuslaw07_copies.calls 0 1 true t280 _ A5.out).mono ?_); rintro e w84 ⟨v281, rfl, ho0, hb⟩; refine ⟨_, rfl, ?_⟩; have n0_ := Aside0.mk (Kd.R_elder' (by (with_reducible repeat (first | apply Kd.R_alloc | apply Kd.R_drewN | apply Kd.R_drew)); exact HO270.out) (Kd.R_base ho0) hb); have n1_ := Aside0.mk (Kd.N_elder' (by (with_reducible repeat (first | apply Kd.N_alloc | apply Kd.N_drewN | apply Kd.N_drew)); exact HO273.out) (Kd.R_base ho0) hb); have n2_ := Aside0.mk (Kd.R_elder' (by (with_reducible repeat (first | apply Kd.R_alloc | apply Kd.R_drewN | apply Kd.R_drew)); exact HO277.out) (Kd.R_base ho0) hb); have n3_ := Aside0.mk (Kd.R_lower (Kd.R_new' (Kd.R_new' ho0 (Kd.R_lt (by (with_reducible repeat (first | apply Kd.R_alloc | apply Kd.R_drewN | apply Kd.R_drew)); exact HO270.out))) (Kd.R_lt (by (with_reducible repeat (first | apply Kd.R_alloc | apply Kd.R_drewN | apply Kd.R_drew)); exact HO277.out))) (below_size (by repeat (first | (with_reducible first | exact HB.out | apply below_alloc | apply pw_below_drewN | apply below_drew1) | exact HB.out)))); have n4_ := Aside0.mk (below_step (by repeat (first | (with_reducible first | exact HB.out | apply below_alloc | apply pw_below_drewN | apply below_drew1) | exact HB.out)) hb); clear HO270; clear HO273; clear HO277; clear HB; have HO270 := n0_; have HO273 := n1_; have HO277 := n2_; have HO282 := n3_; have HB := n4_; clear n0_ n1_ n2_ n3_ n4_; (try clear hb); (try clear hb2); (try clear hk); (try clear hi); (try clear ho0); obtain ⟨Ao85, co85, eo85⟩ := Kd.R_slice HO282.out; subst eo85) | ((with_reducible refine gate_callee (f := 20) rfl ?_); refine goesL_ (some 21) rfl rfl Try.func20 (by kernel_rfl) rfl #[.slice Ao85 t280.length co85] rfl (by (try simp only [List.map_toArray, List.map_cons, List.map_nil]); first | done | rfl | (simp only [List.length_drop, List.length_take]; rfl)) ?_; (with_reducible refine (stemma_Print.calls k _ _ t280 t283 t284 _ ?side1 ?side2 A6.out).mono ?_); (case side1 => repeat (first | exact (Kd.R_reads' HO282.out).2.2 | (with_reducible refine Kd.C_alloc ?_ _) | (with_reducible refine Kd.C_drewN ?_ _) | (with_reducible refine Kd.C_drew ?_))); (case side2 => exact (Kd.R_reads' HO282.out).2.1); rintro e w86 ⟨rfl, hb⟩; refine ⟨_, rfl, ?_⟩; have n0_ := Aside0.mk (Kd.R_below (by (with_reducible repeat (first | apply Kd.R_alloc | apply Kd.R_drewN | apply Kd.R_drew)); exact HO270.out) hb); have n1_ := Aside0.mk (Kd.N_below (by (with_reducible repeat (first | apply Kd.N_alloc | apply Kd.N_drewN | apply Kd.N_drew)); exact HO273.out) hb); have n2_ := Aside0.mk (Kd.R_below (by (with_reducible repeat (first | apply Kd.R_alloc | apply Kd.R_drewN | apply Kd.R_drew)); exact HO277.out) hb); have n3_ := Aside0.mk (Kd.R_below (by (with_reducible repeat (first | apply Kd.R_alloc | apply Kd.R_drewN | apply Kd.R_drew)); exact HO282.out) hb); have n4_ := Aside0.mk (below_step (by repeat (first | (with_reducible first | exact HB.out | apply below_alloc | apply pw_below_drewN | apply below_drew1) | exact HB.out)) hb); clear HO270; clear HO273; clear HO277; clear HO282; clear HB; have HO270 := n0_; have HO273 := n1_; have HO277 := n2_; have HO282 := n3_; have HB := n4_; clear n0_ n1_ n2_ n3_ n4_; (try clear hb); (try clear hb2); (try clear hk); (try clear hi)) | ((with_reducible refine gate_callee (f := 47) rfl ?_); refine goesL_ (some 25) rfl rfl Try.func47 (by kernel_rfl) rfl #[.int .i64 1, .int .i64 0, .bool true] rfl (by (try simp only [List.map_toArray, List.map_cons, List.map_nil]); first | done | rfl | (simp only [List.length_drop, List.length_take]; rfl)) ?_; (with_reducible refine (cippuslaw07_copies.calls 1 0 true t285 _ A7.out).mono ?_); rintro e w87 ⟨v286, rfl, ho0, hb⟩; refine ⟨_, rfl, ?_⟩; have n0_ := Aside0.mk (Kd.R_elder' (by (with_reducible repeat (first | apply Kd.R_alloc | apply Kd.R_drewN | apply Kd.R_drew)); exact HO270.out) (Kd.R_base ho0) hb); have n1_ := Aside0.mk (Kd.N_elder' (by (with_reducible repeat (first | apply Kd.N_alloc | apply Kd.N_drewN | apply Kd.N_drew)); exact HO273.out) (Kd.R_base ho0) hb); have n2_ := Aside0.mk (Kd.R_elder' (by (with_reducible repeat (first | apply Kd.R_alloc | apply Kd.R_drewN | apply Kd.R_drew)); exact HO277.out) (Kd.R_base ho0) hb); have n3_ := Aside0.mk (Kd.R_elder' (by (with_reducible repeat (first | apply Kd.R_alloc | apply Kd.R_drewN | apply Kd.R_drew)); exact HO282.out) (Kd.R_base ho0) hb); have n4_ := Aside0.mk (Kd.R_lower (Kd.R_new' (Kd.R_new' (Kd.R_new' ho0 (Kd.R_lt (by (with_reducible repeat (first | apply Kd.R_alloc | apply Kd.R_drewN | apply Kd.R_drew)); exact HO270.out))) (Kd.R_lt (by (with_reducible repeat (first | apply Kd.R_alloc | apply Kd.R_drewN | apply Kd.R_drew)); exact HO277.out))) (Kd.R_lt (by (with_reducible repeat (first | apply Kd.R_alloc | apply Kd.R_drewN | apply Kd.R_drew)); exact HO282.out))) (below_size (by repeat (first | (with_reducible first | exact HB.out | apply below_alloc | apply pw_below_drewN | apply below_drew1) | exact HB.out)))); have n5_ := Aside0.mk (below_step (by repeat (first | (with_reducible first | exact HB.out | apply below_alloc | apply pw_below_drewN | apply below_drew1) | exact HB.out)) hb); clear HO270; clear HO273; clear HO277; clear HO282; clear HB; have HO270 := n0_; have HO273 := n1_; have HO277 := n2_; have HO282 := n3_; have HO287 := n4_; have HB := n5_; clear n0_ n1_ n2_ n3_ n4_ n5_; (try clear hb); (try clear hb2); (try clear hk); (try clear hi); (try clear ho0); obtain ⟨Ao88, co88, eo88⟩ := Kd.R_slice HO287.out; subst eo88) | ((with_reducible refine gate_callee (f := 24) rfl ?_); refine goesL_ (some 26) rfl rfl Try.func24 (by kernel_rfl) rfl #[.slice Ao88 t285.length co88] rfl (by (try simp only [List.map_toArray, List.map_cons, List.map_nil]); first | done | rfl | (simp only [List.length_drop, List.length_take]; rfl)) ?_; (with_reducible refine (stemma_Fewest.calls k _ _ t285 t288 t289 _ ?side1 ?side2 A8.out).mono ?_); (case side1 => repeat (first | exact (Kd.R_reads' HO287.out).2.2 | (with_reducible refine Kd.C_alloc ?_ _) | (with_reducible refine Kd.C_drewN ?_ _) | (with_reducible refine Kd.C_drew ?_))); (case side2 => exact (Kd.R_reads' HO287.out).2.1); rintro e w89 ⟨rfl, hb⟩; refine ⟨_, rfl, ?_⟩; have n0_ := Aside0.mk (Kd.R_below (by (with_reducible repeat (first | apply Kd.R_alloc | apply Kd.R_drewN | apply Kd.R_drew)); exact HO270.out) hb); have n1_ := Aside0.mk (Kd.N_below (by (with_reducible repeat (first | apply Kd.N_alloc | apply Kd.N_drewN | apply Kd.N_drew)); exact HO273.out) hb); have n2_ := Aside0.mk (Kd.R_below (by (with_reducible repeat (first | apply Kd.R_alloc | apply Kd.R_drewN | apply Kd.R_drew)); exact HO277.out) hb); have n3_ := Aside0.mk (Kd.R_below (by (with_reducible repeat (first | apply Kd.R_alloc | apply Kd.R_drewN | apply Kd.R_drew)); exact HO282.out) hb); have n4_ := Aside0.mk (Kd.R_below (by (with_reducible repeat (first | apply Kd.R_alloc | apply Kd.R_drewN | apply Kd.R_drew)); exact HO287.out) hb); have n5_ := Aside0.mk (below_step (by repeat (first | (with_reducible first | exact HB.out | apply below_alloc | apply pw_below_drewN | apply below_drew1) | exact HB.out)) hb); clear HO270; clear HO273; clear HO277; clear HO282; clear HO287; clear HB; have HO270 := n0_; have HO273 := n1_; have HO277 := n2_; have HO282 := n3_; have HO287 := n4_; have HB := n5_; clear n0_ n1_ n2_ n3_ n4_ n5_; (try clear hb); (try clear hb2); (try clear hk); (try clear hi)))
          go_ret
          exact ⟨by first | rfl | (simp [errW_none, errW_some] <;> rfl) | (simp [*, errW_none, errW_some] <;> rfl), by repeat (first | (with_reducible first | exact HB.out | apply below_alloc | apply pw_below_drewN | apply below_drew1) | exact HB.out)⟩
      · rw [if_neg c11] at H
        have c11b0 : (t284 == 0) = false := beq_eq_false_iff_ne.mpr c11
        have c11b1 : (t284 != 0) = true := bne_iff_ne.mpr c11
        obtain rfl := Option.some.inj H
        go_enter Try.func17, Try.ntmps17
        go_wp2_with (first | ((with_reducible refine gate_callee (f := 47) rfl ?_); refine goesL_ (some 10) rfl rfl Try.func47 (by kernel_rfl) rfl #[.int .i64 1, .int .i64 1, .bool true] rfl (by (try simp only [List.map_toArray, List.map_cons, List.map_nil]); first | done | rfl | (simp only [List.length_drop, List.length_take]; rfl)) ?_; (with_reducible refine (cippuslaw07_copies.calls 1 1 true t268 _ A1.out).mono ?_); rintro e w90 ⟨v269, rfl, ho0, hb⟩; refine ⟨_, rfl, ?_⟩; have n0_ := Aside0.mk (Kd.R_lower ho0 (below_size (by repeat (first | (with_reducible first | exact HB.out | apply below_alloc | apply pw_below_drewN | apply below_drew1) | exact HB.out)))); have n1_ := Aside0.mk (below_step (by repeat (first | (with_reducible first | exact HB.out | apply below_alloc | apply pw_below_drewN | apply below_drew1) | exact HB.out)) hb); clear HB; have HO270 := n0_; have HB := n1_; clear n0_ n1_; (try clear hb); (try clear hb2); (try clear hk); (try clear hi); (try clear ho0); obtain ⟨Ao91, co91, eo91⟩ := Kd.R_slice HO270.out; subst eo91) | ((with_reducible refine gate_callee (f := 30) rfl ?_); refine goesL_ (some 11) rfl rfl Try.func30 (by kernel_rfl) rfl #[.slice Ao91 t268.length co91] rfl (by (try simp only [List.map_toArray, List.map_cons, List.map_nil]); first | done | rfl | (simp only [List.length_drop, List.length_take]; rfl)) ?_; (with_reducible refine (stemma_Sources.calls k _ _ t268 t271 t274 _ ?side1 ?side2 A2.out).mono ?_); (case side1 => repeat (first | exact (Kd.R_reads' HO270.out).2.2 | (with_reducible refine Kd.C_alloc ?_ _) | (with_reducible refine Kd.C_drewN ?_ _) | (with_reducible refine Kd.C_drew ?_))); (case side2 => exact (Kd.R_reads' HO270.out).2.1); rintro e w92 ⟨v272, rfl, ho0, hb⟩; refine ⟨_, rfl, ?_⟩; have n0_ := Aside0.mk (Kd.R_below (by (with_reducible repeat (first | apply Kd.R_alloc | apply Kd.R_drewN | apply Kd.R_drew)); exact HO270.out) hb); have n1_ := Aside0.mk (Kd.N_lower (Kd.N_mono (ok' := fun k_ => some k_ ≠ (.slice Ao91 t268.length co91 : Value).ownBlock) ho0 (fun k_ hk_ => (Kd.fresh' (Kd.R_lt (by (with_reducible repeat (first | apply Kd.R_alloc | apply Kd.R_drewN | apply Kd.R_drew)); exact HO270.out)) k_ hk_))) (below_size (by repeat (first | (with_reducible first | exact HB.out | apply below_alloc | apply pw_below_drewN | apply below_drew1) | exact HB.out)))); have n2_ := Aside0.mk (below_step (by repeat (first | (with_reducible first | exact HB.out | apply below_alloc | apply pw_below_drewN | apply below_drew1) | exact HB.out)) hb); clear HO270; clear HB; have HO270 := n0_; have HO273 := n1_; have HB := n2_; clear n0_ n1_ n2_; (try clear hb); (try clear hb2); (try clear hk); (try clear hi); (try clear ho0)) | ((with_reducible refine gate_callee (f := 47) rfl ?_); refine goesL_ (some 15) rfl rfl Try.func47 (by kernel_rfl) rfl #[.int .i64 1, .int .i64 0, .bool true] rfl (by (try simp only [List.map_toArray, List.map_cons, List.map_nil]); first | done | rfl | (simp only [List.length_drop, List.length_take]; rfl)) ?_; (with_reducible refine (cippuslaw07_copies.calls 1 0 true t275 _ A3.out).mono ?_); rintro e w93 ⟨v276, rfl, ho0, hb⟩; refine ⟨_, rfl, ?_⟩; have n0_ := Aside0.mk (Kd.R_elder' (by (with_reducible repeat (first | apply Kd.R_alloc | apply Kd.R_drewN | apply Kd.R_drew)); exact HO270.out) (Kd.R_base ho0) hb); have n1_ := Aside0.mk (Kd.N_elder' (by (with_reducible repeat (first | apply Kd.N_alloc | apply Kd.N_drewN | apply Kd.N_drew)); exact HO273.out) (Kd.R_base ho0) hb); have n2_ := Aside0.mk (Kd.R_lower (Kd.R_new' ho0 (Kd.R_lt (by (with_reducible repeat (first | apply Kd.R_alloc | apply Kd.R_drewN | apply Kd.R_drew)); exact HO270.out))) (below_size (by repeat (first | (with_reducible first | exact HB.out | apply below_alloc | apply pw_below_drewN | apply below_drew1) | exact HB.out)))); have n3_ := Aside0.mk (below_step (by repeat (first | (with_reducible first | exact HB.out | apply below_alloc | apply pw_below_drewN | apply below_drew1) | exact HB.out)) hb); clear HO270; clear HO273; clear HB; have HO270 := n0_; have HO273 := n1_; have HO277 := n2_; have HB := n3_; clear n0_ n1_ n2_ n3_; (try clear hb); (try clear hb2); (try clear hk); (try clear hi); (try clear ho0); obtain ⟨Ao94, co94, eo94⟩ := Kd.R_slice HO277.out; subst eo94) | ((with_reducible refine gate_callee (f := 20) rfl ?_); refine goesL_ (some 16) rfl rfl Try.func20 (by kernel_rfl) rfl #[.slice Ao94 t275.length co94] rfl (by (try simp only [List.map_toArray, List.map_cons, List.map_nil]); first | done | rfl | (simp only [List.length_drop, List.length_take]; rfl)) ?_; (with_reducible refine (stemma_Print.calls k _ _ t275 t278 t279 _ ?side1 ?side2 A4.out).mono ?_); (case side1 => repeat (first | exact (Kd.R_reads' HO277.out).2.2 | (with_reducible refine Kd.C_alloc ?_ _) | (with_reducible refine Kd.C_drewN ?_ _) | (with_reducible refine Kd.C_drew ?_))); (case side2 => exact (Kd.R_reads' HO277.out).2.1); rintro e w95 ⟨rfl, hb⟩; refine ⟨_, rfl, ?_⟩; have n0_ := Aside0.mk (Kd.R_below (by (with_reducible repeat (first | apply Kd.R_alloc | apply Kd.R_drewN | apply Kd.R_drew)); exact HO270.out) hb); have n1_ := Aside0.mk (Kd.N_below (by (with_reducible repeat (first | apply Kd.N_alloc | apply Kd.N_drewN | apply Kd.N_drew)); exact HO273.out) hb); have n2_ := Aside0.mk (Kd.R_below (by (with_reducible repeat (first | apply Kd.R_alloc | apply Kd.R_drewN | apply Kd.R_drew)); exact HO277.out) hb); have n3_ := Aside0.mk (below_step (by repeat (first | (with_reducible first | exact HB.out | apply below_alloc | apply pw_below_drewN | apply below_drew1) | exact HB.out)) hb); clear HO270; clear HO273; clear HO277; clear HB; have HO270 := n0_; have HO273 := n1_; have HO277 := n2_; have HB := n3_; clear n0_ n1_ n2_ n3_; (try clear hb); (try clear hb2); (try clear hk); (try clear hi)) | ((with_reducible refine gate_callee (f := 47) rfl ?_); refine goesL_ (some 20) rfl rfl Try.func47 (by kernel_rfl) rfl #[.int .i64 0, .int .i64 1, .bool true] rfl (by (try simp only [List.map_toArray, List.map_cons, List.map_nil]); first | done | rfl | (simp only [List.length_drop, List.length_take]; rfl)) ?_; (with_reducible refine (cippuslaw07_copies.calls 0 1 true t280 _ A5.out).mono ?_); rintro e w96 ⟨v281, rfl, ho0, hb⟩; refine ⟨_, rfl, ?_⟩; have n0_ := Aside0.mk (Kd.R_elder' (by (with_reducible repeat (first | apply Kd.R_alloc | apply Kd.R_drewN | apply Kd.R_drew)); exact HO270.out) (Kd.R_base ho0) hb); have n1_ := Aside0.mk (Kd.N_elder' (by (with_reducible repeat (first | apply Kd.N_alloc | apply Kd.N_drewN | apply Kd.N_drew)); exact HO273.out) (Kd.R_base ho0) hb); have n2_ := Aside0.mk (Kd.R_elder' (by (with_reducible repeat (first | apply Kd.R_alloc | apply Kd.R_drewN | apply Kd.R_drew)); exact HO277.out) (Kd.R_base ho0) hb); have n3_ := Aside0.mk (Kd.R_lower (Kd.R_new' (Kd.R_new' ho0 (Kd.R_lt (by (with_reducible repeat (first | apply Kd.R_alloc | apply Kd.R_drewN | apply Kd.R_drew)); exact HO270.out))) (Kd.R_lt (by (with_reducible repeat (first | apply Kd.R_alloc | apply Kd.R_drewN | apply Kd.R_drew)); exact HO277.out))) (below_size (by repeat (first | (with_reducible first | exact HB.out | apply below_alloc | apply pw_below_drewN | apply below_drew1) | exact HB.out)))); have n4_ := Aside0.mk (below_step (by repeat (first | (with_reducible first | exact HB.out | apply below_alloc | apply pw_below_drewN | apply below_drew1) | exact HB.out)) hb); clear HO270; clear HO273; clear HO277; clear HB; have HO270 := n0_; have HO273 := n1_; have HO277 := n2_; have HO282 := n3_; have HB := n4_; clear n0_ n1_ n2_ n3_ n4_; (try clear hb); (try clear hb2); (try clear hk); (try clear hi); (try clear ho0); obtain ⟨Ao97, co97, eo97⟩ := Kd.R_slice HO282.out; subst eo97) | ((with_reducible refine gate_callee (f := 20) rfl ?_); refine goesL_ (some 21) rfl rfl Try.func20 (by kernel_rfl) rfl #[.slice Ao97 t280.length co97] rfl (by (try simp only [List.map_toArray, List.map_cons, List.map_nil]); first | done | rfl | (simp only [List.length_drop, List.length_take]; rfl)) ?_; (with_reducible refine (stemma_Print.calls k _ _ t280 t283 t284 _ ?side1 ?side2 A6.out).mono ?_); (case side1 => repeat (first | exact (Kd.R_reads' HO282.out).2.2 | (with_reducible refine Kd.C_alloc ?_ _) | (with_reducible refine Kd.C_drewN ?_ _) | (with_reducible refine Kd.C_drew ?_))); (case side2 => exact (Kd.R_reads' HO282.out).2.1); rintro e w98 ⟨rfl, hb⟩; refine ⟨_, rfl, ?_⟩; have n0_ := Aside0.mk (Kd.R_below (by (with_reducible repeat (first | apply Kd.R_alloc | apply Kd.R_drewN | apply Kd.R_drew)); exact HO270.out) hb); have n1_ := Aside0.mk (Kd.N_below (by (with_reducible repeat (first | apply Kd.N_alloc | apply Kd.N_drewN | apply Kd.N_drew)); exact HO273.out) hb); have n2_ := Aside0.mk (Kd.R_below (by (with_reducible repeat (first | apply Kd.R_alloc | apply Kd.R_drewN | apply Kd.R_drew)); exact HO277.out) hb); have n3_ := Aside0.mk (Kd.R_below (by (with_reducible repeat (first | apply Kd.R_alloc | apply Kd.R_drewN | apply Kd.R_drew)); exact HO282.out) hb); have n4_ := Aside0.mk (below_step (by repeat (first | (with_reducible first | exact HB.out | apply below_alloc | apply pw_below_drewN | apply below_drew1) | exact HB.out)) hb); clear HO270; clear HO273; clear HO277; clear HO282; clear HB; have HO270 := n0_; have HO273 := n1_; have HO277 := n2_; have HO282 := n3_; have HB := n4_; clear n0_ n1_ n2_ n3_ n4_; (try clear hb); (try clear hb2); (try clear hk); (try clear hi)) | ((with_reducible refine gate_callee (f := 47) rfl ?_); refine goesL_ (some 25) rfl rfl Try.func47 (by kernel_rfl) rfl #[.int .i64 1, .int .i64 0, .bool true] rfl (by (try simp only [List.map_toArray, List.map_cons, List.map_nil]); first | done | rfl | (simp only [List.length_drop, List.length_take]; rfl)) ?_; (with_reducible refine (cippuslaw07_copies.calls 1 0 true t285 _ A7.out).mono ?_); rintro e w99 ⟨v286, rfl, ho0, hb⟩; refine ⟨_, rfl, ?_⟩; have n0_ := Aside0.mk (Kd.R_elder' (by (with_reducible repeat (first | apply Kd.R_alloc | apply Kd.R_drewN | apply Kd.R_drew)); exact HO270.out) (Kd.R_base ho0) hb); have n1_ := Aside0.mk (Kd.N_elder' (by (with_reducible repeat (first | apply Kd.N_alloc | apply Kd.N_drewN | apply Kd.N_drew)); exact HO273.out) (Kd.R_base ho0) hb); have n2_ := Aside0.mk (Kd.R_elder' (by (with_reducible repeat (first | apply Kd.R_alloc | apply Kd.R_drewN | apply Kd.R_drew)); exact HO277.out) (Kd.R_base ho0) hb); have n3_ := Aside0.mk (Kd.R_elder' (by (with_reducible repeat (first | apply Kd.R_alloc | apply Kd.R_drewN | apply Kd.R_drew)); exact HO282.out) (Kd.R_base ho0) hb); have n4_ := Aside0.mk (Kd.R_lower (Kd.R_new' (Kd.R_new' (Kd.R_new' ho0 (Kd.R_lt (by (with_reducible repeat (first | apply Kd.R_alloc | apply Kd.R_drewN | apply Kd.R_drew)); exact HO270.out))) (Kd.R_lt (by (with_reducible repeat (first | apply Kd.R_alloc | apply Kd.R_drewN | apply Kd.R_drew)); exact HO277.out))) (Kd.R_lt (by (with_reducible repeat (first | apply Kd.R_alloc | apply Kd.R_drewN | apply Kd.R_drew)); exact HO282.out))) (below_size (by repeat (first | (with_reducible first | exact HB.out | apply below_alloc | apply pw_below_drewN | apply below_drew1) | exact HB.out)))); have n5_ := Aside0.mk (below_step (by repeat (first | (with_reducible first | exact HB.out | apply below_alloc | apply pw_below_drewN | apply below_drew1) | exact HB.out)) hb); clear HO270; clear HO273; clear HO277; clear HO282; clear HB; have HO270 := n0_; have HO273 := n1_; have HO277 := n2_; have HO282 := n3_; have HO287 := n4_; have HB := n5_; clear n0_ n1_ n2_ n3_ n4_ n5_; (try clear hb); (try clear hb2); (try clear hk); (try clear hi); (try clear ho0); obtain ⟨Ao100, co100, eo100⟩ := Kd.R_slice HO287.out; subst eo100) | ((with_reducible refine gate_callee (f := 24) rfl ?_); refine goesL_ (some 26) rfl rfl Try.func24 (by kernel_rfl) rfl #[.slice Ao100 t285.length co100] rfl (by (try simp only [List.map_toArray, List.map_cons, List.map_nil]); first | done | rfl | (simp only [List.length_drop, List.length_take]; rfl)) ?_; (with_reducible refine (stemma_Fewest.calls k _ _ t285 t288 t289 _ ?side1 ?side2 A8.out).mono ?_); (case side1 => repeat (first | exact (Kd.R_reads' HO287.out).2.2 | (with_reducible refine Kd.C_alloc ?_ _) | (with_reducible refine Kd.C_drewN ?_ _) | (with_reducible refine Kd.C_drew ?_))); (case side2 => exact (Kd.R_reads' HO287.out).2.1); rintro e w101 ⟨rfl, hb⟩; refine ⟨_, rfl, ?_⟩; have n0_ := Aside0.mk (Kd.R_below (by (with_reducible repeat (first | apply Kd.R_alloc | apply Kd.R_drewN | apply Kd.R_drew)); exact HO270.out) hb); have n1_ := Aside0.mk (Kd.N_below (by (with_reducible repeat (first | apply Kd.N_alloc | apply Kd.N_drewN | apply Kd.N_drew)); exact HO273.out) hb); have n2_ := Aside0.mk (Kd.R_below (by (with_reducible repeat (first | apply Kd.R_alloc | apply Kd.R_drewN | apply Kd.R_drew)); exact HO277.out) hb); have n3_ := Aside0.mk (Kd.R_below (by (with_reducible repeat (first | apply Kd.R_alloc | apply Kd.R_drewN | apply Kd.R_drew)); exact HO282.out) hb); have n4_ := Aside0.mk (Kd.R_below (by (with_reducible repeat (first | apply Kd.R_alloc | apply Kd.R_drewN | apply Kd.R_drew)); exact HO287.out) hb); have n5_ := Aside0.mk (below_step (by repeat (first | (with_reducible first | exact HB.out | apply below_alloc | apply pw_below_drewN | apply below_drew1) | exact HB.out)) hb); clear HO270; clear HO273; clear HO277; clear HO282; clear HO287; clear HB; have HO270 := n0_; have HO273 := n1_; have HO277 := n2_; have HO282 := n3_; have HO287 := n4_; have HB := n5_; clear n0_ n1_ n2_ n3_ n4_ n5_; (try clear hb); (try clear hb2); (try clear hk); (try clear hi)))
        go_ret
        exact ⟨by first | rfl | (simp [errW_none, errW_some] <;> rfl) | (simp [*, errW_none, errW_some] <;> rfl), by repeat (first | (with_reducible first | exact HB.out | apply below_alloc | apply pw_below_drewN | apply below_drew1) | exact HB.out)⟩
    · rw [if_neg c10] at H
      have c10b0 : (t279 == 0) = false := beq_eq_false_iff_ne.mpr c10
      have c10b1 : (t279 != 0) = true := bne_iff_ne.mpr c10
      obtain rfl := Option.some.inj H
      go_enter Try.func17, Try.ntmps17
      go_wp2_with (first | ((with_reducible refine gate_callee (f := 47) rfl ?_); refine goesL_ (some 10) rfl rfl Try.func47 (by kernel_rfl) rfl #[.int .i64 1, .int .i64 1, .bool true] rfl (by (try simp only [List.map_toArray, List.map_cons, List.map_nil]); first | done | rfl | (simp only [List.length_drop, List.length_take]; rfl)) ?_; (with_reducible refine (cippuslaw07_copies.calls 1 1 true t268 _ A1.out).mono ?_); rintro e w102 ⟨v269, rfl, ho0, hb⟩; refine ⟨_, rfl, ?_⟩; have n0_ := Aside0.mk (Kd.R_lower ho0 (below_size (by repeat (first | (with_reducible first | exact HB.out | apply below_alloc | apply pw_below_drewN | apply below_drew1) | exact HB.out)))); have n1_ := Aside0.mk (below_step (by repeat (first | (with_reducible first | exact HB.out | apply below_alloc | apply pw_below_drewN | apply below_drew1) | exact HB.out)) hb); clear HB; have HO270 := n0_; have HB := n1_; clear n0_ n1_; (try clear hb); (try clear hb2); (try clear hk); (try clear hi); (try clear ho0); obtain ⟨Ao103, co103, eo103⟩ := Kd.R_slice HO270.out; subst eo103) | ((with_reducible refine gate_callee (f := 30) rfl ?_); refine goesL_ (some 11) rfl rfl Try.func30 (by kernel_rfl) rfl #[.slice Ao103 t268.length co103] rfl (by (try simp only [List.map_toArray, List.map_cons, List.map_nil]); first | done | rfl | (simp only [List.length_drop, List.length_take]; rfl)) ?_; (with_reducible refine (stemma_Sources.calls k _ _ t268 t271 t274 _ ?side1 ?side2 A2.out).mono ?_); (case side1 => repeat (first | exact (Kd.R_reads' HO270.out).2.2 | (with_reducible refine Kd.C_alloc ?_ _) | (with_reducible refine Kd.C_drewN ?_ _) | (with_reducible refine Kd.C_drew ?_))); (case side2 => exact (Kd.R_reads' HO270.out).2.1); rintro e w104 ⟨v272, rfl, ho0, hb⟩; refine ⟨_, rfl, ?_⟩; have n0_ := Aside0.mk (Kd.R_below (by (with_reducible repeat (first | apply Kd.R_alloc | apply Kd.R_drewN | apply Kd.R_drew)); exact HO270.out) hb); have n1_ := Aside0.mk (Kd.N_lower (Kd.N_mono (ok' := fun k_ => some k_ ≠ (.slice Ao103 t268.length co103 : Value).ownBlock) ho0 (fun k_ hk_ => (Kd.fresh' (Kd.R_lt (by (with_reducible repeat (first | apply Kd.R_alloc | apply Kd.R_drewN | apply Kd.R_drew)); exact HO270.out)) k_ hk_))) (below_size (by repeat (first | (with_reducible first | exact HB.out | apply below_alloc | apply pw_below_drewN | apply below_drew1) | exact HB.out)))); have n2_ := Aside0.mk (below_step (by repeat (first | (with_reducible first | exact HB.out | apply below_alloc | apply pw_below_drewN | apply below_drew1) | exact HB.out)) hb); clear HO270; clear HB; have HO270 := n0_; have HO273 := n1_; have HB := n2_; clear n0_ n1_ n2_; (try clear hb); (try clear hb2); (try clear hk); (try clear hi); (try clear ho0)) | ((with_reducible refine gate_callee (f := 47) rfl ?_); refine goesL_ (some 15) rfl rfl Try.func47 (by kernel_rfl) rfl #[.int .i64 1, .int .i64 0, .bool true] rfl (by (try simp only [List.map_toArray, List.map_cons, List.map_nil]); first | done | rfl | (simp only [List.length_drop, List.length_take]; rfl)) ?_; (with_reducible refine (cippuslaw07_copies.calls 1 0 true t275 _ A3.out).mono ?_); rintro e w105 ⟨v276, rfl, ho0, hb⟩; refine ⟨_, rfl, ?_⟩; have n0_ := Aside0.mk (Kd.R_elder' (by (with_reducible repeat (first | apply Kd.R_alloc | apply Kd.R_drewN | apply Kd.R_drew)); exact HO270.out) (Kd.R_base ho0) hb); have n1_ := Aside0.mk (Kd.N_elder' (by (with_reducible repeat (first | apply Kd.N_alloc | apply Kd.N_drewN | apply Kd.N_drew)); exact HO273.out) (Kd.R_base ho0) hb); have n2_ := Aside0.mk (Kd.R_lower (Kd.R_new' ho0 (Kd.R_lt (by (with_reducible repeat (first | apply Kd.R_alloc | apply Kd.R_drewN | apply Kd.R_drew)); exact HO270.out))) (below_size (by repeat (first | (with_reducible first | exact HB.out | apply below_alloc | apply pw_below_drewN | apply below_drew1) | exact HB.out)))); have n3_ := Aside0.mk (below_step (by repeat (first | (with_reducible first | exact HB.out | apply below_alloc | apply pw_below_drewN | apply below_drew1) | exact HB.out)) hb); clear HO270; clear HO273; clear HB; have HO270 := n0_; have HO273 := n1_; have HO277 := n2_; have HB := n3_; clear n0_ n1_ n2_ n3_; (try clear hb); (try clear hb2); (try clear hk); (try clear hi); (try clear ho0); obtain ⟨Ao106, co106, eo106⟩ := Kd.R_slice HO277.out; subst eo106) | ((with_reducible refine gate_callee (f := 20) rfl ?_); refine goesL_ (some 16) rfl rfl Try.func20 (by kernel_rfl) rfl #[.slice Ao106 t275.length co106] rfl (by (try simp only [List.map_toArray, List.map_cons, List.map_nil]); first | done | rfl | (simp only [List.length_drop, List.length_take]; rfl)) ?_; (with_reducible refine (stemma_Print.calls k _ _ t275 t278 t279 _ ?side1 ?side2 A4.out).mono ?_); (case side1 => repeat (first | exact (Kd.R_reads' HO277.out).2.2 | (with_reducible refine Kd.C_alloc ?_ _) | (with_reducible refine Kd.C_drewN ?_ _) | (with_reducible refine Kd.C_drew ?_))); (case side2 => exact (Kd.R_reads' HO277.out).2.1); rintro e w107 ⟨rfl, hb⟩; refine ⟨_, rfl, ?_⟩; have n0_ := Aside0.mk (Kd.R_below (by (with_reducible repeat (first | apply Kd.R_alloc | apply Kd.R_drewN | apply Kd.R_drew)); exact HO270.out) hb); have n1_ := Aside0.mk (Kd.N_below (by (with_reducible repeat (first | apply Kd.N_alloc | apply Kd.N_drewN | apply Kd.N_drew)); exact HO273.out) hb); have n2_ := Aside0.mk (Kd.R_below (by (with_reducible repeat (first | apply Kd.R_alloc | apply Kd.R_drewN | apply Kd.R_drew)); exact HO277.out) hb); have n3_ := Aside0.mk (below_step (by repeat (first | (with_reducible first | exact HB.out | apply below_alloc | apply pw_below_drewN | apply below_drew1) | exact HB.out)) hb); clear HO270; clear HO273; clear HO277; clear HB; have HO270 := n0_; have HO273 := n1_; have HO277 := n2_; have HB := n3_; clear n0_ n1_ n2_ n3_; (try clear hb); (try clear hb2); (try clear hk); (try clear hi)) | ((with_reducible refine gate_callee (f := 47) rfl ?_); refine goesL_ (some 20) rfl rfl Try.func47 (by kernel_rfl) rfl #[.int .i64 0, .int .i64 1, .bool true] rfl (by (try simp only [List.map_toArray, List.map_cons, List.map_nil]); first | done | rfl | (simp only [List.length_drop, List.length_take]; rfl)) ?_; (with_reducible refine (cippuslaw07_copies.calls 0 1 true t280 _ A5.out).mono ?_); rintro e w108 ⟨v281, rfl, ho0, hb⟩; refine ⟨_, rfl, ?_⟩; have n0_ := Aside0.mk (Kd.R_elder' (by (with_reducible repeat (first | apply Kd.R_alloc | apply Kd.R_drewN | apply Kd.R_drew)); exact HO270.out) (Kd.R_base ho0) hb); have n1_ := Aside0.mk (Kd.N_elder' (by (with_reducible repeat (first | apply Kd.N_alloc | apply Kd.N_drewN | apply Kd.N_drew)); exact HO273.out) (Kd.R_base ho0) hb); have n2_ := Aside0.mk (Kd.R_elder' (by (with_reducible repeat (first | apply Kd.R_alloc | apply Kd.R_drewN | apply Kd.R_drew)); exact HO277.out) (Kd.R_base ho0) hb); have n3_ := Aside0.mk (Kd.R_lower (Kd.R_new' (Kd.R_new' ho0 (Kd.R_lt (by (with_reducible repeat (first | apply Kd.R_alloc | apply Kd.R_drewN | apply Kd.R_drew)); exact HO270.out))) (Kd.R_lt (by (with_reducible repeat (first | apply Kd.R_alloc | apply Kd.R_drewN | apply Kd.R_drew)); exact HO277.out))) (below_size (by repeat (first | (with_reducible first | exact HB.out | apply below_alloc | apply pw_below_drewN | apply below_drew1) | exact HB.out)))); have n4_ := Aside0.mk (below_step (by repeat (first | (with_reducible first | exact HB.out | apply below_alloc | apply pw_below_drewN | apply below_drew1) | exact HB.out)) hb); clear HO270; clear HO273; clear HO277; clear HB; have HO270 := n0_; have HO273 := n1_; have HO277 := n2_; have HO282 := n3_; have HB := n4_; clear n0_ n1_ n2_ n3_ n4_; (try clear hb); (try clear hb2); (try clear hk); (try clear hi); (try clear ho0); obtain ⟨Ao109, co109, eo109⟩ := Kd.R_slice HO282.out; subst eo109) | ((with_reducible refine gate_callee (f := 20) rfl ?_); refine goesL_ (some 21) rfl rfl Try.func20 (by kernel_rfl) rfl #[.slice Ao109 t280.length co109] rfl (by (try simp only [List.map_toArray, List.map_cons, List.map_nil]); first | done | rfl | (simp only [List.length_drop, List.length_take]; rfl)) ?_; (with_reducible refine (stemma_Print.calls k _ _ t280 t283 t284 _ ?side1 ?side2 A6.out).mono ?_); (case side1 => repeat (first | exact (Kd.R_reads' HO282.out).2.2 | (with_reducible refine Kd.C_alloc ?_ _) | (with_reducible refine Kd.C_drewN ?_ _) | (with_reducible refine Kd.C_drew ?_))); (case side2 => exact (Kd.R_reads' HO282.out).2.1); rintro e w110 ⟨rfl, hb⟩; refine ⟨_, rfl, ?_⟩; have n0_ := Aside0.mk (Kd.R_below (by (with_reducible repeat (first | apply Kd.R_alloc | apply Kd.R_drewN | apply Kd.R_drew)); exact HO270.out) hb); have n1_ := Aside0.mk (Kd.N_below (by (with_reducible repeat (first | apply Kd.N_alloc | apply Kd.N_drewN | apply Kd.N_drew)); exact HO273.out) hb); have n2_ := Aside0.mk (Kd.R_below (by (with_reducible repeat (first | apply Kd.R_alloc | apply Kd.R_drewN | apply Kd.R_drew)); exact HO277.out) hb); have n3_ := Aside0.mk (Kd.R_below (by (with_reducible repeat (first | apply Kd.R_alloc | apply Kd.R_drewN | apply Kd.R_drew)); exact HO282.out) hb); have n4_ := Aside0.mk (below_step (by repeat (first | (with_reducible first | exact HB.out | apply below_alloc | apply pw_below_drewN | apply below_drew1) | exact HB.out)) hb); clear HO270; clear HO273; clear HO277; clear HO282; clear HB; have HO270 := n0_; have HO273 := n1_; have HO277 := n2_; have HO282 := n3_; have HB := n4_; clear n0_ n1_ n2_ n3_ n4_; (try clear hb); (try clear hb2); (try clear hk); (try clear hi)) | ((with_reducible refine gate_callee (f := 47) rfl ?_); refine goesL_ (some 25) rfl rfl Try.func47 (by kernel_rfl) rfl #[.int .i64 1, .int .i64 0, .bool true] rfl (by (try simp only [List.map_toArray, List.map_cons, List.map_nil]); first | done | rfl | (simp only [List.length_drop, List.length_take]; rfl)) ?_; (with_reducible refine (cippuslaw07_copies.calls 1 0 true t285 _ A7.out).mono ?_); rintro e w111 ⟨v286, rfl, ho0, hb⟩; refine ⟨_, rfl, ?_⟩; have n0_ := Aside0.mk (Kd.R_elder' (by (with_reducible repeat (first | apply Kd.R_alloc | apply Kd.R_drewN | apply Kd.R_drew)); exact HO270.out) (Kd.R_base ho0) hb); have n1_ := Aside0.mk (Kd.N_elder' (by (with_reducible repeat (first | apply Kd.N_alloc | apply Kd.N_drewN | apply Kd.N_drew)); exact HO273.out) (Kd.R_base ho0) hb); have n2_ := Aside0.mk (Kd.R_elder' (by (with_reducible repeat (first | apply Kd.R_alloc | apply Kd.R_drewN | apply Kd.R_drew)); exact HO277.out) (Kd.R_base ho0) hb); have n3_ := Aside0.mk (Kd.R_elder' (by (with_reducible repeat (first | apply Kd.R_alloc | apply Kd.R_drewN | apply Kd.R_drew)); exact HO282.out) (Kd.R_base ho0) hb); have n4_ := Aside0.mk (Kd.R_lower (Kd.R_new' (Kd.R_new' (Kd.R_new' ho0 (Kd.R_lt (by (with_reducible repeat (first | apply Kd.R_alloc | apply Kd.R_drewN | apply Kd.R_drew)); exact HO270.out))) (Kd.R_lt (by (with_reducible repeat (first | apply Kd.R_alloc | apply Kd.R_drewN | apply Kd.R_drew)); exact HO277.out))) (Kd.R_lt (by (with_reducible repeat (first | apply Kd.R_alloc | apply Kd.R_drewN | apply Kd.R_drew)); exact HO282.out))) (below_size (by repeat (first | (with_reducible first | exact HB.out | apply below_alloc | apply pw_below_drewN | apply below_drew1) | exact HB.out)))); have n5_ := Aside0.mk (below_step (by repeat (first | (with_reducible first | exact HB.out | apply below_alloc | apply pw_below_drewN | apply below_drew1) | exact HB.out)) hb); clear HO270; clear HO273; clear HO277; clear HO282; clear HB; have HO270 := n0_; have HO273 := n1_; have HO277 := n2_; have HO282 := n3_; have HO287 := n4_; have HB := n5_; clear n0_ n1_ n2_ n3_ n4_ n5_; (try clear hb); (try clear hb2); (try clear hk); (try clear hi); (try clear ho0); obtain ⟨Ao112, co112, eo112⟩ := Kd.R_slice HO287.out; subst eo112) | ((with_reducible refine gate_callee (f := 24) rfl ?_); refine goesL_ (some 26) rfl rfl Try.func24 (by kernel_rfl) rfl #[.slice Ao112 t285.length co112] rfl (by (try simp only [List.map_toArray, List.map_cons, List.map_nil]); first | done | rfl | (simp only [List.length_drop, List.length_take]; rfl)) ?_; (with_reducible refine (stemma_Fewest.calls k _ _ t285 t288 t289 _ ?side1 ?side2 A8.out).mono ?_); (case side1 => repeat (first | exact (Kd.R_reads' HO287.out).2.2 | (with_reducible refine Kd.C_alloc ?_ _) | (with_reducible refine Kd.C_drewN ?_ _) | (with_reducible refine Kd.C_drew ?_))); (case side2 => exact (Kd.R_reads' HO287.out).2.1); rintro e w113 ⟨rfl, hb⟩; refine ⟨_, rfl, ?_⟩; have n0_ := Aside0.mk (Kd.R_below (by (with_reducible repeat (first | apply Kd.R_alloc | apply Kd.R_drewN | apply Kd.R_drew)); exact HO270.out) hb); have n1_ := Aside0.mk (Kd.N_below (by (with_reducible repeat (first | apply Kd.N_alloc | apply Kd.N_drewN | apply Kd.N_drew)); exact HO273.out) hb); have n2_ := Aside0.mk (Kd.R_below (by (with_reducible repeat (first | apply Kd.R_alloc | apply Kd.R_drewN | apply Kd.R_drew)); exact HO277.out) hb); have n3_ := Aside0.mk (Kd.R_below (by (with_reducible repeat (first | apply Kd.R_alloc | apply Kd.R_drewN | apply Kd.R_drew)); exact HO282.out) hb); have n4_ := Aside0.mk (Kd.R_below (by (with_reducible repeat (first | apply Kd.R_alloc | apply Kd.R_drewN | apply Kd.R_drew)); exact HO287.out) hb); have n5_ := Aside0.mk (below_step (by repeat (first | (with_reducible first | exact HB.out | apply below_alloc | apply pw_below_drewN | apply below_drew1) | exact HB.out)) hb); clear HO270; clear HO273; clear HO277; clear HO282; clear HO287; clear HB; have HO270 := n0_; have HO273 := n1_; have HO277 := n2_; have HO282 := n3_; have HO287 := n4_; have HB := n5_; clear n0_ n1_ n2_ n3_ n4_ n5_; (try clear hb); (try clear hb2); (try clear hk); (try clear hi)))
      go_ret
      exact ⟨by first | rfl | (simp [errW_none, errW_some] <;> rfl) | (simp [*, errW_none, errW_some] <;> rfl), by repeat (first | (with_reducible first | exact HB.out | apply below_alloc | apply pw_below_drewN | apply below_drew1) | exact HB.out)⟩
  · rw [if_neg c9] at H
    have c9b0 : (t274 == 0) = false := beq_eq_false_iff_ne.mpr c9
    have c9b1 : (t274 != 0) = true := bne_iff_ne.mpr c9
    obtain rfl := Option.some.inj H
    go_enter Try.func17, Try.ntmps17
    go_wp2_with (first | ((with_reducible refine gate_callee (f := 47) rfl ?_); refine goesL_ (some 10) rfl rfl Try.func47 (by kernel_rfl) rfl #[.int .i64 1, .int .i64 1, .bool true] rfl (by (try simp only [List.map_toArray, List.map_cons, List.map_nil]); first | done | rfl | (simp only [List.length_drop, List.length_take]; rfl)) ?_; (with_reducible refine (cippuslaw07_copies.calls 1 1 true t268 _ A1.out).mono ?_); rintro e w114 ⟨v269, rfl, ho0, hb⟩; refine ⟨_, rfl, ?_⟩; have n0_ := Aside0.mk (Kd.R_lower ho0 (below_size (by repeat (first | (with_reducible first | exact HB.out | apply below_alloc | apply pw_below_drewN | apply below_drew1) | exact HB.out)))); have n1_ := Aside0.mk (below_step (by repeat (first | (with_reducible first | exact HB.out | apply below_alloc | apply pw_below_drewN | apply below_drew1) | exact HB.out)) hb); clear HB; have HO270 := n0_; have HB := n1_; clear n0_ n1_; (try clear hb); (try clear hb2); (try clear hk); (try clear hi); (try clear ho0); obtain ⟨Ao115, co115, eo115⟩ := Kd.R_slice HO270.out; subst eo115) | ((with_reducible refine gate_callee (f := 30) rfl ?_); refine goesL_ (some 11) rfl rfl Try.func30 (by kernel_rfl) rfl #[.slice Ao115 t268.length co115] rfl (by (try simp only [List.map_toArray, List.map_cons, List.map_nil]); first | done | rfl | (simp only [List.length_drop, List.length_take]; rfl)) ?_; (with_reducible refine (stemma_Sources.calls k _ _ t268 t271 t274 _ ?side1 ?side2 A2.out).mono ?_); (case side1 => repeat (first | exact (Kd.R_reads' HO270.out).2.2 | (with_reducible refine Kd.C_alloc ?_ _) | (with_reducible refine Kd.C_drewN ?_ _) | (with_reducible refine Kd.C_drew ?_))); (case side2 => exact (Kd.R_reads' HO270.out).2.1); rintro e w116 ⟨v272, rfl, ho0, hb⟩; refine ⟨_, rfl, ?_⟩; have n0_ := Aside0.mk (Kd.R_below (by (with_reducible repeat (first | apply Kd.R_alloc | apply Kd.R_drewN | apply Kd.R_drew)); exact HO270.out) hb); have n1_ := Aside0.mk (Kd.N_lower (Kd.N_mono (ok' := fun k_ => some k_ ≠ (.slice Ao115 t268.length co115 : Value).ownBlock) ho0 (fun k_ hk_ => (Kd.fresh' (Kd.R_lt (by (with_reducible repeat (first | apply Kd.R_alloc | apply Kd.R_drewN | apply Kd.R_drew)); exact HO270.out)) k_ hk_))) (below_size (by repeat (first | (with_reducible first | exact HB.out | apply below_alloc | apply pw_below_drewN | apply below_drew1) | exact HB.out)))); have n2_ := Aside0.mk (below_step (by repeat (first | (with_reducible first | exact HB.out | apply below_alloc | apply pw_below_drewN | apply below_drew1) | exact HB.out)) hb); clear HO270; clear HB; have HO270 := n0_; have HO273 := n1_; have HB := n2_; clear n0_ n1_ n2_; (try clear hb); (try clear hb2); (try clear hk); (try clear hi); (try clear ho0)) | ((with_reducible refine gate_callee (f := 47) rfl ?_); refine goesL_ (some 15) rfl rfl Try.func47 (by kernel_rfl) rfl #[.int .i64 1, .int .i64 0, .bool true] rfl (by (try simp only [List.map_toArray, List.map_cons, List.map_nil]); first | done | rfl | (simp only [List.length_drop, List.length_take]; rfl)) ?_; (with_reducible refine (cippuslaw07_copies.calls 1 0 true t275 _ A3.out).mono ?_); rintro e w117 ⟨v276, rfl, ho0, hb⟩; refine ⟨_, rfl, ?_⟩; have n0_ := Aside0.mk (Kd.R_elder' (by (with_reducible repeat (first | apply Kd.R_alloc | apply Kd.R_drewN | apply Kd.R_drew)); exact HO270.out) (Kd.R_base ho0) hb); have n1_ := Aside0.mk (Kd.N_elder' (by (with_reducible repeat (first | apply Kd.N_alloc | apply Kd.N_drewN | apply Kd.N_drew)); exact HO273.out) (Kd.R_base ho0) hb); have n2_ := Aside0.mk (Kd.R_lower (Kd.R_new' ho0 (Kd.R_lt (by (with_reducible repeat (first | apply Kd.R_alloc | apply Kd.R_drewN | apply Kd.R_drew)); exact HO270.out))) (below_size (by repeat (first | (with_reducible first | exact HB.out | apply below_alloc | apply pw_below_drewN | apply below_drew1) | exact HB.out)))); have n3_ := Aside0.mk (below_step (by repeat (first | (with_reducible first | exact HB.out | apply below_alloc | apply pw_below_drewN | apply below_drew1) | exact HB.out)) hb); clear HO270; clear HO273; clear HB; have HO270 := n0_; have HO273 := n1_; have HO277 := n2_; have HB := n3_; clear n0_ n1_ n2_ n3_; (try clear hb); (try clear hb2); (try clear hk); (try clear hi); (try clear ho0); obtain ⟨Ao118, co118, eo118⟩ := Kd.R_slice HO277.out; subst eo118) | ((with_reducible refine gate_callee (f := 20) rfl ?_); refine goesL_ (some 16) rfl rfl Try.func20 (by kernel_rfl) rfl #[.slice Ao118 t275.length co118] rfl (by (try simp only [List.map_toArray, List.map_cons, List.map_nil]); first | done | rfl | (simp only [List.length_drop, List.length_take]; rfl)) ?_; (with_reducible refine (stemma_Print.calls k _ _ t275 t278 t279 _ ?side1 ?side2 A4.out).mono ?_); (case side1 => repeat (first | exact (Kd.R_reads' HO277.out).2.2 | (with_reducible refine Kd.C_alloc ?_ _) | (with_reducible refine Kd.C_drewN ?_ _) | (with_reducible refine Kd.C_drew ?_))); (case side2 => exact (Kd.R_reads' HO277.out).2.1); rintro e w119 ⟨rfl, hb⟩; refine ⟨_, rfl, ?_⟩; have n0_ := Aside0.mk (Kd.R_below (by (with_reducible repeat (first | apply Kd.R_alloc | apply Kd.R_drewN | apply Kd.R_drew)); exact HO270.out) hb); have n1_ := Aside0.mk (Kd.N_below (by (with_reducible repeat (first | apply Kd.N_alloc | apply Kd.N_drewN | apply Kd.N_drew)); exact HO273.out) hb); have n2_ := Aside0.mk (Kd.R_below (by (with_reducible repeat (first | apply Kd.R_alloc | apply Kd.R_drewN | apply Kd.R_drew)); exact HO277.out) hb); have n3_ := Aside0.mk (below_step (by repeat (first | (with_reducible first | exact HB.out | apply below_alloc | apply pw_below_drewN | apply below_drew1) | exact HB.out)) hb); clear HO270; clear HO273; clear HO277; clear HB; have HO270 := n0_; have HO273 := n1_; have HO277 := n2_; have HB := n3_; clear n0_ n1_ n2_ n3_; (try clear hb); (try clear hb2); (try clear hk); (try clear hi)) | ((with_reducible refine gate_callee (f := 47) rfl ?_); refine goesL_ (some 20) rfl rfl Try.func47 (by kernel_rfl) rfl #[.int .i64 0, .int .i64 1, .bool true] rfl (by (try simp only [List.map_toArray, List.map_cons, List.map_nil]); first | done | rfl | (simp only [List.length_drop, List.length_take]; rfl)) ?_; (with_reducible refine (cippuslaw07_copies.calls 0 1 true t280 _ A5.out).mono ?_); rintro e w120 ⟨v281, rfl, ho0, hb⟩; refine ⟨_, rfl, ?_⟩; have n0_ := Aside0.mk (Kd.R_elder' (by (with_reducible repeat (first | apply Kd.R_alloc | apply Kd.R_drewN | apply Kd.R_drew)); exact HO270.out) (Kd.R_base ho0) hb); have n1_ := Aside0.mk (Kd.N_elder' (by (with_reducible repeat (first | apply Kd.N_alloc | apply Kd.N_drewN | apply Kd.N_drew)); exact HO273.out) (Kd.R_base ho0) hb); have n2_ := Aside0.mk (Kd.R_elder' (by (with_reducible repeat (first | apply Kd.R_alloc | apply Kd.R_drewN | apply Kd.R_drew)); exact HO277.out) (Kd.R_base ho0) hb); have n3_ := Aside0.mk (Kd.R_lower (Kd.R_new' (Kd.R_new' ho0 (Kd.R_lt (by (with_reducible repeat (first | apply Kd.R_alloc | apply Kd.R_drewN | apply Kd.R_drew)); exact HO270.out))) (Kd.R_lt (by (with_reducible repeat (first | apply Kd.R_alloc | apply Kd.R_drewN | apply Kd.R_drew)); exact HO277.out))) (below_size (by repeat (first | (with_reducible first | exact HB.out | apply below_alloc | apply pw_below_drewN | apply below_drew1) | exact HB.out)))); have n4_ := Aside0.mk (below_step (by repeat (first | (with_reducible first | exact HB.out | apply below_alloc | apply pw_below_drewN | apply below_drew1) | exact HB.out)) hb); clear HO270; clear HO273; clear HO277; clear HB; have HO270 := n0_; have HO273 := n1_; have HO277 := n2_; have HO282 := n3_; have HB := n4_; clear n0_ n1_ n2_ n3_ n4_; (try clear hb); (try clear hb2); (try clear hk); (try clear hi); (try clear ho0); obtain ⟨Ao121, co121, eo121⟩ := Kd.R_slice HO282.out; subst eo121) | ((with_reducible refine gate_callee (f := 20) rfl ?_); refine goesL_ (some 21) rfl rfl Try.func20 (by kernel_rfl) rfl #[.slice Ao121 t280.length co121] rfl (by (try simp only [List.map_toArray, List.map_cons, List.map_nil]); first | done | rfl | (simp only [List.length_drop, List.length_take]; rfl)) ?_; (with_reducible refine (stemma_Print.calls k _ _ t280 t283 t284 _ ?side1 ?side2 A6.out).mono ?_); (case side1 => repeat (first | exact (Kd.R_reads' HO282.out).2.2 | (with_reducible refine Kd.C_alloc ?_ _) | (with_reducible refine Kd.C_drewN ?_ _) | (with_reducible refine Kd.C_drew ?_))); (case side2 => exact (Kd.R_reads' HO282.out).2.1); rintro e w122 ⟨rfl, hb⟩; refine ⟨_, rfl, ?_⟩; have n0_ := Aside0.mk (Kd.R_below (by (with_reducible repeat (first | apply Kd.R_alloc | apply Kd.R_drewN | apply Kd.R_drew)); exact HO270.out) hb); have n1_ := Aside0.mk (Kd.N_below (by (with_reducible repeat (first | apply Kd.N_alloc | apply Kd.N_drewN | apply Kd.N_drew)); exact HO273.out) hb); have n2_ := Aside0.mk (Kd.R_below (by (with_reducible repeat (first | apply Kd.R_alloc | apply Kd.R_drewN | apply Kd.R_drew)); exact HO277.out) hb); have n3_ := Aside0.mk (Kd.R_below (by (with_reducible repeat (first | apply Kd.R_alloc | apply Kd.R_drewN | apply Kd.R_drew)); exact HO282.out) hb); have n4_ := Aside0.mk (below_step (by repeat (first | (with_reducible first | exact HB.out | apply below_alloc | apply pw_below_drewN | apply below_drew1) | exact HB.out)) hb); clear HO270; clear HO273; clear HO277; clear HO282; clear HB; have HO270 := n0_; have HO273 := n1_; have HO277 := n2_; have HO282 := n3_; have HB := n4_; clear n0_ n1_ n2_ n3_ n4_; (try clear hb); (try clear hb2); (try clear hk); (try clear hi)) | ((with_reducible refine gate_callee (f := 47) rfl ?_); refine goesL_ (some 25) rfl rfl Try.func47 (by kernel_rfl) rfl #[.int .i64 1, .int .i64 0, .bool true] rfl (by (try simp only [List.map_toArray, List.map_cons, List.map_nil]); first | done | rfl | (simp only [List.length_drop, List.length_take]; rfl)) ?_; (with_reducible refine (cippuslaw07_copies.calls 1 0 true t285 _ A7.out).mono ?_); rintro e w123 ⟨v286, rfl, ho0, hb⟩; refine ⟨_, rfl, ?_⟩; have n0_ := Aside0.mk (Kd.R_elder' (by (with_reducible repeat (first | apply Kd.R_alloc | apply Kd.R_drewN | apply Kd.R_drew)); exact HO270.out) (Kd.R_base ho0) hb); have n1_ := Aside0.mk (Kd.N_elder' (by (with_reducible repeat (first | apply Kd.N_alloc | apply Kd.N_drewN | apply Kd.N_drew)); exact HO273.out) (Kd.R_base ho0) hb); have n2_ := Aside0.mk (Kd.R_elder' (by (with_reducible repeat (first | apply Kd.R_alloc | apply Kd.R_drewN | apply Kd.R_drew)); exact HO277.out) (Kd.R_base ho0) hb); have n3_ := Aside0.mk (Kd.R_elder' (by (with_reducible repeat (first | apply Kd.R_alloc | apply Kd.R_drewN | apply Kd.R_drew)); exact HO282.out) (Kd.R_base ho0) hb); have n4_ := Aside0.mk (Kd.R_lower (Kd.R_new' (Kd.R_new' (Kd.R_new' ho0 (Kd.R_lt (by (with_reducible repeat (first | apply Kd.R_alloc | apply Kd.R_drewN | apply Kd.R_drew)); exact HO270.out))) (Kd.R_lt (by (with_reducible repeat (first | apply Kd.R_alloc | apply Kd.R_drewN | apply Kd.R_drew)); exact HO277.out))) (Kd.R_lt (by (with_reducible repeat (first | apply Kd.R_alloc | apply Kd.R_drewN | apply Kd.R_drew)); exact HO282.out))) (below_size (by repeat (first | (with_reducible first | exact HB.out | apply below_alloc | apply pw_below_drewN | apply below_drew1) | exact HB.out)))); have n5_ := Aside0.mk (below_step (by repeat (first | (with_reducible first | exact HB.out | apply below_alloc | apply pw_below_drewN | apply below_drew1) | exact HB.out)) hb); clear HO270; clear HO273; clear HO277; clear HO282; clear HB; have HO270 := n0_; have HO273 := n1_; have HO277 := n2_; have HO282 := n3_; have HO287 := n4_; have HB := n5_; clear n0_ n1_ n2_ n3_ n4_ n5_; (try clear hb); (try clear hb2); (try clear hk); (try clear hi); (try clear ho0); obtain ⟨Ao124, co124, eo124⟩ := Kd.R_slice HO287.out; subst eo124) | ((with_reducible refine gate_callee (f := 24) rfl ?_); refine goesL_ (some 26) rfl rfl Try.func24 (by kernel_rfl) rfl #[.slice Ao124 t285.length co124] rfl (by (try simp only [List.map_toArray, List.map_cons, List.map_nil]); first | done | rfl | (simp only [List.length_drop, List.length_take]; rfl)) ?_; (with_reducible refine (stemma_Fewest.calls k _ _ t285 t288 t289 _ ?side1 ?side2 A8.out).mono ?_); (case side1 => repeat (first | exact (Kd.R_reads' HO287.out).2.2 | (with_reducible refine Kd.C_alloc ?_ _) | (with_reducible refine Kd.C_drewN ?_ _) | (with_reducible refine Kd.C_drew ?_))); (case side2 => exact (Kd.R_reads' HO287.out).2.1); rintro e w125 ⟨rfl, hb⟩; refine ⟨_, rfl, ?_⟩; have n0_ := Aside0.mk (Kd.R_below (by (with_reducible repeat (first | apply Kd.R_alloc | apply Kd.R_drewN | apply Kd.R_drew)); exact HO270.out) hb); have n1_ := Aside0.mk (Kd.N_below (by (with_reducible repeat (first | apply Kd.N_alloc | apply Kd.N_drewN | apply Kd.N_drew)); exact HO273.out) hb); have n2_ := Aside0.mk (Kd.R_below (by (with_reducible repeat (first | apply Kd.R_alloc | apply Kd.R_drewN | apply Kd.R_drew)); exact HO277.out) hb); have n3_ := Aside0.mk (Kd.R_below (by (with_reducible repeat (first | apply Kd.R_alloc | apply Kd.R_drewN | apply Kd.R_drew)); exact HO282.out) hb); have n4_ := Aside0.mk (Kd.R_below (by (with_reducible repeat (first | apply Kd.R_alloc | apply Kd.R_drewN | apply Kd.R_drew)); exact HO287.out) hb); have n5_ := Aside0.mk (below_step (by repeat (first | (with_reducible first | exact HB.out | apply below_alloc | apply pw_below_drewN | apply below_drew1) | exact HB.out)) hb); clear HO270; clear HO273; clear HO277; clear HO282; clear HO287; clear HB; have HO270 := n0_; have HO273 := n1_; have HO277 := n2_; have HO282 := n3_; have HO287 := n4_; have HB := n5_; clear n0_ n1_ n2_ n3_ n4_ n5_; (try clear hb); (try clear hb2); (try clear hk); (try clear hi)))
    go_ret
    exact ⟨by first | rfl | (simp [errW_none, errW_some] <;> rfl) | (simp [*, errW_none, errW_some] <;> rfl), by repeat (first | (with_reducible first | exact HB.out | apply below_alloc | apply pw_below_drewN | apply below_drew1) | exact HB.out)⟩
end Go.Proofs.Ytegjollhajgcdaa.P
namespace Go.Proofs.Ytegjollhajgcdaa.P
open Go.RowKit Go.Proofs.YtegjollhajgcdaaW.PrintWords Go.Proofs.YtegjollhajgcdaaW.PrintLast Go.Proofs.YtegjollhajgcdaaW.PrintMore
attribute [local go_sem] max2_int min2_int max_two min_two max_three min_three max_four min_four   -- for this text's walks alone
set_option linter.unusedVariables false
set_option linter.unusedSimpArgs false
def cippuskit_Urn_Odds.f (s0_0 : Int) (s0_1 : Int) (a1 : Int) (a2 : Int) : Option (Bool × Int × Int) := (cippuskit_Urn_Up.f s0_0 s0_1 a2).bind fun bt104 => (some (decide (bt104.1 < a1), bt104.2.1, bt104.2.2))
set_option maxHeartbeats 8000000 in
set_option maxRecDepth 100000 in
theorem cippuskit_Urn_Odds.calls (g : Nat) (s0_0 : Int) (s0_1 : Int) (a1 : Int) (a2 : Int) (r1 : Bool) (r2 : Int) (r3 : Int) (w0 w : World) (hI : IsS72 w0 w g s0_0 s0_1) (hB : Below w0.heap.size w0 w) (h : cippuskit_Urn_Odds.f s0_0 s0_1 a1 a2 = some (r1, r2, r3)) :
    Calls Try.prog 27 #[.pointer (some ⟨g, 0, none⟩), .int .i64 a1, .int .i64 a2] w fun e w' => e = .returned (.bool r1) ∧ IsS72 w0 w' g r2 r3 ∧ Below w0.heap.size w0 w' ∧ KeepBut w w' g none := by
  have HI0 := Aside0.mk hI
  have HK := Aside0.mk (KeepBut.refl w g none)
  have HL := Aside0.mk hB.size
  clear hI
  have HW0 := Aside0.mk hB.size
  have HB := Aside0.mk hB
  clear hB
  have H : ((cippuskit_Urn_Up.f s0_0 s0_1 a2).bind fun bt104 => (some (decide (bt104.1 < a1), bt104.2.1, bt104.2.2))) = some (r1, r2, r3) := h
  clear h
  replace H := Option.bind_eq_some_iff.mp H
  obtain ⟨⟨t104, t105, t106⟩, A40, H⟩ := H
  replace H : (some (decide (t104 < a1), t105, t106)) = some (r1, r2, r3) := H
  have A4 := Aside0.mk A40
  clear A40
  simp only [Option.some.injEq, Prod.mk.injEq] at H
  obtain ⟨rfl, rfl, rfl⟩ := H
  go_enter Try.func27, Try.ntmps27
  go_wp2_with (first | ((with_reducible refine gate_callee (f := 28) rfl ?_); refine goesL_ (some 9) rfl rfl Try.func28 (by kernel_rfl) rfl #[.pointer (some ⟨g, 0, none⟩), .int .i64 a2] rfl (by (try simp only [List.map_toArray, List.map_cons, List.map_nil]); first | done | rfl | (simp only [List.length_drop, List.length_take]; rfl)) ?_; (with_reducible refine (cippuskit_Urn_Up.calls g s0_0 s0_1 a2 t104 t105 t106 w0 _ ?side1 ?side2 A4.out).mono ?_); (case side1 => repeat (first | (with_reducible first | exact HI0.out | apply IsS72.alloc | apply IsS72.drewN | apply IsS72.drew | apply IsS72.set_0 | apply IsS72.set_1) | exact HI0.out)); (case side2 => repeat (first | (with_reducible first | exact HB.out | apply below_alloc | apply pw_below_drewN | apply below_drew1 | refine below_set ?_ (IsS72.ge HI0.out)) | exact HB.out)); rintro e w5 ⟨rfl, hi, hb, hk⟩; refine ⟨_, rfl, ?_⟩; have n0_ := Aside0.mk (KeepBut.trans (by repeat (first | (with_reducible first | exact HK.out | apply KeepBut.set_ | apply keep_drewN | apply keep_drew | apply keep_alloc) | exact HK.out)) hk (.inl rfl)); have n1_ := Aside0.mk (hb); have n2_ := Aside0.mk (hi); clear HK; clear HB; clear HI0; have HK := n0_; have HB := n1_; have HI0 := n2_; clear n0_ n1_ n2_; (try clear hb); (try clear hb2); (try clear hk); (try clear hi)))
  go_ret
  exact ⟨by first | rfl | (simp [errW_none, errW_some] <;> rfl) | (simp [*, errW_none, errW_some] <;> rfl), by repeat (first | (with_reducible first | exact HI0.out | apply IsS72.alloc | apply IsS72.drewN | apply IsS72.drew | apply IsS72.set_0 | apply IsS72.set_1) | exact HI0.out), by repeat (first | (with_reducible first | exact HB.out | apply below_alloc | apply pw_below_drewN | apply below_drew1 | refine below_set ?_ (IsS72.ge HI0.out)) | exact HB.out), by repeat (first | (with_reducible first | exact HK.out | apply KeepBut.set_ | apply keep_drewN | apply keep_drew | apply keep_alloc) | exact HK.out)⟩
end Go.Proofs.Ytegjollhajgcdaa.P
namespace Go.Proofs.Ytegjollhajgcdaa.P
open Go.RowKit Go.Proofs.YtegjollhajgcdaaW.PrintWords Go.Proofs.YtegjollhajgcdaaW.PrintLast Go.Proofs.YtegjollhajgcdaaW.PrintMore
attribute [local go_sem] max2_int min2_int max_two min_two max_three min_three max_four min_four   -- for this text's walks alone
set_option linter.unusedVariables false
set_option linter.unusedSimpArgs false
def cippusref07_Apart.l0 : Nat → ByteArray → ByteArray → Int → Int → Option (Int)
  | 0, _, _, _, _ => none
  | k + 1, x0, x1, x5, x6 => if x6 < (x0.size : Int) then (if 0 ≤ x6 then (if x6 < (x1.size : Int) then (if (bt x0 x6) = (bt x1 x6) then (cippusref07_Apart.l0 k x0 x1 x5 (wrap64 (x6 + 1))) else (cippusref07_Apart.l0 k x0 x1 (wrap64 (x5 + 1)) (wrap64 (x6 + 1)))) else (none)) else (none)) else (some x5)
def cippusref07_Apart.f (k : Nat) (a0 : ByteArray) (a1 : ByteArray) : Option (Int) := cippusref07_Apart.l0 k a0 a1 0 0
set_option maxHeartbeats 8000000 in
set_option maxRecDepth 100000 in
theorem cippusref07_Apart.calls (k : Nat) (a0 : ByteArray) (a1 : ByteArray) (r : Int) (w : World) (h : cippusref07_Apart.f k a0 a1 = some r) :
    Calls Try.prog 43 #[.string a0, .string a1] w fun e w' => e = .returned (.int .i64 r) ∧ Drawn0 w w' := by
  have H : (cippusref07_Apart.l0 k a0 a1 0 0) = some r := h
  clear h
  have H' := Aside0.mk H
  clear H
  go_enter Try.func43, Try.ntmps43
  go_wp2
  repeat (go_quiet (fail); try go_wp2)
  go_loopg [5, 6] k (fun kq v5 v6 w' => ∃ (x5_1 : Int) (x6_1 : Int), v5 = .int .i64 x5_1 ∧ v6 = .int .i64 x6_1 ∧ Aside0 (cippusref07_Apart.l0 kq a0 a1 x5_1 x6_1 = some r) ∧ Aside0 (kq ≤ k) ∧ Drawn0 w w')
  case atStart => exact ⟨(0), (0), (by first | rfl | (simp; done) | (simp [*]; done)), (by first | rfl | (simp; done) | (simp [*]; done)), H', ⟨Nat.le_refl _⟩, by repeat (first | exact Drawn0.refl _ | apply Drawn0.step)⟩
  case round =>
    clear H'
    try clear p2
    obtain ⟨x5_1, x6_1, rfl, rfl, HA, HK1, ⟨m1, rfl⟩⟩ := hrel
    cases gk with
    | zero => exact absurd HA.out (by simp [cippusref07_Apart.l0])
    | succ k1 =>
      have H := HA.out
      clear HA
      simp only [cippusref07_Apart.l0] at H
      by_cases c3 : x6_1 < (a0.size : Int)
      · rw [if_pos c3] at H
        have c3b0 : decide (x6_1 < (a0.size : Int)) = true := decide_eq_true c3
        clear c3
        by_cases c4 : 0 ≤ x6_1
        · rw [if_pos c4] at H
          have c4b0 : decide (0 ≤ x6_1) = true := decide_eq_true c4
          clear c4
          by_cases c6 : x6_1 < (a1.size : Int)
          · rw [if_pos c6] at H
            have c6b0 : decide (x6_1 < (a1.size : Int)) = true := decide_eq_true c6
            clear c6
            by_cases c8 : (bt a0 x6_1) = (bt a1 x6_1)
            · rw [if_pos c8] at H
              have c8b0 : ((bt a0 x6_1) == (bt a1 x6_1)) = true := beq_iff_eq.mpr c8
              have c8b1 : ((bt a0 x6_1) != (bt a1 x6_1)) = false := bne_eq_false_iff_eq.mpr c8
              clear c8
              have H' := Aside0.mk H
              clear H
              have p5 : 0 ≤ (x6_1 : Int) := of_decide_eq_true (by first | (with_reducible assumption) | assumption)
              have q5 : x6_1 < (a0.size : Int) := of_decide_eq_true (by first | (with_reducible assumption) | assumption)
              have hx5 := bt_at a0 x6_1
              replace p5 := eq_true p5
              replace q5 := eq_true q5
              have p7 : 0 ≤ (x6_1 : Int) := of_decide_eq_true (by first | (with_reducible assumption) | assumption)
              have q7 : x6_1 < (a1.size : Int) := of_decide_eq_true (by first | (with_reducible assumption) | assumption)
              have hx7 := bt_at a1 x6_1
              replace p7 := eq_true p7
              replace q7 := eq_true q7
              go_wp2
              repeat (go_quiet (fail); try go_wp2)
              go_roundg k1
              case measure => have := HK1.out; omega
              case rel => exact ⟨(x5_1), (wrap64 (x6_1 + 1)), (by first | rfl | (simp; done) | (simp [*]; done)), (by first | rfl | (simp; done) | (simp [*]; done)), H', ⟨by have := HK1.out; omega⟩, by repeat (first | exact Drawn0.refl _ | apply Drawn0.step)⟩
            · rw [if_neg c8] at H
              have c8b0 : ((bt a0 x6_1) == (bt a1 x6_1)) = false := beq_eq_false_iff_ne.mpr c8
              have c8b1 : ((bt a0 x6_1) != (bt a1 x6_1)) = true := bne_iff_ne.mpr c8
              have H' := Aside0.mk H
              clear H
              have p5 : 0 ≤ (x6_1 : Int) := of_decide_eq_true (by first | (with_reducible assumption) | assumption)
              have q5 : x6_1 < (a0.size : Int) := of_decide_eq_true (by first | (with_reducible assumption) | assumption)
              have hx5 := bt_at a0 x6_1
              replace p5 := eq_true p5
              replace q5 := eq_true q5
              have p7 : 0 ≤ (x6_1 : Int) := of_decide_eq_true (by first | (with_reducible assumption) | assumption)
              have q7 : x6_1 < (a1.size : Int) := of_decide_eq_true (by first | (with_reducible assumption) | assumption)
              have hx7 := bt_at a1 x6_1
              replace p7 := eq_true p7
              replace q7 := eq_true q7
              go_wp2
              repeat (go_quiet (fail); try go_wp2)
              go_roundg k1
              case measure => have := HK1.out; omega
              case rel => exact ⟨(wrap64 (x5_1 + 1)), (wrap64 (x6_1 + 1)), (by first | rfl | (simp; done) | (simp [*]; done)), (by first | rfl | (simp; done) | (simp [*]; done)), H', ⟨by have := HK1.out; omega⟩, by repeat (first | exact Drawn0.refl _ | apply Drawn0.step)⟩
          · rw [if_neg c6] at H
            exact absurd H (by simp)
        · rw [if_neg c4] at H
          exact absurd H (by simp)
      · rw [if_neg c3] at H
        have c3b0 : decide (x6_1 < (a0.size : Int)) = false := decide_eq_false c3
        clear c3
        obtain rfl := Option.some.inj H
        go_wp2
        repeat (go_quiet (fail); try go_wp2)
        go_ret
        exact ⟨by first | rfl | (simp; done) | (simp [*]; done), by repeat (first | exact Drawn0.refl _ | apply Drawn0.step)⟩
end Go.Proofs.Ytegjollhajgcdaa.P
