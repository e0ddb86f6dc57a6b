/- Lemmas for the statement StemmaKnown of the given program, for every input that its row lets in. Conditions: none beyond those that each lemma tells. -/
import Derived.Laws.Shifts
import Derived.WalkKit
import Derived.Test.YtecdjnabmjhakaaDoorProg
import Derived.Below
import Derived.Deep.Draws
import Derived.Deep.AppendLies
import Derived.Maps.AppendAt
import Derived.OwnWalk
import Derived.Laws.BytesArg
import Derived.Laws.MakeOwn
import Derived.Laws.OwnMore
import Derived.Deep.OwnRows
import Derived.Tactics
import Derived.Lib.ConvBytes
import Derived.Laws.Slices
import Derived.KernelRfl
import Derived.RowKit3
import Derived.Deep.LoopGhost
import Derived.Deep.QuietTactic
import Derived.BigQuiet
import Derived.WideLaws
import Derived.Deep.DeepCutAuto
import Derived.Deep.CutBlock
import Derived.Deep.RegionHeld3
import Derived.Laws.Rows
import Derived.Lib.AppendStr
import Derived.ArgAppend
import Derived.Laws.IdiomCopy
import Derived.OrdersHeld
import Derived.Laws.BitsLemmas
import Derived.RowKit
import Derived.Lib.Hide
import Derived.DeepKeys4
import Derived.Maps.Own
import Derived.RangeFuncRecord
import Derived.WalkSpells
import Derived.Deep.CutRange
import Derived.RangeFuncNested
import Derived.RangeFuncBound
import Derived.RangeFuncCalls
import Derived.RangeFuncLeaves
import Derived.Shelf.Abstract
import Derived.Shelf.RegionOpen
import Derived.OwnWalkIn
import Derived.TacticsInMore
import Derived.LoopNIn
import Derived.LoopIn
import Derived.Maps.OwnIn
import Derived.Sort.CutIn
import Derived.Test.YtecdjnabmjhakaaDoorMStemmaKnown1
set_option linter.unusedVariables false
set_option linter.unusedSimpArgs false
namespace Go.Proofs.YtecdjnabmjhakaaDoor.OFix
open Go.RowKit
theorem cell_set_map (W : World) (p : Addr) (v : Value) : (W.setCell p v).cell? p = (W.cell? p).map fun _ => v := by
  unfold World.setCell World.cell?
  simp only [Array.getElem?_modify, if_true]
  cases ho : W.heap[p.block]? with
  | none => rfl
  | some o =>
    cases o with
    | cells c e fr =>
      by_cases hs : p.spot.isSome = true
      · simp [hs]
      · simp only [Option.map_some, hs, Bool.false_eq_true, if_false]
        by_cases ho2 : p.off < c.size
        · simp [ho2]
        · simp [ho2]
    | _ => rfl
theorem shr_mod (k yk : IntKind) (x y : Int) : Op.shift .shr k x yk (y % 256) = pure (.int k (x / 2 ^ min (y % 256).toNat k.bits)) := shift_shr_any k yk x _ (by omega)
theorem shl_mod (k yk : IntKind) (x y : Int) : Op.shift .shl k x yk (y % 256) = pure (.int k (k.wrap (x * 2 ^ min (y % 256).toNat k.bits))) := shift_shl_any k yk x _ (by omega)
theorem ne_nil_b (l : List UInt8) : (l != []) = !l.isEmpty := by cases l <;> rfl
attribute [go_sem] cell_set_map shr_mod shl_mod
end Go.Proofs.YtecdjnabmjhakaaDoor.OFix
namespace Go.Proofs.YtecdjnabmjhakaaDoor.P
open Go.RowKit Go.Proofs.YtecdjnabmjhakaaDoorW.PrintWords Go.Proofs.YtecdjnabmjhakaaDoorW.PrintLast Go.Proofs.YtecdjnabmjhakaaDoorW.PrintMore
attribute [local go_sem] max2_int min2_int max_two min_two max_three min_three max_four min_four   -- for this text's walks alone
set_option linter.unusedVariables false
set_option linter.unusedSimpArgs false
def errW : Option Int → Value
  | none => .nilIface
  | some c => .iface 0 (.int .i64 c)
theorem errW_none : errW none = .nilIface := rfl
theorem errW_some (c : Int) : errW (some c) = .iface 0 (.int .i64 c) := rfl
theorem info3 : (Tryd.prog.info? 3).map (fun i => (i.zero, i.size, i.bytes)) = some (some (.int .i64 0), 1, 8) := by kernel_rfl
theorem info5 : (Tryd.prog.info? 5).map (fun i => (i.zero, i.size, i.bytes)) = some (some (.int .u8 0), 1, 1) := by kernel_rfl
theorem info9 : (Tryd.prog.info? 9).map (fun i => (i.zero, i.size, i.bytes)) = some (some (.string ⟨#[]⟩), 1, 16) := by kernel_rfl
theorem info33 : (Tryd.prog.info? 33).map (fun i => (i.zero, i.size, i.bytes)) = some (some (.slice none 0 0), 1, 24) := by kernel_rfl
structure S25 where
  f0 : ByteArray
  f1 : Int
  f2 : Bool
def z25 : S25 := ⟨(⟨#[]⟩ : ByteArray), (0 : Int), false⟩
def k25 : Kd S25 := Kd.iso (Kd.pair Kd.string (Kd.pair (Kd.int .i64) Kd.bool)) (fun x : S25 => (x.f0, x.f1, x.f2))
theorem k25_open {w : World} {x : S25} {cs : List Value} (h : k25.K w x cs) : cs = [.string x.f0, .int .i64 x.f1, .bool x.f2] := by
  obtain ⟨_, _, rfl, rfl, ⟨_, _, rfl, rfl, rfl⟩⟩ := h
  exact rfl
theorem k25_openM {w : World} {base : Nat} {ok : Nat → Prop} {x : S25} {cs : List Value} (h : k25.M w base ok x cs) : cs = [.string x.f0, .int .i64 x.f1, .bool x.f2] := by
  obtain ⟨_, _, rfl, rfl, ⟨_, _, rfl, rfl, rfl⟩⟩ := h
  exact rfl
theorem k25_mkM (w : World) (base : Nat) (ok : Nat → Prop) (x : S25)  : k25.M w base ok x [.string x.f0, .int .i64 x.f1, .bool x.f2] := ⟨[.string x.f0], [.int .i64 x.f1, .bool x.f2], rfl, rfl, ⟨[.int .i64 x.f1], [.bool x.f2], rfl, rfl, rfl⟩⟩
def rd_T25 (xs : List S25) (i : Int) : S25 := xs.getD i.toNat z25
theorem at_T25 {w : World} {A : Option Addr} {n : Nat} {xs : List S25} (h : Kd.C k25 w A n xs) (i : Int) (h0 : 0 ≤ i) (h1 : i < n) : ∃ ad , A = some ad ∧ w.cell? (ad.add (i.toNat * 3)) = some (.string (rd_T25 xs i).f0) ∧ w.cell? ⟨(ad.add (i.toNat * 3)).block, (ad.add (i.toNat * 3)).off + 1, none⟩ = some (.int .i64 (rd_T25 xs i).f1) ∧ w.cell? ⟨(ad.add (i.toNat * 3)).block, (ad.add (i.toNat * 3)).off + 2, none⟩ = some (.bool (rd_T25 xs i).f2) := by
  obtain ⟨ad, c, e, _, hK, hc0⟩ := Kd.C_get h z25 i h0 h1
  have hc : ∀ j u, c[j]? = some u → w.cell? (ad.add (i.toNat * 3 + j)) = some u := hc0
  obtain rfl := k25_open hK
  exact ⟨ad, e, hc 0 _ rfl, by rw [← add_field _ _ 1 (by omega)]; exact hc 1 _ rfl, by rw [← add_field _ _ 2 (by omega)]; exact hc 2 _ rfl⟩
def rd_L4 (xs : List (List Int)) (i : Int) : (List Int) := xs.getD i.toNat ([] : List Int)
theorem at_L4 {w : World} {A : Option Addr} {n : Nat} {xs : List (List Int)} (h : Kd.C (Kd.slice 3 (Kd.int .i64)) w A n xs) (i : Int) (h0 : 0 ≤ i) (h1 : i < n) : ∃ ad A0 c0, A = some ad ∧ w.cell? (ad.add i.toNat) = some (.slice A0 (rd_L4 xs i).length c0) ∧ (rd_L4 xs i).length ≤ c0 ∧ (Kd.int .i64).C w A0 (rd_L4 xs i).length (rd_L4 xs i) := by
  obtain ⟨ad, c, e, _, hK, hc0⟩ := Kd.C_get h ([] : List Int) i h0 h1
  have hc : ∀ j u, c[j]? = some u → w.cell? (ad.add (i.toNat * 1 + j)) = some u := hc0
  obtain ⟨A0, c0, rfl, l0, g0⟩ := hK
  exact ⟨ad, A0, c0, e, by have hq := hc 0 _ rfl; rwa [Nat.mul_one, Nat.add_zero] at hq, l0, g0⟩
end Go.Proofs.YtecdjnabmjhakaaDoor.P
namespace Go.Proofs.YtecdjnabmjhakaaDoor.P
open Go.RowKit Go.Proofs.YtecdjnabmjhakaaDoorW.PrintWords Go.Proofs.YtecdjnabmjhakaaDoorW.PrintLast Go.Proofs.YtecdjnabmjhakaaDoorW.PrintMore
attribute [local go_sem] max2_int min2_int max_two min_two max_three min_three max_four min_four   -- for this text's walks alone
set_option linter.unusedVariables false
set_option linter.unusedSimpArgs false
mutual
def stemma_Check.l0 : Nat → List (S25) → List (S25) → Int → Int → Option (Int)
  | 0, _, _, _, _ => none
  | k + 1, x0, x14, x15, x16 => if x16 < x15 then (if 0 ≤ x16 then (if x16 < (x14.length : Int) then (if (((rd_T25 x14 x16).f0).size : Int) < 1 then (stemma_Check.j1 k x0 x14 x15 x16 true ((rd_T25 x14 x16).f0) ((rd_T25 x14 x16).f1) ((rd_T25 x14 x16).f2)) else (stemma_Check.j1 k x0 x14 x15 x16 (decide ((((rd_T25 x14 x16).f0).size : Int) > 8)) ((rd_T25 x14 x16).f0) ((rd_T25 x14 x16).f1) ((rd_T25 x14 x16).f2))) else (none)) else (none)) else (some 0)
def stemma_Check.j1 : Nat → List (S25) → List (S25) → Int → Int → Bool → ByteArray → Int → Bool → Option (Int)
  | 0, _, _, _, _, _, _, _, _ => none
  | k + 1, x0, x14, x15, x16, x29, x106000, x106001, x106002 => if x29 = true then (some 2) else (stemma_Check.l1 k x0 x14 x15 x16 (x106000.size : Int) 0 x106000 x106001 x106002)
def stemma_Check.l1 : Nat → List (S25) → List (S25) → Int → Int → Int → Int → ByteArray → Int → Bool → Option (Int)
  | 0, _, _, _, _, _, _, _, _, _ => none
  | k + 1, x0, x14, x15, x16, x32, x33, x106000, x106001, x106002 => if x33 < x32 then (if 0 ≤ x33 then (if x33 < (x106000.size : Int) then (if (bt x106000 x33) < 65 then (some 2) else (if (bt x106000 x33) > 90 then (some 2) else (stemma_Check.l1 k x0 x14 x15 x16 x32 (wrap64 (x33 + 1)) x106000 x106001 x106002))) else (none)) else (none)) else (if 0 < (x0.length : Int) then (if (x106000.size : Int) = (((rd_T25 x0 0).f0).size : Int) then (if x106001 < 0 then (some 1) else (if x106001 > 3 then (some 1) else (stemma_Check.l0 k x0 x14 x15 (wrap64 (x16 + 1))))) else (some 2)) else (none))
end
def stemma_Check.f (k : Nat) (l0 : List (S25)) : Option (Int) := if (l0.length : Int) = 0 then (some 7) else (if (l0.length : Int) > 5 then (some 6) else (stemma_Check.l0 k l0 l0 (l0.length : Int) 0))
set_option maxHeartbeats 8000000 in
set_option maxRecDepth 100000 in
theorem stemma_Check.calls (k : Nat) (A0 : Option Addr) (c0 : Nat) (l0 : List (S25)) (r : Int) (w : World) (hr0 : Kd.C k25 w A0 l0.length l0) (hc0 : l0.length ≤ c0) (h : stemma_Check.f k l0 = some r) :
    Calls Tryd.prog 8 #[.slice A0 l0.length c0] w fun e w' => e = .returned (.int .i64 r) ∧ Below w.heap.size w w' := by
  have hu25 := Tryd.underlying25
  have HR0 := Aside0.mk hr0
  have HC0 := Aside0.mk hc0
  clear hr0 hc0
  have HB := Aside0.mk (Below.refl w.heap.size w)
  have H : (if (l0.length : Int) = 0 then (some 7) else (if (l0.length : Int) > 5 then (some 6) else (stemma_Check.l0 k l0 l0 (l0.length : Int) 0))) = some r := h
  clear h
  by_cases c2 : (l0.length : Int) = 0
  · rw [if_pos c2] at H
    have c2b0 : ((l0.length : Int) == 0) = true := beq_iff_eq.mpr c2
    have c2b1 : ((l0.length : Int) != 0) = false := bne_eq_false_iff_eq.mpr c2
    clear c2
    obtain rfl := Option.some.inj H
    go_enter Tryd.func8, Tryd.ntmps8
    go_wp2
    repeat (go_quiet (fail); try go_wp2)
    go_ret
    exact ⟨by first | rfl | (simp [errW_none, errW_some] <;> rfl) | (simp [*, errW_none, errW_some] <;> rfl), by repeat (first | (with_reducible first | exact HB.out | apply below_alloc | apply pw_below_drewN | apply below_drew1) | exact HB.out)⟩
  · rw [if_neg c2] at H
    have c2b0 : ((l0.length : Int) == 0) = false := beq_eq_false_iff_ne.mpr c2
    have c2b1 : ((l0.length : Int) != 0) = true := bne_iff_ne.mpr c2
    have c2b2 : ¬ (l0 = []) := fun h_ => c2 (by rw [h_]; rfl)
    by_cases c3 : (l0.length : Int) > 5
    · rw [if_pos c3] at H
      have c3b0 : decide (5 < (l0.length : Int)) = true := decide_eq_true c3
      have c3b1 : decide (5 < l0.length) = true := decide_eq_true (by omega)
      clear c3
      obtain rfl := Option.some.inj H
      go_enter Tryd.func8, Tryd.ntmps8
      go_wp2
      repeat (go_quiet (fail); try go_wp2)
      go_ret
      exact ⟨by first | rfl | (simp [errW_none, errW_some] <;> rfl) | (simp [*, errW_none, errW_some] <;> rfl), by repeat (first | (with_reducible first | exact HB.out | apply below_alloc | apply pw_below_drewN | apply below_drew1) | exact HB.out)⟩
    · rw [if_neg c3] at H
      have c3b0 : decide (5 < (l0.length : Int)) = false := decide_eq_false c3
      have c3b1 : decide (5 < l0.length) = false := decide_eq_false (by omega)
      clear c3
      have H' := Aside0.mk H
      clear H
      go_enter Tryd.func8, Tryd.ntmps8
      go_wp2
      repeat (go_quiet (fail); try go_wp2)
      go_loopg [16] k (fun kq v16 w' => ∃ (x16_1 : Int), v16 = .int .i64 x16_1 ∧ Aside0 (stemma_Check.l0 kq l0 l0 (l0.length : Int) x16_1 = some r) ∧ Aside0 (kq ≤ k) ∧ Aside0 (Below w.heap.size w w'))
      case atStart => exact ⟨(0), (by first | rfl | (simp; done) | (simp [*]; done)), H', ⟨Nat.le_refl _⟩, ⟨by repeat (first | (with_reducible first | exact HB.out | apply below_alloc | apply pw_below_drewN | apply below_drew1) | exact HB.out)⟩⟩
      case round =>
        clear H'
        try clear c2
        try clear c2b0
        try clear c2b1
        try clear c2b2
        try clear p2
        try clear c3
        try clear c3b0
        try clear c3b1
        obtain ⟨x16_1, rfl, HA, HK1, HB⟩ := hrel
        cases gk with
        | zero => exact absurd HA.out (by simp [stemma_Check.l0])
        | succ k1 =>
          have H := HA.out
          clear HA
          simp only [stemma_Check.l0] at H
          by_cases c4 : x16_1 < (l0.length : Int)
          · rw [if_pos c4] at H
            have c4b0 : decide (x16_1 < (l0.length : Int)) = true := decide_eq_true c4
            clear c4
            by_cases c5 : 0 ≤ x16_1
            · rw [if_pos c5] at H
              have c5b0 : decide (0 ≤ x16_1) = true := decide_eq_true c5
              clear c5
              by_cases c6 : x16_1 < (l0.length : Int)
              · rw [if_pos c6] at H
                have c6b0 : decide (x16_1 < (l0.length : Int)) = true := decide_eq_true c6
                clear c6
                have HC7 := Aside0.mk H
                clear H
                have p104 : 0 ≤ (x16_1 : Int) := of_decide_eq_true (by first | (with_reducible assumption) | assumption)
                have q104 : x16_1 < (l0.length : Int) := of_decide_eq_true (by first | (with_reducible assumption) | assumption)
                obtain ⟨ad104, e104, hx104_0, hx104_1, hx104_2⟩ := at_T25 HR0.out x16_1 p104 q104
                cases e104
                try replace hx104_0 := (HB.out.cell (World.block_lt_of_cell? w _ hx104_0)).trans hx104_0
                try replace hx104_1 := (HB.out.cell (World.block_lt_of_cell? w _ hx104_1)).trans hx104_1
                try replace hx104_2 := (HB.out.cell (World.block_lt_of_cell? w _ hx104_2)).trans hx104_2
                replace p104 := eq_true p104
                replace q104 := eq_true q104
                go_upto_region 8 with (first | ((with_reducible refine gate_dst (N := 4) rfl ?_); (try (refine gate_guard (by rfl) ?_; dsimp only)); refine box_event ?hg (N := 4) ?hd (cs := #[.string (⟨#[]⟩ : ByteArray), .int .i64 0, .bool false]) (t := 25) ?hr ?_; (case hd => rfl); (case hg => rfl); (case hr => first | (go_simp; done) | (go_simp; rfl)); intro gb105 hg w8 hbox hb; have n0_ := Aside0.mk (below_step (by repeat (first | (with_reducible first | exact HB.out | apply below_alloc | apply pw_below_drewN | apply below_drew1) | exact HB.out)) hb); have n1_ := Aside0.mk (hbox); have n2_ := Aside0.mk ((by rw [hg]; exact (below_size (by repeat (first | (with_reducible first | exact HB.out | apply below_alloc | apply pw_below_drewN | apply below_drew1) | exact HB.out))) : w.heap.size ≤ gb105)); have n3_ := Aside0.mk ((by rw [hg]; exact (below_size (by repeat (first | (with_reducible first | exact HB.out | apply below_alloc | apply pw_below_drewN | apply below_drew1) | exact HB.out))) : w.heap.size ≤ gb105)); clear HB; have HB := n0_; have BK105 := n1_; have GW105 := n2_; have GE105 := n3_; clear n0_ n1_ n2_ n3_; clear hb hbox hg; have hcz9_0 : w8.cell? ⟨gb105, 0, none⟩ = some (.string (⟨#[]⟩ : ByteArray)) := (blk_cell BK105.out 0).trans rfl; have hcz9_1 : w8.cell? ⟨gb105, 1, none⟩ = some (.int .i64 0) := (blk_cell BK105.out 1).trans rfl; have hcz9_2 : w8.cell? ⟨gb105, 2, none⟩ = some (.bool false) := (blk_cell BK105.out 2).trans rfl; have hfz9_0 := blk_frozen BK105.out 0; have hfz9_1 := blk_frozen BK105.out 1; have hfz9_2 := blk_frozen BK105.out 2))
                repeat (go_quiet (first | ((with_reducible refine gate_dst (N := 4) rfl ?_); (try (refine gate_guard (by rfl) ?_; dsimp only)); refine box_event ?hg (N := 4) ?hd (cs := #[.string (⟨#[]⟩ : ByteArray), .int .i64 0, .bool false]) (t := 25) ?hr ?_; (case hd => rfl); (case hg => rfl); (case hr => first | (go_simp; done) | (go_simp; rfl)); intro gb105 hg w8 hbox hb; have n0_ := Aside0.mk (below_step (by repeat (first | (with_reducible first | exact HB.out | apply below_alloc | apply pw_below_drewN | apply below_drew1) | exact HB.out)) hb); have n1_ := Aside0.mk (hbox); have n2_ := Aside0.mk ((by rw [hg]; exact (below_size (by repeat (first | (with_reducible first | exact HB.out | apply below_alloc | apply pw_below_drewN | apply below_drew1) | exact HB.out))) : w.heap.size ≤ gb105)); have n3_ := Aside0.mk ((by rw [hg]; exact (below_size (by repeat (first | (with_reducible first | exact HB.out | apply below_alloc | apply pw_below_drewN | apply below_drew1) | exact HB.out))) : w.heap.size ≤ gb105)); clear HB; have HB := n0_; have BK105 := n1_; have GW105 := n2_; have GE105 := n3_; clear n0_ n1_ n2_ n3_; clear hb hbox hg; have hcz9_0 : w8.cell? ⟨gb105, 0, none⟩ = some (.string (⟨#[]⟩ : ByteArray)) := (blk_cell BK105.out 0).trans rfl; have hcz9_1 : w8.cell? ⟨gb105, 1, none⟩ = some (.int .i64 0) := (blk_cell BK105.out 1).trans rfl; have hcz9_2 : w8.cell? ⟨gb105, 2, none⟩ = some (.bool false) := (blk_cell BK105.out 2).trans rfl; have hfz9_0 := blk_frozen BK105.out 0; have hfz9_1 := blk_frozen BK105.out 1; have hfz9_2 := blk_frozen BK105.out 2)); go_upto_region 8 with (first | ((with_reducible refine gate_dst (N := 4) rfl ?_); (try (refine gate_guard (by rfl) ?_; dsimp only)); refine box_event ?hg (N := 4) ?hd (cs := #[.string (⟨#[]⟩ : ByteArray), .int .i64 0, .bool false]) (t := 25) ?hr ?_; (case hd => rfl); (case hg => rfl); (case hr => first | (go_simp; done) | (go_simp; rfl)); intro gb105 hg w8 hbox hb; have n0_ := Aside0.mk (below_step (by repeat (first | (with_reducible first | exact HB.out | apply below_alloc | apply pw_below_drewN | apply below_drew1) | exact HB.out)) hb); have n1_ := Aside0.mk (hbox); have n2_ := Aside0.mk ((by rw [hg]; exact (below_size (by repeat (first | (with_reducible first | exact HB.out | apply below_alloc | apply pw_below_drewN | apply below_drew1) | exact HB.out))) : w.heap.size ≤ gb105)); have n3_ := Aside0.mk ((by rw [hg]; exact (below_size (by repeat (first | (with_reducible first | exact HB.out | apply below_alloc | apply pw_below_drewN | apply below_drew1) | exact HB.out))) : w.heap.size ≤ gb105)); clear HB; have HB := n0_; have BK105 := n1_; have GW105 := n2_; have GE105 := n3_; clear n0_ n1_ n2_ n3_; clear hb hbox hg; have hcz9_0 : w8.cell? ⟨gb105, 0, none⟩ = some (.string (⟨#[]⟩ : ByteArray)) := (blk_cell BK105.out 0).trans rfl; have hcz9_1 : w8.cell? ⟨gb105, 1, none⟩ = some (.int .i64 0) := (blk_cell BK105.out 1).trans rfl; have hcz9_2 : w8.cell? ⟨gb105, 2, none⟩ = some (.bool false) := (blk_cell BK105.out 2).trans rfl; have hfz9_0 := blk_frozen BK105.out 0; have hfz9_1 := blk_frozen BK105.out 1; have hfz9_2 := blk_frozen BK105.out 2)))
                (try simp only [Act.put, List.setIfInBounds_toArray, List.set_cons_zero, List.set_cons_succ])
                go_cut [29] (fun v29 wc => ∃ (kq : Nat) (x29_6 : Bool), v29 = .bool x29_6 ∧ Aside0 (stemma_Check.j1 kq l0 l0 (l0.length : Int) x16_1 x29_6 ((rd_T25 l0 x16_1).f0) ((rd_T25 l0 x16_1).f1) ((rd_T25 l0 x16_1).f2) = some r) ∧ Aside0 (kq ≤ k1) ∧ Aside0 (wc.heap[gb105]? = some (.cells #[.string ((rd_T25 l0 x16_1).f0), .int .i64 ((rd_T25 l0 x16_1).f1), .bool ((rd_T25 l0 x16_1).f2)] 25 (0, 0))) ∧ Aside0 (Below w.heap.size w wc))
                case first =>
                  have H := HC7.out
                  clear HC7
                  by_cases c10 : (((rd_T25 l0 x16_1).f0).size : Int) < 1
                  · rw [if_pos c10] at H
                    have c10b0 : decide ((((rd_T25 l0 x16_1).f0).size : Int) < 1) = true := decide_eq_true c10
                    have c10b1 : decide (((rd_T25 l0 x16_1).f0).size < 1) = true := decide_eq_true (by omega)
                    clear c10
                    (first | rw [c10b0] | (simp only [i64_w, i32_w]; rw [c10b0]) | skip)
                    have H' := Aside0.mk H
                    clear H
                    have hcz11_0 : w8.cell? ⟨gb105, 0, none⟩ = some (.string (⟨#[]⟩ : ByteArray)) := (blk_cell BK105.out 0).trans rfl
                    have hcz11_1 : w8.cell? ⟨gb105, 1, none⟩ = some (.int .i64 0) := (blk_cell BK105.out 1).trans rfl
                    have hcz11_2 : w8.cell? ⟨gb105, 2, none⟩ = some (.bool false) := (blk_cell BK105.out 2).trans rfl
                    have hfz11_0 := blk_frozen BK105.out 0
                    have hfz11_1 := blk_frozen BK105.out 1
                    have hfz11_2 := blk_frozen BK105.out 2
                    go_wp2
                    repeat (go_quiet (fail); try go_wp2)
                    go_meet
                    case rel => exact ⟨_, (true), (by first | rfl | (simp; done) | (simp [*]; done)), H', ⟨by have := HK1.out; first | omega | exact Nat.le_refl _⟩, ⟨by (with_reducible repeat (first | refine blk_drewN ?_ _ | refine blk_drew ?_ | refine blk_alloc ?_ _)); refine blk_put (cs := #[.string ((rd_T25 l0 x16_1).f0), .int .i64 ((rd_T25 l0 x16_1).f1), .bool false]) ?_ 2 _ rfl; (with_reducible repeat (first | refine blk_drewN ?_ _ | refine blk_drew ?_ | refine blk_alloc ?_ _)); refine blk_put (cs := #[.string ((rd_T25 l0 x16_1).f0), .int .i64 0, .bool false]) ?_ 1 _ rfl; (with_reducible repeat (first | refine blk_drewN ?_ _ | refine blk_drew ?_ | refine blk_alloc ?_ _)); refine blk_put (cs := #[.string (⟨#[]⟩ : ByteArray), .int .i64 0, .bool false]) ?_ 0 _ rfl; (with_reducible repeat (first | refine blk_drewN ?_ _ | refine blk_drew ?_ | refine blk_alloc ?_ _)); exact BK105.out⟩, ⟨by repeat (first | (with_reducible first | exact HB.out | apply below_alloc | apply pw_below_drewN | apply below_drew1 | refine below_set ?_ GE105.out) | exact HB.out)⟩⟩
                  · rw [if_neg c10] at H
                    have c10b0 : decide ((((rd_T25 l0 x16_1).f0).size : Int) < 1) = false := decide_eq_false c10
                    have c10b1 : decide (((rd_T25 l0 x16_1).f0).size < 1) = false := decide_eq_false (by omega)
                    clear c10
                    (first | rw [c10b0] | (simp only [i64_w, i32_w]; rw [c10b0]) | skip)
                    have H' := Aside0.mk H
                    clear H
                    have hcz12_0 : w8.cell? ⟨gb105, 0, none⟩ = some (.string (⟨#[]⟩ : ByteArray)) := (blk_cell BK105.out 0).trans rfl
                    have hcz12_1 : w8.cell? ⟨gb105, 1, none⟩ = some (.int .i64 0) := (blk_cell BK105.out 1).trans rfl
                    have hcz12_2 : w8.cell? ⟨gb105, 2, none⟩ = some (.bool false) := (blk_cell BK105.out 2).trans rfl
                    have hfz12_0 := blk_frozen BK105.out 0
                    have hfz12_1 := blk_frozen BK105.out 1
                    have hfz12_2 := blk_frozen BK105.out 2
                    go_wp2
                    repeat (go_quiet (fail); try go_wp2)
                    go_meet
                    case rel => exact ⟨_, (decide ((((rd_T25 l0 x16_1).f0).size : Int) > 8)), (by first | rfl | (simp; done) | (simp [*]; done)), H', ⟨by have := HK1.out; first | omega | exact Nat.le_refl _⟩, ⟨by (with_reducible repeat (first | refine blk_drewN ?_ _ | refine blk_drew ?_ | refine blk_alloc ?_ _)); refine blk_put (cs := #[.string ((rd_T25 l0 x16_1).f0), .int .i64 ((rd_T25 l0 x16_1).f1), .bool false]) ?_ 2 _ rfl; (with_reducible repeat (first | refine blk_drewN ?_ _ | refine blk_drew ?_ | refine blk_alloc ?_ _)); refine blk_put (cs := #[.string ((rd_T25 l0 x16_1).f0), .int .i64 0, .bool false]) ?_ 1 _ rfl; (with_reducible repeat (first | refine blk_drewN ?_ _ | refine blk_drew ?_ | refine blk_alloc ?_ _)); refine blk_put (cs := #[.string (⟨#[]⟩ : ByteArray), .int .i64 0, .bool false]) ?_ 0 _ rfl; (with_reducible repeat (first | refine blk_drewN ?_ _ | refine blk_drew ?_ | refine blk_alloc ?_ _)); exact BK105.out⟩, ⟨by repeat (first | (with_reducible first | exact HB.out | apply below_alloc | apply pw_below_drewN | apply below_drew1 | refine below_set ?_ GE105.out) | exact HB.out)⟩⟩
                case rest =>
                  clear HC7
                  try clear c1
                  try clear p1
                  try clear q1
                  try clear hx1
                  try clear c2
                  try clear c2b0
                  try clear c2b1
                  try clear c2b2
                  try clear p2
                  try clear c3
                  try clear c3b0
                  try clear c3b1
                  try clear c4
                  try clear c4b0
                  try clear c5
                  try clear c5b0
                  try clear c6
                  try clear c6b0
                  try clear c8
                  try clear c10
                  try clear c10b0
                  try clear c10b1
                  try clear p10
                  try clear q10
                  try clear hx10
                  try clear hcz11_0
                  try clear hcz11_1
                  try clear hcz11_2
                  try clear hcz12_0
                  try clear hcz12_1
                  try clear hcz12_2
                  try clear hcz9_0
                  try clear hcz9_1
                  try clear hcz9_2
                  try clear hfz11_0
                  try clear hfz11_1
                  try clear hfz11_2
                  try clear hfz12_0
                  try clear hfz12_1
                  try clear hfz12_2
                  try clear hfz9_0
                  try clear hfz9_1
                  try clear hfz9_2
                  try clear hx104_0
                  try clear hx104_1
                  try clear hx104_2
                  try clear p104
                  try clear p2
                  try clear q104
                  obtain ⟨kq, x29_6, rfl, HA, HJ6, BK105, HB⟩ := hcut
                  cases kq with
                  | zero => exact absurd HA.out (by simp [stemma_Check.j1])
                  | succ kj6 =>
                    have H := HA.out
                    clear HA
                    simp only [stemma_Check.j1] at H
                    by_cases c13 : x29_6 = true
                    · subst c13
                      have H1 : (some 2) = some r := by rw [if_pos rfl] at H; exact H
                      clear H
                      have H := H1
                      clear H1
                      obtain rfl := Option.some.inj H
                      go_wp2
                      repeat (go_quiet (fail); try go_wp2)
                      go_ret
                      exact ⟨by first | rfl | (simp [errW_none, errW_some] <;> rfl) | (simp [*, errW_none, errW_some] <;> rfl), by repeat (first | (with_reducible first | exact HB.out | apply below_alloc | apply pw_below_drewN | apply below_drew1 | refine below_set ?_ GE105.out) | exact HB.out)⟩
                    · replace c13 := Bool.eq_false_iff.mpr c13
                      subst c13
                      have H1 : (stemma_Check.l1 kj6 l0 l0 (l0.length : Int) x16_1 (((rd_T25 l0 x16_1).f0).size : Int) 0 ((rd_T25 l0 x16_1).f0) ((rd_T25 l0 x16_1).f1) ((rd_T25 l0 x16_1).f2)) = some r := by rw [if_neg (show ¬ (false = true) by decide)] at H; exact H
                      clear H
                      have H := H1
                      clear H1
                      have H' := Aside0.mk H
                      clear H
                      have hcz14_0 : wc.cell? ⟨gb105, 0, none⟩ = some (.string ((rd_T25 l0 x16_1).f0)) := (blk_cell BK105.out 0).trans rfl
                      have hcz14_1 : wc.cell? ⟨gb105, 1, none⟩ = some (.int .i64 ((rd_T25 l0 x16_1).f1)) := (blk_cell BK105.out 1).trans rfl
                      have hcz14_2 : wc.cell? ⟨gb105, 2, none⟩ = some (.bool ((rd_T25 l0 x16_1).f2)) := (blk_cell BK105.out 2).trans rfl
                      have hfz14_0 := blk_frozen BK105.out 0
                      have hfz14_1 := blk_frozen BK105.out 1
                      have hfz14_2 := blk_frozen BK105.out 2
                      go_wp2
                      repeat (go_quiet (fail); try go_wp2)
                      go_loopg [33] kj6 (fun kq v33 w' => ∃ (x33_3 : Int), v33 = .int .i64 x33_3 ∧ Aside0 (stemma_Check.l1 kq l0 l0 (l0.length : Int) x16_1 (((rd_T25 l0 x16_1).f0).size : Int) x33_3 ((rd_T25 l0 x16_1).f0) ((rd_T25 l0 x16_1).f1) ((rd_T25 l0 x16_1).f2) = some r) ∧ Aside0 (kq ≤ kj6) ∧ Aside0 (w'.heap[gb105]? = some (.cells #[.string ((rd_T25 l0 x16_1).f0), .int .i64 ((rd_T25 l0 x16_1).f1), .bool ((rd_T25 l0 x16_1).f2)] 25 (0, 0))) ∧ Aside0 (Below w.heap.size w w'))
                      case atStart => exact ⟨(0), (by first | rfl | (simp; done) | (simp [*]; done)), H', ⟨Nat.le_refl _⟩, ⟨by (with_reducible repeat (first | refine blk_drewN ?_ _ | refine blk_drew ?_ | refine blk_alloc ?_ _)); exact BK105.out⟩, ⟨by repeat (first | (with_reducible first | exact HB.out | apply below_alloc | apply pw_below_drewN | apply below_drew1 | refine below_set ?_ GE105.out) | exact HB.out)⟩⟩
                      case round =>
                        clear H'
                        try clear c1
                        try clear p1
                        try clear q1
                        try clear hx1
                        try clear c2
                        try clear c2b0
                        try clear c2b1
                        try clear c2b2
                        try clear p2
                        try clear c3
                        try clear c3b0
                        try clear c3b1
                        try clear c4
                        try clear c4b0
                        try clear c5
                        try clear c5b0
                        try clear c6
                        try clear c6b0
                        try clear c8
                        try clear c10
                        try clear c10b0
                        try clear c10b1
                        try clear p10
                        try clear q10
                        try clear hx10
                        try clear c13
                        try clear hcz11_0
                        try clear hcz11_1
                        try clear hcz11_2
                        try clear hcz12_0
                        try clear hcz12_1
                        try clear hcz12_2
                        try clear hcz14_0
                        try clear hcz14_1
                        try clear hcz14_2
                        try clear hcz9_0
                        try clear hcz9_1
                        try clear hcz9_2
                        try clear hfz11_0
                        try clear hfz11_1
                        try clear hfz11_2
                        try clear hfz12_0
                        try clear hfz12_1
                        try clear hfz12_2
                        try clear hfz14_0
                        try clear hfz14_1
                        try clear hfz14_2
                        try clear hfz9_0
                        try clear hfz9_1
                        try clear hfz9_2
                        try clear hx104_0
                        try clear hx104_1
                        try clear hx104_2
                        try clear p1
                        try clear p10
                        try clear p104
                        try clear p2
                        try clear q1
                        try clear q10
                        try clear q104
                        obtain ⟨x33_3, rfl, HA, HK3, BK105, HB⟩ := hrel
                        cases gk with
                        | zero => exact absurd HA.out (by simp [stemma_Check.l1])
                        | succ k3 =>
                          have H := HA.out
                          clear HA
                          simp only [stemma_Check.l1] at H
                          by_cases c15 : x33_3 < (((rd_T25 l0 x16_1).f0).size : Int)
                          · rw [if_pos c15] at H
                            have c15b0 : decide (x33_3 < (((rd_T25 l0 x16_1).f0).size : Int)) = true := decide_eq_true c15
                            clear c15
                            by_cases c16 : 0 ≤ x33_3
                            · rw [if_pos c16] at H
                              have c16b0 : decide (0 ≤ x33_3) = true := decide_eq_true c16
                              clear c16
                              by_cases c17 : x33_3 < (((rd_T25 l0 x16_1).f0).size : Int)
                              · rw [if_pos c17] at H
                                have c17b0 : decide (x33_3 < (((rd_T25 l0 x16_1).f0).size : Int)) = true := decide_eq_true c17
                                clear c17
                                by_cases c19 : (bt ((rd_T25 l0 x16_1).f0) x33_3) < 65
                                · rw [if_pos c19] at H
                                  have c19b0 : decide ((bt ((rd_T25 l0 x16_1).f0) x33_3) < 65) = true := decide_eq_true c19
                                  clear c19
                                  obtain rfl := Option.some.inj H
                                  have hcz20_0 : wr.cell? ⟨gb105, 0, none⟩ = some (.string ((rd_T25 l0 x16_1).f0)) := (blk_cell BK105.out 0).trans rfl
                                  have hcz20_1 : wr.cell? ⟨gb105, 1, none⟩ = some (.int .i64 ((rd_T25 l0 x16_1).f1)) := (blk_cell BK105.out 1).trans rfl
                                  have hcz20_2 : wr.cell? ⟨gb105, 2, none⟩ = some (.bool ((rd_T25 l0 x16_1).f2)) := (blk_cell BK105.out 2).trans rfl
                                  have hfz20_0 := blk_frozen BK105.out 0
                                  have hfz20_1 := blk_frozen BK105.out 1
                                  have hfz20_2 := blk_frozen BK105.out 2
                                  have p18 : 0 ≤ (x33_3 : Int) := of_decide_eq_true (by first | (with_reducible assumption) | assumption)
                                  have q18 : x33_3 < (((rd_T25 l0 x16_1).f0).size : Int) := of_decide_eq_true (by first | (with_reducible assumption) | assumption)
                                  have hx18 := bt_at ((rd_T25 l0 x16_1).f0) x33_3
                                  replace p18 := eq_true p18
                                  replace q18 := eq_true q18
                                  go_wp2
                                  repeat (go_quiet (fail); try go_wp2)
                                  go_ret
                                  exact ⟨by first | rfl | (simp [errW_none, errW_some] <;> rfl) | (simp [*, errW_none, errW_some] <;> rfl), by repeat (first | (with_reducible first | exact HB.out | apply below_alloc | apply pw_below_drewN | apply below_drew1 | refine below_set ?_ GE105.out) | exact HB.out)⟩
                                · rw [if_neg c19] at H
                                  have c19b0 : decide ((bt ((rd_T25 l0 x16_1).f0) x33_3) < 65) = false := decide_eq_false c19
                                  clear c19
                                  by_cases c22 : (bt ((rd_T25 l0 x16_1).f0) x33_3) > 90
                                  · rw [if_pos c22] at H
                                    have c22b0 : decide (90 < (bt ((rd_T25 l0 x16_1).f0) x33_3)) = true := decide_eq_true c22
                                    clear c22
                                    obtain rfl := Option.some.inj H
                                    have hcz23_0 : wr.cell? ⟨gb105, 0, none⟩ = some (.string ((rd_T25 l0 x16_1).f0)) := (blk_cell BK105.out 0).trans rfl
                                    have hcz23_1 : wr.cell? ⟨gb105, 1, none⟩ = some (.int .i64 ((rd_T25 l0 x16_1).f1)) := (blk_cell BK105.out 1).trans rfl
                                    have hcz23_2 : wr.cell? ⟨gb105, 2, none⟩ = some (.bool ((rd_T25 l0 x16_1).f2)) := (blk_cell BK105.out 2).trans rfl
                                    have hfz23_0 := blk_frozen BK105.out 0
                                    have hfz23_1 := blk_frozen BK105.out 1
                                    have hfz23_2 := blk_frozen BK105.out 2
                                    have p18 : 0 ≤ (x33_3 : Int) := of_decide_eq_true (by first | (with_reducible assumption) | assumption)
                                    have q18 : x33_3 < (((rd_T25 l0 x16_1).f0).size : Int) := of_decide_eq_true (by first | (with_reducible assumption) | assumption)
                                    have hx18 := bt_at ((rd_T25 l0 x16_1).f0) x33_3
                                    replace p18 := eq_true p18
                                    replace q18 := eq_true q18
                                    have p21 : 0 ≤ (x33_3 : Int) := of_decide_eq_true (by first | (with_reducible assumption) | assumption)
                                    have q21 : x33_3 < (((rd_T25 l0 x16_1).f0).size : Int) := of_decide_eq_true (by first | (with_reducible assumption) | assumption)
                                    have hx21 := bt_at ((rd_T25 l0 x16_1).f0) x33_3
                                    replace p21 := eq_true p21
                                    replace q21 := eq_true q21
                                    go_wp2
                                    repeat (go_quiet (fail); try go_wp2)
                                    go_ret
                                    exact ⟨by first | rfl | (simp [errW_none, errW_some] <;> rfl) | (simp [*, errW_none, errW_some] <;> rfl), by repeat (first | (with_reducible first | exact HB.out | apply below_alloc | apply pw_below_drewN | apply below_drew1 | refine below_set ?_ GE105.out) | exact HB.out)⟩
                                  · rw [if_neg c22] at H
                                    have c22b0 : decide (90 < (bt ((rd_T25 l0 x16_1).f0) x33_3)) = false := decide_eq_false c22
                                    clear c22
                                    have H' := Aside0.mk H
                                    clear H
                                    have hcz24_0 : wr.cell? ⟨gb105, 0, none⟩ = some (.string ((rd_T25 l0 x16_1).f0)) := (blk_cell BK105.out 0).trans rfl
                                    have hcz24_1 : wr.cell? ⟨gb105, 1, none⟩ = some (.int .i64 ((rd_T25 l0 x16_1).f1)) := (blk_cell BK105.out 1).trans rfl
                                    have hcz24_2 : wr.cell? ⟨gb105, 2, none⟩ = some (.bool ((rd_T25 l0 x16_1).f2)) := (blk_cell BK105.out 2).trans rfl
                                    have hfz24_0 := blk_frozen BK105.out 0
                                    have hfz24_1 := blk_frozen BK105.out 1
                                    have hfz24_2 := blk_frozen BK105.out 2
                                    have p18 : 0 ≤ (x33_3 : Int) := of_decide_eq_true (by first | (with_reducible assumption) | assumption)
                                    have q18 : x33_3 < (((rd_T25 l0 x16_1).f0).size : Int) := of_decide_eq_true (by first | (with_reducible assumption) | assumption)
                                    have hx18 := bt_at ((rd_T25 l0 x16_1).f0) x33_3
                                    replace p18 := eq_true p18
                                    replace q18 := eq_true q18
                                    have p21 : 0 ≤ (x33_3 : Int) := of_decide_eq_true (by first | (with_reducible assumption) | assumption)
                                    have q21 : x33_3 < (((rd_T25 l0 x16_1).f0).size : Int) := of_decide_eq_true (by first | (with_reducible assumption) | assumption)
                                    have hx21 := bt_at ((rd_T25 l0 x16_1).f0) x33_3
                                    replace p21 := eq_true p21
                                    replace q21 := eq_true q21
                                    go_wp2
                                    repeat (go_quiet (fail); try go_wp2)
                                    go_roundg k3
                                    case measure => have := HK1.out; have := HJ6.out; have := HK3.out; omega
                                    case rel => exact ⟨(wrap64 (x33_3 + 1)), (by first | rfl | (simp; done) | (simp [*]; done)), H', ⟨by have := HK1.out; have := HJ6.out; have := HK3.out; omega⟩, ⟨by (with_reducible repeat (first | refine blk_drewN ?_ _ | refine blk_drew ?_ | refine blk_alloc ?_ _)); exact BK105.out⟩, ⟨by repeat (first | (with_reducible first | exact HB.out | apply below_alloc | apply pw_below_drewN | apply below_drew1 | refine below_set ?_ GE105.out) | exact HB.out)⟩⟩
                              · rw [if_neg c17] at H
                                exact absurd H (by simp)
                            · rw [if_neg c16] at H
                              exact absurd H (by simp)
                          · rw [if_neg c15] at H
                            have c15b0 : decide (x33_3 < (((rd_T25 l0 x16_1).f0).size : Int)) = false := decide_eq_false c15
                            clear c15
                            by_cases c25 : 0 < (l0.length : Int)
                            · rw [if_pos c25] at H
                              have c25b0 : decide (0 < (l0.length : Int)) = true := decide_eq_true c25
                              have c25b1 : decide (0 < l0.length) = true := decide_eq_true (by omega)
                              clear c25
                              by_cases c26 : (((rd_T25 l0 x16_1).f0).size : Int) = (((rd_T25 l0 0).f0).size : Int)
                              · rw [if_pos c26] at H
                                have c26b0 : ((((rd_T25 l0 x16_1).f0).size : Int) == (((rd_T25 l0 0).f0).size : Int)) = true := beq_iff_eq.mpr c26
                                have c26b1 : ((((rd_T25 l0 x16_1).f0).size : Int) != (((rd_T25 l0 0).f0).size : Int)) = false := bne_eq_false_iff_eq.mpr c26
                                have c26b2 : (((rd_T25 l0 x16_1).f0).size == ((rd_T25 l0 0).f0).size) = true := by first | simpa using c26 | (simp at c26 ⊢; omega)
                                clear c26
                                by_cases c27 : ((rd_T25 l0 x16_1).f1) < 0
                                · rw [if_pos c27] at H
                                  have c27b0 : decide (((rd_T25 l0 x16_1).f1) < 0) = true := decide_eq_true c27
                                  clear c27
                                  obtain rfl := Option.some.inj H
                                  have hcz28_0 : wr.cell? ⟨gb105, 0, none⟩ = some (.string ((rd_T25 l0 x16_1).f0)) := (blk_cell BK105.out 0).trans rfl
                                  have hcz28_1 : wr.cell? ⟨gb105, 1, none⟩ = some (.int .i64 ((rd_T25 l0 x16_1).f1)) := (blk_cell BK105.out 1).trans rfl
                                  have hcz28_2 : wr.cell? ⟨gb105, 2, none⟩ = some (.bool ((rd_T25 l0 x16_1).f2)) := (blk_cell BK105.out 2).trans rfl
                                  have hfz28_0 := blk_frozen BK105.out 0
                                  have hfz28_1 := blk_frozen BK105.out 1
                                  have hfz28_2 := blk_frozen BK105.out 2
                                  have p106 : 0 ≤ (0 : Int) := (by omega)
                                  have q106 : 0 < (l0.length : Int) := of_decide_eq_true (by first | (with_reducible assumption) | assumption)
                                  obtain ⟨ad106, e106, hx106_0, hx106_1, hx106_2⟩ := at_T25 HR0.out 0 p106 q106
                                  obtain rfl : ad104 = ad106 := (by injection e106)
                                  have qi106 : (0 < l0.length) = True := eq_true (by omega)
                                  (try rw [show ((0 : Int)).toNat = 0 from rfl] at hx106_0)
                                  (try rw [show 0 * 3 = 0 from rfl] at hx106_0)
                                  (try rw [Addr.add_zero'] at hx106_0)
                                  (try rw [show ((0 : Int)).toNat = 0 from rfl] at hx106_1)
                                  (try rw [show 0 * 3 = 0 from rfl] at hx106_1)
                                  (try rw [Addr.add_zero'] at hx106_1)
                                  (try rw [show ((0 : Int)).toNat = 0 from rfl] at hx106_2)
                                  (try rw [show 0 * 3 = 0 from rfl] at hx106_2)
                                  (try rw [Addr.add_zero'] at hx106_2)
                                  try replace hx106_0 := (HB.out.cell (World.block_lt_of_cell? w _ hx106_0)).trans hx106_0
                                  try replace hx106_1 := (HB.out.cell (World.block_lt_of_cell? w _ hx106_1)).trans hx106_1
                                  try replace hx106_2 := (HB.out.cell (World.block_lt_of_cell? w _ hx106_2)).trans hx106_2
                                  replace p106 := eq_true p106
                                  replace q106 := eq_true q106
                                  go_wp2
                                  repeat (go_quiet (fail); try go_wp2)
                                  go_ret
                                  exact ⟨by first | rfl | (simp [errW_none, errW_some] <;> rfl) | (simp [*, errW_none, errW_some] <;> rfl), by repeat (first | (with_reducible first | exact HB.out | apply below_alloc | apply pw_below_drewN | apply below_drew1 | refine below_set ?_ GE105.out) | exact HB.out)⟩
                                · rw [if_neg c27] at H
                                  have c27b0 : decide (((rd_T25 l0 x16_1).f1) < 0) = false := decide_eq_false c27
                                  clear c27
                                  by_cases c29 : ((rd_T25 l0 x16_1).f1) > 3
                                  · rw [if_pos c29] at H
                                    have c29b0 : decide (3 < ((rd_T25 l0 x16_1).f1)) = true := decide_eq_true c29
                                    clear c29
                                    obtain rfl := Option.some.inj H
                                    have hcz30_0 : wr.cell? ⟨gb105, 0, none⟩ = some (.string ((rd_T25 l0 x16_1).f0)) := (blk_cell BK105.out 0).trans rfl
                                    have hcz30_1 : wr.cell? ⟨gb105, 1, none⟩ = some (.int .i64 ((rd_T25 l0 x16_1).f1)) := (blk_cell BK105.out 1).trans rfl
                                    have hcz30_2 : wr.cell? ⟨gb105, 2, none⟩ = some (.bool ((rd_T25 l0 x16_1).f2)) := (blk_cell BK105.out 2).trans rfl
                                    have hfz30_0 := blk_frozen BK105.out 0
                                    have hfz30_1 := blk_frozen BK105.out 1
                                    have hfz30_2 := blk_frozen BK105.out 2
                                    have p106 : 0 ≤ (0 : Int) := (by omega)
                                    have q106 : 0 < (l0.length : Int) := of_decide_eq_true (by first | (with_reducible assumption) | assumption)
                                    obtain ⟨ad106, e106, hx106_0, hx106_1, hx106_2⟩ := at_T25 HR0.out 0 p106 q106
                                    obtain rfl : ad104 = ad106 := (by injection e106)
                                    have qi106 : (0 < l0.length) = True := eq_true (by omega)
                                    (try rw [show ((0 : Int)).toNat = 0 from rfl] at hx106_0)
                                    (try rw [show 0 * 3 = 0 from rfl] at hx106_0)
                                    (try rw [Addr.add_zero'] at hx106_0)
                                    (try rw [show ((0 : Int)).toNat = 0 from rfl] at hx106_1)
                                    (try rw [show 0 * 3 = 0 from rfl] at hx106_1)
                                    (try rw [Addr.add_zero'] at hx106_1)
                                    (try rw [show ((0 : Int)).toNat = 0 from rfl] at hx106_2)
                                    (try rw [show 0 * 3 = 0 from rfl] at hx106_2)
                                    (try rw [Addr.add_zero'] at hx106_2)
                                    try replace hx106_0 := (HB.out.cell (World.block_lt_of_cell? w _ hx106_0)).trans hx106_0
                                    try replace hx106_1 := (HB.out.cell (World.block_lt_of_cell? w _ hx106_1)).trans hx106_1
                                    try replace hx106_2 := (HB.out.cell (World.block_lt_of_cell? w _ hx106_2)).trans hx106_2
                                    replace p106 := eq_true p106
                                    replace q106 := eq_true q106
                                    go_wp2
                                    repeat (go_quiet (fail); try go_wp2)
                                    go_ret
                                    exact ⟨by first | rfl | (simp [errW_none, errW_some] <;> rfl) | (simp [*, errW_none, errW_some] <;> rfl), by repeat (first | (with_reducible first | exact HB.out | apply below_alloc | apply pw_below_drewN | apply below_drew1 | refine below_set ?_ GE105.out) | exact HB.out)⟩
                                  · rw [if_neg c29] at H
                                    have c29b0 : decide (3 < ((rd_T25 l0 x16_1).f1)) = false := decide_eq_false c29
                                    clear c29
                                    have H' := Aside0.mk H
                                    clear H
                                    have hcz31_0 : wr.cell? ⟨gb105, 0, none⟩ = some (.string ((rd_T25 l0 x16_1).f0)) := (blk_cell BK105.out 0).trans rfl
                                    have hcz31_1 : wr.cell? ⟨gb105, 1, none⟩ = some (.int .i64 ((rd_T25 l0 x16_1).f1)) := (blk_cell BK105.out 1).trans rfl
                                    have hcz31_2 : wr.cell? ⟨gb105, 2, none⟩ = some (.bool ((rd_T25 l0 x16_1).f2)) := (blk_cell BK105.out 2).trans rfl
                                    have hfz31_0 := blk_frozen BK105.out 0
                                    have hfz31_1 := blk_frozen BK105.out 1
                                    have hfz31_2 := blk_frozen BK105.out 2
                                    have p106 : 0 ≤ (0 : Int) := (by omega)
                                    have q106 : 0 < (l0.length : Int) := of_decide_eq_true (by first | (with_reducible assumption) | assumption)
                                    obtain ⟨ad106, e106, hx106_0, hx106_1, hx106_2⟩ := at_T25 HR0.out 0 p106 q106
                                    obtain rfl : ad104 = ad106 := (by injection e106)
                                    have qi106 : (0 < l0.length) = True := eq_true (by omega)
                                    (try rw [show ((0 : Int)).toNat = 0 from rfl] at hx106_0)
                                    (try rw [show 0 * 3 = 0 from rfl] at hx106_0)
                                    (try rw [Addr.add_zero'] at hx106_0)
                                    (try rw [show ((0 : Int)).toNat = 0 from rfl] at hx106_1)
                                    (try rw [show 0 * 3 = 0 from rfl] at hx106_1)
                                    (try rw [Addr.add_zero'] at hx106_1)
                                    (try rw [show ((0 : Int)).toNat = 0 from rfl] at hx106_2)
                                    (try rw [show 0 * 3 = 0 from rfl] at hx106_2)
                                    (try rw [Addr.add_zero'] at hx106_2)
                                    try replace hx106_0 := (HB.out.cell (World.block_lt_of_cell? w _ hx106_0)).trans hx106_0
                                    try replace hx106_1 := (HB.out.cell (World.block_lt_of_cell? w _ hx106_1)).trans hx106_1
                                    try replace hx106_2 := (HB.out.cell (World.block_lt_of_cell? w _ hx106_2)).trans hx106_2
                                    replace p106 := eq_true p106
                                    replace q106 := eq_true q106
                                    go_wp2
                                    repeat (go_quiet (fail); try go_wp2)
                                    go_roundg k3
                                    case measure => have := HK1.out; have := HJ6.out; have := HK3.out; omega
                                    case rel => exact ⟨(wrap64 (x16_1 + 1)), (by first | rfl | (simp; done) | (simp [*]; done)), H', ⟨by have := HK1.out; have := HJ6.out; have := HK3.out; omega⟩, ⟨by repeat (first | (with_reducible first | exact HB.out | apply below_alloc | apply pw_below_drewN | apply below_drew1 | refine below_set ?_ GE105.out) | exact HB.out)⟩⟩
                              · rw [if_neg c26] at H
                                have c26b0 : ((((rd_T25 l0 x16_1).f0).size : Int) == (((rd_T25 l0 0).f0).size : Int)) = false := beq_eq_false_iff_ne.mpr c26
                                have c26b1 : ((((rd_T25 l0 x16_1).f0).size : Int) != (((rd_T25 l0 0).f0).size : Int)) = true := bne_iff_ne.mpr c26
                                have c26b2 : (((rd_T25 l0 x16_1).f0).size == ((rd_T25 l0 0).f0).size) = false := by first | simpa using c26 | (simp at c26 ⊢; omega)
                                obtain rfl := Option.some.inj H
                                have hcz32_0 : wr.cell? ⟨gb105, 0, none⟩ = some (.string ((rd_T25 l0 x16_1).f0)) := (blk_cell BK105.out 0).trans rfl
                                have hcz32_1 : wr.cell? ⟨gb105, 1, none⟩ = some (.int .i64 ((rd_T25 l0 x16_1).f1)) := (blk_cell BK105.out 1).trans rfl
                                have hcz32_2 : wr.cell? ⟨gb105, 2, none⟩ = some (.bool ((rd_T25 l0 x16_1).f2)) := (blk_cell BK105.out 2).trans rfl
                                have hfz32_0 := blk_frozen BK105.out 0
                                have hfz32_1 := blk_frozen BK105.out 1
                                have hfz32_2 := blk_frozen BK105.out 2
                                have p106 : 0 ≤ (0 : Int) := (by omega)
                                have q106 : 0 < (l0.length : Int) := of_decide_eq_true (by first | (with_reducible assumption) | assumption)
                                obtain ⟨ad106, e106, hx106_0, hx106_1, hx106_2⟩ := at_T25 HR0.out 0 p106 q106
                                obtain rfl : ad104 = ad106 := (by injection e106)
                                have qi106 : (0 < l0.length) = True := eq_true (by omega)
                                (try rw [show ((0 : Int)).toNat = 0 from rfl] at hx106_0)
                                (try rw [show 0 * 3 = 0 from rfl] at hx106_0)
                                (try rw [Addr.add_zero'] at hx106_0)
                                (try rw [show ((0 : Int)).toNat = 0 from rfl] at hx106_1)
                                (try rw [show 0 * 3 = 0 from rfl] at hx106_1)
                                (try rw [Addr.add_zero'] at hx106_1)
                                (try rw [show ((0 : Int)).toNat = 0 from rfl] at hx106_2)
                                (try rw [show 0 * 3 = 0 from rfl] at hx106_2)
                                (try rw [Addr.add_zero'] at hx106_2)
                                try replace hx106_0 := (HB.out.cell (World.block_lt_of_cell? w _ hx106_0)).trans hx106_0
                                try replace hx106_1 := (HB.out.cell (World.block_lt_of_cell? w _ hx106_1)).trans hx106_1
                                try replace hx106_2 := (HB.out.cell (World.block_lt_of_cell? w _ hx106_2)).trans hx106_2
                                replace p106 := eq_true p106
                                replace q106 := eq_true q106
                                go_wp2
                                repeat (go_quiet (fail); try go_wp2)
                                go_ret
                                exact ⟨by first | rfl | (simp [errW_none, errW_some] <;> rfl) | (simp [*, errW_none, errW_some] <;> rfl), by repeat (first | (with_reducible first | exact HB.out | apply below_alloc | apply pw_below_drewN | apply below_drew1 | refine below_set ?_ GE105.out) | exact HB.out)⟩
                            · rw [if_neg c25] at H
                              exact absurd H (by simp)
              · rw [if_neg c6] at H
                exact absurd H (by simp)
            · rw [if_neg c5] at H
              exact absurd H (by simp)
          · rw [if_neg c4] at H
            have c4b0 : decide (x16_1 < (l0.length : Int)) = false := decide_eq_false c4
            clear c4
            obtain rfl := Option.some.inj H
            go_wp2
            repeat (go_quiet (fail); try go_wp2)
            go_ret
            exact ⟨by first | rfl | (simp [errW_none, errW_some] <;> rfl) | (simp [*, errW_none, errW_some] <;> rfl), by repeat (first | (with_reducible first | exact HB.out | apply below_alloc | apply pw_below_drewN | apply below_drew1) | exact HB.out)⟩
end Go.Proofs.YtecdjnabmjhakaaDoor.P
namespace Go.Proofs.YtecdjnabmjhakaaDoor.P
open Go.RowKit Go.Proofs.YtecdjnabmjhakaaDoorW.PrintWords Go.Proofs.YtecdjnabmjhakaaDoorW.PrintLast Go.Proofs.YtecdjnabmjhakaaDoorW.PrintMore
attribute [local go_sem] max2_int min2_int max_two min_two max_three min_three max_four min_four   -- for this text's walks alone
set_option linter.unusedVariables false
set_option linter.unusedSimpArgs false
def stemma_apart.l0 : Nat → ByteArray → ByteArray → Int → Int → Int → Option (Int)
  | 0, _, _, _, _, _ => none
  | k + 1, x0, x1, x5, x8, x9 => if x9 < x8 then (if 0 ≤ x9 then (if x9 < (x0.size : Int) then (if x9 < (x1.size : Int) then (if (bt x0 x9) = (bt x1 x9) then (stemma_apart.l0 k x0 x1 x5 x8 (wrap64 (x9 + 1))) else (stemma_apart.l0 k x0 x1 (wrap64 (x5 + 1)) x8 (wrap64 (x9 + 1)))) else (none)) else (none)) else (none)) else (some x5)
def stemma_apart.f (k : Nat) (a0 : ByteArray) (a1 : ByteArray) : Option (Int) := stemma_apart.l0 k a0 a1 0 (a0.size : Int) 0
set_option maxHeartbeats 8000000 in
set_option maxRecDepth 100000 in
theorem stemma_apart.calls (k : Nat) (a0 : ByteArray) (a1 : ByteArray) (r : Int) (w : World) (h : stemma_apart.f k a0 a1 = some r) :
    Calls Tryd.prog 36 #[.string a0, .string a1] w fun e w' => e = .returned (.int .i64 r) ∧ Drawn0 w w' := by
  have H : (stemma_apart.l0 k a0 a1 0 (a0.size : Int) 0) = some r := h
  clear h
  have H' := Aside0.mk H
  clear H
  go_enter Tryd.func36, Tryd.ntmps36
  go_wp2
  repeat (go_quiet (fail); try go_wp2)
  go_loopg [5, 9] k (fun kq v5 v9 w' => ∃ (x5_1 : Int) (x9_1 : Int), v5 = .int .i64 x5_1 ∧ v9 = .int .i64 x9_1 ∧ Aside0 (stemma_apart.l0 kq a0 a1 x5_1 (a0.size : Int) x9_1 = some r) ∧ Aside0 (kq ≤ k) ∧ Drawn0 w w')
  case atStart => exact ⟨(0), (0), (by first | rfl | (simp; done) | (simp [*]; done)), (by first | rfl | (simp; done) | (simp [*]; done)), H', ⟨Nat.le_refl _⟩, by repeat (first | exact Drawn0.refl _ | apply Drawn0.step)⟩
  case round =>
    clear H'
    try clear p2
    obtain ⟨x5_1, x9_1, rfl, rfl, HA, HK1, ⟨m1, rfl⟩⟩ := hrel
    cases gk with
    | zero => exact absurd HA.out (by simp [stemma_apart.l0])
    | succ k1 =>
      have H := HA.out
      clear HA
      simp only [stemma_apart.l0] at H
      by_cases c3 : x9_1 < (a0.size : Int)
      · rw [if_pos c3] at H
        have c3b0 : decide (x9_1 < (a0.size : Int)) = true := decide_eq_true c3
        clear c3
        by_cases c4 : 0 ≤ x9_1
        · rw [if_pos c4] at H
          have c4b0 : decide (0 ≤ x9_1) = true := decide_eq_true c4
          clear c4
          by_cases c5 : x9_1 < (a0.size : Int)
          · rw [if_pos c5] at H
            have c5b0 : decide (x9_1 < (a0.size : Int)) = true := decide_eq_true c5
            clear c5
            by_cases c7 : x9_1 < (a1.size : Int)
            · rw [if_pos c7] at H
              have c7b0 : decide (x9_1 < (a1.size : Int)) = true := decide_eq_true c7
              clear c7
              by_cases c9 : (bt a0 x9_1) = (bt a1 x9_1)
              · rw [if_pos c9] at H
                have c9b0 : ((bt a0 x9_1) == (bt a1 x9_1)) = true := beq_iff_eq.mpr c9
                have c9b1 : ((bt a0 x9_1) != (bt a1 x9_1)) = false := bne_eq_false_iff_eq.mpr c9
                clear c9
                have H' := Aside0.mk H
                clear H
                have p6 : 0 ≤ (x9_1 : Int) := of_decide_eq_true (by first | (with_reducible assumption) | assumption)
                have q6 : x9_1 < (a0.size : Int) := of_decide_eq_true (by first | (with_reducible assumption) | assumption)
                have hx6 := bt_at a0 x9_1
                replace p6 := eq_true p6
                replace q6 := eq_true q6
                have p8 : 0 ≤ (x9_1 : Int) := of_decide_eq_true (by first | (with_reducible assumption) | assumption)
                have q8 : x9_1 < (a1.size : Int) := of_decide_eq_true (by first | (with_reducible assumption) | assumption)
                have hx8 := bt_at a1 x9_1
                replace p8 := eq_true p8
                replace q8 := eq_true q8
                go_wp2
                repeat (go_quiet (fail); try go_wp2)
                go_roundg k1
                case measure => have := HK1.out; omega
                case rel => exact ⟨(x5_1), (wrap64 (x9_1 + 1)), (by first | rfl | (simp; done) | (simp [*]; done)), (by first | rfl | (simp; done) | (simp [*]; done)), H', ⟨by have := HK1.out; omega⟩, by repeat (first | exact Drawn0.refl _ | apply Drawn0.step)⟩
              · rw [if_neg c9] at H
                have c9b0 : ((bt a0 x9_1) == (bt a1 x9_1)) = false := beq_eq_false_iff_ne.mpr c9
                have c9b1 : ((bt a0 x9_1) != (bt a1 x9_1)) = true := bne_iff_ne.mpr c9
                have H' := Aside0.mk H
                clear H
                have p6 : 0 ≤ (x9_1 : Int) := of_decide_eq_true (by first | (with_reducible assumption) | assumption)
                have q6 : x9_1 < (a0.size : Int) := of_decide_eq_true (by first | (with_reducible assumption) | assumption)
                have hx6 := bt_at a0 x9_1
                replace p6 := eq_true p6
                replace q6 := eq_true q6
                have p8 : 0 ≤ (x9_1 : Int) := of_decide_eq_true (by first | (with_reducible assumption) | assumption)
                have q8 : x9_1 < (a1.size : Int) := of_decide_eq_true (by first | (with_reducible assumption) | assumption)
                have hx8 := bt_at a1 x9_1
                replace p8 := eq_true p8
                replace q8 := eq_true q8
                go_wp2
                repeat (go_quiet (fail); try go_wp2)
                go_roundg k1
                case measure => have := HK1.out; omega
                case rel => exact ⟨(wrap64 (x5_1 + 1)), (wrap64 (x9_1 + 1)), (by first | rfl | (simp; done) | (simp [*]; done)), (by first | rfl | (simp; done) | (simp [*]; done)), H', ⟨by have := HK1.out; omega⟩, by repeat (first | exact Drawn0.refl _ | apply Drawn0.step)⟩
            · rw [if_neg c7] at H
              exact absurd H (by simp)
          · rw [if_neg c5] at H
            exact absurd H (by simp)
        · rw [if_neg c4] at H
          exact absurd H (by simp)
      · rw [if_neg c3] at H
        have c3b0 : decide (x9_1 < (a0.size : Int)) = false := decide_eq_false c3
        clear c3
        obtain rfl := Option.some.inj H
        go_wp2
        repeat (go_quiet (fail); try go_wp2)
        go_ret
        exact ⟨by first | rfl | (simp; done) | (simp [*]; done), by repeat (first | exact Drawn0.refl _ | apply Drawn0.step)⟩
end Go.Proofs.YtecdjnabmjhakaaDoor.P
namespace Go.Proofs.YtecdjnabmjhakaaDoor.P.OwnSt
open Go.RowKit Go.Proofs.YtecdjnabmjhakaaDoorW.PrintWords Go.Proofs.YtecdjnabmjhakaaDoorW.PrintLast Go.Proofs.YtecdjnabmjhakaaDoorW.PrintMore
set_option linter.unusedVariables false
def atOne (l : List S25) (fs : Nat → Int) (place ch : Int) (i : Nat) : Bool := fs i == -1 && bt (rd_T25 l (i : Int)).f0 place == ch
def atB (l : List S25) (fs : Nat → Int) (place ch : Int) : Bool := (List.range l.length).any (atOne l fs place ch)
def LostAt (W : World) (b : Nat) (A : Option Addr) (n c : Nat) (fs : Nat → Int) : Prop :=
  W.heap[b]? = some (.cells #[.slice A n c, .int .i64 (fs 0), .int .i64 (fs 1), .int .i64 (fs 2), .int .i64 (fs 3), .int .i64 (fs 4)] 63 (0, 0))
theorem LostAt.list {W : World} {b : Nat} {A : Option Addr} {n c : Nat} {fs : Nat → Int} (h : LostAt W b A n c fs) : W.cell? ⟨b, 0, none⟩ = some (.slice A n c) := (blk_cell h 0).trans rfl
theorem LostAt.src {W : World} {b : Nat} {A : Option Addr} {n c : Nat} {fs : Nat → Int} (h : LostAt W b A n c fs) (k : Nat) (hk : k < 5) : W.cell? ⟨b, 1 + k, none⟩ = some (.int .i64 (fs k)) := by
  rw [blk_cell h]
  rcases k with _ | _ | _ | _ | _ | k
  all_goals first | rfl | omega
theorem LostAt.below {W W' : World} {b : Nat} {A : Option Addr} {n c : Nat} {fs : Nat → Int} (h : LostAt W b A n c fs) (hb : Below W.heap.size W W') : LostAt W' b A n c fs := blk_below h hb
theorem any_succ (k : Nat) (p : Nat → Bool) : (List.range (k + 1)).any p = ((List.range k).any p || p k) := by
  rw [List.range_succ, List.any_append]; simp
set_option maxHeartbeats 4000000 in
set_option maxRecDepth 100000 in
theorem at_calls (A : Option Addr) (c : Nat) (l : List S25) (fs : Nat → Int) (place ch : Int) (w : World) (hr : Kd.C k25 w A l.length l) (hc : l.length ≤ c) (h5 : l.length ≤ 5)
    (hp0 : 0 ≤ place) (hp : ∀ i : Nat, i < l.length → place < ((rd_T25 l (i : Int)).f0.size : Int)) :
    Calls Tryd.prog 54 #[.agg #[.slice A l.length c, .int .i64 (fs 0), .int .i64 (fs 1), .int .i64 (fs 2), .int .i64 (fs 3), .int .i64 (fs 4)], .int .i64 place, .int .u8 ch] w fun e w' =>
      e = .returned (.bool (atB l fs place ch)) ∧ Below w.heap.size w w' := by
  have HR := Aside0.mk hr
  have HP := Aside0.mk hp
  clear hr hp
  have HL0 := Aside0.mk (show LostAt (w.alloc (.cells #[.slice A l.length c, .int .i64 (fs 0), .int .i64 (fs 1), .int .i64 (fs 2), .int .i64 (fs 3), .int .i64 (fs 4)] 63)) w.heap.size A l.length c fs from blk_new w _)
  have h0 := HL0.out.list
  go_enter Tryd.func54, Tryd.ntmps54
  go_wp2
  clear h0
  go_loopw [12] (fun v wr => ∃ k : Nat, v = .int .i64 k ∧ k ≤ l.length ∧ Aside0 (LostAt wr w.heap.size A l.length c fs) ∧ Aside0 (Below w.heap.size w wr) ∧ Aside0 ((List.range k).any (atOne l fs place ch) = false)) (fun v _ => l.length - (intOf v).toNat)
  case atStart => exact ⟨0, rfl, by omega, HL0, ⟨(Below.refl _ _).alloc (Nat.le_refl _) _⟩, ⟨rfl⟩⟩
  case round =>
    obtain ⟨k, rfl, hk, HL, HB, HN⟩ := hrel
    by_cases hlt : k < l.length
    · obtain ⟨ad, rfl, hx0, hx1, hx2⟩ := at_T25 HR.out (k : Int) (by omega) (by omega)
      simp only [Int.toNat_natCast] at hx0 hx1 hx2
      replace hx0 := (HB.out.cell (World.block_lt_of_cell? w _ hx0)).trans hx0
      replace hx1 := (HB.out.cell (World.block_lt_of_cell? w _ hx1)).trans hx1
      replace hx2 := (HB.out.cell (World.block_lt_of_cell? w _ hx2)).trans hx2
      have hs := HL.out.src k (by omega)
      have hsl : w.heap.size < wr.heap.size := blk_lt HL.out
      have hk5 : (k : Int) < 5 := by omega
      have hpk := HP.out k hlt
      have hbt := bt_at (rd_T25 l (k : Int)).f0 place
      by_cases hst : fs k = -1
      · have hst1 : (fs k == -1) = true := by simpa using hst
        clear hst
        by_cases heq : bt (rd_T25 l (k : Int)).f0 place = ch
        · have heq1 : (bt (rd_T25 l (k : Int)).f0 place == ch) = true := by simpa using heq
          clear heq
          go_wp2_with fail
          go_ret
          refine ⟨?_, ?_⟩
          · have : atB l fs place ch = true := by
              rw [atB, List.any_eq_true]
              exact ⟨k, by simpa using hlt, by simp [atOne, hst1, heq1]⟩
            rw [this]
            rfl
          · exact HB.out.alloc HB.out.size _
        · have heq1 : (bt (rd_T25 l (k : Int)).f0 place == ch) = false := by simpa using heq
          have HN2 := Aside0.mk (show (List.range (k + 1)).any (atOne l fs place ch) = false by rw [any_succ, HN.out]; simp [atOne, heq1])
          clear heq
          go_wp2_with fail
          go_roundw
          case rel => exact ⟨k + 1, by go_num, by omega, ⟨HL.out.below (below_alloc (Below.refl _ _) _)⟩, ⟨HB.out.alloc HB.out.size _⟩, HN2⟩
          case measure => simp [intOf]; omega
      · have hst1 : (fs k == -1) = false := by simpa using hst
        have HN2 := Aside0.mk (show (List.range (k + 1)).any (atOne l fs place ch) = false by rw [any_succ, HN.out]; simp [atOne, hst1])
        clear hst hbt
        go_wp2_with fail
        go_roundw
        case rel => exact ⟨k + 1, by go_num, by omega, ⟨HL.out.below (below_alloc (Below.refl _ _) _)⟩, ⟨HB.out.alloc HB.out.size _⟩, HN2⟩
        case measure => simp [intOf]; omega
    · have hk' : k = l.length := by omega
      go_wp2_with fail
      go_ret
      refine ⟨?_, HB.out⟩
      rw [atB, ← hk', HN.out]
      rfl
end Go.Proofs.YtecdjnabmjhakaaDoor.P.OwnSt
namespace Go.Proofs.YtecdjnabmjhakaaDoor.P.OwnSt
open Go.RowKit Go.Proofs.YtecdjnabmjhakaaDoorW.PrintWords Go.Proofs.YtecdjnabmjhakaaDoorW.PrintLast Go.Proofs.YtecdjnabmjhakaaDoorW.PrintMore
set_option linter.unusedVariables false
def madeB (n : Nat) (fs : Nat → Int) (i : Nat) : Bool := decide (i < n) && (fs i == -1)
def madeV (m : Nat → Bool) : Value := .agg #[.bool (m 0), .bool (m 1), .bool (m 2), .bool (m 3), .bool (m 4)]
def MadeAt (W : World) (b : Nat) (m : Nat → Bool) : Prop := W.heap[b]? = some (.cells #[.bool (m 0), .bool (m 1), .bool (m 2), .bool (m 3), .bool (m 4)] 70 (0, 0))
theorem MadeAt.cell {W : World} {b : Nat} {m : Nat → Bool} (h : MadeAt W b m) (k : Nat) (hk : k < 5) : W.cell? ⟨b, k, none⟩ = some (.bool (m k)) := by
  rw [blk_cell h]
  rcases k with _ | _ | _ | _ | _ | k
  all_goals first | rfl | omega
theorem MadeAt.set {W : World} {b n : Nat} {fs : Nat → Int} (h : MadeAt W b (madeB n fs)) (hn : n < 5) : MadeAt (W.setCell ⟨b, n, none⟩ (.bool (fs n == -1))) b (madeB (n + 1) fs) := by
  have h1 := blk_set h n (.bool (fs n == -1))
  unfold MadeAt
  rw [h1]
  rcases n with _ | _ | _ | _ | _ | n
  all_goals first | (simp [madeB]; done) | omega
set_option maxHeartbeats 4000000 in
set_option maxRecDepth 100000 in
theorem made_calls (A : Option Addr) (c : Nat) (l : List S25) (fs : Nat → Int) (w : World) (hr : Kd.C k25 w A l.length l) (h5 : l.length ≤ 5) :
    Calls Tryd.prog 29 #[.agg #[.slice A l.length c, .int .i64 (fs 0), .int .i64 (fs 1), .int .i64 (fs 2), .int .i64 (fs 3), .int .i64 (fs 4)]] w fun e w' =>
      e = .returned (madeV (madeB l.length fs)) ∧ Below w.heap.size w w' := by
  have HL0 := Aside0.mk (show LostAt (w.alloc (.cells #[.slice A l.length c, .int .i64 (fs 0), .int .i64 (fs 1), .int .i64 (fs 2), .int .i64 (fs 3), .int .i64 (fs 4)] 63)) w.heap.size A l.length c fs from blk_new w _)
  have h0 := (HL0.out.below (below_alloc (Below.refl _ _) (.cells #[.bool false, .bool false, .bool false, .bool false, .bool false] 70))).list
  go_enter Tryd.func29, Tryd.ntmps29
  go_wp2
  clear h0
  go_loopw [7] (fun v wr => ∃ k : Nat, v = .int .i64 k ∧ k ≤ l.length ∧ Aside0 (LostAt wr w.heap.size A l.length c fs) ∧ Aside0 (Below w.heap.size w wr) ∧ Aside0 (MadeAt wr (w.heap.size + 1) (madeB k fs))) (fun v _ => l.length - (intOf v).toNat)
  case atStart =>
    refine ⟨0, rfl, by omega, ⟨HL0.out.below (below_alloc (Below.refl _ _) _)⟩, ⟨((Below.refl _ _).alloc (Nat.le_refl _) _).alloc (by simp) _⟩, ⟨?_⟩⟩
    have := blk_new (w.alloc (.cells #[.slice A l.length c, .int .i64 (fs 0), .int .i64 (fs 1), .int .i64 (fs 2), .int .i64 (fs 3), .int .i64 (fs 4)] 63)) (.cells #[.bool false, .bool false, .bool false, .bool false, .bool false] 70)
    simpa [MadeAt, madeB] using this
  case round =>
    obtain ⟨k, rfl, hk, HL, HB, HM⟩ := hrel
    by_cases hlt : k < l.length
    · have hs := HL.out.src k (by omega)
      have hk5 : (k : Int) < 5 := by omega
      have hc5 := HM.out.cell k (by omega)
      have hf5 := blk_frozen HM.out k
      go_wp2_with fail
      go_roundw
      case rel => exact ⟨k + 1, by go_num, by omega, ⟨blk_far HL.out (by simp) _⟩, ⟨HB.out.setCell (by simp) _⟩, ⟨HM.out.set (by omega)⟩⟩
      case measure => simp [intOf]; omega
    · have hk' : k = l.length := by omega
      have e0 := HM.out.cell 0 (by omega)
      have e1 := HM.out.cell 1 (by omega)
      have e2 := HM.out.cell 2 (by omega)
      have e3 := HM.out.cell 3 (by omega)
      have e4 := HM.out.cell 4 (by omega)
      have f0 := blk_frozen HM.out 0
      have f1 := blk_frozen HM.out 1
      have f2 := blk_frozen HM.out 2
      have f3 := blk_frozen HM.out 3
      have f4 := blk_frozen HM.out 4
      go_wp2_with fail
      have s0 := blk_set HM.out 0 (.bool (madeB k fs 0))
      have s1 := blk_set s0 1 (.bool (madeB k fs 1))
      have s2 := blk_set s1 2 (.bool (madeB k fs 2))
      have s3 := blk_set s2 3 (.bool (madeB k fs 3))
      have s4 := blk_set s3 4 (.bool (madeB k fs 4))
      simp only [List.setIfInBounds_toArray, List.set_cons_zero, List.set_cons_succ] at s4
      subst hk'
      refine bodyPost_ret (results_cell_row rfl _ _ (w.heap.size + 1) 70 _ (0, 0) _ rfl s4 Tryd.underlying70 rfl (by kernel_rfl)) rfl ⟨rfl, ?_⟩
      exact (((((HB.out.setCell (by simp) _).setCell (by simp) _).setCell (by simp) _).setCell (by simp) _).setCell (by simp) _)
end Go.Proofs.YtecdjnabmjhakaaDoor.P.OwnSt
namespace Go.Proofs.YtecdjnabmjhakaaDoor.P.OwnSt
open Go.RowKit Go.Maps Go.Proofs.YtecdjnabmjhakaaDoorW.PrintWords Go.Proofs.YtecdjnabmjhakaaDoorW.PrintLast Go.Proofs.YtecdjnabmjhakaaDoorW.PrintMore
set_option linter.unusedVariables false
set_option linter.unusedSimpArgs false
theorem laidOut : laidOutB Tryd.prog = true := by kernel_rfl
theorem law111 : Keyed Tryd.prog 106 := Keyed.of_law (deep_law_laid laidOut (m := 20) (by decide) (of_decide_eq_true (by kernel_rfl)) (by kernel_rfl) (by kernel_rfl))
theorem law85 : Keyed Tryd.prog 70 := Keyed.of_law (deep_law_laid laidOut (m := 20) (by decide) (of_decide_eq_true (by kernel_rfl)) (by kernel_rfl) (by kernel_rfl))
def stV (p : Int) (g : Nat → Int) : Value := .agg #[.int .i64 p, .int .i64 (g 0), .int .i64 (g 1), .int .i64 (g 2), .int .i64 (g 3), .int .i64 (g 4)]
theorem keyOf_made (m : Nat → Bool) : ∃ l, keyOf Tryd.prog 70 (madeV m) = some l := by
  have h1 : Tryd.prog.keyType 70 = true := by kernel_rfl
  have h2 : (madeV m).formed Tryd.prog 70 = true := by kernel_rfl
  have h3 : (Tryd.prog.keyLits (Tryd.prog.types.size + 1) 70 (madeV m).cells.toList).isSome = true := by kernel_rfl
  obtain ⟨ls, hls⟩ := Option.isSome_iff_exists.1 h3
  have h4 : Tryd.prog.underlying 70 = some (.array 5 4) := Tryd.underlying70
  refine ⟨.string (keyBytes ls), ?_⟩
  unfold keyOf
  rw [h4]
  simp only [h1, h2, hls, Bool.and_self, if_true, Option.map_some]
theorem keyLits_state0 (P : Program) (d : Nat) (f1 f2 : Field) (hu : P.underlying 106 = some (.struct #[f1, f2])) (h1 : f1.name = "place" ∧ f1.type = 3 ∧ f1.offset = 0) (h2 : f2.name = "left" ∧ f2.type = 104 ∧ f2.offset = 1)
    (h9 : P.underlying 104 = some (.array 5 3)) (h3 : P.underlying 3 = some (.int .i64)) (c3 : P.cellsOf 3 = 1) (c111 : P.cellsOf 106 = 6) (c109 : P.cellsOf 104 = 5) (p a b c e f : Int)
    (hp : (Lit.int .i64 p).wf = true) (g0 : (Lit.int .i64 a).wf = true) (g1 : (Lit.int .i64 b).wf = true) (g2 : (Lit.int .i64 c).wf = true) (g3 : (Lit.int .i64 e).wf = true) (g4 : (Lit.int .i64 f).wf = true) :
    P.keyLits (d + 1 + 1 + 1) 106 [.int .i64 p, .int .i64 a, .int .i64 b, .int .i64 c, .int .i64 e, .int .i64 f] = some [.int .i64 p, .int .i64 a, .int .i64 b, .int .i64 c, .int .i64 e, .int .i64 f] := by
  have k3 : ∀ (d : Nat) (n : Int), (Lit.int .i64 n).wf = true → P.keyLits (d + 1) 3 [.int .i64 n] = some [.int .i64 n] := fun d n hn => by
    unfold Program.keyLits
    rw [h3]
    simp only [hn, and_self, if_true]
  have k9 : P.keyLits (d + 1 + 1) 104 [.int .i64 a, .int .i64 b, .int .i64 c, .int .i64 e, .int .i64 f] = some [.int .i64 a, .int .i64 b, .int .i64 c, .int .i64 e, .int .i64 f] := by
    unfold Program.keyLits
    rw [h9]
    simp only [c109, c3, List.length_cons, List.length_nil, if_true, show List.range 5 = [0, 1, 2, 3, 4] from rfl, List.mapM_cons, List.mapM_nil, Nat.zero_mul, Nat.one_mul, Nat.mul_one, List.drop_zero, List.drop_succ_cons, List.take_succ_cons, List.take_zero, k3 _ _ g0, k3 _ _ g1, k3 _ _ g2, k3 _ _ g3, k3 _ _ g4]
    rfl
  unfold Program.keyLits
  rw [hu]
  obtain ⟨n1, t1, o1⟩ := h1
  obtain ⟨n2, t2, o2⟩ := h2
  simp only [c111, List.length_cons, List.length_nil, List.mapM_cons, List.mapM_nil, t1, t2, o1, o2, c3, c109, List.drop_zero, List.drop_succ_cons, List.take_succ_cons, List.take_zero, k3 _ _ hp, k9]
  rw [if_pos (by refine ⟨trivial, ?_⟩; simp [n1, n2])]
  rfl
theorem keyOf_state (p : Int) (g : Nat → Int) (hp : (Lit.int .i64 p).wf = true) (hg : ∀ i, i < 5 → (Lit.int .i64 (g i)).wf = true) : ∃ l, keyOf Tryd.prog 106 (stV p g) = some l := by
  have hs : Tryd.prog.types.size + 1 = Tryd.prog.types.size - 2 + 1 + 1 + 1 := by kernel_rfl
  have h3 := keyLits_state0 Tryd.prog (Tryd.prog.types.size - 2) _ _ Tryd.underlying106 ⟨rfl, rfl, rfl⟩ ⟨rfl, rfl, rfl⟩ Tryd.underlying104 Tryd.underlying3 (by kernel_rfl) (by kernel_rfl) (by kernel_rfl) p _ _ _ _ _ hp (hg 0 (by omega)) (hg 1 (by omega)) (hg 2 (by omega)) (hg 3 (by omega)) (hg 4 (by omega))
  rw [← hs] at h3
  have h1 : Tryd.prog.keyType 106 = true := by kernel_rfl
  have h2 : (stV p g).formed Tryd.prog 106 = true := by kernel_rfl
  refine ⟨.string (keyBytes [.int .i64 p, .int .i64 (g 0), .int .i64 (g 1), .int .i64 (g 2), .int .i64 (g 3), .int .i64 (g 4)]), ?_⟩
  · unfold keyOf
    rw [Tryd.underlying106]
    simp only [h1, h2, Bool.and_self, if_true]
    rw [show (stV p g).cells.toList = [.int .i64 p, .int .i64 (g 0), .int .i64 (g 1), .int .i64 (g 2), .int .i64 (g 3), .int .i64 (g 4)] from rfl, h3]
    rfl
section
variable {P : Program}
def MemoAt (P : Program) (K : TypeId) (Φ : Value → Value → Prop) (W : World) (mb : Nat) : Prop :=
  ∃ es clock, W.heap[mb]? = some (.map es clock) ∧ ∀ e ∈ es.toList, (∃ l, keyOf P K e.key = some l) ∧ Φ e.key e.val
def MemoHas (W : World) (mb : Nat) (key : Value) : Prop := ∃ es clock, W.heap[mb]? = some (.map es clock) ∧ ∃ e ∈ es.toList, e.key = key
theorem MemoAt.new (K : TypeId) (Φ : Value → Value → Prop) (W : World) : MemoAt P K Φ (W.alloc (.map #[] 0)) W.heap.size := ⟨#[], 0, blk_new W _, by simp⟩
theorem MemoAt.keep {K : TypeId} {Φ : Value → Value → Prop} {W W' : World} {mb : Nat} (h : MemoAt P K Φ W mb) (hb : W'.heap[mb]? = W.heap[mb]?) : MemoAt P K Φ W' mb := by
  obtain ⟨es, c, h1, h2⟩ := h
  exact ⟨es, c, hb.trans h1, h2⟩
theorem MemoAt.look {K T E : TypeId} {Φ : Value → Value → Prop} {W : World} {mb : Nat} (h : MemoAt P K Φ W mb) (law : Keyed P K) (hT : P.underlying T = some (.map K E)) {z : Value} (hz : (zeroValue E).run P W = .ok z W) {key : Value} {l : Lit} (hk : keyOf P K key = some l) :
    ∃ v b, (∀ c : Bool, (Instr.lookup T (.map (some mb)) key c).run P W = .ok (if c = true then .tuple #[v, .bool b] else v) W) ∧ ((b = true ∧ Φ key v ∧ MemoHas W mb key) ∨ (b = false ∧ v = z ∧ ¬ MemoHas W mb key)) := by
  obtain ⟨es, ck, hb, hes⟩ := h
  have hchk := fun em => law.check W em hk
  have hg : (getObj mb).run P W = .ok (.map es ck) W := by simp [getObj, Sem.run, hb]
  rcases law.find W hk es.toList (fun e he => (hes e he).1) with ⟨hf, hno⟩ | ⟨j, e, hf, hj, hek⟩
  · refine ⟨z, false, fun c => ?_, .inr ⟨rfl, rfl, ?_⟩⟩
    · simp [Instr.lookup, run_underlying hT, Sem.run_bind, hg, hchk, hf, hz, Result.andThen]
    · rintro ⟨es', c', hb', e, he, hke⟩
      rw [hb] at hb'
      cases hb'
      exact hno e he hke
  · have hmem : e ∈ es.toList := List.mem_of_getElem? hj
    refine ⟨e.val, true, fun c => ?_, .inl ⟨rfl, hek ▸ (hes e hmem).2, ⟨es, ck, hb, e, hmem, hek⟩⟩⟩
    simp [Instr.lookup, run_underlying hT, Sem.run_bind, hg, hchk, hf, Result.andThen]
theorem MemoAt.update {K T E : TypeId} {Φ : Value → Value → Prop} {W : World} {mb : Nat} (h : MemoAt P K Φ W mb) (law : Keyed P K) (hT : P.underlying T = some (.map K E)) {key val : Value} {l : Lit} (hk : keyOf P K key = some l) (hv : Φ key val) :
    ∃ o, (Instr.mapUpdate T (.map (some mb)) key val).run P W = .ok () (W.putObj mb o) ∧ MemoAt P K Φ (W.putObj mb o) mb ∧ MemoHas (W.putObj mb o) mb key ∧ (∀ k', MemoHas W mb k' → MemoHas (W.putObj mb o) mb k') := by
  obtain ⟨es, ck, hb, hes⟩ := h
  have hchk := law.check W false hk
  have hg : (getObj mb).run P W = .ok (.map es ck) W := by simp [getObj, Sem.run, hb]
  have hlt : mb < W.heap.size := (Array.getElem?_eq_some_iff.1 hb).1
  have hset : ∀ o, (setObj mb o).run P W = .ok () (W.putObj mb o) := fun o => by simp [setObj, Sem.run, hb, World.putObj]
  rcases law.find W hk es.toList (fun e he => (hes e he).1) with ⟨hf, hno⟩ | ⟨j, e, hf, hj, hek⟩
  · refine ⟨.map (es.push { key, val, born := ck }) (ck + 1), ?_, ⟨_, _, World.putObj_heap_same hlt, ?_⟩, ⟨_, _, World.putObj_heap_same hlt, { key, val, born := ck }, by simp, rfl⟩, ?_⟩
    · simp [Instr.mapUpdate, run_underlying hT, Sem.run_bind, hg, hchk, hf, hset, Result.andThen]
    · intro e he
      simp only [Array.toList_push, List.mem_append, List.mem_singleton] at he
      rcases he with he | rfl
      · exact hes e he
      · exact ⟨⟨l, hk⟩, hv⟩
    · rintro k' ⟨es', c', hb', e, he, hke⟩
      rw [hb] at hb'
      cases hb'
      exact ⟨_, _, World.putObj_heap_same hlt, e, by simp only [Array.toList_push, List.mem_append]; exact .inl he, hke⟩
  · have hst : (Instr.keyThatStays e.key key).run P W = .ok key W := by rw [hek]; exact law.stays W hk
    have hj' : es[j]? = some e := by simpa using hj
    have hjl : j < es.size := (Array.getElem?_eq_some_iff.1 hj').1
    refine ⟨.map (es.modify j fun e => { e with key, val }) ck, ?_, ⟨_, _, World.putObj_heap_same hlt, ?_⟩, ⟨_, _, World.putObj_heap_same hlt, { e with key, val }, ?_, rfl⟩, ?_⟩
    · simp [Instr.mapUpdate, run_underlying hT, Sem.run_bind, hg, hchk, hf, hj', hst, hset, Result.andThen]
    · intro x hx
      obtain ⟨i, hi⟩ := List.getElem?_of_mem hx
      rw [Array.getElem?_toList, Array.getElem?_modify] at hi
      split at hi
      · rw [Option.map_eq_some_iff] at hi
        obtain ⟨y, _, rfl⟩ := hi
        exact ⟨⟨l, hk⟩, hv⟩
      · exact hes x (List.mem_of_getElem? (by rw [Array.getElem?_toList]; exact hi))
    · refine List.mem_of_getElem? (i := j) ?_
      rw [Array.getElem?_toList, Array.getElem?_modify, if_pos rfl, hj']
      rfl
    · rintro k' ⟨es', c', hb', x, hx, hke⟩
      rw [hb] at hb'
      cases hb'
      obtain ⟨i, hi⟩ := List.getElem?_of_mem hx
      rw [Array.getElem?_toList] at hi
      by_cases hij : j = i
      · subst hij
        rw [hj'] at hi
        cases hi
        refine ⟨_, _, World.putObj_heap_same hlt, { e with key, val }, List.mem_of_getElem? (i := j) ?_, ?_⟩
        · rw [Array.getElem?_toList, Array.getElem?_modify, if_pos rfl, hj']
          rfl
        · show key = k'
          rw [← hke, hek]
      · refine ⟨_, _, World.putObj_heap_same hlt, x, List.mem_of_getElem? (i := i) ?_, hke⟩
        rw [Array.getElem?_toList, Array.getElem?_modify, if_neg hij]
        exact hi
end
end Go.Proofs.YtecdjnabmjhakaaDoor.P.OwnSt
namespace Go.Proofs.YtecdjnabmjhakaaDoor.P.OwnSt
open Go.RowKit Go.Proofs.YtecdjnabmjhakaaDoorW.PrintWords Go.Proofs.YtecdjnabmjhakaaDoorW.PrintLast Go.Proofs.YtecdjnabmjhakaaDoorW.PrintMore
set_option linter.unusedVariables false
set_option linter.unusedSimpArgs false
section
variable (l : List S25) (fs : Nat → Int) (place letter : Int)
def hit (p c : Int) (i : Nat) : Bool := fs i == -1 && bt (rd_T25 l (i : Int)).f0 p != c
def leftTo (g : Nat → Int) (p c : Int) (k : Nat) (i : Nat) : Int := if i < k ∧ hit l fs p c i = true then g i - 1 else g i
def errsTo (p c : Int) (k : Nat) : Int := (((List.range k).filter (hit l fs p c)).length : Int)
def fitsTo (g : Nat → Int) (p c : Int) (k : Nat) : Bool := (List.range k).all fun i => !hit l fs p c i || decide (0 ≤ g i - 1)
def skipC (p c : Int) (others : Bool) : Bool := (p == place && c != letter) || (p != place && (!atB l fs p c && others))
def stepC (nx : (Nat → Int) → Int) (p : Int) (g : Nat → Int) (st : Int × Bool) (c : Int) : Int × Bool :=
  if skipC l fs place letter p c st.2 = true then st
  else if fitsTo l fs g p c l.length = true then (min st.1 (errsTo l fs p c l.length + nx (leftTo l fs g p c l.length)), st.2 || !atB l fs p c)
  else (st.1, st.2 || !atB l fs p c)
def cs (k : Nat) : List Int := (List.range k).map fun (i : Nat) => 65 + (i : Int)
def nextS : Nat → Int → (Nat → Int) → Int
  | 0, _, _ => 0
  | rem + 1, p, g => ((cs 26).foldl (stepC l fs place letter (nextS rem (p + 1)) p g) (1048576, false)).1
end
theorem cs_succ (k : Nat) : cs (k + 1) = cs k ++ [65 + (k : Int)] := by simp [cs, List.range_succ]
theorem errsTo_succ (l : List S25) (fs : Nat → Int) (p c : Int) (k : Nat) : errsTo l fs p c (k + 1) = errsTo l fs p c k + if hit l fs p c k = true then 1 else 0 := by
  unfold errsTo
  rw [List.range_succ, List.filter_append]
  by_cases h : hit l fs p c k = true <;> simp [h]
theorem errsTo_bound (l : List S25) (fs : Nat → Int) (p c : Int) (k : Nat) : 0 ≤ errsTo l fs p c k ∧ errsTo l fs p c k ≤ k := by
  unfold errsTo
  have := List.length_filter_le (hit l fs p c) (List.range k)
  rw [List.length_range] at this
  omega
theorem fitsTo_succ (l : List S25) (fs : Nat → Int) (g : Nat → Int) (p c : Int) (k : Nat) : fitsTo l fs g p c (k + 1) = (fitsTo l fs g p c k && (!hit l fs p c k || decide (0 ≤ g k - 1))) := by
  unfold fitsTo
  rw [List.range_succ, List.all_append]
  simp
theorem leftTo_succ_hit (l : List S25) (fs : Nat → Int) (g : Nat → Int) (p c : Int) (k : Nat) (h : hit l fs p c k = true) : leftTo l fs g p c (k + 1) = fun i => if i = k then leftTo l fs g p c k k - 1 else leftTo l fs g p c k i := by
  funext i
  unfold leftTo
  by_cases e : i = k
  · subst e; simp [h]
  · by_cases h1 : i < k
    · simp [e, h1, show i < k + 1 by omega]
    · simp [e, h1, show ¬ i < k + 1 by omega]
theorem leftTo_succ_not (l : List S25) (fs : Nat → Int) (g : Nat → Int) (p c : Int) (k : Nat) (h : hit l fs p c k = false) : leftTo l fs g p c (k + 1) = leftTo l fs g p c k := by
  funext i
  unfold leftTo
  by_cases e : i = k
  · subst e; simp [h]
  · by_cases h1 : i < k
    · simp [h1, show i < k + 1 by omega]
    · simp [h1, show ¬ i < k + 1 by omega]
theorem leftTo_self (l : List S25) (fs : Nat → Int) (g : Nat → Int) (p c : Int) (k : Nat) : leftTo l fs g p c k k = g k := by simp [leftTo]
theorem foldC_bound (l : List S25) (fs : Nat → Int) (place letter : Int) (nx : (Nat → Int) → Int) (hnx : ∀ g, 0 ≤ nx g) (p : Int) (g : Nat → Int) (cl : List Int) : ∀ (st : Int × Bool), 0 ≤ st.1 → st.1 ≤ 1048576 →
    0 ≤ (cl.foldl (stepC l fs place letter nx p g) st).1 ∧ (cl.foldl (stepC l fs place letter nx p g) st).1 ≤ 1048576 := by
  induction cl with
  | nil => intro st h1 h2; exact ⟨h1, h2⟩
  | cons c cl ih =>
    intro st h1 h2
    rw [List.foldl_cons]
    have h3 := hnx (leftTo l fs g p c l.length)
    have h4 := (errsTo_bound l fs p c l.length).1
    have h5 : 0 ≤ min st.1 (errsTo l fs p c l.length + nx (leftTo l fs g p c l.length)) ∧ min st.1 (errsTo l fs p c l.length + nx (leftTo l fs g p c l.length)) ≤ 1048576 := by omega
    apply ih
    · unfold stepC
      split
      · exact h1
      · split
        · exact h5.1
        · exact h1
    · unfold stepC
      split
      · exact h2
      · split
        · exact h5.2
        · exact h2
theorem nextS_bound (l : List S25) (fs : Nat → Int) (place letter : Int) (rem : Nat) : ∀ (p : Int) (g : Nat → Int), 0 ≤ nextS l fs place letter rem p g ∧ nextS l fs place letter rem p g ≤ 1048576 := by
  induction rem with
  | zero => intro p g; simp [nextS]
  | succ rem ih => intro p g; exact foldC_bound l fs place letter _ (fun g => (ih _ g).1) p g _ _ (by decide) (by decide)
theorem nextS_congr (l : List S25) (fs : Nat → Int) (place letter : Int) (rem : Nat) : ∀ (p : Int) (g g' : Nat → Int), (∀ i, i < l.length → g i = g' i) → nextS l fs place letter rem p g = nextS l fs place letter rem p g' := by
  induction rem with
  | zero => intro p g g' _; rfl
  | succ rem ih =>
    intro p g g' h
    have hs : stepC l fs place letter (nextS l fs place letter rem (p + 1)) p g = stepC l fs place letter (nextS l fs place letter rem (p + 1)) p g' := by
      funext st c
      unfold stepC
      have h1 : fitsTo l fs g p c l.length = fitsTo l fs g' p c l.length := by
        unfold fitsTo
        rw [Bool.eq_iff_iff, List.all_eq_true, List.all_eq_true]
        constructor <;> intro hh i hi <;> have := hh i hi <;> rw [h i (List.mem_range.1 hi)] at * <;> exact this
      have h2 := ih (p + 1) (leftTo l fs g p c l.length) (leftTo l fs g' p c l.length) (fun i hi => by unfold leftTo; rw [h i hi])
      rw [h1, h2]
    rw [nextS, nextS, hs]
end Go.Proofs.YtecdjnabmjhakaaDoor.P.OwnSt
namespace Go.Proofs.YtecdjnabmjhakaaDoor.P.OwnSt
open Go.RowKit Go.Proofs.YtecdjnabmjhakaaDoorW.PrintWords Go.Proofs.YtecdjnabmjhakaaDoorW.PrintLast Go.Proofs.YtecdjnabmjhakaaDoorW.PrintMore
set_option linter.unusedVariables false
set_option linter.unusedSimpArgs false
def StAt (W : World) (b : Nat) (p : Int) (g : Nat → Int) : Prop := W.heap[b]? = some (.cells #[.int .i64 p, .int .i64 (g 0), .int .i64 (g 1), .int .i64 (g 2), .int .i64 (g 3), .int .i64 (g 4)] 106 (0, 0))
theorem StAt.place {W : World} {b : Nat} {p : Int} {g : Nat → Int} (h : StAt W b p g) : W.cell? ⟨b, 0, none⟩ = some (.int .i64 p) := (blk_cell h 0).trans rfl
theorem StAt.left {W : World} {b : Nat} {p : Int} {g : Nat → Int} (h : StAt W b p g) (k : Nat) (hk : k < 5) : W.cell? ⟨b, 1 + k, none⟩ = some (.int .i64 (g k)) := by
  rw [blk_cell h]
  rcases k with _ | _ | _ | _ | _ | k
  all_goals first | rfl | omega
theorem StAt.set {W : World} {b : Nat} {p : Int} {g : Nat → Int} (h : StAt W b p g) (k : Nat) (hk : k < 5) (x : Int) : StAt (W.setCell ⟨b, 1 + k, none⟩ (.int .i64 x)) b p (fun i => if i = k then x else g i) := by
  have h1 := blk_set h (1 + k) (.int .i64 x)
  unfold StAt
  rw [h1]
  rcases k with _ | _ | _ | _ | _ | k
  all_goals first | (simp; done) | omega
def Right (l : List S25) (fs : Nat → Int) (place letter : Int) (L : Nat) (key val : Value) : Prop :=
  ∃ (rem : Nat) (p : Int) (g : Nat → Int), key = stV p g ∧ p + rem = L ∧ val = .int .i64 (nextS l fs place letter rem p g)
def capV (bx bm bp bl bn : Nat) : Array Value := #[.pointer (some ⟨bx, 0, none⟩), .pointer (some ⟨bm, 0, none⟩), .pointer (some ⟨bp, 0, none⟩), .pointer (some ⟨bl, 0, none⟩), .pointer (some ⟨bn, 0, none⟩)]
structure LW (l : List S25) (fs : Nat → Int) (place letter : Int) (L : Nat) (A : Option Addr) (c bx bm bp bl bn mb : Nat) (W : World) : Prop where
  hl : Kd.C k25 W A l.length l
  hx : LostAt W bx A l.length c fs
  hm : W.heap[bm]? = some (.cells #[.map (some mb)] 102 (0, 0))
  hp : W.heap[bp]? = some (.cells #[.int .i64 place] 3 (0, 0))
  hle : W.heap[bl]? = some (.cells #[.int .u8 letter] 5 (0, 0))
  hn : W.heap[bn]? = some (.cells #[.func (.func 53) #[] (capV bx bm bp bl bn)] 103 (0, 0))
  hmap : MemoAt Tryd.prog 106 (Right l fs place letter L) W mb
theorem StAt.cells {W : World} {b : Nat} {p : Int} {g : Nat → Int} (h : StAt W b p g) : W.cell? ⟨b, 0, none⟩ = some (.int .i64 p) ∧ W.cell? ⟨b, 1, none⟩ = some (.int .i64 (g 0)) ∧ W.cell? ⟨b, 2, none⟩ = some (.int .i64 (g 1)) ∧ W.cell? ⟨b, 3, none⟩ = some (.int .i64 (g 2)) ∧ W.cell? ⟨b, 4, none⟩ = some (.int .i64 (g 3)) ∧ W.cell? ⟨b, 5, none⟩ = some (.int .i64 (g 4)) :=
  ⟨h.place, h.left 0 (by omega), h.left 1 (by omega), h.left 2 (by omega), h.left 3 (by omega), h.left 4 (by omega)⟩
theorem LostAt.cells {W : World} {b : Nat} {A : Option Addr} {n c : Nat} {fs : Nat → Int} (h : LostAt W b A n c fs) : W.cell? ⟨b, 0, none⟩ = some (.slice A n c) ∧ W.cell? ⟨b, 1, none⟩ = some (.int .i64 (fs 0)) ∧ W.cell? ⟨b, 2, none⟩ = some (.int .i64 (fs 1)) ∧ W.cell? ⟨b, 3, none⟩ = some (.int .i64 (fs 2)) ∧ W.cell? ⟨b, 4, none⟩ = some (.int .i64 (fs 3)) ∧ W.cell? ⟨b, 5, none⟩ = some (.int .i64 (fs 4)) :=
  ⟨h.list, h.src 0 (by omega), h.src 1 (by omega), h.src 2 (by omega), h.src 3 (by omega), h.src 4 (by omega)⟩
theorem not_map_of_cell {W : World} {ad : Addr} {v : Value} {mb : Nat} {es : Array MapEntry} {ck : Nat} (h : W.cell? ad = some v) (hm : W.heap[mb]? = some (.map es ck)) : ad.block ≠ mb := by
  intro e
  subst e
  simp [World.cell?, hm] at h
theorem not_map_of_cells {W : World} {b : Nat} {cs : Array Value} {t : TypeId} {k : Nat × Nat} {mb : Nat} {es : Array MapEntry} {ck : Nat} (h : W.heap[b]? = some (.cells cs t k)) (hm : W.heap[mb]? = some (.map es ck)) : b ≠ mb := by
  intro e
  subst e
  rw [h] at hm
  simp at hm
theorem LW.grown {l : List S25} {fs : Nat → Int} {place letter : Int} {L : Nat} {A : Option Addr} {c bx bm bp bl bn mb : Nat} {W W' : World} (h : LW l fs place letter L A c bx bm bp bl bn mb W) (hg : W.grownBy W' (some mb)) (hm : MemoAt Tryd.prog 106 (Right l fs place letter L) W' mb) : LW l fs place letter L A c bx bm bp bl bn mb W' := by
  obtain ⟨es, ck, h1, h2⟩ := h.hmap
  have hk : ∀ {b : Nat} {cs : Array Value} {t : TypeId} {k : Nat × Nat}, W.heap[b]? = some (.cells cs t k) → W'.heap[b]? = some (.cells cs t k) := fun {b} {cs} {t} {k} hb =>
    (hg.block b (blk_lt hb) (fun e => not_map_of_cells hb h1 (by injection e))).trans hb
  exact ⟨Kd.C_foot_ne (fun hx => hx) h.hl (fun ad hA hn => by
    subst hA
    intro e
    obtain ⟨ad', e0, hx0, _⟩ := at_T25 h.hl 0 (by omega) (by omega)
    injection e0 with e0
    subst e0
    simp only [Int.toNat_zero, Nat.zero_mul, Addr.add_zero'] at hx0
    exact not_map_of_cell hx0 h1 e) W' ⟨hg.size, fun i hi hne _ => hg.block i hi (fun e => hne (by injection e))⟩, hk h.hx, hk h.hm, hk h.hp, hk h.hle, hk h.hn, hm⟩
structure SI (l : List S25) (fs : Nat → Int) (place letter : Int) (L : Nat) (A : Option Addr) (c bx bm bp bl bn mb : Nat) (W : World) (p : Int) (g : Nat → Int) (wx : World) : Prop where
  lw0 : LW l fs place letter L A c bx bm bp bl bn mb W
  st : StAt wx W.heap.size p g
  lw : LW l fs place letter L A c bx bm bp bl bn mb wx
  gr : W.grownBy wx (some mb)
section
variable {l : List S25} {fs : Nat → Int} {place letter : Int} {L : Nat} {A : Option Addr} {c bx bm bp bl bn mb : Nat} {W wx w' : World} {p : Int} {g : Nat → Int}
theorem LW.mbLt (h : LW l fs place letter L A c bx bm bp bl bn mb W) : mb < W.heap.size := by
  obtain ⟨es, ck, h1, _⟩ := h.hmap
  exact (Array.getElem?_eq_some_iff.1 h1).1
theorem LW.below (h0 : LW l fs place letter L A c bx bm bp bl bn mb W) (h : LW l fs place letter L A c bx bm bp bl bn mb wx) (hb : Below W.heap.size wx w') : LW l fs place letter L A c bx bm bp bl bn mb w' := by
  have hk : ∀ {b : Nat} {o o' : Obj}, W.heap[b]? = some o → wx.heap[b]? = some o' → w'.heap[b]? = some o' := fun {b} {o} {o'} h0 hb0 => (hb.block b ((Array.getElem?_eq_some_iff.1 h0).1)).trans hb0
  refine ⟨?_, hk h0.hx h.hx, hk h0.hm h.hm, hk h0.hp h.hp, hk h0.hle h.hle, hk h0.hn h.hn, h.hmap.keep (hb.block _ h0.mbLt)⟩
  refine Kd.C_foot_neS (S := fun b => W.heap.size ≤ b) (fun hx => hx) h.hl (fun ad hA hn => ?_) w' ⟨hb.size, fun i hi hne => hb.block i (by omega)⟩
  subst hA
  obtain ⟨ad', e0, hx0, _⟩ := at_T25 h0.hl 0 (by omega) (by omega)
  injection e0 with e0
  subst e0
  simp only [Int.toNat_zero, Nat.zero_mul, Addr.add_zero'] at hx0
  have := World.block_lt_of_cell? W _ hx0
  omega
theorem SI.below (h : SI l fs place letter L A c bx bm bp bl bn mb W p g wx) (hb : Below (W.heap.size + 1) wx w') : SI l fs place letter L A c bx bm bp bl bn mb W p g w' :=
  ⟨h.lw0, (hb.block _ (by omega)).trans h.st, h.lw0.below h.lw (hb.mono (by omega)), ⟨hb.os.trans h.gr.os, hb.tape.trans h.gr.tape, hb.output.trans h.gr.output, Nat.le_trans h.gr.size hb.size, fun k hk hne => (hb.block k (by omega)).trans (h.gr.block k hk hne)⟩⟩
theorem SI.start (h : LW l fs place letter L A c bx bm bp bl bn mb W) : SI l fs place letter L A c bx bm bp bl bn mb W p g (W.alloc (.cells #[.int .i64 p, .int .i64 (g 0), .int .i64 (g 1), .int .i64 (g 2), .int .i64 (g 3), .int .i64 (g 4)] 106)) :=
  ⟨h, blk_new W _, h.below h ((Below.refl _ _).alloc (Nat.le_refl _) _), World.grownBy_alloc W _ _⟩
theorem SI.gap (h : SI l fs place letter L A c bx bm bp bl bn mb W p g wx) : W.heap.size < wx.heap.size := blk_lt h.st
theorem SI.alloc (h : SI l fs place letter L A c bx bm bp bl bn mb W p g wx) (o : Obj) : SI l fs place letter L A c bx bm bp bl bn mb W p g (wx.alloc o) := h.below ((Below.refl _ _).alloc h.gap o)
theorem SI.drewN (h : SI l fs place letter L A c bx bm bp bl bn mb W p g wx) (n : Nat) : SI l fs place letter L A c bx bm bp bl bn mb W p g (wx.drewN n) := h.below (pw_below_drewN (Below.refl _ _) n)
theorem SI.setCell (h : SI l fs place letter L A c bx bm bp bl bn mb W p g wx) {a : Addr} (ha : W.heap.size < a.block) (v : Value) : SI l fs place letter L A c bx bm bp bl bn mb W p g (wx.setCell a v) := h.below ((Below.refl _ _).setCell ha v)
theorem SI.grown (h : SI l fs place letter L A c bx bm bp bl bn mb W p g wx) (hg : wx.grownBy w' (some mb)) (hm : LW l fs place letter L A c bx bm bp bl bn mb w') : SI l fs place letter L A c bx bm bp bl bn mb W p g w' :=
  ⟨h.lw0, (hg.block _ h.gap (fun e => by injection e with e; have := h.lw0.mbLt; omega)).trans h.st, hm, h.gr.trans hg⟩
end
end Go.Proofs.YtecdjnabmjhakaaDoor.P.OwnSt
namespace Go.Proofs.YtecdjnabmjhakaaDoor.P.OwnSt
open Go.RowKit Go.Proofs.YtecdjnabmjhakaaDoorW.PrintWords Go.Proofs.YtecdjnabmjhakaaDoorW.PrintLast Go.Proofs.YtecdjnabmjhakaaDoorW.PrintMore
set_option linter.unusedVariables false
set_option linter.unusedSimpArgs false
theorem wp_gen {P : Program} {c : Code} {K : Exit → Act → World → Prop} {a : Act} {w : World} (I : World → Prop) (h : I w) (k : ∀ wx, I wx → Code.wp P c K a wx) : Code.wp P c K a w := k w h
theorem grown_putObj (W : World) (k : Nat) (o : Obj) : W.grownBy (W.putObj k o) (some k) := ⟨rfl, rfl, rfl, by simp [World.putObj], fun i _ hi => World.putObj_heap_other (fun e => hi (by rw [e]))⟩
def stC (l : List S25) (fs : Nat → Int) (place letter : Int) (rem : Nat) (p : Int) (g : Nat → Int) (j : Nat) : Int × Bool := (cs j).foldl (stepC l fs place letter (nextS l fs place letter rem (p + 1)) p g) (1048576, false)
set_option maxHeartbeats 1000000 in
set_option maxRecDepth 100000 in
theorem next_calls (l : List S25) (fs : Nat → Int) (place letter : Int) (L : Nat) (A : Option Addr) (c bx bm bp bl bn mb : Nat) (hc : l.length ≤ c) (h1 : 1 ≤ l.length) (h5 : l.length ≤ 5) (hL : ∀ i : Nat, i < l.length → (rd_T25 l (i : Int)).f0.size = L) (hL8 : L ≤ 8) (rem : Nat) :
    ∀ (p : Int) (g : Nat → Int) (W : World), p + rem = L → 0 ≤ p → (∀ i, i < 5 → 0 ≤ g i ∧ g i ≤ 9) → LW l fs place letter L A c bx bm bp bl bn mb W →
    Calls Tryd.prog 53 #[.agg #[.int .i64 p, .int .i64 (g 0), .int .i64 (g 1), .int .i64 (g 2), .int .i64 (g 3), .int .i64 (g 4)], .pointer (some ⟨bx, 0, none⟩), .pointer (some ⟨bm, 0, none⟩), .pointer (some ⟨bp, 0, none⟩), .pointer (some ⟨bl, 0, none⟩), .pointer (some ⟨bn, 0, none⟩)] W fun e W' =>
      e = .returned (.int .i64 (nextS l fs place letter rem p g)) ∧ W.grownBy W' (some mb) ∧ LW l fs place letter L A c bx bm bp bl bn mb W' := by
  induction rem with
  | zero =>
    intro p g W hp hp0 hg hW
    have HS := Aside0.mk (SI.start (p := p) (g := g) hW)
    obtain ⟨ad, e0, hx0, hx1, hx2⟩ := at_T25 hW.hl 0 (by omega) (by omega)
    subst e0
    simp only [Int.toNat_zero, Nat.zero_mul, Addr.add_zero'] at hx0 hx1 hx2
    have hadl := World.block_lt_of_cell? W _ hx0
    have hl0 : 0 < l.length := by omega
    have hbx := hW.hx.list
    have hbxl := blk_lt hW.hx
    have hLa : (rd_T25 l 0).f0.size = L := by simpa using hL 0 (by omega)
    have hne : (p == ((rd_T25 l 0).f0.size : Int)) = true := by rw [hLa]; simp; omega
    have H5 := Aside0.mk hL
    clear hL hLa hW hg
    go_enter Tryd.func53, Tryd.ntmps53
    go_upto_region 2 with first | go_quiet (fail) | fail
    refine wp_gen (fun wx => Aside0 (SI l fs place letter L (some ad) c bx bm bp bl bn mb W p g wx)) ⟨HS.out.drewN _⟩ ?_
    intro wx HI
    go_wp2_with fail
    go_ret
    exact ⟨rfl, HI.out.gr, HI.out.lw⟩
  | succ rem ih =>
    intro p g W hp hp0 hg hW
    have HS := Aside0.mk (SI.start (p := p) (g := g) hW)
    obtain ⟨ad, e0, hx0, hx1, hx2⟩ := at_T25 hW.hl 0 (by omega) (by omega)
    subst e0
    simp only [Int.toNat_zero, Nat.zero_mul, Addr.add_zero'] at hx0 hx1 hx2
    have hadl := World.block_lt_of_cell? W _ hx0
    have hl0 : 0 < l.length := by omega
    have hbx := hW.hx.list
    have hbxl := blk_lt hW.hx
    have hLa : (rd_T25 l 0).f0.size = L := by simpa using hL 0 (by omega)
    have hne : (p == ((rd_T25 l 0).f0.size : Int)) = false := by rw [hLa]; simp; omega
    have H5 := Aside0.mk hL
    have HG := Aside0.mk hg
    have IH := Aside0.mk ih
    clear hL hLa hW hg ih
    go_enter Tryd.func53, Tryd.ntmps53
    go_upto_region 3 with first | go_quiet (fail) | fail
    refine wp_gen (fun wx => Aside0 (SI l fs place letter L (some ad) c bx bm bp bl bn mb W p g wx)) ⟨HS.out.drewN _⟩ ?_
    intro wx HI
    clear HS hx0 hx1 hx2 hadl hbx hbxl hne
    obtain ⟨e0, e1, e2, e3, e4, e5⟩ := HI.out.st.cells
    have em := (blk_cell HI.out.lw.hm 0).trans (show (#[Value.map (some mb)] : Array Value)[0]? = some (Value.map (some mb)) from rfl)
    obtain ⟨lit, hlit⟩ := keyOf_state p g (by simp [Lit.wf, show IntKind.min .i64 = -9223372036854775808 from rfl, show IntKind.max .i64 = 9223372036854775807 from rfl]; omega) (fun i hi => by have := HG.out i hi; simp [Lit.wf, show IntKind.min .i64 = -9223372036854775808 from rfl, show IntKind.max .i64 = 9223372036854775807 from rfl]; omega)
    have hz : (zeroValue 3).run Tryd.prog wx = .ok (.int .i64 0) wx := by kernel_rfl
    obtain ⟨v, b, hlook, hv⟩ := HI.out.lw.hmap.look law111 (T := 102) (by kernel_rfl) hz hlit
    have hlk := hlook true
    simp only [if_true, stV] at hlk
    clear hlook
    rcases hv with ⟨rfl, hR, -⟩ | ⟨rfl, rfl, -⟩
    · clear hz
      go_wp2_with fail
      go_ret
      refine ⟨?_, HI.out.gr, HI.out.lw⟩
      obtain ⟨rem', p', g', hk, hr, rfl⟩ := hR
      simp only [stV, Value.agg.injEq, Array.mk.injEq, List.cons.injEq, Value.int.injEq, and_true, true_and] at hk
      obtain ⟨rfl, k0, k1, k2, k3, k4⟩ := hk
      obtain rfl : rem' = rem + 1 := by omega
      refine congrArg (fun x => Ending.returned (Value.int .i64 x)) (nextS_congr l fs place letter (rem + 1) p _ _ (fun i hi => ?_))
      rcases (by omega : i = 0 ∨ i = 1 ∨ i = 2 ∨ i = 3 ∨ i = 4) with rfl | rfl | rfl | rfl | rfl
      · exact k0.symm
      · exact k1.symm
      · exact k2.symm
      · exact k3.symm
      · exact k4.symm
    · clear hz
      have HLIT := Aside0.mk hlit
      clear hlit
      go_wp2_with fail
      clear hlk e0 e1 e2 e3 e4 e5 em
      go_loopg [10, 11, 12] 26 (fun k s10 s11 s12 wr => ∃ j : Nat, j + k = 26 ∧ s12 = .int .u8 (65 + (j : Int)) ∧ s10 = .int .i64 (stC l fs place letter rem p g j).1 ∧ s11 = .bool (stC l fs place letter rem p g j).2 ∧ Aside0 (SI l fs place letter L (some ad) c bx bm bp bl bn mb W p g wr))
      case atStart => exact ⟨0, rfl, rfl, rfl, rfl, HI⟩
      case round =>
        obtain ⟨j, hj, rfl, rfl, rfl, HJ⟩ := hrel
        by_cases hlt : j < 26
        · obtain ⟨cc, hcc⟩ : ∃ cc : Int, cc = 65 + (j : Int) := ⟨_, rfl⟩
          obtain ⟨st, hst⟩ : ∃ st, stC l fs place letter rem p g j = st := ⟨_, rfl⟩
          rw [hst]
          rw [← hcc]
          have hcc65 : 65 ≤ cc := by omega
          have hcc90 : cc ≤ 90 := by omega
          have HCC := Aside0.mk hcc
          have HST := Aside0.mk hst
          have HLT := Aside0.mk (show j + gk = 26 ∧ j < 26 from ⟨hj, hlt⟩)
          clear hlt hcc hst hj
          go_upto_region 11 with fail
          go_cut [11, 64] (fun s11 s64 wx => s11 = .bool st.2 ∧ s64 = .bool (skipC l fs place letter p cc st.2) ∧ Aside0 (SI l fs place letter L (some ad) c bx bm bp bl bn mb W p g wx))
          case first =>
            have HC := Aside0.mk (at_calls (some ad) c l fs p cc wr HJ.out.lw.hl hc h5 hp0 (fun i hi => by rw [H5.out i hi]; omega))
            obtain ⟨e0, -⟩ := HJ.out.st.cells
            have ep := (blk_cell HJ.out.lw.hp 0).trans (show (#[Value.int .i64 place] : Array Value)[0]? = some _ from rfl)
            have el := (blk_cell HJ.out.lw.hle 0).trans (show (#[Value.int .u8 letter] : Array Value)[0]? = some _ from rfl)
            obtain ⟨x0, x1, x2, x3, x4, x5⟩ := HJ.out.lw.hx.cells
            rcases hb1 : (p == place) with _ | _
            · have hb1n : (p != place) = true := by simp [bne, hb1]
              rcases hb2 : atB l fs p cc with _ | _ <;> rcases hb3 : st.2 with _ | _
              all_goals (go_wp2_with first | (go_at_call 54; refine HC.out.mono ?_; rintro e w2 ⟨rfl, hB2⟩) | fail)
              all_goals (refine Met.intro ?_; go_step; (repeat apply Exists.intro); refine ⟨?_, rfl⟩)
              all_goals refine ⟨?_, ?_, ?_⟩
              all_goals first | exact HJ | exact ⟨HJ.out.below (hB2.mono HJ.out.gap)⟩ | (simp [skipC, hb1, hb1n, hb2, hb3]; done) | (simp [hb3]; done)
            · have hb1n : (p != place) = false := by simp [bne, hb1]
              rcases hb4 : (cc == letter) with _ | _
              · have hb4n : (cc != letter) = true := by simp [bne, hb4]
                rcases hb3 : st.2 with _ | _
                all_goals (go_wp2_with first | (go_at_call 54; refine HC.out.mono ?_; rintro e w2 ⟨rfl, hB2⟩) | fail)
                all_goals (refine Met.intro ?_; go_step; (repeat apply Exists.intro); refine ⟨?_, rfl⟩)
                all_goals refine ⟨?_, ?_, ?_⟩
                all_goals first | exact HJ | exact ⟨HJ.out.below (hB2.mono HJ.out.gap)⟩ | (simp [skipC, hb1, hb1n, hb4, hb4n, hb3]; done) | (simp [hb3]; done)
              · have hb4n : (cc != letter) = false := by simp [bne, hb4]
                rcases hb3 : st.2 with _ | _
                all_goals (go_wp2_with first | (go_at_call 54; refine HC.out.mono ?_; rintro e w2 ⟨rfl, hB2⟩) | fail)
                all_goals (refine Met.intro ?_; go_step; (repeat apply Exists.intro); refine ⟨?_, rfl⟩)
                all_goals refine ⟨?_, ?_, ?_⟩
                all_goals first | exact HJ | exact ⟨HJ.out.below (hB2.mono HJ.out.gap)⟩ | (simp [skipC, hb1, hb1n, hb4, hb4n, hb3]; done) | (simp [hb3]; done)
          case rest =>
            obtain ⟨rfl, rfl, HJ1⟩ := hcut
            rcases hsk : skipC l fs place letter p cc st.2 with _ | _
            · clear HJ
              have HSK := Aside0.mk hsk
              clear hsk
              go_upto_region 12 with fail
              go_cut [11] (fun s11 wx => s11 = .bool (st.2 || !atB l fs p cc) ∧ Aside0 (SI l fs place letter L (some ad) c bx bm bp bl bn mb W p g wx))
              case first =>
                have HC := Aside0.mk (at_calls (some ad) c l fs p cc wc HJ1.out.lw.hl hc h5 hp0 (fun i hi => by rw [H5.out i hi]; omega))
                obtain ⟨e0, -⟩ := HJ1.out.st.cells
                obtain ⟨x0, x1, x2, x3, x4, x5⟩ := HJ1.out.lw.hx.cells
                rcases hb2 : atB l fs p cc with _ | _ <;> rcases hb3 : st.2 with _ | _
                all_goals (go_wp2_with first | (go_at_call 54; refine HC.out.mono ?_; rintro e w2 ⟨rfl, hB2⟩) | fail)
                all_goals (refine Met.intro ?_; go_step; (repeat apply Exists.intro); refine ⟨?_, rfl⟩)
                all_goals refine ⟨?_, ?_⟩
                all_goals first | exact HJ1 | exact ⟨HJ1.out.below (hB2.mono HJ1.out.gap)⟩ | (simp [hb2, hb3]; done)
              case rest =>
                obtain ⟨rfl, HJ2⟩ := hcut
                clear HJ1
                obtain ⟨e0, e1, e2, e3, e4, e5⟩ := HJ2.out.st.cells
                have hp7 : p ≤ 7 := by omega
                have hn0 := HJ2.out.gap
                have hll := HJ2.out.lw.hx.list
                have hlt0 := blk_lt HJ2.out.lw.hx
                go_upto_block 2 with fail
                obtain ⟨bt3, hbt3⟩ : ∃ b, b = wc.heap.size := ⟨_, rfl⟩
                rw [← hbt3]
                refine wp_gen (fun wx => Aside0 (SI l fs place letter L (some ad) c bx bm bp bl bn mb W p g wx) ∧ Aside0 (StAt wx bt3 (p + 1) g)) ?_ ?_
                · subst hbt3
                  exact ⟨⟨HJ2.out.alloc _⟩, ⟨blk_new wc _⟩⟩
                rintro wy ⟨HJ3, HT3⟩
                have HB3 := Aside0.mk (show W.heap.size < bt3 by omega)
                clear hbt3 HJ2 e0 e1 e2 e3 e4 e5 hll hlt0 hn0
                clear wc
                go_wp2_with fail
                go_loopg [14, 15, 83] l.length (fun k s14 s15 s83 wr => ∃ i : Nat, i + k = l.length ∧ s83 = .int .i64 (i : Int) ∧ s14 = .int .i64 (errsTo l fs p cc i) ∧ s15 = .bool (fitsTo l fs g p cc i) ∧ Aside0 (SI l fs place letter L (some ad) c bx bm bp bl bn mb W p g wr) ∧ Aside0 (StAt wr bt3 (p + 1) (leftTo l fs g p cc i)))
                case atStart => exact ⟨0, by omega, rfl, rfl, rfl, HJ3, ⟨by rw [show leftTo l fs g p cc 0 = g from funext fun i => by simp [leftTo]]; exact HT3.out⟩⟩
                case round =>
                  obtain ⟨i, hik, rfl, rfl, rfl, HJ4, HT4⟩ := hrel
                  clear HJ3 HT3
                  have HIK := Aside0.mk hik
                  clear hik
                  have he5 := errsTo_bound l fs p cc i
                  by_cases hil : i < l.length
                  · obtain ⟨ad', ea, y0, y1, y2⟩ := at_T25 HJ4.out.lw.hl (i : Int) (by omega) (by omega)
                    injection ea with ea
                    subst ea
                    simp only [Int.toNat_natCast] at y0 y1 y2
                    have hi5 : (i : Int) < 5 := by omega
                    have hil' : (i : Int) < (l.length : Int) := by omega
                    have hs := HJ4.out.lw.hx.src i (by omega)
                    have hsl := blk_lt HJ4.out.lw.hx
                    obtain ⟨e0, -⟩ := HJ4.out.st.cells
                    have hn0 := HJ4.out.gap
                    have hpk : p < ((rd_T25 l (i : Int)).f0.size : Int) := by rw [H5.out i hil]; omega
                    have hbt := bt_at (rd_T25 l (i : Int)).f0 p
                    rcases hst1 : (fs i == -1) with _ | _
                    · have HN := Aside0.mk (show hit l fs p cc i = false by simp [hit, hst1])
                      clear hbt hpk
                      go_wp2_with fail
                      go_roundg (gk - 1)
                      case measure => have := HIK.out; omega
                      case rel =>
                        refine ⟨i + 1, by have := HIK.out; omega, by go_num, by rw [errsTo_succ, HN.out]; simp, by rw [fitsTo_succ, HN.out]; simp, ?_, ?_⟩
                        · exact ⟨HJ4.out.alloc _⟩
                        · rw [leftTo_succ_not l fs g p cc i HN.out]
                          exact ⟨blk_alloc HT4.out _⟩
                    · rcases hne1 : (bt (rd_T25 l (i : Int)).f0 p != cc) with _ | _
                      · have HN := Aside0.mk (show hit l fs p cc i = false by simp [hit, hst1, hne1])
                        go_wp2_with fail
                        go_roundg (gk - 1)
                        case measure => have := HIK.out; omega
                        case rel =>
                          refine ⟨i + 1, by have := HIK.out; omega, by go_num, by rw [errsTo_succ, HN.out]; simp, by rw [fitsTo_succ, HN.out]; simp, ?_, ?_⟩
                          · exact ⟨HJ4.out.alloc _⟩
                          · rw [leftTo_succ_not l fs g p cc i HN.out]
                            exact ⟨blk_alloc HT4.out _⟩
                      · have HN := Aside0.mk (show hit l fs p cc i = true by simp [hit, hst1, hne1])
                        go_upto_region 19 with fail
                        clear y0 y1 y2 hbt hpk e0 hs
                        have ht := HT4.out.left i (by omega)
                        have htf := blk_frozen HT4.out (1 + i)
                        have htl := blk_lt HT4.out
                        rw [leftTo_self] at ht
                        have hgi := HG.out i (by omega)
                        rcases hft : fitsTo l fs g p cc i with _ | _
                        · go_wp2_with fail
                          go_roundg (gk - 1)
                          case measure => have := HIK.out; omega
                          case rel =>
                            refine ⟨i + 1, by have := HIK.out; omega, by go_num, by rw [errsTo_succ, HN.out]; simp, by rw [fitsTo_succ, HN.out, hft]; simp, ?_, ?_⟩
                            · exact ⟨(HJ4.out.setCell (a := ⟨bt3, 1 + i, none⟩) HB3.out _).alloc _⟩
                            · rw [leftTo_succ_hit l fs g p cc i HN.out]
                              rw [leftTo_self]
                              exact ⟨blk_alloc (HT4.out.set i (by omega) (g i - 1)) _⟩
                        · go_wp2_with fail
                          go_roundg (gk - 1)
                          case measure => have := HIK.out; omega
                          case rel =>
                            refine ⟨i + 1, by have := HIK.out; omega, by go_num, by rw [errsTo_succ, HN.out]; simp, by rw [fitsTo_succ, HN.out, hft]; simp, ?_, ?_⟩
                            · exact ⟨(HJ4.out.setCell (a := ⟨bt3, 1 + i, none⟩) HB3.out _).alloc _⟩
                            · rw [leftTo_succ_hit l fs g p cc i HN.out]
                              rw [leftTo_self]
                              exact ⟨blk_alloc (HT4.out.set i (by omega) (g i - 1)) _⟩
                  · obtain rfl : i = l.length := by have := HIK.out; omega
                    have HSK2 := HSK.out
                    rcases hft : fitsTo l fs g p cc l.length with _ | _
                    · have HST2 := Aside0.mk (show stC l fs place letter rem p g (j + 1) = (st.1, st.2 || !atB l fs p cc) by
                        rw [stC, cs_succ, List.foldl_append, ← stC, HST.out, ← HCC.out]
                        simp [stepC, HSK2, hft])
                      clear HSK2
                      go_wp2_with fail
                      go_roundg (26 - (j + 1))
                      case measure => have := HLT.out; omega
                      case rel => exact ⟨j + 1, by have := HLT.out; omega, by rw [HCC.out]; go_num, by rw [HST2.out], by rw [HST2.out], HJ4⟩
                    · have HST2 := Aside0.mk (show stC l fs place letter rem p g (j + 1) = (min st.1 (errsTo l fs p cc l.length + nextS l fs place letter rem (p + 1) (leftTo l fs g p cc l.length)), st.2 || !atB l fs p cc) by
                        rw [stC, cs_succ, List.foldl_append, ← stC, HST.out, ← HCC.out]
                        simp [stepC, HSK2, hft])
                      clear HSK2
                      have HC := Aside0.mk (IH.out (p + 1) (leftTo l fs g p cc l.length) wr (by omega) (by omega) (fun k hk => by
                        have h1 := HG.out k hk
                        unfold leftTo
                        split
                        · rename_i h2
                          have h3 := hft
                          rw [fitsTo, List.all_eq_true] at h3
                          have := h3 k (List.mem_range.2 h2.1)
                          rw [h2.2] at this
                          simp at this
                          omega
                        · exact h1) HJ4.out.lw)
                      obtain ⟨t0, t1, t2, t3, t4, t5⟩ := HT4.out.cells
                      have en := (blk_cell HJ4.out.lw.hn 0).trans (show (#[Value.func (.func 53) #[] (capV bx bm bp bl bn)] : Array Value)[0]? = some _ from rfl)
                      simp only [capV] at en
                      have hnb := nextS_bound l fs place letter rem (p + 1) (leftTo l fs g p cc l.length)
                      obtain ⟨nv, hnv⟩ : ∃ nv, nextS l fs place letter rem (p + 1) (leftTo l fs g p cc l.length) = nv := ⟨_, rfl⟩
                      rw [hnv] at HST2 HC hnb
                      clear hnv
                      go_wp2_with first | (go_at_call 53; refine HC.out.mono ?_; rintro e w2 ⟨rfl, hg2, hW2⟩) | fail
                      · go_roundg (26 - (j + 1))
                        case measure => have := HLT.out; omega
                        case rel => exact ⟨j + 1, by have := HLT.out; omega, by rw [HCC.out]; go_num, by rw [HST2.out]; exact congrArg (Value.int .i64) (by dsimp only; omega), by rw [HST2.out], ⟨HJ4.out.grown hg2 hW2⟩⟩
                      · go_roundg (26 - (j + 1))
                        case measure => have := HLT.out; omega
                        case rel => exact ⟨j + 1, by have := HLT.out; omega, by rw [HCC.out]; go_num, by rw [HST2.out]; exact congrArg (Value.int .i64) (by dsimp only; omega), by rw [HST2.out], ⟨HJ4.out.grown hg2 hW2⟩⟩
            · have HST2 := Aside0.mk (show stC l fs place letter rem p g (j + 1) = st by
                rw [stC, cs_succ, List.foldl_append, ← stC, HST.out, ← HCC.out]
                simp [stepC, hsk])
              go_wp2_with fail
              go_roundg (gk - 1)
              case measure => have := HLT.out; omega
              case rel => exact ⟨j + 1, by have := HLT.out; omega, by rw [HCC.out]; go_num, by rw [HST2.out], by rw [HST2.out], HJ1⟩
        · obtain rfl : j = 26 := by omega
          have hN : nextS l fs place letter (rem + 1) p g = (stC l fs place letter rem p g 26).1 := rfl
          have hRt : Right l fs place letter L (stV p g) (.int .i64 (stC l fs place letter rem p g 26).1) := ⟨rem + 1, p, g, rfl, by omega, rfl⟩
          obtain ⟨o, hupd, hm1, -, -⟩ := HJ.out.lw.hmap.update law111 (T := 102) (E := 3) (by kernel_rfl) HLIT.out hRt
          have HM1 := Aside0.mk hm1
          clear hm1 hRt
          simp only [stV] at hupd
          obtain ⟨nv, hnv⟩ : ∃ nv, (stC l fs place letter rem p g 26).1 = nv := ⟨_, rfl⟩
          rw [hnv] at hupd ⊢
          have HNV := Aside0.mk (hN.trans hnv)
          clear hnv hN
          obtain ⟨e0, e1, e2, e3, e4, e5⟩ := HJ.out.st.cells
          have em := (blk_cell HJ.out.lw.hm 0).trans (show (#[Value.map (some mb)] : Array Value)[0]? = some (Value.map (some mb)) from rfl)
          go_wp2_with fail
          go_ret
          have hJ9 := HJ.out.grown (grown_putObj wr mb o) (HJ.out.lw.grown (grown_putObj wr mb o) HM1.out)
          exact ⟨by rw [HNV.out]; rfl, hJ9.gr, hJ9.lw⟩
end Go.Proofs.YtecdjnabmjhakaaDoor.P.OwnSt
namespace Go.Proofs.YtecdjnabmjhakaaDoor.P.OwnSt
open Go.RowKit Go.Proofs.YtecdjnabmjhakaaDoorW.PrintWords Go.Proofs.YtecdjnabmjhakaaDoorW.PrintLast Go.Proofs.YtecdjnabmjhakaaDoorW.PrintMore
set_option linter.unusedVariables false
set_option linter.unusedSimpArgs false
def RestAt (W : World) (b : Nat) (g : Nat → Int) : Prop := W.heap[b]? = some (.cells #[.int .i64 (g 0), .int .i64 (g 1), .int .i64 (g 2), .int .i64 (g 3), .int .i64 (g 4)] 104 (0, 0))
theorem RestAt.cells {W : World} {b : Nat} {g : Nat → Int} (h : RestAt W b g) : W.cell? ⟨b, 0, none⟩ = some (.int .i64 (g 0)) ∧ W.cell? ⟨b, 1, none⟩ = some (.int .i64 (g 1)) ∧ W.cell? ⟨b, 2, none⟩ = some (.int .i64 (g 2)) ∧ W.cell? ⟨b, 3, none⟩ = some (.int .i64 (g 3)) ∧ W.cell? ⟨b, 4, none⟩ = some (.int .i64 (g 4)) :=
  ⟨(blk_cell h 0).trans rfl, (blk_cell h 1).trans rfl, (blk_cell h 2).trans rfl, (blk_cell h 3).trans rfl, (blk_cell h 4).trans rfl⟩
theorem RestAt.get {W : World} {b : Nat} {g : Nat → Int} (h : RestAt W b g) (k : Nat) (hk : k < 5) : W.cell? ⟨b, k, none⟩ = some (.int .i64 (g k)) := by
  rw [blk_cell h]
  rcases k with _ | _ | _ | _ | _ | k
  all_goals first | rfl | omega
theorem RestAt.set {W : World} {b : Nat} {g : Nat → Int} (h : RestAt W b g) (k : Nat) (hk : k < 5) (x : Int) : RestAt (W.setCell ⟨b, k, none⟩ (.int .i64 x)) b (fun i => if i = k then x else g i) := by
  have h1 := blk_set h k (.int .i64 x)
  unfold RestAt
  rw [h1]
  rcases k with _ | _ | _ | _ | _ | k
  all_goals first | (simp; done) | omega
def errV (l : List S25) (n : Nat) (i : Nat) : Int := if i < n then (rd_T25 l (i : Int)).f1 else 0
def leastV (l : List S25) (fs : Nat → Int) (place letter : Int) : Int := nextS l fs place letter (rd_T25 l 0).f0.size 0 (errV l l.length)
theorem leastV_bound (l : List S25) (fs : Nat → Int) (place letter : Int) : 0 ≤ leastV l fs place letter ∧ leastV l fs place letter ≤ 1048576 := nextS_bound _ _ _ _ _ _ _
theorem errV_succ (l : List S25) (n : Nat) : errV l (n + 1) = fun i => if i = n then (rd_T25 l (n : Int)).f1 else errV l n i := by
  funext i
  unfold errV
  by_cases e : i = n
  · subst e; simp
  · by_cases h : i < n
    · simp [e, h, show i < n + 1 by omega]
    · simp [e, h, show ¬ i < n + 1 by omega]
@[go_sem] theorem run_store_func {P : Program} {w : World} (a : Addr) (m : Mode) (f : Fn) (i c : Array Value) : (store a (.func f i c) m).run P w = stored P w a (.func f i c) m := run_store P w a _ m rfl
set_option maxHeartbeats 1000000 in
set_option maxRecDepth 100000 in
theorem least_calls (A : Option Addr) (c : Nat) (l : List S25) (fs : Nat → Int) (place letter : Int) (w : World) (hr : Kd.C k25 w A l.length l) (hc : l.length ≤ c) (h1 : 1 ≤ l.length) (h5 : l.length ≤ 5)
    (hL : ∀ i : Nat, i < l.length → (rd_T25 l (i : Int)).f0.size = (rd_T25 l 0).f0.size) (hL8 : (rd_T25 l 0).f0.size ≤ 8) (he : ∀ i : Nat, i < l.length → 0 ≤ (rd_T25 l (i : Int)).f1 ∧ (rd_T25 l (i : Int)).f1 ≤ 9) :
    Calls Tryd.prog 31 #[.agg #[.slice A l.length c, .int .i64 (fs 0), .int .i64 (fs 1), .int .i64 (fs 2), .int .i64 (fs 3), .int .i64 (fs 4)], .int .i64 place, .int .u8 letter] w fun e w' =>
      e = .returned (.int .i64 (leastV l fs place letter)) ∧ Below w.heap.size w w' := by
  have HR := Aside0.mk hr
  have HL := Aside0.mk hL
  have HE := Aside0.mk he
  clear hr hL he
  go_enter Tryd.func31, Tryd.ntmps31
  go_upto_region 1 with fail
  refine wp_gen (fun wx => Aside0 (LostAt wx w.heap.size A l.length c fs ∧ wx.heap[w.heap.size + 1]? = some (.cells #[.int .i64 place] 3 (0, 0)) ∧ wx.heap[w.heap.size + 2]? = some (.cells #[.int .u8 letter] 5 (0, 0)) ∧ Below w.heap.size w wx) ∧ wx.heap.size = w.heap.size + 3) ?_ ?_
  · exact ⟨⟨blk_alloc (blk_alloc (blk_new w _) _) _, blk_alloc (by simpa using blk_new (w.alloc _) _) _, by simpa using blk_new ((w.alloc _).alloc _) _, (((Below.refl _ _).alloc (Nat.le_refl _) _).alloc (by simp) _).alloc (by simp; omega) _⟩, by simp⟩
  rintro w1 ⟨H1, hs1⟩
  have hmk := run_makeMap (P := Tryd.prog) 102 w1
  rw [hs1] at hmk
  go_upto_region 2 with fail
  refine wp_gen (fun wx => Aside0 (LostAt wx w.heap.size A l.length c fs ∧ wx.heap[w.heap.size + 1]? = some (.cells #[.int .i64 place] 3 (0, 0)) ∧ wx.heap[w.heap.size + 2]? = some (.cells #[.int .u8 letter] 5 (0, 0)) ∧ wx.heap[w.heap.size + 3]? = some (.map #[] 0) ∧ wx.heap[w.heap.size + 4]? = some (.cells #[.map (some (w.heap.size + 3))] 102 (0, 0)) ∧ Below w.heap.size w wx) ∧ wx.heap.size = w.heap.size + 5) ?_ ?_
  · obtain ⟨a1, a2, a3, a4⟩ := H1.out
    have b1 := blk_new w1 (.map #[] 0)
    have b2 := blk_new (w1.alloc (.map #[] 0)) (.cells #[.map (some (w.heap.size + 3))] 102)
    rw [hs1] at b1
    rw [World.size_alloc, hs1] at b2
    exact ⟨⟨blk_alloc (blk_alloc a1 _) _, blk_alloc (blk_alloc a2 _) _, blk_alloc (blk_alloc a3 _) _, blk_alloc b1 _, b2, (a4.alloc (by omega) _).alloc (by simp; omega) _⟩, by simp [hs1]⟩
  clear hmk hs1 H1 w1
  rintro w1 ⟨H1, hs1⟩
  go_upto_region 3 with fail
  refine wp_gen (fun wx => Aside0 (LostAt wx w.heap.size A l.length c fs ∧ wx.heap[w.heap.size + 1]? = some (.cells #[.int .i64 place] 3 (0, 0)) ∧ wx.heap[w.heap.size + 2]? = some (.cells #[.int .u8 letter] 5 (0, 0)) ∧ wx.heap[w.heap.size + 3]? = some (.map #[] 0) ∧ wx.heap[w.heap.size + 4]? = some (.cells #[.map (some (w.heap.size + 3))] 102 (0, 0)) ∧ wx.heap[w.heap.size + 5]? = some (.cells #[.nilFunc] 103 (0, 0)) ∧ Below w.heap.size w wx) ∧ wx.heap.size = w.heap.size + 6) ?_ ?_
  · obtain ⟨a1, a2, a3, a4, a5, a6⟩ := H1.out
    have b1 := blk_new w1 (.cells #[.nilFunc] 103)
    rw [hs1] at b1
    exact ⟨⟨blk_alloc a1 _, blk_alloc a2 _, blk_alloc a3 _, blk_alloc a4 _, blk_alloc a5 _, b1, a6.alloc (by omega) _⟩, by simp [hs1]⟩
  clear hs1 H1 w1
  rintro w1 ⟨H1, hs1⟩
  have hcf := (blk_cell H1.out.2.2.2.2.2.1 0).trans (show (#[Value.nilFunc] : Array Value)[0]? = some _ from rfl)
  have hff := blk_frozen H1.out.2.2.2.2.2.1 0
  have hll := blk_lt H1.out.2.2.2.2.2.1
  have HS1 := Aside0.mk hs1
  clear hs1
  go_upto_region 4 with fail
  refine wp_gen (fun wx => LW l fs place letter (rd_T25 l 0).f0.size A c w.heap.size (w.heap.size + 4) (w.heap.size + 1) (w.heap.size + 2) (w.heap.size + 5) (w.heap.size + 3) wx ∧ Aside0 (Below w.heap.size w wx) ∧ wx.heap.size = w.heap.size + 6) ?_ ?_
  · obtain ⟨a1, a2, a3, a4, a5, a6, a7⟩ := H1.out
    have hb : ∀ k, k ≠ w.heap.size + 5 → (w1.setCell ⟨w.heap.size + 5, 0, none⟩ (.func (.func 53) #[] (capV w.heap.size (w.heap.size + 4) (w.heap.size + 1) (w.heap.size + 2) (w.heap.size + 5)))).heap[k]? = w1.heap[k]? := fun k hk => Below.heap_setCell w1 ⟨w.heap.size + 5, 0, none⟩ _ k hk
    have hB := a7.setCell (p := ⟨w.heap.size + 5, 0, none⟩) (by simp) (.func (.func 53) #[] (capV w.heap.size (w.heap.size + 4) (w.heap.size + 1) (w.heap.size + 2) (w.heap.size + 5)))
    refine ⟨⟨Kd.C_below HR.out hB, (hb _ (by omega)).trans a1, (hb _ (by omega)).trans a5, (hb _ (by omega)).trans a2, (hb _ (by omega)).trans a3, ?_, ⟨#[], 0, (hb _ (by omega)).trans a4, by simp⟩⟩, ⟨hB⟩, by simp [HS1.out]⟩
    have := blk_set a6 0 (.func (.func 53) #[] (capV w.heap.size (w.heap.size + 4) (w.heap.size + 1) (w.heap.size + 2) (w.heap.size + 5)))
    exact this.trans (by simp)
  clear hcf hff hll HS1 H1 w1
  rintro w1 ⟨HW0, HB, hs1⟩
  have HW := Aside0.mk HW0
  clear HW0
  go_upto_region 5 with fail
  have HS := Aside0.mk hs1
  refine wp_gen (fun wx => Aside0 (RestAt wx (w.heap.size + 6) (fun _ => 0)) ∧ Aside0 (Below (w.heap.size + 6) w1 wx)) ?_ ?_
  · have h2 := blk_new w1 (.cells #[.int .i64 0, .int .i64 0, .int .i64 0, .int .i64 0, .int .i64 0] 104)
    rw [hs1] at h2
    exact ⟨⟨h2⟩, ⟨(Below.refl _ _).alloc (by omega) _⟩⟩
  clear hs1
  have hgo : ∀ wx, Below (w.heap.size + 6) w1 wx → LW l fs place letter (rd_T25 l 0).f0.size A c w.heap.size (w.heap.size + 4) (w.heap.size + 1) (w.heap.size + 2) (w.heap.size + 5) (w.heap.size + 3) wx ∧ Below w.heap.size w wx := fun wx hb =>
    ⟨HW.out.below HW.out (by rw [HS.out]; exact hb), HB.out.trans (hb.mono (by omega))⟩
  have HGO := Aside0.mk hgo
  clear hgo HW HB HS
  rintro wx ⟨HT, HB⟩
  have hl0 := (HGO.out _ HB.out).1.hx.list
  have hl1 := blk_lt (HGO.out _ HB.out).1.hx
  go_wp2_with fail
  clear hl0 hl1
  go_loopg [17] l.length (fun k s17 wr => ∃ i : Nat, i + k = l.length ∧ s17 = .int .i64 (i : Int) ∧ Aside0 (RestAt wr (w.heap.size + 6) (errV l i)) ∧ Aside0 (Below (w.heap.size + 6) w1 wr))
  case atStart => exact ⟨0, by omega, rfl, ⟨by rw [show errV l 0 = fun _ => 0 from funext fun i => by simp [errV]]; exact HT.out⟩, HB⟩
  case round =>
    obtain ⟨i, hik, rfl, HT1, HB1⟩ := hrel
    have HIK := Aside0.mk hik
    clear hik HT HB
    have HW1 := Aside0.mk (HGO.out _ HB1.out).1
    by_cases hil : i < l.length
    · obtain ⟨ad, rfl, y0, y1, y2⟩ := at_T25 HW1.out.hl (i : Int) (by omega) (by omega)
      simp only [Int.toNat_natCast] at y0 y1 y2
      have hil' : (i : Int) < (l.length : Int) := by omega
      have hi5 : (i : Int) < 5 := by omega
      have ht := HT1.out.get i (by omega)
      have htf := blk_frozen HT1.out i
      have htl := blk_lt HT1.out
      go_wp2_with fail
      go_roundg (gk - 1)
      case measure => have := HIK.out; omega
      case rel =>
        refine ⟨i + 1, by have := HIK.out; omega, by go_num, ?_, ?_⟩
        · rw [errV_succ]
          exact ⟨blk_alloc (HT1.out.set i (by omega) _) _⟩
        · exact ⟨(HB1.out.setCell (p := ⟨w.heap.size + 6, i, none⟩) (by simp) _).alloc (by simp; omega) _⟩
    · obtain rfl : i = l.length := by have := HIK.out; omega
      have HC := Aside0.mk (next_calls l fs place letter (rd_T25 l 0).f0.size A c _ _ _ _ _ _ hc h1 h5 HL.out hL8 (rd_T25 l 0).f0.size 0 (errV l l.length) wr (by omega) (by omega) (fun i hi => by
        unfold errV
        split
        · exact HE.out i (by assumption)
        · omega) HW1.out)
      obtain ⟨t0, t1, t2, t3, t4⟩ := HT1.out.cells
      have en := (blk_cell HW1.out.hn 0).trans (show (#[Value.func (.func 53) #[] (capV w.heap.size (w.heap.size + 4) (w.heap.size + 1) (w.heap.size + 2) (w.heap.size + 5))] : Array Value)[0]? = some _ from rfl)
      simp only [capV] at en
      have hnb := leastV_bound l fs place letter
      have hnv : nextS l fs place letter (rd_T25 l 0).f0.size 0 (errV l l.length) = leastV l fs place letter := rfl
      rw [hnv] at HC
      clear hnv
      obtain ⟨nv, hnv⟩ : ∃ nv, leastV l fs place letter = nv := ⟨_, rfl⟩
      rw [hnv] at HC hnb
      have HNV := Aside0.mk hnv
      clear hnv
      have HX := Aside0.mk ((HGO.out _ HB1.out).2)
      clear HW1
      go_wp2_with first | (go_at_call 53; refine HC.out.mono ?_; rintro e w2 ⟨rfl, hg2, hW2⟩) | fail
      · go_ret
        exact ⟨by rw [HNV.out]; exact congrArg (fun x => Ending.returned (Value.int .i64 x)) (by omega), HX.out.grown hg2 HX.out.size (fun k hk => by injection hk; omega)⟩
      · go_ret
        exact ⟨by rw [HNV.out]; exact congrArg (fun x => Ending.returned (Value.int .i64 x)) (by omega), HX.out.grown hg2 HX.out.size (fun k hk => by injection hk; omega)⟩
end Go.Proofs.YtecdjnabmjhakaaDoor.P.OwnSt
namespace Go.Proofs.YtecdjnabmjhakaaDoor.P.OwnSt
open Go.RowKit Go.Shelf Go.Proofs.YtecdjnabmjhakaaDoorW.PrintWords Go.Proofs.YtecdjnabmjhakaaDoorW.PrintLast Go.Proofs.YtecdjnabmjhakaaDoorW.PrintMore
set_option linter.unusedVariables false
set_option linter.unusedSimpArgs false
def SeqT {α : Type} (F : Fence) (n : Nat) (P : Program) (g : Nat) (lb : Array Value) (encs : α → Array Value) (Kp It : World → World → Prop) (S : List α → Prop) (N : Nat) (w : World) : Prop :=
  ∀ (l : Nat) (J : List α → World → Prop) (W : World), Below w.heap.size w W → (∀ s A B, J s A → It A B → J s B) →
    (∀ pre x W1, J pre W1 → pre.length < N → YieldAt F (n - 1) P l (encs x) W1 fun e W' => e = .returned (.bool true) ∧ J (pre ++ [x]) W' ∧ Kp W1 W') →
    J [] W →
    CallsIn F n P g (#[.func (.yield l) #[] #[]] ++ lb) W fun e W' => (∃ v, e = .returned v) ∧ ∃ xs, S xs ∧ J xs W'
def tPost {α : Type} (B : Nat) (Kp : World → World → Prop) (I : List α → World → Prop) (xs : List α) (W : World) : Exit → Act → World → Prop
  | .normal, _, W' => KeepsFrom B W W' ∧ Kp W W' ∧ I xs W'
  | _, _, _ => False
theorem wpIn_rangeFunc_T {F : Fence} {n : Nat} {P : Program} {α : Type} {g : Operand} {ps : Array Tmp} {assign body : Code} {Q : Exit → Act → World → Prop} {a : Act} {w : World}
    (hro : F.round = none) (h1 : 1 ≤ n) {gf : Nat} {lb : Array Value} (hg : a.eval g = .func (.func gf) #[] lb) (hFg : F.fn gf) (eg : ∀ args w, (callFunc gf args).run P w = .ok (.enter gf args) w)
    {encs : α → Array Value} {Kp It : World → World → Prop} {S : List α → Prop} {N : Nat} {w0 : World} (hseq : SeqT F (n - 1) P gf lb encs Kp It S N w0)
    (hKt : ∀ {A B C : World}, Kp A B → Kp B C → Kp A C) (hKb : ∀ (W : World) (l : Nat) (o o' : Obj), w.heap.size ≤ l → W.heap[l]? = some o → o.isCells = false → o.isWalk = false → Kp W (W.putObj l o'))
    (hIt : ∀ (A B : World) (k : Nat) (o : Obj), It A B → A.heap[k]? = some o → o.isCells = false → B.heap[k]? = some o)
    (hb0 : Below w0.heap.size w0 w) (hps : ∀ x, (encs x).size = ps.size)
    (I : List α → World → Prop) (hI : OwnFrom w.heap.size I) (hII : ∀ s A B, I s A → It A B → I s B) (h0 : I [] w) (Ax : α → Act → World → Prop) (hAx : ∀ x a', OwnFrom w.heap.size (fun (_ : Unit) W => Ax x a' W))
    (hassign : ∀ (l : Nat) (pre : List α) (x : α) (W : World) (K : Act → World → Prop), I pre W → (∀ a' W', KeepsFrom w.heap.size W W' → Kp W W' → I pre W' → Ax x a' W' → K a' W') →
      assign.wpIn (F.inRound l) (n - 1 - 1) P (Exit.then K (fun _ _ _ => False)) { tmps := (ps.zip (encs x)).foldl (fun t (p, v) => t.setIfInBounds p v) a.tmps, defers := [] } W)
    (hbody : ∀ (l : Nat) (pre : List α) (x : α) (a' : Act) (W : World), I pre W → Ax x a' W → pre.length < N → body.wpIn (F.inRound l) (n - 1 - 1) P (tPost w.heap.size Kp I (pre ++ [x]) W) a' W)
    (hdone : ∀ (D : Nat) (xs : List α) (W : World), w.heap.size ≤ D → S xs → I xs W → W.heap[D]? = some (.deferred (some [])) → Q .normal { a with defers := { target := .collected D, args := #[] } :: a.defers } W) :
    (Code.rangeFunc g ps assign body).wpIn F n P Q a w := by
  refine wpIn_rangeFunc ?_
  intro fn hfn
  rw [hro]
  obtain ⟨rec, hrec⟩ : ∃ rec : LoopState → Option Code → Loop, rec = fun st pe => { state := st, pending := pe, fn, tmps := a.tmps, params := ps, assign, body, defers := w.heap.size } := ⟨_, rfl⟩
  obtain ⟨W1, hW1⟩ : ∃ W1, (w.alloc (.deferred (some []))).alloc (.loop (rec .ready none)) = W1 := ⟨_, rfl⟩
  have hL1 : W1.heap[w.heap.size + 1]? = some (.loop (rec .ready none)) := by
    rw [← hW1]; have := World.alloc_heap_new (w.alloc (.deferred (some []))) (.loop (rec .ready none)); rwa [World.size_alloc] at this
  have hK1 : W1.heap[w.heap.size]? = some (.deferred (some [])) := by
    rw [← hW1]; exact (Below.heap_alloc _ _ _ (by simp)).trans (World.alloc_heap_new w _)
  have hI1 : I [] W1 := by rw [← hW1]; exact hI.alloc _ (hI.alloc _ h0)
  have hb1 : Below w0.heap.size w0 W1 := by
    rw [← hW1]; exact hb0.trans ((((Below.refl _ w).alloc (Nat.le_refl _) _).alloc (by simp) _).mono hb0.size)
  refine ⟨w.heap.size + 1, [{ target := .collected w.heap.size, args := #[] }], W1, { target := .fn (.func gf) lb, args := #[.func (.yield (w.heap.size + 1)) #[] #[]] }, W1, gf,
    #[.func (.yield (w.heap.size + 1)) #[] #[]] ++ lb, W1, ?_, ?_, ?_, ?_, fun _ => h1, ?_⟩
  · rw [← hW1, hrec]; exact run_enterLoop_outer _ _ _ _ _
  · simp only [resolve, hg]
    simp [go_sem]
  · intro f' hf'; simp [Target.leads] at hf'; subst hf'; exact hFg
  · simp [invoke, go_sem, eg]
  · refine (hseq (w.heap.size + 1)
      (fun pre W => I pre W ∧ W.heap[w.heap.size + 1]? = some (.loop (rec .ready none)) ∧ W.heap[w.heap.size]? = some (.deferred (some [])))
      W1 hb1
      (fun s A B hs hit => ⟨hII s A B hs.1 hit, hIt A B _ _ hit hs.2.1 rfl, hIt A B _ _ hit hs.2.2 rfl⟩)
      ?_ ⟨hI1, hL1, hK1⟩).mono ?_
    · rintro pre x W ⟨hi, hl, hk⟩ hlen
      have hlt : w.heap.size + 1 < W.heap.size := (Array.getElem?_eq_some_iff.1 hl).1
      have hy := run_yield (P := P) (args := encs x) hl (by rw [hrec]; exact hps x)
      rw [hrec] at hy
      refine ⟨fn, _, assign, body, hy, roundIn_of_wpIn hfn (hassign _ pre x W _ hi ?_)⟩
      clear hy
      intro a' Wa hkfa hkpa hia hax
      replace hl := hkfa.same _ _ (by omega) hl rfl
      replace hk := hkfa.same _ _ (Nat.le_refl _) hk rfl
      replace hlt : w.heap.size + 1 < Wa.heap.size := (Array.getElem?_eq_some_iff.1 hl).1
      replace hi := hia
      clear hia
      revert hkpa hkfa
      generalize W = Wb
      intro hkfa hkpa
      obtain ⟨W, rfl⟩ : ∃ W, W = Wa := ⟨_, rfl⟩
      refine ⟨_, run_beginRound hl (by rw [hrec]), ?_⟩
      have hl2 : (W.putObj (w.heap.size + 1) (.loop { rec .ready none with state := .busy })).heap[w.heap.size + 1]? = some (.loop { rec .ready none with state := .busy }) := World.putObj_heap_same hlt
      have hk2 : (W.putObj (w.heap.size + 1) (.loop { rec .ready none with state := .busy })).heap[w.heap.size]? = some (.deferred (some [])) := (World.putObj_heap_other (by omega)).trans hk
      have hw2 : Kp W (W.putObj (w.heap.size + 1) (.loop { rec .ready none with state := .busy })) := hKb _ _ _ _ (by omega) hl rfl rfl
      refine wpIn_mono (hbody _ pre x a' _ (hI.putObj _ hi (by omega) hl rfl) ((hAx x a').putObj (s := ()) _ hax (by omega) hl rfl) hlen) ?_
      rintro e a3 W3 hp
      cases e with
      | normal =>
        obtain ⟨hk3, hkp3, hi3⟩ := hp
        have hl3 := hk3.same _ _ (by omega) hl2 rfl
        have hr := run_endRound (P := P) none hl3
        rw [hrec] at hr hl3
        exact ⟨_, _, hr, rfl, ⟨hI.putObj _ hi3 (by omega) hl3 rfl, by rw [hrec]; exact World.putObj_heap_same (Array.getElem?_eq_some_iff.1 hl3).1, (World.putObj_heap_other (by omega)).trans (hk3.same _ _ (Nat.le_refl _) hk2 rfl)⟩, hKt hkpa (hKt (hKt hw2 hkp3) (hKb _ _ _ _ (by omega) hl3 rfl rfl))⟩
      | ret => exact hp.elim
      | exit id => exact hp.elim
      | goto t => exact hp.elim
      | panic ch => exact hp.elim
      | outgrown => exact hp.elim
    · rintro e W2 ⟨⟨v, rfl⟩, xs, hS, hi, hl, hk⟩
      exact ⟨none, _, by have := run_endLoop (P := P) hl (by rw [hrec]; simp); rw [hrec] at this; exact this, hdone _ xs _ (Nat.le_refl _) hS (hI.putObj _ hi (by omega) hl rfl) ((World.putObj_heap_other (by omega)).trans hk)⟩
end Go.Proofs.YtecdjnabmjhakaaDoor.P.OwnSt
namespace Go.Proofs.YtecdjnabmjhakaaDoor.P.OwnSt
open Go.RowKit Go.Proofs.YtecdjnabmjhakaaDoorW.PrintWords Go.Proofs.YtecdjnabmjhakaaDoorW.PrintLast Go.Proofs.YtecdjnabmjhakaaDoorW.PrintMore
set_option linter.unusedVariables false
set_option linter.unusedSimpArgs false
def apN (a b : ByteArray) (n : Nat) : Int := (((List.range n).filter fun (p : Nat) => bt a (p : Int) != bt b (p : Int)).length : Int)
theorem apN_succ (a b : ByteArray) (n : Nat) : apN a b (n + 1) = apN a b n + if bt a (n : Int) = bt b (n : Int) then 0 else 1 := by
  unfold apN
  rw [List.range_succ, List.filter_append]
  by_cases h : bt a (n : Int) = bt b (n : Int) <;> simp [h]
theorem apN_bound (a b : ByteArray) (n : Nat) : 0 ≤ apN a b n ∧ apN a b n ≤ n := by
  unfold apN
  have := List.length_filter_le (fun p : Nat => bt a (p : Int) != bt b (p : Int)) (List.range n)
  rw [List.length_range] at this
  omega
theorem apart_l0 (a b : ByteArray) (hab : a.size ≤ b.size) (h8 : a.size ≤ 1000) (m : Nat) : ∀ i, i + m = a.size → stemma_apart.l0 (m + 1) a b (apN a b i) (a.size : Int) (i : Int) = some (apN a b a.size) := by
  induction m with
  | zero =>
    intro i hi
    unfold stemma_apart.l0
    rw [if_neg (by omega)]
    have : i = a.size := by omega
    rw [this]
  | succ m ih =>
    intro i hi
    unfold stemma_apart.l0
    have hb := apN_bound a b i
    rw [if_pos (by omega), if_pos (by omega), if_pos (by omega), if_pos (by omega)]
    have h1 := ih (i + 1) (by omega)
    have e1 : wrap64 ((i : Int) + 1) = ((i + 1 : Nat) : Int) := by unfold wrap64; omega
    split
    · rename_i he
      rw [apN_succ, if_pos he, Int.add_zero] at h1
      rw [e1]
      exact h1
    · rename_i he
      rw [apN_succ, if_neg he] at h1
      rw [e1, show wrap64 (apN a b i + 1) = apN a b i + 1 by unfold wrap64; omega]
      exact h1
theorem apart_f (a b : ByteArray) (hab : a.size ≤ b.size) (h8 : a.size ≤ 1000) : stemma_apart.f (a.size + 1) a b = some (apN a b a.size) := by
  have := apart_l0 a b hab h8 a.size 0 (by omega)
  unfold stemma_apart.f
  simpa [apN] using this
def upd (s : Nat → Int) (i : Nat) (x : Int) : Nat → Int := fun k => if k = i then x else s k
theorem upd_upd (s : Nat → Int) (i : Nat) (x y : Int) : upd (upd s i x) i y = upd s i y := by
  funext k
  unfold upd
  by_cases h : k = i <;> simp [h]
def canF (l : List S25) (i : Nat) (f : Int) : Bool := if f == -1 then (rd_T25 l (i : Int)).f2 else decide (apN (rd_T25 l f).f0 (rd_T25 l (i : Int)).f0 (rd_T25 l f).f0.size ≤ (rd_T25 l (i : Int)).f1)
def treesG (l : List S25) : Nat → Nat → (Nat → Int) → List (Nat → Int)
  | 0, _, s => [s]
  | rem + 1, i, s => (List.range (i + 1)).flatMap fun (f : Nat) => if canF l i ((f : Int) - 1) = true then treesG l rem (i + 1) (upd s i ((f : Int) - 1)) else []
def treesK (l : List S25) (rem i : Nat) (s : Nat → Int) (k : Nat) : List (Nat → Int) := (List.range k).flatMap fun (f : Nat) => if canF l i ((f : Int) - 1) = true then treesG l rem (i + 1) (upd s i ((f : Int) - 1)) else []
theorem treesK_succ (l : List S25) (rem i : Nat) (s : Nat → Int) (k : Nat) : treesK l rem i s (k + 1) = treesK l rem i s k ++ if canF l i ((k : Int) - 1) = true then treesG l rem (i + 1) (upd s i ((k : Int) - 1)) else [] := by
  unfold treesK
  rw [List.range_succ, List.flatMap_append]
  simp
theorem treesG_len (l : List S25) (rem : Nat) : ∀ (i : Nat) (s : Nat → Int), i + rem ≤ 5 → (treesG l rem i s).length ≤ 6 ^ rem := by
  induction rem with
  | zero => intro i s _; simp [treesG]
  | succ rem ih =>
    intro i s hi
    have h1 : ∀ k, (treesK l rem i s k).length ≤ k * 6 ^ rem := by
      intro k
      induction k with
      | zero => simp [treesK]
      | succ k ihk =>
        rw [treesK_succ, List.length_append, Nat.succ_mul]
        have := ih (i + 1) (upd s i ((k : Int) - 1)) (by omega)
        split
        · omega
        · simp; omega
    have h2 := h1 (i + 1)
    have h3 : (i + 1) * 6 ^ rem ≤ 6 ^ rem * 6 := by rw [Nat.mul_comm]; exact Nat.mul_le_mul_left _ (by omega)
    rw [Nat.pow_succ]
    exact Nat.le_trans h2 h3
def KpT (n0 : Nat) (W W' : World) : Prop := W.heap.size ≤ W'.heap.size ∧ ∀ (k : Nat) (o : Obj), W.heap[k]? = some o → (k < n0 ∨ ∃ c t fr, o = .cells c t fr ∧ (t = 22 ∨ t = 61 ∨ t = 112 ∨ t = 113)) → W'.heap[k]? = some o
def It82 (n0 : Nat) (W W' : World) : Prop := W'.os = W.os ∧ W'.tape = W.tape ∧ W'.output = W.output ∧ W.heap.size ≤ W'.heap.size ∧ ∀ (k : Nat) (o : Obj), W.heap[k]? = some o → (k < n0 ∨ ∀ c fr, o ≠ .cells c 61 fr) → W'.heap[k]? = some o
section
variable {n0 : Nat} {W W' W'' : World}
theorem KpT.refl (n0 : Nat) (W : World) : KpT n0 W W := ⟨Nat.le_refl _, fun _ _ h _ => h⟩
theorem KpT.trans (h : KpT n0 W W') (k : KpT n0 W' W'') : KpT n0 W W'' := ⟨Nat.le_trans h.1 k.1, fun i o h1 h2 => k.2 i o (h.2 i o h1 h2) h2⟩
theorem KpT.of_below (h : KpT n0 W W') (hb : Below W.heap.size W' W'') : KpT n0 W W'' := ⟨Nat.le_trans h.1 hb.size, fun i o h1 h2 => (hb.block i (Array.getElem?_eq_some_iff.1 h1).1).trans (h.2 i o h1 h2)⟩
theorem KpT.alloc (h : KpT n0 W W') (o : Obj) : KpT n0 W (W'.alloc o) := h.of_below ((Below.refl _ _).alloc h.1 o)
theorem KpT.setCell (h : KpT n0 W W') {a : Addr} (ha : W.heap.size ≤ a.block) (v : Value) : KpT n0 W (W'.setCell a v) := h.of_below ((Below.refl _ _).setCell ha v)
theorem KpT.blk (h : KpT n0 W W') {b : Nat} {c : Array Value} {t : TypeId} {fr : Nat × Nat} (hb : W.heap[b]? = some (.cells c t fr)) (ht : t = 22 ∨ t = 61 ∨ t = 112 ∨ t = 113) : W'.heap[b]? = some (.cells c t fr) := h.2 b _ hb (.inr ⟨c, t, fr, rfl, ht⟩)
theorem KpT.low (h : KpT n0 W W') {b : Nat} (hb : b < n0) (hl : b < W.heap.size) : W'.heap[b]? = W.heap[b]? := by
  obtain ⟨o, ho⟩ : ∃ o, W.heap[b]? = some o := ⟨_, Array.getElem?_eq_getElem hl⟩
  rw [ho]
  exact h.2 b o ho (.inl hb)
theorem It82.below (hb : Below W.heap.size W W') : It82 n0 W W' := ⟨hb.os, hb.tape, hb.output, hb.size, fun k o h _ => (hb.block k (Array.getElem?_eq_some_iff.1 h).1).trans h⟩
theorem It82.set {b : Nat} {c : Array Value} {fr : Nat × Nat} (hb : W.heap[b]? = some (.cells c 61 fr)) (hn : n0 ≤ b) (off : Nat) (v : Value) : It82 n0 W (W.setCell ⟨b, off, none⟩ v) :=
  ⟨rfl, rfl, rfl, by show W.heap.size ≤ (W.heap.modify _ _).size; rw [Array.size_modify]; exact Nat.le_refl _, fun k o h h2 => by
    by_cases e : k = b
    · subst e
      rw [hb] at h
      injection h with h
      rcases h2 with h2 | h2
      · omega
      · exact absurd h.symm (h2 c fr)
    · exact (Below.heap_setCell W ⟨b, off, none⟩ v k e).trans h⟩
end
def capT (bl byy bn : Nat) : Array Value := #[.pointer (some ⟨bl, 0, none⟩), .pointer (some ⟨byy, 0, none⟩), .pointer (some ⟨bn, 0, none⟩)]
structure NW (l : List S25) (A : Option Addr) (c lr n0 bl byy bn : Nat) (W : World) : Prop where
  hl : Kd.C k25 W A l.length l
  hlo : ∀ ad, A = some ad → 0 < l.length → ad.block < n0
  hb : W.heap[bl]? = some (.cells #[.slice A l.length c] 22 (0, 0))
  hy : W.heap[byy]? = some (.cells #[.func (.yield lr) #[] #[]] 112 (0, 0))
  hn : W.heap[bn]? = some (.cells #[.func (.func 61) #[] (capT bl byy bn)] 113 (0, 0))
  low : n0 ≤ W.heap.size
theorem NW.keep {l : List S25} {A : Option Addr} {c lr n0 bl byy bn : Nat} {W W' : World} (h : NW l A c lr n0 bl byy bn W) (hk : KpT n0 W W') : NW l A c lr n0 bl byy bn W' :=
  ⟨Kd.C_foot_neS (S := fun b => n0 ≤ b) (fun hx => hx) h.hl (fun ad hA hn => by have := h.hlo ad hA hn; omega) W' ⟨hk.1, fun i hi hne => hk.low (by omega) hi⟩, h.hlo, hk.blk h.hb (.inl rfl), hk.blk h.hy (.inr (.inr (.inl rfl))), hk.blk h.hn (.inr (.inr (.inr rfl))), Nat.le_trans h.low hk.1⟩
def SrcAt (W : World) (b : Nat) (s : Nat → Int) : Prop := W.heap[b]? = some (.cells #[.int .i64 (s 0), .int .i64 (s 1), .int .i64 (s 2), .int .i64 (s 3), .int .i64 (s 4)] 61 (0, 0))
def srcV (s : Nat → Int) : Value := .agg #[.int .i64 (s 0), .int .i64 (s 1), .int .i64 (s 2), .int .i64 (s 3), .int .i64 (s 4)]
theorem SrcAt.cells {W : World} {b : Nat} {g : Nat → Int} (h : SrcAt W b g) : W.cell? ⟨b, 0, none⟩ = some (.int .i64 (g 0)) ∧ W.cell? ⟨b, 1, none⟩ = some (.int .i64 (g 1)) ∧ W.cell? ⟨b, 2, none⟩ = some (.int .i64 (g 2)) ∧ W.cell? ⟨b, 3, none⟩ = some (.int .i64 (g 3)) ∧ W.cell? ⟨b, 4, none⟩ = some (.int .i64 (g 4)) :=
  ⟨(blk_cell h 0).trans rfl, (blk_cell h 1).trans rfl, (blk_cell h 2).trans rfl, (blk_cell h 3).trans rfl, (blk_cell h 4).trans rfl⟩
theorem SrcAt.get {W : World} {b : Nat} {g : Nat → Int} (h : SrcAt W b g) (k : Nat) (hk : k < 5) : W.cell? ⟨b, k, none⟩ = some (.int .i64 (g k)) := by
  rw [blk_cell h]
  rcases k with _ | _ | _ | _ | _ | k
  all_goals first | rfl | omega
theorem SrcAt.set {W : World} {b : Nat} {g : Nat → Int} (h : SrcAt W b g) (k : Nat) (hk : k < 5) (x : Int) : SrcAt (W.setCell ⟨b, k, none⟩ (.int .i64 x)) b (upd g k x) := by
  have h1 := blk_set h k (.int .i64 x)
  unfold SrcAt
  rw [h1]
  rcases k with _ | _ | _ | _ | _ | k
  all_goals first | (simp [upd]; done) | omega
end Go.Proofs.YtecdjnabmjhakaaDoor.P.OwnSt
namespace Go.Proofs.YtecdjnabmjhakaaDoor.P.OwnSt
open Go.RowKit Go.Shelf Go.Proofs.YtecdjnabmjhakaaDoorW.PrintWords Go.Proofs.YtecdjnabmjhakaaDoorW.PrintLast Go.Proofs.YtecdjnabmjhakaaDoorW.PrintMore
set_option linter.unusedVariables false
set_option linter.unusedSimpArgs false
theorem treesK_mono (l : List S25) (rem i : Nat) (s : Nat → Int) (k m : Nat) : (treesK l rem i s k).length ≤ (treesK l rem i s (k + m)).length := by
  induction m with
  | zero => exact Nat.le_refl _
  | succ m ih => rw [← Nat.add_assoc, treesK_succ, List.length_append]; omega
set_option maxHeartbeats 1000000 in
set_option maxRecDepth 100000 in
theorem next75_calls (l : List S25) (A : Option Addr) (c lr n0 bl byy bn N : Nat) (hc : l.length ≤ c) (h5 : l.length ≤ 5) (L : Nat) (hL : ∀ i : Nat, i < l.length → (rd_T25 l (i : Int)).f0.size = L) (hL8 : L ≤ 8)
    (J : List (Nat → Int) → World → Prop) (hJ : ∀ s A B, J s A → It82 n0 A B → J s B)
    (hY : ∀ m pre x W1, J pre W1 → pre.length < N → YieldAt Fence.wide m Tryd.prog lr #[srcV x] W1 fun e W' => e = .returned (.bool true) ∧ J (pre ++ [x]) W' ∧ KpT n0 W1 W') (rem : Nat) :
    ∀ (i : Nat) (s : Nat → Int) (pre : List (Nat → Int)) (W : World), i + rem = l.length → NW l A c lr n0 bl byy bn W → J pre W → pre.length + (treesG l rem i s).length ≤ N →
    Calls Tryd.prog 61 #[.int .i64 (i : Int), srcV s, .pointer (some ⟨bl, 0, none⟩), .pointer (some ⟨byy, 0, none⟩), .pointer (some ⟨bn, 0, none⟩)] W fun e W' =>
      e = .returned (.bool true) ∧ J (pre ++ treesG l rem i s) W' ∧ KpT n0 W W' := by
  induction rem with
  | zero =>
    intro i s pre W hi hW hj hN
    have HW := Aside0.mk hW
    have HJ := Aside0.mk hj
    have HYY := Aside0.mk hY
    have HJJ := Aside0.mk hJ
    have hs : SrcAt (W.alloc (.cells #[.int .i64 (s 0), .int .i64 (s 1), .int .i64 (s 2), .int .i64 (s 3), .int .i64 (s 4)] 61)) W.heap.size s := blk_new W _
    have HS := Aside0.mk hs
    have hlb := (blk_cell hW.hb 0).trans (show (#[Value.slice A l.length c] : Array Value)[0]? = some _ from rfl)
    have hlb1 := blk_lt hW.hb
    have hi0 : ((i : Int) == (l.length : Int)) = true := by simp; omega
    clear hs hW hj hY hJ
    go_enter Tryd.func61, Tryd.ntmps61
    go_upto_region 2 with fail
    refine wp_gen (fun wx => Aside0 (KpT n0 W wx ∧ J pre wx) ∧ Aside0 (SrcAt wx W.heap.size s)) ?_ ?_
    · exact ⟨⟨(KpT.refl n0 W).alloc _, HJJ.out _ _ _ HJ.out (It82.below ((Below.refl _ _).alloc (Nat.le_refl _) _))⟩, HS⟩
    clear HS HJ hlb hlb1
    rintro wx ⟨HK, HS⟩
    obtain ⟨e0, e1, e2, e3, e4⟩ := HS.out.cells
    have hyy := (blk_cell (HW.out.keep HK.out.1).hy 0).trans (show (#[Value.func (.yield lr) #[] #[]] : Array Value)[0]? = some _ from rfl)
    obtain ⟨fn, tmps, assign, body, hy, hR⟩ := HYY.out 0 pre s wx HK.out.2 (by simp [treesG] at hN; omega)
    refine (wpIn_wide (n := 1)).1 ?_
    simp only [srcV] at hy
    gi_wp2
    refine hR.mono ?_
    rintro e W' ⟨rfl, hj', hk'⟩
    clear hy hR e0 e1 e2 e3 e4 hyy
    have HJ' := Aside0.mk hj'
    have HK' := Aside0.mk hk'
    clear hj' hk'
    dsimp only
    gi_wp2
    go_wp2_with fail
    go_ret
    exact ⟨rfl, HJ'.out, HK.out.1.trans HK'.out⟩
  | succ rem ih =>
    intro i s pre W hi hW hj hN
    have HW := Aside0.mk hW
    have HJ := Aside0.mk hj
    have HJJ := Aside0.mk hJ
    have IH := Aside0.mk ih
    have HL := Aside0.mk hL
    have HN := Aside0.mk hN
    have hs : SrcAt (W.alloc (.cells #[.int .i64 (s 0), .int .i64 (s 1), .int .i64 (s 2), .int .i64 (s 3), .int .i64 (s 4)] 61)) W.heap.size s := blk_new W _
    have HS := Aside0.mk hs
    have hlb := (blk_cell hW.hb 0).trans (show (#[Value.slice A l.length c] : Array Value)[0]? = some _ from rfl)
    have hlb1 := blk_lt hW.hb
    have hi0 : ((i : Int) == (l.length : Int)) = false := by simp; omega
    have hil : i < l.length := by omega
    clear hs hW hj hY hJ ih hL hN
    go_enter Tryd.func61, Tryd.ntmps61
    go_upto_region 3 with fail
    refine wp_gen (fun wx => Aside0 (KpT n0 W wx ∧ J pre wx) ∧ Aside0 (SrcAt wx W.heap.size s)) ?_ ?_
    · exact ⟨⟨(KpT.refl n0 W).alloc _, HJJ.out _ _ _ HJ.out (It82.below ((Below.refl _ _).alloc (Nat.le_refl _) _))⟩, HS⟩
    clear HS HJ hlb hlb1
    rintro wx ⟨HK, HS⟩
    go_wp2_with fail
    go_loopg [8] (i + 2) (fun k s8 wr => ∃ j : Nat, j + k = i + 2 ∧ j ≤ i + 1 ∧ s8 = .int .i64 ((j : Int) - 1) ∧ Aside0 (KpT n0 W wr ∧ J (pre ++ treesK l rem i s j) wr) ∧ Aside0 (∃ v, SrcAt wr W.heap.size (upd s i v)))
    case atStart => exact ⟨0, by omega, by omega, rfl, ⟨HK.out.1, by simpa [treesK] using HK.out.2⟩, ⟨s i, by rw [show upd s i (s i) = s from funext fun k => by unfold upd; split <;> simp_all]; exact HS.out⟩⟩
    case round =>
      obtain ⟨j, hjk, hj1, rfl, HK1, HS1⟩ := hrel
      clear HK HS
      have HJK := Aside0.mk hjk
      clear hjk
      obtain ⟨f, hf⟩ : ∃ f : Int, f = (j : Int) - 1 := ⟨_, rfl⟩
      rw [← hf]
      have hf1 : -1 ≤ f := by omega
      have hf2 : f ≤ i := by omega
      have HF := Aside0.mk hf
      clear hf
      by_cases hlt : f < (i : Int)
      · go_upto_region 6 with fail
        have HNW := Aside0.mk (HW.out.keep HK1.out.1)
        obtain ⟨ad, eA, y0, y1, y2⟩ := at_T25 HNW.out.hl (i : Int) (by omega) (by omega)
        subst eA
        have hlb := (blk_cell HNW.out.hb 0).trans (show (#[Value.slice (some ad) l.length c] : Array Value)[0]? = some _ from rfl)
        have hlb1 := blk_lt HNW.out.hb
        have hadl := World.block_lt_of_cell? wr _ y0
        simp only [Int.toNat_natCast] at y0 y1 y2
        have hil' : (i : Int) < (l.length : Int) := by omega
        have hi5 : (i : Int) < 5 := by omega
        go_cut [53] (fun s53 wx => s53 = .bool (!canF l i f) ∧ Aside0 (Below wr.heap.size wr wx))
        case first =>
          by_cases hf0 : f = -1
          · subst hf0
            rcases hsaw : (rd_T25 l (i : Int)).f2 with _ | _
            · rw [hsaw] at y2
              go_quiet (fail)
              go_wp2_with fail
              refine Met.intro ?_
              go_step
              (repeat apply Exists.intro)
              refine ⟨?_, rfl⟩
              exact ⟨by simp [canF, hsaw], ⟨pw_below_drewN (Below.refl _ _) _⟩⟩
            · rw [hsaw] at y2
              go_quiet (fail)
              go_wp2_with fail
              refine Met.intro ?_
              go_step
              (repeat apply Exists.intro)
              refine ⟨?_, rfl⟩
              exact ⟨by simp [canF, hsaw], ⟨pw_below_drewN (Below.refl _ _) _⟩⟩
          · obtain ⟨f', rfl⟩ : ∃ f' : Nat, f = f' := ⟨f.toNat, by omega⟩
            have hf'l : f' < l.length := by omega
            have hff : (((f' : Nat) : Int) == -1) = false := by simp
            have hff1 : (((f' : Nat) : Int) != -1) = true := by simp [bne, hff]
            have hf5 : (f' : Int) < (l.length : Int) := by omega
            have hf0' : (0 : Int) ≤ f' := by omega
            obtain ⟨ad', eA, z0, z1, z2⟩ := at_T25 HNW.out.hl (f' : Int) (by omega) (by omega)
            injection eA with eA
            subst eA
            simp only [Int.toNat_natCast] at z0 z1 z2
            have hap := apart_f (rd_T25 l (f' : Int)).f0 (rd_T25 l (i : Int)).f0 (by rw [HL.out f' hf'l, HL.out i hil]; omega) (by rw [HL.out f' hf'l]; omega)
            have HAP := Aside0.mk hap
            clear hap
            have hcan : canF l i (f' : Int) = decide (apN (rd_T25 l (f' : Int)).f0 (rd_T25 l (i : Int)).f0 (rd_T25 l (f' : Int)).f0.size ≤ (rd_T25 l (i : Int)).f1) := by unfold canF; rw [if_neg (by simp [hff])]
            have HCAN := Aside0.mk hcan
            clear hcan hf0 hf'l hlt
            obtain ⟨ap, hape⟩ : ∃ ap, apN (rd_T25 l (f' : Int)).f0 (rd_T25 l (i : Int)).f0 (rd_T25 l (f' : Int)).f0.size = ap := ⟨_, rfl⟩
            rw [hape] at HAP HCAN
            clear hape
            go_quiet (first | (go_at_call 36; (with_reducible refine (stemma_apart.calls _ _ _ _ _ HAP.out).mono ?_); rintro e w' ⟨rfl, ⟨nd, rfl⟩⟩; exact ⟨rfl, _, World.drewN_drewN _ _ _⟩))
            go_wp2_with fail
            refine Met.intro ?_
            go_step
            (repeat apply Exists.intro)
            refine ⟨?_, rfl⟩
            exact ⟨by rw [HCAN.out]; exact congrArg Value.bool (by rw [Bool.eq_iff_iff]; simp), ⟨pw_below_drewN (Below.refl _ _) _⟩⟩
        case rest =>
          obtain ⟨rfl, HB⟩ := hcut
          clear y0 y1 y2 hlb hlb1 hadl
          have HK2 := Aside0.mk (show KpT n0 W wc ∧ J (pre ++ treesK l rem i s j) wc from ⟨HK1.out.1.of_below (HB.out.mono HK1.out.1.1), HJJ.out _ _ _ HK1.out.2 (It82.below HB.out)⟩)
          have HS2 := Aside0.mk (show ∃ v, SrcAt wc W.heap.size (upd s i v) from HS1.out.imp fun v h => blk_below h HB.out)
          clear HK1 HS1 HNW HB
          clear wr
          rcases hcan : canF l i f with _ | _
          · have HC := Aside0.mk hcan
            clear hcan
            go_wp2_with fail
            go_roundg (gk - 1)
            case measure => have := HJK.out; omega
            case rel =>
              refine ⟨j + 1, by have := HJK.out; omega, by have := HF.out; omega, by rw [HF.out]; go_num, ?_, HS2⟩
              rw [treesK_succ, ← HF.out, HC.out]
              simpa using HK2
          · have HC := Aside0.mk hcan
            clear hcan
            obtain ⟨v, hv⟩ := HS2.out
            have HV := Aside0.mk hv
            have hv0 := hv.get i (by omega)
            have hvf := blk_frozen hv i
            have hvl := blk_lt hv
            clear hv
            go_upto_region 8 with fail
            refine wp_gen (fun wx => Aside0 (KpT n0 W wx ∧ J (pre ++ treesK l rem i s j) wx) ∧ Aside0 (SrcAt wx W.heap.size (upd s i f))) ?_ ?_
            · have hS := HV.out.set i (by omega) f
              rw [upd_upd] at hS
              exact ⟨⟨HK2.out.1.setCell (by simp) _, HJJ.out _ _ _ HK2.out.2 (It82.set HV.out HW.out.low _ _)⟩, ⟨hS⟩⟩
            clear hv0 hvf hvl HV HK2 HS2
            rintro wy ⟨HK3, HS3⟩
            obtain ⟨e0, e1, e2, e3, e4⟩ := HS3.out.cells
            have hnn := (blk_cell (HW.out.keep HK3.out.1).hn 0).trans (show (#[Value.func (.func 61) #[] (capT bl byy bn)] : Array Value)[0]? = some _ from rfl)
            simp only [capT] at hnn
            have hc1 := IH.out (i + 1) (upd s i f) (pre ++ treesK l rem i s j) wy (by omega) (HW.out.keep HK3.out.1) HK3.out.2 (by
              have h1 := HN.out
              have h2 : (treesK l rem i s (j + 1)).length ≤ (treesG l (rem + 1) i s).length := by
                obtain ⟨m, hm⟩ : ∃ m, i + 1 = j + 1 + m := ⟨i - j, by have := HF.out; omega⟩
                show _ ≤ (treesK l rem i s (i + 1)).length
                rw [hm]
                exact treesK_mono l rem i s (j + 1) m
              rw [treesK_succ, ← HF.out, HC.out, if_pos rfl, List.length_append] at h2
              rw [List.length_append]
              omega)
            rw [show ((i + 1 : Nat) : Int) = (i : Int) + 1 by omega] at hc1
            simp only [srcV] at hc1
            have HC1 := Aside0.mk hc1
            clear hc1
            go_wp2_with first | (go_at_call 61; refine HC1.out.mono ?_; rintro e w2 ⟨rfl, hj2, hk2⟩) | fail
            go_roundg (gk - 1)
            case measure => have := HJK.out; omega
            case rel =>
              refine ⟨j + 1, by have := HJK.out; omega, by have := HF.out; omega, by rw [HF.out]; go_num, ⟨HK3.out.1.trans hk2, ?_⟩, ⟨f, hk2.blk HS3.out (.inr (.inl rfl))⟩⟩
              rw [treesK_succ, ← HF.out, HC.out, if_pos rfl, ← List.append_assoc]
              exact hj2
      · obtain rfl : j = i + 1 := by have := HF.out; omega
        go_wp2_with fail
        go_ret
        exact ⟨rfl, HK1.out.2, HK1.out.1⟩
end Go.Proofs.YtecdjnabmjhakaaDoor.P.OwnSt
namespace Go.Proofs.YtecdjnabmjhakaaDoor.P.OwnSt
open Go.RowKit Go.Shelf Go.Proofs.YtecdjnabmjhakaaDoorW.PrintWords Go.Proofs.YtecdjnabmjhakaaDoorW.PrintLast Go.Proofs.YtecdjnabmjhakaaDoorW.PrintMore
set_option linter.unusedVariables false
set_option linter.unusedSimpArgs false
theorem yieldAny {m : Nat} (m' : Nat) {P : Program} {l : Nat} {args : Array Value} {W : World} {R : Ending → World → Prop} (h : YieldAt Fence.wide m P l args W R) : YieldAt Fence.wide m' P l args W R := by
  obtain ⟨fn, tmps, assign, body, hy, hR⟩ := h
  exact ⟨fn, tmps, assign, body, hy, hR.1, fun c cs _ => hR.2 c cs (room_wide _)⟩
set_option maxHeartbeats 1000000 in
set_option maxRecDepth 100000 in
theorem seq74_calls (l : List S25) (A : Option Addr) (c lr n0 bl N : Nat) (hc : l.length ≤ c) (h5 : l.length ≤ 5) (L : Nat) (hL : ∀ i : Nat, i < l.length → (rd_T25 l (i : Int)).f0.size = L) (hL8 : L ≤ 8)
    (J : List (Nat → Int) → World → Prop) (hJ : ∀ s A B, J s A → It82 n0 A B → J s B)
    (hY : ∀ m pre x W1, J pre W1 → pre.length < N → YieldAt Fence.wide m Tryd.prog lr #[srcV x] W1 fun e W' => e = .returned (.bool true) ∧ J (pre ++ [x]) W' ∧ KpT n0 W1 W')
    (W : World) (hl : Kd.C k25 W A l.length l) (hlo : ∀ ad, A = some ad → 0 < l.length → ad.block < n0) (hb : W.heap[bl]? = some (.cells #[.slice A l.length c] 22 (0, 0))) (hn : n0 ≤ W.heap.size) (h0 : J [] W) (hN : (treesG l l.length 0 (fun _ => 0)).length ≤ N) :
    Calls Tryd.prog 60 #[.func (.yield lr) #[] #[], .pointer (some ⟨bl, 0, none⟩)] W fun e W' =>
      (∃ v, e = .returned v) ∧ J (treesG l l.length 0 (fun _ => 0)) W' := by
  have HL := Aside0.mk hl
  have HLO := Aside0.mk hlo
  have HB := Aside0.mk hb
  have HJJ := Aside0.mk hJ
  have HY := Aside0.mk hY
  have HLL := Aside0.mk hL
  have H0 := Aside0.mk h0
  have HN := Aside0.mk hN
  clear hl hlo hb hJ hY hL h0 hN
  go_enter Tryd.func60, Tryd.ntmps60
  go_upto_region 2 with fail
  refine wp_gen (fun wx => Aside0 (wx.heap[W.heap.size]? = some (.cells #[.func (.yield lr) #[] #[]] 112 (0, 0)) ∧ wx.heap[W.heap.size + 1]? = some (.cells #[.nilFunc] 113 (0, 0)) ∧ Below W.heap.size W wx) ∧ Aside0 (wx.heap.size = W.heap.size + 2)) ?_ ?_
  · have b2 := blk_new (W.alloc (.cells #[.func (.yield lr) #[] #[]] 112)) (.cells #[.nilFunc] 113)
    rw [World.size_alloc] at b2
    exact ⟨⟨blk_alloc (blk_new W _) _, b2, ((Below.refl _ _).alloc (Nat.le_refl _) _).alloc (by simp) _⟩, ⟨by simp⟩⟩
  rintro w1 ⟨H1, HS1⟩
  have hcf := (blk_cell H1.out.2.1 0).trans (show (#[Value.nilFunc] : Array Value)[0]? = some _ from rfl)
  have hff := blk_frozen H1.out.2.1 0
  have hll := blk_lt H1.out.2.1
  go_upto_region 3 with fail
  refine wp_gen (fun wx => Aside0 (NW l A c lr n0 bl W.heap.size (W.heap.size + 1) wx ∧ J [] wx)) ?_ ?_
  · obtain ⟨a1, a2, a3⟩ := H1.out
    have hB := a3.setCell (p := ⟨W.heap.size + 1, 0, none⟩) (by simp) (.func (.func 61) #[] (capT bl W.heap.size (W.heap.size + 1)))
    have h2 := blk_set a2 0 (.func (.func 61) #[] (capT bl W.heap.size (W.heap.size + 1)))
    refine ⟨⟨Kd.C_below HL.out hB, HLO.out, blk_below HB.out hB, (Below.heap_setCell w1 ⟨W.heap.size + 1, 0, none⟩ _ _ (by simp)).trans a1, h2.trans (by simp), Nat.le_trans hn hB.size⟩, HJJ.out _ _ _ H0.out (It82.below hB)⟩
  clear hcf hff hll HS1 H1 w1
  rintro w1 ⟨HW, hj⟩
  have HJ := Aside0.mk hj
  have hnn := (blk_cell HW.hn 0).trans (show (#[Value.func (.func 61) #[] (capT bl W.heap.size (W.heap.size + 1))] : Array Value)[0]? = some _ from rfl)
  simp only [capT] at hnn
  have hc1 := next75_calls l A c lr n0 bl W.heap.size (W.heap.size + 1) N hc h5 L HLL.out hL8 J HJJ.out HY.out l.length 0 (fun _ => 0) [] w1 (by omega) HW HJ.out (by simpa using HN.out)
  simp only [srcV] at hc1
  have HC1 := Aside0.mk hc1
  clear hc1 hj HW
  go_wp2_with first | (go_at_call 61; refine HC1.out.mono ?_; rintro e w2 ⟨rfl, hj2, hk2⟩) | fail
  go_end0
  exact ⟨⟨_, rfl⟩, by simpa using hj2⟩
set_option maxHeartbeats 1000000 in
theorem trad_calls (A : Option Addr) (n c : Nat) (w : World) : Calls Tryd.prog 50 #[.slice A n c] w fun e w' =>
    e = .returned (.func (.func 60) #[] #[.pointer (some ⟨w.heap.size, 0, none⟩)]) ∧ w' = w.alloc (.cells #[.slice A n c] 22) := by
  go_enter Tryd.func50, Tryd.ntmps50
  go_wp2_with fail
  go_ret
  exact ⟨rfl, rfl⟩
theorem trad_seq (l : List S25) (A : Option Addr) (c n0 bl n : Nat) (hc : l.length ≤ c) (h5 : l.length ≤ 5) (L : Nat) (hL : ∀ i : Nat, i < l.length → (rd_T25 l (i : Int)).f0.size = L) (hL8 : L ≤ 8)
    (w : World) (hl : Kd.C k25 w A l.length l) (hlo : ∀ ad, A = some ad → 0 < l.length → ad.block < n0) (hb : w.heap[bl]? = some (.cells #[.slice A l.length c] 22 (0, 0))) (hn : n0 ≤ w.heap.size) :
    SeqT Fence.wide n Tryd.prog 60 #[.pointer (some ⟨bl, 0, none⟩)] (fun x => #[srcV x]) (KpT n0) (It82 n0) (fun xs => xs = treesG l l.length 0 (fun _ => 0)) (treesG l l.length 0 (fun _ => 0)).length w := by
  intro lr J W hW hJ hY h0
  refine callsIn_wide.2 ?_
  refine (seq74_calls l A c lr n0 bl _ hc h5 L hL hL8 J hJ (fun m pre x W1 hj hlen => yieldAny m (hY pre x W1 hj hlen)) W (Kd.C_below hl hW) hlo (blk_below hb hW) (Nat.le_trans hn hW.size) h0 (Nat.le_refl _)).mono ?_
  rintro e W' ⟨hv, hj⟩
  exact ⟨hv, _, rfl, hj⟩
end Go.Proofs.YtecdjnabmjhakaaDoor.P.OwnSt
namespace Go.Proofs.YtecdjnabmjhakaaDoor.P.OwnSt
open Go.RowKit Go.Proofs.YtecdjnabmjhakaaDoorW.PrintWords Go.Proofs.YtecdjnabmjhakaaDoorW.PrintLast Go.Proofs.YtecdjnabmjhakaaDoorW.PrintMore
set_option linter.unusedVariables false
set_option linter.unusedSimpArgs false
theorem filter_congr_range {n : Nat} {p q : Nat → Bool} (h : ∀ i, i < n → p i = q i) : (List.range n).filter p = (List.range n).filter q := List.filter_congr fun i hi => h i (List.mem_range.1 hi)
theorem nextS_made (l : List S25) (fs fs' : Nat → Int) (place letter : Int) (h : ∀ i, i < l.length → (fs i == -1) = (fs' i == -1)) (rem : Nat) : ∀ (p : Int) (g : Nat → Int), nextS l fs place letter rem p g = nextS l fs' place letter rem p g := by
  have hh : ∀ p c i, i < l.length → hit l fs p c i = hit l fs' p c i := fun p c i hi => by unfold hit; rw [h i hi]
  have ha : ∀ p c, atB l fs p c = atB l fs' p c := fun p c => by
    unfold atB
    rw [Bool.eq_iff_iff, List.any_eq_true, List.any_eq_true]
    constructor
    · rintro ⟨i, hi, h1⟩
      exact ⟨i, hi, by unfold atOne at *; rw [← h i (List.mem_range.1 hi)]; exact h1⟩
    · rintro ⟨i, hi, h1⟩
      exact ⟨i, hi, by unfold atOne at *; rw [h i (List.mem_range.1 hi)]; exact h1⟩
  have he : ∀ p c, errsTo l fs p c l.length = errsTo l fs' p c l.length := fun p c => by unfold errsTo; rw [filter_congr_range (hh p c)]
  have hf : ∀ g p c, fitsTo l fs g p c l.length = fitsTo l fs' g p c l.length := fun g p c => by
    unfold fitsTo
    rw [Bool.eq_iff_iff, List.all_eq_true, List.all_eq_true]
    constructor <;> intro h2 i hi <;> have h3 := h2 i hi
    · rw [← hh p c i (List.mem_range.1 hi)]; exact h3
    · rw [hh p c i (List.mem_range.1 hi)]; exact h3
  have hl : ∀ g p c, leftTo l fs g p c l.length = leftTo l fs' g p c l.length := fun g p c => by
    funext i
    unfold leftTo
    by_cases hi : i < l.length
    · rw [hh p c i hi]
    · simp [hi]
  induction rem with
  | zero => intro p g; rfl
  | succ rem ih =>
    intro p g
    have hs : stepC l fs place letter (nextS l fs place letter rem (p + 1)) p g = stepC l fs' place letter (nextS l fs' place letter rem (p + 1)) p g := by
      funext st c
      unfold stepC skipC
      rw [ha, he, hf, hl, ih]
    rw [nextS, nextS, hs]
theorem leastV_made (l : List S25) (fs fs' : Nat → Int) (place letter : Int) (h : madeB l.length fs = madeB l.length fs') : leastV l fs place letter = leastV l fs' place letter :=
  nextS_made l fs fs' place letter (fun i hi => by have := congrFun h i; simpa [madeB, hi] using this) _ _ _
def liesB (l : List S25) (s : Nat → Int) : Bool := decide (leastV l s (-1) 0 < 1048576)
def knownV (l : List S25) : List (Nat → Int) := (treesG l l.length 0 (fun _ => 0)).filter (liesB l)
def lostC (A : Option Addr) (n c : Nat) (s : Nat → Int) : List Value := [.slice A n c, .int .i64 (s 0), .int .i64 (s 1), .int .i64 (s 2), .int .i64 (s 3), .int .i64 (s 4)]
def lostRow (A : Option Addr) (n c : Nat) (ss : List (Nat → Int)) : List Value := ss.flatMap (lostC A n c)
theorem lostRow_snoc (A : Option Addr) (n c : Nat) (ss : List (Nat → Int)) (s : Nat → Int) : lostRow A n c (ss ++ [s]) = lostRow A n c ss ++ lostC A n c s := by simp [lostRow]
def MayR (l : List S25) (key val : Value) : Prop := ∃ s : Nat → Int, key = madeV (madeB l.length s) ∧ val = .bool (liesB l s)
theorem madeB_of_key (l : List S25) (h5 : l.length ≤ 5) (s s' : Nat → Int) (h : madeV (madeB l.length s) = madeV (madeB l.length s')) : madeB l.length s = madeB l.length s' := by
  simp only [madeV, Value.agg.injEq, Array.mk.injEq, List.cons.injEq, Value.bool.injEq, and_true] at h
  obtain ⟨h0, h1, h2, h3, h4⟩ := h
  funext i
  by_cases hi : i < l.length
  · rcases (by omega : i = 0 ∨ i = 1 ∨ i = 2 ∨ i = 3 ∨ i = 4) with rfl | rfl | rfl | rfl | rfl <;> assumption
  · simp [madeB, hi]
theorem MayR.at_key {l : List S25} (h5 : l.length ≤ 5) {s : Nat → Int} {val : Value} (h : MayR l (madeV (madeB l.length s)) val) : val = .bool (liesB l s) := by
  obtain ⟨s', h1, rfl⟩ := h
  unfold liesB
  rw [leastV_made l s s' (-1) 0 (madeB_of_key l h5 s s' h1)]
theorem KpT.book {n0 : Nat} {w : World} (hn : n0 ≤ w.heap.size) (W : World) (k : Nat) (o o' : Obj) (hk : w.heap.size ≤ k) (h : W.heap[k]? = some o) (hc : o.isCells = false) (_ : o.isWalk = false) : KpT n0 W (W.putObj k o') :=
  ⟨by simp [World.putObj], fun i u hu h2 => by
    by_cases e : i = k
    · subst e
      rw [h] at hu
      injection hu with hu
      subst hu
      rcases h2 with h2 | ⟨c, t, fr, rfl, _⟩
      · omega
      · simp [Obj.isCells] at hc
    · exact (World.putObj_heap_other e).trans hu⟩
theorem It82.others {n0 : Nat} (A B : World) (k : Nat) (o : Obj) (h : It82 n0 A B) (hk : A.heap[k]? = some o) (hc : o.isCells = false) : B.heap[k]? = some o :=
  h.2.2.2.2 k o hk (.inr fun c fr e => by subst e; simp [Obj.isCells] at hc)
theorem It82.blk {n0 : Nat} {A B : World} (h : It82 n0 A B) {b : Nat} {cs : Array Value} {t : TypeId} {fr : Nat × Nat} (hb : A.heap[b]? = some (.cells cs t fr)) (ht : t ≠ 61) : B.heap[b]? = some (.cells cs t fr) :=
  h.2.2.2.2 b _ hb (.inr fun c fr' e => by injection e with e1 e2 e3; exact ht e2)
theorem It82.low {n0 : Nat} {A B w : World} (h : It82 n0 A B) (hn : w.heap.size ≤ n0) (hb : Below w.heap.size w A) : Below w.heap.size w B :=
  ⟨h.1.trans hb.os, h.2.1.trans hb.tape, h.2.2.1.trans hb.output, Nat.le_trans hb.size h.2.2.2.1, fun k hk => by
    have h1 := hb.block k hk
    obtain ⟨o, ho⟩ : ∃ o, w.heap[k]? = some o := ⟨_, Array.getElem?_eq_getElem hk⟩
    rw [ho] at h1 ⊢
    exact h.2.2.2.2 k o h1 (.inl (by omega))⟩
theorem It82.own {n0 : Nat} {A B : World} (h : It82 n0 A B) {base e size n : Nat} {v : Value} {xs : List Value} (ho : A.ownsRow base e size v n xs) (he : e ≠ 61) : B.ownsRow base e size v n xs := by
  refine own_move ho fun k hk => ?_
  obtain ⟨cells, hc⟩ := own_typed ho k hk
  rw [hc]
  exact h.blk hc he
theorem It82.memo {n0 : Nat} {A B : World} (h : It82 n0 A B) {K : TypeId} {Φ : Value → Value → Prop} {mb : Nat} (hm : MemoAt Tryd.prog K Φ A mb) : MemoAt Tryd.prog K Φ B mb := by
  obtain ⟨es, ck, h1, h2⟩ := hm
  exact ⟨es, ck, It82.others A B mb _ h h1 rfl, h2⟩
structure KI (l : List S25) (A : Option Addr) (c : Nat) (w : World) (bo bm mb : Nat) (pre : List (Nat → Int)) (W : World) : Prop where
  h22 : W.heap[w.heap.size]? = some (.cells #[.slice A l.length c] 22 (0, 0))
  out : ∃ v, W.heap[bo]? = some (.cells #[v] 56 (0, 0)) ∧ W.ownsRow w.heap.size 63 6 v (pre.filter (liesB l)).length (lostRow A l.length c (pre.filter (liesB l)))
  may : W.heap[bm]? = some (.cells #[.map (some mb)] 69 (0, 0))
  memo : MemoAt Tryd.prog 70 (MayR l) W mb
  below : Below w.heap.size w W
theorem KI.it {l : List S25} {A : Option Addr} {c : Nat} {w : World} {bo bm mb : Nat} {pre : List (Nat → Int)} {W W' : World} (h : KI l A c w bo bm mb pre W) (hi : It82 w.heap.size W W') : KI l A c w bo bm mb pre W' := by
  obtain ⟨h1, ⟨v, h2, h3⟩, h4, h5, h6⟩ := h
  exact ⟨hi.blk h1 (by decide), ⟨v, hi.blk h2 (by decide), hi.own h3 (by decide)⟩, hi.blk h4 (by decide), hi.memo h5, hi.low (Nat.le_refl _) h6⟩
theorem KI.ownFrom {l : List S25} {A : Option Addr} {c : Nat} {w : World} {bo bm mb B : Nat} (hB : mb < B) (hw : w.heap.size ≤ B) : OwnFrom B (KI l A c w bo bm mb) := by
  intro pre W W' row h hg hr
  obtain ⟨h1, ⟨v, h2, h3⟩, h4, h5, h6⟩ := h
  have hk : ∀ {b : Nat} {cs : Array Value} {t : TypeId} {fr : Nat × Nat}, W.heap[b]? = some (.cells cs t fr) → W'.heap[b]? = some (.cells cs t fr) := fun {b} {cs} {t} {fr} hb =>
    (hg.block b (blk_lt hb) (fun e => by
      obtain ⟨_, o, ho, hc⟩ := hr b e.symm
      rw [hb] at ho
      injection ho with ho
      subst ho
      simp [Obj.isCells] at hc)).trans hb
  refine ⟨hk h1, ⟨v, hk h2, own_move h3 fun k hkk => ?_⟩, hk h4, ?_, h6.grown hg h6.size (fun k e => by have := (hr k e).1; omega)⟩
  · obtain ⟨cells, hc⟩ := own_typed h3 k hkk
    rw [hc]
    exact hk hc
  · obtain ⟨es, ck, m1, m2⟩ := h5
    exact ⟨es, ck, (hg.block mb (Array.getElem?_eq_some_iff.1 m1).1 (fun e => by have := (hr mb e.symm).1; omega)).trans m1, m2⟩
end Go.Proofs.YtecdjnabmjhakaaDoor.P.OwnSt
namespace Go.Proofs.YtecdjnabmjhakaaDoor.P.OwnSt
open Go.RowKit Go.Proofs.YtecdjnabmjhakaaDoorW.PrintWords Go.Proofs.YtecdjnabmjhakaaDoorW.PrintLast Go.Proofs.YtecdjnabmjhakaaDoorW.PrintMore
set_option linter.unusedVariables false
set_option linter.unusedSimpArgs false
def KB (l : List S25) (A : Option Addr) (c : Nat) (w : World) (bo bm mb : Nat) (pre : List (Nat → Int)) (b8 : Nat) (x : Nat → Int) (B0 : Nat) (Wr W : World) : Prop :=
  KI l A c w bo bm mb pre W ∧ LostAt W b8 A l.length c x ∧ KpT w.heap.size Wr W ∧ KeepsFrom B0 Wr W
section
variable {l : List S25} {A : Option Addr} {c : Nat} {w : World} {bo bm mb : Nat} {pre : List (Nat → Int)} {b8 : Nat} {x : Nat → Int} {B0 : Nat} {Wr W W' : World}
theorem KpT.belowW (h : KpT w.heap.size Wr W) (hb : Below W.heap.size W W') : KpT w.heap.size Wr W' := h.of_below (hb.mono h.1)
theorem KB.below (h : KB l A c w bo bm mb pre b8 x B0 Wr W) (hb : Below W.heap.size W W') : KB l A c w bo bm mb pre b8 x B0 Wr W' :=
  ⟨h.1.it (It82.below hb), h.2.1.below hb, h.2.2.1.belowW hb, h.2.2.2.trans ⟨hb.size, fun k o _ hk _ => blk_below hk hb⟩⟩
theorem MemoHas.keep {key : Value} (h : MemoHas W mb key) (hb : W'.heap[mb]? = W.heap[mb]?) : MemoHas W' mb key := by
  obtain ⟨es, ck, h1, h2⟩ := h
  exact ⟨es, ck, hb.trans h1, h2⟩
theorem MemoAt.lt {P : Program} {K : TypeId} {Φ : Value → Value → Prop} (h : MemoAt P K Φ W mb) : mb < W.heap.size := by
  obtain ⟨es, ck, h1, _⟩ := h
  exact blk_lt h1
theorem below_put {n0 : Nat} (h : Below n0 w W) (hn : n0 ≤ mb) (o : Obj) : Below n0 w (W.putObj mb o) :=
  ⟨h.os, h.tape, h.output, by have := h.size; simpa [World.putObj] using this, fun k hk => (World.putObj_heap_other (by omega)).trans (h.block k hk)⟩
theorem KB.map (h : KB l A c w bo bm mb pre b8 x B0 Wr W) (hmb : w.heap.size ≤ mb) (hB : mb < B0) (o : Obj) (hm : MemoAt Tryd.prog 70 (MayR l) (W.putObj mb o) mb) : KB l A c w bo bm mb pre b8 x B0 Wr (W.putObj mb o) := by
  obtain ⟨⟨h1, ⟨v, h2, h3⟩, h4, h5, h6⟩, h7, h8, h9⟩ := h
  obtain ⟨es, ck, hE, _⟩ := h5
  have hk : ∀ {b : Nat} {cs : Array Value} {t : TypeId} {fr : Nat × Nat}, W.heap[b]? = some (.cells cs t fr) → (W.putObj mb o).heap[b]? = some (.cells cs t fr) := fun {b} {cs} {t} {fr} hb =>
    (World.putObj_heap_other (fun e => by rw [← e, hb] at hE; cases hE)).trans hb
  refine ⟨⟨hk h1, ⟨v, hk h2, own_move h3 fun k hkk => ?_⟩, hk h4, hm, below_put h6 hmb o⟩, hk h7, ⟨by have := h8.1; simpa [World.putObj] using this, fun k u hu hu2 => ?_⟩, ⟨by have := h9.size; simpa [World.putObj] using this, fun k u hB2 hu hc => ?_⟩⟩
  · obtain ⟨cells, hc⟩ := own_typed h3 k hkk
    rw [hc]
    exact hk hc
  · refine (World.putObj_heap_other (fun e => ?_)).trans (h8.2 k u hu hu2)
    have h10 := h8.2 k u hu hu2
    rcases hu2 with h11 | ⟨c', t, fr, rfl, _⟩
    · omega
    · rw [← e, h10] at hE
      cases hE
  · exact (World.putObj_heap_other (by omega)).trans (h9.same k u hB2 hu hc)
theorem KB.app (h : KB l A c w bo bm mb pre b8 x B0 Wr W) (hl : liesB l x = true) (hbo : w.heap.size < bo) {v v' : Value} (hv : W.heap[bo]? = some (.cells #[v] 56 (0, 0)))
    (hown : W.ownsRow w.heap.size 63 6 v (pre.filter (liesB l)).length (lostRow A l.length c (pre.filter (liesB l))))
    (ho : W'.ownsRow w.heap.size 63 6 v' ((pre.filter (liesB l)).length + 1) (lostRow A l.length c (pre.filter (liesB l)) ++ lostC A l.length c x)) (hg : W.grownBy W' v.ownBlock) (hsz : bm < W.heap.size) :
    KeepsFrom B0 Wr (W'.setCell ⟨bo, 0, none⟩ v') ∧ KpT w.heap.size Wr (W'.setCell ⟨bo, 0, none⟩ v') ∧ KI l A c w bo bm mb (pre ++ [x]) (W'.setCell ⟨bo, 0, none⟩ v') := by
  obtain ⟨⟨h1, _, h4, h5, h6⟩, h7, h8, h9⟩ := h
  have hty : ∀ k, v.ownBlock = some k → w.heap.size ≤ k ∧ ∃ cells, W.heap[k]? = some (.cells cells 63 (0, 0)) := fun k hk => ⟨own_base hown k hk, own_typed hown k hk⟩
  have hk : ∀ {b : Nat} {o : Obj}, W.heap[b]? = some o → (∀ cells, o ≠ .cells cells 63 (0, 0)) → W'.heap[b]? = some o := fun {b} {o} hb ho2 =>
    blk_grown hb hg (fun e => by
      obtain ⟨_, cells, hc⟩ := hty b e.symm
      rw [hb] at hc
      injection hc with hc
      exact ho2 _ hc)
  have hbo' := hk hv (fun _ e => by injection e with _ e2; exact absurd e2 (by decide))
  have hk2 : ∀ {b : Nat} {o : Obj}, W.heap[b]? = some o → (∀ cells, o ≠ .cells cells 63 (0, 0)) → b ≠ bo → (W'.setCell ⟨bo, 0, none⟩ v').heap[b]? = some o := fun {b} {o} hb ho2 hne =>
    (Below.heap_setCell W' ⟨bo, 0, none⟩ v' b hne).trans (hk hb ho2)
  refine ⟨⟨?_, fun k o hB hko hc => ?_⟩, ⟨?_, fun k o hko h2 => ?_⟩, ⟨?_, ⟨v', ?_, ?_⟩, ?_, ?_, ?_⟩⟩
  · have h10 := h9.size; have h11 := hg.size; simp [World.setCell]; omega
  · refine hk2 (h9.same k o hB hko hc) (fun cells e => by subst e; simp [Obj.isCells] at hc) (fun e => ?_)
    subst e
    have h10 := h9.same k o hB hko hc
    rw [hv] at h10
    injection h10 with h10
    subst h10
    simp [Obj.isCells] at hc
  · have h10 := h8.1; have h11 := hg.size; simp [World.setCell]; omega
  · have h10 := h8.2 k o hko h2
    refine (Below.heap_setCell W' ⟨bo, 0, none⟩ v' k (fun e => ?_)).trans ?_
    · have e' : k = bo := e
      subst e'
      rcases h2 with h2 | ⟨c', t, fr, rfl, h2⟩
      · omega
      · rw [hv] at h10
        injection h10 with h10
        injection h10 with _ h10
        subst h10
        revert h2
        decide
    · refine blk_grown h10 hg (fun e => ?_)
      obtain ⟨h11, cells, hc⟩ := hty k e.symm
      rcases h2 with h2 | ⟨c', t, fr, rfl, h2⟩
      · omega
      · rw [hc] at h10
        injection h10 with h10
        injection h10 with _ h10
        subst h10
        revert h2
        decide
  · exact hk2 h1 (fun _ e => by injection e with _ e2; exact absurd e2 (by decide)) (by omega)
  · simpa using blk_set hbo' 0 v'
  · have h10 : (pre ++ [x]).filter (liesB l) = pre.filter (liesB l) ++ [x] := by simp [hl]
    rw [h10, lostRow_snoc, List.length_append]
    refine own_setCell ho (fun e => ?_) _
    obtain ⟨cells, hc⟩ := own_typed ho bo e.symm
    rw [hbo'] at hc
    injection hc with hc
    injection hc with _ hc
    exact absurd hc (by decide)
  · refine hk2 h4 (fun _ e => by injection e with _ e2; exact absurd e2 (by decide)) (fun e => ?_)
    subst e
    rw [hv] at h4
    injection h4 with h4
    injection h4 with _ h4
    exact absurd h4 (by decide)
  · obtain ⟨es, ck, hE, hr⟩ := h5
    refine ⟨es, ck, hk2 hE (fun _ e => by cases e) (fun e => ?_), hr⟩
    subst e
    rw [hv] at hE
    cases hE
  · exact (h6.grown hg h6.size (fun k e => own_base hown k e)).setCell (Nat.le_of_lt hbo) _
theorem KB.skip (h : KB l A c w bo bm mb pre b8 x B0 Wr W) (hl : liesB l x = false) : KeepsFrom B0 Wr W ∧ KpT w.heap.size Wr W ∧ KI l A c w bo bm mb (pre ++ [x]) W := by
  refine ⟨h.2.2.2, h.2.2.1, ?_⟩
  obtain ⟨⟨h1, ⟨v, h2, h3⟩, h4, h5, h6⟩, h7, h8, h9⟩ := h
  have h10 : (pre ++ [x]).filter (liesB l) = pre.filter (liesB l) := by simp [hl]
  exact ⟨h1, ⟨v, h2, by rw [h10]; exact h3⟩, h4, h5, h6⟩
end
end Go.Proofs.YtecdjnabmjhakaaDoor.P.OwnSt
namespace Go.Proofs.YtecdjnabmjhakaaDoor.P.OwnSt
open Go.RowKit Go.Shelf Go.Proofs.YtecdjnabmjhakaaDoorW.PrintWords Go.Proofs.YtecdjnabmjhakaaDoorW.PrintLast Go.Proofs.YtecdjnabmjhakaaDoorW.PrintMore
set_option linter.unusedVariables false
set_option linter.unusedSimpArgs false
attribute [local go_sem] Oper.semAt_some
theorem wpIn_gen {F : Fence} {n : Nat} {P : Program} {c : Code} {K : Exit → Act → World → Prop} {a : Act} {w : World} (I : World → Prop) (h : I w) (k : ∀ wx, I wx → c.wpIn F n P K a wx) : c.wpIn F n P K a w := k w h
theorem app_far {W : World} {bo n0 k : Nat} {v : Value} {xs : List Value} (hv : W.heap[bo]? = some (.cells #[v] 56 (0, 0))) (hown : W.ownsRow n0 63 6 v k xs) (o : Obj) (w5 : World) (hg : (W.alloc o).grownBy w5 v.ownBlock) :
    w5.cell? ⟨bo, 0, none⟩ = some v ∧ w5.frozen? ⟨bo, 0, none⟩ = false ∧ bo < w5.heap.size := by
  have h1 : w5.heap[bo]? = some (.cells #[v] 56 (0, 0)) := blk_grown (blk_alloc hv o) hg (fun e => by
    obtain ⟨_, h2⟩ := own_typed hown bo e.symm
    exact blk_ne hv h2 (by decide) rfl)
  exact ⟨blk_cell h1 0, blk_frozen h1 0, blk_lt h1⟩
theorem own_slice {w : World} {base : Nat} {e : TypeId} {size n : Nat} {v : Value} {xs : List Value} (h : w.ownsRow base e size v n xs) : ∃ b m c, v = .slice b m c := by
  rcases h.2 with ⟨rfl, _⟩ | ⟨g, cap, cur, rfl, _⟩
  · exact ⟨_, _, _, rfl⟩
  · exact ⟨_, _, _, rfl⟩
theorem lostC_one (A : Option Addr) (n c : Nat) (x : Nat → Int) : ∀ u ∈ lostC A n c x, u.oneCell' = true := by
  intro u hu
  simp [lostC] at hu
  rcases hu with rfl | rfl | rfl | rfl | rfl | rfl <;> rfl
theorem lostC_cells (A : Option Addr) (n c : Nat) (x : Nat → Int) (w : World) : ∀ j u, (lostC A n c x)[j]? = some u → (w.alloc (.cells #[.slice A n c, .int .i64 (x 0), .int .i64 (x 1), .int .i64 (x 2), .int .i64 (x 3), .int .i64 (x 4)] 63)).cell? ((⟨w.heap.size, 0, none⟩ : Addr).add j) = some u := by
  intro j u hj
  rw [show ((⟨w.heap.size, 0, none⟩ : Addr).add j) = ⟨w.heap.size, j, none⟩ from by simp [Addr.add]; intro h; exact h.symm, blk_cell (blk_new w _)]
  rw [← hj]
  simp only [lostC, List.getElem?_toArray]
def AxK (l : List S25) (A : Option Addr) (c nw bo bm mb : Nat) (x : Nat → Int) (a' : Act) (W : World) : Prop :=
  ∃ Bx, bm + 1 < Bx ∧ SrcAt W Bx x ∧ a' = { tmps := #[.slice A l.length c, .pointer (some ⟨nw, 0, none⟩), .slice none 0 0, .int .i64 0, .int .i64 0, .pointer (some ⟨bo, 0, none⟩), .pointer (some ⟨bm, 0, none⟩), .pointer (some ⟨Bx, 0, none⟩), undef, undef, undef, .slice A l.length c, .int .i64 0, .int .i64 0, .bool false, undef, .map (some mb), .slice A l.length c, .func (.func 60) #[] #[.pointer (some ⟨bm + 1, 0, none⟩)], srcV x, undef, undef, undef, undef, undef, undef, undef, undef, undef, undef, undef, undef, undef, undef, undef, undef, undef, undef, undef, undef, undef, undef, undef, undef, undef, undef, undef, undef, undef, undef], defers := [] }
set_option maxHeartbeats 1000000 in
set_option maxRecDepth 100000 in
theorem known_calls (A : Option Addr) (c : Nat) (l : List S25) (w : World) (hr : Kd.C k25 w A l.length l) (hc : l.length ≤ c) (k : Nat) (hk : stemma_Check.f k l = some 0) (h1 : 1 ≤ l.length) (h5 : l.length ≤ 5)
    (hL : ∀ i : Nat, i < l.length → (rd_T25 l (i : Int)).f0.size = (rd_T25 l 0).f0.size) (hL8 : (rd_T25 l 0).f0.size ≤ 8) (he : ∀ i : Nat, i < l.length → 0 ≤ (rd_T25 l (i : Int)).f1 ∧ (rd_T25 l (i : Int)).f1 ≤ 9) :
    Calls Tryd.prog 24 #[.slice A l.length c] w fun e w' => Below w.heap.size w w' ∧
      ((knownV l = [] ∧ e = .returned (.tuple #[.slice none 0 0, .int .i64 9])) ∨ (knownV l ≠ [] ∧ ∃ v, e = .returned (.tuple #[v, .int .i64 0]) ∧ w'.ownsRow w.heap.size 63 6 v (knownV l).length (lostRow A l.length c (knownV l)))) := by
  have HR := Aside0.mk hr
  have HK := Aside0.mk hk
  have HL := Aside0.mk hL
  have HE := Aside0.mk he
  have hlb := (show (w.alloc (.cells #[.slice A l.length c] 22)).heap[w.heap.size]? = some (.cells #[.slice A l.length c] 22 (0, 0)) from blk_new w _)
  have HLB := Aside0.mk hlb
  clear hr hk hL he hlb
  refine (callsIn_wide (n := 9)).1 ?_
  refine callsIn_of_wp_marks Tryd.func24 rfl trivial ?_ rfl
  simp only [Tryd.ntmps24, List.size_toArray, List.length_cons, List.length_nil, Nat.reduceAdd, Nat.reduceSub, Array.replicate_succ, Array.replicate_zero, List.push_toArray, List.append_toArray, List.nil_append, List.cons_append]
  refine wpIn_wide.2 ?_
  go_upto_region 4 with first | (go_at_call 8; refine (stemma_Check.calls k A c l 0 _ (Kd.C_below HR.out ((Below.refl _ _).alloc (Nat.le_refl _) _)) hc HK.out).mono ?_; rintro e w2 ⟨rfl, hd2⟩) | fail
  have HW2 := Aside0.mk (show w2.heap[w.heap.size]? = some (.cells #[.slice A l.length c] 22 (0, 0)) ∧ Below w.heap.size w w2 ∧ w.heap.size < w2.heap.size from ⟨blk_below HLB.out hd2, ((Below.refl _ _).alloc (Nat.le_refl _) _).trans (hd2.mono (by simp)), by have := hd2.size; simp at this; omega⟩)
  clear hd2 HLB
  go_upto_region 5 with fail
  obtain ⟨bo, hbo⟩ : ∃ b, b = w2.heap.size := ⟨_, rfl⟩
  rw [← hbo]
  refine wp_gen (fun wx => Aside0 (wx.heap[w.heap.size]? = some (.cells #[.slice A l.length c] 22 (0, 0)) ∧ Below w.heap.size w wx ∧ wx.heap[bo]? = some (.cells #[.slice none 0 0] 56 (0, 0)) ∧ bo + 1 = wx.heap.size ∧ w.heap.size < bo)) ?_ ?_
  · subst hbo
    obtain ⟨a1, a2, a3⟩ := HW2.out
    exact ⟨blk_alloc a1 _, a2.alloc a2.size _, blk_new w2 _, by simp, a3⟩
  clear hbo HW2 w2
  intro w2 HW2
  obtain ⟨mb, hmb⟩ : ∃ b, b = w2.heap.size := ⟨_, rfl⟩
  have hmk := run_makeMap (P := Tryd.prog) 69 w2
  rw [← hmb] at hmk
  go_upto_region 6 with fail
  rw [← hmb]
  obtain ⟨bm, hbm⟩ : ∃ b, b = mb + 1 := ⟨_, rfl⟩
  rw [← hbm]
  refine wp_gen (fun wx => Aside0 (KI l A c w bo bm mb [] wx) ∧ Aside0 (wx.heap.size = bm + 1 ∧ bm = mb + 1 ∧ mb = bo + 1 ∧ w.heap.size < bo)) ?_ ?_
  · obtain ⟨a1, a2, a3, a4, a5⟩ := HW2.out
    have m1 := MemoAt.new (P := Tryd.prog) 70 (MayR l) w2
    have m2 := blk_new (w2.alloc (.map #[] 0)) (.cells #[.map (some mb)] 69)
    rw [World.size_alloc] at m2
    refine ⟨⟨⟨blk_alloc (blk_alloc a1 _) _, ⟨_, blk_alloc (blk_alloc a3 _) _, World.ownsRow_nil _ _ _ _⟩, ?_, ?_, (a2.alloc a2.size _).alloc (by have := a2.size; simp; omega) _⟩⟩, ⟨by simp; omega, hbm, by omega, a5⟩⟩
    · rw [hbm, hmb]; rw [hmb] at m2; exact m2
    · rw [hmb]; exact m1.keep (Below.heap_alloc _ _ _ (by simp))
  clear hmk hmb hbm HW2 w2
  rintro w2 ⟨HI, HS⟩
  have h22 := (blk_cell HI.out.h22 0).trans (show (#[Value.slice A l.length c] : Array Value)[0]? = some _ from rfl)
  have hlt22 := blk_lt HI.out.h22
  go_upto_block 0 with first | (go_at_call 50; refine (trad_calls A l.length c _).mono ?_; rintro e w3 ⟨rfl, rfl⟩) | fail
  have HB0 := Aside0.mk (show (w2.alloc (.cells #[.slice A l.length c] 22)).heap[w2.heap.size]? = some (.cells #[.slice A l.length c] 22 (0, 0)) from blk_new w2 _)
  have HI0 := Aside0.mk (show KI l A c w bo bm mb [] (w2.alloc (.cells #[.slice A l.length c] 22)) from HI.out.it (It82.below ((Below.refl _ _).alloc (Nat.le_refl _) _)))
  have HS0 := Aside0.mk (show (w2.alloc (.cells #[.slice A l.length c] 22)).heap.size = bm + 2 by have := HS.out; simp; omega)
  have hbl : w2.heap.size = bm + 1 := HS.out.1
  rw [hbl] at HB0 ⊢
  clear h22 hlt22 HI hbl
  revert HB0 HI0 HS0
  generalize (w2.alloc (.cells #[.slice A l.length c] 22)) = W0
  intro HB0 HI0 HS0
  have HO := Aside0.mk HS.out.2
  clear HS
  go_wp2_with fail
  refine (wpIn_wide (n := 9)).1 ?_
  refine wpIn_rangeFunc_T (α := Nat → Int) rfl (by decide) (gf := 60) (lb := #[.pointer (some ⟨bm + 1, 0, none⟩)]) rfl trivial (enters_of Tryd.func60 (by kernel_rfl) rfl)
    (trad_seq l A c w.heap.size (bm + 1) 8 hc h5 _ HL.out hL8 W0 (Kd.C_below HR.out HI0.out.below) ?hlo HB0.out HI0.out.below.size)
    (fun h k => h.trans k) (KpT.book HI0.out.below.size) It82.others (Below.refl _ _) (fun _ => rfl)
    (fun pre W => KI l A c w bo bm mb pre W ∧ bm + 1 < W.heap.size) (OwnFrom.and (KI.ownFrom ?hmb HI0.out.below.size) (fun s A B row hs hg _ => Nat.lt_of_lt_of_le hs hg.size)) (fun s A B h hi => ⟨h.1.it hi, Nat.lt_of_lt_of_le h.2 hi.2.2.2.1⟩) ⟨HI0.out, by rw [HS0.out]; omega⟩ (AxK l A c w.heap.size bo bm mb) ?hAx ?assign ?body ?done
  case hlo =>
    rintro ad rfl hl0
    obtain ⟨ad', e0, y0, _⟩ := at_T25 HR.out 0 (by omega) (by omega)
    injection e0 with e0
    subst e0
    simp only [Int.toNat_zero, Nat.zero_mul, Addr.add_zero'] at y0
    exact World.block_lt_of_cell? w _ y0
  case hmb => have := HO.out; have := HS0.out; omega
  case hAx =>
    rintro x a' _ W W' row ⟨Bx, h1, h2, rfl⟩ hg hr
    refine ⟨Bx, h1, (hg.block Bx (blk_lt h2) (fun e => ?_)).trans h2, rfl⟩
    obtain ⟨_, o, ho, hc⟩ := hr Bx e.symm
    rw [show W.heap[Bx]? = _ from h2] at ho
    injection ho with ho
    subst ho
    simp [Obj.isCells] at hc
  case assign =>
    intro lr pre x W K hi hK
    have HKK := Aside0.mk hK
    have HII := Aside0.mk hi
    clear hK hi
    simp only [srcV]
    gi_wp2
    refine HKK.out _ _ ((KeepsOthers.alloc _ _).from _) ((KpT.refl _ _).alloc _) ⟨HII.out.1.it (It82.below ((Below.refl _ _).alloc (Nat.le_refl _) _)), by have := HII.out.2; simp; omega⟩ ⟨W.heap.size, HII.out.2, blk_new W _, rfl⟩
  case body =>
    rintro lr pre x a' W ⟨hi, hsz⟩ ⟨Bx, hBx, hSx, rfl⟩ hlen
    have HII := Aside0.mk hi
    have HSX := Aside0.mk hSx
    have h22 := (blk_cell hi.h22 0).trans (show (#[Value.slice A l.length c] : Array Value)[0]? = some _ from rfl)
    have h22l := blk_lt hi.h22
    obtain ⟨s0, s1, s2, s3, s4⟩ := hSx.cells
    have hSxl := blk_lt hSx
    have HLEN := Aside0.mk hlen
    clear hi hSx hsz hlen
    simp only [srcV]
    gi_wp2_with fail
    obtain ⟨b8, hb8⟩ : ∃ b, b = W.heap.size := ⟨_, rfl⟩
    rw [← hb8]
    refine wpIn_gen (fun wx => Aside0 (KB l A c w bo bm mb pre b8 x W0.heap.size W wx) ∧ Aside0 (bm + 1 < b8)) ?_ ?_
    · subst hb8
      exact ⟨⟨HII.out.it (It82.below ((Below.refl _ _).alloc (Nat.le_refl _) _)), blk_new W _, (KpT.refl _ _).alloc _, (KeepsOthers.alloc _ _).from _⟩, ⟨by have := blk_lt HSX.out; omega⟩⟩
    clear hb8 HSX HII h22 h22l s0 s1 s2 s3 s4 hSxl
    rintro wx ⟨HI9, H89⟩
    have hmix : Tryd.prog.follows Departure.mixedOrders = true := by kernel_rfl
    have h80 := (blk_cell HI9.out.1.may 0).trans (show (#[Value.map (some mb)] : Array Value)[0]? = some _ from rfl)
    have h80l := blk_lt HI9.out.1.may
    obtain ⟨x0, x1, x2, x3, x4, x5⟩ := HI9.out.2.1.cells
    have hxl := blk_lt HI9.out.2.1
    gi_cut [9, 10] from 20 (fun s9 s10 wy => Aside0 (KB l A c w bo bm mb pre b8 x W0.heap.size W wy) ∧ ∃ v b, s9 = v ∧ s10 = .bool b ∧ ((b = true ∧ MemoHas wy mb (madeV (madeB l.length x))) ∨ b = false))
    case first =>
      gi_region_with_o (first | (refine ⟨trivial, ?_⟩; gi_at_call 29; refine (CallsIn.inRound lr (callsIn_wide.2 (made_calls A c l x _ (Kd.C_below HR.out (by first | exact HI9.out.1.below | exact below_drew HI9.out.1.below)) h5))).mono ?_; rintro e w3 ⟨rfl, hB3⟩; have h80' := (hB3.cell (p := ⟨bm, 0, none⟩) h80l).trans h80; obtain ⟨vv, bb, hlook, hvv⟩ := (HI9.out.1.memo.keep (W' := w3) (hB3.block mb HI9.out.1.memo.lt)).look law85 (T := 69) (E := 4) (z := .bool false) (by kernel_rfl) (by kernel_rfl) (keyOf_made (madeB l.length x)).choose_spec; have hlk := hlook true; simp only [if_true] at hlk; clear hlook))
      all_goals gi_wp2_with fail
      all_goals
        refine Met.intro ?_
        gi_step
        (repeat apply Exists.intro)
        refine ⟨⟨⟨HI9.out.below ((below_drew (Below.refl _ _)).trans hB3)⟩, _, _, rfl, rfl, ?_⟩, rfl⟩
        rcases hvv with ⟨g1, _, g2⟩ | ⟨g1, _⟩
        · exact .inl ⟨g1, g2⟩
        · exact .inr g1
    case rest =>
      obtain ⟨HIc, v, b, rfl, rfl, hb⟩ := hcut
      clear h80 h80l x0 x1 x2 x3 x4 x5 hxl HI9
      gi_step
      gi_cut [] from 20 (fun wz => Aside0 (KB l A c w bo bm mb pre b8 x W0.heap.size W wz ∧ MemoHas wz mb (madeV (madeB l.length x))))
      case first =>
        rcases hb with ⟨rfl, hh⟩ | rfl
        · have HH := Aside0.mk hh
          clear hh
          gi_wp2_with fail
          refine Met.intro ?_
          gi_step
          (repeat apply Exists.intro)
          exact ⟨⟨HIc.out, HH.out⟩, rfl⟩
        · have h80 := (blk_cell HIc.out.1.may 0).trans (show (#[Value.map (some mb)] : Array Value)[0]? = some _ from rfl)
          have h80l := blk_lt HIc.out.1.may
          obtain ⟨x0, x1, x2, x3, x4, x5⟩ := HIc.out.2.1.cells
          have hxl := blk_lt HIc.out.2.1
          gi_wp2_with fail
          gi_region_with_o (first
            | (refine ⟨trivial, ?_⟩; gi_at_call 29; refine (CallsIn.inRound lr (callsIn_wide.2 (made_calls A c l x _ (Kd.C_below HR.out (by first | exact HIc.out.1.below | exact below_drew HIc.out.1.below)) h5))).mono ?_; rintro e w3 ⟨rfl, hB3⟩; have HW3 := Aside0.mk (HIc.out.below ((below_drew (Below.refl _ _)).trans hB3)); have h80' := (blk_cell HW3.out.1.may 0).trans (show (#[Value.map (some mb)] : Array Value)[0]? = some _ from rfl); obtain ⟨y0, y1, y2, y3, y4, y5⟩ := HW3.out.2.1.cells; clear hB3)
            | (refine ⟨trivial, ?_⟩; gi_at_call 31; refine (CallsIn.inRound lr (callsIn_wide.2 (least_calls A c l x (-1) 0 _ (Kd.C_below HR.out HW3.out.1.below) hc h1 h5 HL.out hL8 HE.out))).mono ?_; rintro e w4 ⟨rfl, hB4⟩; have HW4 := Aside0.mk (HW3.out.below hB4); have h80'' := (blk_cell HW4.out.1.may 0).trans (show (#[Value.map (some mb)] : Array Value)[0]? = some _ from rfl); obtain ⟨o, hup, hm, hh, _⟩ := HW4.out.1.memo.update (T := 69) (E := 4) (val := .bool (decide (leastV l x (-1) 0 < 1048576))) law85 (by kernel_rfl) (keyOf_made (madeB l.length x)).choose_spec ⟨x, rfl, rfl⟩; have HM := Aside0.mk hm; have HH := Aside0.mk hh; clear hm hh hB4))
          all_goals gi_wp2_with fail
          all_goals
            refine Met.intro ?_
            gi_step
            (repeat apply Exists.intro)
            exact ⟨⟨HW4.out.map (by have := HO.out; omega) (by have := HS0.out; have := HO.out; omega) _ HM.out, HH.out⟩, rfl⟩
      case rest =>
        have HIz := hcut
        clear hcut HIc
        gi_wp2_with fail
        have h80 := (blk_cell HIz.out.1.1.may 0).trans (show (#[Value.map (some mb)] : Array Value)[0]? = some _ from rfl)
        have h80l := blk_lt HIz.out.1.1.may
        obtain ⟨x0, x1, x2, x3, x4, x5⟩ := HIz.out.1.2.1.cells
        have hxl := blk_lt HIz.out.1.2.1
        gi_cut [41] from 20 (fun s41 wv => Aside0 (KB l A c w bo bm mb pre b8 x W0.heap.size W wv) ∧ s41 = .bool (liesB l x))
        case first =>
          gi_region_with_o (first | (refine ⟨trivial, ?_⟩; gi_at_call 29; refine (CallsIn.inRound lr (callsIn_wide.2 (made_calls A c l x _ (Kd.C_below HR.out (by first | exact HIz.out.1.1.below | exact below_drew HIz.out.1.1.below)) h5))).mono ?_; rintro e w3 ⟨rfl, hB3⟩; have h80' := (hB3.cell (p := ⟨bm, 0, none⟩) h80l).trans h80; obtain ⟨vv, bb, hlook, hvv⟩ := (HIz.out.1.1.memo.keep (W' := w3) (hB3.block mb HIz.out.1.1.memo.lt)).look law85 (T := 69) (E := 4) (z := .bool false) (by kernel_rfl) (by kernel_rfl) (keyOf_made (madeB l.length x)).choose_spec; have hlk := hlook false; simp only [Bool.false_eq_true, if_false] at hlk; have HV := Aside0.mk (show vv = .bool (liesB l x) from by (rcases hvv with ⟨g1, g2, _⟩ | ⟨_, _, g2⟩; exact MayR.at_key h5 g2; exact absurd (HIz.out.2.keep (hB3.block mb HIz.out.1.1.memo.lt)) g2)); clear hlook hvv))
          all_goals gi_wp2_with fail
          all_goals
            refine Met.intro ?_
            gi_step
            (repeat apply Exists.intro)
            exact ⟨⟨⟨HIz.out.1.below ((below_drew (Below.refl _ _)).trans hB3)⟩, HV.out⟩, rfl⟩
        case rest =>
          obtain ⟨HIv, rfl⟩ := hcut
          clear HIz h80 h80l x0 x1 x2 x3 x4 x5 hxl
          obtain ⟨v, h75, hown⟩ := HIv.out.1.out
          have HOWN := Aside0.mk hown
          have H75 := Aside0.mk h75
          have hc75 := (blk_cell h75 0).trans (show (#[v] : Array Value)[0]? = some v from rfl)
          have hlt75 := blk_lt h75
          have hfr75 := blk_frozen h75 0
          obtain ⟨x0, x1, x2, x3, x4, x5⟩ := HIv.out.2.1.cells
          have hxl := blk_lt HIv.out.2.1
          clear hown h75
          have hinf : (Tryd.prog.info? 63).map (fun i => (i.zero, i.size, i.bytes)) = some (some (.agg #[.slice none 0 0, .int .i64 0, .int .i64 0, .int .i64 0, .int .i64 0, .int .i64 0]), 6, 64) := by kernel_rfl
          obtain ⟨inf, hi0, hi1, hi2, hi3⟩ : ∃ inf, Tryd.prog.info? 63 = some inf ∧ inf.zero = some (.agg #[.slice none 0 0, .int .i64 0, .int .i64 0, .int .i64 0, .int .i64 0, .int .i64 0]) ∧ inf.size = 6 ∧ inf.bytes = 64 := by
            rw [Option.map_eq_some_iff] at hinf
            obtain ⟨inf, e1, e2⟩ := hinf
            injection e2 with e2 e3
            injection e3 with e3 e4
            exact ⟨inf, e1, e2, e3, e4⟩
          have HINF := Aside0.mk (show Tryd.prog.info? 63 = some inf ∧ inf.zero = some (.agg #[.slice none 0 0, .int .i64 0, .int .i64 0, .int .i64 0, .int .i64 0, .int .i64 0]) ∧ inf.size = 6 ∧ inf.bytes = 64 from ⟨hi0, hi1, hi2, hi3⟩)
          clear hinf hi0 hi1 hi2 hi3
          have HOW2 := Aside0.mk (fun o => show (wc.alloc o).ownsRow w.heap.size 63 6 v (pre.filter (liesB l)).length (lostRow A l.length c (pre.filter (liesB l))) from own_move HOWN.out (fun k hk => by
            obtain ⟨_, h2⟩ := own_typed HOWN.out k hk
            exact Below.heap_alloc _ _ _ (blk_lt h2)))
          have HLN := Aside0.mk (show (pre.filter (liesB l)).length ≤ 7776 from by
            have h10 := List.length_filter_le (liesB l) pre
            have h11 := treesG_len l l.length 0 (fun _ => 0) (by omega)
            have h12 : 6 ^ l.length ≤ 6 ^ 5 := Nat.pow_le_pow_right (by decide) h5
            have h13 := HLEN.out
            omega)
          by_cases hl : liesB l x = true
          · rw [hl]
            have HLT := Aside0.mk hl
            clear hl
            gi_wp2_with (first | (gi_at_builtin; refine wpListIn_append_own _ rfl _ _ 56 rfl w.heap.size 63 inf (.agg #[.slice none 0 0, .int .i64 0, .int .i64 0, .int .i64 0, .int .i64 0, .int .i64 0]) 6 64 (by kernel_rfl) HINF.out.1 HINF.out.2.1 HINF.out.2.2.1 HINF.out.2.2.2 rfl (by decide) v _ _ rfl (HOW2.out _) ⟨wc.heap.size, 0, none⟩ 1 1 (lostC A l.length c x) rfl rfl (lostC_cells A l.length c x wc) (lostC_one A l.length c x) (by have := HLN.out; unfold maxLen; omega) (by have := HLN.out; omega) (by have := HIv.out.1.below.size; simp; omega) ?_; rintro v' w5 hown5 hgr5 hnil5; obtain ⟨sb5, sn5, sc5, rfl⟩ := own_slice hown5; have HO5 := Aside0.mk hown5; have HG5 := Aside0.mk hgr5; clear hown5 hnil5; obtain ⟨hc6, hf6, hl6⟩ := app_far H75.out HOWN.out _ _ hgr5; clear hgr5))
            obtain ⟨a1, a2, a3⟩ := KB.app ⟨HIv.out.1.it (It82.below ((Below.refl _ _).alloc (Nat.le_refl _) _)), blk_alloc HIv.out.2.1 _, HIv.out.2.2.1.alloc _, HIv.out.2.2.2.trans ((KeepsOthers.alloc _ _).from _)⟩ HLT.out (by have := HO.out; omega) (blk_alloc H75.out _) (HOW2.out _) HO5.out HG5.out (by have := blk_lt HIv.out.1.may; simp; omega)
            exact ⟨a1, a2, a3, by have := H89.out; have := blk_lt HIv.out.2.1; have := HG5.out.size; simp at this; simp [World.setCell]; omega⟩
          · have hl' : liesB l x = false := by simpa using hl
            rw [hl']
            have HLF := Aside0.mk hl'
            clear hl hl'
            gi_wp2_with fail
            obtain ⟨a1, a2, a3⟩ := HIv.out.skip HLF.out
            exact ⟨a1, a2, a3, by have := H89.out; omega⟩
  case done =>
    rintro D xs W hD rfl hi hK
    have HII := Aside0.mk hi
    obtain ⟨v, h75, hown⟩ := hi.1.out
    have HOWN := Aside0.mk hown
    obtain ⟨kn, hkn⟩ : ∃ kn, knownV l = kn := ⟨_, rfl⟩
    have HKN := Aside0.mk hkn
    rw [show (treesG l l.length 0 (fun _ => 0)).filter (liesB l) = kn from hkn] at HOWN
    have hsh := HOWN.out.2
    have HB := Aside0.mk hi.1.below
    have HD := Aside0.mk hD
    have HKD := Aside0.mk hK
    clear hi hown hkn hD hK
    rcases hsh with ⟨rfl, hl0⟩ | ⟨gb, cap, cur, rfl, hgb, hhb, hle, hrest⟩
    · have hc75 := (blk_cell h75 0).trans (show (#[Value.slice none 0 0] : Array Value)[0]? = some _ from rfl)
      have HL0 := Aside0.mk hl0
      clear hl0
      go_wp2_with fail
      refine ⟨by simp, .inl ⟨_, _, rfl, run_takeDeferred HKD.out, ?_⟩⟩
      refine ⟨_, results_tmp2 rfl _ _ _, ?_, .inl ⟨?_, rfl⟩⟩
      · exact HB.out.trans (belowK_b (w := w) (Nat.le_refl _) W D _ _ (Nat.le_trans HI0.out.below.size HD.out) HKD.out rfl rfl)
      · rw [HKN.out]
        exact List.eq_nil_of_length_eq_zero HL0.out
    · have hc75 := (blk_cell h75 0).trans (show (#[Value.slice (some ⟨gb, 0, none⟩) kn.length cap] : Array Value)[0]? = some _ from rfl)
      clear hrest
      by_cases hk0 : kn.length = 0
      · go_wp2_with fail
        refine ⟨by simp, .inl ⟨_, _, rfl, run_takeDeferred HKD.out, ?_⟩⟩
        refine ⟨_, results_tmp2 rfl _ _ _, HB.out.trans (belowK_b (w := w) (Nat.le_refl _) W D _ _ (Nat.le_trans HI0.out.below.size HD.out) HKD.out rfl rfl), .inl ⟨?_, rfl⟩⟩
        rw [HKN.out]
        exact List.eq_nil_of_length_eq_zero hk0
      · go_wp2_with fail
        refine ⟨by simp, .inl ⟨_, _, rfl, run_takeDeferred HKD.out, ?_⟩⟩
        refine ⟨_, results_tmp2 rfl _ _ _, HB.out.trans (belowK_b (w := w) (Nat.le_refl _) W D _ _ (Nat.le_trans HI0.out.below.size HD.out) HKD.out rfl rfl), .inr ⟨?_, _, rfl, ?_⟩⟩
        · rw [HKN.out]
          rintro rfl
          exact hk0 rfl
        · rw [HKN.out]
          refine own_move HOWN.out fun b hb => World.putObj_heap_other (fun e => ?_)
          obtain ⟨cells, h2⟩ := own_typed HOWN.out b hb
          rw [e, HKD.out] at h2
          simp at h2
end Go.Proofs.YtecdjnabmjhakaaDoor.P.OwnSt
namespace Go.Proofs.YtecdjnabmjhakaaDoor.P.OwnSt
open Go.RowKit Go.Shelf Go.Proofs.YtecdjnabmjhakaaDoorW.PrintWords Go.Proofs.YtecdjnabmjhakaaDoorW.PrintLast Go.Proofs.YtecdjnabmjhakaaDoorW.PrintMore
set_option linter.unusedVariables false
set_option linter.unusedSimpArgs false
def CountAt (W : World) (g : Nat) (a b c : Int) : Prop := W.heap[g]? = some (.cells #[.int .i64 a, .int .i64 b, .int .i64 c] 99 (0, 0))
theorem grownBy_setCell (w : World) (g i : Nat) (u : Value) : w.grownBy (w.setCell ⟨g, i, none⟩ u) (some g) :=
  ⟨rfl, rfl, rfl, by simp [World.setCell], fun k _ hne => Below.heap_setCell w _ u k (fun e => hne (by rw [e]))⟩
theorem grownBy_drew {w w' : World} {r : Option Nat} (h : w.grownBy w' r) : w.grownBy w'.drew r := ⟨h.os, h.tape, h.output, h.size, h.block⟩
theorem CountAt.cells {W : World} {g : Nat} {a b c : Int} (h : CountAt W g a b c) : (W.cell? ⟨g, 0, none⟩ = some (.int .i64 a) ∧ W.cell? ⟨g, 1, none⟩ = some (.int .i64 b) ∧ W.cell? ⟨g, 2, none⟩ = some (.int .i64 c)) ∧ (W.frozen? ⟨g, 0, none⟩ = false ∧ W.frozen? ⟨g, 1, none⟩ = false ∧ W.frozen? ⟨g, 2, none⟩ = false) ∧ g < W.heap.size :=
  ⟨⟨(blk_cell h 0).trans rfl, (blk_cell h 1).trans rfl, (blk_cell h 2).trans rfl⟩, ⟨blk_frozen h 0, blk_frozen h 1, blk_frozen h 2⟩, blk_lt h⟩
theorem note_calls (g : Nat) (a b c : Int) (is : Bool) (w : World) (hg : CountAt w g a b c) (ha : 0 ≤ a ∧ a < 100000) (hb : 0 ≤ b ∧ b < 100000) :
    Calls Tryd.prog 51 #[.pointer (some ⟨g, 0, none⟩), .bool is] w fun e w' =>
      e = .returned (.tuple #[]) ∧ CountAt w' g (if is = true then a else a + 1) (if is = true then b + 1 else b) c ∧ w.grownBy w' (some g) := by
  have HG := Aside0.mk hg
  obtain ⟨⟨h0, h1, _⟩, ⟨f0, f1, _⟩, hl⟩ := hg.cells
  have e1 : wrap64 (a + 1) = a + 1 := by simp [wrap64]; omega
  have e2 : wrap64 (b + 1) = b + 1 := by simp [wrap64]; omega
  have HA := Aside0.mk ha
  have HB := Aside0.mk hb
  clear hg ha hb
  have hmix : Tryd.prog.follows Departure.mixedOrders = true := by kernel_rfl
  go_enter Tryd.func51, Tryd.ntmps51
  cases is with
  | true =>
    go_wp2_with fail
    go_region
    all_goals go_wp2_with fail
    refine bodyPost_end (results_none rfl _ _ _) rfl ⟨rfl, ?_, grownBy_drew (grownBy_setCell w g 1 (.int .i64 (b + 1)))⟩
    exact (blk_set HG.out 1 (.int .i64 (b + 1))).trans rfl
  | false =>
    go_wp2_with fail
    go_region
    all_goals go_wp2_with fail
    refine bodyPost_end (results_none rfl _ _ _) rfl ⟨rfl, ?_, grownBy_drew (grownBy_setCell w g 0 (.int .i64 (a + 1)))⟩
    exact (blk_set HG.out 0 (.int .i64 (a + 1))).trans rfl
def verdictI (so all : Nat) : Int := if so = all then 1 else if so = 0 then 2 else 3
theorem verdict_calls (so all : Nat) (w : World) (h1 : so ≤ all) (h2 : all < 100000) :
    Calls Tryd.prog 52 #[.agg #[.int .i64 (all - so : Nat), .int .i64 so, .int .i64 all]] w fun e w' => e = .returned (.int .i64 (verdictI so all)) ∧ Below w.heap.size w w' := by
  have HG := (show CountAt (w.alloc (.cells #[.int .i64 (all - so : Nat), .int .i64 so, .int .i64 all] 99)) w.heap.size (all - so : Nat) so all from blk_new w _)
  obtain ⟨⟨c0, c1, c2⟩, ⟨f0, f1, f2⟩, hl⟩ := HG.cells
  have HB := Aside0.mk ((Below.refl w.heap.size w).alloc (Nat.le_refl _) (.cells #[.int .i64 (all - so : Nat), .int .i64 so, .int .i64 all] 99))
  have HH := Aside0.mk (And.intro h1 h2)
  clear HG h1 h2
  by_cases e1 : (all : Int) = so
  · have h : verdictI so all = 1 := by unfold verdictI; rw [if_pos (by omega)]
    have b1 : ((all : Int) == (so : Int)) = true := beq_iff_eq.mpr e1
    clear e1
    go_enter Tryd.func52, Tryd.ntmps52
    go_wp2_with fail
    exact bodyPost_ret (results_tmp rfl _ _ _) rfl ⟨by rw [h]; rfl, HB.out⟩
  · have b1 : ((all : Int) == (so : Int)) = false := beq_false_of_ne e1
    by_cases e2 : (all : Int) = (all - so : Nat)
    · have h : verdictI so all = 2 := by have := HH.out; unfold verdictI; rw [if_neg (by omega), if_pos (by omega)]
      have b2 : ((all : Int) == ((all - so : Nat) : Int)) = true := beq_iff_eq.mpr e2
      clear e1 e2
      go_enter Tryd.func52, Tryd.ntmps52
      go_wp2_with fail
      exact bodyPost_ret (results_tmp rfl _ _ _) rfl ⟨by rw [h]; rfl, HB.out⟩
    · have h : verdictI so all = 3 := by have := HH.out; unfold verdictI; rw [if_neg (by omega), if_neg (by omega)]
      have b2 : ((all : Int) == ((all - so : Nat) : Int)) = false := beq_false_of_ne e2
      clear e1 e2
      go_enter Tryd.func52, Tryd.ntmps52
      go_wp2_with fail
      exact bodyPost_ret (results_tmp rfl _ _ _) rfl ⟨by rw [h]; rfl, HB.out⟩
theorem own_cell {w : World} {base e size n m cap g : Nat} {xs : List Value} (h : w.ownsRow base e size (.slice (some ⟨g, 0, none⟩) m cap) n xs) (k : Nat) (u : Value) (hk : xs[k]? = some u) : w.cell? ⟨g, k, none⟩ = some u ∧ g < w.heap.size := by
  rcases h.2 with ⟨e1, _⟩ | ⟨g', cap', cur, e1, hg, hh, hle, hmx, hsz, hxs⟩
  · cases e1
  · injection e1 with e1 e2 e3
    injection e1 with e1
    injection e1 with e1
    subst e1
    refine ⟨?_, blk_lt hh⟩
    rw [blk_cell hh]
    rw [← hxs, List.getElem?_take] at hk
    split at hk
    · simpa using hk
    · cases hk
theorem lostRow_get (A : Option Addr) (n c : Nat) (ss : List (Nat → Int)) : ∀ (i : Nat) (s : Nat → Int), ss[i]? = some s → ∀ q, q < 6 → (lostRow A n c ss)[i * 6 + q]? = (lostC A n c s)[q]? := by
  induction ss with
  | nil => intro i s h; simp at h
  | cons x ss ih =>
    intro i s h q hq
    have e : lostRow A n c (x :: ss) = lostC A n c x ++ lostRow A n c ss := by simp [lostRow]
    rw [e]
    cases i with
    | zero =>
      simp at h
      subst h
      rw [Nat.zero_mul, Nat.zero_add, List.getElem?_append_left (by simp [lostC]; omega)]
    | succ i =>
      rw [List.getElem?_append_right (by simp [lostC]; omega)]
      have := ih i s (by simpa using h) q hq
      rw [← this]
      congr 1
      simp [lostC]
      omega
theorem lost_cells {w W : World} {b gv cv : Nat} {A : Option Addr} {la c : Nat} {ss : List (Nat → Int)} (h : w.ownsRow b 63 6 (.slice (some ⟨gv, 0, none⟩) ss.length cv) ss.length (lostRow A la c ss)) (hb : Below w.heap.size w W) (i : Nat) (s : Nat → Int) (hs : ss[i]? = some s) :
    (W.cell? ⟨gv, i * 6, none⟩ = some (.slice A la c) ∧ W.cell? ⟨gv, i * 6 + 1, none⟩ = some (.int .i64 (s 0)) ∧ W.cell? ⟨gv, i * 6 + 2, none⟩ = some (.int .i64 (s 1)) ∧ W.cell? ⟨gv, i * 6 + 3, none⟩ = some (.int .i64 (s 2)) ∧ W.cell? ⟨gv, i * 6 + 4, none⟩ = some (.int .i64 (s 3)) ∧ W.cell? ⟨gv, i * 6 + 5, none⟩ = some (.int .i64 (s 4))) ∧ gv < W.heap.size := by
  have key : ∀ q u, q < 6 → (lostC A la c s)[q]? = some u → W.cell? ⟨gv, i * 6 + q, none⟩ = some u := fun q u hq hu => by
    obtain ⟨h1, h2⟩ := own_cell h (i * 6 + q) u ((lostRow_get A la c ss i s hs q hq).trans hu)
    exact (hb.cell h2).trans h1
  have hlt := (own_cell h (i * 6 + 0) _ ((lostRow_get A la c ss i s hs 0 (by omega)).trans rfl)).2
  exact ⟨⟨key 0 _ (by omega) rfl, key 1 _ (by omega) rfl, key 2 _ (by omega) rfl, key 3 _ (by omega) rfl, key 4 _ (by omega) rfl, key 5 _ (by omega) rfl⟩, Nat.lt_of_lt_of_le hlt hb.size⟩
theorem R_other {α : Type} {d : Kd α} {e base : Nat} {ok : Nat → Prop} {u : Value} {xs : List α} {W W' : World} (h : Kd.R d e W base ok u xs) {g t : Nat} {cs : Array Value} (hg : W.heap[g]? = some (.cells cs t (0, 0))) (ht : ∀ q ∈ e :: d.E, q ≠ t) (hgr : W.grownBy W' (some g)) : Kd.R d e W' base ok u xs :=
  Kd.R_mono (Kd.R_kept (S := fun k => k = g) (Kd.R_apart' (v := .slice (some ⟨g, 0, none⟩) 0 0) h (fun k hk => by
    have : g = k := by simpa [Value.ownBlock] using hk
    subst this
    exact ⟨cs, hg⟩) ht) (Kept.of_grown hgr (Kept.refl _ _) (fun k e => .inl (by injection e with e; exact e.symm))) (fun k hk e => hk.2 (by subst e; rfl))) (fun _ hk => hk.1)
def lostV (A : Option Addr) (n c : Nat) (s : Nat → Int) : Value := .agg #[.slice A n c, .int .i64 (s 0), .int .i64 (s 1), .int .i64 (s 2), .int .i64 (s 3), .int .i64 (s 4)]
def AskAt (id : Nat) (A : Option Addr) (la c : Nat) (ss : List (Nat → Int)) (lb : Array Value) (p : (Nat → Int) → Bool) (w : World) : Prop :=
  ∀ s ∈ ss, ∀ W, Below w.heap.size w W → Calls Tryd.prog id (#[lostV A la c s] ++ lb) W fun e W' => e = .returned (.bool (p s)) ∧ Below W.heap.size W W'
set_option maxHeartbeats 1000000 in
set_option maxRecDepth 100000 in
theorem verdicts_calls (id : Nat) (hen : ∀ args W, (callFunc id args).run Tryd.prog W = .ok (.enter id args) W) (A : Option Addr) (la c : Nat) (ss : List (Nat → Int)) (gv cv b gf cf b2 : Nat) (lbs : List (Array Value)) (ps : List ((Nat → Int) → Bool)) (w : World)
    (hl : w.ownsRow b 63 6 (.slice (some ⟨gv, 0, none⟩) ss.length cv) ss.length (lostRow A la c ss)) (hf : w.ownsRow b2 64 1 (.slice (some ⟨gf, 0, none⟩) lbs.length cf) lbs.length (lbs.map fun lb => .func (.func id) #[] lb))
    (hn : lbs.length = ps.length) (hask : ∀ (j : Nat) lb p, lbs[j]? = some lb → ps[j]? = some p → AskAt id A la c ss lb p w) (hs1 : ss.length < 10000) (hl1 : lbs.length < 100) :
    Calls Tryd.prog 26 #[.slice (some ⟨gv, 0, none⟩) ss.length cv, .slice (some ⟨gf, 0, none⟩) lbs.length cf] w fun e w' =>
      ∃ v, e = .returned v ∧ Kd.R (Kd.int .i64) 3 w' w.heap.size (fun k => w.heap.size ≤ k) v (ps.map fun p => verdictI (ss.countP p) ss.length) ∧ Below w.heap.size w w' := by
  have HL := Aside0.mk hl
  have HF := Aside0.mk hf
  have HA := Aside0.mk hask
  have HE := Aside0.mk hen
  have HN := Aside0.mk hn
  clear hl hf hask hen hn
  go_enter Tryd.func26, Tryd.ntmps26
  go_wp2_with fail
  go_loopg [5, 13] lbs.length (fun k s5 s13 wr => ∃ j : Nat, j + k = lbs.length ∧ s13 = .int .i64 (j : Int) ∧ Aside0 (Kd.R (Kd.int .i64) 3 wr w.heap.size (fun k => w.heap.size ≤ k) s5 ((ps.take j).map fun p => verdictI (ss.countP p) ss.length)) ∧ Aside0 (Below w.heap.size w wr))
  case atStart => exact ⟨0, by omega, rfl, ⟨Kd.R_nil _ _ _ _ _⟩, ⟨Below.refl _ _⟩⟩
  case round =>
    obtain ⟨gj, rfl⟩ : ∃ gj, gj = gk := ⟨_, rfl⟩
    obtain ⟨j, hjk, rfl, HR, HB⟩ := hrel
    have HJK := Aside0.mk hjk
    clear hjk
    by_cases hj : j < lbs.length
    · obtain ⟨lb, hlb⟩ : ∃ lb, lbs[j]? = some lb := ⟨_, List.getElem?_eq_getElem hj⟩
      obtain ⟨p, hp⟩ : ∃ p, ps[j]? = some p := ⟨_, List.getElem?_eq_getElem (by have := HN.out; omega)⟩
      have hcf := own_cell HF.out j (.func (.func id) #[] lb) (by rw [List.getElem?_map, hlb]; rfl)
      have hfj := (HB.out.cell hcf.2).trans hcf.1
      have hfl := Nat.lt_of_lt_of_le hcf.2 HB.out.size
      have HLB := Aside0.mk (HA.out j lb p hlb hp)
      have HP := Aside0.mk hp
      clear hcf hlb hp
      go_upto_region 6 with fail
      obtain ⟨b8, hb8⟩ : ∃ b8, b8 = wr.heap.size := ⟨_, rfl⟩
      rw [← hb8]
      refine wp_gen (fun wx => Aside0 (Kd.R (Kd.int .i64) 3 wx w.heap.size (fun k => w.heap.size ≤ k) u5 ((ps.take j).map fun p => verdictI (ss.countP p) ss.length)) ∧ Aside0 (Below w.heap.size w wx) ∧ Aside0 (CountAt wx b8 0 0 0) ∧ Aside0 (w.heap.size ≤ b8)) ?_ ?_
      · subst hb8
        exact ⟨⟨Kd.R_alloc HR.out _⟩, ⟨HB.out.alloc HB.out.size _⟩, ⟨blk_new wr _⟩, ⟨HB.out.size⟩⟩
      clear hb8 HR HB hfj hfl
      rintro W1 ⟨HR, HB, HC, H8⟩
      go_wp2_with fail
      go_loopg [19] ss.length (fun k s19 wr => ∃ i : Nat, i + k = ss.length ∧ s19 = .int .i64 (i : Int) ∧ Aside0 (Kd.R (Kd.int .i64) 3 wr w.heap.size (fun k => w.heap.size ≤ k) u5 ((ps.take j).map fun p => verdictI (ss.countP p) ss.length)) ∧ Aside0 (Below w.heap.size w wr) ∧ Aside0 (CountAt wr b8 ((i - (ss.take i).countP p : Nat) : Int) ((ss.take i).countP p : Nat) (i : Int)))
      case atStart => exact ⟨0, by omega, rfl, HR, HB, ⟨by simpa using HC.out⟩⟩
      case round =>
        clear HR HB HC
        obtain ⟨i, hik, rfl, HR, HB, HC⟩ := hrel
        have HIK := Aside0.mk hik
        clear hik
        by_cases hi : i < ss.length
        · obtain ⟨s, hs⟩ : ∃ s, ss[i]? = some s := ⟨_, List.getElem?_eq_getElem hi⟩
          obtain ⟨⟨y0, y1, y2, y3, y4, y5⟩, ygl⟩ := lost_cells HL.out HB.out i s hs
          have HS := Aside0.mk hs
          clear hs
          go_upto_region 9 with fail
          obtain ⟨b10, hb10⟩ : ∃ b10, b10 = wr.heap.size := ⟨_, rfl⟩
          rw [← hb10]
          refine wp_gen (fun wx => Aside0 (Kd.R (Kd.int .i64) 3 wx w.heap.size (fun k => w.heap.size ≤ k) u5 ((ps.take j).map fun p => verdictI (ss.countP p) ss.length)) ∧ Aside0 (Below w.heap.size w wx) ∧ Aside0 (CountAt wx b8 ((i - (ss.take i).countP p : Nat) : Int) ((ss.take i).countP p : Nat) (i : Int)) ∧ Aside0 (LostAt wx b10 A la c s)) ?_ ?_
          · subst hb10
            exact ⟨⟨Kd.R_alloc HR.out _⟩, ⟨HB.out.alloc HB.out.size _⟩, ⟨blk_alloc HC.out _⟩, ⟨blk_new wr _⟩⟩
          clear hb10 HR HB HC y0 y1 y2 y3 y4 y5 ygl
          rintro W2 ⟨HR, HB, HC, HX⟩
          obtain ⟨⟨c0, c1, c2⟩, ⟨f0, f1, f2⟩, hcl⟩ := HC.out.cells
          go_upto_region 10 with fail
          refine wp_gen (fun wx => Aside0 (Kd.R (Kd.int .i64) 3 wx w.heap.size (fun k => w.heap.size ≤ k) u5 ((ps.take j).map fun p => verdictI (ss.countP p) ss.length)) ∧ Aside0 (Below w.heap.size w wx) ∧ Aside0 (CountAt wx b8 ((i - (ss.take i).countP p : Nat) : Int) ((ss.take i).countP p : Nat) ((i : Int) + 1)) ∧ Aside0 (LostAt wx b10 A la c s)) ?_ ?_
          · exact ⟨⟨Kd.R_set HR.out HC.out (by decide) 2 _⟩, ⟨HB.out.setCell H8.out _⟩, ⟨(blk_set HC.out 2 _).trans rfl⟩, ⟨blk_far HX.out (fun e => blk_ne HX.out HC.out (by decide) e) _⟩⟩
          clear HR HB HC HX c0 c1 c2 f0 f1 f2 hcl W2
          rintro W2 ⟨HR, HB, HC, HX⟩
          obtain ⟨x0, x1, x2, x3, x4, x5⟩ := HX.out.cells
          have hxl := blk_lt HX.out
          have hcl := blk_lt HC.out
          have hen := HE.out
          have hcb := List.countP_le_length (p := p) (l := ss.take i)
          rw [List.length_take] at hcb
          have HCB := Aside0.mk hcb
          clear hcb
          go_wp2_with (first
            | (refine (HLB.out s (List.mem_of_getElem? HS.out) W2 HB.out).mono ?_; rintro e W3 ⟨rfl, hB3⟩; have HR3 := Aside0.mk (Kd.R_below HR.out hB3); have HB3 := Aside0.mk (HB.out.trans (hB3.mono HB.out.size)); have HC3 := Aside0.mk (show CountAt W3 b8 _ _ _ from blk_below HC.out hB3); clear hB3)
            | (go_at_call 51; refine (note_calls b8 _ _ _ (p s) W3 HC3.out (by have := HCB.out; omega) (by have := HCB.out; omega)).mono ?_; rintro e W4 ⟨rfl, hC4, hG4⟩; have HR4 := Aside0.mk (R_other HR3.out HC3.out (by decide) hG4); have HC4 := Aside0.mk hC4; have HB4 := Aside0.mk (HB3.out.grown hG4 HB3.out.size (fun k e => by injection e with e; subst e; exact H8.out)); clear hC4 hG4))
          go_roundg (gk - 1)
          case measure => have := HIK.out; omega
          case rel =>
            refine ⟨i + 1, by have := HIK.out; omega, by go_num, HR4, HB4, ⟨?_⟩⟩
            have h4 := HC4.out
            have h5 := HCB.out
            rw [List.take_add_one, HS.out, Option.toList_some, List.countP_append]
            cases hps : p s with
            | true =>
              rw [hps] at h4
              have : List.countP p [s] = 1 := by simp [hps]
              rw [this]
              rw [show ((i + 1 - (List.countP p (List.take i ss) + 1) : Nat) : Int) = ((i - List.countP p (List.take i ss) : Nat) : Int) by omega]
              exact h4
            | false =>
              rw [hps] at h4
              have : List.countP p [s] = 0 := by simp [hps]
              rw [this]
              rw [show ((i + 1 - (List.countP p (List.take i ss) + 0) : Nat) : Int) = ((i - List.countP p (List.take i ss) : Nat) : Int) + 1 by omega]
              exact h4
        · have hii : i = ss.length := by have := HIK.out; omega
          obtain ⟨⟨c0, c1, c2⟩, ⟨f0, f1, f2⟩, hcl⟩ := HC.out.cells
          have HII := Aside0.mk hii
          clear hii
          have hcb := List.countP_le_length (p := p) (l := ss.take i)
          rw [List.length_take] at hcb
          have HCB := Aside0.mk hcb
          clear hcb
          obtain ⟨so, hso⟩ : ∃ so, so = (ss.take i).countP p := ⟨_, rfl⟩
          rw [← hso] at c0 c1
          rw [← hso] at HCB
          have HSO := Aside0.mk hso
          clear hso
          obtain ⟨vd, hvd⟩ : ∃ vd, vd = verdictI so i := ⟨_, rfl⟩
          have HVD := Aside0.mk hvd
          go_wp2_with (first
            | (go_at_call 52; refine (verdict_calls so i wr (by have := HCB.out; omega) (by have := HII.out; omega)).mono ?_; rintro e W5 ⟨rfl, hB5⟩; rw [← HVD.out]; clear hvd; have HR5 := Aside0.mk (Kd.R_below HR.out hB5); have HB5 := Aside0.mk (HB.out.trans (hB5.mono HB.out.size)); clear hB5)
            | (at_builtin; refine Kd.R_append (Kd.int .i64) (w0 := w) w.heap.size rfl _ _ 33 3 (.int .i64 0) 8 rfl Tryd.underlying33 info3 rfl (by decide) (by omega) u5 _ vd [.int .i64 vd] (fun k_ => (w.heap.size ≤ k_)) (fun _ => False) rfl rfl ?aP (fun _ hk => hk.elim) ?aF HR5.out HB5.out HB5.out.size ?aL ?_; (case aP => exact rfl); (case aF => exact (fun k_ hk => Nat.le_trans HB5.out.size hk)); (case aL => (simp; omega)); intro v258 w17 ho hb hg hat; have HR6 := Aside0.mk ho; have HB6 := Aside0.mk hb; clear ho hb hg hat))
          go_roundg (gj - 1)
          case measure => have := HJK.out; omega
          case rel =>
            refine ⟨j + 1, by have := HJK.out; omega, by go_num, ⟨?_⟩, HB6⟩
            rw [List.take_add_one, HP.out, Option.toList_some, List.map_append]
            have h6 := HR6.out
            rw [HVD.out, HSO.out, HII.out, List.take_length] at h6
            exact h6
    · go_wp2_with fail
      refine bodyPost_ret (results_tmp rfl _ _ _) rfl ⟨_, rfl, ?_, HB.out⟩
      have h7 := HR.out
      rw [List.take_of_length_le (by have := HN.out; have := HJK.out; omega)] at h7
      exact h7
end Go.Proofs.YtecdjnabmjhakaaDoor.P.OwnSt
namespace Go.Proofs.YtecdjnabmjhakaaDoor.P.OwnSt
open Go.RowKit Go.Proofs.YtecdjnabmjhakaaDoorW.PrintWords Go.Proofs.YtecdjnabmjhakaaDoorW.PrintLast Go.Proofs.YtecdjnabmjhakaaDoorW.PrintMore
set_option linter.unusedVariables false
set_option linter.unusedSimpArgs false
theorem wrap64_small {x : Int} (h0 : 0 ≤ x) (h1 : x < 4611686018427387904) : wrap64 x = x := by simp [wrap64]; omega
def goodAt (b : ByteArray) (i : Nat) : Bool := decide (65 ≤ bt b i ∧ bt b i ≤ 90)
def goodText (b : ByteArray) : Bool := (List.range b.size).all (goodAt b)
def oneV (l : List S25) (x : S25) : Int :=
  if x.f0.size < 1 ∨ 8 < x.f0.size then 2 else if goodText x.f0 = false then 2 else if x.f0.size ≠ (rd_T25 l 0).f0.size then 2 else if x.f1 < 0 then 1 else if 3 < x.f1 then 1 else 0
def checkF (l : List S25) : Nat → Nat → Int
  | 0, _ => 0
  | rem + 1, i => if oneV l (rd_T25 l (i : Int)) = 0 then checkF l rem (i + 1) else oneV l (rd_T25 l (i : Int))
def checkV (l : List S25) : Int := if l.length = 0 then 7 else if 5 < l.length then 6 else checkF l l.length 0
theorem Ev.if_pos' {α : Type} {c : Prop} [Decidable c] {g f : Nat → Option α} {r : α} (hc : c) (h : Ev g r) : Ev (fun k => if c then g k else f k) r := by simpa [hc] using h
theorem Ev.if_neg' {α : Type} {c : Prop} [Decidable c] {g f : Nat → Option α} {r : α} (hc : ¬ c) (h : Ev f r) : Ev (fun k => if c then g k else f k) r := by simpa [hc] using h
theorem goodText_from {b : ByteArray} (p : Nat) (h : ∀ i, i < p → goodAt b i = true) (hp : b.size ≤ p) : goodText b = true := by
  unfold goodText
  rw [List.all_eq_true]
  intro i hi
  exact h i (by have := List.mem_range.1 hi; omega)
theorem goodText_bad {b : ByteArray} (p : Nat) (hp : p < b.size) (h : goodAt b p = false) : goodText b = false := by
  unfold goodText
  rw [← Bool.not_eq_true, List.all_eq_true]
  intro h2
  have := h2 p (List.mem_range.2 hp)
  rw [h] at this
  cases this
theorem check_l1 (l : List S25) (i : Nat) (hi : i < l.length) (hl : l.length ≤ 5) (x : S25) (h8 : x.f0.size ≤ 8) (R : Int)
    (hR : Ev (fun k => stemma_Check.l0 k l l (l.length : Int) ((i + 1 : Nat) : Int)) R) : ∀ (rem p : Nat), p + rem = x.f0.size → (∀ j, j < p → goodAt x.f0 j = true) →
    Ev (fun k => stemma_Check.l1 k l l (l.length : Int) (i : Int) (x.f0.size : Int) (p : Int) x.f0 x.f1 x.f2) (if goodText x.f0 = false then 2 else if x.f0.size ≠ (rd_T25 l 0).f0.size then 2 else if x.f1 < 0 then 1 else if 3 < x.f1 then 1 else R) := by
  intro rem
  induction rem with
  | zero =>
    intro p hp hg
    have hgt : goodText x.f0 = true := goodText_from p hg (by omega)
    refine Ev.step (fun k => by rw [stemma_Check.l1]) ?_
    refine Ev.if_neg' (by omega) (Ev.if_pos' (by omega) ?_)
    rw [if_neg (by rw [hgt]; simp)]
    by_cases hs : x.f0.size = (rd_T25 l 0).f0.size
    · refine Ev.if_pos' (by omega) ?_
      rw [if_neg (by simp [hs])]
      by_cases h0 : x.f1 < 0
      · rw [if_pos h0]
        exact Ev.if_pos' h0 (Ev.now _)
      · rw [if_neg h0]
        refine Ev.if_neg' h0 ?_
        by_cases h3 : 3 < x.f1
        · rw [if_pos h3]
          exact Ev.if_pos' h3 (Ev.now _)
        · rw [if_neg h3]
          refine Ev.if_neg' h3 ?_
          rw [wrap64_small (by omega) (by omega)]
          exact hR
    · refine Ev.if_neg' (by omega) ?_
      rw [if_pos hs]
      exact Ev.now _
  | succ rem ih =>
    intro p hp hg
    refine Ev.step (fun k => by rw [stemma_Check.l1]) ?_
    refine Ev.if_pos' (by omega) (Ev.if_pos' (by omega) (Ev.if_pos' (by omega) ?_))
    by_cases h1 : bt x.f0 p < 65
    · rw [if_pos (goodText_bad p (by omega) (by simp [goodAt]; omega))]
      exact Ev.if_pos' h1 (Ev.now _)
    · refine Ev.if_neg' h1 ?_
      by_cases h2 : bt x.f0 p > 90
      · rw [if_pos (goodText_bad p (by omega) (by simp [goodAt]; omega))]
        exact Ev.if_pos' h2 (Ev.now _)
      · refine Ev.if_neg' h2 ?_
        rw [wrap64_small (by omega) (by omega)]
        have := ih (p + 1) (by omega) (fun j hj => by
          by_cases e : j = p
          · subst e
            simp [goodAt]
            omega
          · exact hg j (by omega))
        simpa using this
theorem check_l0 (l : List S25) (hl : l.length ≤ 5) : ∀ (rem i : Nat), i + rem = l.length → Ev (fun k => stemma_Check.l0 k l l (l.length : Int) (i : Int)) (checkF l rem i) := by
  intro rem
  induction rem with
  | zero =>
    intro i hi
    refine Ev.step (fun k => by rw [stemma_Check.l0]) ?_
    exact Ev.if_neg' (by omega) (Ev.now _)
  | succ rem ih =>
    intro i hi
    have hR := ih (i + 1) (by omega)
    refine Ev.step (fun k => by rw [stemma_Check.l0]) ?_
    refine Ev.if_pos' (by omega) (Ev.if_pos' (by omega) (Ev.if_pos' (by omega) ?_))
    obtain ⟨x, hx⟩ : ∃ x, x = rd_T25 l (i : Int) := ⟨_, rfl⟩
    rw [← hx]
    unfold checkF
    rw [← hx]
    by_cases h1 : (x.f0.size : Int) < 1
    · refine Ev.if_pos' h1 ?_
      have : oneV l x = 2 := by unfold oneV; rw [if_pos (.inl (by omega))]
      rw [this, if_neg (by decide)]
      exact Ev.step (fun k => by rw [stemma_Check.j1]) (Ev.if_pos' rfl (Ev.now _))
    · refine Ev.if_neg' h1 ?_
      by_cases h8 : (x.f0.size : Int) > 8
      · have : oneV l x = 2 := by unfold oneV; rw [if_pos (.inr (by omega))]
        rw [this, if_neg (by decide), show decide ((x.f0.size : Int) > 8) = true from decide_eq_true h8]
        exact Ev.step (fun k => by rw [stemma_Check.j1]) (Ev.if_pos' rfl (Ev.now _))
      · rw [show decide ((x.f0.size : Int) > 8) = false from decide_eq_false h8]
        refine Ev.step (fun k => by rw [stemma_Check.j1]) (Ev.if_neg' (by decide) ?_)
        have h := check_l1 l i (by omega) hl x (by omega) _ hR x.f0.size 0 (by omega) (fun j hj => by omega)
        have e : (if oneV l x = 0 then checkF l rem (i + 1) else oneV l x) = (if goodText x.f0 = false then 2 else if x.f0.size ≠ (rd_T25 l 0).f0.size then 2 else if x.f1 < 0 then 1 else if 3 < x.f1 then 1 else checkF l rem (i + 1)) := by
          unfold oneV
          rw [if_neg (show ¬ (x.f0.size < 1 ∨ 8 < x.f0.size) by omega)]
          split
          · simp
          · split
            · simp
            · split
              · simp
              · split <;> simp
        rw [e]
        simpa using h
theorem check_ev (l : List S25) : Ev (fun k => stemma_Check.f k l) (checkV l) := by
  unfold stemma_Check.f checkV
  by_cases h0 : l.length = 0
  · rw [if_pos h0]
    exact Ev.if_pos' (by omega) (Ev.now _)
  · rw [if_neg h0]
    refine Ev.if_neg' (by omega) ?_
    by_cases h5 : 5 < l.length
    · rw [if_pos h5]
      exact Ev.if_pos' (by omega) (Ev.now _)
    · rw [if_neg h5]
      refine Ev.if_neg' (by omega) ?_
      simpa using check_l0 l (by omega) l.length 0 (by omega)
structure Valid (l : List S25) : Prop where
  one : 1 ≤ l.length
  five : l.length ≤ 5
  size : ∀ i : Nat, i < l.length → (rd_T25 l (i : Int)).f0.size = (rd_T25 l 0).f0.size
  low : 1 ≤ (rd_T25 l 0).f0.size
  high : (rd_T25 l 0).f0.size ≤ 8
  err : ∀ i : Nat, i < l.length → 0 ≤ (rd_T25 l (i : Int)).f1 ∧ (rd_T25 l (i : Int)).f1 ≤ 3
  good : ∀ i : Nat, i < l.length → ∀ p, p < (rd_T25 l 0).f0.size → 65 ≤ bt (rd_T25 l (i : Int)).f0 (p : Int) ∧ bt (rd_T25 l (i : Int)).f0 (p : Int) ≤ 90
theorem oneV_zero {l : List S25} {x : S25} (h : oneV l x = 0) : (1 ≤ x.f0.size ∧ x.f0.size ≤ 8) ∧ goodText x.f0 = true ∧ x.f0.size = (rd_T25 l 0).f0.size ∧ 0 ≤ x.f1 ∧ x.f1 ≤ 3 := by
  unfold oneV at h
  split at h
  · cases h
  · split at h
    · cases h
    · split at h
      · cases h
      · split at h
        · cases h
        · split at h
          · cases h
          · rename_i a b c d e
            refine ⟨by omega, by simpa using b, by simpa using c, by omega, by omega⟩
theorem checkF_zero {l : List S25} : ∀ (rem i : Nat), checkF l rem i = 0 → ∀ j, i ≤ j → j < i + rem → oneV l (rd_T25 l (j : Int)) = 0 := by
  intro rem
  induction rem with
  | zero => intro i _ j h1 h2; omega
  | succ rem ih =>
    intro i h j h1 h2
    unfold checkF at h
    split at h
    · rename_i h0
      by_cases e : j = i
      · subst e; exact h0
      · exact ih (i + 1) h j (by omega) (by omega)
    · rename_i h0
      exact absurd h h0
theorem valid_of_check {l : List S25} (h : checkV l = 0) : Valid l := by
  unfold checkV at h
  split at h
  · cases h
  · split at h
    · cases h
    · rename_i h0 h5
      have hz := fun j (hj : j < l.length) => oneV_zero (checkF_zero l.length 0 h j (by omega) (by omega))
      have hz0 := hz 0 (by omega)
      refine ⟨by omega, by omega, fun i hi => (hz i hi).2.2.1, hz0.1.1, hz0.1.2, fun i hi => (hz i hi).2.2.2, fun i hi p hp => ?_⟩
      have h2 := (hz i hi).2.1
      unfold goodText at h2
      rw [List.all_eq_true] at h2
      have h3 := h2 p (List.mem_range.2 (by rw [(hz i hi).2.2.1]; exact hp))
      simpa [goodAt] using h3
end Go.Proofs.YtecdjnabmjhakaaDoor.P.OwnSt
namespace Go.Proofs.YtecdjnabmjhakaaDoor.P.OwnSt
open Go.RowKit Go.Shelf Go.Proofs.YtecdjnabmjhakaaDoorW.PrintWords Go.Proofs.YtecdjnabmjhakaaDoorW.PrintLast Go.Proofs.YtecdjnabmjhakaaDoorW.PrintMore
set_option linter.unusedVariables false
set_option linter.unusedSimpArgs false
def knownE (l : List S25) : Int := if checkV l ≠ 0 then checkV l else if knownV l = [] then 9 else 0
theorem knownE_zero {l : List S25} (h : knownE l = 0) : checkV l = 0 ∧ knownV l ≠ [] := by
  unfold knownE at h
  split at h
  · rename_i h1
    exact absurd h h1
  · rename_i h1
    split at h
    · cases h
    · rename_i h2
      exact ⟨by simpa using h1, h2⟩
theorem known_len (l : List S25) (h5 : l.length ≤ 5) : (knownV l).length < 10000 := by
  have h10 := List.length_filter_le (liesB l) (treesG l l.length 0 (fun _ => 0))
  have h11 := treesG_len l l.length 0 (fun _ => 0) (by omega)
  have h12 : 6 ^ l.length ≤ 6 ^ 5 := Nat.pow_le_pow_right (by decide) h5
  unfold knownV
  omega
theorem known_ok (A : Option Addr) (c : Nat) (l : List S25) (w : World) (hr : Kd.C k25 w A l.length l) (hc : l.length ≤ c) (h : knownE l = 0) :
    Calls Tryd.prog 24 #[.slice A l.length c] w fun e w' => ∃ gv cv, e = .returned (.tuple #[.slice (some ⟨gv, 0, none⟩) (knownV l).length cv, .int .i64 0]) ∧ Below w.heap.size w w' ∧
      w'.ownsRow w.heap.size 63 6 (.slice (some ⟨gv, 0, none⟩) (knownV l).length cv) (knownV l).length (lostRow A l.length c (knownV l)) := by
  obtain ⟨h1, h2⟩ := knownE_zero h
  have hv := valid_of_check h1
  obtain ⟨k, hk⟩ := (check_ev l).rounds
  rw [h1] at hk
  refine (known_calls A c l w hr hc k hk hv.one hv.five hv.size hv.high (fun i hi => ⟨(hv.err i hi).1, by have := (hv.err i hi).2; omega⟩)).mono ?_
  rintro e w' ⟨hB, hcase⟩
  rcases hcase with ⟨h3, _⟩ | ⟨_, v, rfl, hown⟩
  · exact absurd h3 h2
  · rcases hown.2 with ⟨_, h3⟩ | ⟨g, cap, cur, rfl, _⟩
    · exact absurd (List.eq_nil_of_length_eq_zero h3) h2
    · exact ⟨g, cap, rfl, hB, hown⟩
set_option maxHeartbeats 1000000 in
theorem known_err (A : Option Addr) (c : Nat) (l : List S25) (w : World) (hr : Kd.C k25 w A l.length l) (hc : l.length ≤ c) (h : knownE l ≠ 0) :
    Calls Tryd.prog 24 #[.slice A l.length c] w fun e w' => e = .returned (.tuple #[.slice none 0 0, .int .i64 (knownE l)]) ∧ Below w.heap.size w w' := by
  obtain ⟨k, hk⟩ := (check_ev l).rounds
  by_cases h1 : checkV l = 0
  · have hv := valid_of_check h1
    rw [h1] at hk
    refine (known_calls A c l w hr hc k hk hv.one hv.five hv.size hv.high (fun i hi => ⟨(hv.err i hi).1, by have := (hv.err i hi).2; omega⟩)).mono ?_
    rintro e w' ⟨hB, hcase⟩
    rcases hcase with ⟨h3, rfl⟩ | ⟨h2, _⟩
    · refine ⟨?_, hB⟩
      unfold knownE
      rw [if_neg (by simpa using h1), if_pos h3]
    · refine absurd ?_ h
      unfold knownE
      rw [if_neg (by simpa using h1), if_neg h2]
  · obtain ⟨e0, he0⟩ : ∃ e0, e0 = checkV l := ⟨_, rfl⟩
    have hE : knownE l = e0 := by unfold knownE; rw [if_pos h1, he0]
    rw [← he0] at hk h1
    rw [hE]
    have HR := Aside0.mk hr
    have HK := Aside0.mk hk
    have b1 : (e0 != 0) = true := bne_iff_ne.2 h1
    clear hr hk h hE he0 h1
    have hlb := (show (w.alloc (.cells #[.slice A l.length c] 22)).heap[w.heap.size]? = some (.cells #[.slice A l.length c] 22 (0, 0)) from blk_new w _)
    have h22 := (blk_cell hlb 0).trans (show (#[Value.slice A l.length c] : Array Value)[0]? = some _ from rfl)
    clear hlb
    go_enter Tryd.func24, Tryd.ntmps24
    go_wp2_with (first | (go_at_call 8; refine (stemma_Check.calls k A c l e0 _ (Kd.C_below HR.out ((Below.refl _ _).alloc (Nat.le_refl _) _)) hc HK.out).mono ?_; rintro e w2 ⟨rfl, hd2⟩; have HD := Aside0.mk (((Below.refl w.heap.size w).alloc (Nat.le_refl _) (.cells #[.slice A l.length c] 22)).trans (hd2.mono (by simp))); clear hd2))
    exact bodyPost_ret (results_tmp2 rfl _ _ _) rfl ⟨rfl, HD.out⟩
theorem ask60_calls (A : Option Addr) (n c : Nat) (s : Nat → Int) (bi bf i : Nat) (f : Int) (w : World) (hi : i < 5) (hbi : w.heap[bi]? = some (.cells #[.int .i64 (i : Int)] 3 (0, 0))) (hbf : w.heap[bf]? = some (.cells #[.int .i64 f] 3 (0, 0))) :
    Calls Tryd.prog 25 #[lostV A n c s, .pointer (some ⟨bi, 0, none⟩), .pointer (some ⟨bf, 0, none⟩)] w fun e w' => e = .returned (.bool (s i == f)) ∧ Below w.heap.size w w' := by
  have HX := (show LostAt (w.alloc (.cells #[.slice A n c, .int .i64 (s 0), .int .i64 (s 1), .int .i64 (s 2), .int .i64 (s 3), .int .i64 (s 4)] 63)) w.heap.size A n c s from blk_new w _)
  have hx := HX.src i hi
  have hxl := blk_lt HX
  have h1 := (blk_cell (blk_alloc hbi (.cells #[.slice A n c, .int .i64 (s 0), .int .i64 (s 1), .int .i64 (s 2), .int .i64 (s 3), .int .i64 (s 4)] 63)) 0).trans (show (#[Value.int .i64 (i : Int)] : Array Value)[0]? = some _ from rfl)
  have h2 := (blk_cell (blk_alloc hbf (.cells #[.slice A n c, .int .i64 (s 0), .int .i64 (s 1), .int .i64 (s 2), .int .i64 (s 3), .int .i64 (s 4)] 63)) 0).trans (show (#[Value.int .i64 f] : Array Value)[0]? = some _ from rfl)
  have HB := Aside0.mk ((Below.refl w.heap.size w).alloc (Nat.le_refl _) (.cells #[.slice A n c, .int .i64 (s 0), .int .i64 (s 1), .int .i64 (s 2), .int .i64 (s 3), .int .i64 (s 4)] 63))
  have hmix : Tryd.prog.follows Departure.mixedOrders = true := by kernel_rfl
  clear HX hbi hbf
  unfold lostV
  go_enter Tryd.func25, Tryd.ntmps25
  go_wp2_with fail
  obtain ⟨b0, hb0⟩ : ∃ b0, b0 = w.heap.size := ⟨_, rfl⟩
  rw [← hb0] at hx ⊢
  refine wp_gen (fun wx => wx.cell? ⟨b0, 1 + i, none⟩ = some (.int .i64 (s i)) ∧ wx.cell? ⟨bi, 0, none⟩ = some (.int .i64 (i : Int)) ∧ wx.cell? ⟨bf, 0, none⟩ = some (.int .i64 f) ∧ Aside0 (Below w.heap.size w wx)) ⟨hx, h1, h2, HB⟩ ?_
  clear hx hxl h1 h2 HB hb0
  rintro wx ⟨hx, h1, h2, HB⟩
  go_quiet (fail)
  go_wp2_with fail
  exact bodyPost_ret (results_tmp rfl _ _ _) rfl ⟨rfl, pw_below_drewN HB.out nq⟩
def climb (s : Nat → Int) (b : Int) : Nat → Int → Int
  | 0, x => x
  | f + 1, x => if b < x then climb s b f (s x.toNat) else x
theorem climb_stop (s : Nat → Int) (b : Int) (f : Nat) (x : Int) (h : ¬ b < x) : climb s b f x = x := by
  cases f with
  | zero => rfl
  | succ f => rw [climb, if_neg h]
def dependB (s : Nat → Int) (a b : Nat) : Bool := climb s (b : Int) 5 (s a) == (b : Int)
set_option maxHeartbeats 1000000 in
theorem ask64_calls (A : Option Addr) (n c : Nat) (s : Nat → Int) (ba bb a b : Nat) (w : World) (ha : a < 5) (hs : ∀ i, i < 5 → -1 ≤ s i ∧ (s i < i ∨ s i = 0)) (ha1 : s a < a) (hba : w.heap[ba]? = some (.cells #[.int .i64 (a : Int)] 3 (0, 0))) (hbb : w.heap[bb]? = some (.cells #[.int .i64 (b : Int)] 3 (0, 0))) :
    Calls Tryd.prog 28 #[lostV A n c s, .pointer (some ⟨ba, 0, none⟩), .pointer (some ⟨bb, 0, none⟩)] w fun e w' => e = .returned (.bool (dependB s a b)) ∧ Below w.heap.size w w' := by
  have HX := (show LostAt (w.alloc (.cells #[.slice A n c, .int .i64 (s 0), .int .i64 (s 1), .int .i64 (s 2), .int .i64 (s 3), .int .i64 (s 4)] 63)) w.heap.size A n c s from blk_new w _)
  have h1 := (blk_cell (blk_alloc hba (.cells #[.slice A n c, .int .i64 (s 0), .int .i64 (s 1), .int .i64 (s 2), .int .i64 (s 3), .int .i64 (s 4)] 63)) 0).trans (show (#[Value.int .i64 (a : Int)] : Array Value)[0]? = some _ from rfl)
  have h2 := (blk_cell (blk_alloc hbb (.cells #[.slice A n c, .int .i64 (s 0), .int .i64 (s 1), .int .i64 (s 2), .int .i64 (s 3), .int .i64 (s 4)] 63)) 0).trans (show (#[Value.int .i64 (b : Int)] : Array Value)[0]? = some _ from rfl)
  have HX' := Aside0.mk HX
  have HB := Aside0.mk ((Below.refl w.heap.size w).alloc (Nat.le_refl _) (.cells #[.slice A n c, .int .i64 (s 0), .int .i64 (s 1), .int .i64 (s 2), .int .i64 (s 3), .int .i64 (s 4)] 63))
  have HS := Aside0.mk hs
  have hmix : Tryd.prog.follows Departure.mixedOrders = true := by kernel_rfl
  clear HX hba hbb hs
  unfold lostV
  go_enter Tryd.func28, Tryd.ntmps28
  go_upto_region 1 with fail
  obtain ⟨b0, hb0⟩ : ∃ b0, b0 = w.heap.size := ⟨_, rfl⟩
  rw [← hb0] at HX' ⊢
  refine wp_gen (fun wx => Aside0 (LostAt wx b0 A n c s) ∧ wx.cell? ⟨ba, 0, none⟩ = some (.int .i64 (a : Int)) ∧ wx.cell? ⟨bb, 0, none⟩ = some (.int .i64 (b : Int)) ∧ Aside0 (Below w.heap.size w wx)) ⟨HX', h1, h2, HB⟩ ?_
  clear HX' h1 h2 HB hb0
  rintro wx ⟨HX, h1, h2, HB⟩
  have hx := HX.out.src a ha
  obtain ⟨T, hT⟩ : ∃ T, T = climb s (b : Int) 5 (s a) := ⟨_, rfl⟩
  have HT := Aside0.mk hT
  have HA1 := Aside0.mk ha1
  clear hT ha1
  go_wp2_with fail
  go_loopg [5] 5 (fun k s5 wr => ∃ x : Int, s5 = .int .i64 x ∧ Aside0 (-1 ≤ x ∧ x < k ∧ x < 5 ∧ climb s (b : Int) k x = T) ∧ wr = wx)
  case atStart => exact ⟨s a, rfl, ⟨(HS.out a ha).1, by have := HA1.out; omega, by have := HA1.out; omega, HT.out.symm⟩, rfl⟩
  case round =>
    obtain ⟨x, rfl, HC, rfl⟩ := hrel
    clear hx
    by_cases hbx : (b : Int) < x
    · have hx0 : 0 ≤ x := by omega
      have hx5 : x < 5 := HC.out.2.2.1
      have hy := HX.out.src x.toNat (by omega)
      go_wp2_with fail
      go_roundg (gk - 1)
      case measure => have := HC.out; omega
      case rel =>
        have hc := HC.out
        have h6 := HS.out x.toNat (by omega)
        refine ⟨s x.toNat, rfl, ⟨h6.1, by omega, by omega, ?_⟩, rfl⟩
        obtain ⟨m, hm⟩ : ∃ m, gk = m + 1 := ⟨gk - 1, by omega⟩
        rw [hm] at hc ⊢
        have h7 := hc.2.2.2
        rw [climb, if_pos hbx] at h7
        simpa using h7
    · have hst := climb_stop s (b : Int) gk x hbx
      have HST := Aside0.mk hst
      clear hst
      go_wp2_with fail
      refine bodyPost_ret (results_tmp rfl _ _ _) rfl ⟨?_, HB.out⟩
      unfold dependB
      rw [← HT.out, ← HC.out.2.2.2, HST.out]
      rfl
end Go.Proofs.YtecdjnabmjhakaaDoor.P.OwnSt
namespace Go.Proofs.YtecdjnabmjhakaaDoor.P
open Go.RowKit Go.Proofs.YtecdjnabmjhakaaDoorW.PrintWords Go.Proofs.YtecdjnabmjhakaaDoorW.PrintLast Go.Proofs.YtecdjnabmjhakaaDoorW.PrintMore
attribute [local go_sem] max2_int min2_int max_two min_two max_three min_three max_four min_four   -- for this text's walks alone
set_option linter.unusedVariables false
set_option linter.unusedSimpArgs false
def stemma_letters_has.f (a0 : Int) (a1 : Int) : Option (Bool) := some ((Go.bits .and .u32 (shr .u32 a0 ((a1 - 65) % 256)) 1) == 1)
set_option maxHeartbeats 8000000 in
set_option maxRecDepth 100000 in
theorem stemma_letters_has.calls (a0 : Int) (a1 : Int) (r : Bool) (w : World) (h : stemma_letters_has.f a0 a1 = some r) :
    Calls Tryd.prog 30 #[.int .u32 a0, .int .u8 a1] w fun e w' => e = .returned (.bool r) ∧ Drawn0 w w' := by
  have H : (some ((Go.bits .and .u32 (shr .u32 a0 ((a1 - 65) % 256)) 1) == 1)) = some r := h
  clear h
  obtain ⟨ji3, hji3⟩ : ∃ j_ : Int, (shr .u32 a0 ((a1 - 65) % 256)) = j_ := ⟨_, rfl⟩
  replace H : (some ((Go.bits .and .u32 (ji3) 1) == 1)) = some r := by first | (rw [hji3] at H; exact H) | (simp only [hji3] at H ⊢; exact H)
  have hji3_ : (a0 / 2 ^ min ((a1 - 65) % 256).toNat 32) = ji3 := hji3
  have hji3z : ((a1 - 65) % 256) ≤ 32 → (a0 / 2 ^ ((a1 - 65) % 256).toNat) = ji3 := shr_small hji3
  obtain rfl := Option.some.inj H
  go_enter Tryd.func30, Tryd.ntmps30
  go_wp2
  go_ret
  exact ⟨by first | rfl | (simp; done) | (simp only [OFix.ne_nil_b]; done) | (simp only [← hji3, OFix.ne_nil_b]; done) | (simp only [← hji3] <;> (first | rfl | simp)) | (simp [*]; done), by repeat (first | exact Drawn0.refl _ | apply Drawn0.step)⟩
end Go.Proofs.YtecdjnabmjhakaaDoor.P
namespace Go.Proofs.YtecdjnabmjhakaaDoor.P
open Go.RowKit Go.Proofs.YtecdjnabmjhakaaDoorW.PrintWords Go.Proofs.YtecdjnabmjhakaaDoorW.PrintLast Go.Proofs.YtecdjnabmjhakaaDoorW.PrintMore
attribute [local go_sem] max2_int min2_int max_two min_two max_three min_three max_four min_four   -- for this text's walks alone
set_option linter.unusedVariables false
set_option linter.unusedSimpArgs false
def stemma_letters_String.l0 : Nat → Int → List Int → Int → Option (ByteArray)
  | 0, _, _, _ => none
  | k + 1, x0, x3, x4 => if x4 ≤ 90 then ((stemma_letters_has.f x0 x4).bind fun t112 => (if t112 = true then (if x3.length < 140737488355328 then (stemma_letters_String.l0 k x0 (x3 ++ [x4]) ((x4 + 1) % 256)) else (none)) else (stemma_letters_String.l0 k x0 x3 ((x4 + 1) % 256)))) else (some (strOfNums x3))
def stemma_letters_String.f (k : Nat) (a0 : Int) : Option (ByteArray) := stemma_letters_String.l0 k a0 ([] : List Int) 65
set_option maxHeartbeats 8000000 in
set_option maxRecDepth 100000 in
theorem stemma_letters_String.calls (k : Nat) (a0 : Int) (r : ByteArray) (w : World) (h : stemma_letters_String.f k a0 = some r) :
    Calls Tryd.prog 33 #[.int .u32 a0] w fun e w' => e = .returned (.string r) ∧ Below w.heap.size w w' := by
  have HB := Aside0.mk (Below.refl w.heap.size w)
  have H : (stemma_letters_String.l0 k a0 ([] : List Int) 65) = some r := h
  clear h
  have H' := Aside0.mk H
  clear H
  go_enter Tryd.func33, Tryd.ntmps33
  go_wp2
  go_loopg [3, 4] k (fun kq v3 v4 w' => ∃ (x3_1 : List Int) (x4_1 : Int), v4 = .int .u8 x4_1 ∧ Aside0 (stemma_letters_String.l0 kq a0 x3_1 x4_1 = some r) ∧ Aside0 (kq ≤ k) ∧ Aside0 (Kd.R (Kd.int .u8) 5 w' w.heap.size (fun _ => True) v3 x3_1) ∧ Aside0 (Below w.heap.size w w'))
  case atStart => exact ⟨(([] : List Int)), (65), (by first | rfl | (simp; done) | (simp [*]; done)), H', ⟨Nat.le_refl _⟩, ⟨by first | exact Kd.R_nil _ _ _ _ _ | exact Kd.N_nil _ _ _ _ _ | exact Kd.V_nil _ _ _ _ _ | exact Kd.Q_nil _ _ _ _ _ | exact Kd.S_nil _ _ _ _ _⟩, ⟨by repeat (first | (with_reducible first | exact HB.out | apply below_alloc | apply pw_below_drewN | apply below_drew1) | exact HB.out)⟩⟩
  case round =>
    clear H'
    obtain ⟨x3_1, x4_1, rfl, HA, HK1, HO_3, HB⟩ := hrel
    cases gk with
    | zero => exact absurd HA.out (by simp [stemma_letters_String.l0])
    | succ k1 =>
      have H := HA.out
      clear HA
      simp only [stemma_letters_String.l0] at H
      by_cases c2 : x4_1 ≤ 90
      · rw [if_pos c2] at H
        have c2b0 : decide (x4_1 ≤ 90) = true := decide_eq_true c2
        clear c2
        replace H := Option.bind_eq_some_iff.mp H
        obtain ⟨t112, A30, H⟩ := H
        replace H : (if t112 = true then (if x3_1.length < 140737488355328 then (stemma_letters_String.l0 k1 a0 (x3_1 ++ [x4_1]) ((x4_1 + 1) % 256)) else (none)) else (stemma_letters_String.l0 k1 a0 x3_1 ((x4_1 + 1) % 256))) = some r := H
        have A3 := Aside0.mk A30
        clear A30
        by_cases c4 : t112 = true
        · subst c4
          have H1 : (if x3_1.length < 140737488355328 then (stemma_letters_String.l0 k1 a0 (x3_1 ++ [x4_1]) ((x4_1 + 1) % 256)) else (none)) = some r := by rw [if_pos rfl] at H; exact H
          clear H
          have H := H1
          clear H1
          by_cases c5 : x3_1.length < 140737488355328
          · rw [if_pos c5] at H
            have LMc5 := Aside0.mk c5
            clear c5
            obtain ⟨y113, hy113⟩ : ∃ y_ : List Int, y_ = (x3_1 ++ [x4_1]) := ⟨_, rfl⟩
            replace H : (stemma_letters_String.l0 k1 a0 y113 ((x4_1 + 1) % 256)) = some r := by first | (rw [hy113]; with_reducible exact H) | (have H2_ := (Option.bind_some _ _).symm.trans H; rw [hy113]; with_reducible exact H2_) | (have H2_ := (Option.bind_some _ _).symm.trans H; with_reducible exact H2_) | with_reducible exact H | (rw [hy113]; exact H) | exact H
            have Ny113 := Aside0.mk hy113
            clear hy113
            have H' := Aside0.mk H
            clear H
            go_wp2_with (first | ((with_reducible refine gate_callee (f := 30) rfl ?_); refine goesL_ (some 11) rfl rfl Tryd.func30 (by kernel_rfl) rfl #[.int .u32 a0, .int .u8 x4_1] rfl (by (try simp only [List.map_toArray, List.map_cons, List.map_nil]); first | done | rfl | (simp only [List.length_drop, List.length_take]; rfl)) ?_; (with_reducible refine (stemma_letters_has.calls a0 x4_1 true _ A3.out).mono ?_); rintro e w' ⟨rfl, ⟨nd, rfl⟩⟩; refine ⟨_, rfl, ?_⟩) | ((with_reducible refine gate_builtin (b := .append) (xs := #[.tmp 12, .tmp 14]) rfl ?_); at_builtin; refine Kd.R_append (Kd.int .u8) (w0 := w) w.heap.size rfl (.tmp 12) (.tmp 14) 82 5 (.int .u8 0) 1 rfl Tryd.underlying82 info5 rfl (by decide) (by omega) u3 x3_1 x4_1 [.int .u8 x4_1] (fun _ => True) (fun _ => False) rfl rfl ?aP (fun _ hk => hk.elim) ?aF ?aO ?aB ?aS ?aL ?_; (case aP => exact rfl); (case aB => exact (by repeat (first | (with_reducible first | exact HB.out | apply below_alloc | apply pw_below_drewN | apply below_drew1) | exact HB.out))); (case aF => exact (fun _ _ => trivial)); (case aO => exact (by (with_reducible repeat (first | apply Kd.R_alloc | apply Kd.R_drewN | apply Kd.R_drew)); exact HO_3.out)); (case aS => exact (below_size (by repeat (first | (with_reducible first | exact HB.out | apply below_alloc | apply pw_below_drewN | apply below_drew1) | exact HB.out)))); (case aL => have := LMc5.out; omega); intro v114 w6 ho hb hg hat; rw [← Ny113.out] at ho; have n0_ := Aside0.mk (hb); have n1_ := Aside0.mk (ho); clear HB; clear HO_3; have HB := n0_; have HO115 := n1_; clear n0_ n1_; clear ho hb hg hat))
            go_roundg k1
            case measure => have := HK1.out; omega
            case rel => exact ⟨(y113), ((x4_1 + 1) % 256), (by first | rfl | (simp; done) | (simp [*]; done)), H', ⟨by have := HK1.out; omega⟩, ⟨by (with_reducible repeat (first | apply Kd.R_alloc | apply Kd.R_drewN | apply Kd.R_drew)); exact HO115.out⟩, ⟨by repeat (first | (with_reducible first | exact HB.out | apply below_alloc | apply pw_below_drewN | apply below_drew1) | exact HB.out)⟩⟩
          · rw [if_neg c5] at H
            exact absurd H (by simp)
        · replace c4 := Bool.eq_false_iff.mpr c4
          subst c4
          have H1 : (stemma_letters_String.l0 k1 a0 x3_1 ((x4_1 + 1) % 256)) = some r := by rw [if_neg (show ¬ (false = true) by decide)] at H; exact H
          clear H
          have H := H1
          clear H1
          have H' := Aside0.mk H
          clear H
          go_wp2_with (first | ((with_reducible refine gate_callee (f := 30) rfl ?_); refine goesL_ (some 11) rfl rfl Tryd.func30 (by kernel_rfl) rfl #[.int .u32 a0, .int .u8 x4_1] rfl (by (try simp only [List.map_toArray, List.map_cons, List.map_nil]); first | done | rfl | (simp only [List.length_drop, List.length_take]; rfl)) ?_; (with_reducible refine (stemma_letters_has.calls a0 x4_1 false _ A3.out).mono ?_); rintro e w' ⟨rfl, ⟨nd, rfl⟩⟩; refine ⟨_, rfl, ?_⟩))
          go_roundg k1
          case measure => have := HK1.out; omega
          case rel => exact ⟨(x3_1), ((x4_1 + 1) % 256), (by first | rfl | (simp; done) | (simp [*]; done)), H', ⟨by have := HK1.out; omega⟩, ⟨by (with_reducible repeat (first | apply Kd.R_alloc | apply Kd.R_drewN | apply Kd.R_drew)); exact HO_3.out⟩, ⟨by repeat (first | (with_reducible first | exact HB.out | apply below_alloc | apply pw_below_drewN | apply below_drew1) | exact HB.out)⟩⟩
      · rw [if_neg c2] at H
        have c2b0 : decide (x4_1 ≤ 90) = false := decide_eq_false c2
        clear c2
        obtain rfl := Option.some.inj H
        have hcv7 := own_string (P := Tryd.prog) Tryd.underlying82 Tryd.underlying5 Tryd.underlying9 (Kd.own_of_R HO_3.out)
        go_wp2
        go_ret
        exact ⟨by first | rfl | (simp [errW_none, errW_some] <;> rfl) | (simp [*, errW_none, errW_some] <;> rfl), by repeat (first | (with_reducible first | exact HB.out | apply below_alloc | apply pw_below_drewN | apply below_drew1) | exact HB.out)⟩
end Go.Proofs.YtecdjnabmjhakaaDoor.P
namespace Go.Proofs.YtecdjnabmjhakaaDoor.P
open Go.RowKit Go.Proofs.YtecdjnabmjhakaaDoorW.PrintWords Go.Proofs.YtecdjnabmjhakaaDoorW.PrintLast Go.Proofs.YtecdjnabmjhakaaDoorW.PrintMore
attribute [local go_sem] max2_int min2_int max_two min_two max_three min_three max_four min_four   -- for this text's walks alone
set_option linter.unusedVariables false
set_option linter.unusedSimpArgs false
def stemma_letters_with.f (a0 : Int) (a1 : Int) : Option (Int) := some (Go.bits .or .u32 a0 (shl .u32 1 ((a1 - 65) % 256)))
set_option maxHeartbeats 8000000 in
set_option maxRecDepth 100000 in
theorem stemma_letters_with.calls (a0 : Int) (a1 : Int) (r : Int) (w : World) (h : stemma_letters_with.f a0 a1 = some r) :
    Calls Tryd.prog 32 #[.int .u32 a0, .int .u8 a1] w fun e w' => e = .returned (.int .u32 r) ∧ Drawn0 w w' := by
  have H : (some (Go.bits .or .u32 a0 (shl .u32 1 ((a1 - 65) % 256)))) = some r := h
  clear h
  obtain ⟨ji3, hji3⟩ : ∃ j_ : Int, (shl .u32 1 ((a1 - 65) % 256)) = j_ := ⟨_, rfl⟩
  replace H : (some (Go.bits .or .u32 a0 (ji3))) = some r := by first | (rw [hji3] at H; exact H) | (simp only [hji3] at H ⊢; exact H)
  have hji3_ : (IntKind.u32.wrap (1 * 2 ^ min ((a1 - 65) % 256).toNat 32)) = ji3 := hji3
  have hji3z : ((a1 - 65) % 256) ≤ 32 → (IntKind.u32.wrap (1 * 2 ^ ((a1 - 65) % 256).toNat)) = ji3 := shl_small hji3
  have hji3u : (IntKind.u32.wrap (2 ^ min ((a1 - 65) % 256).toNat 32)) = ji3 := by have h_ := hji3_; rw [Int.one_mul] at h_; exact h_
  have hji3v : ((a1 - 65) % 256) ≤ 32 → (IntKind.u32.wrap (2 ^ ((a1 - 65) % 256).toNat)) = ji3 := fun hle_ => by have h_ := hji3z hle_; rw [Int.one_mul] at h_; exact h_
  obtain rfl := Option.some.inj H
  go_enter Tryd.func32, Tryd.ntmps32
  go_wp2
  go_ret
  exact ⟨by first | rfl | (simp; done) | (simp only [OFix.ne_nil_b]; done) | (simp only [← hji3, OFix.ne_nil_b]; done) | (simp only [← hji3] <;> (first | rfl | simp)) | (simp [*]; done), by repeat (first | exact Drawn0.refl _ | apply Drawn0.step)⟩
end Go.Proofs.YtecdjnabmjhakaaDoor.P
namespace Go.Proofs.YtecdjnabmjhakaaDoor.P.OwnSt
open Go.RowKit Go.Proofs.YtecdjnabmjhakaaDoorW.PrintWords Go.Proofs.YtecdjnabmjhakaaDoorW.PrintLast Go.Proofs.YtecdjnabmjhakaaDoorW.PrintMore
set_option linter.unusedVariables false
set_option linter.unusedSimpArgs false
def IsMask (m : Int) (M : Nat → Bool) : Prop := ∃ n : Nat, m = (n : Int) ∧ n < 2 ^ 26 ∧ ∀ j, n.testBit j = (decide (j < 26) && M j)
theorem isMask_zero : IsMask 0 (fun _ => false) := ⟨0, rfl, by decide, fun j => by simp⟩
theorem wraps_u32 (n : Int) (h₀ : 0 ≤ n) (h₁ : n < 2 ^ 32) : IntKind.u32.wrap n = n := by rw [IntKind.wrap_u32]; omega
theorem mask_has {m : Int} {M : Nat → Bool} (h : IsMask m M) (j : Nat) (hj : j < 26) : stemma_letters_has.f m (65 + (j : Int)) = some (M j) := by
  obtain ⟨n, rfl, hn, hb⟩ := h
  unfold stemma_letters_has.f shr
  rw [show (65 + (j : Int) - 65) % 256 = (j : Int) by omega, Int.toNat_natCast, Nat.min_eq_left (by simp [IntKind.bits]; omega)]
  have e1 : ((n : Int) / 2 ^ j) = ((n >>> j : Nat) : Int) := by rw [Nat.shiftRight_eq_div_pow]; simp
  have hlt : n >>> j < 2 ^ 26 := by rw [Nat.shiftRight_eq_div_pow]; exact Nat.lt_of_le_of_lt (Nat.div_le_self _ _) hn
  rw [e1]
  have e2 := (bits_nat .u32 32 (by decide) wraps_u32 (n >>> j) 1 (by omega) (by decide)).1
  rw [show ((1 : Int)) = ((1 : Nat) : Int) from rfl, e2]
  have h3 := hb j
  rw [show decide (j < 26) = true from decide_eq_true hj, Bool.true_and] at h3
  rw [← h3]
  unfold Nat.testBit
  congr 1
  have h4 : (n >>> j) &&& 1 = 0 ∨ (n >>> j) &&& 1 = 1 := by
    rw [Nat.and_one_is_mod]
    omega
  rw [Nat.and_comm 1]
  rcases h4 with h4 | h4 <;> rw [h4] <;> rfl
theorem mask_with {m : Int} {M : Nat → Bool} (h : IsMask m M) (j : Nat) (hj : j < 26) : ∃ m', stemma_letters_with.f m (65 + (j : Int)) = some m' ∧ IsMask m' (fun i => M i || i == j) := by
  obtain ⟨n, rfl, hn, hb⟩ := h
  unfold stemma_letters_with.f shl
  rw [show (65 + (j : Int) - 65) % 256 = (j : Int) by omega, Int.toNat_natCast, Nat.min_eq_left (by simp [IntKind.bits]; omega)]
  have hp : (2 : Nat) ^ j < 2 ^ 26 := Nat.pow_lt_pow_right (by decide) hj
  have e1 : (1 : Int) * 2 ^ j = ((2 ^ j : Nat) : Int) := by simp
  have hp2 : ((2 ^ j : Nat) : Int) < 2 ^ 32 := by
    have : ((2 ^ j : Nat) : Int) < ((2 ^ 26 : Nat) : Int) := by exact_mod_cast hp
    omega
  rw [e1, wraps_u32 _ (Int.natCast_nonneg _) hp2]
  have e2 := (bits_nat .u32 32 (by decide) wraps_u32 n (2 ^ j) (by omega) (by omega)).2
  rw [e2]
  refine ⟨_, rfl, n ||| 2 ^ j, rfl, Nat.or_lt_two_pow hn hp, fun i => ?_⟩
  rw [Nat.testBit_or, hb i, Nat.testBit_two_pow]
  by_cases e : j = i
  · subst e
    simp [hj]
  · by_cases hi : i < 26
    · simp [hi, e, show ¬ i = j from fun h => e h.symm]
    · simp [hi, e]
def maskLetters (M : Nat → Bool) (k : Nat) : List Int := ((List.range k).filter M).map fun (j : Nat) => 65 + (j : Int)
theorem mask_string_l0 {m : Int} {M : Nat → Bool} (h : IsMask m M) : ∀ (rem j : Nat), j + rem = 26 → Ev (fun k => stemma_letters_String.l0 k m (maskLetters M j) (65 + (j : Int))) (strOfNums (maskLetters M 26)) := by
  intro rem
  induction rem with
  | zero =>
    intro j hj
    refine Ev.step (fun k => by rw [stemma_letters_String.l0]) ?_
    rw [show j = 26 by omega]
    exact Ev.if_neg' (by omega) (Ev.now _)
  | succ rem ih =>
    intro j hj
    refine Ev.step (fun k => by rw [stemma_letters_String.l0]) ?_
    refine Ev.if_pos' (by omega) ?_
    rw [mask_has h j (by omega)]
    simp only [Option.bind_some]
    have h2 := ih (j + 1) (by omega)
    have e1 : ((65 + (j : Int) + 1) % 256) = 65 + ((j + 1 : Nat) : Int) := by omega
    have hl : (maskLetters M j).length ≤ j := by unfold maskLetters; rw [List.length_map]; exact Nat.le_trans (List.length_filter_le _ _) (by simp)
    rw [e1]
    have e2 : maskLetters M (j + 1) = maskLetters M j ++ (if M j = true then [65 + (j : Int)] else []) := by
      unfold maskLetters
      rw [List.range_succ, List.filter_append, List.map_append]
      congr 1
      by_cases hm : M j = true <;> simp [hm]
    rw [e2] at h2
    by_cases hm : M j = true
    · refine Ev.if_pos' hm (Ev.if_pos' (by omega) ?_)
      rw [if_pos hm] at h2
      exact h2
    · refine Ev.if_neg' hm ?_
      rw [if_neg hm, List.append_nil] at h2
      exact h2
theorem mask_string {m : Int} {M : Nat → Bool} (h : IsMask m M) : Ev (fun k => stemma_letters_String.f k m) (strOfNums (maskLetters M 26)) := by
  unfold stemma_letters_String.f
  exact mask_string_l0 h 26 0 (by omega)
theorem IsMask.congr {m : Int} {M M' : Nat → Bool} (h : IsMask m M) (e : ∀ j, j < 26 → M j = M' j) : IsMask m M' := by
  obtain ⟨n, rfl, hn, hb⟩ := h
  refine ⟨n, rfl, hn, fun j => ?_⟩
  rw [hb j]
  by_cases hj : j < 26
  · rw [e j hj]
  · simp [hj]
end Go.Proofs.YtecdjnabmjhakaaDoor.P.OwnSt
namespace Go.Proofs.YtecdjnabmjhakaaDoor.P.OwnSt
open Go.RowKit Go.Shelf Go.Proofs.YtecdjnabmjhakaaDoorW.PrintWords Go.Proofs.YtecdjnabmjhakaaDoorW.PrintLast Go.Proofs.YtecdjnabmjhakaaDoorW.PrintMore
set_option linter.unusedVariables false
set_option linter.unusedSimpArgs false
def mayC (l : List S25) (i : Nat) (j : Nat) (s : Nat → Int) : Bool := decide (leastV l s (i : Int) (65 + (j : Int)) < 1048576)
def mayK (l : List S25) (i k : Nat) (j : Nat) : Bool := ((knownV l).take k).any (mayC l i j)
def mayAt (l : List S25) (i : Nat) (j : Nat) : Bool := (knownV l).any (mayC l i j)
def letterRow (l : List S25) (i : Nat) : ByteArray := strOfNums (maskLetters (mayAt l i) 26)
def lettersV (l : List S25) : List ByteArray × Int := if knownE l = 0 then ((List.range (rd_T25 l 0).f0.size).map (letterRow l), 0) else ([], knownE l)
def LetR (l : List S25) (k : Nat) (key val : Value) : Prop := val = .bool true ∧ ∃ s ∈ (knownV l).take k, key = madeV (madeB l.length s)
theorem mayC_made (l : List S25) (i j : Nat) (s s' : Nat → Int) (h : madeB l.length s = madeB l.length s') : mayC l i j s = mayC l i j s' := by
  unfold mayC
  rw [leastV_made l s s' _ _ h]
theorem mayK_succ (l : List S25) (i k j : Nat) (s : Nat → Int) (hs : (knownV l)[k]? = some s) : mayK l i (k + 1) j = (mayK l i k j || mayC l i j s) := by
  unfold mayK
  rw [List.take_add_one, hs, Option.toList_some, List.any_append]
  simp
theorem mayK_met (l : List S25) (h5 : l.length ≤ 5) (i k j : Nat) (s : Nat → Int) (hs : (knownV l)[k]? = some s) {v : Value} (h : LetR l k (madeV (madeB l.length s)) v) : mayK l i (k + 1) j = mayK l i k j := by
  rw [mayK_succ l i k j s hs]
  obtain ⟨_, s', hm, e⟩ := h
  have h1 := mayC_made l i j s s' (madeB_of_key l h5 s s' e)
  by_cases hc : mayC l i j s' = true
  · have : mayK l i k j = true := by
      unfold mayK
      rw [List.any_eq_true]
      exact ⟨s', hm, hc⟩
    rw [this, Bool.true_or]
  · rw [h1]
    simp [hc]
theorem mayK_all (l : List S25) (i j : Nat) : mayK l i (knownV l).length j = mayAt l i j := by
  unfold mayK mayAt
  rw [List.take_length]
theorem LetR.mono {l : List S25} {k : Nat} {key val : Value} (h : LetR l k key val) : LetR l (k + 1) key val := by
  obtain ⟨h1, s, hs, h2⟩ := h
  refine ⟨h1, s, ?_, h2⟩
  rw [List.take_add_one]
  exact List.mem_append_left _ hs
theorem MemoAt.weaken {P : Program} {K : TypeId} {Φ Ψ : Value → Value → Prop} {W : World} {mb : Nat} (h : MemoAt P K Φ W mb) (hm : ∀ a b, Φ a b → Ψ a b) : MemoAt P K Ψ W mb := by
  obtain ⟨es, ck, h1, h2⟩ := h
  exact ⟨es, ck, h1, fun e he => ⟨(h2 e he).1, hm _ _ (h2 e he).2⟩⟩
structure LQ (l : List S25) (W1 : World) (i mb : Nat) (out : Value) (k : Nat) (W : World) : Prop where
  memo : MemoAt Tryd.prog 70 (LetR l k) W mb
  orow : Kd.R Kd.string 9 W W1.heap.size (fun k => W1.heap.size ≤ k ∧ k < mb) out ((List.range i).map (letterRow l))
  below : Below W1.heap.size W1 W
  low : W1.heap.size ≤ mb
theorem LQ.step {l : List S25} {W1 : World} {i mb : Nat} {out : Value} {k : Nat} {W W' : World} (h : LQ l W1 i mb out k W) (hb : Below W.heap.size W W') : LQ l W1 i mb out k W' :=
  ⟨h.memo.keep (hb.block mb h.memo.lt), Kd.R_below h.orow hb, h.below.trans (hb.mono h.below.size), h.low⟩
theorem LQ.put {l : List S25} {W1 : World} {i mb : Nat} {out : Value} {k : Nat} {W : World} (h : LQ l W1 i mb out k W) (o : Obj) (hm : MemoAt Tryd.prog 70 (LetR l (k + 1)) (W.putObj mb o) mb) : LQ l W1 i mb out (k + 1) (W.putObj mb o) :=
  ⟨hm, Kd.R_kept (S := fun k => k = mb) h.orow ⟨by simp [World.putObj], fun j _ hj => World.putObj_heap_other hj⟩ (fun k hk e => by omega), below_put h.below h.low o, h.low⟩
theorem lost_ne_memo {W : World} {b mb n c : Nat} {A : Option Addr} {fs : Nat → Int} {P : Program} {K : TypeId} {Φ : Value → Value → Prop} (h : LostAt W b A n c fs) (m : MemoAt P K Φ W mb) : b ≠ mb := by
  obtain ⟨es, ck, hE, _⟩ := m
  intro e
  subst e
  have h2 : W.heap[b]? = _ := h
  rw [hE] at h2
  cases h2
set_option maxHeartbeats 4000000 in
set_option maxRecDepth 100000 in
theorem letters_calls (A : Option Addr) (c : Nat) (l : List S25) (w : World) (hr : Kd.C k25 w A l.length l) (hc : l.length ≤ c) :
    Calls Tryd.prog 12 #[.slice A l.length c] w fun e w' => ∃ v, e = .returned (.tuple #[v, .int .i64 (lettersV l).2]) ∧ Kd.R Kd.string 9 w' w.heap.size (fun _ => True) v (lettersV l).1 ∧ Below w.heap.size w w' := by
  by_cases hk : knownE l = 0
  · have hV : lettersV l = ((List.range (rd_T25 l 0).f0.size).map (letterRow l), 0) := by unfold lettersV; rw [if_pos hk]
    rw [hV]
    have HR := Aside0.mk hr
    have HK := Aside0.mk hk
    have HVA := Aside0.mk (valid_of_check (knownE_zero hk).1)
    have h5 := HVA.out.five
    have h1 := HVA.out.one
    have hkL := known_len l h5
    clear hr hk hV
    go_enter Tryd.func12, Tryd.ntmps12
    go_upto_region 4 with (first | (go_at_call 24; refine (known_ok A c l w HR.out hc HK.out).mono ?_; rintro e w2 ⟨gv, cv, rfl, hB, hown⟩; have HB := Aside0.mk hB; have HOWN := Aside0.mk hown; clear hB hown))
    obtain ⟨W1, hW1⟩ : ∃ W1, W1 = w2 := ⟨_, rfl⟩
    rw [← hW1] at HB HOWN ⊢
    clear hW1 w2
    obtain ⟨ad, hA, y0, _⟩ := at_T25 (Kd.C_below HR.out HB.out) 0 (by omega) (by omega)
    subst hA
    simp only [Int.toNat_zero, Nat.zero_mul, Addr.add_zero'] at y0
    obtain ⟨L, hL⟩ : ∃ L, L = (rd_T25 l 0).f0.size := ⟨_, rfl⟩
    have HLL := Aside0.mk hL
    have hL8 : L ≤ 8 := by rw [hL]; exact HVA.out.high
    obtain ⟨tx, htx⟩ : ∃ tx, tx = (rd_T25 l 0).f0 := ⟨_, rfl⟩
    rw [← htx] at y0 hL
    have HTX := Aside0.mk hL
    clear htx hL
    go_wp2_with fail
    rw [← HTX.out]
    clear y0
    go_loopg [6, 26] L (fun k s6 s26 wr => ∃ i : Nat, i + k = L ∧ s26 = .int .i64 (i : Int) ∧ Aside0 (Kd.R Kd.string 9 wr W1.heap.size (fun k => W1.heap.size ≤ k) s6 ((List.range i).map (letterRow l))) ∧ Aside0 (Below W1.heap.size W1 wr))
    case atStart => exact ⟨0, by omega, rfl, ⟨Kd.R_nil _ _ _ _ _⟩, ⟨Below.refl _ _⟩⟩
    case round =>
      obtain ⟨gj, rfl⟩ : ∃ gj, gj = gk := ⟨_, rfl⟩
      obtain ⟨i, hik, rfl, HN, HB1⟩ := hrel
      have HIK := Aside0.mk hik
      clear hik
      by_cases hi : i < L
      · obtain ⟨mb, hmb⟩ : ∃ mb, mb = wr.heap.size := ⟨_, rfl⟩
        have hmk := run_makeMap (P := Tryd.prog) 69 wr
        rw [← hmb] at hmk
        go_upto_region 10 with fail
        rw [← hmb]
        refine wp_gen (fun wx => Aside0 (LQ l W1 i mb u6 0 wx)) ?_ ?_
        · refine ⟨⟨?_, Kd.R_mono (Kd.R_alloc (Kd.R_bound HN.out) _) (fun k hk => ⟨hk.1, by rw [hmb]; exact hk.2.2.1⟩), HB1.out.alloc HB1.out.size _, by rw [hmb]; exact HB1.out.size⟩⟩
          rw [hmb]
          exact MemoAt.new 70 _ wr
        clear hmk hmb HN HB1
        intro W2 HQ
        go_wp2_with fail
        go_loopg [8, 32] (knownV l).length (fun n s8 s32 wr => ∃ (k : Nat) (m : Int), k + n = (knownV l).length ∧ s8 = .int .u32 m ∧ s32 = .int .i64 (k : Int) ∧ Aside0 (IsMask m (mayK l i k)) ∧ Aside0 (LQ l W1 i mb u6 k wr))
        case atStart => exact ⟨0, 0, by omega, rfl, rfl, ⟨isMask_zero⟩, HQ⟩
        case round =>
          clear HQ
          obtain ⟨gm, rfl⟩ : ∃ gm, gm = gk := ⟨_, rfl⟩
          obtain ⟨k, m, hkn, rfl, rfl, HM, HQ⟩ := hrel
          have HKN := Aside0.mk hkn
          clear hkn
          by_cases hkl : k < (knownV l).length
          · obtain ⟨s, hs⟩ : ∃ s, (knownV l)[k]? = some s := ⟨_, List.getElem?_eq_getElem hkl⟩
            obtain ⟨⟨x0, x1, x2, x3, x4, x5⟩, xgl⟩ := lost_cells HOWN.out HQ.out.below k s hs
            have HS := Aside0.mk hs
            clear hs
            go_upto_region 13 with fail
            obtain ⟨b11, hb11⟩ : ∃ b11, b11 = wr.heap.size := ⟨_, rfl⟩
            rw [← hb11]
            refine wp_gen (fun wx => Aside0 (LQ l W1 i mb u6 k wx) ∧ Aside0 (LostAt wx b11 (some ad) l.length c s)) ?_ ?_
            · subst hb11
              exact ⟨⟨HQ.out.step ((Below.refl _ _).alloc (Nat.le_refl _) _)⟩, ⟨blk_new wr _⟩⟩
            clear hb11 HQ x0 x1 x2 x3 x4 x5 xgl
            rintro W3 ⟨HQ, HX⟩
            obtain ⟨x0, x1, x2, x3, x4, x5⟩ := HX.out.cells
            have hxl := blk_lt HX.out
            by_cases hmet : MemoHas W3 mb (madeV (madeB l.length s))
            · have HMET := Aside0.mk hmet
              clear hmet
              go_wp2_with (first | (go_at_call 29; refine (made_calls (some ad) c l s _ (Kd.C_below HR.out (HB.out.trans (HQ.out.below.mono HB.out.size))) h5).mono ?_; rintro e w4 ⟨rfl, hB4⟩; have HB4 := Aside0.mk hB4; obtain ⟨vv, bb, hlook, hvv⟩ := (HQ.out.step hB4).memo.look law85 (T := 69) (E := 4) (z := .bool false) (by kernel_rfl) (by kernel_rfl) (keyOf_made (madeB l.length s)).choose_spec; have HV := Aside0.mk (show LetR l k (madeV (madeB l.length s)) vv from by (rcases hvv with ⟨g1, g2, _⟩ | ⟨_, _, g2⟩; exact g2; exact absurd (HMET.out.keep (hB4.block mb HQ.out.memo.lt)) g2)); have hlk := hlook false; simp only [Bool.false_eq_true, if_false] at hlk; obtain rfl := HV.out.1; clear hlook hvv hB4))
              go_roundg (gm - 1)
              case measure => have := HKN.out; omega
              case rel =>
                refine ⟨k + 1, m, by have := HKN.out; omega, rfl, by go_num, ⟨HM.out.congr (fun j hj => (mayK_met l h5 i k j s HS.out HV.out).symm)⟩, ⟨?_⟩⟩
                have h8 := HQ.out.step HB4.out
                exact ⟨h8.memo.weaken (fun _ _ hh => hh.mono), h8.orow, h8.below, h8.low⟩
            · have HMET := Aside0.mk hmet
              clear hmet
              go_upto_region 14 with (first | (go_at_call 29; refine (made_calls (some ad) c l s _ (Kd.C_below HR.out (HB.out.trans (HQ.out.below.mono HB.out.size))) h5).mono ?_; rintro e w4 ⟨rfl, hB4⟩; have HB4 := Aside0.mk hB4; obtain ⟨vv, bb, hlook, hvv⟩ := (HQ.out.step hB4).memo.look law85 (T := 69) (E := 4) (z := .bool false) (by kernel_rfl) (by kernel_rfl) (keyOf_made (madeB l.length s)).choose_spec; have HV := Aside0.mk (show vv = .bool false from by (rcases hvv with ⟨_, _, g2⟩ | ⟨_, g1, _⟩; exact absurd (g2.keep (hB4.block mb HQ.out.memo.lt).symm) HMET.out; exact g1)); have hlk := hlook false; simp only [Bool.false_eq_true, if_false] at hlk; obtain rfl := HV.out; clear hlook hvv hB4))
              refine wp_gen (fun wx => Aside0 (LQ l W1 i mb u6 k wx) ∧ Aside0 (LostAt wx b11 (some ad) l.length c s)) ⟨⟨HQ.out.step HB4.out⟩, ⟨HX.out.below HB4.out⟩⟩ ?_
              clear HQ HX HB4 HV hlk w4 HMET W3 x0 x1 x2 x3 x4 x5 hxl
              rintro W3 ⟨HQ, HX⟩
              obtain ⟨x0, x1, x2, x3, x4, x5⟩ := HX.out.cells
              have hxl := blk_lt HX.out
              go_upto_block 4 with (first | (go_at_call 29; refine (made_calls (some ad) c l s _ (Kd.C_below HR.out (HB.out.trans (HQ.out.below.mono HB.out.size))) h5).mono ?_; rintro e w4 ⟨rfl, hB4⟩; have HB4 := Aside0.mk hB4; obtain ⟨o, hup, hm, hq1, hq2⟩ := (HQ.out.step hB4).memo.weaken (Ψ := LetR l (k + 1)) (fun _ _ hh => hh.mono) |>.update (T := 69) (E := 4) (val := .bool true) law85 (by kernel_rfl) (keyOf_made (madeB l.length s)).choose_spec ⟨rfl, s, by rw [List.take_add_one, HS.out]; exact List.mem_append_right _ (by simp), rfl⟩; have HMM := Aside0.mk hm; clear hB4 hm hq1 hq2))
              refine wp_gen (fun wx => Aside0 (LQ l W1 i mb u6 (k + 1) wx) ∧ Aside0 (LostAt wx b11 (some ad) l.length c s)) ⟨⟨(HQ.out.step HB4.out).put o HMM.out⟩, ⟨?_⟩⟩ ?_
              · have h9 := HX.out.below HB4.out
                exact (World.putObj_heap_other (lost_ne_memo h9 (HQ.out.step HB4.out).memo)).trans h9
              clear HQ HX HB4 HMM hup o w4 W3 x0 x1 x2 x3 x4 x5 hxl
              rintro W3 ⟨HQ, HX⟩
              go_wp2_with fail
              go_loopg [8, 12] 26 (fun n s8 s12 wr => ∃ (j : Nat) (m' : Int), j + n = 26 ∧ s12 = .int .u8 (65 + (j : Int)) ∧ s8 = .int .u32 m' ∧ Aside0 (IsMask m' (fun x => mayK l i k x || (decide (x < j) && mayC l i x s))) ∧ Aside0 (LQ l W1 i mb u6 (k + 1) wr) ∧ Aside0 (LostAt wr b11 (some ad) l.length c s))
              case atStart => exact ⟨0, m, by omega, rfl, rfl, ⟨HM.out.congr (fun j hj => by simp)⟩, HQ, HX⟩
              case round =>
                clear HQ HX HM
                obtain ⟨j, m', hjn, rfl, rfl, HM, HQ, HX⟩ := hrel
                have HJN := Aside0.mk hjn
                have hj26 : j ≤ 26 := by omega
                clear hjn
                obtain ⟨cc, hcc⟩ : ∃ cc : Int, cc = 65 + (j : Int) := ⟨_, rfl⟩
                rw [← hcc]
                have HCC := Aside0.mk hcc
                have hcc65 : 65 ≤ cc := by omega
                have hcc91 : cc ≤ 91 := by omega
                obtain ⟨x0, x1, x2, x3, x4, x5⟩ := HX.out.cells
                have hxl := blk_lt HX.out
                by_cases hj : j < 26
                · have hcc90 : cc ≤ 90 := by omega
                  have hh := mask_has HM.out j hj
                  rw [← hcc] at hh
                  have HH := Aside0.mk hh
                  have hjj : (decide (j < j) && mayC l i j s) = false := by simp
                  rw [hjj, Bool.or_false] at HH
                  clear hcc hh hjj
                  by_cases hb : mayK l i k j = true
                  · rw [hb] at HH
                    have HBT := Aside0.mk hb
                    clear hb
                    go_wp2_with (first | (go_at_call 30; refine (stemma_letters_has.calls m' cc true _ HH.out).mono ?_; rintro e w' ⟨rfl, ⟨nd, rfl⟩⟩))
                    go_roundg (gk - 1)
                    case measure => have := HJN.out; omega
                    case rel =>
                      refine ⟨j + 1, m', by have := HJN.out; omega, by rw [HCC.out]; congr 1 <;> omega, rfl, ⟨HM.out.congr (fun x hx => ?_)⟩, ⟨HQ.out.step (pw_below_drewN (Below.refl _ _) nd)⟩, ⟨HX.out.below (pw_below_drewN (Below.refl _ _) nd)⟩⟩
                      by_cases e : x = j
                      · subst e
                        rw [HBT.out]
                        simp
                      · congr 2
                        exact decide_eq_decide.2 (by omega)
                  · have hbf : mayK l i k j = false := by simpa using hb
                    rw [hbf] at HH
                    have HBF := Aside0.mk hbf
                    clear hb hbf
                    obtain ⟨lv, hlv⟩ : ∃ lv, lv = leastV l s (i : Int) cc := ⟨_, rfl⟩
                    have hlb := leastV_bound l s (i : Int) cc
                    rw [← hlv] at hlb
                    obtain ⟨hlb0, hlb1⟩ := hlb
                    have HLV := Aside0.mk hlv
                    clear hlv
                    by_cases hlt : lv < 1048576
                    · have hmc : mayC l i j s = true := by
                        unfold mayC
                        rw [← HCC.out, ← HLV.out]
                        exact decide_eq_true hlt
                      obtain ⟨m2, hm2, hM2⟩ := mask_with HM.out j hj
                      rw [← HCC.out] at hm2
                      have HM2 := Aside0.mk hM2
                      have HMC := Aside0.mk hmc
                      have HW := Aside0.mk hm2
                      clear hM2 hmc hm2
                      go_wp2_with (first
                        | (go_at_call 30; refine (stemma_letters_has.calls m' cc false _ HH.out).mono ?_; rintro e w' ⟨rfl, ⟨nd, rfl⟩⟩; have HQ2 := Aside0.mk (HQ.out.step (pw_below_drewN (Below.refl _ _) nd)); have HX2 := Aside0.mk (HX.out.below (pw_below_drewN (Below.refl _ _) nd)))
                        | (go_at_call 31; refine (least_calls (some ad) c l s (i : Int) cc _ (Kd.C_below HR.out (HB.out.trans (HQ2.out.below.mono HB.out.size))) hc h1 h5 HVA.out.size HVA.out.high (fun i hi => ⟨(HVA.out.err i hi).1, by have := (HVA.out.err i hi).2; omega⟩)).mono ?_; rintro e w5 ⟨rfl, hB5⟩; rw [← HLV.out]; have HQ3 := Aside0.mk (HQ2.out.step hB5); have HX3 := Aside0.mk (HX2.out.below hB5); clear hB5)
                        | (go_at_call 32; refine (stemma_letters_with.calls m' cc m2 _ HW.out).mono ?_; rintro e w' ⟨rfl, ⟨nd2, rfl⟩⟩))
                      go_roundg (gk - 1)
                      case measure => have := HJN.out; omega
                      case rel =>
                        refine ⟨j + 1, m2, by have := HJN.out; omega, by rw [HCC.out]; congr 1 <;> omega, rfl, ⟨HM2.out.congr (fun x hx => ?_)⟩, ⟨HQ3.out.step (pw_below_drewN (Below.refl _ _) nd2)⟩, ⟨HX3.out.below (pw_below_drewN (Below.refl _ _) nd2)⟩⟩
                        by_cases e : x = j
                        · subst e
                          rw [HMC.out]
                          simp
                        · rw [show (x == j) = false from beq_false_of_ne e, Bool.or_false]
                          congr 2
                          exact decide_eq_decide.2 (by omega)
                    · have hmc : mayC l i j s = false := by
                        unfold mayC
                        rw [← HCC.out, ← HLV.out]
                        exact decide_eq_false hlt
                      have HMC := Aside0.mk hmc
                      clear hmc
                      go_wp2_with (first
                        | (go_at_call 30; refine (stemma_letters_has.calls m' cc false _ HH.out).mono ?_; rintro e w' ⟨rfl, ⟨nd, rfl⟩⟩; have HQ2 := Aside0.mk (HQ.out.step (pw_below_drewN (Below.refl _ _) nd)); have HX2 := Aside0.mk (HX.out.below (pw_below_drewN (Below.refl _ _) nd)))
                        | (go_at_call 31; refine (least_calls (some ad) c l s (i : Int) cc _ (Kd.C_below HR.out (HB.out.trans (HQ2.out.below.mono HB.out.size))) hc h1 h5 HVA.out.size HVA.out.high (fun i hi => ⟨(HVA.out.err i hi).1, by have := (HVA.out.err i hi).2; omega⟩)).mono ?_; rintro e w5 ⟨rfl, hB5⟩; rw [← HLV.out]; have HQ3 := Aside0.mk (HQ2.out.step hB5); have HX3 := Aside0.mk (HX2.out.below hB5); clear hB5))
                      go_roundg (gk - 1)
                      case measure => have := HJN.out; omega
                      case rel =>
                        refine ⟨j + 1, m', by have := HJN.out; omega, by rw [HCC.out]; congr 1 <;> omega, rfl, ⟨HM.out.congr (fun x hx => ?_)⟩, HQ3, HX3⟩
                        by_cases e : x = j
                        · subst e
                          rw [HMC.out]
                          simp
                        · congr 2
                          exact decide_eq_decide.2 (by omega)
                · have hcc90 : ¬ cc ≤ 90 := by omega
                  clear hcc
                  go_wp2_with fail
                  go_roundg (gm - 1)
                  case measure => have := HKN.out; omega
                  case rel =>
                    refine ⟨k + 1, m', by have := HKN.out; omega, rfl, by go_num, ⟨HM.out.congr (fun x hx => ?_)⟩, HQ⟩
                    rw [mayK_succ l i k x s HS.out, show decide (x < j) = true from decide_eq_true (by omega), Bool.true_and]
          · have hkk : k = (knownV l).length := by have := HKN.out; omega
            have HKK := Aside0.mk hkk
            clear hkk
            obtain ⟨kk, hkk⟩ := (mask_string HM.out).rounds
            have HST := Aside0.mk hkk
            clear hkk
            obtain ⟨st, hst⟩ : ∃ st, st = strOfNums (maskLetters (mayK l i k) 26) := ⟨_, rfl⟩
            have HSE := Aside0.mk hst
            clear hst
            go_wp2_with (first
              | (go_at_call 33; refine (stemma_letters_String.calls kk m _ wr HST.out).mono ?_; rintro e w7 ⟨rfl, hB7⟩; rw [← HSE.out]; have HQ7 := Aside0.mk (HQ.out.step hB7); clear hB7)
              | (at_builtin; refine Kd.R_append Kd.string (w0 := W1) W1.heap.size rfl _ _ 36 9 (.string ⟨#[]⟩) 16 rfl (by kernel_rfl) info9 rfl (by decide) (by omega) u6 _ st [.string st] (fun k => W1.heap.size ≤ k) (fun _ => False) rfl rfl ?aP (fun _ hk => hk.elim) ?aF (Kd.R_mono HQ7.out.orow (fun _ hk => hk.1)) HQ7.out.below HQ7.out.below.size ?aL ?_; (case aP => exact rfl); (case aF => exact fun k hk => Nat.le_trans HQ7.out.below.size hk); (case aL => (simp; omega)); intro v8 w8 hN8 hB8 hg8 hat8; have HN8 := Aside0.mk hN8; have HB8 := Aside0.mk hB8; clear hN8 hB8 hg8 hat8))
            go_roundg (gj - 1)
            case measure => have := HIK.out; omega
            case rel =>
              refine ⟨i + 1, by have := HIK.out; omega, by go_num, ⟨?_⟩, HB8⟩
              rw [List.range_succ, List.map_append]
              have h9 := HN8.out
              rw [HSE.out, HKK.out] at h9
              have e9 : maskLetters (mayK l i (knownV l).length) 26 = maskLetters (mayAt l i) 26 := by
                unfold maskLetters
                rw [show mayK l i (knownV l).length = mayAt l i from funext fun j => mayK_all l i j]
              rw [e9] at h9
              exact h9
      · go_wp2_with fail
        refine bodyPost_ret (results_tmp2 rfl _ _ _) rfl ⟨_, rfl, ?_, HB.out.trans (HB1.out.mono HB.out.size)⟩
        have h7 := HN.out
        rw [show i = L by have := HIK.out; omega, HLL.out] at h7
        exact Kd.R_mono (Kd.R_lower h7 HB.out.size) (fun k hk => trivial)
  · have hV : lettersV l = ([], knownE l) := by unfold lettersV; rw [if_neg hk]
    rw [hV]
    obtain ⟨e0, he0⟩ : ∃ e0, e0 = knownE l := ⟨_, rfl⟩
    have HR := Aside0.mk hr
    have HK := Aside0.mk hk
    have HE := Aside0.mk he0
    have b1 : (e0 != 0) = true := bne_iff_ne.2 (by rw [he0]; exact hk)
    rw [← he0]
    clear hr hk hV he0
    go_enter Tryd.func12, Tryd.ntmps12
    go_wp2_with (first | (go_at_call 24; refine (known_err A c l w HR.out hc HK.out).mono ?_; rintro e w2 ⟨rfl, hB⟩; rw [← HE.out]; have HB := Aside0.mk hB; clear hB))
    exact bodyPost_ret (results_tmp2 rfl _ _ _) rfl ⟨_, rfl, Kd.R_nil _ _ _ _ _, HB.out⟩
end Go.Proofs.YtecdjnabmjhakaaDoor.P.OwnSt
namespace Go.Proofs.YtecdjnabmjhakaaDoor.P
open Go.RowKit Go.Proofs.YtecdjnabmjhakaaDoorW.PrintWords Go.Proofs.YtecdjnabmjhakaaDoorW.PrintLast Go.Proofs.YtecdjnabmjhakaaDoorW.PrintMore
attribute [local go_sem] max2_int min2_int max_two min_two max_three min_three max_four min_four   -- for this text's walks alone
set_option linter.unusedVariables false
set_option linter.unusedSimpArgs false
def stemma_Letters.f (k : Nat) (l0 : List (S25)) : Option (List ByteArray × Int) := some (OwnSt.lettersV l0)
theorem stemma_Letters.calls (k : Nat) (A0 : Option Addr) (c0 : Nat) (l0 : List (S25)) (r1 : List ByteArray) (r2 : Int) (w : World) (hr0 : Kd.C k25 w A0 l0.length l0) (hc0 : l0.length ≤ c0) (h : stemma_Letters.f k l0 = some (r1, r2)) :
    Calls Tryd.prog 12 #[.slice A0 l0.length c0] w fun e w' => ∃ v0_ : Value, e = .returned (.tuple #[v0_, .int .i64 r2]) ∧ Kd.R Kd.string 9 w' w.heap.size (fun _ => True) v0_ r1 ∧ Below w.heap.size w w' := by
  have h2 := OwnSt.letters_calls A0 c0 l0 w hr0 hc0; rw [show OwnSt.lettersV l0 = (r1, r2) from Option.some.inj h] at h2; exact h2
end Go.Proofs.YtecdjnabmjhakaaDoor.P
