/- Lemmas and contracts of functions of the given program, for the statements about layer 7. Conditions: those that each tells. -/
import Derived.Laws.Shifts
import Derived.WalkKit
import Derived.Test.YtegjollhajgcdaaProg
import Derived.Below
import Derived.Deep.Draws
import Derived.Deep.AppendLies
import Derived.Maps.AppendAt
import Derived.OwnWalk
import Derived.Laws.BytesArg
import Derived.Laws.MakeOwn
import Derived.Laws.OwnMore
import Derived.Deep.OwnRows
import Derived.Tactics
import Derived.Lib.ConvBytes
import Derived.Laws.Slices
import Derived.KernelRfl
import Derived.RowKit3
import Derived.Deep.LoopGhost
import Derived.Deep.QuietTactic
import Derived.BigQuiet
import Derived.WideLaws
import Derived.Deep.DeepCutAuto
import Derived.Deep.CutBlock
import Derived.Deep.RegionHeld3
import Derived.Laws.Rows
import Derived.Lib.AppendStr
import Derived.ArgAppend
import Derived.Laws.IdiomCopy
import Derived.OrdersHeld
import Derived.Laws.BitsLemmas
import Derived.RowKit
import Derived.Lib.Hide
import Derived.Deep.RegionWith
import Derived.Deep.RegionLaw
import Derived.StillTailTactics
import Derived.WalkSpells
import Derived.DeepKeys4
import Derived.Maps.Own
import Derived.RangeFuncRecord
import Derived.Deep.CutRange
import Derived.RangeFuncNested
import Derived.RangeFuncBound
import Derived.RangeFuncCalls
import Derived.RangeFuncLeaves
import Derived.Shelf.Abstract
import Derived.Shelf.RegionOpen
import Derived.OwnWalkIn
import Derived.TacticsInMore
import Derived.LoopNIn
import Derived.LoopIn
import Derived.Maps.OwnIn
import Derived.Test.YtegjollhajgcdaaB1
set_option linter.unusedVariables false
set_option linter.unusedSimpArgs false
namespace Go.Proofs.Ytegjollhajgcdaa.OFix
open Go.RowKit
theorem cell_set_map (W : World) (p : Addr) (v : Value) : (W.setCell p v).cell? p = (W.cell? p).map fun _ => v := by
  unfold World.setCell World.cell?
  simp only [Array.getElem?_modify, if_true]
  cases ho : W.heap[p.block]? with
  | none => rfl
  | some o =>
    cases o with
    | cells c e fr =>
      by_cases hs : p.spot.isSome = true
      · simp [hs]
      · simp only [Option.map_some, hs, Bool.false_eq_true, if_false]
        by_cases ho2 : p.off < c.size
        · simp [ho2]
        · simp [ho2]
    | _ => rfl
theorem shr_mod (k yk : IntKind) (x y : Int) : Op.shift .shr k x yk (y % 256) = pure (.int k (x / 2 ^ min (y % 256).toNat k.bits)) := shift_shr_any k yk x _ (by omega)
theorem shl_mod (k yk : IntKind) (x y : Int) : Op.shift .shl k x yk (y % 256) = pure (.int k (k.wrap (x * 2 ^ min (y % 256).toNat k.bits))) := shift_shl_any k yk x _ (by omega)
attribute [go_sem] cell_set_map shr_mod shl_mod
end Go.Proofs.Ytegjollhajgcdaa.OFix
namespace Go.Proofs.Ytegjollhajgcdaa.P
open Go.RowKit Go.Proofs.YtegjollhajgcdaaW.PrintWords Go.Proofs.YtegjollhajgcdaaW.PrintLast Go.Proofs.YtegjollhajgcdaaW.PrintMore
attribute [local go_sem] max2_int min2_int max_two min_two max_three min_three max_four min_four   -- for this text's walks alone
set_option linter.unusedVariables false
set_option linter.unusedSimpArgs false
def errW : Option Int → Value
  | none => .nilIface
  | some c => .iface 0 (.int .i64 c)
theorem errW_none : errW none = .nilIface := rfl
theorem errW_some (c : Int) : errW (some c) = .iface 0 (.int .i64 c) := rfl
theorem info3 : (Try.prog.info? 3).map (fun i => (i.zero, i.size, i.bytes)) = some (some (.int .i64 0), 1, 8) := by kernel_rfl
theorem info5 : (Try.prog.info? 5).map (fun i => (i.zero, i.size, i.bytes)) = some (some (.int .u8 0), 1, 1) := by kernel_rfl
theorem info9 : (Try.prog.info? 9).map (fun i => (i.zero, i.size, i.bytes)) = some (some (.string ⟨#[]⟩), 1, 16) := by kernel_rfl
theorem info24 : (Try.prog.info? 24).map (fun i => (i.zero, i.size, i.bytes)) = some (some (.agg #[(.string ⟨#[]⟩), (.int .i64 0), (.bool false)]), 3, 32) := by kernel_rfl
theorem info25 : (Try.prog.info? 25).map (fun i => (i.zero, i.size, i.bytes)) = some (some (.slice none 0 0), 1, 24) := by kernel_rfl
theorem info95 : (Try.prog.info? 95).map (fun i => (i.zero, i.size, i.bytes)) = some (some (.agg #[(.slice none 0 0), (.slice none 0 0)]), 2, 48) := by kernel_rfl
structure S24 where
  f0 : ByteArray
  f1 : Int
  f2 : Bool
def z24 : S24 := ⟨(⟨#[]⟩ : ByteArray), (0 : Int), false⟩
def k24 : Kd S24 := Kd.iso (Kd.pair Kd.string (Kd.pair (Kd.int .i64) Kd.bool)) (fun x : S24 => (x.f0, x.f1, x.f2))
theorem k24_open {w : World} {x : S24} {cs : List Value} (h : k24.K w x cs) : cs = [.string x.f0, .int .i64 x.f1, .bool x.f2] := by
  obtain ⟨_, _, rfl, rfl, ⟨_, _, rfl, rfl, rfl⟩⟩ := h
  exact rfl
theorem k24_openM {w : World} {base : Nat} {ok : Nat → Prop} {x : S24} {cs : List Value} (h : k24.M w base ok x cs) : cs = [.string x.f0, .int .i64 x.f1, .bool x.f2] := by
  obtain ⟨_, _, rfl, rfl, ⟨_, _, rfl, rfl, rfl⟩⟩ := h
  exact rfl
theorem k24_mk (w : World) (x : S24)  : k24.K w x [.string x.f0, .int .i64 x.f1, .bool x.f2] := ⟨[.string x.f0], [.int .i64 x.f1, .bool x.f2], rfl, rfl, ⟨[.int .i64 x.f1], [.bool x.f2], rfl, rfl, rfl⟩⟩
theorem k24_mkM (w : World) (base : Nat) (ok : Nat → Prop) (x : S24)  : k24.M w base ok x [.string x.f0, .int .i64 x.f1, .bool x.f2] := ⟨[.string x.f0], [.int .i64 x.f1, .bool x.f2], rfl, rfl, ⟨[.int .i64 x.f1], [.bool x.f2], rfl, rfl, rfl⟩⟩
theorem k24_mkF (W : World) (ok : Nat → Prop) (x : S24) : Kd.FK k24 W ok x [.string x.f0, .int .i64 x.f1, .bool x.f2] := fun W2 _ => k24_mk W2 x
def rd_T24 (xs : List S24) (i : Int) : S24 := xs.getD i.toNat z24
theorem at_T24 {w : World} {A : Option Addr} {n : Nat} {xs : List S24} (h : Kd.C k24 w A n xs) (i : Int) (h0 : 0 ≤ i) (h1 : i < n) : ∃ ad , A = some ad ∧ w.cell? (ad.add (i.toNat * 3)) = some (.string (rd_T24 xs i).f0) ∧ w.cell? ⟨(ad.add (i.toNat * 3)).block, (ad.add (i.toNat * 3)).off + 1, none⟩ = some (.int .i64 (rd_T24 xs i).f1) ∧ w.cell? ⟨(ad.add (i.toNat * 3)).block, (ad.add (i.toNat * 3)).off + 2, none⟩ = some (.bool (rd_T24 xs i).f2) := by
  obtain ⟨ad, c, e, _, hK, hc0⟩ := Kd.C_get h z24 i h0 h1
  have hc : ∀ j u, c[j]? = some u → w.cell? (ad.add (i.toNat * 3 + j)) = some u := hc0
  obtain rfl := k24_open hK
  exact ⟨ad, e, hc 0 _ rfl, by rw [← add_field _ _ 1 (by omega)]; exact hc 1 _ rfl, by rw [← add_field _ _ 2 (by omega)]; exact hc 2 _ rfl⟩
def rd_L4 (xs : List (List Int)) (i : Int) : (List Int) := xs.getD i.toNat ([] : List Int)
theorem at_L4 {w : World} {A : Option Addr} {n : Nat} {xs : List (List Int)} (h : Kd.C (Kd.slice 3 (Kd.int .i64)) w A n xs) (i : Int) (h0 : 0 ≤ i) (h1 : i < n) : ∃ ad A0 c0, A = some ad ∧ w.cell? (ad.add i.toNat) = some (.slice A0 (rd_L4 xs i).length c0) ∧ (rd_L4 xs i).length ≤ c0 ∧ (Kd.int .i64).C w A0 (rd_L4 xs i).length (rd_L4 xs i) := by
  obtain ⟨ad, c, e, _, hK, hc0⟩ := Kd.C_get h ([] : List Int) i h0 h1
  have hc : ∀ j u, c[j]? = some u → w.cell? (ad.add (i.toNat * 1 + j)) = some u := hc0
  obtain ⟨A0, c0, rfl, l0, g0⟩ := hK
  exact ⟨ad, A0, c0, e, by have hq := hc 0 _ rfl; rwa [Nat.mul_one, Nat.add_zero] at hq, l0, g0⟩
def rd_L6 (xs : List (List ByteArray)) (i : Int) : (List ByteArray) := xs.getD i.toNat ([] : List ByteArray)
theorem at_L6 {w : World} {A : Option Addr} {n : Nat} {xs : List (List ByteArray)} (h : Kd.C (Kd.slice 9 Kd.string) w A n xs) (i : Int) (h0 : 0 ≤ i) (h1 : i < n) : ∃ ad A0 c0, A = some ad ∧ w.cell? (ad.add i.toNat) = some (.slice A0 (rd_L6 xs i).length c0) ∧ (rd_L6 xs i).length ≤ c0 ∧ Kd.string.C w A0 (rd_L6 xs i).length (rd_L6 xs i) := by
  obtain ⟨ad, c, e, _, hK, hc0⟩ := Kd.C_get h ([] : List ByteArray) i h0 h1
  have hc : ∀ j u, c[j]? = some u → w.cell? (ad.add (i.toNat * 1 + j)) = some u := hc0
  obtain ⟨A0, c0, rfl, l0, g0⟩ := hK
  exact ⟨ad, A0, c0, e, by have hq := hc 0 _ rfl; rwa [Nat.mul_one, Nat.add_zero] at hq, l0, g0⟩
structure S95 where
  f0 : (List Int)
  f1 : (List ByteArray)
def z95 : S95 := ⟨([] : List Int), ([] : List ByteArray)⟩
def k95 : Kd S95 := Kd.iso (Kd.pair (Kd.slice 3 (Kd.int .i64)) (Kd.slice 9 Kd.string)) (fun x : S95 => (x.f0, x.f1))
theorem k95_open {w : World} {x : S95} {cs : List Value} (h : k95.K w x cs) : ∃ A0 c0 A1 c1, cs = [.slice A0 x.f0.length c0, .slice A1 x.f1.length c1] ∧ x.f0.length ≤ c0 ∧ (Kd.int .i64).C w A0 x.f0.length x.f0 ∧ x.f1.length ≤ c1 ∧ Kd.string.C w A1 x.f1.length x.f1 := by
  obtain ⟨_, _, rfl, ⟨A0, c0, rfl, l0, g0⟩, ⟨A1, c1, rfl, l1, g1⟩⟩ := h
  exact ⟨A0, c0, A1, c1, rfl, l0, g0, l1, g1⟩
theorem k95_openM {w : World} {base : Nat} {ok : Nat → Prop} {x : S95} {cs : List Value} (h : k95.M w base ok x cs) : ∃ v0 v1, cs = [v0, v1] ∧ (Kd.int .i64).R 3 w base ok v0 x.f0 ∧ Kd.string.R 9 w base ok v1 x.f1 := by
  obtain ⟨_, _, rfl, ⟨v0, rfl, g0⟩, ⟨v1, rfl, g1⟩⟩ := h
  exact ⟨v0, v1, rfl, g0, g1⟩
theorem k95_mk (w : World) (x : S95) {A0 : Option Addr} {c0 : Nat} (l0 : x.f0.length ≤ c0) (g0 : (Kd.int .i64).C w A0 x.f0.length x.f0) {A1 : Option Addr} {c1 : Nat} (l1 : x.f1.length ≤ c1) (g1 : Kd.string.C w A1 x.f1.length x.f1) : k95.K w x [.slice A0 x.f0.length c0, .slice A1 x.f1.length c1] := ⟨[.slice A0 x.f0.length c0], [.slice A1 x.f1.length c1], rfl, ⟨A0, c0, rfl, l0, g0⟩, ⟨A1, c1, rfl, l1, g1⟩⟩
theorem k95_mkM (w : World) (base : Nat) (ok : Nat → Prop) (x : S95) {v0 : Value} (g0 : (Kd.int .i64).R 3 w base ok v0 x.f0) {v1 : Value} (g1 : Kd.string.R 9 w base ok v1 x.f1) : k95.M w base ok x [v0, v1] := ⟨[v0], [v1], rfl, ⟨v0, rfl, g0⟩, ⟨v1, rfl, g1⟩⟩
theorem k95_openF {W : World} {ok : Nat → Prop} {x : S95} {cs : List Value} (h : Kd.FK k95 W ok x cs) : ∃ A0 c0 A1 c1, cs = [.slice A0 x.f0.length c0, .slice A1 x.f1.length c1] ∧ x.f0.length ≤ c0 ∧ Kd.F (Kd.int .i64) W ok A0 x.f0.length x.f0 ∧ x.f1.length ≤ c1 ∧ Kd.F Kd.string W ok A1 x.f1.length x.f1 := by
  obtain ⟨A0, c0, A1, c1, rfl, l0, _, l1, _⟩ := k95_open (Kd.FK_now h)
  exact ⟨A0, c0, A1, c1, rfl, l0, (fun W' hW => by obtain ⟨A0_, c0_, A1_, c1_, he, l0_, g0_, l1_, g1_⟩ := k95_open (h W' hW); injection (Option.some.inj (show some (Value.slice A0 x.f0.length c0) = some (Value.slice A0_ x.f0.length c0_) from congrArg (fun l => l[0]?) he)) with ha_ _ _; rw [ha_]; exact g0_), l1, (fun W' hW => by obtain ⟨A0_, c0_, A1_, c1_, he, l0_, g0_, l1_, g1_⟩ := k95_open (h W' hW); injection (Option.some.inj (show some (Value.slice A1 x.f1.length c1) = some (Value.slice A1_ x.f1.length c1_) from congrArg (fun l => l[1]?) he)) with ha_ _ _; rw [ha_]; exact g1_)⟩
theorem k95_mkF (W : World) (ok : Nat → Prop) (x : S95) {A0 : Option Addr} {c0 : Nat} (l0 : x.f0.length ≤ c0) (g0 : Kd.F (Kd.int .i64) W ok A0 x.f0.length x.f0) {A1 : Option Addr} {c1 : Nat} (l1 : x.f1.length ≤ c1) (g1 : Kd.F Kd.string W ok A1 x.f1.length x.f1) : Kd.FK k95 W ok x [.slice A0 x.f0.length c0, .slice A1 x.f1.length c1] := fun W2 hW => k95_mk W2 x l0 (g0 W2 hW) l1 (g1 W2 hW)
def rd_T95 (xs : List S95) (i : Int) : S95 := xs.getD i.toNat z95
theorem at_T95 {w : World} {A : Option Addr} {n : Nat} {xs : List S95} (h : Kd.C k95 w A n xs) (i : Int) (h0 : 0 ≤ i) (h1 : i < n) : ∃ ad A0 c0 A1 c1, A = some ad ∧ w.cell? (ad.add (i.toNat * 2)) = some (.slice A0 (rd_T95 xs i).f0.length c0) ∧ w.cell? ⟨(ad.add (i.toNat * 2)).block, (ad.add (i.toNat * 2)).off + 1, none⟩ = some (.slice A1 (rd_T95 xs i).f1.length c1) ∧ (rd_T95 xs i).f0.length ≤ c0 ∧ (Kd.int .i64).C w A0 (rd_T95 xs i).f0.length (rd_T95 xs i).f0 ∧ (rd_T95 xs i).f1.length ≤ c1 ∧ Kd.string.C w A1 (rd_T95 xs i).f1.length (rd_T95 xs i).f1 := by
  obtain ⟨ad, c, e, _, hK, hc0⟩ := Kd.C_get h z95 i h0 h1
  have hc : ∀ j u, c[j]? = some u → w.cell? (ad.add (i.toNat * 2 + j)) = some u := hc0
  obtain ⟨A0, c0, A1, c1, rfl, l0, g0, l1, g1⟩ := k95_open hK
  exact ⟨ad, A0, c0, A1, c1, e, hc 0 _ rfl, by rw [← add_field _ _ 1 (by omega)]; exact hc 1 _ rfl, l0, g0, l1, g1⟩
end Go.Proofs.Ytegjollhajgcdaa.P
namespace Go.Proofs.Ytegjollhajgcdaa.P
open Go.RowKit Go.Proofs.YtegjollhajgcdaaW.PrintWords Go.Proofs.YtegjollhajgcdaaW.PrintLast Go.Proofs.YtegjollhajgcdaaW.PrintMore
attribute [local go_sem] max2_int min2_int max_two min_two max_three min_three max_four min_four   -- for this text's walks alone
set_option linter.unusedVariables false
set_option linter.unusedSimpArgs false
def IsS72 (w0 W : World) (g : Nat) (f0 : Int) (f1 : Int) : Prop := W.heap[g]? = some (.cells #[.int .u64 f0, .int .u64 f1] 72 (0, 0)) ∧ w0.heap.size ≤ g
theorem IsS72.grown {w0 W : World} {g : Nat} {f0 : Int} {f1 : Int} {W1 : World} {row : Option Nat} (h : IsS72 w0 W g f0 f1) (hw : W.grownBy W1 row) (hne : some g ≠ row) : IsS72 w0 W1 g f0 f1 := by
  obtain ⟨hb, hg⟩ := h
  exact ⟨blk_grown hb hw hne, hg⟩
theorem IsS72.own_neN {w0 W : World} {g : Nat} {f0 : Int} {f1 : Int} {α : Type} {d : Kd α} {e : Nat} {base : Nat} {ok : Nat → Prop} {v : Value} {xs : List α} (h : IsS72 w0 W g f0 f1) (ho : Kd.N d e W base ok v xs) (ht : e ≠ 72) : some g ≠ v.ownBlock := by
  obtain ⟨hb, hg⟩ := h
  exact Kd.N_ne ho hb ht
theorem IsS72.fresh {w0 W : World} {g : Nat} {f0 : Int} {f1 : Int} (h : IsS72 w0 W g f0 f1) : ∀ k, W.heap.size ≤ k → k ≠ g := by
  obtain ⟨hb, hg⟩ := h
  exact Kd.freshB hb
theorem IsS72.kept {w0 W : World} {g : Nat} {f0 : Int} {f1 : Int} {W1 : World} {S : Nat → Prop} (h : IsS72 w0 W g f0 f1) (hk : Kept W W1 S) (hne : ¬ S g) : IsS72 w0 W1 g f0 f1 := by
  obtain ⟨hb, hg⟩ := h
  exact ⟨blk_kept hb hk hne, hg⟩
theorem IsS72.below {w0 W : World} {g : Nat} {f0 : Int} {f1 : Int} {W1 : World} (h : IsS72 w0 W g f0 f1) (hw : Below W.heap.size W W1) : IsS72 w0 W1 g f0 f1 := h.grown (grown_of_below hw none) (by simp)
theorem IsS72.alloc {w0 W : World} {g : Nat} {f0 : Int} {f1 : Int} (h : IsS72 w0 W g f0 f1) (o : Obj) : IsS72 w0 (W.alloc o) g f0 f1 := h.below (below_alloc (Below.refl _ _) o)
theorem IsS72.drewN {w0 W : World} {g : Nat} {f0 : Int} {f1 : Int} (h : IsS72 w0 W g f0 f1) (m : Nat) : IsS72 w0 (W.drewN m) g f0 f1 := h
theorem IsS72.drew {w0 W : World} {g : Nat} {f0 : Int} {f1 : Int} (h : IsS72 w0 W g f0 f1) : IsS72 w0 W.drew g f0 f1 := h
theorem IsS72.at_ {w0 W : World} {g : Nat} {f0 : Int} {f1 : Int} {w' : World} {m : Nat} (hq : W.drewN m = w') (h : IsS72 w0 W g f0 f1) : IsS72 w0 w' g f0 f1 := by subst hq; exact IsS72.drewN h m
theorem IsS72.apart {w0 W : World} {g : Nat} {f0 : Int} {f1 : Int} {α : Type} {d : Kd α} {e : Nat} {base : Nat} {ok : Nat → Prop} {v : Value} {xs : List α} (h : IsS72 w0 W g f0 f1) (ho : d.R e W base ok v xs) (ht : ∀ q, q ∈ e :: d.E → q ≠ 72) : d.R e W base (fun k => ok k ∧ k ≠ g) v xs := by
  obtain ⟨hb, hg⟩ := h
  exact Kd.R_types ho hb ht
theorem IsS72.own_ne {w0 W : World} {g : Nat} {f0 : Int} {f1 : Int} {α : Type} {d : Kd α} {e : Nat} {base : Nat} {ok : Nat → Prop} {v : Value} {xs : List α} (h : IsS72 w0 W g f0 f1) (ho : d.R e W base ok v xs) (ht : e ≠ 72) : some g ≠ v.ownBlock := by
  obtain ⟨hb, hg⟩ := h
  exact Kd.R_ne ho hb ht
theorem IsS72.apartQ {w0 W : World} {g : Nat} {f0 : Int} {f1 : Int} {α : Type} {d : Kd α} {e : Nat} {base : Nat} {ok : Nat → Prop} {v : Value} {xs : List α} (h : IsS72 w0 W g f0 f1) (ho : d.Q e W base ok v xs) (ht : ∀ q, q ∈ e :: d.E → q ≠ 72) : d.Q e W base (fun k => ok k ∧ k ≠ g) v xs := by
  obtain ⟨hb, hg⟩ := h
  exact Kd.Q_types ho hb ht
theorem IsS72.own_neQ {w0 W : World} {g : Nat} {f0 : Int} {f1 : Int} {α : Type} {d : Kd α} {e : Nat} {base : Nat} {ok : Nat → Prop} {v : Value} {xs : List α} (h : IsS72 w0 W g f0 f1) (ho : d.Q e W base ok v xs) (ht : e ≠ 72) : some g ≠ v.ownBlock := by
  obtain ⟨hb, hg⟩ := h
  exact Kd.Q_ne ho hb ht
theorem IsS72.apartS {w0 W : World} {g : Nat} {f0 : Int} {f1 : Int} {α : Type} {d : Kd α} {e : Nat} {base : Nat} {ok : Nat → Prop} {v : Value} {xs : List α} (h : IsS72 w0 W g f0 f1) (ho : d.S e W base ok v xs) (ht : ∀ q, q ∈ e :: d.E → q ≠ 72) : d.S e W base (fun k => ok k ∧ k ≠ g) v xs := by
  obtain ⟨hb, hg⟩ := h
  exact Kd.S_types ho hb ht
theorem IsS72.own_neS {w0 W : World} {g : Nat} {f0 : Int} {f1 : Int} {α : Type} {d : Kd α} {e : Nat} {base : Nat} {ok : Nat → Prop} {v : Value} {xs : List α} (h : IsS72 w0 W g f0 f1) (ho : d.S e W base ok v xs) (ht : e ≠ 72) : some g ≠ v.ownBlock := by
  obtain ⟨hb, hg⟩ := h
  exact Kd.S_ne ho hb ht
theorem IsS72.lt {w0 W : World} {g : Nat} {f0 : Int} {f1 : Int} (h : IsS72 w0 W g f0 f1) : g < W.heap.size := by
  obtain ⟨hb, hg⟩ := h
  exact blk_lt hb
theorem IsS72.ge {w0 W : World} {g : Nat} {f0 : Int} {f1 : Int} (h : IsS72 w0 W g f0 f1) : w0.heap.size ≤ g := by
  obtain ⟨hb, hg⟩ := h
  exact hg
theorem IsS72.ne_blk {w0 W : World} {g : Nat} {f0 : Int} {f1 : Int} {a : Nat} {cs : Array Value} {t : TypeId} {fr : Nat × Nat} (h : IsS72 w0 W g f0 f1) (hb2 : W.heap[a]? = some (.cells cs t fr)) (ht : t ≠ 72) : g ≠ a := by
  obtain ⟨hb, hg⟩ := h
  rintro rfl
  rw [hb] at hb2
  injection hb2 with hb2
  injection hb2 with _ ht2
  exact ht ht2.symm
theorem IsS72.far {w0 W : World} {g : Nat} {f0 : Int} {f1 : Int} {p : Addr} (h : IsS72 w0 W g f0 f1) (hne : g ≠ p.block) (u : Value) : IsS72 w0 (W.setCell p u) g f0 f1 := by
  obtain ⟨hb, hg⟩ := h
  exact ⟨blk_far hb hne u, hg⟩
theorem cellS72_0 {W : World} {g : Nat} {f0 : Int} {f1 : Int} (h : W.heap[g]? = some (.cells #[.int .u64 f0, .int .u64 f1] 72 (0, 0))) : W.cell? ⟨g, 0, none⟩ = some (.int .u64 f0) := (blk_cell h 0).trans rfl
theorem IsS72.set_0 {w0 W : World} {g : Nat} {f0 : Int} {f1 : Int} (h : IsS72 w0 W g f0 f1) (x : Int) : IsS72 w0 (W.setCell ⟨g, 0, none⟩ (.int .u64 x)) g x f1 := by
  obtain ⟨hb, hg⟩ := h
  exact ⟨by simpa using blk_set hb 0 (.int .u64 x), hg⟩
theorem cellS72_1 {W : World} {g : Nat} {f0 : Int} {f1 : Int} (h : W.heap[g]? = some (.cells #[.int .u64 f0, .int .u64 f1] 72 (0, 0))) : W.cell? ⟨g, 1, none⟩ = some (.int .u64 f1) := (blk_cell h 1).trans rfl
theorem IsS72.set_1 {w0 W : World} {g : Nat} {f0 : Int} {f1 : Int} (h : IsS72 w0 W g f0 f1) (x : Int) : IsS72 w0 (W.setCell ⟨g, 1, none⟩ (.int .u64 x)) g f0 x := by
  obtain ⟨hb, hg⟩ := h
  exact ⟨by simpa using blk_set hb 1 (.int .u64 x), hg⟩
theorem IsS72.new (w0 W : World) (f0 : Int) (f1 : Int) (hB : Below w0.heap.size w0 W) : IsS72 w0 (W.alloc (.cells #[.int .u64 f0, .int .u64 f1] 72)) W.heap.size f0 f1 := ⟨by simpa using heap_alloc_new W _, hB.size⟩
def cippuskit_Urn_turn.f (s0_0 : Int) (s0_1 : Int) : Option (Int × Int × Int) := if (Go.bits .or .u64 s0_1 (Go.bits .xor .u64 (Go.bits .xor .u64 (Go.bits .xor .u64 (Go.bits .xor .u64 s0_0 (IntKind.u64.wrap (s0_0 * 8388608))) s0_1) ((Go.bits .xor .u64 s0_0 (IntKind.u64.wrap (s0_0 * 8388608))) / 131072)) (s0_1 / 67108864))) = 0 then (some (IntKind.u64.wrap (1 + s0_1), s0_1, 1)) else (some (IntKind.u64.wrap ((Go.bits .xor .u64 (Go.bits .xor .u64 (Go.bits .xor .u64 (Go.bits .xor .u64 s0_0 (IntKind.u64.wrap (s0_0 * 8388608))) s0_1) ((Go.bits .xor .u64 s0_0 (IntKind.u64.wrap (s0_0 * 8388608))) / 131072)) (s0_1 / 67108864)) + s0_1), s0_1, Go.bits .xor .u64 (Go.bits .xor .u64 (Go.bits .xor .u64 (Go.bits .xor .u64 s0_0 (IntKind.u64.wrap (s0_0 * 8388608))) s0_1) ((Go.bits .xor .u64 s0_0 (IntKind.u64.wrap (s0_0 * 8388608))) / 131072)) (s0_1 / 67108864)))
set_option maxHeartbeats 8000000 in
set_option maxRecDepth 100000 in
theorem cippuskit_Urn_turn.calls (g : Nat) (s0_0 : Int) (s0_1 : Int) (r1 : Int) (r2 : Int) (r3 : Int) (w0 w : World) (hI : IsS72 w0 w g s0_0 s0_1) (hB : Below w0.heap.size w0 w) (h : cippuskit_Urn_turn.f s0_0 s0_1 = some (r1, r2, r3)) :
    Calls Try.prog 46 #[.pointer (some ⟨g, 0, none⟩)] w fun e w' => e = .returned (.int .u64 r1) ∧ IsS72 w0 w' g r2 r3 ∧ Below w0.heap.size w0 w' ∧ KeepBut w w' g none := by
  have HI0 := Aside0.mk hI
  have HK := Aside0.mk (KeepBut.refl w g none)
  have HL := Aside0.mk hB.size
  clear hI
  have HW0 := Aside0.mk hB.size
  have HB := Aside0.mk hB
  clear hB
  have H : (if (Go.bits .or .u64 s0_1 (Go.bits .xor .u64 (Go.bits .xor .u64 (Go.bits .xor .u64 (Go.bits .xor .u64 s0_0 (IntKind.u64.wrap (s0_0 * 8388608))) s0_1) ((Go.bits .xor .u64 s0_0 (IntKind.u64.wrap (s0_0 * 8388608))) / 131072)) (s0_1 / 67108864))) = 0 then (some (IntKind.u64.wrap (1 + s0_1), s0_1, 1)) else (some (IntKind.u64.wrap ((Go.bits .xor .u64 (Go.bits .xor .u64 (Go.bits .xor .u64 (Go.bits .xor .u64 s0_0 (IntKind.u64.wrap (s0_0 * 8388608))) s0_1) ((Go.bits .xor .u64 s0_0 (IntKind.u64.wrap (s0_0 * 8388608))) / 131072)) (s0_1 / 67108864)) + s0_1), s0_1, Go.bits .xor .u64 (Go.bits .xor .u64 (Go.bits .xor .u64 (Go.bits .xor .u64 s0_0 (IntKind.u64.wrap (s0_0 * 8388608))) s0_1) ((Go.bits .xor .u64 s0_0 (IntKind.u64.wrap (s0_0 * 8388608))) / 131072)) (s0_1 / 67108864)))) = some (r1, r2, r3) := h
  clear h
  by_cases c2 : (Go.bits .or .u64 s0_1 (Go.bits .xor .u64 (Go.bits .xor .u64 (Go.bits .xor .u64 (Go.bits .xor .u64 s0_0 (IntKind.u64.wrap (s0_0 * 8388608))) s0_1) ((Go.bits .xor .u64 s0_0 (IntKind.u64.wrap (s0_0 * 8388608))) / 131072)) (s0_1 / 67108864))) = 0
  · rw [if_pos c2] at H
    have c2b0 : ((Go.bits .or .u64 s0_1 (Go.bits .xor .u64 (Go.bits .xor .u64 (Go.bits .xor .u64 (Go.bits .xor .u64 s0_0 (IntKind.u64.wrap (s0_0 * 8388608))) s0_1) ((Go.bits .xor .u64 s0_0 (IntKind.u64.wrap (s0_0 * 8388608))) / 131072)) (s0_1 / 67108864))) == 0) = true := beq_iff_eq.mpr c2
    have c2b1 : ((Go.bits .or .u64 s0_1 (Go.bits .xor .u64 (Go.bits .xor .u64 (Go.bits .xor .u64 (Go.bits .xor .u64 s0_0 (IntKind.u64.wrap (s0_0 * 8388608))) s0_1) ((Go.bits .xor .u64 s0_0 (IntKind.u64.wrap (s0_0 * 8388608))) / 131072)) (s0_1 / 67108864))) != 0) = false := bne_eq_false_iff_eq.mpr c2
    clear c2
    simp only [Option.some.injEq, Prod.mk.injEq] at H
    obtain ⟨rfl, rfl, rfl⟩ := H
    obtain ⟨HGz3, hgz3⟩ := HI0.out
    have hcz3_0 := cellS72_0 HGz3
    have hcz3_1 := cellS72_1 HGz3
    have hfz3_0 := blk_frozen HGz3 0
    have hfz3_1 := blk_frozen HGz3 1
    clear HGz3 hgz3
    go_enter Try.func46, Try.ntmps46
    go_wp2
    repeat (go_quiet (fail); try go_wp2)
    go_ret
    exact ⟨by first | rfl | (simp [errW_none, errW_some] <;> rfl) | (simp [*, errW_none, errW_some] <;> rfl), by repeat (first | (with_reducible first | exact HI0.out | apply IsS72.alloc | apply IsS72.drewN | apply IsS72.drew | apply IsS72.set_0 | apply IsS72.set_1) | exact HI0.out), by repeat (first | (with_reducible first | exact HB.out | apply below_alloc | apply pw_below_drewN | apply below_drew1 | refine below_set ?_ (IsS72.ge HI0.out)) | exact HB.out), by repeat (first | (with_reducible first | exact HK.out | apply KeepBut.set_ | apply keep_drewN | apply keep_drew | apply keep_alloc) | exact HK.out)⟩
  · rw [if_neg c2] at H
    have c2b0 : ((Go.bits .or .u64 s0_1 (Go.bits .xor .u64 (Go.bits .xor .u64 (Go.bits .xor .u64 (Go.bits .xor .u64 s0_0 (IntKind.u64.wrap (s0_0 * 8388608))) s0_1) ((Go.bits .xor .u64 s0_0 (IntKind.u64.wrap (s0_0 * 8388608))) / 131072)) (s0_1 / 67108864))) == 0) = false := beq_eq_false_iff_ne.mpr c2
    have c2b1 : ((Go.bits .or .u64 s0_1 (Go.bits .xor .u64 (Go.bits .xor .u64 (Go.bits .xor .u64 (Go.bits .xor .u64 s0_0 (IntKind.u64.wrap (s0_0 * 8388608))) s0_1) ((Go.bits .xor .u64 s0_0 (IntKind.u64.wrap (s0_0 * 8388608))) / 131072)) (s0_1 / 67108864))) != 0) = true := bne_iff_ne.mpr c2
    simp only [Option.some.injEq, Prod.mk.injEq] at H
    obtain ⟨rfl, rfl, rfl⟩ := H
    obtain ⟨HGz4, hgz4⟩ := HI0.out
    have hcz4_0 := cellS72_0 HGz4
    have hcz4_1 := cellS72_1 HGz4
    have hfz4_0 := blk_frozen HGz4 0
    have hfz4_1 := blk_frozen HGz4 1
    clear HGz4 hgz4
    go_enter Try.func46, Try.ntmps46
    go_wp2
    repeat (go_quiet (fail); try go_wp2)
    go_ret
    exact ⟨by first | rfl | (simp [errW_none, errW_some] <;> rfl) | (simp [*, errW_none, errW_some] <;> rfl), by repeat (first | (with_reducible first | exact HI0.out | apply IsS72.alloc | apply IsS72.drewN | apply IsS72.drew | apply IsS72.set_0 | apply IsS72.set_1) | exact HI0.out), by repeat (first | (with_reducible first | exact HB.out | apply below_alloc | apply pw_below_drewN | apply below_drew1 | refine below_set ?_ (IsS72.ge HI0.out)) | exact HB.out), by repeat (first | (with_reducible first | exact HK.out | apply KeepBut.set_ | apply keep_drewN | apply keep_drew | apply keep_alloc) | exact HK.out)⟩
end Go.Proofs.Ytegjollhajgcdaa.P
namespace Go.Proofs.Ytegjollhajgcdaa.P
open Go.RowKit Go.Proofs.YtegjollhajgcdaaW.PrintWords Go.Proofs.YtegjollhajgcdaaW.PrintLast Go.Proofs.YtegjollhajgcdaaW.PrintMore
attribute [local go_sem] max2_int min2_int max_two min_two max_three min_three max_four min_four   -- for this text's walks alone
set_option linter.unusedVariables false
set_option linter.unusedSimpArgs false
def cippuskit_Urn_Up.f (s0_0 : Int) (s0_1 : Int) (a1 : Int) : Option (Int × Int × Int) := if a1 < 2 then (some (0, s0_0, s0_1)) else ((cippuskit_Urn_turn.f s0_0 s0_1).bind fun bt101 => (if (IntKind.u64.wrap (a1)) = 0 then (none) else (some (wrap64 (Int.tmod (bt101.1 / 2048) (IntKind.u64.wrap (a1))), bt101.2.1, bt101.2.2))))
set_option maxHeartbeats 8000000 in
set_option maxRecDepth 100000 in
theorem cippuskit_Urn_Up.calls (g : Nat) (s0_0 : Int) (s0_1 : Int) (a1 : Int) (r1 : Int) (r2 : Int) (r3 : Int) (w0 w : World) (hI : IsS72 w0 w g s0_0 s0_1) (hB : Below w0.heap.size w0 w) (h : cippuskit_Urn_Up.f s0_0 s0_1 a1 = some (r1, r2, r3)) :
    Calls Try.prog 28 #[.pointer (some ⟨g, 0, none⟩), .int .i64 a1] w fun e w' => e = .returned (.int .i64 r1) ∧ IsS72 w0 w' g r2 r3 ∧ Below w0.heap.size w0 w' ∧ KeepBut w w' g none := by
  have HI0 := Aside0.mk hI
  have HK := Aside0.mk (KeepBut.refl w g none)
  have HL := Aside0.mk hB.size
  clear hI
  have HW0 := Aside0.mk hB.size
  have HB := Aside0.mk hB
  clear hB
  have H : (if a1 < 2 then (some (0, s0_0, s0_1)) else ((cippuskit_Urn_turn.f s0_0 s0_1).bind fun bt101 => (if (IntKind.u64.wrap (a1)) = 0 then (none) else (some (wrap64 (Int.tmod (bt101.1 / 2048) (IntKind.u64.wrap (a1))), bt101.2.1, bt101.2.2))))) = some (r1, r2, r3) := h
  clear h
  by_cases c3 : a1 < 2
  · rw [if_pos c3] at H
    have c3b0 : decide (a1 < 2) = true := decide_eq_true c3
    clear c3
    simp only [Option.some.injEq, Prod.mk.injEq] at H
    obtain ⟨rfl, rfl, rfl⟩ := H
    go_enter Try.func28, Try.ntmps28
    go_wp2
    go_ret
    exact ⟨by first | rfl | (simp [errW_none, errW_some] <;> rfl) | (simp [*, errW_none, errW_some] <;> rfl), by repeat (first | (with_reducible first | exact HI0.out | apply IsS72.alloc | apply IsS72.drewN | apply IsS72.drew | apply IsS72.set_0 | apply IsS72.set_1) | exact HI0.out), by repeat (first | (with_reducible first | exact HB.out | apply below_alloc | apply pw_below_drewN | apply below_drew1 | refine below_set ?_ (IsS72.ge HI0.out)) | exact HB.out), by repeat (first | (with_reducible first | exact HK.out | apply KeepBut.set_ | apply keep_drewN | apply keep_drew | apply keep_alloc) | exact HK.out)⟩
  · rw [if_neg c3] at H
    have c3b0 : decide (a1 < 2) = false := decide_eq_false c3
    clear c3
    replace H := Option.bind_eq_some_iff.mp H
    obtain ⟨⟨t101, t102, t103⟩, A40, H⟩ := H
    replace H : (if (IntKind.u64.wrap (a1)) = 0 then (none) else (some (wrap64 (Int.tmod (t101 / 2048) (IntKind.u64.wrap (a1))), t102, t103))) = some (r1, r2, r3) := H
    have A4 := Aside0.mk A40
    clear A40
    by_cases c5 : (IntKind.u64.wrap (a1)) = 0
    · rw [if_pos c5] at H
      exact absurd H (by simp)
    · rw [if_neg c5] at H
      have c5b0 : ((IntKind.u64.wrap (a1)) == 0) = false := beq_eq_false_iff_ne.mpr c5
      have c5b1 : ((IntKind.u64.wrap (a1)) != 0) = true := bne_iff_ne.mpr c5
      simp only [Option.some.injEq, Prod.mk.injEq] at H
      obtain ⟨rfl, rfl, rfl⟩ := H
      go_enter Try.func28, Try.ntmps28
      go_wp2_with (first | ((with_reducible refine gate_callee (f := 46) rfl ?_); refine goesL_ (some 8) rfl rfl Try.func46 (by kernel_rfl) rfl #[.pointer (some ⟨g, 0, none⟩)] rfl (by (try simp only [List.map_toArray, List.map_cons, List.map_nil]); first | done | rfl | (simp only [List.length_drop, List.length_take]; rfl)) ?_; (with_reducible refine (cippuskit_Urn_turn.calls g s0_0 s0_1 t101 t102 t103 w0 _ ?side1 ?side2 A4.out).mono ?_); (case side1 => repeat (first | (with_reducible first | exact HI0.out | apply IsS72.alloc | apply IsS72.drewN | apply IsS72.drew | apply IsS72.set_0 | apply IsS72.set_1) | exact HI0.out)); (case side2 => repeat (first | (with_reducible first | exact HB.out | apply below_alloc | apply pw_below_drewN | apply below_drew1 | refine below_set ?_ (IsS72.ge HI0.out)) | exact HB.out)); rintro e w6 ⟨rfl, hi, hb, hk⟩; refine ⟨_, rfl, ?_⟩; have n0_ := Aside0.mk (KeepBut.trans (by repeat (first | (with_reducible first | exact HK.out | apply KeepBut.set_ | apply keep_drewN | apply keep_drew | apply keep_alloc) | exact HK.out)) hk (.inl rfl)); have n1_ := Aside0.mk (hb); have n2_ := Aside0.mk (hi); clear HK; clear HB; clear HI0; have HK := n0_; have HB := n1_; have HI0 := n2_; clear n0_ n1_ n2_; (try clear hb); (try clear hb2); (try clear hk); (try clear hi)))
      go_ret
      exact ⟨by first | rfl | (simp [errW_none, errW_some] <;> rfl) | (simp [*, errW_none, errW_some] <;> rfl), by repeat (first | (with_reducible first | exact HI0.out | apply IsS72.alloc | apply IsS72.drewN | apply IsS72.drew | apply IsS72.set_0 | apply IsS72.set_1) | exact HI0.out), by repeat (first | (with_reducible first | exact HB.out | apply below_alloc | apply pw_below_drewN | apply below_drew1 | refine below_set ?_ (IsS72.ge HI0.out)) | exact HB.out), by repeat (first | (with_reducible first | exact HK.out | apply KeepBut.set_ | apply keep_drewN | apply keep_drew | apply keep_alloc) | exact HK.out)⟩
end Go.Proofs.Ytegjollhajgcdaa.P
namespace Go.Proofs.Ytegjollhajgcdaa.P
open Go.RowKit Go.Proofs.YtegjollhajgcdaaW.PrintWords Go.Proofs.YtegjollhajgcdaaW.PrintLast Go.Proofs.YtegjollhajgcdaaW.PrintMore
attribute [local go_sem] max2_int min2_int max_two min_two max_three min_three max_four min_four   -- for this text's walks alone
set_option linter.unusedVariables false
set_option linter.unusedSimpArgs false
def cippuskit_Urn_Odds.f (s0_0 : Int) (s0_1 : Int) (a1 : Int) (a2 : Int) : Option (Bool × Int × Int) := (cippuskit_Urn_Up.f s0_0 s0_1 a2).bind fun bt104 => (some (decide (bt104.1 < a1), bt104.2.1, bt104.2.2))
set_option maxHeartbeats 8000000 in
set_option maxRecDepth 100000 in
theorem cippuskit_Urn_Odds.calls (g : Nat) (s0_0 : Int) (s0_1 : Int) (a1 : Int) (a2 : Int) (r1 : Bool) (r2 : Int) (r3 : Int) (w0 w : World) (hI : IsS72 w0 w g s0_0 s0_1) (hB : Below w0.heap.size w0 w) (h : cippuskit_Urn_Odds.f s0_0 s0_1 a1 a2 = some (r1, r2, r3)) :
    Calls Try.prog 27 #[.pointer (some ⟨g, 0, none⟩), .int .i64 a1, .int .i64 a2] w fun e w' => e = .returned (.bool r1) ∧ IsS72 w0 w' g r2 r3 ∧ Below w0.heap.size w0 w' ∧ KeepBut w w' g none := by
  have HI0 := Aside0.mk hI
  have HK := Aside0.mk (KeepBut.refl w g none)
  have HL := Aside0.mk hB.size
  clear hI
  have HW0 := Aside0.mk hB.size
  have HB := Aside0.mk hB
  clear hB
  have H : ((cippuskit_Urn_Up.f s0_0 s0_1 a2).bind fun bt104 => (some (decide (bt104.1 < a1), bt104.2.1, bt104.2.2))) = some (r1, r2, r3) := h
  clear h
  replace H := Option.bind_eq_some_iff.mp H
  obtain ⟨⟨t104, t105, t106⟩, A40, H⟩ := H
  replace H : (some (decide (t104 < a1), t105, t106)) = some (r1, r2, r3) := H
  have A4 := Aside0.mk A40
  clear A40
  simp only [Option.some.injEq, Prod.mk.injEq] at H
  obtain ⟨rfl, rfl, rfl⟩ := H
  go_enter Try.func27, Try.ntmps27
  go_wp2_with (first | ((with_reducible refine gate_callee (f := 28) rfl ?_); refine goesL_ (some 9) rfl rfl Try.func28 (by kernel_rfl) rfl #[.pointer (some ⟨g, 0, none⟩), .int .i64 a2] rfl (by (try simp only [List.map_toArray, List.map_cons, List.map_nil]); first | done | rfl | (simp only [List.length_drop, List.length_take]; rfl)) ?_; (with_reducible refine (cippuskit_Urn_Up.calls g s0_0 s0_1 a2 t104 t105 t106 w0 _ ?side1 ?side2 A4.out).mono ?_); (case side1 => repeat (first | (with_reducible first | exact HI0.out | apply IsS72.alloc | apply IsS72.drewN | apply IsS72.drew | apply IsS72.set_0 | apply IsS72.set_1) | exact HI0.out)); (case side2 => repeat (first | (with_reducible first | exact HB.out | apply below_alloc | apply pw_below_drewN | apply below_drew1 | refine below_set ?_ (IsS72.ge HI0.out)) | exact HB.out)); rintro e w5 ⟨rfl, hi, hb, hk⟩; refine ⟨_, rfl, ?_⟩; have n0_ := Aside0.mk (KeepBut.trans (by repeat (first | (with_reducible first | exact HK.out | apply KeepBut.set_ | apply keep_drewN | apply keep_drew | apply keep_alloc) | exact HK.out)) hk (.inl rfl)); have n1_ := Aside0.mk (hb); have n2_ := Aside0.mk (hi); clear HK; clear HB; clear HI0; have HK := n0_; have HB := n1_; have HI0 := n2_; clear n0_ n1_ n2_; (try clear hb); (try clear hb2); (try clear hk); (try clear hi)))
  go_ret
  exact ⟨by first | rfl | (simp [errW_none, errW_some] <;> rfl) | (simp [*, errW_none, errW_some] <;> rfl), by repeat (first | (with_reducible first | exact HI0.out | apply IsS72.alloc | apply IsS72.drewN | apply IsS72.drew | apply IsS72.set_0 | apply IsS72.set_1) | exact HI0.out), by repeat (first | (with_reducible first | exact HB.out | apply below_alloc | apply pw_below_drewN | apply below_drew1 | refine below_set ?_ (IsS72.ge HI0.out)) | exact HB.out), by repeat (first | (with_reducible first | exact HK.out | apply KeepBut.set_ | apply keep_drewN | apply keep_drew | apply keep_alloc) | exact HK.out)⟩
end Go.Proofs.Ytegjollhajgcdaa.P
namespace Go.Proofs.Ytegjollhajgcdaa.P
open Go.RowKit Go.Proofs.YtegjollhajgcdaaW.PrintWords Go.Proofs.YtegjollhajgcdaaW.PrintLast Go.Proofs.YtegjollhajgcdaaW.PrintMore
attribute [local go_sem] max2_int min2_int max_two min_two max_three min_three max_four min_four   -- for this text's walks alone
set_option linter.unusedVariables false
set_option linter.unusedSimpArgs false
def cippuskit_Urn_From.f (s0_0 : Int) (s0_1 : Int) (a1 : Int) (a2 : Int) : Option (Int × Int × Int) := (cippuskit_Urn_Up.f s0_0 s0_1 (wrap64 ((wrap64 (a2 - a1)) + 1))).bind fun bt107 => (some (wrap64 (a1 + bt107.1), bt107.2.1, bt107.2.2))
set_option maxHeartbeats 8000000 in
set_option maxRecDepth 100000 in
theorem cippuskit_Urn_From.calls (g : Nat) (s0_0 : Int) (s0_1 : Int) (a1 : Int) (a2 : Int) (r1 : Int) (r2 : Int) (r3 : Int) (w0 w : World) (hI : IsS72 w0 w g s0_0 s0_1) (hB : Below w0.heap.size w0 w) (h : cippuskit_Urn_From.f s0_0 s0_1 a1 a2 = some (r1, r2, r3)) :
    Calls Try.prog 44 #[.pointer (some ⟨g, 0, none⟩), .int .i64 a1, .int .i64 a2] w fun e w' => e = .returned (.int .i64 r1) ∧ IsS72 w0 w' g r2 r3 ∧ Below w0.heap.size w0 w' ∧ KeepBut w w' g none := by
  have HI0 := Aside0.mk hI
  have HK := Aside0.mk (KeepBut.refl w g none)
  have HL := Aside0.mk hB.size
  clear hI
  have HW0 := Aside0.mk hB.size
  have HB := Aside0.mk hB
  clear hB
  have H : ((cippuskit_Urn_Up.f s0_0 s0_1 (wrap64 ((wrap64 (a2 - a1)) + 1))).bind fun bt107 => (some (wrap64 (a1 + bt107.1), bt107.2.1, bt107.2.2))) = some (r1, r2, r3) := h
  clear h
  replace H := Option.bind_eq_some_iff.mp H
  obtain ⟨⟨t107, t108, t109⟩, A40, H⟩ := H
  replace H : (some (wrap64 (a1 + t107), t108, t109)) = some (r1, r2, r3) := H
  have A4 := Aside0.mk A40
  clear A40
  simp only [Option.some.injEq, Prod.mk.injEq] at H
  obtain ⟨rfl, rfl, rfl⟩ := H
  go_enter Try.func44, Try.ntmps44
  go_wp2_with (first | ((with_reducible refine gate_callee (f := 28) rfl ?_); refine goesL_ (some 13) rfl rfl Try.func28 (by kernel_rfl) rfl #[.pointer (some ⟨g, 0, none⟩), .int .i64 (wrap64 ((wrap64 (a2 - a1)) + 1))] rfl (by (try simp only [List.map_toArray, List.map_cons, List.map_nil]); first | done | rfl | (simp only [List.length_drop, List.length_take]; rfl)) ?_; (with_reducible refine (cippuskit_Urn_Up.calls g s0_0 s0_1 (wrap64 ((wrap64 (a2 - a1)) + 1)) t107 t108 t109 w0 _ ?side1 ?side2 A4.out).mono ?_); (case side1 => repeat (first | (with_reducible first | exact HI0.out | apply IsS72.alloc | apply IsS72.drewN | apply IsS72.drew | apply IsS72.set_0 | apply IsS72.set_1) | exact HI0.out)); (case side2 => repeat (first | (with_reducible first | exact HB.out | apply below_alloc | apply pw_below_drewN | apply below_drew1 | refine below_set ?_ (IsS72.ge HI0.out)) | exact HB.out)); rintro e w5 ⟨rfl, hi, hb, hk⟩; refine ⟨_, rfl, ?_⟩; have n0_ := Aside0.mk (KeepBut.trans (by repeat (first | (with_reducible first | exact HK.out | apply KeepBut.set_ | apply keep_drewN | apply keep_drew | apply keep_alloc) | exact HK.out)) hk (.inl rfl)); have n1_ := Aside0.mk (hb); have n2_ := Aside0.mk (hi); clear HK; clear HB; clear HI0; have HK := n0_; have HB := n1_; have HI0 := n2_; clear n0_ n1_ n2_; (try clear hb); (try clear hb2); (try clear hk); (try clear hi)))
  go_ret
  exact ⟨by first | rfl | (simp [errW_none, errW_some] <;> rfl) | (simp [*, errW_none, errW_some] <;> rfl), by repeat (first | (with_reducible first | exact HI0.out | apply IsS72.alloc | apply IsS72.drewN | apply IsS72.drew | apply IsS72.set_0 | apply IsS72.set_1) | exact HI0.out), by repeat (first | (with_reducible first | exact HB.out | apply below_alloc | apply pw_below_drewN | apply below_drew1 | refine below_set ?_ (IsS72.ge HI0.out)) | exact HB.out), by repeat (first | (with_reducible first | exact HK.out | apply KeepBut.set_ | apply keep_drewN | apply keep_drew | apply keep_alloc) | exact HK.out)⟩
end Go.Proofs.Ytegjollhajgcdaa.P
namespace Go.Proofs.Ytegjollhajgcdaa.P.OwnUrn
open Go.RowKit Go.Proofs.YtegjollhajgcdaaW.PrintWords Go.Proofs.YtegjollhajgcdaaW.PrintLast Go.Proofs.YtegjollhajgcdaaW.PrintMore
def urnGo : List Int → Int → Int → Option (Int × Int)
  | [], a, b => some (a, b)
  | x :: xs, a, b => (cippuskit_Urn_turn.f a (IntKind.u64.wrap (b + IntKind.u64.wrap x))).bind fun t => (cippuskit_Urn_turn.f t.2.1 t.2.2).bind fun t2 => urnGo xs t2.2.1 t2.2.2
def newUrn (l : List Int) : Option (Int × Int) := if l.length < 4611686018427387904 then urnGo l 11400714819323198485 14029467366897019727 else none
def erredGo : Nat → List Int → Int → Int → Option (List Int × Int × Int)
  | 0, b, s0, s1 => some (b, s0, s1)
  | n + 1, b, s0, s1 => (cippuskit_Urn_Up.f s0 s1 (b.length : Int)).bind fun t => (cippuskit_Urn_Up.f t.2.1 t.2.2 3).bind fun u =>
    if 0 ≤ t.1 ∧ t.1 < (b.length : Int) then erredGo n (b.set t.1.toNat ((wrap64 (65 + u.1)) % 256)) u.2.1 u.2.2 else none
def erred (s0 s1 : Int) (a1 : ByteArray) (a2 : Int) : Option (ByteArray × Int × Int) :=
  if a1.size ≤ 9223372036854775807 ∧ a2 ≤ 9223372036854775807 then (erredGo a2.toNat (bytesOf a1) s0 s1).map fun r => (strOfNums r.1, r.2.1, r.2.2) else none
def stoneGo : Nat → Int → Int → ByteArray → Option (ByteArray × Int × Int)
  | 0, a, b, s => some (s, a, b)
  | n + 1, a, b, s => (cippuskit_Urn_Up.f a b 3).bind fun t => if s.size + 1 ≤ 9223372036854775807 then stoneGo n t.2.1 t.2.2 (s ++ strOfNums [(wrap64 (65 + t.1)) % 256]) else none
def copyGo : Nat → Int → ByteArray → List S24 → List Int → Int → Int → Option (List S24 × List Int × Int × Int)
  | 0, _, _, l, src, a, b => some (l, src, a, b)
  | n + 1, er, st, l, src, a, b => (cippuskit_Urn_From.f a b (-1) (wrap64 ((l.length : Int) - 1))).bind fun t => (cippuskit_Urn_Up.f t.2.1 t.2.2 (wrap64 (er + 1))).bind fun u =>
    (if t.1 < 0 then some (true, u.2.1, u.2.2) else cippuskit_Urn_Odds.f u.2.1 u.2.2 1 2).bind fun o =>
    (if 0 ≤ t.1 then (if t.1 < (l.length : Int) then some (rd_T24 l t.1).f0 else none) else some st).bind fun fr =>
    (erred o.2.1 o.2.2 fr u.1).bind fun e =>
    if l.length + 1 < 4398046511104 ∧ src.length + 1 < 17592186044416 then copyGo n er st (l ++ [⟨e.1, u.1, o.1⟩]) (src ++ [t.1]) e.2.1 e.2.2 else none
def copiesOf (s0 s1 copies places errors : Int) : Option (List S24 × ByteArray × List Int × Int × Int) :=
  (cippuskit_Urn_From.f s0 s1 1 places).bind fun t => (stoneGo t.1.toNat t.2.1 t.2.2 ⟨#[]⟩).bind fun s => (cippuskit_Urn_From.f s.2.1 s.2.2 1 copies).bind fun t =>
    (copyGo t.1.toNat errors s.1 [] [] t.2.1 t.2.2).map fun r => (r.1, s.1, r.2.1, r.2.2.1, r.2.2.2)
end Go.Proofs.Ytegjollhajgcdaa.P.OwnUrn
namespace Go.Proofs.Ytegjollhajgcdaa.P.OwnUrn
open Go.RowKit Go.Proofs.YtegjollhajgcdaaW.PrintWords Go.Proofs.YtegjollhajgcdaaW.PrintLast Go.Proofs.YtegjollhajgcdaaW.PrintMore
set_option linter.unusedVariables false
theorem below_of_keep {w0 w W W' : World} {g : Nat} (h0 : Below w0.heap.size w0 w) (h1 : Below w0.heap.size w0 W') (hw : Below w.heap.size w W) (hk : KeepBut W W' g none) (hg : w.heap.size ≤ g) : Below w.heap.size w W' :=
  ⟨h1.os.trans h0.os.symm, h1.tape.trans h0.tape.symm, h1.output.trans h0.output.symm, Nat.le_trans hw.size hk.1, fun k hk' => (hk.2 k (Nat.lt_of_lt_of_le hk' hw.size) (by omega) (by simp)).trans (hw.block k hk')⟩
def RelNew (w0 w : World) (l0 : List Int) (r1 r2 : Int) (k : Nat) (wr : World) : Prop :=
  ∃ a b : Int, IsS72 w0 wr w.heap.size a b ∧ Below w0.heap.size w0 wr ∧ Below w.heap.size w wr ∧ urnGo (l0.drop k) a b = some (r1, r2)
set_option maxHeartbeats 4000000 in
set_option maxRecDepth 100000 in
theorem newUrn_calls (A0 : Option Addr) (c0 : Nat) (l0 : List Int) (r1 : Int) (r2 : Int) (w0 w : World) (hB : Below w0.heap.size w0 w) (hr0 : Kd.C (Kd.int .i64) w0 A0 l0.length l0) (hc0 : l0.length ≤ c0) (h : newUrn l0 = some (r1, r2)) :
    Calls Try.prog 14 #[.slice A0 l0.length c0] w fun e w' => ∃ g_ : Nat, e = .returned (.pointer (some ⟨g_, 0, none⟩)) ∧ IsS72 w0 w' g_ r1 r2 ∧ Below w0.heap.size w0 w' ∧ Below w.heap.size w w' := by
  have hlen : l0.length < 4611686018427387904 := by
    unfold newUrn at h
    split at h
    · assumption
    · cases h
  rw [newUrn, if_pos hlen] at h
  have H := Lib.hid h; clear h
  have HB := Aside0.mk hB; clear hB
  have HR := Aside0.mk hr0; clear hr0
  go_enter Try.func14, Try.ntmps14
  go_wp2
  go_loopw [4] (fun v wr => ∃ k : Nat, v = .int .i64 k ∧ k ≤ l0.length ∧ RelNew w0 w l0 r1 r2 k wr) (fun v _ => l0.length - (intOf v).toNat)
  case atStart =>
    refine ⟨0, rfl, Nat.zero_le _, _, _, IsS72.new w0 w _ _ HB.out, ?_, ?_, H.out⟩
    · exact HB.out.alloc HB.out.size _
    · exact (Below.refl _ _).alloc (Nat.le_refl _) _
  case round =>
    obtain ⟨k, rfl, hk, a, b, hI, hb0, hb1, hg⟩ := hrel
    by_cases hlt : k < l0.length
    · obtain ⟨ad, e, hx⟩ := Kd.at_int HR.out (k : Int) (by omega) (by omega)
      subst e
      simp only [Int.toNat_natCast] at hx
      replace hx := (hb0.cell (World.block_lt_of_cell? w0 _ hx)).trans hx
      obtain ⟨HG, hg0⟩ := id hI
      have hc0 := cellS72_0 HG
      have hc1 := cellS72_1 HG
      have hf0 := blk_frozen HG 0
      have hf1 := blk_frozen HG 1
      have hlt' : (k : Int) < (l0.length : Int) := by omega
      have hd : l0.drop k = rd l0 k :: l0.drop (k + 1) := by rw [List.drop_eq_getElem_cons hlt]; simp [rd, List.getD_eq_getElem?_getD, hlt]
      rw [hd, urnGo, Option.bind_eq_some_iff] at hg
      obtain ⟨⟨t1, t2, t3⟩, ht, hg⟩ := hg
      rw [Option.bind_eq_some_iff] at hg
      obtain ⟨⟨u1, u2, u3⟩, hu, hg⟩ := hg
      dsimp only at hu hg
      have HT := Aside0.mk ht; clear ht
      have HU := Aside0.mk hu; clear hu
      have HG2 := Aside0.mk hg; clear hg hd
      go_wp2_with fail
      go_region
      go_wp2_with fail
      refine (cippuskit_Urn_turn.calls _ _ _ _ _ _ w0 _ ((hI.set_1 _).drew) (below_drew (below_set hb0 hg0)) HT.out).mono ?_
      rintro e w1 ⟨rfl, hI1, hB1, hK1⟩
      go_wp2_with fail
      refine (cippuskit_Urn_turn.calls _ _ _ _ _ _ w0 _ hI1 hB1 HU.out).mono ?_
      rintro e w2 ⟨rfl, hI2, hB2, hK2⟩
      go_wp2_with fail
      go_roundw
      case rel =>
        refine ⟨k + 1, by go_num, by omega, _, _, hI2, hB2, ?_, HG2.out⟩
        exact below_of_keep HB.out hB2 (below_of_keep HB.out hB1 (below_drew (below_set hb1 (Nat.le_refl _))) hK1 (Nat.le_refl _)) hK2 (Nat.le_refl _)
      case measure => simp [intOf]; omega
    · go_wp2
      go_ret
      refine ⟨_, rfl, ?_, hb0, hb1⟩
      rw [List.drop_of_length_le (by omega)] at hg
      simp only [urnGo, Option.some.injEq, Prod.mk.injEq] at hg
      obtain ⟨rfl, rfl⟩ := hg
      exact hI
def Buf (W : World) (gb : Nat) (xs : List Int) : Prop := (∀ i, i < xs.length → W.cell? ⟨gb, i, none⟩ = some (.int .u8 (rd xs i)) ∧ W.frozen? ⟨gb, i, none⟩ = false) ∧ gb < W.heap.size
theorem Buf.keep {W W' : World} {gb : Nat} {xs : List Int} (h : Buf W gb xs) (hb : W'.heap[gb]? = W.heap[gb]?) (hs : W.heap.size ≤ W'.heap.size) : Buf W' gb xs :=
  ⟨fun i hi => ⟨(World.cell?_of_block (a := ⟨gb, i, none⟩) hb).trans (h.1 i hi).1, (World.frozen?_of_block (a := ⟨gb, i, none⟩) hb).trans (h.1 i hi).2⟩, Nat.lt_of_lt_of_le h.2 hs⟩
theorem Buf.set {W : World} {gb : Nat} {xs : List Int} (h : Buf W gb xs) (i : Nat) (hi : i < xs.length) (x : Int) : Buf (W.setCell ⟨gb, i, none⟩ (.int .u8 x)) gb (xs.set i x) := by
  refine ⟨fun j hj => ?_, by simpa using h.2⟩
  rw [List.length_set] at hj
  refine ⟨?_, by rw [World.frozen?_setCell]; exact (h.1 j hj).2⟩
  by_cases e : j = i
  · subst e
    rw [World.cell?_setCell_same' _ _ _ (by rw [(h.1 j hj).1]; rfl)]
    simp [rd, List.getD_eq_getElem?_getD, hj]
  · rw [World.cell?_setCell_other W _ (a := ⟨gb, i, none⟩) (b := ⟨gb, j, none⟩) (fun e_ => e (by injection e_ with _ h2; exact h2.symm)), (h.1 j hj).1]
    simp [rd, List.getD_eq_getElem?_getD, List.getElem?_set, Ne.symm e]
theorem Buf.reads {W : World} {gb : Nat} {xs : List Int} (h : Buf W gb xs) (hm : xs.length ≤ 9223372036854775807) : ReadsInt W .u8 (some ⟨gb, 0, none⟩) xs.length xs :=
  ⟨rfl, hm, fun _ => ⟨_, rfl, fun j hj => by
    have := (h.1 j hj).1
    rw [add_plain]
    rw [this]
    simp [rd, List.getD_eq_getElem?_getD]⟩⟩
theorem Buf.new (W : World) (s : ByteArray) : Buf (Lib.bytesWorld W 5 s) W.heap.size (bytesOf s) := by
  refine ⟨fun i hi => ?_, by rw [Lib.bytesWorld_size]; omega⟩
  rw [bytesOf_length] at hi
  refine ⟨?_, ?_⟩
  · rw [Lib.bytesWorld_cell _ _ _ _ hi]
    simp [rd, bytesOf, List.getD_eq_getElem?_getD, hi]
  · unfold World.frozen?
    rw [Lib.bytesWorld_at_new]
    have hz : s.size ≤ (Lib.bytesCells W 5 s).size := by
      unfold Lib.bytesCells; rw [Array.size_append, Array.size_map]; exact Nat.le_add_right _ _
    simp
    omega
def RelErr (w0 w : World) (g : Nat) (n m : Nat) (L : List Int) (r2 r3 : Int) (k : Nat) (wr : World) : Prop :=
  ∃ (xs : List Int) (a b : Int), IsS72 w0 wr g a b ∧ Below w0.heap.size w0 wr ∧ KeepBut w wr g none ∧ Buf wr w.heap.size xs ∧ xs.length = m ∧ erredGo (n - k) xs a b = some (L, r2, r3)
set_option maxHeartbeats 4000000 in
set_option maxRecDepth 100000 in
theorem erred_calls (g : Nat) (s0_0 : Int) (s0_1 : Int) (a1 : ByteArray) (a2 : Int) (r1 : ByteArray) (r2 : Int) (r3 : Int) (w0 w : World) (hI : IsS72 w0 w g s0_0 s0_1) (hB : Below w0.heap.size w0 w) (h : erred s0_0 s0_1 a1 a2 = some (r1, r2, r3)) :
    Calls Try.prog 45 #[.pointer (some ⟨g, 0, none⟩), .string a1, .int .i64 a2] w fun e w' => e = .returned (.string r1) ∧ IsS72 w0 w' g r2 r3 ∧ Below w0.heap.size w0 w' ∧ KeepBut w w' g none := by
  unfold erred at h
  split at h
  case isFalse => cases h
  case isTrue hsz =>
  obtain ⟨hs1, hs2⟩ := hsz
  rw [Option.map_eq_some_iff] at h
  obtain ⟨⟨L, p, q⟩, he, hr⟩ := h
  simp only [Prod.mk.injEq] at hr
  obtain ⟨rfl, rfl, rfl⟩ := hr
  have HE := Lib.hid he; clear he
  have HI := Aside0.mk hI
  have HB := Aside0.mk hB
  have hgw : g < w.heap.size := hI.lt
  clear hI hB
  have kc := fun W => print_bytes (P := Try.prog) 9 61 5 Try.underlying9 Try.underlying61 Try.underlying5 a1 W
  go_enter Try.func45, Try.ntmps45
  go_wp2
  clear kc
  go_loopw [8] (fun v wr => ∃ k : Nat, v = .int .i64 k ∧ (k : Int) ≤ max a2 0 ∧ RelErr w0 w g a2.toNat a1.size L p q k wr) (fun v _ => a2.toNat - (intOf v).toNat)
  case atStart =>
    refine ⟨0, rfl, by omega, bytesOf a1, s0_0, s0_1, ?_, ?_, ?_, Buf.new w a1, bytesOf_length _, HE.out⟩
    · exact ⟨(Lib.bytesWorld_at_old w 5 a1 g hgw).trans HI.out.1, HI.out.2⟩
    · exact bytes_below HB.out HB.out.size _ _
    · exact ⟨by rw [Lib.bytesWorld_size]; omega, fun i hi _ _ => Lib.bytesWorld_at_old w 5 a1 i hi⟩
  case round =>
    obtain ⟨k, rfl, hk, xs, a, b, hI, hb0, hK, hbuf, hxl, hg⟩ := hrel
    have HI2 := Aside0.mk hI
    have HB2 := Aside0.mk hb0
    have HK := Aside0.mk hK
    have HBuf := Aside0.mk hbuf
    have HG := Aside0.mk hg
    clear hI hb0 hK hbuf hg
    by_cases hlt : (k : Int) < a2
    · obtain ⟨n, hn⟩ : ∃ n, a2.toNat - k = n + 1 := ⟨a2.toNat - k - 1, by omega⟩
      have hg := HG.out
      rw [hn, erredGo, Option.bind_eq_some_iff] at hg
      obtain ⟨⟨t1, t2, t3⟩, ht, hg⟩ := hg
      rw [Option.bind_eq_some_iff] at hg
      obtain ⟨⟨u1, u2, u3⟩, hu, hg⟩ := hg
      dsimp only at hu hg
      split at hg
      case isFalse => cases hg
      case isTrue hix =>
      obtain ⟨hi0, hi1⟩ := hix
      obtain ⟨j, rfl⟩ := Int.eq_ofNat_of_zero_le hi0
      simp only [Int.toNat_natCast] at hg
      rw [hxl] at ht
      have HT := Aside0.mk ht; clear ht
      have HU := Aside0.mk hu; clear hu
      have hn' : n = a2.toNat - (k + 1) := by omega
      subst hn'
      have HG2 := Aside0.mk hg; clear hg hn
      go_wp2_with fail
      refine (cippuskit_Urn_Up.calls _ _ _ _ _ _ _ w0 _ HI2.out HB2.out HT.out).mono ?_
      rintro e w1 ⟨rfl, hI1, hB1, hK1⟩
      go_wp2_with fail
      refine (cippuskit_Urn_Up.calls _ _ _ _ _ _ _ w0 _ hI1 hB1 HU.out).mono ?_
      rintro e w2 ⟨rfl, hI2, hB2, hK2⟩
      have hbuf2 : Buf w2 w.heap.size xs := (HBuf.out.keep (hK1.2 _ HBuf.out.2 (by omega) (by simp)) hK1.1).keep (hK2.2 _ (Nat.lt_of_lt_of_le HBuf.out.2 hK1.1) (by omega) (by simp)) hK2.1
      have hj : j < xs.length := by omega
      obtain ⟨hcj, hfj⟩ := hbuf2.1 j hj
      have hj2 : (j : Int) < (a1.size : Int) := by omega
      have HBuf2 := Aside0.mk hbuf2
      have HIa := Aside0.mk hI2
      have HBa := Aside0.mk hB2
      have HKa := Aside0.mk hK2
      have HKb := Aside0.mk hK1
      clear hbuf2 hI2 hB2 hK2 hK1 hI1 hB1
      go_wp2_with fail
      go_roundw
      case rel =>
        refine ⟨k + 1, by go_num, by omega, xs.set j _, u2, u3, ?_, ?_, ?_, HBuf2.out.set j hj _, by rw [List.length_set]; exact hxl, HG2.out⟩
        · exact HIa.out.far (by simp; omega) _
        · exact HBa.out.setCell (Nat.le_trans HB.out.size (by simp)) _
        · exact keep_far (((HK.out).trans HKb.out (.inl rfl)).trans HKa.out (.inl rfl)) (by simp) _
      case measure => simp [intOf]; omega
    · have hk0 : a2.toNat - k = 0 := by omega
      have hg := HG.out
      rw [hk0, erredGo] at hg
      simp only [Option.some.injEq, Prod.mk.injEq] at hg
      obtain ⟨rfl, rfl, rfl⟩ := hg
      have kc := string_of_reads (src := 61) (dst := 9) (c := grownCap w a1.size 0 5) Try.underlying61 Try.underlying5 Try.underlying9 (HBuf.out.reads (by omega))
      rw [hxl] at kc
      go_wp2
      go_ret
      exact ⟨rfl, HI2.out, HB2.out, HK.out⟩
end Go.Proofs.Ytegjollhajgcdaa.P.OwnUrn
namespace Go.Proofs.Ytegjollhajgcdaa.OLies
open Go.RowKit Go.Proofs.YtegjollhajgcdaaW.PrintWords Go.Proofs.YtegjollhajgcdaaW.PrintLast Go.Proofs.YtegjollhajgcdaaW.PrintMore
section
variable {P : Program} {ops : Array Oper} {o : Oper} {a : Act} {Q : Exit → Act → World → Prop} {Kc : Act → World → Prop} {α : Type}
theorem R_append_lies (d : Kd α) {w0 W : World} (base : Nat) (s x : Operand) (t e : TypeId) (z : Value) (bytes : Nat)
    (ho : o.op = .call { callee := .builtin .append, args := #[s, x], argTypes := #[t, t] })
    (ht : P.underlying t = some (.slice e)) (hinfo : (P.info? e).map (fun i => (i.zero, i.size, i.bytes)) = some (some z, d.sz, bytes)) (hz : z.cells.size = d.sz) (hs0 : 0 < d.sz) (hb0 : 0 < bytes)
    (v : Value) (xs : List α) (p : α) (cs : List Value) (ok okp : Nat → Prop) (B : Nat) (fr : Nat × Nat) (hs : a.eval s = v) (hx : a.eval x = .slice (some ⟨B, 0, none⟩) 1 1) (hblk : W.heap[B]? = some (.cells cs.toArray e fr))
    (hp : d.M W base okp p cs) (hokp : ∀ k, okp k → ok k ∧ some k ≠ v.ownBlock) (hfresh : ∀ k, W.heap.size ≤ k → ok k)
    (HO : d.R e W base ok v xs) (HB : Below base w0 W) (hbase : base ≤ W.heap.size) (hl : (xs.length + 1) * bytes ≤ 140737488355328)
    (h : ∀ v1 w1, d.R e w1 base ok v1 (xs ++ [p]) → Below base w0 w1 → W.grownBy w1 v.ownBlock → (v1.ownBlock = v.ownBlock ∨ ∃ b, v1.ownBlock = some b ∧ W.heap.size ≤ b) → Kc (a.put o.dst v1) w1) :
    Oper.wp P o a W Kc Q := by
  obtain ⟨h0, inner, hown, hr⟩ := HO
  obtain ⟨i0, hi, hzz⟩ := Option.map_eq_some_iff.1 hinfo
  simp only [Prod.mk.injEq] at hzz
  obtain ⟨hz0, hz1, hz2⟩ := hzz
  have hlen : xs.length + 1 ≤ 140737488355328 := Nat.le_trans (Nat.le_mul_of_pos_right _ hb0) hl
  have hcl := d.K_len (d.K_of_M hp)
  refine wp_append_lies W s x t ho base e i0 z d.sz bytes ht hi hz0 hz1 hz2 hz hs0 v xs.length inner hs hown ⟨B, 0, none⟩ 1 1 cs hx (by rw [hcl]; simp)
    (by simpa using World.news_of_block (cs := cs.toArray) hblk) (d.K_one (d.K_of_M hp)) (by decide) (by simp only [maxLen]; omega) hl hbase _ rfl ?_
  intro g cap w1 hown1 hg1 hat1 hlt
  have hat : (Value.slice (some ⟨g, 0, none⟩) (xs.length + 1) cap).ownBlock = v.ownBlock ∨ ∃ b, (Value.slice (some ⟨g, 0, none⟩) (xs.length + 1) cap).ownBlock = some b ∧ W.heap.size ≤ b := by
    rcases hat1 with hat1 | hat1
    · exact .inl (by rw [hat1]; rfl)
    · exact .inr ⟨g, rfl, by omega⟩
  exact h _ _ (Kd.R_appended h0 hr hp hokp hfresh hown1 hg1 hat) (HB.grown hg1 hbase (own_base hown)) hg1 hat
theorem R_append_lies_step (d : Kd α) {w0 W : World} {E : Prop} (base : Nat) (hgd : o.guard = none) (s x : Operand) (t e : TypeId) (z : Value) (bytes : Nat)
    (ho : o.op = .call { callee := .builtin .append, args := #[s, x], argTypes := #[t, t] })
    (ht : P.underlying t = some (.slice e)) (hinfo : (P.info? e).map (fun i => (i.zero, i.size, i.bytes)) = some (some z, d.sz, bytes)) (hz : z.cells.size = d.sz) (hs0 : 0 < d.sz) (hb0 : 0 < bytes)
    (v : Value) (xs : List α) (p : α) (cs : List Value) (ok okp : Nat → Prop) (B : Nat) (fr : Nat × Nat) (hs : a.eval s = v) (hx : a.eval x = .slice (some ⟨B, 0, none⟩) 1 1) (hblk : W.heap[B]? = some (.cells cs.toArray e fr))
    (hp : d.M W base okp p cs) (hokp : ∀ k, okp k → ok k ∧ some k ≠ v.ownBlock) (hfresh : ∀ k, W.heap.size ≤ k → ok k)
    (HO : d.R e W base ok v xs) (HB : Below base w0 W) (hbase : base ≤ W.heap.size) (hl : (xs.length + 1) * bytes ≤ 140737488355328)
    (h : ∀ v1 w1, d.R e w1 base ok v1 (xs ++ [p]) → Below base w0 w1 → W.grownBy w1 v.ownBlock → (v1.ownBlock = v.ownBlock ∨ ∃ b, v1.ownBlock = some b ∧ W.heap.size ≤ b) → Kc (a.put o.dst v1) w1) :
    if Region.wanted o (yielded ops a.tmps) = true then Oper.wp P o a W Kc Q else E := by
  have hw : Region.wanted o (yielded ops a.tmps) = true := by simp [Region.wanted, hgd]
  rw [if_pos hw]
  exact R_append_lies d base s x t e z bytes ho ht hinfo hz hs0 hb0 v xs p cs ok okp B fr hs hx hblk hp hokp hfresh HO HB hbase hl h
end
end Go.Proofs.Ytegjollhajgcdaa.OLies
namespace Go.Proofs.Ytegjollhajgcdaa.P.OwnUrn
open Go.RowKit Go.Proofs.YtegjollhajgcdaaW.PrintWords Go.Proofs.YtegjollhajgcdaaW.PrintLast Go.Proofs.YtegjollhajgcdaaW.PrintMore
set_option linter.unusedVariables false
def Mades (W : World) (b : Nat) (s : ByteArray) (v : Value) : Prop :=
  W.heap[b]? = some (.cells #[.string ⟨#[]⟩, .slice none 0 0] 27 (0, 0)) ∧ W.heap[b + 1]? = some (.cells #[.string s, v] 27 (0, 0))
theorem keep_mades {w W W' : World} {g : Nat} {s : ByteArray} {v : Value} (hs : w.heap.size ≤ W.heap.size) (h : Mades W w.heap.size s v) (hg : g < w.heap.size) (hk : KeepBut W W' g none) : Mades W' w.heap.size s v :=
  ⟨hk.blk h.1 (by omega) (by simp), hk.blk h.2 (by omega) (by simp)⟩
theorem mades_cell {W : World} {b : Nat} {s : ByteArray} {v : Value} (h : Mades W b s v) : W.cell? ⟨b + 1, 0, none⟩ = some (.string s) := (blk_cell h.2 0).trans rfl
theorem mades_cell1 {W : World} {b : Nat} {s : ByteArray} {v : Value} (h : Mades W b s v) : W.cell? ⟨b + 1, 1, none⟩ = some v := (blk_cell h.2 1).trans rfl
theorem mades_frozen {W : World} {b : Nat} {s : ByteArray} {v : Value} (h : Mades W b s v) : W.frozen? ⟨b + 1, 0, none⟩ = false := blk_frozen h.2 0
theorem mades_frozen1 {W : World} {b : Nat} {s : ByteArray} {v : Value} (h : Mades W b s v) : W.frozen? ⟨b + 1, 1, none⟩ = false := blk_frozen h.2 1
theorem set_mades {W : World} {b : Nat} {s : ByteArray} {v : Value} (h : Mades W b s v) (s' : ByteArray) (o : Obj) : Mades ((W.setCell ⟨b + 1, 0, none⟩ (.string s')).alloc o) b s' v :=
  ⟨blk_alloc (blk_far h.1 (by simp) _) o, blk_alloc (by simpa using blk_set h.2 0 (.string s')) o⟩
theorem from_le {a b c d n p q : Int} (h : cippuskit_Urn_From.f a b c d = some (n, p, q)) : n ≤ 9223372036854775807 := by
  unfold cippuskit_Urn_From.f at h
  rw [Option.bind_eq_some_iff] at h
  obtain ⟨z, _, h⟩ := h
  simp only [Option.some.injEq, Prod.mk.injEq] at h
  rw [← h.1]
  unfold wrap64
  omega
theorem conv_one (W : World) (x : Int) : (Go.convert 61 9 (.slice (some ⟨W.heap.size, 0, none⟩) 1 1)).run Try.prog (W.alloc (.cells #[.int .u8 x] 5)) = .ok (.string (strOfNums [x])) (W.alloc (.cells #[.int .u8 x] 5)) := by
  refine string_of_reads (e := 5) Try.underlying61 Try.underlying5 Try.underlying9 ⟨rfl, by decide, fun _ => ⟨_, rfl, fun j hj => ?_⟩⟩
  obtain rfl : j = 0 := by omega
  rw [add_plain]
  exact (blk_cell (blk_new W _) 0).trans rfl
def RelStone (w0 w : World) (g : Nat) (st : ByteArray) (r4 r5 : Int) (n : Nat) (wr : World) : Prop :=
  ∃ (s : ByteArray) (a b : Int), IsS72 w0 wr g a b ∧ Below w0.heap.size w0 wr ∧ KeepBut w wr g none ∧ Mades wr w.heap.size s (.slice none 0 0) ∧ stoneGo n a b s = some (st, r4, r5)
structure F16 (w0 w : World) (g bx : Nat) (x : S24) (s : ByteArray) (vL v : Value) (L : List S24) (S : List Int) (a b : Int) (W : World) : Prop where
  hI : IsS72 w0 W g a b
  hB : Below w0.heap.size w0 W
  hK : KeepBut w W g none
  hM : Mades W w.heap.size s v
  hbx : W.heap[bx]? = some (.cells #[.string x.f0, .int .i64 x.f1, .bool x.f2] 24 (0, 0))
  hL : Kd.R k24 24 W w.heap.size (fun _ => True) vL L
  hS : Kd.R (Kd.int .i64) 3 W w.heap.size (fun _ => True) v S
  hge : w.heap.size ≤ bx
  hne : some bx ≠ vL.ownBlock
theorem R_keepg {α : Type} {d : Kd α} {e base g : Nat} {v : Value} {xs : List α} {W W' w0 : World} {a b : Int} (h : d.R e W base (fun _ => True) v xs) (hI : IsS72 w0 W g a b) (ht : ∀ q, q ∈ e :: d.E → q ≠ 72) (hk : ∀ k, k < W.heap.size → k ≠ g → W'.heap[k]? = W.heap[k]?) : d.R e W' base (fun _ => True) v xs :=
  Kd.R_mono (Kd.R_step (Kd.R_types h hI.1 ht) (fun k ok hlt => hk k hlt ok.2)) (fun _ _ => trivial)
theorem f16_mk {w0 w wr w6 w7 : World} {g : Nat} {x : S24} {s : ByteArray} {vL v : Value} {L : List S24} {S : List Int} {a b a' b' : Int} (hgw : g < w.heap.size) (hB0 : Below w0.heap.size w0 w)
    (hI : IsS72 w0 wr g a b) (hK : KeepBut w wr g none) (hM : Mades wr w.heap.size s v) (hL : Kd.R k24 24 wr w.heap.size (fun _ => True) vL L) (hS : Kd.R (Kd.int .i64) 3 wr w.heap.size (fun _ => True) v S)
    (h6 : KeepBut wr w6 g none) (h7 : KeepBut (w6.alloc (.cells #[.string ⟨#[]⟩, .int .i64 x.f1, .bool x.f2] 24)) w7 g none) (hI7 : IsS72 w0 w7 g a' b') (hB7 : Below w0.heap.size w0 w7) :
    F16 w0 w g w6.heap.size x s vL v L S a' b' (w7.setCell ⟨w6.heap.size, 0, none⟩ (.string x.f0)) := by
  have hgl : g < wr.heap.size := hI.lt
  have hs6 := h6.1
  have hs7 := h7.1
  simp only [World.size_alloc] at hs7
  have hs0 := hK.1
  have hkeep : ∀ k, k < wr.heap.size → k ≠ g → (w7.setCell ⟨w6.heap.size, 0, none⟩ (.string x.f0)).heap[k]? = wr.heap[k]? := fun k hk hkg => by
    rw [Below.heap_setCell w7 _ _ k (by show k ≠ w6.heap.size; omega), h7.2 k (by simp only [World.size_alloc]; omega) hkg (by simp), Below.heap_alloc w6 _ k (by omega), h6.2 k hk hkg (by simp)]
  have hbx : w7.heap[w6.heap.size]? = some (.cells #[.string ⟨#[]⟩, .int .i64 x.f1, .bool x.f2] 24 (0, 0)) := h7.blk (blk_new w6 _) (by omega) (by simp)
  refine ⟨hI7.far (by show g ≠ w6.heap.size; omega) _, hB7.setCell (by show _ ≤ w6.heap.size; have := hB0.size; omega) _, ?_, ⟨(hkeep _ (blk_lt hM.1) (by omega)).trans hM.1, (hkeep _ (blk_lt hM.2) (by omega)).trans hM.2⟩, by simpa using blk_set hbx 0 (.string x.f0), R_keepg hL hI (by decide) hkeep, R_keepg hS hI (by decide) hkeep, by omega, fun e_ => by
    obtain ⟨_, h2⟩ := Kd.R_typed hL _ e_.symm
    have := blk_lt h2
    omega⟩
  exact ⟨by simp; omega, fun k hk hkg _ => (hkeep k (by omega) hkg).trans (hK.2 k hk hkg (by simp))⟩
structure F17 (w0 w : World) (g : Nat) (s : ByteArray) (vL v : Value) (L : List S24) (S : List Int) (a b : Int) (W : World) : Prop where
  hI : IsS72 w0 W g a b
  hB : Below w0.heap.size w0 W
  hK : KeepBut w W g none
  hM : Mades W w.heap.size s v
  hL : Kd.R k24 24 W w.heap.size (fun _ => True) vL L
  hS : Kd.R (Kd.int .i64) 3 W w.heap.size (fun _ => True) v S
theorem f17_mk {w0 w W wB : World} {g bx : Nat} {x : S24} {s : ByteArray} {vL v vA vB : Value} {L : List S24} {S : List Int} {a b t : Int} (hgw : g < w.heap.size) (hw : Below w0.heap.size w0 w)
    (hF : F16 w0 w g bx x s vL v L S a b W) (hBB : Below w.heap.size W wB) (hMB : Mades wB w.heap.size s v) (hLB : Kd.R k24 24 wB w.heap.size (fun _ => True) vA (L ++ [x])) (hSB : Kd.R (Kd.int .i64) 3 wB w.heap.size (fun _ => True) vB (S ++ [t])) :
    F17 w0 w g s vA vB (L ++ [x]) (S ++ [t]) a b (wB.setCell ⟨w.heap.size + 1, 1, none⟩ vB) := by
  have hkeep : ∀ k, k ≠ w.heap.size + 1 → (wB.setCell ⟨w.heap.size + 1, 1, none⟩ vB).heap[k]? = wB.heap[k]? := fun k hk => Below.heap_setCell wB _ _ k hk
  have hI : IsS72 w0 wB g a b := ⟨(hBB.block g hgw).trans hF.hI.1, hF.hI.2⟩
  have hB : Below w0.heap.size w0 wB := hF.hB.trans (hBB.mono hw.size)
  refine ⟨hI.far (by show g ≠ w.heap.size + 1; omega) _, hB.setCell (by show _ ≤ w.heap.size + 1; have := hw.size; omega) _, ?_, ⟨(hkeep _ (by omega)).trans hMB.1, ?_⟩, ?_, ?_⟩
  · refine keep_far ?_ (by show w.heap.size ≤ w.heap.size + 1; omega) _
    exact ⟨Nat.le_trans hF.hK.1 hBB.size, fun k hk hkg _ => (hBB.block k hk).trans (hF.hK.2 k hk hkg (by simp))⟩
  · simpa using blk_set hMB.2 1 vB
  · exact Kd.R_mono (Kd.R_step (Kd.R_types hLB hMB.2 (by decide)) (fun k ok _ => hkeep k ok.2)) (fun _ _ => trivial)
  · exact Kd.R_mono (Kd.R_step (Kd.R_types hSB hMB.2 (by decide)) (fun k ok _ => hkeep k ok.2)) (fun _ _ => trivial)
theorem blk_new2 (W : World) (o1 o2 : Obj) : ((W.alloc o1).alloc o2).heap[W.heap.size + 1]? = some o2 := by
  have := blk_new (W.alloc o1) o2
  rwa [World.size_alloc] at this
theorem keepA {W wA : World} {row : Option Nat} (hg : W.grownBy wA row) : ∀ (k : Nat) (o : Obj), W.heap[k]? = some o → some k ≠ row → wA.heap[k]? = some o := fun _ _ h1 h2 => blk_grown h1 hg h2
theorem across_mades {W w1 : World} {b : Nat} {s : ByteArray} {v vR : Value} {α : Type} {d : Kd α} {e base : Nat} {ok : Nat → Prop} {xs : List α} (hM : Mades W b s v) (hR : d.R e W base ok vR xs) (hg : W.grownBy w1 vR.ownBlock) (he : e ≠ 27) : Mades w1 b s v :=
  ⟨blk_grown hM.1 hg (Kd.R_ne hR hM.1 he), blk_grown hM.2 hg (Kd.R_ne hR hM.2 he)⟩
theorem across_R {W w1 : World} {vR v : Value} {α β : Type} {d : Kd α} {d' : Kd β} {e e' base : Nat} {xs : List α} {ys : List β} (h : d.R e W base (fun _ => True) v xs) (hR : d'.R e' W base (fun _ => True) vR ys) (hg : W.grownBy w1 vR.ownBlock) (he : ∀ q, q ∈ e :: d.E → q ≠ e') : d.R e w1 base (fun _ => True) v xs :=
  Kd.R_mono (Kd.R_grown (Kd.R_apart' h (Kd.R_typed hR) he) hg (fun k ok => ok.2)) (fun _ _ => trivial)
def RelCopy (w0 w : World) (g : Nat) (er : Int) (st : ByteArray) (z1 : List S24) (z2 : List Int) (z3 z4 : Int) (n : Nat) (v12 : Value) (wr : World) : Prop :=
  ∃ (L : List S24) (S : List Int) (a b : Int) (v : Value), IsS72 w0 wr g a b ∧ Below w0.heap.size w0 wr ∧ KeepBut w wr g none ∧ Mades wr w.heap.size st v ∧ Kd.R k24 24 wr w.heap.size (fun _ => True) v12 L ∧ Kd.R (Kd.int .i64) 3 wr w.heap.size (fun _ => True) v S ∧ copyGo n er st L S a b = some (z1, z2, z3, z4)
set_option maxHeartbeats 4000000 in
set_option maxRecDepth 100000 in
theorem copiesOf_calls (g : Nat) (s0_0 : Int) (s0_1 : Int) (a1 : Int) (a2 : Int) (a3 : Int) (r1 : List (S24)) (r2 : ByteArray) (r3 : List Int) (r4 : Int) (r5 : Int) (w0 w : World) (hI : IsS72 w0 w g s0_0 s0_1) (hB : Below w0.heap.size w0 w) (h : copiesOf s0_0 s0_1 a1 a2 a3 = some (r1, r2, r3, r4, r5)) :
    Calls Try.prog 13 #[.pointer (some ⟨g, 0, none⟩), .int .i64 a1, .int .i64 a2, .int .i64 a3] w fun e w' => ∃ v0_ v2_ : Value, e = .returned (.tuple #[v0_, .agg #[.string r2, v2_]]) ∧ Kd.R k24 24 w' w.heap.size (fun _ => True) v0_ r1 ∧ Kd.R (Kd.int .i64) 3 w' w.heap.size (fun _ => True) v2_ r3 ∧ IsS72 w0 w' g r4 r5 ∧ Below w0.heap.size w0 w' ∧ KeepBut w w' g none := by
  unfold copiesOf at h
  rw [Option.bind_eq_some_iff] at h
  obtain ⟨⟨n1, p1, q1⟩, h1, h⟩ := h
  rw [Option.bind_eq_some_iff] at h
  obtain ⟨⟨st, p2, q2⟩, h2, h⟩ := h
  rw [Option.bind_eq_some_iff] at h
  obtain ⟨⟨n3, p3, q3⟩, h3, h⟩ := h
  rw [Option.map_eq_some_iff] at h
  obtain ⟨⟨z1, z2, z3, z4⟩, h4, hr⟩ := h
  dsimp only at h2 h3 h4 hr
  simp only [Prod.mk.injEq] at hr
  obtain ⟨rfl, rfl, rfl, rfl, rfl⟩ := hr
  have H1 := Aside0.mk h1; have H2 := Aside0.mk h2; have H3 := Aside0.mk h3; have H4 := Aside0.mk h4
  clear h1 h2 h3 h4
  have HI := Aside0.mk hI
  have HB := Aside0.mk hB
  have hgw : g < w.heap.size := hI.lt
  clear hI hB
  go_enter Try.func13, Try.ntmps13
  go_wp2_with fail
  refine (cippuskit_Urn_From.calls _ _ _ _ _ _ _ _ w0 _ ((HI.out.alloc _).alloc _) (below_alloc (below_alloc HB.out _) _) H1.out).mono ?_
  rintro e w1 ⟨rfl, hI1, hB1, hK1⟩
  have hM : Mades w1 w.heap.size ⟨#[]⟩ (.slice none 0 0) := by
    refine ⟨hK1.blk (blk_alloc (blk_new w _) _) (by omega) (by simp), hK1.blk ?_ (by omega) (by simp)⟩
    have := blk_new (w.alloc (.cells #[.string ⟨#[]⟩, .slice none 0 0] 27)) (.cells #[.string ⟨#[]⟩, .slice none 0 0] 27)
    simpa using this
  have hK0 : KeepBut w w1 g none := (keep_alloc (keep_alloc (KeepBut.refl w g none) _) _).trans hK1 (.inl rfl)
  have HI1 := Aside0.mk hI1; have HB1 := Aside0.mk hB1; have HM := Aside0.mk hM; have HK := Aside0.mk hK0
  clear hI1 hB1 hM hK0 hK1
  go_wp2_with fail
  go_loopw [11] (fun v wr => ∃ i : Int, v = .int .i64 i ∧ i ≤ 9223372036854775807 ∧ RelStone w0 w g st p2 q2 i.toNat wr) (fun v _ => (intOf v).toNat)
  case atStart => exact ⟨n1, rfl, from_le H1.out, _, _, _, HI1.out, HB1.out, HK.out, HM.out, H2.out⟩
  case round =>
    obtain ⟨i, rfl, hi, s, a, b, hI, hb0, hK, hM, hs⟩ := hrel
    by_cases hlt : 0 < i
    · obtain ⟨n, hn⟩ : ∃ n, i.toNat = n + 1 := ⟨i.toNat - 1, by omega⟩
      rw [hn, stoneGo, Option.bind_eq_some_iff] at hs
      obtain ⟨⟨t1, t2, t3⟩, ht, hs⟩ := hs
      dsimp only at hs
      split at hs
      case isFalse => cases hs
      case isTrue hz =>
      have HT := Aside0.mk ht; have HS := Aside0.mk hs; have HM2 := Aside0.mk hM; have HI2 := Aside0.mk hI; have HB2 := Aside0.mk hb0; have HK2 := Aside0.mk hK
      have hc := mades_cell hM
      have hf := mades_frozen hM
      clear ht hs hM hI hb0 hK
      go_wp2_with fail
      have kc := conv_one
      have kz : ∀ x : Int, (strOfNums [x]).size = 1 := fun _ => rfl
      have kw : (9223372036854775807 < s.size + 1) = False := eq_false (by omega)
      go_region_with (go_at_call 28; refine (cippuskit_Urn_Up.calls _ _ _ _ _ _ _ w0 _ (by exact HI2.out) (by exact below_drew HB2.out) HT.out).mono ?_; rintro e w2 ⟨rfl, hI3, hB3, hK3⟩; have hM3 := keep_mades HK2.out.1 HM2.out hgw hK3; have hc3 := mades_cell hM3; have hf3 := mades_frozen hM3; have hl3 : w.heap.size + 1 < w2.heap.size := blk_lt hM3.2)
      all_goals
        go_wp2_with fail
        go_roundw
        case rel =>
          refine ⟨i - 1, by go_num, by omega, s ++ strOfNums [(wrap64 (65 + t1)) % 256], t2, t3, ?_, ?_, ?_, ?_, ?_⟩
          rotate_left 4
          · rw [show (i - 1).toNat = n by omega]; exact HS.out
          · exact (hI3.far (by simp; omega) _).alloc _
          · exact below_alloc (hB3.setCell (Nat.le_trans HB.out.size (by simp)) _) _
          · exact keep_alloc (keep_far (HK2.out.trans hK3 (.inl rfl)) (by simp) _) _
          · exact set_mades hM3 _ _
        case measure => simp [intOf]; omega
    · have h0 : i.toNat = 0 := by omega
      rw [h0, stoneGo] at hs
      simp only [Option.some.injEq, Prod.mk.injEq] at hs
      obtain ⟨rfl, rfl, rfl⟩ := hs
      have HI2 := Aside0.mk hI; have HB2 := Aside0.mk hb0; have HK2 := Aside0.mk hK; have HM2 := Aside0.mk hM
      clear hI hb0 hK hM
      go_wp2_with fail
      refine (cippuskit_Urn_From.calls _ _ _ _ _ _ _ _ w0 _ HI2.out HB2.out H3.out).mono ?_
      rintro e w2 ⟨rfl, hI3, hB3, hK3⟩
      have hM3 := keep_mades HK2.out.1 HM2.out hgw hK3
      have HI3 := Aside0.mk hI3; have HB3 := Aside0.mk hB3; have HK3 := Aside0.mk (HK2.out.trans hK3 (.inl rfl)); have HM3 := Aside0.mk hM3
      clear hI3 hB3 hK3 hM3
      go_wp2_with fail
      go_loopw [12, 13] (fun v12 v13 wr => ∃ i : Int, v13 = .int .i64 i ∧ i ≤ 9223372036854775807 ∧ RelCopy w0 w g a3 s z1 z2 z3 z4 i.toNat v12 wr) (fun _ v _ => (intOf v).toNat)
      case atStart => exact ⟨n3, rfl, from_le H3.out, [], [], _, _, _, HI3.out, HB3.out, HK3.out, HM3.out, Kd.R_nil _ _ _ _ _, Kd.R_nil _ _ _ _ _, H4.out⟩
      case round =>
        obtain ⟨i, rfl, hi, L, S, a, b, v, hI, hb0, hK, hM, hL, hS, hc⟩ := hrel
        have HI4 := Aside0.mk hI; have HB4 := Aside0.mk hb0; have HK4 := Aside0.mk hK; have HM4 := Aside0.mk hM; have HL4 := Aside0.mk hL; have HS4 := Aside0.mk hS
        clear hI hb0 hK hM hL hS
        by_cases hlt : 0 < i
        · obtain ⟨n, hn⟩ : ∃ n, i.toNat = n + 1 := ⟨i.toNat - 1, by omega⟩
          rw [hn, copyGo, Option.bind_eq_some_iff] at hc
          obtain ⟨⟨t1, t2, t3⟩, ht, hc⟩ := hc
          rw [Option.bind_eq_some_iff] at hc
          obtain ⟨⟨u1, u2, u3⟩, hu, hc⟩ := hc
          dsimp only at hu hc
          go_upto_block 3 with fail
          go_cut [12] (fun s12 wx => RelCopy w0 w g a3 s z1 z2 z3 z4 n s12 wx)
          case first =>
            obtain ⟨A, c, rfl, hLc, hLr⟩ := Kd.R_reads HL4.out
            have HT := Aside0.mk ht; have HU := Aside0.mk hu
            clear ht hu
            by_cases hneg : t1 < 0
            · rw [if_pos hneg, if_neg (by omega)] at hc
              simp only [Option.bind_some] at hc
              rw [Option.bind_eq_some_iff] at hc
              obtain ⟨⟨e1, e2, e3⟩, he, hc⟩ := hc
              split at hc
              case isFalse => cases hc
              case isTrue hroom =>
              have HE := Aside0.mk he; have HC := Aside0.mk hc
              clear he hc
              have ht := HT.out
              rw [show wrap64 ((L.length : Int) - 1) = (L.length : Int) - 1 by unfold wrap64; omega] at ht
              have HT := Aside0.mk ht
              clear ht
              have hnegb : decide (t1 < 0) = true := decide_eq_true hneg
              have hnegc : decide (0 ≤ t1) = false := decide_eq_false (by omega)
              go_wp2_with fail
              (with_reducible refine (cippuskit_Urn_From.calls _ _ _ _ _ _ _ _ w0 _ HI4.out HB4.out HT.out).mono ?_)
              rintro e w5 ⟨rfl, hI5, hB5, hK5⟩
              go_wp2_with fail
              (with_reducible refine (cippuskit_Urn_Up.calls _ _ _ _ _ _ _ w0 _ hI5 hB5 HU.out).mono ?_)
              rintro e w6 ⟨rfl, hI6, hB6, hK6⟩
              have hM6 := keep_mades (Nat.le_trans HK4.out.1 hK5.1) (keep_mades HK4.out.1 HM4.out hgw hK5) hgw hK6
              have hc6 := mades_cell hM6
              have hl6 : w.heap.size + 1 < w6.heap.size := blk_lt hM6.2
              go_wp2_with fail
              (with_reducible refine (erred_calls _ _ _ _ _ _ _ _ w0 _ (hI6.alloc _) (below_alloc hB6 _) HE.out).mono ?_)
              rintro e w7 ⟨rfl, hI7, hB7, hK7⟩
              have hM7 : Mades w7 w.heap.size s v := keep_mades (by simp; omega) ⟨blk_alloc hM6.1 _, blk_alloc hM6.2 _⟩ hgw hK7
              have hbx7 : w7.heap[w6.heap.size]? = some (.cells #[.string ⟨#[]⟩, .int .i64 u1, .bool true] 24 (0, 0)) := hK7.blk (blk_new w6 _) (by omega) (by simp)
              have hx0 := (blk_cell hbx7 0).trans rfl
              have hf0 := blk_frozen hbx7 0
              go_upto_region 16 with fail
              have hF0 := f16_mk (x := ⟨e1, u1, true⟩) hgw HB.out HI4.out HK4.out HM4.out HL4.out HS4.out (hK5.trans hK6 (.inl rfl)) hK7 hI7 hB7
              generalize (w7.setCell { block := w6.heap.size, off := 0 } (Value.string e1)) = W8 at hF0 ⊢
              obtain ⟨bx, hbx⟩ : ∃ bx, w6.heap.size = bx := ⟨_, rfl⟩
              rw [hbx] at hF0 ⊢
              have hF := Aside0.mk hF0
              clear hF0 hI5 hB5 hK5 hI6 hB6 hK6 hM6 hc6 hl6 hI7 hB7 hK7 hM7 hx0 hf0
              try clear hbx
              clear hLc hLr HI4 HB4 HK4 HM4 HL4 HS4 HI3 HB3 HK3 HM3 HI2 HB2 HK2 HM2 HI1 HB1 HM HK HT HU HE H1 H2 H3 H4
              have hx0 : W8.cell? ⟨bx, 0, none⟩ = some (.string e1) := (blk_cell hF.out.hbx 0).trans rfl
              have hx1 : W8.cell? ⟨bx, 1, none⟩ = some (.int .i64 u1) := (blk_cell hF.out.hbx 1).trans rfl
              have hx2 : W8.cell? ⟨bx, 2, none⟩ = some (.bool true) := (blk_cell hF.out.hbx 2).trans rfl
              have hy1 : W8.cell? ⟨w.heap.size + 1, 1, none⟩ = some v := mades_cell1 hF.out.hM
              have hbxne : w.heap.size + 1 ≠ bx := fun e_ => by
                have h1 := hF.out.hbx
                rw [← e_, hF.out.hM.2] at h1
                simp at h1
              have hbxl : bx < W8.heap.size := blk_lt hF.out.hbx
              have hml : w.heap.size + 1 < W8.heap.size := blk_lt hF.out.hM.2
              have hml1 : w.heap.size < W8.heap.size := by omega
              have hbxl1 : bx < W8.heap.size + 1 := by omega
              have hbxl2 : bx ≤ W8.heap.size := by omega
              have hLen : L.length + 1 < 4398046511104 := hroom.1
              have hSen : S.length + 1 < 17592186044416 := hroom.2
              have hLne : Aside0 (∀ k, W8.heap.size ≤ k → some k ≠ (Value.slice A L.length c).ownBlock) := ⟨fun k hk e => by
                have := Kd.R_typed hF.out.hL k e.symm
                obtain ⟨_, h2⟩ := this
                have := blk_lt h2
                omega⟩
              go_region_law (first
                | (refine OLies.R_append_lies_step k24 (w0 := W8) w.heap.size rfl (.tmp 72) (.tmp 74) 22 24 (.agg #[.string ⟨#[]⟩, .int .i64 0, .bool false]) 32 rfl Try.underlying22 info24 rfl (by decide) (by omega) (.slice A L.length c) L ⟨e1, u1, true⟩ [.string e1, .int .i64 u1, .bool true] (fun _ => True) (fun _ => False) _ (0, 0) rfl rfl ?_ (k24_mkM _ _ _ _) (fun _ h => h.elim) (fun _ _ => trivial) ?_ ?_ ?_ ?_ ?_
                   · first | exact blk_new _ _ | exact blk_alloc (blk_new _ _) _ | exact blk_new2 _ _ _
                   · repeat (first | exact hF.out.hL | apply Kd.R_alloc | apply Kd.R_drew)
                   · repeat (first | exact Below.refl _ _ | apply below_drew | refine Below.alloc ?_ (by first | (simp; done) | (simp; omega) | omega) _)
                   · first | (simp; done) | (simp; omega) | omega
                   · omega
                   intro vA wA hLA hBA hgA hatA
                   have hkeepA := Aside0.mk (keepA hgA)
                   have hMA : Mades wA w.heap.size s v := across_mades (by first | exact ⟨hF.out.hM.1, hF.out.hM.2⟩ | exact ⟨blk_alloc hF.out.hM.1 _, blk_alloc hF.out.hM.2 _⟩ | exact ⟨blk_alloc (blk_alloc hF.out.hM.1 _) _, blk_alloc (blk_alloc hF.out.hM.2 _) _⟩) (by repeat (first | exact hF.out.hL | apply Kd.R_alloc | apply Kd.R_drew)) hgA (by decide)
                   have hSA : Kd.R (Kd.int .i64) 3 wA w.heap.size (fun _ => True) v S := across_R (by repeat (first | exact hF.out.hS | apply Kd.R_alloc | apply Kd.R_drew)) (by repeat (first | exact hF.out.hL | apply Kd.R_alloc | apply Kd.R_drew)) hgA (by decide)
                   have hbxA := keepA hgA bx _ (by first | exact hF.out.hbx | exact blk_alloc hF.out.hbx _ | exact blk_alloc (blk_alloc hF.out.hbx _) _) hF.out.hne
                   have hxA0 := (blk_cell hbxA 0).trans rfl
                   have hxA1 := (blk_cell hbxA 1).trans rfl
                   have hxA2 := (blk_cell hbxA 2).trans rfl
                   have hyA : wA.cell? ⟨w.heap.size + 1, 1, none⟩ = some v := mades_cell1 hMA
                   have hmA : w.heap.size + 1 < wA.heap.size := blk_lt hMA.2
                   have hmA1 : w.heap.size < wA.heap.size := by omega)
                | (refine OLies.R_append_lies_step (Kd.int .i64) (w0 := W8) w.heap.size rfl (.tmp 77) (.tmp 79) 25 3 (.int .i64 0) 8 rfl Try.underlying25 info3 rfl (by decide) (by omega) v S t1 [.int .i64 t1] (fun _ => True) (fun _ => False) _ (0, 0) rfl rfl ?_ rfl (fun _ h => h.elim) (fun _ _ => trivial) ?_ ?_ ?_ ?_ ?_
                   · first | exact blk_new _ _ | exact hkeepA.out _ _ (blk_new2 _ _ _) (hLne.out _ (by omega)) | exact hkeepA.out _ _ (blk_alloc (blk_new _ _) _) (hLne.out _ (by omega)) | exact hkeepA.out _ _ (blk_new _ _) (hLne.out _ (by omega))
                   · repeat (first | exact hSA | apply Kd.R_alloc | apply Kd.R_drew)
                   · repeat (first | exact hBA | apply below_drew | refine Below.alloc ?_ (by first | (simp; done) | (simp; omega) | omega) _)
                   · first | (simp; done) | (simp; omega) | omega
                   · omega
                   intro vB wB hSB hBB hgB hatB
                   obtain ⟨AB, cB, hvB⟩ := Kd.R_slice hSB
                   rw [List.length_append] at hvB
                   simp only [List.length_cons, List.length_nil] at hvB
                   subst hvB
                   have hMB : Mades wB w.heap.size s v := across_mades (by first | exact ⟨hMA.1, hMA.2⟩ | exact ⟨blk_alloc hMA.1 _, blk_alloc hMA.2 _⟩) (by repeat (first | exact hSA | apply Kd.R_alloc | apply Kd.R_drew)) hgB (by decide)
                   have hLB : Kd.R k24 24 wB w.heap.size (fun _ => True) vA (L ++ [⟨e1, u1, true⟩]) := across_R (by repeat (first | exact hLA | apply Kd.R_alloc | apply Kd.R_drew)) (by repeat (first | exact hSA | apply Kd.R_alloc | apply Kd.R_drew)) hgB (by decide)
                   have hbxB := keepA hgB bx _ (by first | exact hbxA | exact blk_alloc hbxA _) (Kd.R_ne hSA hbxA (by decide))
                   have hxB0 := (blk_cell hbxB 0).trans rfl
                   have hxB1 := (blk_cell hbxB 1).trans rfl
                   have hxB2 := (blk_cell hbxB 2).trans rfl
                   have hyB : wB.cell? ⟨w.heap.size + 1, 1, none⟩ = some v := mades_cell1 hMB
                   have hfB : wB.frozen? ⟨w.heap.size + 1, 1, none⟩ = false := mades_frozen1 hMB
                   have HAll := Aside0.mk (f17_mk hgw HB.out hF.out hBB hMB hLB hSB)))
              all_goals
                go_wp2_with fail
                go_meet
                exact ⟨_, _, _, _, _, HAll.out.hI, HAll.out.hB, HAll.out.hK, HAll.out.hM, HAll.out.hL, HAll.out.hS, HC.out⟩
            · rw [if_neg hneg] at hc
              rw [Option.bind_eq_some_iff] at hc
              obtain ⟨⟨o1, o2, o3⟩, ho, hc⟩ := hc
              dsimp only at hc
              rw [if_pos (by omega)] at hc
              split at hc
              case isFalse => simp at hc
              case isTrue hlen =>
              simp only [Option.bind_some] at hc
              rw [Option.bind_eq_some_iff] at hc
              obtain ⟨⟨e1, e2, e3⟩, he, hc⟩ := hc
              split at hc
              case isFalse => cases hc
              case isTrue hroom =>
              have HE := Aside0.mk he; have HC := Aside0.mk hc; have HO := Aside0.mk ho
              clear he hc ho
              have ht := HT.out
              rw [show wrap64 ((L.length : Int) - 1) = (L.length : Int) - 1 by unfold wrap64; omega] at ht
              have HT := Aside0.mk ht
              clear ht
              have hnegb : decide (t1 < 0) = false := decide_eq_false hneg
              have hnegc : decide (0 ≤ t1) = true := decide_eq_true (by omega)
              have hneg0 : 0 ≤ t1 := by omega
              obtain ⟨ad, rfl, hxa, hxb, hxc⟩ := at_T24 hLr t1 hneg0 hlen
              go_wp2_with fail
              (with_reducible refine (cippuskit_Urn_From.calls _ _ _ _ _ _ _ _ w0 _ HI4.out HB4.out HT.out).mono ?_)
              rintro e w5 ⟨rfl, hI5, hB5, hK5⟩
              go_wp2_with fail
              (with_reducible refine (cippuskit_Urn_Up.calls _ _ _ _ _ _ _ w0 _ hI5 hB5 HU.out).mono ?_)
              rintro e w6 ⟨rfl, hI6, hB6, hK6⟩
              go_wp2_with fail
              (with_reducible refine (cippuskit_Urn_Odds.calls _ _ _ _ _ _ _ _ w0 _ hI6 hB6 HO.out).mono ?_)
              rintro e wo ⟨rfl, hIo, hBo, hKo⟩
              have hMo := keep_mades (Nat.le_trans (Nat.le_trans HK4.out.1 hK5.1) hK6.1) (keep_mades (Nat.le_trans HK4.out.1 hK5.1) (keep_mades HK4.out.1 HM4.out hgw hK5) hgw hK6) hgw hKo
              have hco := mades_cell hMo
              have hlo : w.heap.size + 1 < wo.heap.size := blk_lt hMo.2
              have hgne : (ad.add (t1.toNat * 3)).block ≠ g := fun e_ => by
                have h1 : (ad.add (t1.toNat * 3)).block = ad.block := by unfold Addr.add; split <;> rfl
                obtain ⟨cl, h2⟩ := Kd.R_typed HL4.out ad.block rfl
                rw [← h1, e_, HI4.out.1] at h2
                simp at h2
              have hxo : wo.cell? (ad.add (t1.toNat * 3)) = some (.string (rd_T24 L t1).f0) := keep_cell ((hK5.trans hK6 (.inl rfl)).trans hKo (.inl rfl)) hxa hgne
              have hxl : (ad.add (t1.toNat * 3)).block < wo.heap.size := World.block_lt_of_cell? wo _ hxo
              go_wp2_with fail
              (with_reducible refine (erred_calls _ _ _ _ _ _ _ _ w0 _ (hIo.alloc _) (below_alloc hBo _) HE.out).mono ?_)
              rintro e w7 ⟨rfl, hI7, hB7, hK7⟩
              have hM7 : Mades w7 w.heap.size s v := keep_mades (by simp; omega) ⟨blk_alloc hMo.1 _, blk_alloc hMo.2 _⟩ hgw hK7
              have hbx7 : w7.heap[wo.heap.size]? = some (.cells #[.string ⟨#[]⟩, .int .i64 u1, .bool o1] 24 (0, 0)) := hK7.blk (blk_new wo _) (by omega) (by simp)
              have hx0 := (blk_cell hbx7 0).trans rfl
              have hf0 := blk_frozen hbx7 0
              go_upto_region 16 with fail
              have hF0 := f16_mk (x := ⟨e1, u1, o1⟩) hgw HB.out HI4.out HK4.out HM4.out HL4.out HS4.out ((hK5.trans hK6 (.inl rfl)).trans hKo (.inl rfl)) hK7 hI7 hB7
              generalize (w7.setCell { block := wo.heap.size, off := 0 } (Value.string e1)) = W8 at hF0 ⊢
              obtain ⟨bx, hbx⟩ : ∃ bx, wo.heap.size = bx := ⟨_, rfl⟩
              rw [hbx] at hF0 ⊢
              have hF := Aside0.mk hF0
              clear hF0 hI5 hB5 hK5 hI6 hB6 hK6 hIo hBo hKo hMo hco hlo hI7 hB7 hK7 hM7 hx0 hf0
              try clear hbx
              clear hLc hLr HI4 HB4 HK4 HM4 HL4 HS4 HI3 HB3 HK3 HM3 HI2 HB2 HK2 HM2 HI1 HB1 HM HK HT HU HE H1 H2 H3 H4
              have hx0 : W8.cell? ⟨bx, 0, none⟩ = some (.string e1) := (blk_cell hF.out.hbx 0).trans rfl
              have hx1 : W8.cell? ⟨bx, 1, none⟩ = some (.int .i64 u1) := (blk_cell hF.out.hbx 1).trans rfl
              have hx2 : W8.cell? ⟨bx, 2, none⟩ = some (.bool o1) := (blk_cell hF.out.hbx 2).trans rfl
              have hy1 : W8.cell? ⟨w.heap.size + 1, 1, none⟩ = some v := mades_cell1 hF.out.hM
              have hbxne : w.heap.size + 1 ≠ bx := fun e_ => by
                have h1 := hF.out.hbx
                rw [← e_, hF.out.hM.2] at h1
                simp at h1
              have hbxl : bx < W8.heap.size := blk_lt hF.out.hbx
              have hml : w.heap.size + 1 < W8.heap.size := blk_lt hF.out.hM.2
              have hml1 : w.heap.size < W8.heap.size := by omega
              have hbxl1 : bx < W8.heap.size + 1 := by omega
              have hbxl2 : bx ≤ W8.heap.size := by omega
              have hLen : L.length + 1 < 4398046511104 := hroom.1
              have hSen : S.length + 1 < 17592186044416 := hroom.2
              have hLne : Aside0 (∀ k, W8.heap.size ≤ k → some k ≠ (Value.slice (some ad) L.length c).ownBlock) := ⟨fun k hk e => by
                have := Kd.R_typed hF.out.hL k e.symm
                obtain ⟨_, h2⟩ := this
                have := blk_lt h2
                omega⟩
              go_region_law (first
                | (refine OLies.R_append_lies_step k24 (w0 := W8) w.heap.size rfl (.tmp 72) (.tmp 74) 22 24 (.agg #[.string ⟨#[]⟩, .int .i64 0, .bool false]) 32 rfl Try.underlying22 info24 rfl (by decide) (by omega) (.slice (some ad) L.length c) L ⟨e1, u1, o1⟩ [.string e1, .int .i64 u1, .bool o1] (fun _ => True) (fun _ => False) _ (0, 0) rfl rfl ?_ (k24_mkM _ _ _ _) (fun _ h => h.elim) (fun _ _ => trivial) ?_ ?_ ?_ ?_ ?_
                   · first | exact blk_new _ _ | exact blk_alloc (blk_new _ _) _ | exact blk_new2 _ _ _
                   · repeat (first | exact hF.out.hL | apply Kd.R_alloc | apply Kd.R_drew)
                   · repeat (first | exact Below.refl _ _ | apply below_drew | refine Below.alloc ?_ (by first | (simp; done) | (simp; omega) | omega) _)
                   · first | (simp; done) | (simp; omega) | omega
                   · omega
                   intro vA wA hLA hBA hgA hatA
                   have hkeepA := Aside0.mk (keepA hgA)
                   have hMA : Mades wA w.heap.size s v := across_mades (by first | exact ⟨hF.out.hM.1, hF.out.hM.2⟩ | exact ⟨blk_alloc hF.out.hM.1 _, blk_alloc hF.out.hM.2 _⟩ | exact ⟨blk_alloc (blk_alloc hF.out.hM.1 _) _, blk_alloc (blk_alloc hF.out.hM.2 _) _⟩) (by repeat (first | exact hF.out.hL | apply Kd.R_alloc | apply Kd.R_drew)) hgA (by decide)
                   have hSA : Kd.R (Kd.int .i64) 3 wA w.heap.size (fun _ => True) v S := across_R (by repeat (first | exact hF.out.hS | apply Kd.R_alloc | apply Kd.R_drew)) (by repeat (first | exact hF.out.hL | apply Kd.R_alloc | apply Kd.R_drew)) hgA (by decide)
                   have hbxA := keepA hgA bx _ (by first | exact hF.out.hbx | exact blk_alloc hF.out.hbx _ | exact blk_alloc (blk_alloc hF.out.hbx _) _) hF.out.hne
                   have hxA0 := (blk_cell hbxA 0).trans rfl
                   have hxA1 := (blk_cell hbxA 1).trans rfl
                   have hxA2 := (blk_cell hbxA 2).trans rfl
                   have hyA : wA.cell? ⟨w.heap.size + 1, 1, none⟩ = some v := mades_cell1 hMA
                   have hmA : w.heap.size + 1 < wA.heap.size := blk_lt hMA.2
                   have hmA1 : w.heap.size < wA.heap.size := by omega)
                | (refine OLies.R_append_lies_step (Kd.int .i64) (w0 := W8) w.heap.size rfl (.tmp 77) (.tmp 79) 25 3 (.int .i64 0) 8 rfl Try.underlying25 info3 rfl (by decide) (by omega) v S t1 [.int .i64 t1] (fun _ => True) (fun _ => False) _ (0, 0) rfl rfl ?_ rfl (fun _ h => h.elim) (fun _ _ => trivial) ?_ ?_ ?_ ?_ ?_
                   · first | exact blk_new _ _ | exact hkeepA.out _ _ (blk_new2 _ _ _) (hLne.out _ (by omega)) | exact hkeepA.out _ _ (blk_alloc (blk_new _ _) _) (hLne.out _ (by omega)) | exact hkeepA.out _ _ (blk_new _ _) (hLne.out _ (by omega))
                   · repeat (first | exact hSA | apply Kd.R_alloc | apply Kd.R_drew)
                   · repeat (first | exact hBA | apply below_drew | refine Below.alloc ?_ (by first | (simp; done) | (simp; omega) | omega) _)
                   · first | (simp; done) | (simp; omega) | omega
                   · omega
                   intro vB wB hSB hBB hgB hatB
                   obtain ⟨AB, cB, hvB⟩ := Kd.R_slice hSB
                   rw [List.length_append] at hvB
                   simp only [List.length_cons, List.length_nil] at hvB
                   subst hvB
                   have hMB : Mades wB w.heap.size s v := across_mades (by first | exact ⟨hMA.1, hMA.2⟩ | exact ⟨blk_alloc hMA.1 _, blk_alloc hMA.2 _⟩) (by repeat (first | exact hSA | apply Kd.R_alloc | apply Kd.R_drew)) hgB (by decide)
                   have hLB : Kd.R k24 24 wB w.heap.size (fun _ => True) vA (L ++ [⟨e1, u1, o1⟩]) := across_R (by repeat (first | exact hLA | apply Kd.R_alloc | apply Kd.R_drew)) (by repeat (first | exact hSA | apply Kd.R_alloc | apply Kd.R_drew)) hgB (by decide)
                   have hbxB := keepA hgB bx _ (by first | exact hbxA | exact blk_alloc hbxA _) (Kd.R_ne hSA hbxA (by decide))
                   have hxB0 := (blk_cell hbxB 0).trans rfl
                   have hxB1 := (blk_cell hbxB 1).trans rfl
                   have hxB2 := (blk_cell hbxB 2).trans rfl
                   have hyB : wB.cell? ⟨w.heap.size + 1, 1, none⟩ = some v := mades_cell1 hMB
                   have hfB : wB.frozen? ⟨w.heap.size + 1, 1, none⟩ = false := mades_frozen1 hMB
                   have HAll := Aside0.mk (f17_mk hgw HB.out hF.out hBB hMB hLB hSB)))
              all_goals
                go_wp2_with fail
                go_meet
                exact ⟨_, _, _, _, _, HAll.out.hI, HAll.out.hB, HAll.out.hK, HAll.out.hM, HAll.out.hL, HAll.out.hS, HC.out⟩
          case rest =>
            have hcut' := Aside0.mk hcut
            clear hcut
            go_wp2_with fail
            go_roundw
            case rel => exact ⟨i - 1, by go_num, by omega, by rw [show (i - 1).toNat = n by omega]; exact hcut'.out⟩
            case measure => simp [intOf]; omega
        · have h0 : i.toNat = 0 := by omega
          rw [h0, copyGo] at hc
          simp only [Option.some.injEq, Prod.mk.injEq] at hc
          obtain ⟨rfl, rfl, rfl, rfl⟩ := hc
          obtain ⟨A, c, rfl⟩ := Kd.R_slice HL4.out
          obtain ⟨A2, c2, rfl⟩ := Kd.R_slice HS4.out
          have hm0 := mades_cell HM4.out
          have hm1 := mades_cell1 HM4.out
          have hz0 : wr.cell? ⟨w.heap.size, 0, none⟩ = some (.string ⟨#[]⟩) := (blk_cell HM4.out.1 0).trans rfl
          have hz1 : wr.cell? ⟨w.heap.size, 1, none⟩ = some (.slice none 0 0) := (blk_cell HM4.out.1 1).trans rfl
          have hf0 := blk_frozen HM4.out.1 0
          have hf1 := blk_frozen HM4.out.1 1
          go_wp2_with fail
          go_region
          go_wp2_with fail
          have hW : ((wr.setCell ⟨w.heap.size, 0, none⟩ (.string s)).setCell ⟨w.heap.size, 1, none⟩ (.slice A2 S.length c2)).heap[w.heap.size]? = some (.cells #[.string s, .slice A2 S.length c2] 27 (0, 0)) := by
            have h1 := blk_set HM4.out.1 0 (.string s)
            simpa using blk_set h1 1 (.slice A2 S.length c2)
          have hk : ∀ k, k ≠ w.heap.size → ((wr.setCell ⟨w.heap.size, 0, none⟩ (.string s)).setCell ⟨w.heap.size, 1, none⟩ (.slice A2 S.length c2)).heap[k]? = wr.heap[k]? := fun k hk => by rw [Below.heap_setCell _ _ _ k hk, Below.heap_setCell _ _ _ k hk]
          refine bodyPost_ret (results_tc rfl _ _ w.heap.size 27 #[.string s, .slice A2 S.length c2] (0, 0) _ rfl hW Try.underlying27 rfl (by kernel_rfl)) rfl ?_
          refine ⟨_, _, rfl, ?_, ?_, ?_, ?_, ?_⟩
          · exact Kd.R_drew (Kd.R_mono (Kd.R_step (Kd.R_types HL4.out HM4.out.1 (by decide)) (fun k ok _ => hk k ok.2)) (fun _ _ => trivial))
          · exact Kd.R_drew (Kd.R_mono (Kd.R_step (Kd.R_types HS4.out HM4.out.1 (by decide)) (fun k ok _ => hk k ok.2)) (fun _ _ => trivial))
          · exact ((HI4.out.far (by show g ≠ w.heap.size; omega) _).far (by show g ≠ w.heap.size; omega) _).drew
          · exact below_drew ((HB4.out.setCell HB.out.size _).setCell HB.out.size _)
          · exact keep_drew (keep_far (keep_far HK4.out (Nat.le_refl _) _) (Nat.le_refl _) _)
end Go.Proofs.Ytegjollhajgcdaa.P.OwnUrn
namespace Go.Proofs.Ytegjollhajgcdaa.P
open Go.RowKit Go.Proofs.YtegjollhajgcdaaW.PrintWords Go.Proofs.YtegjollhajgcdaaW.PrintLast Go.Proofs.YtegjollhajgcdaaW.PrintMore
attribute [local go_sem] max2_int min2_int max_two min_two max_three min_three max_four min_four   -- for this text's walks alone
set_option linter.unusedVariables false
set_option linter.unusedSimpArgs false
def cippuskit_CopiesOf.f (s0_0 : Int) (s0_1 : Int) (a1 : Int) (a2 : Int) (a3 : Int) : Option ((List (S24)) × ByteArray × List Int × Int × Int) := OwnUrn.copiesOf s0_0 s0_1 a1 a2 a3
theorem cippuskit_CopiesOf.calls (g : Nat) (s0_0 : Int) (s0_1 : Int) (a1 : Int) (a2 : Int) (a3 : Int) (r1 : List (S24)) (r2 : ByteArray) (r3 : List Int) (r4 : Int) (r5 : Int) (w0 w : World) (hI : IsS72 w0 w g s0_0 s0_1) (hB : Below w0.heap.size w0 w) (h : cippuskit_CopiesOf.f s0_0 s0_1 a1 a2 a3 = some (r1, r2, r3, r4, r5)) :
    Calls Try.prog 13 #[.pointer (some ⟨g, 0, none⟩), .int .i64 a1, .int .i64 a2, .int .i64 a3] w fun e w' => ∃ v0_ v2_ : Value, e = .returned (.tuple #[v0_, .agg #[.string r2, v2_]]) ∧ Kd.R k24 24 w' w.heap.size (fun _ => True) v0_ r1 ∧ Kd.R (Kd.int .i64) 3 w' w.heap.size (fun _ => True) v2_ r3 ∧ IsS72 w0 w' g r4 r5 ∧ Below w0.heap.size w0 w' ∧ KeepBut w w' g none := by
  exact OwnUrn.copiesOf_calls g s0_0 s0_1 a1 a2 a3 r1 r2 r3 r4 r5 w0 w hI hB h
end Go.Proofs.Ytegjollhajgcdaa.P
namespace Go.Proofs.Ytegjollhajgcdaa.P
open Go.RowKit Go.Proofs.YtegjollhajgcdaaW.PrintWords Go.Proofs.YtegjollhajgcdaaW.PrintLast Go.Proofs.YtegjollhajgcdaaW.PrintMore
attribute [local go_sem] max2_int min2_int max_two min_two max_three min_three max_four min_four   -- for this text's walks alone
set_option linter.unusedVariables false
set_option linter.unusedSimpArgs false
def cippuskit_NewUrn.f (l0 : List Int) : Option (Int × Int) := OwnUrn.newUrn l0
theorem cippuskit_NewUrn.calls (A0 : Option Addr) (c0 : Nat) (l0 : List Int) (r1 : Int) (r2 : Int) (w0 w : World) (hB : Below w0.heap.size w0 w) (hr0 : Kd.C (Kd.int .i64) w0 A0 l0.length l0) (hc0 : l0.length ≤ c0) (h : cippuskit_NewUrn.f l0 = some (r1, r2)) :
    Calls Try.prog 14 #[.slice A0 l0.length c0] w fun e w' => ∃ g_ : Nat, e = .returned (.pointer (some ⟨g_, 0, none⟩)) ∧ IsS72 w0 w' g_ r1 r2 ∧ Below w0.heap.size w0 w' ∧ Below w.heap.size w w' := by
  exact OwnUrn.newUrn_calls A0 c0 l0 r1 r2 w0 w hB hr0 hc0 h
end Go.Proofs.Ytegjollhajgcdaa.P
namespace Go.Proofs.Ytegjollhajgcdaa.P
open Go.RowKit Go.Proofs.YtegjollhajgcdaaW.PrintWords Go.Proofs.YtegjollhajgcdaaW.PrintLast Go.Proofs.YtegjollhajgcdaaW.PrintMore
attribute [local go_sem] max2_int min2_int max_two min_two max_three min_three max_four min_four   -- for this text's walks alone
set_option linter.unusedVariables false
set_option linter.unusedSimpArgs false
mutual
def stemma_Check.l0 : Nat → List (S24) → List (S24) → Int → Int → Option (Int)
  | 0, _, _, _, _ => none
  | k + 1, x0, x14, x15, x16 => if x16 < x15 then (if 0 ≤ x16 then (if x16 < (x14.length : Int) then (if (((rd_T24 x14 x16).f0).size : Int) < 1 then (stemma_Check.j1 k x0 x14 x15 x16 true ((rd_T24 x14 x16).f0) ((rd_T24 x14 x16).f1) ((rd_T24 x14 x16).f2)) else (stemma_Check.j1 k x0 x14 x15 x16 (decide ((((rd_T24 x14 x16).f0).size : Int) > 8)) ((rd_T24 x14 x16).f0) ((rd_T24 x14 x16).f1) ((rd_T24 x14 x16).f2))) else (none)) else (none)) else (some 0)
def stemma_Check.j1 : Nat → List (S24) → List (S24) → Int → Int → Bool → ByteArray → Int → Bool → Option (Int)
  | 0, _, _, _, _, _, _, _, _ => none
  | k + 1, x0, x14, x15, x16, x29, x223000, x223001, x223002 => if x29 = true then (some 2) else (stemma_Check.l1 k x0 x14 x15 x16 (x223000.size : Int) 0 x223000 x223001 x223002)
def stemma_Check.l1 : Nat → List (S24) → List (S24) → Int → Int → Int → Int → ByteArray → Int → Bool → Option (Int)
  | 0, _, _, _, _, _, _, _, _, _ => none
  | k + 1, x0, x14, x15, x16, x32, x33, x223000, x223001, x223002 => if x33 < x32 then (if 0 ≤ x33 then (if x33 < (x223000.size : Int) then (if (bt x223000 x33) < 65 then (some 2) else (if (bt x223000 x33) > 90 then (some 2) else (stemma_Check.l1 k x0 x14 x15 x16 x32 (wrap64 (x33 + 1)) x223000 x223001 x223002))) else (none)) else (none)) else (if 0 < (x0.length : Int) then (if (x223000.size : Int) = (((rd_T24 x0 0).f0).size : Int) then (if x223001 < 0 then (some 1) else (if x223001 > 3 then (some 1) else (stemma_Check.l0 k x0 x14 x15 (wrap64 (x16 + 1))))) else (some 2)) else (none))
end
def stemma_Check.f (k : Nat) (l0 : List (S24)) : Option (Int) := if (l0.length : Int) = 0 then (some 7) else (if (l0.length : Int) > 5 then (some 6) else (stemma_Check.l0 k l0 l0 (l0.length : Int) 0))
theorem stemma_Check.mono_l : ∀ k, (∀ y0 y1 y2 y3, LeO (stemma_Check.l0 k y0 y1 y2 y3) (stemma_Check.l0 (k + 1) y0 y1 y2 y3)) ∧ (∀ y0 y1 y2 y3 y4 y5 y6 y7, LeO (stemma_Check.j1 k y0 y1 y2 y3 y4 y5 y6 y7) (stemma_Check.j1 (k + 1) y0 y1 y2 y3 y4 y5 y6 y7)) ∧ (∀ y0 y1 y2 y3 y4 y5 y6 y7 y8, LeO (stemma_Check.l1 k y0 y1 y2 y3 y4 y5 y6 y7 y8) (stemma_Check.l1 (k + 1) y0 y1 y2 y3 y4 y5 y6 y7 y8))
  | 0 => ⟨fun _ _ _ _ r h => by simp [stemma_Check.l0] at h, fun _ _ _ _ _ _ _ _ r h => by simp [stemma_Check.j1] at h, fun _ _ _ _ _ _ _ _ _ r h => by simp [stemma_Check.l1] at h⟩
  | k + 1 => by
    obtain ⟨ih0, ih1, ih2⟩ := stemma_Check.mono_l k
    refine ⟨?_, ?_, ?_⟩
    · intro y0 y1 y2 y3
      unfold stemma_Check.l0
      repeat' first
      | (with_reducible exact ih0 _ _ _ _)
      | (with_reducible exact ih1 _ _ _ _ _ _ _ _)
      | (with_reducible exact ih2 _ _ _ _ _ _ _ _ _)
      | (with_reducible exact LeO.refl _)
      | (with_reducible exact LeO.none _)
      | (with_reducible refine LeO.ite ?_ ?_)
      | (with_reducible refine LeO.bind ?_ (fun _ => ?_))
      | exact ih0 _ _ _ _
      | exact ih1 _ _ _ _ _ _ _ _
      | exact ih2 _ _ _ _ _ _ _ _ _
      | exact LeO.none _
      | refine LeO.ite ?_ ?_
      | refine LeO.bind ?_ (fun _ => ?_)
    · intro y0 y1 y2 y3 y4 y5 y6 y7
      unfold stemma_Check.j1
      repeat' first
      | (with_reducible exact ih0 _ _ _ _)
      | (with_reducible exact ih1 _ _ _ _ _ _ _ _)
      | (with_reducible exact ih2 _ _ _ _ _ _ _ _ _)
      | (with_reducible exact LeO.refl _)
      | (with_reducible exact LeO.none _)
      | (with_reducible refine LeO.ite ?_ ?_)
      | (with_reducible refine LeO.bind ?_ (fun _ => ?_))
      | exact ih0 _ _ _ _
      | exact ih1 _ _ _ _ _ _ _ _
      | exact ih2 _ _ _ _ _ _ _ _ _
      | exact LeO.none _
      | refine LeO.ite ?_ ?_
      | refine LeO.bind ?_ (fun _ => ?_)
    · intro y0 y1 y2 y3 y4 y5 y6 y7 y8
      unfold stemma_Check.l1
      repeat' first
      | (with_reducible exact ih0 _ _ _ _)
      | (with_reducible exact ih1 _ _ _ _ _ _ _ _)
      | (with_reducible exact ih2 _ _ _ _ _ _ _ _ _)
      | (with_reducible exact LeO.refl _)
      | (with_reducible exact LeO.none _)
      | (with_reducible refine LeO.ite ?_ ?_)
      | (with_reducible refine LeO.bind ?_ (fun _ => ?_))
      | exact ih0 _ _ _ _
      | exact ih1 _ _ _ _ _ _ _ _
      | exact ih2 _ _ _ _ _ _ _ _ _
      | exact LeO.none _
      | refine LeO.ite ?_ ?_
      | refine LeO.bind ?_ (fun _ => ?_)
theorem stemma_Check.mono : ∀ a0 k, LeO (stemma_Check.f k a0) (stemma_Check.f (k + 1) a0) := by
  intro a0 k
  obtain ⟨ih0, ih1, ih2⟩ := stemma_Check.mono_l k
  unfold stemma_Check.f
  repeat' first
      | (with_reducible exact ih0 _ _ _ _)
      | (with_reducible exact ih1 _ _ _ _ _ _ _ _)
      | (with_reducible exact ih2 _ _ _ _ _ _ _ _ _)
      | (with_reducible exact LeO.refl _)
      | (with_reducible exact LeO.none _)
      | (with_reducible refine LeO.ite ?_ ?_)
      | (with_reducible refine LeO.bind ?_ (fun _ => ?_))
      | exact ih0 _ _ _ _
      | exact ih1 _ _ _ _ _ _ _ _
      | exact ih2 _ _ _ _ _ _ _ _ _
      | exact LeO.none _
      | refine LeO.ite ?_ ?_
      | refine LeO.bind ?_ (fun _ => ?_)
set_option maxHeartbeats 8000000 in
set_option maxRecDepth 100000 in
theorem stemma_Check.calls (k : Nat) (A0 : Option Addr) (c0 : Nat) (l0 : List (S24)) (r : Int) (w : World) (hr0 : Kd.C k24 w A0 l0.length l0) (hc0 : l0.length ≤ c0) (h : stemma_Check.f k l0 = some r) :
    Calls Try.prog 39 #[.slice A0 l0.length c0] w fun e w' => e = .returned (.int .i64 r) ∧ Below w.heap.size w w' := by
  have hu24 := Try.underlying24
  have HR0 := Aside0.mk hr0
  have HC0 := Aside0.mk hc0
  clear hr0 hc0
  have HB := Aside0.mk (Below.refl w.heap.size w)
  have H : (if (l0.length : Int) = 0 then (some 7) else (if (l0.length : Int) > 5 then (some 6) else (stemma_Check.l0 k l0 l0 (l0.length : Int) 0))) = some r := h
  clear h
  by_cases c2 : (l0.length : Int) = 0
  · rw [if_pos c2] at H
    have c2b0 : ((l0.length : Int) == 0) = true := beq_iff_eq.mpr c2
    have c2b1 : ((l0.length : Int) != 0) = false := bne_eq_false_iff_eq.mpr c2
    clear c2
    obtain rfl := Option.some.inj H
    go_enter Try.func39, Try.ntmps39
    go_wp2
    repeat (go_quiet (fail); try go_wp2)
    go_ret
    exact ⟨by first | rfl | (simp [errW_none, errW_some] <;> rfl) | (simp [*, errW_none, errW_some] <;> rfl), by repeat (first | (with_reducible first | exact HB.out | apply below_alloc | apply pw_below_drewN | apply below_drew1) | exact HB.out)⟩
  · rw [if_neg c2] at H
    have c2b0 : ((l0.length : Int) == 0) = false := beq_eq_false_iff_ne.mpr c2
    have c2b1 : ((l0.length : Int) != 0) = true := bne_iff_ne.mpr c2
    have c2b2 : ¬ (l0 = []) := fun h_ => c2 (by rw [h_]; rfl)
    by_cases c3 : (l0.length : Int) > 5
    · rw [if_pos c3] at H
      have c3b0 : decide (5 < (l0.length : Int)) = true := decide_eq_true c3
      have c3b1 : decide (5 < l0.length) = true := decide_eq_true (by omega)
      clear c3
      obtain rfl := Option.some.inj H
      go_enter Try.func39, Try.ntmps39
      go_wp2
      repeat (go_quiet (fail); try go_wp2)
      go_ret
      exact ⟨by first | rfl | (simp [errW_none, errW_some] <;> rfl) | (simp [*, errW_none, errW_some] <;> rfl), by repeat (first | (with_reducible first | exact HB.out | apply below_alloc | apply pw_below_drewN | apply below_drew1) | exact HB.out)⟩
    · rw [if_neg c3] at H
      have c3b0 : decide (5 < (l0.length : Int)) = false := decide_eq_false c3
      have c3b1 : decide (5 < l0.length) = false := decide_eq_false (by omega)
      clear c3
      have H' := Aside0.mk H
      clear H
      go_enter Try.func39, Try.ntmps39
      go_wp2
      repeat (go_quiet (fail); try go_wp2)
      go_loopg [16] k (fun kq v16 w' => ∃ (x16_1 : Int), v16 = .int .i64 x16_1 ∧ Aside0 (stemma_Check.l0 kq l0 l0 (l0.length : Int) x16_1 = some r) ∧ Aside0 (kq ≤ k) ∧ Aside0 (Below w.heap.size w w'))
      case atStart => exact ⟨(0), (by first | rfl | (simp; done) | (simp [*]; done)), H', ⟨Nat.le_refl _⟩, ⟨by repeat (first | (with_reducible first | exact HB.out | apply below_alloc | apply pw_below_drewN | apply below_drew1) | exact HB.out)⟩⟩
      case round =>
        clear H'
        try clear c2
        try clear c2b0
        try clear c2b1
        try clear c2b2
        try clear p2
        try clear c3
        try clear c3b0
        try clear c3b1
        obtain ⟨x16_1, rfl, HA, HK1, HB⟩ := hrel
        cases gk with
        | zero => exact absurd HA.out (by simp [stemma_Check.l0])
        | succ k1 =>
          have H := HA.out
          clear HA
          simp only [stemma_Check.l0] at H
          by_cases c4 : x16_1 < (l0.length : Int)
          · rw [if_pos c4] at H
            have c4b0 : decide (x16_1 < (l0.length : Int)) = true := decide_eq_true c4
            clear c4
            by_cases c5 : 0 ≤ x16_1
            · rw [if_pos c5] at H
              have c5b0 : decide (0 ≤ x16_1) = true := decide_eq_true c5
              clear c5
              by_cases c6 : x16_1 < (l0.length : Int)
              · rw [if_pos c6] at H
                have c6b0 : decide (x16_1 < (l0.length : Int)) = true := decide_eq_true c6
                clear c6
                have HC7 := Aside0.mk H
                clear H
                have p221 : 0 ≤ (x16_1 : Int) := of_decide_eq_true (by first | (with_reducible assumption) | assumption)
                have q221 : x16_1 < (l0.length : Int) := of_decide_eq_true (by first | (with_reducible assumption) | assumption)
                obtain ⟨ad221, e221, hx221_0, hx221_1, hx221_2⟩ := at_T24 HR0.out x16_1 p221 q221
                cases e221
                try replace hx221_0 := (HB.out.cell (World.block_lt_of_cell? w _ hx221_0)).trans hx221_0
                try replace hx221_1 := (HB.out.cell (World.block_lt_of_cell? w _ hx221_1)).trans hx221_1
                try replace hx221_2 := (HB.out.cell (World.block_lt_of_cell? w _ hx221_2)).trans hx221_2
                replace p221 := eq_true p221
                replace q221 := eq_true q221
                go_upto_region 8 with (first | ((with_reducible refine gate_dst (N := 4) rfl ?_); (try (refine gate_guard (by rfl) ?_; dsimp only)); refine box_event ?hg (N := 4) ?hd (cs := #[.string (⟨#[]⟩ : ByteArray), .int .i64 0, .bool false]) (t := 24) ?hr ?_; (case hd => rfl); (case hg => rfl); (case hr => first | (go_simp; done) | (go_simp; rfl)); intro gb222 hg w8 hbox hb; have n0_ := Aside0.mk (below_step (by repeat (first | (with_reducible first | exact HB.out | apply below_alloc | apply pw_below_drewN | apply below_drew1) | exact HB.out)) hb); have n1_ := Aside0.mk (hbox); have n2_ := Aside0.mk ((by rw [hg]; exact (below_size (by repeat (first | (with_reducible first | exact HB.out | apply below_alloc | apply pw_below_drewN | apply below_drew1) | exact HB.out))) : w.heap.size ≤ gb222)); have n3_ := Aside0.mk ((by rw [hg]; exact (below_size (by repeat (first | (with_reducible first | exact HB.out | apply below_alloc | apply pw_below_drewN | apply below_drew1) | exact HB.out))) : w.heap.size ≤ gb222)); clear HB; have HB := n0_; have BK222 := n1_; have GW222 := n2_; have GE222 := n3_; clear n0_ n1_ n2_ n3_; clear hb hbox hg; have hcz9_0 : w8.cell? ⟨gb222, 0, none⟩ = some (.string (⟨#[]⟩ : ByteArray)) := (blk_cell BK222.out 0).trans rfl; have hcz9_1 : w8.cell? ⟨gb222, 1, none⟩ = some (.int .i64 0) := (blk_cell BK222.out 1).trans rfl; have hcz9_2 : w8.cell? ⟨gb222, 2, none⟩ = some (.bool false) := (blk_cell BK222.out 2).trans rfl; have hfz9_0 := blk_frozen BK222.out 0; have hfz9_1 := blk_frozen BK222.out 1; have hfz9_2 := blk_frozen BK222.out 2))
                repeat (go_quiet (first | ((with_reducible refine gate_dst (N := 4) rfl ?_); (try (refine gate_guard (by rfl) ?_; dsimp only)); refine box_event ?hg (N := 4) ?hd (cs := #[.string (⟨#[]⟩ : ByteArray), .int .i64 0, .bool false]) (t := 24) ?hr ?_; (case hd => rfl); (case hg => rfl); (case hr => first | (go_simp; done) | (go_simp; rfl)); intro gb222 hg w8 hbox hb; have n0_ := Aside0.mk (below_step (by repeat (first | (with_reducible first | exact HB.out | apply below_alloc | apply pw_below_drewN | apply below_drew1) | exact HB.out)) hb); have n1_ := Aside0.mk (hbox); have n2_ := Aside0.mk ((by rw [hg]; exact (below_size (by repeat (first | (with_reducible first | exact HB.out | apply below_alloc | apply pw_below_drewN | apply below_drew1) | exact HB.out))) : w.heap.size ≤ gb222)); have n3_ := Aside0.mk ((by rw [hg]; exact (below_size (by repeat (first | (with_reducible first | exact HB.out | apply below_alloc | apply pw_below_drewN | apply below_drew1) | exact HB.out))) : w.heap.size ≤ gb222)); clear HB; have HB := n0_; have BK222 := n1_; have GW222 := n2_; have GE222 := n3_; clear n0_ n1_ n2_ n3_; clear hb hbox hg; have hcz9_0 : w8.cell? ⟨gb222, 0, none⟩ = some (.string (⟨#[]⟩ : ByteArray)) := (blk_cell BK222.out 0).trans rfl; have hcz9_1 : w8.cell? ⟨gb222, 1, none⟩ = some (.int .i64 0) := (blk_cell BK222.out 1).trans rfl; have hcz9_2 : w8.cell? ⟨gb222, 2, none⟩ = some (.bool false) := (blk_cell BK222.out 2).trans rfl; have hfz9_0 := blk_frozen BK222.out 0; have hfz9_1 := blk_frozen BK222.out 1; have hfz9_2 := blk_frozen BK222.out 2)); go_upto_region 8 with (first | ((with_reducible refine gate_dst (N := 4) rfl ?_); (try (refine gate_guard (by rfl) ?_; dsimp only)); refine box_event ?hg (N := 4) ?hd (cs := #[.string (⟨#[]⟩ : ByteArray), .int .i64 0, .bool false]) (t := 24) ?hr ?_; (case hd => rfl); (case hg => rfl); (case hr => first | (go_simp; done) | (go_simp; rfl)); intro gb222 hg w8 hbox hb; have n0_ := Aside0.mk (below_step (by repeat (first | (with_reducible first | exact HB.out | apply below_alloc | apply pw_below_drewN | apply below_drew1) | exact HB.out)) hb); have n1_ := Aside0.mk (hbox); have n2_ := Aside0.mk ((by rw [hg]; exact (below_size (by repeat (first | (with_reducible first | exact HB.out | apply below_alloc | apply pw_below_drewN | apply below_drew1) | exact HB.out))) : w.heap.size ≤ gb222)); have n3_ := Aside0.mk ((by rw [hg]; exact (below_size (by repeat (first | (with_reducible first | exact HB.out | apply below_alloc | apply pw_below_drewN | apply below_drew1) | exact HB.out))) : w.heap.size ≤ gb222)); clear HB; have HB := n0_; have BK222 := n1_; have GW222 := n2_; have GE222 := n3_; clear n0_ n1_ n2_ n3_; clear hb hbox hg; have hcz9_0 : w8.cell? ⟨gb222, 0, none⟩ = some (.string (⟨#[]⟩ : ByteArray)) := (blk_cell BK222.out 0).trans rfl; have hcz9_1 : w8.cell? ⟨gb222, 1, none⟩ = some (.int .i64 0) := (blk_cell BK222.out 1).trans rfl; have hcz9_2 : w8.cell? ⟨gb222, 2, none⟩ = some (.bool false) := (blk_cell BK222.out 2).trans rfl; have hfz9_0 := blk_frozen BK222.out 0; have hfz9_1 := blk_frozen BK222.out 1; have hfz9_2 := blk_frozen BK222.out 2)))
                (try simp only [Act.put, List.setIfInBounds_toArray, List.set_cons_zero, List.set_cons_succ])
                go_cut [29] (fun v29 wc => ∃ (kq : Nat) (x29_6 : Bool), v29 = .bool x29_6 ∧ Aside0 (stemma_Check.j1 kq l0 l0 (l0.length : Int) x16_1 x29_6 ((rd_T24 l0 x16_1).f0) ((rd_T24 l0 x16_1).f1) ((rd_T24 l0 x16_1).f2) = some r) ∧ Aside0 (kq ≤ k1) ∧ Aside0 (wc.heap[gb222]? = some (.cells #[.string ((rd_T24 l0 x16_1).f0), .int .i64 ((rd_T24 l0 x16_1).f1), .bool ((rd_T24 l0 x16_1).f2)] 24 (0, 0))) ∧ Aside0 (Below w.heap.size w wc))
                case first =>
                  have H := HC7.out
                  clear HC7
                  by_cases c10 : (((rd_T24 l0 x16_1).f0).size : Int) < 1
                  · rw [if_pos c10] at H
                    have c10b0 : decide ((((rd_T24 l0 x16_1).f0).size : Int) < 1) = true := decide_eq_true c10
                    have c10b1 : decide (((rd_T24 l0 x16_1).f0).size < 1) = true := decide_eq_true (by omega)
                    clear c10
                    (first | rw [c10b0] | (simp only [i64_w, i32_w]; rw [c10b0]) | skip)
                    have H' := Aside0.mk H
                    clear H
                    have hcz11_0 : w8.cell? ⟨gb222, 0, none⟩ = some (.string (⟨#[]⟩ : ByteArray)) := (blk_cell BK222.out 0).trans rfl
                    have hcz11_1 : w8.cell? ⟨gb222, 1, none⟩ = some (.int .i64 0) := (blk_cell BK222.out 1).trans rfl
                    have hcz11_2 : w8.cell? ⟨gb222, 2, none⟩ = some (.bool false) := (blk_cell BK222.out 2).trans rfl
                    have hfz11_0 := blk_frozen BK222.out 0
                    have hfz11_1 := blk_frozen BK222.out 1
                    have hfz11_2 := blk_frozen BK222.out 2
                    go_wp2
                    repeat (go_quiet (fail); try go_wp2)
                    go_meet
                    case rel => exact ⟨_, (true), (by first | rfl | (simp; done) | (simp [*]; done)), H', ⟨by have := HK1.out; first | omega | exact Nat.le_refl _⟩, ⟨by (with_reducible repeat (first | refine blk_drewN ?_ _ | refine blk_drew ?_ | refine blk_alloc ?_ _)); refine blk_put (cs := #[.string ((rd_T24 l0 x16_1).f0), .int .i64 ((rd_T24 l0 x16_1).f1), .bool false]) ?_ 2 _ rfl; (with_reducible repeat (first | refine blk_drewN ?_ _ | refine blk_drew ?_ | refine blk_alloc ?_ _)); refine blk_put (cs := #[.string ((rd_T24 l0 x16_1).f0), .int .i64 0, .bool false]) ?_ 1 _ rfl; (with_reducible repeat (first | refine blk_drewN ?_ _ | refine blk_drew ?_ | refine blk_alloc ?_ _)); refine blk_put (cs := #[.string (⟨#[]⟩ : ByteArray), .int .i64 0, .bool false]) ?_ 0 _ rfl; (with_reducible repeat (first | refine blk_drewN ?_ _ | refine blk_drew ?_ | refine blk_alloc ?_ _)); exact BK222.out⟩, ⟨by repeat (first | (with_reducible first | exact HB.out | apply below_alloc | apply pw_below_drewN | apply below_drew1 | refine below_set ?_ GE222.out) | exact HB.out)⟩⟩
                  · rw [if_neg c10] at H
                    have c10b0 : decide ((((rd_T24 l0 x16_1).f0).size : Int) < 1) = false := decide_eq_false c10
                    have c10b1 : decide (((rd_T24 l0 x16_1).f0).size < 1) = false := decide_eq_false (by omega)
                    clear c10
                    (first | rw [c10b0] | (simp only [i64_w, i32_w]; rw [c10b0]) | skip)
                    have H' := Aside0.mk H
                    clear H
                    have hcz12_0 : w8.cell? ⟨gb222, 0, none⟩ = some (.string (⟨#[]⟩ : ByteArray)) := (blk_cell BK222.out 0).trans rfl
                    have hcz12_1 : w8.cell? ⟨gb222, 1, none⟩ = some (.int .i64 0) := (blk_cell BK222.out 1).trans rfl
                    have hcz12_2 : w8.cell? ⟨gb222, 2, none⟩ = some (.bool false) := (blk_cell BK222.out 2).trans rfl
                    have hfz12_0 := blk_frozen BK222.out 0
                    have hfz12_1 := blk_frozen BK222.out 1
                    have hfz12_2 := blk_frozen BK222.out 2
                    go_wp2
                    repeat (go_quiet (fail); try go_wp2)
                    go_meet
                    case rel => exact ⟨_, (decide ((((rd_T24 l0 x16_1).f0).size : Int) > 8)), (by first | rfl | (simp; done) | (simp [*]; done)), H', ⟨by have := HK1.out; first | omega | exact Nat.le_refl _⟩, ⟨by (with_reducible repeat (first | refine blk_drewN ?_ _ | refine blk_drew ?_ | refine blk_alloc ?_ _)); refine blk_put (cs := #[.string ((rd_T24 l0 x16_1).f0), .int .i64 ((rd_T24 l0 x16_1).f1), .bool false]) ?_ 2 _ rfl; (with_reducible repeat (first | refine blk_drewN ?_ _ | refine blk_drew ?_ | refine blk_alloc ?_ _)); refine blk_put (cs := #[.string ((rd_T24 l0 x16_1).f0), .int .i64 0, .bool false]) ?_ 1 _ rfl; (with_reducible repeat (first | refine blk_drewN ?_ _ | refine blk_drew ?_ | refine blk_alloc ?_ _)); refine blk_put (cs := #[.string (⟨#[]⟩ : ByteArray), .int .i64 0, .bool false]) ?_ 0 _ rfl; (with_reducible repeat (first | refine blk_drewN ?_ _ | refine blk_drew ?_ | refine blk_alloc ?_ _)); exact BK222.out⟩, ⟨by repeat (first | (with_reducible first | exact HB.out | apply below_alloc | apply pw_below_drewN | apply below_drew1 | refine below_set ?_ GE222.out) | exact HB.out)⟩⟩
                case rest =>
                  clear HC7
                  try clear c1
                  try clear c2
                  try clear c2b0
                  try clear c2b1
                  try clear c2b2
                  try clear p2
                  try clear q2
                  try clear hx2
                  try clear c3
                  try clear c3b0
                  try clear c3b1
                  try clear c4
                  try clear c4b0
                  try clear c5
                  try clear c5b0
                  try clear c6
                  try clear c6b0
                  try clear c10
                  try clear c10b0
                  try clear c10b1
                  try clear hcz11_0
                  try clear hcz11_1
                  try clear hcz11_2
                  try clear hcz12_0
                  try clear hcz12_1
                  try clear hcz12_2
                  try clear hcz9_0
                  try clear hcz9_1
                  try clear hcz9_2
                  try clear hfz11_0
                  try clear hfz11_1
                  try clear hfz11_2
                  try clear hfz12_0
                  try clear hfz12_1
                  try clear hfz12_2
                  try clear hfz9_0
                  try clear hfz9_1
                  try clear hfz9_2
                  try clear hx221_0
                  try clear hx221_1
                  try clear hx221_2
                  try clear p2
                  try clear p221
                  try clear q221
                  obtain ⟨kq, x29_6, rfl, HA, HJ6, BK222, HB⟩ := hcut
                  cases kq with
                  | zero => exact absurd HA.out (by simp [stemma_Check.j1])
                  | succ kj6 =>
                    have H := HA.out
                    clear HA
                    simp only [stemma_Check.j1] at H
                    by_cases c13 : x29_6 = true
                    · subst c13
                      have H1 : (some 2) = some r := by rw [if_pos rfl] at H; exact H
                      clear H
                      have H := H1
                      clear H1
                      obtain rfl := Option.some.inj H
                      go_wp2
                      repeat (go_quiet (fail); try go_wp2)
                      go_ret
                      exact ⟨by first | rfl | (simp [errW_none, errW_some] <;> rfl) | (simp [*, errW_none, errW_some] <;> rfl), by repeat (first | (with_reducible first | exact HB.out | apply below_alloc | apply pw_below_drewN | apply below_drew1 | refine below_set ?_ GE222.out) | exact HB.out)⟩
                    · replace c13 := Bool.eq_false_iff.mpr c13
                      subst c13
                      have H1 : (stemma_Check.l1 kj6 l0 l0 (l0.length : Int) x16_1 (((rd_T24 l0 x16_1).f0).size : Int) 0 ((rd_T24 l0 x16_1).f0) ((rd_T24 l0 x16_1).f1) ((rd_T24 l0 x16_1).f2)) = some r := by rw [if_neg (show ¬ (false = true) by decide)] at H; exact H
                      clear H
                      have H := H1
                      clear H1
                      have H' := Aside0.mk H
                      clear H
                      have hcz14_0 : wc.cell? ⟨gb222, 0, none⟩ = some (.string ((rd_T24 l0 x16_1).f0)) := (blk_cell BK222.out 0).trans rfl
                      have hcz14_1 : wc.cell? ⟨gb222, 1, none⟩ = some (.int .i64 ((rd_T24 l0 x16_1).f1)) := (blk_cell BK222.out 1).trans rfl
                      have hcz14_2 : wc.cell? ⟨gb222, 2, none⟩ = some (.bool ((rd_T24 l0 x16_1).f2)) := (blk_cell BK222.out 2).trans rfl
                      have hfz14_0 := blk_frozen BK222.out 0
                      have hfz14_1 := blk_frozen BK222.out 1
                      have hfz14_2 := blk_frozen BK222.out 2
                      go_wp2
                      repeat (go_quiet (fail); try go_wp2)
                      go_loopg [33] kj6 (fun kq v33 w' => ∃ (x33_3 : Int), v33 = .int .i64 x33_3 ∧ Aside0 (stemma_Check.l1 kq l0 l0 (l0.length : Int) x16_1 (((rd_T24 l0 x16_1).f0).size : Int) x33_3 ((rd_T24 l0 x16_1).f0) ((rd_T24 l0 x16_1).f1) ((rd_T24 l0 x16_1).f2) = some r) ∧ Aside0 (kq ≤ kj6) ∧ Aside0 (w'.heap[gb222]? = some (.cells #[.string ((rd_T24 l0 x16_1).f0), .int .i64 ((rd_T24 l0 x16_1).f1), .bool ((rd_T24 l0 x16_1).f2)] 24 (0, 0))) ∧ Aside0 (Below w.heap.size w w'))
                      case atStart => exact ⟨(0), (by first | rfl | (simp; done) | (simp [*]; done)), H', ⟨Nat.le_refl _⟩, ⟨by (with_reducible repeat (first | refine blk_drewN ?_ _ | refine blk_drew ?_ | refine blk_alloc ?_ _)); exact BK222.out⟩, ⟨by repeat (first | (with_reducible first | exact HB.out | apply below_alloc | apply pw_below_drewN | apply below_drew1 | refine below_set ?_ GE222.out) | exact HB.out)⟩⟩
                      case round =>
                        clear H'
                        try clear c1
                        try clear c2
                        try clear c2b0
                        try clear c2b1
                        try clear c2b2
                        try clear p2
                        try clear q2
                        try clear hx2
                        try clear c3
                        try clear c3b0
                        try clear c3b1
                        try clear c4
                        try clear c4b0
                        try clear c5
                        try clear c5b0
                        try clear c6
                        try clear c6b0
                        try clear c10
                        try clear c10b0
                        try clear c10b1
                        try clear c13
                        try clear hcz11_0
                        try clear hcz11_1
                        try clear hcz11_2
                        try clear hcz12_0
                        try clear hcz12_1
                        try clear hcz12_2
                        try clear hcz14_0
                        try clear hcz14_1
                        try clear hcz14_2
                        try clear hcz9_0
                        try clear hcz9_1
                        try clear hcz9_2
                        try clear hfz11_0
                        try clear hfz11_1
                        try clear hfz11_2
                        try clear hfz12_0
                        try clear hfz12_1
                        try clear hfz12_2
                        try clear hfz14_0
                        try clear hfz14_1
                        try clear hfz14_2
                        try clear hfz9_0
                        try clear hfz9_1
                        try clear hfz9_2
                        try clear hx221_0
                        try clear hx221_1
                        try clear hx221_2
                        try clear p2
                        try clear p221
                        try clear q2
                        try clear q221
                        obtain ⟨x33_3, rfl, HA, HK3, BK222, HB⟩ := hrel
                        cases gk with
                        | zero => exact absurd HA.out (by simp [stemma_Check.l1])
                        | succ k3 =>
                          have H := HA.out
                          clear HA
                          simp only [stemma_Check.l1] at H
                          by_cases c15 : x33_3 < (((rd_T24 l0 x16_1).f0).size : Int)
                          · rw [if_pos c15] at H
                            have c15b0 : decide (x33_3 < (((rd_T24 l0 x16_1).f0).size : Int)) = true := decide_eq_true c15
                            clear c15
                            by_cases c16 : 0 ≤ x33_3
                            · rw [if_pos c16] at H
                              have c16b0 : decide (0 ≤ x33_3) = true := decide_eq_true c16
                              clear c16
                              by_cases c17 : x33_3 < (((rd_T24 l0 x16_1).f0).size : Int)
                              · rw [if_pos c17] at H
                                have c17b0 : decide (x33_3 < (((rd_T24 l0 x16_1).f0).size : Int)) = true := decide_eq_true c17
                                clear c17
                                by_cases c19 : (bt ((rd_T24 l0 x16_1).f0) x33_3) < 65
                                · rw [if_pos c19] at H
                                  have c19b0 : decide ((bt ((rd_T24 l0 x16_1).f0) x33_3) < 65) = true := decide_eq_true c19
                                  clear c19
                                  obtain rfl := Option.some.inj H
                                  have hcz20_0 : wr.cell? ⟨gb222, 0, none⟩ = some (.string ((rd_T24 l0 x16_1).f0)) := (blk_cell BK222.out 0).trans rfl
                                  have hcz20_1 : wr.cell? ⟨gb222, 1, none⟩ = some (.int .i64 ((rd_T24 l0 x16_1).f1)) := (blk_cell BK222.out 1).trans rfl
                                  have hcz20_2 : wr.cell? ⟨gb222, 2, none⟩ = some (.bool ((rd_T24 l0 x16_1).f2)) := (blk_cell BK222.out 2).trans rfl
                                  have hfz20_0 := blk_frozen BK222.out 0
                                  have hfz20_1 := blk_frozen BK222.out 1
                                  have hfz20_2 := blk_frozen BK222.out 2
                                  have p18 : 0 ≤ (x33_3 : Int) := of_decide_eq_true (by first | (with_reducible assumption) | assumption)
                                  have q18 : x33_3 < (((rd_T24 l0 x16_1).f0).size : Int) := of_decide_eq_true (by first | (with_reducible assumption) | assumption)
                                  have hx18 := bt_at ((rd_T24 l0 x16_1).f0) x33_3
                                  replace p18 := eq_true p18
                                  replace q18 := eq_true q18
                                  go_wp2
                                  repeat (go_quiet (fail); try go_wp2)
                                  go_ret
                                  exact ⟨by first | rfl | (simp [errW_none, errW_some] <;> rfl) | (simp [*, errW_none, errW_some] <;> rfl), by repeat (first | (with_reducible first | exact HB.out | apply below_alloc | apply pw_below_drewN | apply below_drew1 | refine below_set ?_ GE222.out) | exact HB.out)⟩
                                · rw [if_neg c19] at H
                                  have c19b0 : decide ((bt ((rd_T24 l0 x16_1).f0) x33_3) < 65) = false := decide_eq_false c19
                                  clear c19
                                  by_cases c22 : (bt ((rd_T24 l0 x16_1).f0) x33_3) > 90
                                  · rw [if_pos c22] at H
                                    have c22b0 : decide (90 < (bt ((rd_T24 l0 x16_1).f0) x33_3)) = true := decide_eq_true c22
                                    clear c22
                                    obtain rfl := Option.some.inj H
                                    have hcz23_0 : wr.cell? ⟨gb222, 0, none⟩ = some (.string ((rd_T24 l0 x16_1).f0)) := (blk_cell BK222.out 0).trans rfl
                                    have hcz23_1 : wr.cell? ⟨gb222, 1, none⟩ = some (.int .i64 ((rd_T24 l0 x16_1).f1)) := (blk_cell BK222.out 1).trans rfl
                                    have hcz23_2 : wr.cell? ⟨gb222, 2, none⟩ = some (.bool ((rd_T24 l0 x16_1).f2)) := (blk_cell BK222.out 2).trans rfl
                                    have hfz23_0 := blk_frozen BK222.out 0
                                    have hfz23_1 := blk_frozen BK222.out 1
                                    have hfz23_2 := blk_frozen BK222.out 2
                                    have p18 : 0 ≤ (x33_3 : Int) := of_decide_eq_true (by first | (with_reducible assumption) | assumption)
                                    have q18 : x33_3 < (((rd_T24 l0 x16_1).f0).size : Int) := of_decide_eq_true (by first | (with_reducible assumption) | assumption)
                                    have hx18 := bt_at ((rd_T24 l0 x16_1).f0) x33_3
                                    replace p18 := eq_true p18
                                    replace q18 := eq_true q18
                                    have p21 : 0 ≤ (x33_3 : Int) := of_decide_eq_true (by first | (with_reducible assumption) | assumption)
                                    have q21 : x33_3 < (((rd_T24 l0 x16_1).f0).size : Int) := of_decide_eq_true (by first | (with_reducible assumption) | assumption)
                                    have hx21 := bt_at ((rd_T24 l0 x16_1).f0) x33_3
                                    replace p21 := eq_true p21
                                    replace q21 := eq_true q21
                                    go_wp2
                                    repeat (go_quiet (fail); try go_wp2)
                                    go_ret
                                    exact ⟨by first | rfl | (simp [errW_none, errW_some] <;> rfl) | (simp [*, errW_none, errW_some] <;> rfl), by repeat (first | (with_reducible first | exact HB.out | apply below_alloc | apply pw_below_drewN | apply below_drew1 | refine below_set ?_ GE222.out) | exact HB.out)⟩
                                  · rw [if_neg c22] at H
                                    have c22b0 : decide (90 < (bt ((rd_T24 l0 x16_1).f0) x33_3)) = false := decide_eq_false c22
                                    clear c22
                                    have H' := Aside0.mk H
                                    clear H
                                    have hcz24_0 : wr.cell? ⟨gb222, 0, none⟩ = some (.string ((rd_T24 l0 x16_1).f0)) := (blk_cell BK222.out 0).trans rfl
                                    have hcz24_1 : wr.cell? ⟨gb222, 1, none⟩ = some (.int .i64 ((rd_T24 l0 x16_1).f1)) := (blk_cell BK222.out 1).trans rfl
                                    have hcz24_2 : wr.cell? ⟨gb222, 2, none⟩ = some (.bool ((rd_T24 l0 x16_1).f2)) := (blk_cell BK222.out 2).trans rfl
                                    have hfz24_0 := blk_frozen BK222.out 0
                                    have hfz24_1 := blk_frozen BK222.out 1
                                    have hfz24_2 := blk_frozen BK222.out 2
                                    have p18 : 0 ≤ (x33_3 : Int) := of_decide_eq_true (by first | (with_reducible assumption) | assumption)
                                    have q18 : x33_3 < (((rd_T24 l0 x16_1).f0).size : Int) := of_decide_eq_true (by first | (with_reducible assumption) | assumption)
                                    have hx18 := bt_at ((rd_T24 l0 x16_1).f0) x33_3
                                    replace p18 := eq_true p18
                                    replace q18 := eq_true q18
                                    have p21 : 0 ≤ (x33_3 : Int) := of_decide_eq_true (by first | (with_reducible assumption) | assumption)
                                    have q21 : x33_3 < (((rd_T24 l0 x16_1).f0).size : Int) := of_decide_eq_true (by first | (with_reducible assumption) | assumption)
                                    have hx21 := bt_at ((rd_T24 l0 x16_1).f0) x33_3
                                    replace p21 := eq_true p21
                                    replace q21 := eq_true q21
                                    go_wp2
                                    repeat (go_quiet (fail); try go_wp2)
                                    go_roundg k3
                                    case measure => have := HK1.out; have := HJ6.out; have := HK3.out; omega
                                    case rel => exact ⟨(wrap64 (x33_3 + 1)), (by first | rfl | (simp; done) | (simp [*]; done)), H', ⟨by have := HK1.out; have := HJ6.out; have := HK3.out; omega⟩, ⟨by (with_reducible repeat (first | refine blk_drewN ?_ _ | refine blk_drew ?_ | refine blk_alloc ?_ _)); exact BK222.out⟩, ⟨by repeat (first | (with_reducible first | exact HB.out | apply below_alloc | apply pw_below_drewN | apply below_drew1 | refine below_set ?_ GE222.out) | exact HB.out)⟩⟩
                              · rw [if_neg c17] at H
                                exact absurd H (by simp)
                            · rw [if_neg c16] at H
                              exact absurd H (by simp)
                          · rw [if_neg c15] at H
                            have c15b0 : decide (x33_3 < (((rd_T24 l0 x16_1).f0).size : Int)) = false := decide_eq_false c15
                            clear c15
                            by_cases c25 : 0 < (l0.length : Int)
                            · rw [if_pos c25] at H
                              have c25b0 : decide (0 < (l0.length : Int)) = true := decide_eq_true c25
                              have c25b1 : decide (0 < l0.length) = true := decide_eq_true (by omega)
                              clear c25
                              by_cases c26 : (((rd_T24 l0 x16_1).f0).size : Int) = (((rd_T24 l0 0).f0).size : Int)
                              · rw [if_pos c26] at H
                                have c26b0 : ((((rd_T24 l0 x16_1).f0).size : Int) == (((rd_T24 l0 0).f0).size : Int)) = true := beq_iff_eq.mpr c26
                                have c26b1 : ((((rd_T24 l0 x16_1).f0).size : Int) != (((rd_T24 l0 0).f0).size : Int)) = false := bne_eq_false_iff_eq.mpr c26
                                have c26b2 : (((rd_T24 l0 x16_1).f0).size == ((rd_T24 l0 0).f0).size) = true := by first | simpa using c26 | (simp at c26 ⊢; omega)
                                clear c26
                                by_cases c27 : ((rd_T24 l0 x16_1).f1) < 0
                                · rw [if_pos c27] at H
                                  have c27b0 : decide (((rd_T24 l0 x16_1).f1) < 0) = true := decide_eq_true c27
                                  clear c27
                                  obtain rfl := Option.some.inj H
                                  have hcz28_0 : wr.cell? ⟨gb222, 0, none⟩ = some (.string ((rd_T24 l0 x16_1).f0)) := (blk_cell BK222.out 0).trans rfl
                                  have hcz28_1 : wr.cell? ⟨gb222, 1, none⟩ = some (.int .i64 ((rd_T24 l0 x16_1).f1)) := (blk_cell BK222.out 1).trans rfl
                                  have hcz28_2 : wr.cell? ⟨gb222, 2, none⟩ = some (.bool ((rd_T24 l0 x16_1).f2)) := (blk_cell BK222.out 2).trans rfl
                                  have hfz28_0 := blk_frozen BK222.out 0
                                  have hfz28_1 := blk_frozen BK222.out 1
                                  have hfz28_2 := blk_frozen BK222.out 2
                                  have p223 : 0 ≤ (0 : Int) := (by omega)
                                  have q223 : 0 < (l0.length : Int) := of_decide_eq_true (by first | (with_reducible assumption) | assumption)
                                  obtain ⟨ad223, e223, hx223_0, hx223_1, hx223_2⟩ := at_T24 HR0.out 0 p223 q223
                                  obtain rfl : ad221 = ad223 := (by injection e223)
                                  have qi223 : (0 < l0.length) = True := eq_true (by omega)
                                  (try rw [show ((0 : Int)).toNat = 0 from rfl] at hx223_0)
                                  (try rw [show 0 * 3 = 0 from rfl] at hx223_0)
                                  (try rw [Addr.add_zero'] at hx223_0)
                                  (try rw [show ((0 : Int)).toNat = 0 from rfl] at hx223_1)
                                  (try rw [show 0 * 3 = 0 from rfl] at hx223_1)
                                  (try rw [Addr.add_zero'] at hx223_1)
                                  (try rw [show ((0 : Int)).toNat = 0 from rfl] at hx223_2)
                                  (try rw [show 0 * 3 = 0 from rfl] at hx223_2)
                                  (try rw [Addr.add_zero'] at hx223_2)
                                  try replace hx223_0 := (HB.out.cell (World.block_lt_of_cell? w _ hx223_0)).trans hx223_0
                                  try replace hx223_1 := (HB.out.cell (World.block_lt_of_cell? w _ hx223_1)).trans hx223_1
                                  try replace hx223_2 := (HB.out.cell (World.block_lt_of_cell? w _ hx223_2)).trans hx223_2
                                  replace p223 := eq_true p223
                                  replace q223 := eq_true q223
                                  go_wp2
                                  repeat (go_quiet (fail); try go_wp2)
                                  go_ret
                                  exact ⟨by first | rfl | (simp [errW_none, errW_some] <;> rfl) | (simp [*, errW_none, errW_some] <;> rfl), by repeat (first | (with_reducible first | exact HB.out | apply below_alloc | apply pw_below_drewN | apply below_drew1 | refine below_set ?_ GE222.out) | exact HB.out)⟩
                                · rw [if_neg c27] at H
                                  have c27b0 : decide (((rd_T24 l0 x16_1).f1) < 0) = false := decide_eq_false c27
                                  clear c27
                                  by_cases c29 : ((rd_T24 l0 x16_1).f1) > 3
                                  · rw [if_pos c29] at H
                                    have c29b0 : decide (3 < ((rd_T24 l0 x16_1).f1)) = true := decide_eq_true c29
                                    clear c29
                                    obtain rfl := Option.some.inj H
                                    have hcz30_0 : wr.cell? ⟨gb222, 0, none⟩ = some (.string ((rd_T24 l0 x16_1).f0)) := (blk_cell BK222.out 0).trans rfl
                                    have hcz30_1 : wr.cell? ⟨gb222, 1, none⟩ = some (.int .i64 ((rd_T24 l0 x16_1).f1)) := (blk_cell BK222.out 1).trans rfl
                                    have hcz30_2 : wr.cell? ⟨gb222, 2, none⟩ = some (.bool ((rd_T24 l0 x16_1).f2)) := (blk_cell BK222.out 2).trans rfl
                                    have hfz30_0 := blk_frozen BK222.out 0
                                    have hfz30_1 := blk_frozen BK222.out 1
                                    have hfz30_2 := blk_frozen BK222.out 2
                                    have p223 : 0 ≤ (0 : Int) := (by omega)
                                    have q223 : 0 < (l0.length : Int) := of_decide_eq_true (by first | (with_reducible assumption) | assumption)
                                    obtain ⟨ad223, e223, hx223_0, hx223_1, hx223_2⟩ := at_T24 HR0.out 0 p223 q223
                                    obtain rfl : ad221 = ad223 := (by injection e223)
                                    have qi223 : (0 < l0.length) = True := eq_true (by omega)
                                    (try rw [show ((0 : Int)).toNat = 0 from rfl] at hx223_0)
                                    (try rw [show 0 * 3 = 0 from rfl] at hx223_0)
                                    (try rw [Addr.add_zero'] at hx223_0)
                                    (try rw [show ((0 : Int)).toNat = 0 from rfl] at hx223_1)
                                    (try rw [show 0 * 3 = 0 from rfl] at hx223_1)
                                    (try rw [Addr.add_zero'] at hx223_1)
                                    (try rw [show ((0 : Int)).toNat = 0 from rfl] at hx223_2)
                                    (try rw [show 0 * 3 = 0 from rfl] at hx223_2)
                                    (try rw [Addr.add_zero'] at hx223_2)
                                    try replace hx223_0 := (HB.out.cell (World.block_lt_of_cell? w _ hx223_0)).trans hx223_0
                                    try replace hx223_1 := (HB.out.cell (World.block_lt_of_cell? w _ hx223_1)).trans hx223_1
                                    try replace hx223_2 := (HB.out.cell (World.block_lt_of_cell? w _ hx223_2)).trans hx223_2
                                    replace p223 := eq_true p223
                                    replace q223 := eq_true q223
                                    go_wp2
                                    repeat (go_quiet (fail); try go_wp2)
                                    go_ret
                                    exact ⟨by first | rfl | (simp [errW_none, errW_some] <;> rfl) | (simp [*, errW_none, errW_some] <;> rfl), by repeat (first | (with_reducible first | exact HB.out | apply below_alloc | apply pw_below_drewN | apply below_drew1 | refine below_set ?_ GE222.out) | exact HB.out)⟩
                                  · rw [if_neg c29] at H
                                    have c29b0 : decide (3 < ((rd_T24 l0 x16_1).f1)) = false := decide_eq_false c29
                                    clear c29
                                    have H' := Aside0.mk H
                                    clear H
                                    have hcz31_0 : wr.cell? ⟨gb222, 0, none⟩ = some (.string ((rd_T24 l0 x16_1).f0)) := (blk_cell BK222.out 0).trans rfl
                                    have hcz31_1 : wr.cell? ⟨gb222, 1, none⟩ = some (.int .i64 ((rd_T24 l0 x16_1).f1)) := (blk_cell BK222.out 1).trans rfl
                                    have hcz31_2 : wr.cell? ⟨gb222, 2, none⟩ = some (.bool ((rd_T24 l0 x16_1).f2)) := (blk_cell BK222.out 2).trans rfl
                                    have hfz31_0 := blk_frozen BK222.out 0
                                    have hfz31_1 := blk_frozen BK222.out 1
                                    have hfz31_2 := blk_frozen BK222.out 2
                                    have p223 : 0 ≤ (0 : Int) := (by omega)
                                    have q223 : 0 < (l0.length : Int) := of_decide_eq_true (by first | (with_reducible assumption) | assumption)
                                    obtain ⟨ad223, e223, hx223_0, hx223_1, hx223_2⟩ := at_T24 HR0.out 0 p223 q223
                                    obtain rfl : ad221 = ad223 := (by injection e223)
                                    have qi223 : (0 < l0.length) = True := eq_true (by omega)
                                    (try rw [show ((0 : Int)).toNat = 0 from rfl] at hx223_0)
                                    (try rw [show 0 * 3 = 0 from rfl] at hx223_0)
                                    (try rw [Addr.add_zero'] at hx223_0)
                                    (try rw [show ((0 : Int)).toNat = 0 from rfl] at hx223_1)
                                    (try rw [show 0 * 3 = 0 from rfl] at hx223_1)
                                    (try rw [Addr.add_zero'] at hx223_1)
                                    (try rw [show ((0 : Int)).toNat = 0 from rfl] at hx223_2)
                                    (try rw [show 0 * 3 = 0 from rfl] at hx223_2)
                                    (try rw [Addr.add_zero'] at hx223_2)
                                    try replace hx223_0 := (HB.out.cell (World.block_lt_of_cell? w _ hx223_0)).trans hx223_0
                                    try replace hx223_1 := (HB.out.cell (World.block_lt_of_cell? w _ hx223_1)).trans hx223_1
                                    try replace hx223_2 := (HB.out.cell (World.block_lt_of_cell? w _ hx223_2)).trans hx223_2
                                    replace p223 := eq_true p223
                                    replace q223 := eq_true q223
                                    go_wp2
                                    repeat (go_quiet (fail); try go_wp2)
                                    go_roundg k3
                                    case measure => have := HK1.out; have := HJ6.out; have := HK3.out; omega
                                    case rel => exact ⟨(wrap64 (x16_1 + 1)), (by first | rfl | (simp; done) | (simp [*]; done)), H', ⟨by have := HK1.out; have := HJ6.out; have := HK3.out; omega⟩, ⟨by repeat (first | (with_reducible first | exact HB.out | apply below_alloc | apply pw_below_drewN | apply below_drew1 | refine below_set ?_ GE222.out) | exact HB.out)⟩⟩
                              · rw [if_neg c26] at H
                                have c26b0 : ((((rd_T24 l0 x16_1).f0).size : Int) == (((rd_T24 l0 0).f0).size : Int)) = false := beq_eq_false_iff_ne.mpr c26
                                have c26b1 : ((((rd_T24 l0 x16_1).f0).size : Int) != (((rd_T24 l0 0).f0).size : Int)) = true := bne_iff_ne.mpr c26
                                have c26b2 : (((rd_T24 l0 x16_1).f0).size == ((rd_T24 l0 0).f0).size) = false := by first | simpa using c26 | (simp at c26 ⊢; omega)
                                obtain rfl := Option.some.inj H
                                have hcz32_0 : wr.cell? ⟨gb222, 0, none⟩ = some (.string ((rd_T24 l0 x16_1).f0)) := (blk_cell BK222.out 0).trans rfl
                                have hcz32_1 : wr.cell? ⟨gb222, 1, none⟩ = some (.int .i64 ((rd_T24 l0 x16_1).f1)) := (blk_cell BK222.out 1).trans rfl
                                have hcz32_2 : wr.cell? ⟨gb222, 2, none⟩ = some (.bool ((rd_T24 l0 x16_1).f2)) := (blk_cell BK222.out 2).trans rfl
                                have hfz32_0 := blk_frozen BK222.out 0
                                have hfz32_1 := blk_frozen BK222.out 1
                                have hfz32_2 := blk_frozen BK222.out 2
                                have p223 : 0 ≤ (0 : Int) := (by omega)
                                have q223 : 0 < (l0.length : Int) := of_decide_eq_true (by first | (with_reducible assumption) | assumption)
                                obtain ⟨ad223, e223, hx223_0, hx223_1, hx223_2⟩ := at_T24 HR0.out 0 p223 q223
                                obtain rfl : ad221 = ad223 := (by injection e223)
                                have qi223 : (0 < l0.length) = True := eq_true (by omega)
                                (try rw [show ((0 : Int)).toNat = 0 from rfl] at hx223_0)
                                (try rw [show 0 * 3 = 0 from rfl] at hx223_0)
                                (try rw [Addr.add_zero'] at hx223_0)
                                (try rw [show ((0 : Int)).toNat = 0 from rfl] at hx223_1)
                                (try rw [show 0 * 3 = 0 from rfl] at hx223_1)
                                (try rw [Addr.add_zero'] at hx223_1)
                                (try rw [show ((0 : Int)).toNat = 0 from rfl] at hx223_2)
                                (try rw [show 0 * 3 = 0 from rfl] at hx223_2)
                                (try rw [Addr.add_zero'] at hx223_2)
                                try replace hx223_0 := (HB.out.cell (World.block_lt_of_cell? w _ hx223_0)).trans hx223_0
                                try replace hx223_1 := (HB.out.cell (World.block_lt_of_cell? w _ hx223_1)).trans hx223_1
                                try replace hx223_2 := (HB.out.cell (World.block_lt_of_cell? w _ hx223_2)).trans hx223_2
                                replace p223 := eq_true p223
                                replace q223 := eq_true q223
                                go_wp2
                                repeat (go_quiet (fail); try go_wp2)
                                go_ret
                                exact ⟨by first | rfl | (simp [errW_none, errW_some] <;> rfl) | (simp [*, errW_none, errW_some] <;> rfl), by repeat (first | (with_reducible first | exact HB.out | apply below_alloc | apply pw_below_drewN | apply below_drew1 | refine below_set ?_ GE222.out) | exact HB.out)⟩
                            · rw [if_neg c25] at H
                              exact absurd H (by simp)
              · rw [if_neg c6] at H
                exact absurd H (by simp)
            · rw [if_neg c5] at H
              exact absurd H (by simp)
          · rw [if_neg c4] at H
            have c4b0 : decide (x16_1 < (l0.length : Int)) = false := decide_eq_false c4
            clear c4
            obtain rfl := Option.some.inj H
            go_wp2
            repeat (go_quiet (fail); try go_wp2)
            go_ret
            exact ⟨by first | rfl | (simp [errW_none, errW_some] <;> rfl) | (simp [*, errW_none, errW_some] <;> rfl), by repeat (first | (with_reducible first | exact HB.out | apply below_alloc | apply pw_below_drewN | apply below_drew1) | exact HB.out)⟩
end Go.Proofs.Ytegjollhajgcdaa.P
namespace Go.Proofs.Ytegjollhajgcdaa.P
open Go.RowKit Go.Proofs.YtegjollhajgcdaaW.PrintWords Go.Proofs.YtegjollhajgcdaaW.PrintLast Go.Proofs.YtegjollhajgcdaaW.PrintMore
attribute [local go_sem] max2_int min2_int max_two min_two max_three min_three max_four min_four   -- for this text's walks alone
set_option linter.unusedVariables false
set_option linter.unusedSimpArgs false
def stemma_apart.l0 : Nat → ByteArray → ByteArray → Int → Int → Int → Option (Int)
  | 0, _, _, _, _, _ => none
  | k + 1, x0, x1, x5, x8, x9 => if x9 < x8 then (if 0 ≤ x9 then (if x9 < (x0.size : Int) then (if x9 < (x1.size : Int) then (if (bt x0 x9) = (bt x1 x9) then (stemma_apart.l0 k x0 x1 x5 x8 (wrap64 (x9 + 1))) else (stemma_apart.l0 k x0 x1 (wrap64 (x5 + 1)) x8 (wrap64 (x9 + 1)))) else (none)) else (none)) else (none)) else (some x5)
def stemma_apart.f (k : Nat) (a0 : ByteArray) (a1 : ByteArray) : Option (Int) := stemma_apart.l0 k a0 a1 0 (a0.size : Int) 0
theorem stemma_apart.mono_l : ∀ k, (∀ y0 y1 y2 y3 y4, LeO (stemma_apart.l0 k y0 y1 y2 y3 y4) (stemma_apart.l0 (k + 1) y0 y1 y2 y3 y4))
  | 0 => fun _ _ _ _ _ r h => by simp [stemma_apart.l0] at h
  | k + 1 => by
    have ih0 := stemma_apart.mono_l k
    · intro y0 y1 y2 y3 y4
      unfold stemma_apart.l0
      repeat' first
      | (with_reducible exact ih0 _ _ _ _ _)
      | (with_reducible exact LeO.refl _)
      | (with_reducible exact LeO.none _)
      | (with_reducible refine LeO.ite ?_ ?_)
      | (with_reducible refine LeO.bind ?_ (fun _ => ?_))
      | exact ih0 _ _ _ _ _
      | exact LeO.none _
      | refine LeO.ite ?_ ?_
      | refine LeO.bind ?_ (fun _ => ?_)
theorem stemma_apart.mono : ∀ a0 a1 k, LeO (stemma_apart.f k a0 a1) (stemma_apart.f (k + 1) a0 a1) := by
  intro a0 a1 k
  have ih0 := stemma_apart.mono_l k
  unfold stemma_apart.f
  repeat' first
      | (with_reducible exact ih0 _ _ _ _ _)
      | (with_reducible exact LeO.refl _)
      | (with_reducible exact LeO.none _)
      | (with_reducible refine LeO.ite ?_ ?_)
      | (with_reducible refine LeO.bind ?_ (fun _ => ?_))
      | exact ih0 _ _ _ _ _
      | exact LeO.none _
      | refine LeO.ite ?_ ?_
      | refine LeO.bind ?_ (fun _ => ?_)
set_option maxHeartbeats 8000000 in
set_option maxRecDepth 100000 in
theorem stemma_apart.calls (k : Nat) (a0 : ByteArray) (a1 : ByteArray) (r : Int) (w : World) (h : stemma_apart.f k a0 a1 = some r) :
    Calls Try.prog 58 #[.string a0, .string a1] w fun e w' => e = .returned (.int .i64 r) ∧ Drawn0 w w' := by
  have H : (stemma_apart.l0 k a0 a1 0 (a0.size : Int) 0) = some r := h
  clear h
  have H' := Aside0.mk H
  clear H
  go_enter Try.func58, Try.ntmps58
  go_wp2
  repeat (go_quiet (fail); try go_wp2)
  go_loopg [5, 9] k (fun kq v5 v9 w' => ∃ (x5_1 : Int) (x9_1 : Int), v5 = .int .i64 x5_1 ∧ v9 = .int .i64 x9_1 ∧ Aside0 (stemma_apart.l0 kq a0 a1 x5_1 (a0.size : Int) x9_1 = some r) ∧ Aside0 (kq ≤ k) ∧ Drawn0 w w')
  case atStart => exact ⟨(0), (0), (by first | rfl | (simp; done) | (simp [*]; done)), (by first | rfl | (simp; done) | (simp [*]; done)), H', ⟨Nat.le_refl _⟩, by repeat (first | exact Drawn0.refl _ | apply Drawn0.step)⟩
  case round =>
    clear H'
    try clear p2
    obtain ⟨x5_1, x9_1, rfl, rfl, HA, HK1, ⟨m1, rfl⟩⟩ := hrel
    cases gk with
    | zero => exact absurd HA.out (by simp [stemma_apart.l0])
    | succ k1 =>
      have H := HA.out
      clear HA
      simp only [stemma_apart.l0] at H
      by_cases c3 : x9_1 < (a0.size : Int)
      · rw [if_pos c3] at H
        have c3b0 : decide (x9_1 < (a0.size : Int)) = true := decide_eq_true c3
        clear c3
        by_cases c4 : 0 ≤ x9_1
        · rw [if_pos c4] at H
          have c4b0 : decide (0 ≤ x9_1) = true := decide_eq_true c4
          clear c4
          by_cases c5 : x9_1 < (a0.size : Int)
          · rw [if_pos c5] at H
            have c5b0 : decide (x9_1 < (a0.size : Int)) = true := decide_eq_true c5
            clear c5
            by_cases c7 : x9_1 < (a1.size : Int)
            · rw [if_pos c7] at H
              have c7b0 : decide (x9_1 < (a1.size : Int)) = true := decide_eq_true c7
              clear c7
              by_cases c9 : (bt a0 x9_1) = (bt a1 x9_1)
              · rw [if_pos c9] at H
                have c9b0 : ((bt a0 x9_1) == (bt a1 x9_1)) = true := beq_iff_eq.mpr c9
                have c9b1 : ((bt a0 x9_1) != (bt a1 x9_1)) = false := bne_eq_false_iff_eq.mpr c9
                clear c9
                have H' := Aside0.mk H
                clear H
                have p6 : 0 ≤ (x9_1 : Int) := of_decide_eq_true (by first | (with_reducible assumption) | assumption)
                have q6 : x9_1 < (a0.size : Int) := of_decide_eq_true (by first | (with_reducible assumption) | assumption)
                have hx6 := bt_at a0 x9_1
                replace p6 := eq_true p6
                replace q6 := eq_true q6
                have p8 : 0 ≤ (x9_1 : Int) := of_decide_eq_true (by first | (with_reducible assumption) | assumption)
                have q8 : x9_1 < (a1.size : Int) := of_decide_eq_true (by first | (with_reducible assumption) | assumption)
                have hx8 := bt_at a1 x9_1
                replace p8 := eq_true p8
                replace q8 := eq_true q8
                go_wp2
                repeat (go_quiet (fail); try go_wp2)
                go_roundg k1
                case measure => have := HK1.out; omega
                case rel => exact ⟨(x5_1), (wrap64 (x9_1 + 1)), (by first | rfl | (simp; done) | (simp [*]; done)), (by first | rfl | (simp; done) | (simp [*]; done)), H', ⟨by have := HK1.out; omega⟩, by repeat (first | exact Drawn0.refl _ | apply Drawn0.step)⟩
              · rw [if_neg c9] at H
                have c9b0 : ((bt a0 x9_1) == (bt a1 x9_1)) = false := beq_eq_false_iff_ne.mpr c9
                have c9b1 : ((bt a0 x9_1) != (bt a1 x9_1)) = true := bne_iff_ne.mpr c9
                have H' := Aside0.mk H
                clear H
                have p6 : 0 ≤ (x9_1 : Int) := of_decide_eq_true (by first | (with_reducible assumption) | assumption)
                have q6 : x9_1 < (a0.size : Int) := of_decide_eq_true (by first | (with_reducible assumption) | assumption)
                have hx6 := bt_at a0 x9_1
                replace p6 := eq_true p6
                replace q6 := eq_true q6
                have p8 : 0 ≤ (x9_1 : Int) := of_decide_eq_true (by first | (with_reducible assumption) | assumption)
                have q8 : x9_1 < (a1.size : Int) := of_decide_eq_true (by first | (with_reducible assumption) | assumption)
                have hx8 := bt_at a1 x9_1
                replace p8 := eq_true p8
                replace q8 := eq_true q8
                go_wp2
                repeat (go_quiet (fail); try go_wp2)
                go_roundg k1
                case measure => have := HK1.out; omega
                case rel => exact ⟨(wrap64 (x5_1 + 1)), (wrap64 (x9_1 + 1)), (by first | rfl | (simp; done) | (simp [*]; done)), (by first | rfl | (simp; done) | (simp [*]; done)), H', ⟨by have := HK1.out; omega⟩, by repeat (first | exact Drawn0.refl _ | apply Drawn0.step)⟩
            · rw [if_neg c7] at H
              exact absurd H (by simp)
          · rw [if_neg c5] at H
            exact absurd H (by simp)
        · rw [if_neg c4] at H
          exact absurd H (by simp)
      · rw [if_neg c3] at H
        have c3b0 : decide (x9_1 < (a0.size : Int)) = false := decide_eq_false c3
        clear c3
        obtain rfl := Option.some.inj H
        go_wp2
        repeat (go_quiet (fail); try go_wp2)
        go_ret
        exact ⟨by first | rfl | (simp; done) | (simp [*]; done), by repeat (first | exact Drawn0.refl _ | apply Drawn0.step)⟩
end Go.Proofs.Ytegjollhajgcdaa.P
namespace Go.Proofs.Ytegjollhajgcdaa.P.OwnSt
open Go.RowKit Go.Proofs.YtegjollhajgcdaaW.PrintWords Go.Proofs.YtegjollhajgcdaaW.PrintLast Go.Proofs.YtegjollhajgcdaaW.PrintMore
set_option linter.unusedVariables false
def atOne (l : List S24) (fs : Nat → Int) (place ch : Int) (i : Nat) : Bool := fs i == -1 && bt (rd_T24 l (i : Int)).f0 place == ch
def atB (l : List S24) (fs : Nat → Int) (place ch : Int) : Bool := (List.range l.length).any (atOne l fs place ch)
def LostAt (W : World) (b : Nat) (A : Option Addr) (n c : Nat) (fs : Nat → Int) : Prop :=
  W.heap[b]? = some (.cells #[.slice A n c, .int .i64 (fs 0), .int .i64 (fs 1), .int .i64 (fs 2), .int .i64 (fs 3), .int .i64 (fs 4)] 84 (0, 0))
theorem LostAt.list {W : World} {b : Nat} {A : Option Addr} {n c : Nat} {fs : Nat → Int} (h : LostAt W b A n c fs) : W.cell? ⟨b, 0, none⟩ = some (.slice A n c) := (blk_cell h 0).trans rfl
theorem LostAt.src {W : World} {b : Nat} {A : Option Addr} {n c : Nat} {fs : Nat → Int} (h : LostAt W b A n c fs) (k : Nat) (hk : k < 5) : W.cell? ⟨b, 1 + k, none⟩ = some (.int .i64 (fs k)) := by
  rw [blk_cell h]
  rcases k with _ | _ | _ | _ | _ | k
  all_goals first | rfl | omega
theorem LostAt.below {W W' : World} {b : Nat} {A : Option Addr} {n c : Nat} {fs : Nat → Int} (h : LostAt W b A n c fs) (hb : Below W.heap.size W W') : LostAt W' b A n c fs := blk_below h hb
theorem any_succ (k : Nat) (p : Nat → Bool) : (List.range (k + 1)).any p = ((List.range k).any p || p k) := by
  rw [List.range_succ, List.any_append]; simp
set_option maxHeartbeats 4000000 in
set_option maxRecDepth 100000 in
theorem at_calls (A : Option Addr) (c : Nat) (l : List S24) (fs : Nat → Int) (place ch : Int) (w : World) (hr : Kd.C k24 w A l.length l) (hc : l.length ≤ c) (h5 : l.length ≤ 5)
    (hp0 : 0 ≤ place) (hp : ∀ i : Nat, i < l.length → place < ((rd_T24 l (i : Int)).f0.size : Int)) :
    Calls Try.prog 67 #[.agg #[.slice A l.length c, .int .i64 (fs 0), .int .i64 (fs 1), .int .i64 (fs 2), .int .i64 (fs 3), .int .i64 (fs 4)], .int .i64 place, .int .u8 ch] w fun e w' =>
      e = .returned (.bool (atB l fs place ch)) ∧ Below w.heap.size w w' := by
  have HR := Aside0.mk hr
  have HP := Aside0.mk hp
  clear hr hp
  have HL0 := Aside0.mk (show LostAt (w.alloc (.cells #[.slice A l.length c, .int .i64 (fs 0), .int .i64 (fs 1), .int .i64 (fs 2), .int .i64 (fs 3), .int .i64 (fs 4)] 84)) w.heap.size A l.length c fs from blk_new w _)
  have h0 := HL0.out.list
  go_enter Try.func67, Try.ntmps67
  go_wp2
  clear h0
  go_loopw [12] (fun v wr => ∃ k : Nat, v = .int .i64 k ∧ k ≤ l.length ∧ Aside0 (LostAt wr w.heap.size A l.length c fs) ∧ Aside0 (Below w.heap.size w wr) ∧ Aside0 ((List.range k).any (atOne l fs place ch) = false)) (fun v _ => l.length - (intOf v).toNat)
  case atStart => exact ⟨0, rfl, by omega, HL0, ⟨(Below.refl _ _).alloc (Nat.le_refl _) _⟩, ⟨rfl⟩⟩
  case round =>
    obtain ⟨k, rfl, hk, HL, HB, HN⟩ := hrel
    by_cases hlt : k < l.length
    · obtain ⟨ad, rfl, hx0, hx1, hx2⟩ := at_T24 HR.out (k : Int) (by omega) (by omega)
      simp only [Int.toNat_natCast] at hx0 hx1 hx2
      replace hx0 := (HB.out.cell (World.block_lt_of_cell? w _ hx0)).trans hx0
      replace hx1 := (HB.out.cell (World.block_lt_of_cell? w _ hx1)).trans hx1
      replace hx2 := (HB.out.cell (World.block_lt_of_cell? w _ hx2)).trans hx2
      have hs := HL.out.src k (by omega)
      have hsl : w.heap.size < wr.heap.size := blk_lt HL.out
      have hk5 : (k : Int) < 5 := by omega
      have hpk := HP.out k hlt
      have hbt := bt_at (rd_T24 l (k : Int)).f0 place
      by_cases hst : fs k = -1
      · have hst1 : (fs k == -1) = true := by simpa using hst
        clear hst
        by_cases heq : bt (rd_T24 l (k : Int)).f0 place = ch
        · have heq1 : (bt (rd_T24 l (k : Int)).f0 place == ch) = true := by simpa using heq
          clear heq
          go_wp2_with fail
          go_ret
          refine ⟨?_, ?_⟩
          · have : atB l fs place ch = true := by
              rw [atB, List.any_eq_true]
              exact ⟨k, by simpa using hlt, by simp [atOne, hst1, heq1]⟩
            rw [this]
            rfl
          · exact HB.out.alloc HB.out.size _
        · have heq1 : (bt (rd_T24 l (k : Int)).f0 place == ch) = false := by simpa using heq
          have HN2 := Aside0.mk (show (List.range (k + 1)).any (atOne l fs place ch) = false by rw [any_succ, HN.out]; simp [atOne, heq1])
          clear heq
          go_wp2_with fail
          go_roundw
          case rel => exact ⟨k + 1, by go_num, by omega, ⟨HL.out.below (below_alloc (Below.refl _ _) _)⟩, ⟨HB.out.alloc HB.out.size _⟩, HN2⟩
          case measure => simp [intOf]; omega
      · have hst1 : (fs k == -1) = false := by simpa using hst
        have HN2 := Aside0.mk (show (List.range (k + 1)).any (atOne l fs place ch) = false by rw [any_succ, HN.out]; simp [atOne, hst1])
        clear hst hbt
        go_wp2_with fail
        go_roundw
        case rel => exact ⟨k + 1, by go_num, by omega, ⟨HL.out.below (below_alloc (Below.refl _ _) _)⟩, ⟨HB.out.alloc HB.out.size _⟩, HN2⟩
        case measure => simp [intOf]; omega
    · have hk' : k = l.length := by omega
      go_wp2_with fail
      go_ret
      refine ⟨?_, HB.out⟩
      rw [atB, ← hk', HN.out]
      rfl
end Go.Proofs.Ytegjollhajgcdaa.P.OwnSt
namespace Go.Proofs.Ytegjollhajgcdaa.P.OwnSt
open Go.RowKit Go.Proofs.YtegjollhajgcdaaW.PrintWords Go.Proofs.YtegjollhajgcdaaW.PrintLast Go.Proofs.YtegjollhajgcdaaW.PrintMore
set_option linter.unusedVariables false
def madeB (n : Nat) (fs : Nat → Int) (i : Nat) : Bool := decide (i < n) && (fs i == -1)
def madeV (m : Nat → Bool) : Value := .agg #[.bool (m 0), .bool (m 1), .bool (m 2), .bool (m 3), .bool (m 4)]
def MadeAt (W : World) (b : Nat) (m : Nat → Bool) : Prop := W.heap[b]? = some (.cells #[.bool (m 0), .bool (m 1), .bool (m 2), .bool (m 3), .bool (m 4)] 85 (0, 0))
theorem MadeAt.cell {W : World} {b : Nat} {m : Nat → Bool} (h : MadeAt W b m) (k : Nat) (hk : k < 5) : W.cell? ⟨b, k, none⟩ = some (.bool (m k)) := by
  rw [blk_cell h]
  rcases k with _ | _ | _ | _ | _ | k
  all_goals first | rfl | omega
theorem MadeAt.set {W : World} {b n : Nat} {fs : Nat → Int} (h : MadeAt W b (madeB n fs)) (hn : n < 5) : MadeAt (W.setCell ⟨b, n, none⟩ (.bool (fs n == -1))) b (madeB (n + 1) fs) := by
  have h1 := blk_set h n (.bool (fs n == -1))
  unfold MadeAt
  rw [h1]
  rcases n with _ | _ | _ | _ | _ | n
  all_goals first | (simp [madeB]; done) | omega
set_option maxHeartbeats 4000000 in
set_option maxRecDepth 100000 in
theorem made_calls (A : Option Addr) (c : Nat) (l : List S24) (fs : Nat → Int) (w : World) (hr : Kd.C k24 w A l.length l) (h5 : l.length ≤ 5) :
    Calls Try.prog 49 #[.agg #[.slice A l.length c, .int .i64 (fs 0), .int .i64 (fs 1), .int .i64 (fs 2), .int .i64 (fs 3), .int .i64 (fs 4)]] w fun e w' =>
      e = .returned (madeV (madeB l.length fs)) ∧ Below w.heap.size w w' := by
  have HL0 := Aside0.mk (show LostAt (w.alloc (.cells #[.slice A l.length c, .int .i64 (fs 0), .int .i64 (fs 1), .int .i64 (fs 2), .int .i64 (fs 3), .int .i64 (fs 4)] 84)) w.heap.size A l.length c fs from blk_new w _)
  have h0 := (HL0.out.below (below_alloc (Below.refl _ _) (.cells #[.bool false, .bool false, .bool false, .bool false, .bool false] 85))).list
  go_enter Try.func49, Try.ntmps49
  go_wp2
  clear h0
  go_loopw [7] (fun v wr => ∃ k : Nat, v = .int .i64 k ∧ k ≤ l.length ∧ Aside0 (LostAt wr w.heap.size A l.length c fs) ∧ Aside0 (Below w.heap.size w wr) ∧ Aside0 (MadeAt wr (w.heap.size + 1) (madeB k fs))) (fun v _ => l.length - (intOf v).toNat)
  case atStart =>
    refine ⟨0, rfl, by omega, ⟨HL0.out.below (below_alloc (Below.refl _ _) _)⟩, ⟨((Below.refl _ _).alloc (Nat.le_refl _) _).alloc (by simp) _⟩, ⟨?_⟩⟩
    have := blk_new (w.alloc (.cells #[.slice A l.length c, .int .i64 (fs 0), .int .i64 (fs 1), .int .i64 (fs 2), .int .i64 (fs 3), .int .i64 (fs 4)] 84)) (.cells #[.bool false, .bool false, .bool false, .bool false, .bool false] 85)
    simpa [MadeAt, madeB] using this
  case round =>
    obtain ⟨k, rfl, hk, HL, HB, HM⟩ := hrel
    by_cases hlt : k < l.length
    · have hs := HL.out.src k (by omega)
      have hk5 : (k : Int) < 5 := by omega
      have hc5 := HM.out.cell k (by omega)
      have hf5 := blk_frozen HM.out k
      go_wp2_with fail
      go_roundw
      case rel => exact ⟨k + 1, by go_num, by omega, ⟨blk_far HL.out (by simp) _⟩, ⟨HB.out.setCell (by simp) _⟩, ⟨HM.out.set (by omega)⟩⟩
      case measure => simp [intOf]; omega
    · have hk' : k = l.length := by omega
      have e0 := HM.out.cell 0 (by omega)
      have e1 := HM.out.cell 1 (by omega)
      have e2 := HM.out.cell 2 (by omega)
      have e3 := HM.out.cell 3 (by omega)
      have e4 := HM.out.cell 4 (by omega)
      have f0 := blk_frozen HM.out 0
      have f1 := blk_frozen HM.out 1
      have f2 := blk_frozen HM.out 2
      have f3 := blk_frozen HM.out 3
      have f4 := blk_frozen HM.out 4
      go_wp2_with fail
      have s0 := blk_set HM.out 0 (.bool (madeB k fs 0))
      have s1 := blk_set s0 1 (.bool (madeB k fs 1))
      have s2 := blk_set s1 2 (.bool (madeB k fs 2))
      have s3 := blk_set s2 3 (.bool (madeB k fs 3))
      have s4 := blk_set s3 4 (.bool (madeB k fs 4))
      simp only [List.setIfInBounds_toArray, List.set_cons_zero, List.set_cons_succ] at s4
      subst hk'
      refine bodyPost_ret (results_cell_row rfl _ _ (w.heap.size + 1) 85 _ (0, 0) _ rfl s4 Try.underlying85 rfl (by kernel_rfl)) rfl ⟨rfl, ?_⟩
      exact (((((HB.out.setCell (by simp) _).setCell (by simp) _).setCell (by simp) _).setCell (by simp) _).setCell (by simp) _)
end Go.Proofs.Ytegjollhajgcdaa.P.OwnSt
namespace Go.Proofs.Ytegjollhajgcdaa.P.OwnSt
open Go.RowKit Go.Maps Go.Proofs.YtegjollhajgcdaaW.PrintWords Go.Proofs.YtegjollhajgcdaaW.PrintLast Go.Proofs.YtegjollhajgcdaaW.PrintMore
set_option linter.unusedVariables false
set_option linter.unusedSimpArgs false
theorem laidOut : laidOutB Try.prog = true := by kernel_rfl
theorem law111 : Keyed Try.prog 111 := Keyed.of_law (deep_law_laid laidOut (m := 20) (by decide) (of_decide_eq_true (by kernel_rfl)) (by kernel_rfl) (by kernel_rfl))
theorem law85 : Keyed Try.prog 85 := Keyed.of_law (deep_law_laid laidOut (m := 20) (by decide) (of_decide_eq_true (by kernel_rfl)) (by kernel_rfl) (by kernel_rfl))
def stV (p : Int) (g : Nat → Int) : Value := .agg #[.int .i64 p, .int .i64 (g 0), .int .i64 (g 1), .int .i64 (g 2), .int .i64 (g 3), .int .i64 (g 4)]
def w64 (n : Int) : Prop := -9223372036854775808 ≤ n ∧ n ≤ 9223372036854775807
theorem keyOf_made (m : Nat → Bool) : ∃ l, keyOf Try.prog 85 (madeV m) = some l := by
  have h1 : Try.prog.keyType 85 = true := by kernel_rfl
  have h2 : (madeV m).formed Try.prog 85 = true := by kernel_rfl
  have h3 : (Try.prog.keyLits (Try.prog.types.size + 1) 85 (madeV m).cells.toList).isSome = true := by kernel_rfl
  obtain ⟨ls, hls⟩ := Option.isSome_iff_exists.1 h3
  have h4 : Try.prog.underlying 85 = some (.array 5 4) := Try.underlying85
  refine ⟨.string (keyBytes ls), ?_⟩
  unfold keyOf
  rw [h4]
  simp only [h1, h2, hls, Bool.and_self, if_true, Option.map_some]
theorem keyLits_state0 (P : Program) (d : Nat) (f1 f2 : Field) (hu : P.underlying 111 = some (.struct #[f1, f2])) (h1 : f1.name = "place" ∧ f1.type = 3 ∧ f1.offset = 0) (h2 : f2.name = "left" ∧ f2.type = 109 ∧ f2.offset = 1)
    (h9 : P.underlying 109 = some (.array 5 3)) (h3 : P.underlying 3 = some (.int .i64)) (c3 : P.cellsOf 3 = 1) (c111 : P.cellsOf 111 = 6) (c109 : P.cellsOf 109 = 5) (p a b c e f : Int)
    (hp : (Lit.int .i64 p).wf = true) (g0 : (Lit.int .i64 a).wf = true) (g1 : (Lit.int .i64 b).wf = true) (g2 : (Lit.int .i64 c).wf = true) (g3 : (Lit.int .i64 e).wf = true) (g4 : (Lit.int .i64 f).wf = true) :
    P.keyLits (d + 1 + 1 + 1) 111 [.int .i64 p, .int .i64 a, .int .i64 b, .int .i64 c, .int .i64 e, .int .i64 f] = some [.int .i64 p, .int .i64 a, .int .i64 b, .int .i64 c, .int .i64 e, .int .i64 f] := by
  have k3 : ∀ (d : Nat) (n : Int), (Lit.int .i64 n).wf = true → P.keyLits (d + 1) 3 [.int .i64 n] = some [.int .i64 n] := fun d n hn => by
    unfold Program.keyLits
    rw [h3]
    simp only [hn, and_self, if_true]
  have k9 : P.keyLits (d + 1 + 1) 109 [.int .i64 a, .int .i64 b, .int .i64 c, .int .i64 e, .int .i64 f] = some [.int .i64 a, .int .i64 b, .int .i64 c, .int .i64 e, .int .i64 f] := by
    unfold Program.keyLits
    rw [h9]
    simp only [c109, c3, List.length_cons, List.length_nil, if_true, show List.range 5 = [0, 1, 2, 3, 4] from rfl, List.mapM_cons, List.mapM_nil, Nat.zero_mul, Nat.one_mul, Nat.mul_one, List.drop_zero, List.drop_succ_cons, List.take_succ_cons, List.take_zero, k3 _ _ g0, k3 _ _ g1, k3 _ _ g2, k3 _ _ g3, k3 _ _ g4]
    rfl
  unfold Program.keyLits
  rw [hu]
  obtain ⟨n1, t1, o1⟩ := h1
  obtain ⟨n2, t2, o2⟩ := h2
  simp only [c111, List.length_cons, List.length_nil, List.mapM_cons, List.mapM_nil, t1, t2, o1, o2, c3, c109, List.drop_zero, List.drop_succ_cons, List.take_succ_cons, List.take_zero, k3 _ _ hp, k9]
  rw [if_pos (by refine ⟨trivial, ?_⟩; simp [n1, n2])]
  rfl
theorem keyOf_state (p : Int) (g : Nat → Int) (hp : (Lit.int .i64 p).wf = true) (hg : ∀ i, i < 5 → (Lit.int .i64 (g i)).wf = true) : ∃ l, keyOf Try.prog 111 (stV p g) = some l := by
  have hs : Try.prog.types.size + 1 = Try.prog.types.size - 2 + 1 + 1 + 1 := by kernel_rfl
  have h3 := keyLits_state0 Try.prog (Try.prog.types.size - 2) _ _ Try.underlying111 ⟨rfl, rfl, rfl⟩ ⟨rfl, rfl, rfl⟩ Try.underlying109 Try.underlying3 (by kernel_rfl) (by kernel_rfl) (by kernel_rfl) p _ _ _ _ _ hp (hg 0 (by omega)) (hg 1 (by omega)) (hg 2 (by omega)) (hg 3 (by omega)) (hg 4 (by omega))
  rw [← hs] at h3
  have h1 : Try.prog.keyType 111 = true := by kernel_rfl
  have h2 : (stV p g).formed Try.prog 111 = true := by kernel_rfl
  refine ⟨.string (keyBytes [.int .i64 p, .int .i64 (g 0), .int .i64 (g 1), .int .i64 (g 2), .int .i64 (g 3), .int .i64 (g 4)]), ?_⟩
  · unfold keyOf
    rw [Try.underlying111]
    simp only [h1, h2, Bool.and_self, if_true]
    rw [show (stV p g).cells.toList = [.int .i64 p, .int .i64 (g 0), .int .i64 (g 1), .int .i64 (g 2), .int .i64 (g 3), .int .i64 (g 4)] from rfl, h3]
    rfl
section
variable {P : Program}
def MemoAt (P : Program) (K : TypeId) (Φ : Value → Value → Prop) (W : World) (mb : Nat) : Prop :=
  ∃ es clock, W.heap[mb]? = some (.map es clock) ∧ ∀ e ∈ es.toList, (∃ l, keyOf P K e.key = some l) ∧ Φ e.key e.val
def MemoHas (W : World) (mb : Nat) (key : Value) : Prop := ∃ es clock, W.heap[mb]? = some (.map es clock) ∧ ∃ e ∈ es.toList, e.key = key
theorem MemoAt.new (K : TypeId) (Φ : Value → Value → Prop) (W : World) : MemoAt P K Φ (W.alloc (.map #[] 0)) W.heap.size := ⟨#[], 0, blk_new W _, by simp⟩
theorem MemoAt.keep {K : TypeId} {Φ : Value → Value → Prop} {W W' : World} {mb : Nat} (h : MemoAt P K Φ W mb) (hb : W'.heap[mb]? = W.heap[mb]?) : MemoAt P K Φ W' mb := by
  obtain ⟨es, c, h1, h2⟩ := h
  exact ⟨es, c, hb.trans h1, h2⟩
theorem MemoAt.look {K T E : TypeId} {Φ : Value → Value → Prop} {W : World} {mb : Nat} (h : MemoAt P K Φ W mb) (law : Keyed P K) (hT : P.underlying T = some (.map K E)) {z : Value} (hz : (zeroValue E).run P W = .ok z W) {key : Value} {l : Lit} (hk : keyOf P K key = some l) :
    ∃ v b, (∀ c : Bool, (Instr.lookup T (.map (some mb)) key c).run P W = .ok (if c = true then .tuple #[v, .bool b] else v) W) ∧ ((b = true ∧ Φ key v ∧ MemoHas W mb key) ∨ (b = false ∧ v = z ∧ ¬ MemoHas W mb key)) := by
  obtain ⟨es, ck, hb, hes⟩ := h
  have hchk := fun em => law.check W em hk
  have hg : (getObj mb).run P W = .ok (.map es ck) W := by simp [getObj, Sem.run, hb]
  rcases law.find W hk es.toList (fun e he => (hes e he).1) with ⟨hf, hno⟩ | ⟨j, e, hf, hj, hek⟩
  · refine ⟨z, false, fun c => ?_, .inr ⟨rfl, rfl, ?_⟩⟩
    · simp [Instr.lookup, run_underlying hT, Sem.run_bind, hg, hchk, hf, hz, Result.andThen]
    · rintro ⟨es', c', hb', e, he, hke⟩
      rw [hb] at hb'
      cases hb'
      exact hno e he hke
  · have hmem : e ∈ es.toList := List.mem_of_getElem? hj
    refine ⟨e.val, true, fun c => ?_, .inl ⟨rfl, hek ▸ (hes e hmem).2, ⟨es, ck, hb, e, hmem, hek⟩⟩⟩
    simp [Instr.lookup, run_underlying hT, Sem.run_bind, hg, hchk, hf, Result.andThen]
theorem MemoAt.update {K T E : TypeId} {Φ : Value → Value → Prop} {W : World} {mb : Nat} (h : MemoAt P K Φ W mb) (law : Keyed P K) (hT : P.underlying T = some (.map K E)) {key val : Value} {l : Lit} (hk : keyOf P K key = some l) (hv : Φ key val) :
    ∃ o, (Instr.mapUpdate T (.map (some mb)) key val).run P W = .ok () (W.putObj mb o) ∧ MemoAt P K Φ (W.putObj mb o) mb ∧ MemoHas (W.putObj mb o) mb key ∧ (∀ k', MemoHas W mb k' → MemoHas (W.putObj mb o) mb k') := by
  obtain ⟨es, ck, hb, hes⟩ := h
  have hchk := law.check W false hk
  have hg : (getObj mb).run P W = .ok (.map es ck) W := by simp [getObj, Sem.run, hb]
  have hlt : mb < W.heap.size := (Array.getElem?_eq_some_iff.1 hb).1
  have hset : ∀ o, (setObj mb o).run P W = .ok () (W.putObj mb o) := fun o => by simp [setObj, Sem.run, hb, World.putObj]
  rcases law.find W hk es.toList (fun e he => (hes e he).1) with ⟨hf, hno⟩ | ⟨j, e, hf, hj, hek⟩
  · refine ⟨.map (es.push { key, val, born := ck }) (ck + 1), ?_, ⟨_, _, World.putObj_heap_same hlt, ?_⟩, ⟨_, _, World.putObj_heap_same hlt, { key, val, born := ck }, by simp, rfl⟩, ?_⟩
    · simp [Instr.mapUpdate, run_underlying hT, Sem.run_bind, hg, hchk, hf, hset, Result.andThen]
    · intro e he
      simp only [Array.toList_push, List.mem_append, List.mem_singleton] at he
      rcases he with he | rfl
      · exact hes e he
      · exact ⟨⟨l, hk⟩, hv⟩
    · rintro k' ⟨es', c', hb', e, he, hke⟩
      rw [hb] at hb'
      cases hb'
      exact ⟨_, _, World.putObj_heap_same hlt, e, by simp only [Array.toList_push, List.mem_append]; exact .inl he, hke⟩
  · have hst : (Instr.keyThatStays e.key key).run P W = .ok key W := by rw [hek]; exact law.stays W hk
    have hj' : es[j]? = some e := by simpa using hj
    have hjl : j < es.size := (Array.getElem?_eq_some_iff.1 hj').1
    refine ⟨.map (es.modify j fun e => { e with key, val }) ck, ?_, ⟨_, _, World.putObj_heap_same hlt, ?_⟩, ⟨_, _, World.putObj_heap_same hlt, { e with key, val }, ?_, rfl⟩, ?_⟩
    · simp [Instr.mapUpdate, run_underlying hT, Sem.run_bind, hg, hchk, hf, hj', hst, hset, Result.andThen]
    · intro x hx
      obtain ⟨i, hi⟩ := List.getElem?_of_mem hx
      rw [Array.getElem?_toList, Array.getElem?_modify] at hi
      split at hi
      · rw [Option.map_eq_some_iff] at hi
        obtain ⟨y, _, rfl⟩ := hi
        exact ⟨⟨l, hk⟩, hv⟩
      · exact hes x (List.mem_of_getElem? (by rw [Array.getElem?_toList]; exact hi))
    · refine List.mem_of_getElem? (i := j) ?_
      rw [Array.getElem?_toList, Array.getElem?_modify, if_pos rfl, hj']
      rfl
    · rintro k' ⟨es', c', hb', x, hx, hke⟩
      rw [hb] at hb'
      cases hb'
      obtain ⟨i, hi⟩ := List.getElem?_of_mem hx
      rw [Array.getElem?_toList] at hi
      by_cases hij : j = i
      · subst hij
        rw [hj'] at hi
        cases hi
        refine ⟨_, _, World.putObj_heap_same hlt, { e with key, val }, List.mem_of_getElem? (i := j) ?_, ?_⟩
        · rw [Array.getElem?_toList, Array.getElem?_modify, if_pos rfl, hj']
          rfl
        · show key = k'
          rw [← hke, hek]
      · refine ⟨_, _, World.putObj_heap_same hlt, x, List.mem_of_getElem? (i := i) ?_, hke⟩
        rw [Array.getElem?_toList, Array.getElem?_modify, if_neg hij]
        exact hi
end
end Go.Proofs.Ytegjollhajgcdaa.P.OwnSt
namespace Go.Proofs.Ytegjollhajgcdaa.P.OwnSt
open Go.RowKit Go.Proofs.YtegjollhajgcdaaW.PrintWords Go.Proofs.YtegjollhajgcdaaW.PrintLast Go.Proofs.YtegjollhajgcdaaW.PrintMore
set_option linter.unusedVariables false
set_option linter.unusedSimpArgs false
section
variable (l : List S24) (fs : Nat → Int) (place letter : Int)
def hit (p c : Int) (i : Nat) : Bool := fs i == -1 && bt (rd_T24 l (i : Int)).f0 p != c
def leftTo (g : Nat → Int) (p c : Int) (k : Nat) (i : Nat) : Int := if i < k ∧ hit l fs p c i = true then g i - 1 else g i
def errsTo (p c : Int) (k : Nat) : Int := (((List.range k).filter (hit l fs p c)).length : Int)
def fitsTo (g : Nat → Int) (p c : Int) (k : Nat) : Bool := (List.range k).all fun i => !hit l fs p c i || decide (0 ≤ g i - 1)
def skipC (p c : Int) (others : Bool) : Bool := (p == place && c != letter) || (p != place && (!atB l fs p c && others))
def stepC (nx : (Nat → Int) → Int) (p : Int) (g : Nat → Int) (st : Int × Bool) (c : Int) : Int × Bool :=
  if skipC l fs place letter p c st.2 = true then st
  else if fitsTo l fs g p c l.length = true then (min st.1 (errsTo l fs p c l.length + nx (leftTo l fs g p c l.length)), st.2 || !atB l fs p c)
  else (st.1, st.2 || !atB l fs p c)
def cs (k : Nat) : List Int := (List.range k).map fun (i : Nat) => 65 + (i : Int)
def nextS : Nat → Int → (Nat → Int) → Int
  | 0, _, _ => 0
  | rem + 1, p, g => ((cs 26).foldl (stepC l fs place letter (nextS rem (p + 1)) p g) (1048576, false)).1
end
theorem cs_succ (k : Nat) : cs (k + 1) = cs k ++ [65 + (k : Int)] := by simp [cs, List.range_succ]
theorem errsTo_succ (l : List S24) (fs : Nat → Int) (p c : Int) (k : Nat) : errsTo l fs p c (k + 1) = errsTo l fs p c k + if hit l fs p c k = true then 1 else 0 := by
  unfold errsTo
  rw [List.range_succ, List.filter_append]
  by_cases h : hit l fs p c k = true <;> simp [h]
theorem errsTo_bound (l : List S24) (fs : Nat → Int) (p c : Int) (k : Nat) : 0 ≤ errsTo l fs p c k ∧ errsTo l fs p c k ≤ k := by
  unfold errsTo
  have := List.length_filter_le (hit l fs p c) (List.range k)
  rw [List.length_range] at this
  omega
theorem fitsTo_succ (l : List S24) (fs : Nat → Int) (g : Nat → Int) (p c : Int) (k : Nat) : fitsTo l fs g p c (k + 1) = (fitsTo l fs g p c k && (!hit l fs p c k || decide (0 ≤ g k - 1))) := by
  unfold fitsTo
  rw [List.range_succ, List.all_append]
  simp
theorem leftTo_succ_hit (l : List S24) (fs : Nat → Int) (g : Nat → Int) (p c : Int) (k : Nat) (h : hit l fs p c k = true) : leftTo l fs g p c (k + 1) = fun i => if i = k then leftTo l fs g p c k k - 1 else leftTo l fs g p c k i := by
  funext i
  unfold leftTo
  by_cases e : i = k
  · subst e; simp [h]
  · by_cases h1 : i < k
    · simp [e, h1, show i < k + 1 by omega]
    · simp [e, h1, show ¬ i < k + 1 by omega]
theorem leftTo_succ_not (l : List S24) (fs : Nat → Int) (g : Nat → Int) (p c : Int) (k : Nat) (h : hit l fs p c k = false) : leftTo l fs g p c (k + 1) = leftTo l fs g p c k := by
  funext i
  unfold leftTo
  by_cases e : i = k
  · subst e; simp [h]
  · by_cases h1 : i < k
    · simp [h1, show i < k + 1 by omega]
    · simp [h1, show ¬ i < k + 1 by omega]
theorem leftTo_self (l : List S24) (fs : Nat → Int) (g : Nat → Int) (p c : Int) (k : Nat) : leftTo l fs g p c k k = g k := by simp [leftTo]
theorem foldC_bound (l : List S24) (fs : Nat → Int) (place letter : Int) (nx : (Nat → Int) → Int) (hnx : ∀ g, 0 ≤ nx g) (p : Int) (g : Nat → Int) (cl : List Int) : ∀ (st : Int × Bool), 0 ≤ st.1 → st.1 ≤ 1048576 →
    0 ≤ (cl.foldl (stepC l fs place letter nx p g) st).1 ∧ (cl.foldl (stepC l fs place letter nx p g) st).1 ≤ 1048576 := by
  induction cl with
  | nil => intro st h1 h2; exact ⟨h1, h2⟩
  | cons c cl ih =>
    intro st h1 h2
    rw [List.foldl_cons]
    have h3 := hnx (leftTo l fs g p c l.length)
    have h4 := (errsTo_bound l fs p c l.length).1
    have h5 : 0 ≤ min st.1 (errsTo l fs p c l.length + nx (leftTo l fs g p c l.length)) ∧ min st.1 (errsTo l fs p c l.length + nx (leftTo l fs g p c l.length)) ≤ 1048576 := by omega
    apply ih
    · unfold stepC
      split
      · exact h1
      · split
        · exact h5.1
        · exact h1
    · unfold stepC
      split
      · exact h2
      · split
        · exact h5.2
        · exact h2
theorem nextS_bound (l : List S24) (fs : Nat → Int) (place letter : Int) (rem : Nat) : ∀ (p : Int) (g : Nat → Int), 0 ≤ nextS l fs place letter rem p g ∧ nextS l fs place letter rem p g ≤ 1048576 := by
  induction rem with
  | zero => intro p g; simp [nextS]
  | succ rem ih => intro p g; exact foldC_bound l fs place letter _ (fun g => (ih _ g).1) p g _ _ (by decide) (by decide)
theorem nextS_congr (l : List S24) (fs : Nat → Int) (place letter : Int) (rem : Nat) : ∀ (p : Int) (g g' : Nat → Int), (∀ i, i < l.length → g i = g' i) → nextS l fs place letter rem p g = nextS l fs place letter rem p g' := by
  induction rem with
  | zero => intro p g g' _; rfl
  | succ rem ih =>
    intro p g g' h
    have hs : stepC l fs place letter (nextS l fs place letter rem (p + 1)) p g = stepC l fs place letter (nextS l fs place letter rem (p + 1)) p g' := by
      funext st c
      unfold stepC
      have h1 : fitsTo l fs g p c l.length = fitsTo l fs g' p c l.length := by
        unfold fitsTo
        rw [Bool.eq_iff_iff, List.all_eq_true, List.all_eq_true]
        constructor <;> intro hh i hi <;> have := hh i hi <;> rw [h i (List.mem_range.1 hi)] at * <;> exact this
      have h2 := ih (p + 1) (leftTo l fs g p c l.length) (leftTo l fs g' p c l.length) (fun i hi => by unfold leftTo; rw [h i hi])
      rw [h1, h2]
    rw [nextS, nextS, hs]
end Go.Proofs.Ytegjollhajgcdaa.P.OwnSt
namespace Go.Proofs.Ytegjollhajgcdaa.P.OwnSt
open Go.RowKit Go.Proofs.YtegjollhajgcdaaW.PrintWords Go.Proofs.YtegjollhajgcdaaW.PrintLast Go.Proofs.YtegjollhajgcdaaW.PrintMore
set_option linter.unusedVariables false
set_option linter.unusedSimpArgs false
def StAt (W : World) (b : Nat) (p : Int) (g : Nat → Int) : Prop := W.heap[b]? = some (.cells #[.int .i64 p, .int .i64 (g 0), .int .i64 (g 1), .int .i64 (g 2), .int .i64 (g 3), .int .i64 (g 4)] 111 (0, 0))
theorem StAt.place {W : World} {b : Nat} {p : Int} {g : Nat → Int} (h : StAt W b p g) : W.cell? ⟨b, 0, none⟩ = some (.int .i64 p) := (blk_cell h 0).trans rfl
theorem StAt.left {W : World} {b : Nat} {p : Int} {g : Nat → Int} (h : StAt W b p g) (k : Nat) (hk : k < 5) : W.cell? ⟨b, 1 + k, none⟩ = some (.int .i64 (g k)) := by
  rw [blk_cell h]
  rcases k with _ | _ | _ | _ | _ | k
  all_goals first | rfl | omega
theorem StAt.set {W : World} {b : Nat} {p : Int} {g : Nat → Int} (h : StAt W b p g) (k : Nat) (hk : k < 5) (x : Int) : StAt (W.setCell ⟨b, 1 + k, none⟩ (.int .i64 x)) b p (fun i => if i = k then x else g i) := by
  have h1 := blk_set h (1 + k) (.int .i64 x)
  unfold StAt
  rw [h1]
  rcases k with _ | _ | _ | _ | _ | k
  all_goals first | (simp; done) | omega
def Right (l : List S24) (fs : Nat → Int) (place letter : Int) (L : Nat) (key val : Value) : Prop :=
  ∃ (rem : Nat) (p : Int) (g : Nat → Int), key = stV p g ∧ p + rem = L ∧ val = .int .i64 (nextS l fs place letter rem p g)
def capV (bx bm bp bl bn : Nat) : Array Value := #[.pointer (some ⟨bx, 0, none⟩), .pointer (some ⟨bm, 0, none⟩), .pointer (some ⟨bp, 0, none⟩), .pointer (some ⟨bl, 0, none⟩), .pointer (some ⟨bn, 0, none⟩)]
structure LW (l : List S24) (fs : Nat → Int) (place letter : Int) (L : Nat) (A : Option Addr) (c bx bm bp bl bn mb : Nat) (W : World) : Prop where
  hl : Kd.C k24 W A l.length l
  hx : LostAt W bx A l.length c fs
  hm : W.heap[bm]? = some (.cells #[.map (some mb)] 107 (0, 0))
  hp : W.heap[bp]? = some (.cells #[.int .i64 place] 3 (0, 0))
  hle : W.heap[bl]? = some (.cells #[.int .u8 letter] 5 (0, 0))
  hn : W.heap[bn]? = some (.cells #[.func (.func 66) #[] (capV bx bm bp bl bn)] 108 (0, 0))
  hmap : MemoAt Try.prog 111 (Right l fs place letter L) W mb
theorem StAt.cells {W : World} {b : Nat} {p : Int} {g : Nat → Int} (h : StAt W b p g) : W.cell? ⟨b, 0, none⟩ = some (.int .i64 p) ∧ W.cell? ⟨b, 1, none⟩ = some (.int .i64 (g 0)) ∧ W.cell? ⟨b, 2, none⟩ = some (.int .i64 (g 1)) ∧ W.cell? ⟨b, 3, none⟩ = some (.int .i64 (g 2)) ∧ W.cell? ⟨b, 4, none⟩ = some (.int .i64 (g 3)) ∧ W.cell? ⟨b, 5, none⟩ = some (.int .i64 (g 4)) :=
  ⟨h.place, h.left 0 (by omega), h.left 1 (by omega), h.left 2 (by omega), h.left 3 (by omega), h.left 4 (by omega)⟩
theorem LostAt.cells {W : World} {b : Nat} {A : Option Addr} {n c : Nat} {fs : Nat → Int} (h : LostAt W b A n c fs) : W.cell? ⟨b, 0, none⟩ = some (.slice A n c) ∧ W.cell? ⟨b, 1, none⟩ = some (.int .i64 (fs 0)) ∧ W.cell? ⟨b, 2, none⟩ = some (.int .i64 (fs 1)) ∧ W.cell? ⟨b, 3, none⟩ = some (.int .i64 (fs 2)) ∧ W.cell? ⟨b, 4, none⟩ = some (.int .i64 (fs 3)) ∧ W.cell? ⟨b, 5, none⟩ = some (.int .i64 (fs 4)) :=
  ⟨h.list, h.src 0 (by omega), h.src 1 (by omega), h.src 2 (by omega), h.src 3 (by omega), h.src 4 (by omega)⟩
theorem not_map_of_cell {W : World} {ad : Addr} {v : Value} {mb : Nat} {es : Array MapEntry} {ck : Nat} (h : W.cell? ad = some v) (hm : W.heap[mb]? = some (.map es ck)) : ad.block ≠ mb := by
  intro e
  subst e
  simp [World.cell?, hm] at h
theorem not_map_of_cells {W : World} {b : Nat} {cs : Array Value} {t : TypeId} {k : Nat × Nat} {mb : Nat} {es : Array MapEntry} {ck : Nat} (h : W.heap[b]? = some (.cells cs t k)) (hm : W.heap[mb]? = some (.map es ck)) : b ≠ mb := by
  intro e
  subst e
  rw [h] at hm
  simp at hm
theorem LW.grown {l : List S24} {fs : Nat → Int} {place letter : Int} {L : Nat} {A : Option Addr} {c bx bm bp bl bn mb : Nat} {W W' : World} (h : LW l fs place letter L A c bx bm bp bl bn mb W) (hg : W.grownBy W' (some mb)) (hm : MemoAt Try.prog 111 (Right l fs place letter L) W' mb) : LW l fs place letter L A c bx bm bp bl bn mb W' := by
  obtain ⟨es, ck, h1, h2⟩ := h.hmap
  have hk : ∀ {b : Nat} {cs : Array Value} {t : TypeId} {k : Nat × Nat}, W.heap[b]? = some (.cells cs t k) → W'.heap[b]? = some (.cells cs t k) := fun {b} {cs} {t} {k} hb =>
    (hg.block b (blk_lt hb) (fun e => not_map_of_cells hb h1 (by injection e))).trans hb
  exact ⟨Kd.C_foot_ne (fun hx => hx) h.hl (fun ad hA hn => by
    subst hA
    intro e
    obtain ⟨ad', e0, hx0, _⟩ := at_T24 h.hl 0 (by omega) (by omega)
    injection e0 with e0
    subst e0
    simp only [Int.toNat_zero, Nat.zero_mul, Addr.add_zero'] at hx0
    exact not_map_of_cell hx0 h1 e) W' ⟨hg.size, fun i hi hne _ => hg.block i hi (fun e => hne (by injection e))⟩, hk h.hx, hk h.hm, hk h.hp, hk h.hle, hk h.hn, hm⟩
structure SI (l : List S24) (fs : Nat → Int) (place letter : Int) (L : Nat) (A : Option Addr) (c bx bm bp bl bn mb : Nat) (W : World) (p : Int) (g : Nat → Int) (wx : World) : Prop where
  lw0 : LW l fs place letter L A c bx bm bp bl bn mb W
  st : StAt wx W.heap.size p g
  lw : LW l fs place letter L A c bx bm bp bl bn mb wx
  gr : W.grownBy wx (some mb)
section
variable {l : List S24} {fs : Nat → Int} {place letter : Int} {L : Nat} {A : Option Addr} {c bx bm bp bl bn mb : Nat} {W wx w' : World} {p : Int} {g : Nat → Int}
theorem LW.mbLt (h : LW l fs place letter L A c bx bm bp bl bn mb W) : mb < W.heap.size := by
  obtain ⟨es, ck, h1, _⟩ := h.hmap
  exact (Array.getElem?_eq_some_iff.1 h1).1
theorem LW.below (h0 : LW l fs place letter L A c bx bm bp bl bn mb W) (h : LW l fs place letter L A c bx bm bp bl bn mb wx) (hb : Below W.heap.size wx w') : LW l fs place letter L A c bx bm bp bl bn mb w' := by
  have hk : ∀ {b : Nat} {o o' : Obj}, W.heap[b]? = some o → wx.heap[b]? = some o' → w'.heap[b]? = some o' := fun {b} {o} {o'} h0 hb0 => (hb.block b ((Array.getElem?_eq_some_iff.1 h0).1)).trans hb0
  refine ⟨?_, hk h0.hx h.hx, hk h0.hm h.hm, hk h0.hp h.hp, hk h0.hle h.hle, hk h0.hn h.hn, h.hmap.keep (hb.block _ h0.mbLt)⟩
  refine Kd.C_foot_neS (S := fun b => W.heap.size ≤ b) (fun hx => hx) h.hl (fun ad hA hn => ?_) w' ⟨hb.size, fun i hi hne => hb.block i (by omega)⟩
  subst hA
  obtain ⟨ad', e0, hx0, _⟩ := at_T24 h0.hl 0 (by omega) (by omega)
  injection e0 with e0
  subst e0
  simp only [Int.toNat_zero, Nat.zero_mul, Addr.add_zero'] at hx0
  have := World.block_lt_of_cell? W _ hx0
  omega
theorem SI.below (h : SI l fs place letter L A c bx bm bp bl bn mb W p g wx) (hb : Below (W.heap.size + 1) wx w') : SI l fs place letter L A c bx bm bp bl bn mb W p g w' :=
  ⟨h.lw0, (hb.block _ (by omega)).trans h.st, h.lw0.below h.lw (hb.mono (by omega)), ⟨hb.os.trans h.gr.os, hb.tape.trans h.gr.tape, hb.output.trans h.gr.output, Nat.le_trans h.gr.size hb.size, fun k hk hne => (hb.block k (by omega)).trans (h.gr.block k hk hne)⟩⟩
theorem SI.start (h : LW l fs place letter L A c bx bm bp bl bn mb W) : SI l fs place letter L A c bx bm bp bl bn mb W p g (W.alloc (.cells #[.int .i64 p, .int .i64 (g 0), .int .i64 (g 1), .int .i64 (g 2), .int .i64 (g 3), .int .i64 (g 4)] 111)) :=
  ⟨h, blk_new W _, h.below h ((Below.refl _ _).alloc (Nat.le_refl _) _), World.grownBy_alloc W _ _⟩
theorem SI.gap (h : SI l fs place letter L A c bx bm bp bl bn mb W p g wx) : W.heap.size < wx.heap.size := blk_lt h.st
theorem SI.alloc (h : SI l fs place letter L A c bx bm bp bl bn mb W p g wx) (o : Obj) : SI l fs place letter L A c bx bm bp bl bn mb W p g (wx.alloc o) := h.below ((Below.refl _ _).alloc h.gap o)
theorem SI.drewN (h : SI l fs place letter L A c bx bm bp bl bn mb W p g wx) (n : Nat) : SI l fs place letter L A c bx bm bp bl bn mb W p g (wx.drewN n) := h.below (pw_below_drewN (Below.refl _ _) n)
theorem SI.setCell (h : SI l fs place letter L A c bx bm bp bl bn mb W p g wx) {a : Addr} (ha : W.heap.size < a.block) (v : Value) : SI l fs place letter L A c bx bm bp bl bn mb W p g (wx.setCell a v) := h.below ((Below.refl _ _).setCell ha v)
theorem SI.grown (h : SI l fs place letter L A c bx bm bp bl bn mb W p g wx) (hg : wx.grownBy w' (some mb)) (hm : LW l fs place letter L A c bx bm bp bl bn mb w') : SI l fs place letter L A c bx bm bp bl bn mb W p g w' :=
  ⟨h.lw0, (hg.block _ h.gap (fun e => by injection e with e; have := h.lw0.mbLt; omega)).trans h.st, hm, h.gr.trans hg⟩
end
end Go.Proofs.Ytegjollhajgcdaa.P.OwnSt
namespace Go.Proofs.Ytegjollhajgcdaa.P.OwnSt
open Go.RowKit Go.Proofs.YtegjollhajgcdaaW.PrintWords Go.Proofs.YtegjollhajgcdaaW.PrintLast Go.Proofs.YtegjollhajgcdaaW.PrintMore
set_option linter.unusedVariables false
set_option linter.unusedSimpArgs false
theorem wp_gen {P : Program} {c : Code} {K : Exit → Act → World → Prop} {a : Act} {w : World} (I : World → Prop) (h : I w) (k : ∀ wx, I wx → Code.wp P c K a wx) : Code.wp P c K a w := k w h
theorem grown_putObj (W : World) (k : Nat) (o : Obj) : W.grownBy (W.putObj k o) (some k) := ⟨rfl, rfl, rfl, by simp [World.putObj], fun i _ hi => World.putObj_heap_other (fun e => hi (by rw [e]))⟩
def stC (l : List S24) (fs : Nat → Int) (place letter : Int) (rem : Nat) (p : Int) (g : Nat → Int) (j : Nat) : Int × Bool := (cs j).foldl (stepC l fs place letter (nextS l fs place letter rem (p + 1)) p g) (1048576, false)
set_option maxHeartbeats 1000000 in
set_option maxRecDepth 100000 in
theorem next_calls (l : List S24) (fs : Nat → Int) (place letter : Int) (L : Nat) (A : Option Addr) (c bx bm bp bl bn mb : Nat) (hc : l.length ≤ c) (h1 : 1 ≤ l.length) (h5 : l.length ≤ 5) (hL : ∀ i : Nat, i < l.length → (rd_T24 l (i : Int)).f0.size = L) (hL8 : L ≤ 8) (rem : Nat) :
    ∀ (p : Int) (g : Nat → Int) (W : World), p + rem = L → 0 ≤ p → (∀ i, i < 5 → 0 ≤ g i ∧ g i ≤ 9) → LW l fs place letter L A c bx bm bp bl bn mb W →
    Calls Try.prog 66 #[.agg #[.int .i64 p, .int .i64 (g 0), .int .i64 (g 1), .int .i64 (g 2), .int .i64 (g 3), .int .i64 (g 4)], .pointer (some ⟨bx, 0, none⟩), .pointer (some ⟨bm, 0, none⟩), .pointer (some ⟨bp, 0, none⟩), .pointer (some ⟨bl, 0, none⟩), .pointer (some ⟨bn, 0, none⟩)] W fun e W' =>
      e = .returned (.int .i64 (nextS l fs place letter rem p g)) ∧ W.grownBy W' (some mb) ∧ LW l fs place letter L A c bx bm bp bl bn mb W' := by
  induction rem with
  | zero =>
    intro p g W hp hp0 hg hW
    have HS := Aside0.mk (SI.start (p := p) (g := g) hW)
    obtain ⟨ad, e0, hx0, hx1, hx2⟩ := at_T24 hW.hl 0 (by omega) (by omega)
    subst e0
    simp only [Int.toNat_zero, Nat.zero_mul, Addr.add_zero'] at hx0 hx1 hx2
    have hadl := World.block_lt_of_cell? W _ hx0
    have hl0 : 0 < l.length := by omega
    have hbx := hW.hx.list
    have hbxl := blk_lt hW.hx
    have hLa : (rd_T24 l 0).f0.size = L := by simpa using hL 0 (by omega)
    have hne : (p == ((rd_T24 l 0).f0.size : Int)) = true := by rw [hLa]; simp; omega
    have H5 := Aside0.mk hL
    clear hL hLa hW hg
    go_enter Try.func66, Try.ntmps66
    go_upto_region 2 with first | go_quiet (fail) | fail
    refine wp_gen (fun wx => Aside0 (SI l fs place letter L (some ad) c bx bm bp bl bn mb W p g wx)) ⟨HS.out.drewN _⟩ ?_
    intro wx HI
    go_wp2_with fail
    go_ret
    exact ⟨rfl, HI.out.gr, HI.out.lw⟩
  | succ rem ih =>
    intro p g W hp hp0 hg hW
    have HS := Aside0.mk (SI.start (p := p) (g := g) hW)
    obtain ⟨ad, e0, hx0, hx1, hx2⟩ := at_T24 hW.hl 0 (by omega) (by omega)
    subst e0
    simp only [Int.toNat_zero, Nat.zero_mul, Addr.add_zero'] at hx0 hx1 hx2
    have hadl := World.block_lt_of_cell? W _ hx0
    have hl0 : 0 < l.length := by omega
    have hbx := hW.hx.list
    have hbxl := blk_lt hW.hx
    have hLa : (rd_T24 l 0).f0.size = L := by simpa using hL 0 (by omega)
    have hne : (p == ((rd_T24 l 0).f0.size : Int)) = false := by rw [hLa]; simp; omega
    have H5 := Aside0.mk hL
    have HG := Aside0.mk hg
    have IH := Aside0.mk ih
    clear hL hLa hW hg ih
    go_enter Try.func66, Try.ntmps66
    go_upto_region 3 with first | go_quiet (fail) | fail
    refine wp_gen (fun wx => Aside0 (SI l fs place letter L (some ad) c bx bm bp bl bn mb W p g wx)) ⟨HS.out.drewN _⟩ ?_
    intro wx HI
    clear HS hx0 hx1 hx2 hadl hbx hbxl hne
    obtain ⟨e0, e1, e2, e3, e4, e5⟩ := HI.out.st.cells
    have em := (blk_cell HI.out.lw.hm 0).trans (show (#[Value.map (some mb)] : Array Value)[0]? = some (Value.map (some mb)) from rfl)
    obtain ⟨lit, hlit⟩ := keyOf_state p g (by simp [Lit.wf, show IntKind.min .i64 = -9223372036854775808 from rfl, show IntKind.max .i64 = 9223372036854775807 from rfl]; omega) (fun i hi => by have := HG.out i hi; simp [Lit.wf, show IntKind.min .i64 = -9223372036854775808 from rfl, show IntKind.max .i64 = 9223372036854775807 from rfl]; omega)
    have hz : (zeroValue 3).run Try.prog wx = .ok (.int .i64 0) wx := by kernel_rfl
    obtain ⟨v, b, hlook, hv⟩ := HI.out.lw.hmap.look law111 (T := 107) (by kernel_rfl) hz hlit
    have hlk := hlook true
    simp only [if_true, stV] at hlk
    clear hlook
    rcases hv with ⟨rfl, hR, -⟩ | ⟨rfl, rfl, -⟩
    · clear hz
      go_wp2_with fail
      go_ret
      refine ⟨?_, HI.out.gr, HI.out.lw⟩
      obtain ⟨rem', p', g', hk, hr, rfl⟩ := hR
      simp only [stV, Value.agg.injEq, Array.mk.injEq, List.cons.injEq, Value.int.injEq, and_true, true_and] at hk
      obtain ⟨rfl, k0, k1, k2, k3, k4⟩ := hk
      obtain rfl : rem' = rem + 1 := by omega
      refine congrArg (fun x => Ending.returned (Value.int .i64 x)) (nextS_congr l fs place letter (rem + 1) p _ _ (fun i hi => ?_))
      rcases (by omega : i = 0 ∨ i = 1 ∨ i = 2 ∨ i = 3 ∨ i = 4) with rfl | rfl | rfl | rfl | rfl
      · exact k0.symm
      · exact k1.symm
      · exact k2.symm
      · exact k3.symm
      · exact k4.symm
    · clear hz
      have HLIT := Aside0.mk hlit
      clear hlit
      go_wp2_with fail
      clear hlk e0 e1 e2 e3 e4 e5 em
      go_loopg [10, 11, 12] 26 (fun k s10 s11 s12 wr => ∃ j : Nat, j + k = 26 ∧ s12 = .int .u8 (65 + (j : Int)) ∧ s10 = .int .i64 (stC l fs place letter rem p g j).1 ∧ s11 = .bool (stC l fs place letter rem p g j).2 ∧ Aside0 (SI l fs place letter L (some ad) c bx bm bp bl bn mb W p g wr))
      case atStart => exact ⟨0, rfl, rfl, rfl, rfl, HI⟩
      case round =>
        obtain ⟨j, hj, rfl, rfl, rfl, HJ⟩ := hrel
        by_cases hlt : j < 26
        · obtain ⟨cc, hcc⟩ : ∃ cc : Int, cc = 65 + (j : Int) := ⟨_, rfl⟩
          obtain ⟨st, hst⟩ : ∃ st, stC l fs place letter rem p g j = st := ⟨_, rfl⟩
          rw [hst]
          rw [← hcc]
          have hcc65 : 65 ≤ cc := by omega
          have hcc90 : cc ≤ 90 := by omega
          have HCC := Aside0.mk hcc
          have HST := Aside0.mk hst
          have HLT := Aside0.mk (show j + gk = 26 ∧ j < 26 from ⟨hj, hlt⟩)
          clear hlt hcc hst hj
          go_upto_region 11 with fail
          go_cut [11, 64] (fun s11 s64 wx => s11 = .bool st.2 ∧ s64 = .bool (skipC l fs place letter p cc st.2) ∧ Aside0 (SI l fs place letter L (some ad) c bx bm bp bl bn mb W p g wx))
          case first =>
            have HC := Aside0.mk (at_calls (some ad) c l fs p cc wr HJ.out.lw.hl hc h5 hp0 (fun i hi => by rw [H5.out i hi]; omega))
            obtain ⟨e0, -⟩ := HJ.out.st.cells
            have ep := (blk_cell HJ.out.lw.hp 0).trans (show (#[Value.int .i64 place] : Array Value)[0]? = some _ from rfl)
            have el := (blk_cell HJ.out.lw.hle 0).trans (show (#[Value.int .u8 letter] : Array Value)[0]? = some _ from rfl)
            obtain ⟨x0, x1, x2, x3, x4, x5⟩ := HJ.out.lw.hx.cells
            rcases hb1 : (p == place) with _ | _
            · have hb1n : (p != place) = true := by simp [bne, hb1]
              rcases hb2 : atB l fs p cc with _ | _ <;> rcases hb3 : st.2 with _ | _
              all_goals (go_wp2_with first | (go_at_call 67; refine HC.out.mono ?_; rintro e w2 ⟨rfl, hB2⟩) | fail)
              all_goals (refine Met.intro ?_; go_step; (repeat apply Exists.intro); refine ⟨?_, rfl⟩)
              all_goals refine ⟨?_, ?_, ?_⟩
              all_goals first | exact HJ | exact ⟨HJ.out.below (hB2.mono HJ.out.gap)⟩ | (simp [skipC, hb1, hb1n, hb2, hb3]; done) | (simp [hb3]; done)
            · have hb1n : (p != place) = false := by simp [bne, hb1]
              rcases hb4 : (cc == letter) with _ | _
              · have hb4n : (cc != letter) = true := by simp [bne, hb4]
                rcases hb3 : st.2 with _ | _
                all_goals (go_wp2_with first | (go_at_call 67; refine HC.out.mono ?_; rintro e w2 ⟨rfl, hB2⟩) | fail)
                all_goals (refine Met.intro ?_; go_step; (repeat apply Exists.intro); refine ⟨?_, rfl⟩)
                all_goals refine ⟨?_, ?_, ?_⟩
                all_goals first | exact HJ | exact ⟨HJ.out.below (hB2.mono HJ.out.gap)⟩ | (simp [skipC, hb1, hb1n, hb4, hb4n, hb3]; done) | (simp [hb3]; done)
              · have hb4n : (cc != letter) = false := by simp [bne, hb4]
                rcases hb3 : st.2 with _ | _
                all_goals (go_wp2_with first | (go_at_call 67; refine HC.out.mono ?_; rintro e w2 ⟨rfl, hB2⟩) | fail)
                all_goals (refine Met.intro ?_; go_step; (repeat apply Exists.intro); refine ⟨?_, rfl⟩)
                all_goals refine ⟨?_, ?_, ?_⟩
                all_goals first | exact HJ | exact ⟨HJ.out.below (hB2.mono HJ.out.gap)⟩ | (simp [skipC, hb1, hb1n, hb4, hb4n, hb3]; done) | (simp [hb3]; done)
          case rest =>
            obtain ⟨rfl, rfl, HJ1⟩ := hcut
            rcases hsk : skipC l fs place letter p cc st.2 with _ | _
            · clear HJ
              have HSK := Aside0.mk hsk
              clear hsk
              go_upto_region 12 with fail
              go_cut [11] (fun s11 wx => s11 = .bool (st.2 || !atB l fs p cc) ∧ Aside0 (SI l fs place letter L (some ad) c bx bm bp bl bn mb W p g wx))
              case first =>
                have HC := Aside0.mk (at_calls (some ad) c l fs p cc wc HJ1.out.lw.hl hc h5 hp0 (fun i hi => by rw [H5.out i hi]; omega))
                obtain ⟨e0, -⟩ := HJ1.out.st.cells
                obtain ⟨x0, x1, x2, x3, x4, x5⟩ := HJ1.out.lw.hx.cells
                rcases hb2 : atB l fs p cc with _ | _ <;> rcases hb3 : st.2 with _ | _
                all_goals (go_wp2_with first | (go_at_call 67; refine HC.out.mono ?_; rintro e w2 ⟨rfl, hB2⟩) | fail)
                all_goals (refine Met.intro ?_; go_step; (repeat apply Exists.intro); refine ⟨?_, rfl⟩)
                all_goals refine ⟨?_, ?_⟩
                all_goals first | exact HJ1 | exact ⟨HJ1.out.below (hB2.mono HJ1.out.gap)⟩ | (simp [hb2, hb3]; done)
              case rest =>
                obtain ⟨rfl, HJ2⟩ := hcut
                clear HJ1
                obtain ⟨e0, e1, e2, e3, e4, e5⟩ := HJ2.out.st.cells
                have hp7 : p ≤ 7 := by omega
                have hn0 := HJ2.out.gap
                have hll := HJ2.out.lw.hx.list
                have hlt0 := blk_lt HJ2.out.lw.hx
                go_upto_block 2 with fail
                obtain ⟨bt3, hbt3⟩ : ∃ b, b = wc.heap.size := ⟨_, rfl⟩
                rw [← hbt3]
                refine wp_gen (fun wx => Aside0 (SI l fs place letter L (some ad) c bx bm bp bl bn mb W p g wx) ∧ Aside0 (StAt wx bt3 (p + 1) g)) ?_ ?_
                · subst hbt3
                  exact ⟨⟨HJ2.out.alloc _⟩, ⟨blk_new wc _⟩⟩
                rintro wy ⟨HJ3, HT3⟩
                have HB3 := Aside0.mk (show W.heap.size < bt3 by omega)
                clear hbt3 HJ2 e0 e1 e2 e3 e4 e5 hll hlt0 hn0
                clear wc
                go_wp2_with fail
                go_loopg [14, 15, 83] l.length (fun k s14 s15 s83 wr => ∃ i : Nat, i + k = l.length ∧ s83 = .int .i64 (i : Int) ∧ s14 = .int .i64 (errsTo l fs p cc i) ∧ s15 = .bool (fitsTo l fs g p cc i) ∧ Aside0 (SI l fs place letter L (some ad) c bx bm bp bl bn mb W p g wr) ∧ Aside0 (StAt wr bt3 (p + 1) (leftTo l fs g p cc i)))
                case atStart => exact ⟨0, by omega, rfl, rfl, rfl, HJ3, ⟨by rw [show leftTo l fs g p cc 0 = g from funext fun i => by simp [leftTo]]; exact HT3.out⟩⟩
                case round =>
                  obtain ⟨i, hik, rfl, rfl, rfl, HJ4, HT4⟩ := hrel
                  clear HJ3 HT3
                  have HIK := Aside0.mk hik
                  clear hik
                  have he5 := errsTo_bound l fs p cc i
                  by_cases hil : i < l.length
                  · obtain ⟨ad', ea, y0, y1, y2⟩ := at_T24 HJ4.out.lw.hl (i : Int) (by omega) (by omega)
                    injection ea with ea
                    subst ea
                    simp only [Int.toNat_natCast] at y0 y1 y2
                    have hi5 : (i : Int) < 5 := by omega
                    have hil' : (i : Int) < (l.length : Int) := by omega
                    have hs := HJ4.out.lw.hx.src i (by omega)
                    have hsl := blk_lt HJ4.out.lw.hx
                    obtain ⟨e0, -⟩ := HJ4.out.st.cells
                    have hn0 := HJ4.out.gap
                    have hpk : p < ((rd_T24 l (i : Int)).f0.size : Int) := by rw [H5.out i hil]; omega
                    have hbt := bt_at (rd_T24 l (i : Int)).f0 p
                    rcases hst1 : (fs i == -1) with _ | _
                    · have HN := Aside0.mk (show hit l fs p cc i = false by simp [hit, hst1])
                      clear hbt hpk
                      go_wp2_with fail
                      go_roundg (gk - 1)
                      case measure => have := HIK.out; omega
                      case rel =>
                        refine ⟨i + 1, by have := HIK.out; omega, by go_num, by rw [errsTo_succ, HN.out]; simp, by rw [fitsTo_succ, HN.out]; simp, ?_, ?_⟩
                        · exact ⟨HJ4.out.alloc _⟩
                        · rw [leftTo_succ_not l fs g p cc i HN.out]
                          exact ⟨blk_alloc HT4.out _⟩
                    · rcases hne1 : (bt (rd_T24 l (i : Int)).f0 p != cc) with _ | _
                      · have HN := Aside0.mk (show hit l fs p cc i = false by simp [hit, hst1, hne1])
                        go_wp2_with fail
                        go_roundg (gk - 1)
                        case measure => have := HIK.out; omega
                        case rel =>
                          refine ⟨i + 1, by have := HIK.out; omega, by go_num, by rw [errsTo_succ, HN.out]; simp, by rw [fitsTo_succ, HN.out]; simp, ?_, ?_⟩
                          · exact ⟨HJ4.out.alloc _⟩
                          · rw [leftTo_succ_not l fs g p cc i HN.out]
                            exact ⟨blk_alloc HT4.out _⟩
                      · have HN := Aside0.mk (show hit l fs p cc i = true by simp [hit, hst1, hne1])
                        go_upto_region 19 with fail
                        clear y0 y1 y2 hbt hpk e0 hs
                        have ht := HT4.out.left i (by omega)
                        have htf := blk_frozen HT4.out (1 + i)
                        have htl := blk_lt HT4.out
                        rw [leftTo_self] at ht
                        have hgi := HG.out i (by omega)
                        rcases hft : fitsTo l fs g p cc i with _ | _
                        · go_wp2_with fail
                          go_roundg (gk - 1)
                          case measure => have := HIK.out; omega
                          case rel =>
                            refine ⟨i + 1, by have := HIK.out; omega, by go_num, by rw [errsTo_succ, HN.out]; simp, by rw [fitsTo_succ, HN.out, hft]; simp, ?_, ?_⟩
                            · exact ⟨(HJ4.out.setCell (a := ⟨bt3, 1 + i, none⟩) HB3.out _).alloc _⟩
                            · rw [leftTo_succ_hit l fs g p cc i HN.out]
                              rw [leftTo_self]
                              exact ⟨blk_alloc (HT4.out.set i (by omega) (g i - 1)) _⟩
                        · go_wp2_with fail
                          go_roundg (gk - 1)
                          case measure => have := HIK.out; omega
                          case rel =>
                            refine ⟨i + 1, by have := HIK.out; omega, by go_num, by rw [errsTo_succ, HN.out]; simp, by rw [fitsTo_succ, HN.out, hft]; simp, ?_, ?_⟩
                            · exact ⟨(HJ4.out.setCell (a := ⟨bt3, 1 + i, none⟩) HB3.out _).alloc _⟩
                            · rw [leftTo_succ_hit l fs g p cc i HN.out]
                              rw [leftTo_self]
                              exact ⟨blk_alloc (HT4.out.set i (by omega) (g i - 1)) _⟩
                  · obtain rfl : i = l.length := by have := HIK.out; omega
                    have HSK2 := HSK.out
                    rcases hft : fitsTo l fs g p cc l.length with _ | _
                    · have HST2 := Aside0.mk (show stC l fs place letter rem p g (j + 1) = (st.1, st.2 || !atB l fs p cc) by
                        rw [stC, cs_succ, List.foldl_append, ← stC, HST.out, ← HCC.out]
                        simp [stepC, HSK2, hft])
                      clear HSK2
                      go_wp2_with fail
                      go_roundg (26 - (j + 1))
                      case measure => have := HLT.out; omega
                      case rel => exact ⟨j + 1, by have := HLT.out; omega, by rw [HCC.out]; go_num, by rw [HST2.out], by rw [HST2.out], HJ4⟩
                    · have HST2 := Aside0.mk (show stC l fs place letter rem p g (j + 1) = (min st.1 (errsTo l fs p cc l.length + nextS l fs place letter rem (p + 1) (leftTo l fs g p cc l.length)), st.2 || !atB l fs p cc) by
                        rw [stC, cs_succ, List.foldl_append, ← stC, HST.out, ← HCC.out]
                        simp [stepC, HSK2, hft])
                      clear HSK2
                      have HC := Aside0.mk (IH.out (p + 1) (leftTo l fs g p cc l.length) wr (by omega) (by omega) (fun k hk => by
                        have h1 := HG.out k hk
                        unfold leftTo
                        split
                        · rename_i h2
                          have h3 := hft
                          rw [fitsTo, List.all_eq_true] at h3
                          have := h3 k (List.mem_range.2 h2.1)
                          rw [h2.2] at this
                          simp at this
                          omega
                        · exact h1) HJ4.out.lw)
                      obtain ⟨t0, t1, t2, t3, t4, t5⟩ := HT4.out.cells
                      have en := (blk_cell HJ4.out.lw.hn 0).trans (show (#[Value.func (.func 66) #[] (capV bx bm bp bl bn)] : Array Value)[0]? = some _ from rfl)
                      simp only [capV] at en
                      have hnb := nextS_bound l fs place letter rem (p + 1) (leftTo l fs g p cc l.length)
                      obtain ⟨nv, hnv⟩ : ∃ nv, nextS l fs place letter rem (p + 1) (leftTo l fs g p cc l.length) = nv := ⟨_, rfl⟩
                      rw [hnv] at HST2 HC hnb
                      clear hnv
                      go_wp2_with first | (go_at_call 66; refine HC.out.mono ?_; rintro e w2 ⟨rfl, hg2, hW2⟩) | fail
                      · go_roundg (26 - (j + 1))
                        case measure => have := HLT.out; omega
                        case rel => exact ⟨j + 1, by have := HLT.out; omega, by rw [HCC.out]; go_num, by rw [HST2.out]; exact congrArg (Value.int .i64) (by dsimp only; omega), by rw [HST2.out], ⟨HJ4.out.grown hg2 hW2⟩⟩
                      · go_roundg (26 - (j + 1))
                        case measure => have := HLT.out; omega
                        case rel => exact ⟨j + 1, by have := HLT.out; omega, by rw [HCC.out]; go_num, by rw [HST2.out]; exact congrArg (Value.int .i64) (by dsimp only; omega), by rw [HST2.out], ⟨HJ4.out.grown hg2 hW2⟩⟩
            · have HST2 := Aside0.mk (show stC l fs place letter rem p g (j + 1) = st by
                rw [stC, cs_succ, List.foldl_append, ← stC, HST.out, ← HCC.out]
                simp [stepC, hsk])
              go_wp2_with fail
              go_roundg (gk - 1)
              case measure => have := HLT.out; omega
              case rel => exact ⟨j + 1, by have := HLT.out; omega, by rw [HCC.out]; go_num, by rw [HST2.out], by rw [HST2.out], HJ1⟩
        · obtain rfl : j = 26 := by omega
          have hN : nextS l fs place letter (rem + 1) p g = (stC l fs place letter rem p g 26).1 := rfl
          have hRt : Right l fs place letter L (stV p g) (.int .i64 (stC l fs place letter rem p g 26).1) := ⟨rem + 1, p, g, rfl, by omega, rfl⟩
          obtain ⟨o, hupd, hm1, -, -⟩ := HJ.out.lw.hmap.update law111 (T := 107) (E := 3) (by kernel_rfl) HLIT.out hRt
          have HM1 := Aside0.mk hm1
          clear hm1 hRt
          simp only [stV] at hupd
          obtain ⟨nv, hnv⟩ : ∃ nv, (stC l fs place letter rem p g 26).1 = nv := ⟨_, rfl⟩
          rw [hnv] at hupd ⊢
          have HNV := Aside0.mk (hN.trans hnv)
          clear hnv hN
          obtain ⟨e0, e1, e2, e3, e4, e5⟩ := HJ.out.st.cells
          have em := (blk_cell HJ.out.lw.hm 0).trans (show (#[Value.map (some mb)] : Array Value)[0]? = some (Value.map (some mb)) from rfl)
          go_wp2_with fail
          go_ret
          have hJ9 := HJ.out.grown (grown_putObj wr mb o) (HJ.out.lw.grown (grown_putObj wr mb o) HM1.out)
          exact ⟨by rw [HNV.out]; rfl, hJ9.gr, hJ9.lw⟩
end Go.Proofs.Ytegjollhajgcdaa.P.OwnSt
namespace Go.Proofs.Ytegjollhajgcdaa.P.OwnSt
open Go.RowKit Go.Proofs.YtegjollhajgcdaaW.PrintWords Go.Proofs.YtegjollhajgcdaaW.PrintLast Go.Proofs.YtegjollhajgcdaaW.PrintMore
set_option linter.unusedVariables false
set_option linter.unusedSimpArgs false
def RestAt (W : World) (b : Nat) (g : Nat → Int) : Prop := W.heap[b]? = some (.cells #[.int .i64 (g 0), .int .i64 (g 1), .int .i64 (g 2), .int .i64 (g 3), .int .i64 (g 4)] 109 (0, 0))
theorem RestAt.cells {W : World} {b : Nat} {g : Nat → Int} (h : RestAt W b g) : W.cell? ⟨b, 0, none⟩ = some (.int .i64 (g 0)) ∧ W.cell? ⟨b, 1, none⟩ = some (.int .i64 (g 1)) ∧ W.cell? ⟨b, 2, none⟩ = some (.int .i64 (g 2)) ∧ W.cell? ⟨b, 3, none⟩ = some (.int .i64 (g 3)) ∧ W.cell? ⟨b, 4, none⟩ = some (.int .i64 (g 4)) :=
  ⟨(blk_cell h 0).trans rfl, (blk_cell h 1).trans rfl, (blk_cell h 2).trans rfl, (blk_cell h 3).trans rfl, (blk_cell h 4).trans rfl⟩
theorem RestAt.get {W : World} {b : Nat} {g : Nat → Int} (h : RestAt W b g) (k : Nat) (hk : k < 5) : W.cell? ⟨b, k, none⟩ = some (.int .i64 (g k)) := by
  rw [blk_cell h]
  rcases k with _ | _ | _ | _ | _ | k
  all_goals first | rfl | omega
theorem RestAt.set {W : World} {b : Nat} {g : Nat → Int} (h : RestAt W b g) (k : Nat) (hk : k < 5) (x : Int) : RestAt (W.setCell ⟨b, k, none⟩ (.int .i64 x)) b (fun i => if i = k then x else g i) := by
  have h1 := blk_set h k (.int .i64 x)
  unfold RestAt
  rw [h1]
  rcases k with _ | _ | _ | _ | _ | k
  all_goals first | (simp; done) | omega
def errV (l : List S24) (n : Nat) (i : Nat) : Int := if i < n then (rd_T24 l (i : Int)).f1 else 0
def leastV (l : List S24) (fs : Nat → Int) (place letter : Int) : Int := nextS l fs place letter (rd_T24 l 0).f0.size 0 (errV l l.length)
theorem leastV_bound (l : List S24) (fs : Nat → Int) (place letter : Int) : 0 ≤ leastV l fs place letter ∧ leastV l fs place letter ≤ 1048576 := nextS_bound _ _ _ _ _ _ _
theorem errV_succ (l : List S24) (n : Nat) : errV l (n + 1) = fun i => if i = n then (rd_T24 l (n : Int)).f1 else errV l n i := by
  funext i
  unfold errV
  by_cases e : i = n
  · subst e; simp
  · by_cases h : i < n
    · simp [e, h, show i < n + 1 by omega]
    · simp [e, h, show ¬ i < n + 1 by omega]
@[go_sem] theorem run_store_func {P : Program} {w : World} (a : Addr) (m : Mode) (f : Fn) (i c : Array Value) : (store a (.func f i c) m).run P w = stored P w a (.func f i c) m := run_store P w a _ m rfl
set_option maxHeartbeats 1000000 in
set_option maxRecDepth 100000 in
theorem least_calls (A : Option Addr) (c : Nat) (l : List S24) (fs : Nat → Int) (place letter : Int) (w : World) (hr : Kd.C k24 w A l.length l) (hc : l.length ≤ c) (h1 : 1 ≤ l.length) (h5 : l.length ≤ 5)
    (hL : ∀ i : Nat, i < l.length → (rd_T24 l (i : Int)).f0.size = (rd_T24 l 0).f0.size) (hL8 : (rd_T24 l 0).f0.size ≤ 8) (he : ∀ i : Nat, i < l.length → 0 ≤ (rd_T24 l (i : Int)).f1 ∧ (rd_T24 l (i : Int)).f1 ≤ 9) :
    Calls Try.prog 51 #[.agg #[.slice A l.length c, .int .i64 (fs 0), .int .i64 (fs 1), .int .i64 (fs 2), .int .i64 (fs 3), .int .i64 (fs 4)], .int .i64 place, .int .u8 letter] w fun e w' =>
      e = .returned (.int .i64 (leastV l fs place letter)) ∧ Below w.heap.size w w' := by
  have HR := Aside0.mk hr
  have HL := Aside0.mk hL
  have HE := Aside0.mk he
  clear hr hL he
  go_enter Try.func51, Try.ntmps51
  go_upto_region 1 with fail
  refine wp_gen (fun wx => Aside0 (LostAt wx w.heap.size A l.length c fs ∧ wx.heap[w.heap.size + 1]? = some (.cells #[.int .i64 place] 3 (0, 0)) ∧ wx.heap[w.heap.size + 2]? = some (.cells #[.int .u8 letter] 5 (0, 0)) ∧ Below w.heap.size w wx) ∧ wx.heap.size = w.heap.size + 3) ?_ ?_
  · exact ⟨⟨blk_alloc (blk_alloc (blk_new w _) _) _, blk_alloc (by simpa using blk_new (w.alloc _) _) _, by simpa using blk_new ((w.alloc _).alloc _) _, (((Below.refl _ _).alloc (Nat.le_refl _) _).alloc (by simp) _).alloc (by simp; omega) _⟩, by simp⟩
  rintro w1 ⟨H1, hs1⟩
  have hmk := run_makeMap (P := Try.prog) 107 w1
  rw [hs1] at hmk
  go_upto_region 2 with fail
  refine wp_gen (fun wx => Aside0 (LostAt wx w.heap.size A l.length c fs ∧ wx.heap[w.heap.size + 1]? = some (.cells #[.int .i64 place] 3 (0, 0)) ∧ wx.heap[w.heap.size + 2]? = some (.cells #[.int .u8 letter] 5 (0, 0)) ∧ wx.heap[w.heap.size + 3]? = some (.map #[] 0) ∧ wx.heap[w.heap.size + 4]? = some (.cells #[.map (some (w.heap.size + 3))] 107 (0, 0)) ∧ Below w.heap.size w wx) ∧ wx.heap.size = w.heap.size + 5) ?_ ?_
  · obtain ⟨a1, a2, a3, a4⟩ := H1.out
    have b1 := blk_new w1 (.map #[] 0)
    have b2 := blk_new (w1.alloc (.map #[] 0)) (.cells #[.map (some (w.heap.size + 3))] 107)
    rw [hs1] at b1
    rw [World.size_alloc, hs1] at b2
    exact ⟨⟨blk_alloc (blk_alloc a1 _) _, blk_alloc (blk_alloc a2 _) _, blk_alloc (blk_alloc a3 _) _, blk_alloc b1 _, b2, (a4.alloc (by omega) _).alloc (by simp; omega) _⟩, by simp [hs1]⟩
  clear hmk hs1 H1 w1
  rintro w1 ⟨H1, hs1⟩
  go_upto_region 3 with fail
  refine wp_gen (fun wx => Aside0 (LostAt wx w.heap.size A l.length c fs ∧ wx.heap[w.heap.size + 1]? = some (.cells #[.int .i64 place] 3 (0, 0)) ∧ wx.heap[w.heap.size + 2]? = some (.cells #[.int .u8 letter] 5 (0, 0)) ∧ wx.heap[w.heap.size + 3]? = some (.map #[] 0) ∧ wx.heap[w.heap.size + 4]? = some (.cells #[.map (some (w.heap.size + 3))] 107 (0, 0)) ∧ wx.heap[w.heap.size + 5]? = some (.cells #[.nilFunc] 108 (0, 0)) ∧ Below w.heap.size w wx) ∧ wx.heap.size = w.heap.size + 6) ?_ ?_
  · obtain ⟨a1, a2, a3, a4, a5, a6⟩ := H1.out
    have b1 := blk_new w1 (.cells #[.nilFunc] 108)
    rw [hs1] at b1
    exact ⟨⟨blk_alloc a1 _, blk_alloc a2 _, blk_alloc a3 _, blk_alloc a4 _, blk_alloc a5 _, b1, a6.alloc (by omega) _⟩, by simp [hs1]⟩
  clear hs1 H1 w1
  rintro w1 ⟨H1, hs1⟩
  have hcf := (blk_cell H1.out.2.2.2.2.2.1 0).trans (show (#[Value.nilFunc] : Array Value)[0]? = some _ from rfl)
  have hff := blk_frozen H1.out.2.2.2.2.2.1 0
  have hll := blk_lt H1.out.2.2.2.2.2.1
  have HS1 := Aside0.mk hs1
  clear hs1
  go_upto_region 4 with fail
  refine wp_gen (fun wx => LW l fs place letter (rd_T24 l 0).f0.size A c w.heap.size (w.heap.size + 4) (w.heap.size + 1) (w.heap.size + 2) (w.heap.size + 5) (w.heap.size + 3) wx ∧ Aside0 (Below w.heap.size w wx) ∧ wx.heap.size = w.heap.size + 6) ?_ ?_
  · obtain ⟨a1, a2, a3, a4, a5, a6, a7⟩ := H1.out
    have hb : ∀ k, k ≠ w.heap.size + 5 → (w1.setCell ⟨w.heap.size + 5, 0, none⟩ (.func (.func 66) #[] (capV w.heap.size (w.heap.size + 4) (w.heap.size + 1) (w.heap.size + 2) (w.heap.size + 5)))).heap[k]? = w1.heap[k]? := fun k hk => Below.heap_setCell w1 ⟨w.heap.size + 5, 0, none⟩ _ k hk
    have hB := a7.setCell (p := ⟨w.heap.size + 5, 0, none⟩) (by simp) (.func (.func 66) #[] (capV w.heap.size (w.heap.size + 4) (w.heap.size + 1) (w.heap.size + 2) (w.heap.size + 5)))
    refine ⟨⟨Kd.C_below HR.out hB, (hb _ (by omega)).trans a1, (hb _ (by omega)).trans a5, (hb _ (by omega)).trans a2, (hb _ (by omega)).trans a3, ?_, ⟨#[], 0, (hb _ (by omega)).trans a4, by simp⟩⟩, ⟨hB⟩, by simp [HS1.out]⟩
    have := blk_set a6 0 (.func (.func 66) #[] (capV w.heap.size (w.heap.size + 4) (w.heap.size + 1) (w.heap.size + 2) (w.heap.size + 5)))
    exact this.trans (by simp)
  clear hcf hff hll HS1 H1 w1
  rintro w1 ⟨HW0, HB, hs1⟩
  have HW := Aside0.mk HW0
  clear HW0
  go_upto_region 5 with fail
  have HS := Aside0.mk hs1
  refine wp_gen (fun wx => Aside0 (RestAt wx (w.heap.size + 6) (fun _ => 0)) ∧ Aside0 (Below (w.heap.size + 6) w1 wx)) ?_ ?_
  · have h2 := blk_new w1 (.cells #[.int .i64 0, .int .i64 0, .int .i64 0, .int .i64 0, .int .i64 0] 109)
    rw [hs1] at h2
    exact ⟨⟨h2⟩, ⟨(Below.refl _ _).alloc (by omega) _⟩⟩
  clear hs1
  have hgo : ∀ wx, Below (w.heap.size + 6) w1 wx → LW l fs place letter (rd_T24 l 0).f0.size A c w.heap.size (w.heap.size + 4) (w.heap.size + 1) (w.heap.size + 2) (w.heap.size + 5) (w.heap.size + 3) wx ∧ Below w.heap.size w wx := fun wx hb =>
    ⟨HW.out.below HW.out (by rw [HS.out]; exact hb), HB.out.trans (hb.mono (by omega))⟩
  have HGO := Aside0.mk hgo
  clear hgo HW HB HS
  rintro wx ⟨HT, HB⟩
  have hl0 := (HGO.out _ HB.out).1.hx.list
  have hl1 := blk_lt (HGO.out _ HB.out).1.hx
  go_wp2_with fail
  clear hl0 hl1
  go_loopg [17] l.length (fun k s17 wr => ∃ i : Nat, i + k = l.length ∧ s17 = .int .i64 (i : Int) ∧ Aside0 (RestAt wr (w.heap.size + 6) (errV l i)) ∧ Aside0 (Below (w.heap.size + 6) w1 wr))
  case atStart => exact ⟨0, by omega, rfl, ⟨by rw [show errV l 0 = fun _ => 0 from funext fun i => by simp [errV]]; exact HT.out⟩, HB⟩
  case round =>
    obtain ⟨i, hik, rfl, HT1, HB1⟩ := hrel
    have HIK := Aside0.mk hik
    clear hik HT HB
    have HW1 := Aside0.mk (HGO.out _ HB1.out).1
    by_cases hil : i < l.length
    · obtain ⟨ad, rfl, y0, y1, y2⟩ := at_T24 HW1.out.hl (i : Int) (by omega) (by omega)
      simp only [Int.toNat_natCast] at y0 y1 y2
      have hil' : (i : Int) < (l.length : Int) := by omega
      have hi5 : (i : Int) < 5 := by omega
      have ht := HT1.out.get i (by omega)
      have htf := blk_frozen HT1.out i
      have htl := blk_lt HT1.out
      go_wp2_with fail
      go_roundg (gk - 1)
      case measure => have := HIK.out; omega
      case rel =>
        refine ⟨i + 1, by have := HIK.out; omega, by go_num, ?_, ?_⟩
        · rw [errV_succ]
          exact ⟨blk_alloc (HT1.out.set i (by omega) _) _⟩
        · exact ⟨(HB1.out.setCell (p := ⟨w.heap.size + 6, i, none⟩) (by simp) _).alloc (by simp; omega) _⟩
    · obtain rfl : i = l.length := by have := HIK.out; omega
      have HC := Aside0.mk (next_calls l fs place letter (rd_T24 l 0).f0.size A c _ _ _ _ _ _ hc h1 h5 HL.out hL8 (rd_T24 l 0).f0.size 0 (errV l l.length) wr (by omega) (by omega) (fun i hi => by
        unfold errV
        split
        · exact HE.out i (by assumption)
        · omega) HW1.out)
      obtain ⟨t0, t1, t2, t3, t4⟩ := HT1.out.cells
      have en := (blk_cell HW1.out.hn 0).trans (show (#[Value.func (.func 66) #[] (capV w.heap.size (w.heap.size + 4) (w.heap.size + 1) (w.heap.size + 2) (w.heap.size + 5))] : Array Value)[0]? = some _ from rfl)
      simp only [capV] at en
      have hnb := leastV_bound l fs place letter
      have hnv : nextS l fs place letter (rd_T24 l 0).f0.size 0 (errV l l.length) = leastV l fs place letter := rfl
      rw [hnv] at HC
      clear hnv
      obtain ⟨nv, hnv⟩ : ∃ nv, leastV l fs place letter = nv := ⟨_, rfl⟩
      rw [hnv] at HC hnb
      have HNV := Aside0.mk hnv
      clear hnv
      have HX := Aside0.mk ((HGO.out _ HB1.out).2)
      clear HW1
      go_wp2_with first | (go_at_call 66; refine HC.out.mono ?_; rintro e w2 ⟨rfl, hg2, hW2⟩) | fail
      · go_ret
        exact ⟨by rw [HNV.out]; exact congrArg (fun x => Ending.returned (Value.int .i64 x)) (by omega), HX.out.grown hg2 HX.out.size (fun k hk => by injection hk; omega)⟩
      · go_ret
        exact ⟨by rw [HNV.out]; exact congrArg (fun x => Ending.returned (Value.int .i64 x)) (by omega), HX.out.grown hg2 HX.out.size (fun k hk => by injection hk; omega)⟩
end Go.Proofs.Ytegjollhajgcdaa.P.OwnSt
namespace Go.Proofs.Ytegjollhajgcdaa.P.OwnSt
open Go.RowKit Go.Proofs.YtegjollhajgcdaaW.PrintWords Go.Proofs.YtegjollhajgcdaaW.PrintLast Go.Proofs.YtegjollhajgcdaaW.PrintMore
set_option linter.unusedVariables false
set_option linter.unusedSimpArgs false
section
variable (l : List S24) (fs : Nat → Int) (place letter : Int)
def hsum (t : Nat → Int) (i : Nat) : Nat → Nat → Int
  | 0, _ => 0
  | rem + 1, p => (if hit l fs (p : Int) (t p) i = true then 1 else 0) + hsum t i rem (p + 1)
def cost (t : Nat → Int) : Nat → Nat → Int
  | 0, _ => 0
  | rem + 1, p => errsTo l fs (p : Int) (t p) l.length + cost t rem (p + 1)
def GoodT (t : Nat → Int) : Prop := ∀ p, 65 ≤ t p ∧ t p ≤ 90
def PlaceOk (t : Nat → Int) : Prop := ∀ p : Nat, (p : Int) = place → t p = letter
end
section
variable {l : List S24} {fs : Nat → Int} {place letter : Int}
theorem hsum_nonneg (t : Nat → Int) (i : Nat) : ∀ rem p, 0 ≤ hsum l fs t i rem p := by
  intro rem
  induction rem with
  | zero => intro p; exact Int.le_refl _
  | succ rem ih =>
    intro p
    have := ih (p + 1)
    unfold hsum
    split <;> omega
theorem hsum_congr (t t' : Nat → Int) (i : Nat) : ∀ rem p, (∀ q, p ≤ q → t q = t' q) → hsum l fs t i rem p = hsum l fs t' i rem p := by
  intro rem
  induction rem with
  | zero => intro p _; rfl
  | succ rem ih =>
    intro p h
    unfold hsum
    rw [h p (Nat.le_refl _), ih (p + 1) (fun q hq => h q (by omega))]
theorem cost_congr (t t' : Nat → Int) : ∀ rem p, (∀ q, p ≤ q → t q = t' q) → cost l fs t rem p = cost l fs t' rem p := by
  intro rem
  induction rem with
  | zero => intro p _; rfl
  | succ rem ih =>
    intro p h
    unfold cost
    rw [h p (Nat.le_refl _), ih (p + 1) (fun q hq => h q (by omega))]
theorem hit_other {p c : Int} (h : atB l fs p c = false) (i : Nat) (hi : i < l.length) : hit l fs p c i = (fs i == -1) := by
  unfold atB at h
  rw [← Bool.not_eq_true, List.any_eq_true] at h
  have h2 : atOne l fs p c i = false := by
    rw [← Bool.not_eq_true]
    exact fun hh => h ⟨i, List.mem_range.2 hi, hh⟩
  unfold atOne at h2
  unfold hit
  cases hf : fs i == -1 with
  | false => simp
  | true =>
    rw [hf] at h2
    simp at h2
    simp [h2]
theorem errsTo_eq {p c d : Int} (h : ∀ i, i < l.length → hit l fs p c i = hit l fs p d i) : errsTo l fs p c l.length = errsTo l fs p d l.length := by
  unfold errsTo
  rw [List.filter_congr fun i hi => h i (List.mem_range.1 hi)]
theorem fitsTo_eq {g : Nat → Int} {p c d : Int} (h : ∀ i, i < l.length → hit l fs p c i = hit l fs p d i) : fitsTo l fs g p c l.length = fitsTo l fs g p d l.length := by
  unfold fitsTo
  rw [Bool.eq_iff_iff, List.all_eq_true, List.all_eq_true]
  constructor <;> intro h2 i hi <;> have h3 := h2 i hi
  · rw [← h i (List.mem_range.1 hi)]; exact h3
  · rw [h i (List.mem_range.1 hi)]; exact h3
theorem leftTo_eq {g : Nat → Int} {p c d : Int} (h : ∀ i, i < l.length → hit l fs p c i = hit l fs p d i) : leftTo l fs g p c l.length = leftTo l fs g p d l.length := by
  funext i
  unfold leftTo
  by_cases hi : i < l.length
  · rw [h i hi]
  · simp [hi]
def valC (l : List S24) (fs : Nat → Int) (nx : (Nat → Int) → Int) (p : Int) (g : Nat → Int) (c : Int) : Int := errsTo l fs p c l.length + nx (leftTo l fs g p c l.length)
theorem fold_le (nx : (Nat → Int) → Int) (p : Int) (g : Nat → Int) : ∀ (cl : List Int) (st : Int × Bool), (cl.foldl (stepC l fs place letter nx p g) st).1 ≤ st.1 := by
  intro cl
  induction cl with
  | nil => intro st; exact Int.le_refl _
  | cons x r ih =>
    intro st
    rw [List.foldl_cons]
    refine Int.le_trans (ih _) ?_
    unfold stepC
    split
    · exact Int.le_refl _
    · split
      · show min st.1 _ ≤ st.1
        omega
      · exact Int.le_refl _
theorem fold_hit (nx : (Nat → Int) → Int) (p : Int) (g : Nat → Int) : ∀ (cl : List Int) (st : Int × Bool), (st.2 = true → ∃ d, atB l fs p d = false ∧ (fitsTo l fs g p d l.length = true → st.1 ≤ valC l fs nx p g d)) →
    ∀ c ∈ cl, (p == place && c != letter) = false → fitsTo l fs g p c l.length = true → (cl.foldl (stepC l fs place letter nx p g) st).1 ≤ valC l fs nx p g c := by
  intro cl
  induction cl with
  | nil => intro st _ c hc; simp at hc
  | cons x r ih =>
    intro st hinv c hc hex hfit
    rw [List.foldl_cons]
    rcases List.mem_cons.1 hc with rfl | hc
    · refine Int.le_trans (fold_le nx p g r _) ?_
      unfold stepC
      split
      · rename_i hs
        unfold skipC at hs
        rw [hex, Bool.false_or, Bool.and_eq_true, Bool.and_eq_true] at hs
        obtain ⟨_, h2, h3⟩ := hs
        have h2' : atB l fs p c = false := by simpa using h2
        obtain ⟨d, hd1, hd2⟩ := hinv h3
        have hh : ∀ i, i < l.length → hit l fs p c i = hit l fs p d i := fun i hi => by rw [hit_other h2' i hi, hit_other hd1 i hi]
        have h4 := hd2 (by rw [← fitsTo_eq hh]; exact hfit)
        unfold valC at h4 ⊢
        rw [errsTo_eq hh, leftTo_eq hh]
        exact h4
      · try rw [if_pos hfit]
        show min st.1 _ ≤ _
        unfold valC
        omega
    · refine ih _ ?_ c hc hex hfit
      unfold stepC
      split
      · exact hinv
      · split
        · rename_i hs hf
          intro h2
          rcases Bool.or_eq_true_iff.1 h2 with h2 | h2
          · obtain ⟨d, hd1, hd2⟩ := hinv h2
            refine ⟨d, hd1, fun h3 => ?_⟩
            have := hd2 h3
            show min st.1 _ ≤ _
            omega
          · refine ⟨x, by simpa using h2, fun h3 => ?_⟩
            show min st.1 _ ≤ _
            unfold valC
            omega
        · rename_i hs hf
          intro h2
          rcases Bool.or_eq_true_iff.1 h2 with h2 | h2
          · exact hinv h2
          · exact ⟨x, by simpa using h2, fun h3 => absurd h3 hf⟩
theorem fold_att (nx : (Nat → Int) → Int) (p : Int) (g : Nat → Int) : ∀ (cl : List Int) (st : Int × Bool), (cl.foldl (stepC l fs place letter nx p g) st).1 = st.1 ∨
    ∃ c ∈ cl, (p == place && c != letter) = false ∧ fitsTo l fs g p c l.length = true ∧ (cl.foldl (stepC l fs place letter nx p g) st).1 = valC l fs nx p g c := by
  intro cl
  induction cl with
  | nil => intro st; exact .inl rfl
  | cons x r ih =>
    intro st
    rw [List.foldl_cons]
    rcases ih (stepC l fs place letter nx p g st x) with h | ⟨c, hc, h1, h2, h3⟩
    · rw [h]
      by_cases hs : skipC l fs place letter p x st.2 = true
      · left
        unfold stepC
        rw [if_pos hs]
      · by_cases hf : fitsTo l fs g p x l.length = true
        · unfold stepC
          rw [if_neg hs, if_pos hf]
          by_cases hm : st.1 ≤ valC l fs nx p g x
          · left
            show min st.1 _ = st.1
            unfold valC at hm
            omega
          · right
            refine ⟨x, List.mem_cons_self, ?_, hf, ?_⟩
            · unfold skipC at hs
              simp only [Bool.or_eq_true, not_or] at hs
              simpa using hs.1
            · show min st.1 _ = _
              unfold valC at hm ⊢
              omega
        · left
          unfold stepC
          rw [if_neg hs, if_neg hf]
    · exact .inr ⟨c, List.mem_cons_of_mem _ hc, h1, h2, h3⟩
theorem mem_cs {c : Int} (h : 65 ≤ c ∧ c ≤ 90) : c ∈ cs 26 := by
  unfold cs
  rw [List.mem_map]
  exact ⟨(c - 65).toNat, List.mem_range.2 (by omega), by omega⟩
theorem cs_mem {c : Int} (h : c ∈ cs 26) : 65 ≤ c ∧ c ≤ 90 := by
  unfold cs at h
  rw [List.mem_map] at h
  obtain ⟨j, hj, rfl⟩ := h
  have := List.mem_range.1 hj
  omega
theorem nextS_le : ∀ (rem p : Nat) (g t : Nat → Int), GoodT t → PlaceOk place letter t → (∀ i, i < l.length → hsum l fs t i rem p ≠ 0 → hsum l fs t i rem p ≤ g i) → nextS l fs place letter rem (p : Int) g ≤ cost l fs t rem p := by
  intro rem
  induction rem with
  | zero => intro p g t _ _ _; exact Int.le_refl _
  | succ rem ih =>
    intro p g t hg hp hh
    have hfit : fitsTo l fs g (p : Int) (t p) l.length = true := by
      unfold fitsTo
      rw [List.all_eq_true]
      intro i hi
      have h1 := hh i (List.mem_range.1 hi)
      have h2 := hsum_nonneg (l := l) (fs := fs) t i rem (p + 1)
      unfold hsum at h1
      by_cases hc : hit l fs (p : Int) (t p) i = true
      · rw [if_pos hc] at h1
        have := h1 (by omega)
        rw [hc]
        simp
        omega
      · simp [hc]
    have hex : ((p : Int) == place && t p != letter) = false := by
      by_cases e : (p : Int) = place
      · rw [hp p e]; simp
      · simp [e]
    have h1 := fold_hit (place := place) (letter := letter) (nextS l fs place letter rem ((p : Int) + 1)) (p : Int) g (cs 26) (1048576, false) (fun h => by cases h) (t p) (mem_cs (hg p)) hex hfit
    rw [nextS, cost]
    refine Int.le_trans h1 ?_
    unfold valC
    have h2 := ih (p + 1) (leftTo l fs g (p : Int) (t p) l.length) t hg hp (fun i hi h3 => by
      have h4 := hh i hi
      have h5 := hsum_nonneg (l := l) (fs := fs) t i rem (p + 1)
      unfold hsum at h4
      unfold leftTo
      by_cases hc : hit l fs (p : Int) (t p) i = true
      · rw [if_pos hc] at h4
        rw [if_pos ⟨hi, hc⟩]
        have := h4 (by omega)
        omega
      · rw [if_neg hc] at h4
        rw [if_neg (fun h => hc h.2)]
        have := h4 (by omega)
        omega)
    have e : ((p + 1 : Nat) : Int) = (p : Int) + 1 := by omega
    rw [e] at h2
    omega
theorem nextS_att : ∀ (rem p : Nat) (g : Nat → Int), nextS l fs place letter rem (p : Int) g < 1048576 →
    ∃ t, GoodT t ∧ (∀ q : Nat, p ≤ q → q < p + rem → (q : Int) = place → t q = letter) ∧ (∀ i, i < l.length → hsum l fs t i rem p ≠ 0 → hsum l fs t i rem p ≤ g i) ∧ cost l fs t rem p = nextS l fs place letter rem (p : Int) g := by
  intro rem
  induction rem with
  | zero => intro p g _; exact ⟨fun _ => 65, fun p => ⟨Int.le_refl 65, show (65 : Int) ≤ 90 by decide⟩, fun q h1 h2 => by omega, fun i _ h => absurd rfl h, rfl⟩
  | succ rem ih =>
    intro p g hlt
    rw [nextS] at hlt ⊢
    rcases fold_att (place := place) (letter := letter) (nextS l fs place letter rem ((p : Int) + 1)) (p : Int) g (cs 26) (1048576, false) with h | ⟨c, hc, hex, hfit, hv⟩
    · rw [h] at hlt
      exact absurd hlt (by decide)
    · rw [hv] at hlt ⊢
      unfold valC at hlt ⊢
      have e : ((p + 1 : Nat) : Int) = (p : Int) + 1 := by omega
      have he := (errsTo_bound l fs (p : Int) c l.length).1
      obtain ⟨t, t1, t2, t3, t4⟩ := ih (p + 1) (leftTo l fs g (p : Int) c l.length) (by rw [e]; omega)
      rw [e] at t4
      have hc2 := cs_mem hc
      have hq : ∀ q, p + 1 ≤ q → (fun q => if q = p then c else t q) q = t q := fun q hq => by simp [show q ≠ p by omega]
      refine ⟨fun q => if q = p then c else t q, fun q => ?_, fun q h1 h2 h3 => ?_, fun i hi h0 => ?_, ?_⟩
      · show 65 ≤ (if q = p then c else t q) ∧ (if q = p then c else t q) ≤ 90
        split
        · exact hc2
        · exact t1 q
      · show (if q = p then c else t q) = letter
        by_cases e2 : q = p
        · subst e2
          rw [if_pos rfl]
          rw [h3] at hex
          simp at hex
          exact hex
        · rw [if_neg e2]
          exact t2 q (by omega) (by omega) h3
      · unfold hsum at h0 ⊢
        rw [hsum_congr _ t i rem (p + 1) hq] at h0 ⊢
        simp only [if_true] at h0 ⊢
        have h5 := t3 i hi
        have h6 := hsum_nonneg (l := l) (fs := fs) t i rem (p + 1)
        unfold leftTo at h5
        by_cases hh : hit l fs (p : Int) c i = true
        · rw [if_pos hh]
          rw [if_pos ⟨hi, hh⟩] at h5
          unfold fitsTo at hfit
          rw [List.all_eq_true] at hfit
          have h7 := hfit i (List.mem_range.2 hi)
          rw [hh] at h7
          simp at h7
          by_cases e3 : hsum l fs t i rem (p + 1) = 0
          · rw [e3]; omega
          · have := h5 e3; omega
        · rw [if_neg hh] at h0 ⊢
          rw [if_neg (fun h => hh h.2)] at h5
          have := h5 (by omega)
          omega
      · unfold cost
        rw [cost_congr _ t rem (p + 1) hq]
        simp only [if_true]
        rw [t4]
end
def FitT (l : List S24) (fs t : Nat → Int) : Prop := GoodT t ∧ ∀ i, i < l.length → hsum l fs t i (rd_T24 l 0).f0.size 0 ≠ 0 → hsum l fs t i (rd_T24 l 0).f0.size 0 ≤ (rd_T24 l (i : Int)).f1
def costT (l : List S24) (fs t : Nat → Int) : Int := cost l fs t (rd_T24 l 0).f0.size 0
theorem leastV_le {l : List S24} {fs t : Nat → Int} {place letter : Int} (h : FitT l fs t) (hp : PlaceOk place letter t) : leastV l fs place letter ≤ costT l fs t := by
  unfold leastV costT
  refine nextS_le _ 0 _ t h.1 hp (fun i hi h2 => ?_)
  unfold errV
  rw [if_pos hi]
  exact h.2 i hi h2
theorem leastV_att {l : List S24} {fs : Nat → Int} {place letter : Int} (h : leastV l fs place letter < 1048576) : ∃ t, FitT l fs t ∧ (∀ q : Nat, q < (rd_T24 l 0).f0.size → (q : Int) = place → t q = letter) ∧ costT l fs t = leastV l fs place letter := by
  unfold leastV at h ⊢
  obtain ⟨t, t1, t2, t3, t4⟩ := nextS_att _ 0 _ h
  refine ⟨t, ⟨t1, fun i hi h2 => ?_⟩, fun q hq h2 => t2 q (by omega) (by omega) h2, t4⟩
  have := t3 i hi h2
  unfold errV at this
  rw [if_pos hi] at this
  exact this
end Go.Proofs.Ytegjollhajgcdaa.P.OwnSt
namespace Go.Proofs.Ytegjollhajgcdaa.P.OwnSt
open Go.RowKit Go.Shelf Go.Proofs.YtegjollhajgcdaaW.PrintWords Go.Proofs.YtegjollhajgcdaaW.PrintLast Go.Proofs.YtegjollhajgcdaaW.PrintMore
set_option linter.unusedVariables false
set_option linter.unusedSimpArgs false
def SeqT {α : Type} (F : Fence) (n : Nat) (P : Program) (g : Nat) (lb : Array Value) (encs : α → Array Value) (Kp It : World → World → Prop) (S : List α → Prop) (N : Nat) (w : World) : Prop :=
  ∀ (l : Nat) (J : List α → World → Prop) (W : World), Below w.heap.size w W → (∀ s A B, J s A → It A B → J s B) →
    (∀ pre x W1, J pre W1 → pre.length < N → YieldAt F (n - 1) P l (encs x) W1 fun e W' => e = .returned (.bool true) ∧ J (pre ++ [x]) W' ∧ Kp W1 W') →
    J [] W →
    CallsIn F n P g (#[.func (.yield l) #[] #[]] ++ lb) W fun e W' => (∃ v, e = .returned v) ∧ ∃ xs, S xs ∧ J xs W'
def tPost {α : Type} (B : Nat) (Kp : World → World → Prop) (I : List α → World → Prop) (xs : List α) (W : World) : Exit → Act → World → Prop
  | .normal, _, W' => KeepsFrom B W W' ∧ Kp W W' ∧ I xs W'
  | _, _, _ => False
theorem wpIn_rangeFunc_T {F : Fence} {n : Nat} {P : Program} {α : Type} {g : Operand} {ps : Array Tmp} {assign body : Code} {Q : Exit → Act → World → Prop} {a : Act} {w : World}
    (hro : F.round = none) (h1 : 1 ≤ n) {gf : Nat} {lb : Array Value} (hg : a.eval g = .func (.func gf) #[] lb) (hFg : F.fn gf) (eg : ∀ args w, (callFunc gf args).run P w = .ok (.enter gf args) w)
    {encs : α → Array Value} {Kp It : World → World → Prop} {S : List α → Prop} {N : Nat} {w0 : World} (hseq : SeqT F (n - 1) P gf lb encs Kp It S N w0)
    (hKt : ∀ {A B C : World}, Kp A B → Kp B C → Kp A C) (hKb : ∀ (W : World) (l : Nat) (o o' : Obj), w.heap.size ≤ l → W.heap[l]? = some o → o.isCells = false → o.isWalk = false → Kp W (W.putObj l o'))
    (hIt : ∀ (A B : World) (k : Nat) (o : Obj), It A B → A.heap[k]? = some o → o.isCells = false → B.heap[k]? = some o)
    (hb0 : Below w0.heap.size w0 w) (hps : ∀ x, (encs x).size = ps.size)
    (I : List α → World → Prop) (hI : OwnFrom w.heap.size I) (hII : ∀ s A B, I s A → It A B → I s B) (h0 : I [] w) (Ax : α → Act → World → Prop) (hAx : ∀ x a', OwnFrom w.heap.size (fun (_ : Unit) W => Ax x a' W))
    (hassign : ∀ (l : Nat) (pre : List α) (x : α) (W : World) (K : Act → World → Prop), I pre W → (∀ a' W', KeepsFrom w.heap.size W W' → Kp W W' → I pre W' → Ax x a' W' → K a' W') →
      assign.wpIn (F.inRound l) (n - 1 - 1) P (Exit.then K (fun _ _ _ => False)) { tmps := (ps.zip (encs x)).foldl (fun t (p, v) => t.setIfInBounds p v) a.tmps, defers := [] } W)
    (hbody : ∀ (l : Nat) (pre : List α) (x : α) (a' : Act) (W : World), I pre W → Ax x a' W → pre.length < N → body.wpIn (F.inRound l) (n - 1 - 1) P (tPost w.heap.size Kp I (pre ++ [x]) W) a' W)
    (hdone : ∀ (D : Nat) (xs : List α) (W : World), w.heap.size ≤ D → S xs → I xs W → W.heap[D]? = some (.deferred (some [])) → Q .normal { a with defers := { target := .collected D, args := #[] } :: a.defers } W) :
    (Code.rangeFunc g ps assign body).wpIn F n P Q a w := by
  refine wpIn_rangeFunc ?_
  intro fn hfn
  rw [hro]
  obtain ⟨rec, hrec⟩ : ∃ rec : LoopState → Option Code → Loop, rec = fun st pe => { state := st, pending := pe, fn, tmps := a.tmps, params := ps, assign, body, defers := w.heap.size } := ⟨_, rfl⟩
  obtain ⟨W1, hW1⟩ : ∃ W1, (w.alloc (.deferred (some []))).alloc (.loop (rec .ready none)) = W1 := ⟨_, rfl⟩
  have hL1 : W1.heap[w.heap.size + 1]? = some (.loop (rec .ready none)) := by
    rw [← hW1]; have := World.alloc_heap_new (w.alloc (.deferred (some []))) (.loop (rec .ready none)); rwa [World.size_alloc] at this
  have hK1 : W1.heap[w.heap.size]? = some (.deferred (some [])) := by
    rw [← hW1]; exact (Below.heap_alloc _ _ _ (by simp)).trans (World.alloc_heap_new w _)
  have hI1 : I [] W1 := by rw [← hW1]; exact hI.alloc _ (hI.alloc _ h0)
  have hb1 : Below w0.heap.size w0 W1 := by
    rw [← hW1]; exact hb0.trans ((((Below.refl _ w).alloc (Nat.le_refl _) _).alloc (by simp) _).mono hb0.size)
  refine ⟨w.heap.size + 1, [{ target := .collected w.heap.size, args := #[] }], W1, { target := .fn (.func gf) lb, args := #[.func (.yield (w.heap.size + 1)) #[] #[]] }, W1, gf,
    #[.func (.yield (w.heap.size + 1)) #[] #[]] ++ lb, W1, ?_, ?_, ?_, ?_, fun _ => h1, ?_⟩
  · rw [← hW1, hrec]; exact run_enterLoop_outer _ _ _ _ _
  · simp only [resolve, hg]
    simp [go_sem]
  · intro f' hf'; simp [Target.leads] at hf'; subst hf'; exact hFg
  · simp [invoke, go_sem, eg]
  · refine (hseq (w.heap.size + 1)
      (fun pre W => I pre W ∧ W.heap[w.heap.size + 1]? = some (.loop (rec .ready none)) ∧ W.heap[w.heap.size]? = some (.deferred (some [])))
      W1 hb1
      (fun s A B hs hit => ⟨hII s A B hs.1 hit, hIt A B _ _ hit hs.2.1 rfl, hIt A B _ _ hit hs.2.2 rfl⟩)
      ?_ ⟨hI1, hL1, hK1⟩).mono ?_
    · rintro pre x W ⟨hi, hl, hk⟩ hlen
      have hlt : w.heap.size + 1 < W.heap.size := (Array.getElem?_eq_some_iff.1 hl).1
      have hy := run_yield (P := P) (args := encs x) hl (by rw [hrec]; exact hps x)
      rw [hrec] at hy
      refine ⟨fn, _, assign, body, hy, roundIn_of_wpIn hfn (hassign _ pre x W _ hi ?_)⟩
      clear hy
      intro a' Wa hkfa hkpa hia hax
      replace hl := hkfa.same _ _ (by omega) hl rfl
      replace hk := hkfa.same _ _ (Nat.le_refl _) hk rfl
      replace hlt : w.heap.size + 1 < Wa.heap.size := (Array.getElem?_eq_some_iff.1 hl).1
      replace hi := hia
      clear hia
      revert hkpa hkfa
      generalize W = Wb
      intro hkfa hkpa
      obtain ⟨W, rfl⟩ : ∃ W, W = Wa := ⟨_, rfl⟩
      refine ⟨_, run_beginRound hl (by rw [hrec]), ?_⟩
      have hl2 : (W.putObj (w.heap.size + 1) (.loop { rec .ready none with state := .busy })).heap[w.heap.size + 1]? = some (.loop { rec .ready none with state := .busy }) := World.putObj_heap_same hlt
      have hk2 : (W.putObj (w.heap.size + 1) (.loop { rec .ready none with state := .busy })).heap[w.heap.size]? = some (.deferred (some [])) := (World.putObj_heap_other (by omega)).trans hk
      have hw2 : Kp W (W.putObj (w.heap.size + 1) (.loop { rec .ready none with state := .busy })) := hKb _ _ _ _ (by omega) hl rfl rfl
      refine wpIn_mono (hbody _ pre x a' _ (hI.putObj _ hi (by omega) hl rfl) ((hAx x a').putObj (s := ()) _ hax (by omega) hl rfl) hlen) ?_
      rintro e a3 W3 hp
      cases e with
      | normal =>
        obtain ⟨hk3, hkp3, hi3⟩ := hp
        have hl3 := hk3.same _ _ (by omega) hl2 rfl
        have hr := run_endRound (P := P) none hl3
        rw [hrec] at hr hl3
        exact ⟨_, _, hr, rfl, ⟨hI.putObj _ hi3 (by omega) hl3 rfl, by rw [hrec]; exact World.putObj_heap_same (Array.getElem?_eq_some_iff.1 hl3).1, (World.putObj_heap_other (by omega)).trans (hk3.same _ _ (Nat.le_refl _) hk2 rfl)⟩, hKt hkpa (hKt (hKt hw2 hkp3) (hKb _ _ _ _ (by omega) hl3 rfl rfl))⟩
      | ret => exact hp.elim
      | exit id => exact hp.elim
      | goto t => exact hp.elim
      | panic ch => exact hp.elim
      | outgrown => exact hp.elim
    · rintro e W2 ⟨⟨v, rfl⟩, xs, hS, hi, hl, hk⟩
      exact ⟨none, _, by have := run_endLoop (P := P) hl (by rw [hrec]; simp); rw [hrec] at this; exact this, hdone _ xs _ (Nat.le_refl _) hS (hI.putObj _ hi (by omega) hl rfl) ((World.putObj_heap_other (by omega)).trans hk)⟩
end Go.Proofs.Ytegjollhajgcdaa.P.OwnSt
namespace Go.Proofs.Ytegjollhajgcdaa.P.OwnSt
open Go.RowKit Go.Proofs.YtegjollhajgcdaaW.PrintWords Go.Proofs.YtegjollhajgcdaaW.PrintLast Go.Proofs.YtegjollhajgcdaaW.PrintMore
set_option linter.unusedVariables false
set_option linter.unusedSimpArgs false
def apN (a b : ByteArray) (n : Nat) : Int := (((List.range n).filter fun (p : Nat) => bt a (p : Int) != bt b (p : Int)).length : Int)
theorem apN_succ (a b : ByteArray) (n : Nat) : apN a b (n + 1) = apN a b n + if bt a (n : Int) = bt b (n : Int) then 0 else 1 := by
  unfold apN
  rw [List.range_succ, List.filter_append]
  by_cases h : bt a (n : Int) = bt b (n : Int) <;> simp [h]
theorem apN_bound (a b : ByteArray) (n : Nat) : 0 ≤ apN a b n ∧ apN a b n ≤ n := by
  unfold apN
  have := List.length_filter_le (fun p : Nat => bt a (p : Int) != bt b (p : Int)) (List.range n)
  rw [List.length_range] at this
  omega
theorem apart_l0 (a b : ByteArray) (hab : a.size ≤ b.size) (h8 : a.size ≤ 1000) (m : Nat) : ∀ i, i + m = a.size → stemma_apart.l0 (m + 1) a b (apN a b i) (a.size : Int) (i : Int) = some (apN a b a.size) := by
  induction m with
  | zero =>
    intro i hi
    unfold stemma_apart.l0
    rw [if_neg (by omega)]
    have : i = a.size := by omega
    rw [this]
  | succ m ih =>
    intro i hi
    unfold stemma_apart.l0
    have hb := apN_bound a b i
    rw [if_pos (by omega), if_pos (by omega), if_pos (by omega), if_pos (by omega)]
    have h1 := ih (i + 1) (by omega)
    have e1 : wrap64 ((i : Int) + 1) = ((i + 1 : Nat) : Int) := by unfold wrap64; omega
    split
    · rename_i he
      rw [apN_succ, if_pos he, Int.add_zero] at h1
      rw [e1]
      exact h1
    · rename_i he
      rw [apN_succ, if_neg he] at h1
      rw [e1, show wrap64 (apN a b i + 1) = apN a b i + 1 by unfold wrap64; omega]
      exact h1
theorem apart_f (a b : ByteArray) (hab : a.size ≤ b.size) (h8 : a.size ≤ 1000) : stemma_apart.f (a.size + 1) a b = some (apN a b a.size) := by
  have := apart_l0 a b hab h8 a.size 0 (by omega)
  unfold stemma_apart.f
  simpa [apN] using this
def upd (s : Nat → Int) (i : Nat) (x : Int) : Nat → Int := fun k => if k = i then x else s k
theorem upd_upd (s : Nat → Int) (i : Nat) (x y : Int) : upd (upd s i x) i y = upd s i y := by
  funext k
  unfold upd
  by_cases h : k = i <;> simp [h]
def canF (l : List S24) (i : Nat) (f : Int) : Bool := if f == -1 then (rd_T24 l (i : Int)).f2 else decide (apN (rd_T24 l f).f0 (rd_T24 l (i : Int)).f0 (rd_T24 l f).f0.size ≤ (rd_T24 l (i : Int)).f1)
def treesG (l : List S24) : Nat → Nat → (Nat → Int) → List (Nat → Int)
  | 0, _, s => [s]
  | rem + 1, i, s => (List.range (i + 1)).flatMap fun (f : Nat) => if canF l i ((f : Int) - 1) = true then treesG l rem (i + 1) (upd s i ((f : Int) - 1)) else []
def treesK (l : List S24) (rem i : Nat) (s : Nat → Int) (k : Nat) : List (Nat → Int) := (List.range k).flatMap fun (f : Nat) => if canF l i ((f : Int) - 1) = true then treesG l rem (i + 1) (upd s i ((f : Int) - 1)) else []
theorem treesK_succ (l : List S24) (rem i : Nat) (s : Nat → Int) (k : Nat) : treesK l rem i s (k + 1) = treesK l rem i s k ++ if canF l i ((k : Int) - 1) = true then treesG l rem (i + 1) (upd s i ((k : Int) - 1)) else [] := by
  unfold treesK
  rw [List.range_succ, List.flatMap_append]
  simp
theorem treesG_len (l : List S24) (rem : Nat) : ∀ (i : Nat) (s : Nat → Int), i + rem ≤ 5 → (treesG l rem i s).length ≤ 6 ^ rem := by
  induction rem with
  | zero => intro i s _; simp [treesG]
  | succ rem ih =>
    intro i s hi
    have h1 : ∀ k, (treesK l rem i s k).length ≤ k * 6 ^ rem := by
      intro k
      induction k with
      | zero => simp [treesK]
      | succ k ihk =>
        rw [treesK_succ, List.length_append, Nat.succ_mul]
        have := ih (i + 1) (upd s i ((k : Int) - 1)) (by omega)
        split
        · omega
        · simp; omega
    have h2 := h1 (i + 1)
    have h3 : (i + 1) * 6 ^ rem ≤ 6 ^ rem * 6 := by rw [Nat.mul_comm]; exact Nat.mul_le_mul_left _ (by omega)
    rw [Nat.pow_succ]
    exact Nat.le_trans h2 h3
def KpT (n0 : Nat) (W W' : World) : Prop := W.heap.size ≤ W'.heap.size ∧ ∀ (k : Nat) (o : Obj), W.heap[k]? = some o → (k < n0 ∨ ∃ c t fr, o = .cells c t fr ∧ (t = 22 ∨ t = 82 ∨ t = 123 ∨ t = 124)) → W'.heap[k]? = some o
def It82 (n0 : Nat) (W W' : World) : Prop := W'.os = W.os ∧ W'.tape = W.tape ∧ W'.output = W.output ∧ W.heap.size ≤ W'.heap.size ∧ ∀ (k : Nat) (o : Obj), W.heap[k]? = some o → (k < n0 ∨ ∀ c fr, o ≠ .cells c 82 fr) → W'.heap[k]? = some o
section
variable {n0 : Nat} {W W' W'' : World}
theorem KpT.refl (n0 : Nat) (W : World) : KpT n0 W W := ⟨Nat.le_refl _, fun _ _ h _ => h⟩
theorem KpT.trans (h : KpT n0 W W') (k : KpT n0 W' W'') : KpT n0 W W'' := ⟨Nat.le_trans h.1 k.1, fun i o h1 h2 => k.2 i o (h.2 i o h1 h2) h2⟩
theorem KpT.of_below (h : KpT n0 W W') (hb : Below W.heap.size W' W'') : KpT n0 W W'' := ⟨Nat.le_trans h.1 hb.size, fun i o h1 h2 => (hb.block i (Array.getElem?_eq_some_iff.1 h1).1).trans (h.2 i o h1 h2)⟩
theorem KpT.alloc (h : KpT n0 W W') (o : Obj) : KpT n0 W (W'.alloc o) := h.of_below ((Below.refl _ _).alloc h.1 o)
theorem KpT.setCell (h : KpT n0 W W') {a : Addr} (ha : W.heap.size ≤ a.block) (v : Value) : KpT n0 W (W'.setCell a v) := h.of_below ((Below.refl _ _).setCell ha v)
theorem KpT.blk (h : KpT n0 W W') {b : Nat} {c : Array Value} {t : TypeId} {fr : Nat × Nat} (hb : W.heap[b]? = some (.cells c t fr)) (ht : t = 22 ∨ t = 82 ∨ t = 123 ∨ t = 124) : W'.heap[b]? = some (.cells c t fr) := h.2 b _ hb (.inr ⟨c, t, fr, rfl, ht⟩)
theorem KpT.low (h : KpT n0 W W') {b : Nat} (hb : b < n0) (hl : b < W.heap.size) : W'.heap[b]? = W.heap[b]? := by
  obtain ⟨o, ho⟩ : ∃ o, W.heap[b]? = some o := ⟨_, Array.getElem?_eq_getElem hl⟩
  rw [ho]
  exact h.2 b o ho (.inl hb)
theorem It82.below (hb : Below W.heap.size W W') : It82 n0 W W' := ⟨hb.os, hb.tape, hb.output, hb.size, fun k o h _ => (hb.block k (Array.getElem?_eq_some_iff.1 h).1).trans h⟩
theorem It82.set {b : Nat} {c : Array Value} {fr : Nat × Nat} (hb : W.heap[b]? = some (.cells c 82 fr)) (hn : n0 ≤ b) (off : Nat) (v : Value) : It82 n0 W (W.setCell ⟨b, off, none⟩ v) :=
  ⟨rfl, rfl, rfl, by show W.heap.size ≤ (W.heap.modify _ _).size; rw [Array.size_modify]; exact Nat.le_refl _, fun k o h h2 => by
    by_cases e : k = b
    · subst e
      rw [hb] at h
      injection h with h
      rcases h2 with h2 | h2
      · omega
      · exact absurd h.symm (h2 c fr)
    · exact (Below.heap_setCell W ⟨b, off, none⟩ v k e).trans h⟩
end
def capT (bl byy bn : Nat) : Array Value := #[.pointer (some ⟨bl, 0, none⟩), .pointer (some ⟨byy, 0, none⟩), .pointer (some ⟨bn, 0, none⟩)]
structure NW (l : List S24) (A : Option Addr) (c lr n0 bl byy bn : Nat) (W : World) : Prop where
  hl : Kd.C k24 W A l.length l
  hlo : ∀ ad, A = some ad → 0 < l.length → ad.block < n0
  hb : W.heap[bl]? = some (.cells #[.slice A l.length c] 22 (0, 0))
  hy : W.heap[byy]? = some (.cells #[.func (.yield lr) #[] #[]] 123 (0, 0))
  hn : W.heap[bn]? = some (.cells #[.func (.func 75) #[] (capT bl byy bn)] 124 (0, 0))
  low : n0 ≤ W.heap.size
theorem NW.keep {l : List S24} {A : Option Addr} {c lr n0 bl byy bn : Nat} {W W' : World} (h : NW l A c lr n0 bl byy bn W) (hk : KpT n0 W W') : NW l A c lr n0 bl byy bn W' :=
  ⟨Kd.C_foot_neS (S := fun b => n0 ≤ b) (fun hx => hx) h.hl (fun ad hA hn => by have := h.hlo ad hA hn; omega) W' ⟨hk.1, fun i hi hne => hk.low (by omega) hi⟩, h.hlo, hk.blk h.hb (.inl rfl), hk.blk h.hy (.inr (.inr (.inl rfl))), hk.blk h.hn (.inr (.inr (.inr rfl))), Nat.le_trans h.low hk.1⟩
def SrcAt (W : World) (b : Nat) (s : Nat → Int) : Prop := W.heap[b]? = some (.cells #[.int .i64 (s 0), .int .i64 (s 1), .int .i64 (s 2), .int .i64 (s 3), .int .i64 (s 4)] 82 (0, 0))
def srcV (s : Nat → Int) : Value := .agg #[.int .i64 (s 0), .int .i64 (s 1), .int .i64 (s 2), .int .i64 (s 3), .int .i64 (s 4)]
theorem SrcAt.cells {W : World} {b : Nat} {g : Nat → Int} (h : SrcAt W b g) : W.cell? ⟨b, 0, none⟩ = some (.int .i64 (g 0)) ∧ W.cell? ⟨b, 1, none⟩ = some (.int .i64 (g 1)) ∧ W.cell? ⟨b, 2, none⟩ = some (.int .i64 (g 2)) ∧ W.cell? ⟨b, 3, none⟩ = some (.int .i64 (g 3)) ∧ W.cell? ⟨b, 4, none⟩ = some (.int .i64 (g 4)) :=
  ⟨(blk_cell h 0).trans rfl, (blk_cell h 1).trans rfl, (blk_cell h 2).trans rfl, (blk_cell h 3).trans rfl, (blk_cell h 4).trans rfl⟩
theorem SrcAt.get {W : World} {b : Nat} {g : Nat → Int} (h : SrcAt W b g) (k : Nat) (hk : k < 5) : W.cell? ⟨b, k, none⟩ = some (.int .i64 (g k)) := by
  rw [blk_cell h]
  rcases k with _ | _ | _ | _ | _ | k
  all_goals first | rfl | omega
theorem SrcAt.set {W : World} {b : Nat} {g : Nat → Int} (h : SrcAt W b g) (k : Nat) (hk : k < 5) (x : Int) : SrcAt (W.setCell ⟨b, k, none⟩ (.int .i64 x)) b (upd g k x) := by
  have h1 := blk_set h k (.int .i64 x)
  unfold SrcAt
  rw [h1]
  rcases k with _ | _ | _ | _ | _ | k
  all_goals first | (simp [upd]; done) | omega
end Go.Proofs.Ytegjollhajgcdaa.P.OwnSt
namespace Go.Proofs.Ytegjollhajgcdaa.P.OwnSt
open Go.RowKit Go.Shelf Go.Proofs.YtegjollhajgcdaaW.PrintWords Go.Proofs.YtegjollhajgcdaaW.PrintLast Go.Proofs.YtegjollhajgcdaaW.PrintMore
set_option linter.unusedVariables false
set_option linter.unusedSimpArgs false
theorem treesK_mono (l : List S24) (rem i : Nat) (s : Nat → Int) (k m : Nat) : (treesK l rem i s k).length ≤ (treesK l rem i s (k + m)).length := by
  induction m with
  | zero => exact Nat.le_refl _
  | succ m ih => rw [← Nat.add_assoc, treesK_succ, List.length_append]; omega
set_option maxHeartbeats 1000000 in
set_option maxRecDepth 100000 in
theorem next75_calls (l : List S24) (A : Option Addr) (c lr n0 bl byy bn N : Nat) (hc : l.length ≤ c) (h5 : l.length ≤ 5) (L : Nat) (hL : ∀ i : Nat, i < l.length → (rd_T24 l (i : Int)).f0.size = L) (hL8 : L ≤ 8)
    (J : List (Nat → Int) → World → Prop) (hJ : ∀ s A B, J s A → It82 n0 A B → J s B)
    (hY : ∀ m pre x W1, J pre W1 → pre.length < N → YieldAt Fence.wide m Try.prog lr #[srcV x] W1 fun e W' => e = .returned (.bool true) ∧ J (pre ++ [x]) W' ∧ KpT n0 W1 W') (rem : Nat) :
    ∀ (i : Nat) (s : Nat → Int) (pre : List (Nat → Int)) (W : World), i + rem = l.length → NW l A c lr n0 bl byy bn W → J pre W → pre.length + (treesG l rem i s).length ≤ N →
    Calls Try.prog 75 #[.int .i64 (i : Int), srcV s, .pointer (some ⟨bl, 0, none⟩), .pointer (some ⟨byy, 0, none⟩), .pointer (some ⟨bn, 0, none⟩)] W fun e W' =>
      e = .returned (.bool true) ∧ J (pre ++ treesG l rem i s) W' ∧ KpT n0 W W' := by
  induction rem with
  | zero =>
    intro i s pre W hi hW hj hN
    have HW := Aside0.mk hW
    have HJ := Aside0.mk hj
    have HYY := Aside0.mk hY
    have HJJ := Aside0.mk hJ
    have hs : SrcAt (W.alloc (.cells #[.int .i64 (s 0), .int .i64 (s 1), .int .i64 (s 2), .int .i64 (s 3), .int .i64 (s 4)] 82)) W.heap.size s := blk_new W _
    have HS := Aside0.mk hs
    have hlb := (blk_cell hW.hb 0).trans (show (#[Value.slice A l.length c] : Array Value)[0]? = some _ from rfl)
    have hlb1 := blk_lt hW.hb
    have hi0 : ((i : Int) == (l.length : Int)) = true := by simp; omega
    clear hs hW hj hY hJ
    go_enter Try.func75, Try.ntmps75
    go_upto_region 2 with fail
    refine wp_gen (fun wx => Aside0 (KpT n0 W wx ∧ J pre wx) ∧ Aside0 (SrcAt wx W.heap.size s)) ?_ ?_
    · exact ⟨⟨(KpT.refl n0 W).alloc _, HJJ.out _ _ _ HJ.out (It82.below ((Below.refl _ _).alloc (Nat.le_refl _) _))⟩, HS⟩
    clear HS HJ hlb hlb1
    rintro wx ⟨HK, HS⟩
    obtain ⟨e0, e1, e2, e3, e4⟩ := HS.out.cells
    have hyy := (blk_cell (HW.out.keep HK.out.1).hy 0).trans (show (#[Value.func (.yield lr) #[] #[]] : Array Value)[0]? = some _ from rfl)
    obtain ⟨fn, tmps, assign, body, hy, hR⟩ := HYY.out 0 pre s wx HK.out.2 (by simp [treesG] at hN; omega)
    refine (wpIn_wide (n := 1)).1 ?_
    simp only [srcV] at hy
    gi_wp2
    refine hR.mono ?_
    rintro e W' ⟨rfl, hj', hk'⟩
    clear hy hR e0 e1 e2 e3 e4 hyy
    have HJ' := Aside0.mk hj'
    have HK' := Aside0.mk hk'
    clear hj' hk'
    dsimp only
    gi_wp2
    go_wp2_with fail
    go_ret
    exact ⟨rfl, HJ'.out, HK.out.1.trans HK'.out⟩
  | succ rem ih =>
    intro i s pre W hi hW hj hN
    have HW := Aside0.mk hW
    have HJ := Aside0.mk hj
    have HJJ := Aside0.mk hJ
    have IH := Aside0.mk ih
    have HL := Aside0.mk hL
    have HN := Aside0.mk hN
    have hs : SrcAt (W.alloc (.cells #[.int .i64 (s 0), .int .i64 (s 1), .int .i64 (s 2), .int .i64 (s 3), .int .i64 (s 4)] 82)) W.heap.size s := blk_new W _
    have HS := Aside0.mk hs
    have hlb := (blk_cell hW.hb 0).trans (show (#[Value.slice A l.length c] : Array Value)[0]? = some _ from rfl)
    have hlb1 := blk_lt hW.hb
    have hi0 : ((i : Int) == (l.length : Int)) = false := by simp; omega
    have hil : i < l.length := by omega
    clear hs hW hj hY hJ ih hL hN
    go_enter Try.func75, Try.ntmps75
    go_upto_region 3 with fail
    refine wp_gen (fun wx => Aside0 (KpT n0 W wx ∧ J pre wx) ∧ Aside0 (SrcAt wx W.heap.size s)) ?_ ?_
    · exact ⟨⟨(KpT.refl n0 W).alloc _, HJJ.out _ _ _ HJ.out (It82.below ((Below.refl _ _).alloc (Nat.le_refl _) _))⟩, HS⟩
    clear HS HJ hlb hlb1
    rintro wx ⟨HK, HS⟩
    go_wp2_with fail
    go_loopg [8] (i + 2) (fun k s8 wr => ∃ j : Nat, j + k = i + 2 ∧ j ≤ i + 1 ∧ s8 = .int .i64 ((j : Int) - 1) ∧ Aside0 (KpT n0 W wr ∧ J (pre ++ treesK l rem i s j) wr) ∧ Aside0 (∃ v, SrcAt wr W.heap.size (upd s i v)))
    case atStart => exact ⟨0, by omega, by omega, rfl, ⟨HK.out.1, by simpa [treesK] using HK.out.2⟩, ⟨s i, by rw [show upd s i (s i) = s from funext fun k => by unfold upd; split <;> simp_all]; exact HS.out⟩⟩
    case round =>
      obtain ⟨j, hjk, hj1, rfl, HK1, HS1⟩ := hrel
      clear HK HS
      have HJK := Aside0.mk hjk
      clear hjk
      obtain ⟨f, hf⟩ : ∃ f : Int, f = (j : Int) - 1 := ⟨_, rfl⟩
      rw [← hf]
      have hf1 : -1 ≤ f := by omega
      have hf2 : f ≤ i := by omega
      have HF := Aside0.mk hf
      clear hf
      by_cases hlt : f < (i : Int)
      · go_upto_region 6 with fail
        have HNW := Aside0.mk (HW.out.keep HK1.out.1)
        obtain ⟨ad, eA, y0, y1, y2⟩ := at_T24 HNW.out.hl (i : Int) (by omega) (by omega)
        subst eA
        have hlb := (blk_cell HNW.out.hb 0).trans (show (#[Value.slice (some ad) l.length c] : Array Value)[0]? = some _ from rfl)
        have hlb1 := blk_lt HNW.out.hb
        have hadl := World.block_lt_of_cell? wr _ y0
        simp only [Int.toNat_natCast] at y0 y1 y2
        have hil' : (i : Int) < (l.length : Int) := by omega
        have hi5 : (i : Int) < 5 := by omega
        go_cut [53] (fun s53 wx => s53 = .bool (!canF l i f) ∧ Aside0 (Below wr.heap.size wr wx))
        case first =>
          by_cases hf0 : f = -1
          · subst hf0
            rcases hsaw : (rd_T24 l (i : Int)).f2 with _ | _
            · rw [hsaw] at y2
              go_quiet (fail)
              go_wp2_with fail
              refine Met.intro ?_
              go_step
              (repeat apply Exists.intro)
              refine ⟨?_, rfl⟩
              exact ⟨by simp [canF, hsaw], ⟨pw_below_drewN (Below.refl _ _) _⟩⟩
            · rw [hsaw] at y2
              go_quiet (fail)
              go_wp2_with fail
              refine Met.intro ?_
              go_step
              (repeat apply Exists.intro)
              refine ⟨?_, rfl⟩
              exact ⟨by simp [canF, hsaw], ⟨pw_below_drewN (Below.refl _ _) _⟩⟩
          · obtain ⟨f', rfl⟩ : ∃ f' : Nat, f = f' := ⟨f.toNat, by omega⟩
            have hf'l : f' < l.length := by omega
            have hff : (((f' : Nat) : Int) == -1) = false := by simp
            have hff1 : (((f' : Nat) : Int) != -1) = true := by simp [bne, hff]
            have hf5 : (f' : Int) < (l.length : Int) := by omega
            have hf0' : (0 : Int) ≤ f' := by omega
            obtain ⟨ad', eA, z0, z1, z2⟩ := at_T24 HNW.out.hl (f' : Int) (by omega) (by omega)
            injection eA with eA
            subst eA
            simp only [Int.toNat_natCast] at z0 z1 z2
            have hap := apart_f (rd_T24 l (f' : Int)).f0 (rd_T24 l (i : Int)).f0 (by rw [HL.out f' hf'l, HL.out i hil]; omega) (by rw [HL.out f' hf'l]; omega)
            have HAP := Aside0.mk hap
            clear hap
            have hcan : canF l i (f' : Int) = decide (apN (rd_T24 l (f' : Int)).f0 (rd_T24 l (i : Int)).f0 (rd_T24 l (f' : Int)).f0.size ≤ (rd_T24 l (i : Int)).f1) := by unfold canF; rw [if_neg (by simp [hff])]
            have HCAN := Aside0.mk hcan
            clear hcan hf0 hf'l hlt
            obtain ⟨ap, hape⟩ : ∃ ap, apN (rd_T24 l (f' : Int)).f0 (rd_T24 l (i : Int)).f0 (rd_T24 l (f' : Int)).f0.size = ap := ⟨_, rfl⟩
            rw [hape] at HAP HCAN
            clear hape
            go_quiet (first | (go_at_call 58; (with_reducible refine (stemma_apart.calls _ _ _ _ _ HAP.out).mono ?_); rintro e w' ⟨rfl, ⟨nd, rfl⟩⟩; exact ⟨rfl, _, World.drewN_drewN _ _ _⟩))
            go_wp2_with fail
            refine Met.intro ?_
            go_step
            (repeat apply Exists.intro)
            refine ⟨?_, rfl⟩
            exact ⟨by rw [HCAN.out]; exact congrArg Value.bool (by rw [Bool.eq_iff_iff]; simp), ⟨pw_below_drewN (Below.refl _ _) _⟩⟩
        case rest =>
          obtain ⟨rfl, HB⟩ := hcut
          clear y0 y1 y2 hlb hlb1 hadl
          have HK2 := Aside0.mk (show KpT n0 W wc ∧ J (pre ++ treesK l rem i s j) wc from ⟨HK1.out.1.of_below (HB.out.mono HK1.out.1.1), HJJ.out _ _ _ HK1.out.2 (It82.below HB.out)⟩)
          have HS2 := Aside0.mk (show ∃ v, SrcAt wc W.heap.size (upd s i v) from HS1.out.imp fun v h => blk_below h HB.out)
          clear HK1 HS1 HNW HB
          clear wr
          rcases hcan : canF l i f with _ | _
          · have HC := Aside0.mk hcan
            clear hcan
            go_wp2_with fail
            go_roundg (gk - 1)
            case measure => have := HJK.out; omega
            case rel =>
              refine ⟨j + 1, by have := HJK.out; omega, by have := HF.out; omega, by rw [HF.out]; go_num, ?_, HS2⟩
              rw [treesK_succ, ← HF.out, HC.out]
              simpa using HK2
          · have HC := Aside0.mk hcan
            clear hcan
            obtain ⟨v, hv⟩ := HS2.out
            have HV := Aside0.mk hv
            have hv0 := hv.get i (by omega)
            have hvf := blk_frozen hv i
            have hvl := blk_lt hv
            clear hv
            go_upto_region 8 with fail
            refine wp_gen (fun wx => Aside0 (KpT n0 W wx ∧ J (pre ++ treesK l rem i s j) wx) ∧ Aside0 (SrcAt wx W.heap.size (upd s i f))) ?_ ?_
            · have hS := HV.out.set i (by omega) f
              rw [upd_upd] at hS
              exact ⟨⟨HK2.out.1.setCell (by simp) _, HJJ.out _ _ _ HK2.out.2 (It82.set HV.out HW.out.low _ _)⟩, ⟨hS⟩⟩
            clear hv0 hvf hvl HV HK2 HS2
            rintro wy ⟨HK3, HS3⟩
            obtain ⟨e0, e1, e2, e3, e4⟩ := HS3.out.cells
            have hnn := (blk_cell (HW.out.keep HK3.out.1).hn 0).trans (show (#[Value.func (.func 75) #[] (capT bl byy bn)] : Array Value)[0]? = some _ from rfl)
            simp only [capT] at hnn
            have hc1 := IH.out (i + 1) (upd s i f) (pre ++ treesK l rem i s j) wy (by omega) (HW.out.keep HK3.out.1) HK3.out.2 (by
              have h1 := HN.out
              have h2 : (treesK l rem i s (j + 1)).length ≤ (treesG l (rem + 1) i s).length := by
                obtain ⟨m, hm⟩ : ∃ m, i + 1 = j + 1 + m := ⟨i - j, by have := HF.out; omega⟩
                show _ ≤ (treesK l rem i s (i + 1)).length
                rw [hm]
                exact treesK_mono l rem i s (j + 1) m
              rw [treesK_succ, ← HF.out, HC.out, if_pos rfl, List.length_append] at h2
              rw [List.length_append]
              omega)
            rw [show ((i + 1 : Nat) : Int) = (i : Int) + 1 by omega] at hc1
            simp only [srcV] at hc1
            have HC1 := Aside0.mk hc1
            clear hc1
            go_wp2_with first | (go_at_call 75; refine HC1.out.mono ?_; rintro e w2 ⟨rfl, hj2, hk2⟩) | fail
            go_roundg (gk - 1)
            case measure => have := HJK.out; omega
            case rel =>
              refine ⟨j + 1, by have := HJK.out; omega, by have := HF.out; omega, by rw [HF.out]; go_num, ⟨HK3.out.1.trans hk2, ?_⟩, ⟨f, hk2.blk HS3.out (.inr (.inl rfl))⟩⟩
              rw [treesK_succ, ← HF.out, HC.out, if_pos rfl, ← List.append_assoc]
              exact hj2
      · obtain rfl : j = i + 1 := by have := HF.out; omega
        go_wp2_with fail
        go_ret
        exact ⟨rfl, HK1.out.2, HK1.out.1⟩
end Go.Proofs.Ytegjollhajgcdaa.P.OwnSt
namespace Go.Proofs.Ytegjollhajgcdaa.P.OwnSt
open Go.RowKit Go.Shelf Go.Proofs.YtegjollhajgcdaaW.PrintWords Go.Proofs.YtegjollhajgcdaaW.PrintLast Go.Proofs.YtegjollhajgcdaaW.PrintMore
set_option linter.unusedVariables false
set_option linter.unusedSimpArgs false
theorem yieldAny {m : Nat} (m' : Nat) {P : Program} {l : Nat} {args : Array Value} {W : World} {R : Ending → World → Prop} (h : YieldAt Fence.wide m P l args W R) : YieldAt Fence.wide m' P l args W R := by
  obtain ⟨fn, tmps, assign, body, hy, hR⟩ := h
  exact ⟨fn, tmps, assign, body, hy, hR.1, fun c cs _ => hR.2 c cs (room_wide _)⟩
set_option maxHeartbeats 1000000 in
set_option maxRecDepth 100000 in
theorem seq74_calls (l : List S24) (A : Option Addr) (c lr n0 bl N : Nat) (hc : l.length ≤ c) (h5 : l.length ≤ 5) (L : Nat) (hL : ∀ i : Nat, i < l.length → (rd_T24 l (i : Int)).f0.size = L) (hL8 : L ≤ 8)
    (J : List (Nat → Int) → World → Prop) (hJ : ∀ s A B, J s A → It82 n0 A B → J s B)
    (hY : ∀ m pre x W1, J pre W1 → pre.length < N → YieldAt Fence.wide m Try.prog lr #[srcV x] W1 fun e W' => e = .returned (.bool true) ∧ J (pre ++ [x]) W' ∧ KpT n0 W1 W')
    (W : World) (hl : Kd.C k24 W A l.length l) (hlo : ∀ ad, A = some ad → 0 < l.length → ad.block < n0) (hb : W.heap[bl]? = some (.cells #[.slice A l.length c] 22 (0, 0))) (hn : n0 ≤ W.heap.size) (h0 : J [] W) (hN : (treesG l l.length 0 (fun _ => 0)).length ≤ N) :
    Calls Try.prog 74 #[.func (.yield lr) #[] #[], .pointer (some ⟨bl, 0, none⟩)] W fun e W' =>
      (∃ v, e = .returned v) ∧ J (treesG l l.length 0 (fun _ => 0)) W' := by
  have HL := Aside0.mk hl
  have HLO := Aside0.mk hlo
  have HB := Aside0.mk hb
  have HJJ := Aside0.mk hJ
  have HY := Aside0.mk hY
  have HLL := Aside0.mk hL
  have H0 := Aside0.mk h0
  have HN := Aside0.mk hN
  clear hl hlo hb hJ hY hL h0 hN
  go_enter Try.func74, Try.ntmps74
  go_upto_region 2 with fail
  refine wp_gen (fun wx => Aside0 (wx.heap[W.heap.size]? = some (.cells #[.func (.yield lr) #[] #[]] 123 (0, 0)) ∧ wx.heap[W.heap.size + 1]? = some (.cells #[.nilFunc] 124 (0, 0)) ∧ Below W.heap.size W wx) ∧ Aside0 (wx.heap.size = W.heap.size + 2)) ?_ ?_
  · have b2 := blk_new (W.alloc (.cells #[.func (.yield lr) #[] #[]] 123)) (.cells #[.nilFunc] 124)
    rw [World.size_alloc] at b2
    exact ⟨⟨blk_alloc (blk_new W _) _, b2, ((Below.refl _ _).alloc (Nat.le_refl _) _).alloc (by simp) _⟩, ⟨by simp⟩⟩
  rintro w1 ⟨H1, HS1⟩
  have hcf := (blk_cell H1.out.2.1 0).trans (show (#[Value.nilFunc] : Array Value)[0]? = some _ from rfl)
  have hff := blk_frozen H1.out.2.1 0
  have hll := blk_lt H1.out.2.1
  go_upto_region 3 with fail
  refine wp_gen (fun wx => Aside0 (NW l A c lr n0 bl W.heap.size (W.heap.size + 1) wx ∧ J [] wx)) ?_ ?_
  · obtain ⟨a1, a2, a3⟩ := H1.out
    have hB := a3.setCell (p := ⟨W.heap.size + 1, 0, none⟩) (by simp) (.func (.func 75) #[] (capT bl W.heap.size (W.heap.size + 1)))
    have h2 := blk_set a2 0 (.func (.func 75) #[] (capT bl W.heap.size (W.heap.size + 1)))
    refine ⟨⟨Kd.C_below HL.out hB, HLO.out, blk_below HB.out hB, (Below.heap_setCell w1 ⟨W.heap.size + 1, 0, none⟩ _ _ (by simp)).trans a1, h2.trans (by simp), Nat.le_trans hn hB.size⟩, HJJ.out _ _ _ H0.out (It82.below hB)⟩
  clear hcf hff hll HS1 H1 w1
  rintro w1 ⟨HW, hj⟩
  have HJ := Aside0.mk hj
  have hnn := (blk_cell HW.hn 0).trans (show (#[Value.func (.func 75) #[] (capT bl W.heap.size (W.heap.size + 1))] : Array Value)[0]? = some _ from rfl)
  simp only [capT] at hnn
  have hc1 := next75_calls l A c lr n0 bl W.heap.size (W.heap.size + 1) N hc h5 L HLL.out hL8 J HJJ.out HY.out l.length 0 (fun _ => 0) [] w1 (by omega) HW HJ.out (by simpa using HN.out)
  simp only [srcV] at hc1
  have HC1 := Aside0.mk hc1
  clear hc1 hj HW
  go_wp2_with first | (go_at_call 75; refine HC1.out.mono ?_; rintro e w2 ⟨rfl, hj2, hk2⟩) | fail
  go_end0
  exact ⟨⟨_, rfl⟩, by simpa using hj2⟩
set_option maxHeartbeats 1000000 in
theorem trad_calls (A : Option Addr) (n c : Nat) (w : World) : Calls Try.prog 65 #[.slice A n c] w fun e w' =>
    e = .returned (.func (.func 74) #[] #[.pointer (some ⟨w.heap.size, 0, none⟩)]) ∧ w' = w.alloc (.cells #[.slice A n c] 22) := by
  go_enter Try.func65, Try.ntmps65
  go_wp2_with fail
  go_ret
  exact ⟨rfl, rfl⟩
theorem trad_seq (l : List S24) (A : Option Addr) (c n0 bl n : Nat) (hc : l.length ≤ c) (h5 : l.length ≤ 5) (L : Nat) (hL : ∀ i : Nat, i < l.length → (rd_T24 l (i : Int)).f0.size = L) (hL8 : L ≤ 8)
    (w : World) (hl : Kd.C k24 w A l.length l) (hlo : ∀ ad, A = some ad → 0 < l.length → ad.block < n0) (hb : w.heap[bl]? = some (.cells #[.slice A l.length c] 22 (0, 0))) (hn : n0 ≤ w.heap.size) :
    SeqT Fence.wide n Try.prog 74 #[.pointer (some ⟨bl, 0, none⟩)] (fun x => #[srcV x]) (KpT n0) (It82 n0) (fun xs => xs = treesG l l.length 0 (fun _ => 0)) (treesG l l.length 0 (fun _ => 0)).length w := by
  intro lr J W hW hJ hY h0
  refine callsIn_wide.2 ?_
  refine (seq74_calls l A c lr n0 bl _ hc h5 L hL hL8 J hJ (fun m pre x W1 hj hlen => yieldAny m (hY pre x W1 hj hlen)) W (Kd.C_below hl hW) hlo (blk_below hb hW) (Nat.le_trans hn hW.size) h0 (Nat.le_refl _)).mono ?_
  rintro e W' ⟨hv, hj⟩
  exact ⟨hv, _, rfl, hj⟩
end Go.Proofs.Ytegjollhajgcdaa.P.OwnSt
namespace Go.Proofs.Ytegjollhajgcdaa.P.OwnSt
open Go.RowKit Go.Proofs.YtegjollhajgcdaaW.PrintWords Go.Proofs.YtegjollhajgcdaaW.PrintLast Go.Proofs.YtegjollhajgcdaaW.PrintMore
set_option linter.unusedVariables false
set_option linter.unusedSimpArgs false
theorem filter_congr_range {n : Nat} {p q : Nat → Bool} (h : ∀ i, i < n → p i = q i) : (List.range n).filter p = (List.range n).filter q := List.filter_congr fun i hi => h i (List.mem_range.1 hi)
theorem nextS_made (l : List S24) (fs fs' : Nat → Int) (place letter : Int) (h : ∀ i, i < l.length → (fs i == -1) = (fs' i == -1)) (rem : Nat) : ∀ (p : Int) (g : Nat → Int), nextS l fs place letter rem p g = nextS l fs' place letter rem p g := by
  have hh : ∀ p c i, i < l.length → hit l fs p c i = hit l fs' p c i := fun p c i hi => by unfold hit; rw [h i hi]
  have ha : ∀ p c, atB l fs p c = atB l fs' p c := fun p c => by
    unfold atB
    rw [Bool.eq_iff_iff, List.any_eq_true, List.any_eq_true]
    constructor
    · rintro ⟨i, hi, h1⟩
      exact ⟨i, hi, by unfold atOne at *; rw [← h i (List.mem_range.1 hi)]; exact h1⟩
    · rintro ⟨i, hi, h1⟩
      exact ⟨i, hi, by unfold atOne at *; rw [h i (List.mem_range.1 hi)]; exact h1⟩
  have he : ∀ p c, errsTo l fs p c l.length = errsTo l fs' p c l.length := fun p c => by unfold errsTo; rw [filter_congr_range (hh p c)]
  have hf : ∀ g p c, fitsTo l fs g p c l.length = fitsTo l fs' g p c l.length := fun g p c => by
    unfold fitsTo
    rw [Bool.eq_iff_iff, List.all_eq_true, List.all_eq_true]
    constructor <;> intro h2 i hi <;> have h3 := h2 i hi
    · rw [← hh p c i (List.mem_range.1 hi)]; exact h3
    · rw [hh p c i (List.mem_range.1 hi)]; exact h3
  have hl : ∀ g p c, leftTo l fs g p c l.length = leftTo l fs' g p c l.length := fun g p c => by
    funext i
    unfold leftTo
    by_cases hi : i < l.length
    · rw [hh p c i hi]
    · simp [hi]
  induction rem with
  | zero => intro p g; rfl
  | succ rem ih =>
    intro p g
    have hs : stepC l fs place letter (nextS l fs place letter rem (p + 1)) p g = stepC l fs' place letter (nextS l fs' place letter rem (p + 1)) p g := by
      funext st c
      unfold stepC skipC
      rw [ha, he, hf, hl, ih]
    rw [nextS, nextS, hs]
theorem leastV_made (l : List S24) (fs fs' : Nat → Int) (place letter : Int) (h : madeB l.length fs = madeB l.length fs') : leastV l fs place letter = leastV l fs' place letter :=
  nextS_made l fs fs' place letter (fun i hi => by have := congrFun h i; simpa [madeB, hi] using this) _ _ _
def liesB (l : List S24) (s : Nat → Int) : Bool := decide (leastV l s (-1) 0 < 1048576)
def knownV (l : List S24) : List (Nat → Int) := (treesG l l.length 0 (fun _ => 0)).filter (liesB l)
def lostC (A : Option Addr) (n c : Nat) (s : Nat → Int) : List Value := [.slice A n c, .int .i64 (s 0), .int .i64 (s 1), .int .i64 (s 2), .int .i64 (s 3), .int .i64 (s 4)]
def lostRow (A : Option Addr) (n c : Nat) (ss : List (Nat → Int)) : List Value := ss.flatMap (lostC A n c)
theorem lostRow_snoc (A : Option Addr) (n c : Nat) (ss : List (Nat → Int)) (s : Nat → Int) : lostRow A n c (ss ++ [s]) = lostRow A n c ss ++ lostC A n c s := by simp [lostRow]
def MayR (l : List S24) (key val : Value) : Prop := ∃ s : Nat → Int, key = madeV (madeB l.length s) ∧ val = .bool (liesB l s)
theorem madeB_of_key (l : List S24) (h5 : l.length ≤ 5) (s s' : Nat → Int) (h : madeV (madeB l.length s) = madeV (madeB l.length s')) : madeB l.length s = madeB l.length s' := by
  simp only [madeV, Value.agg.injEq, Array.mk.injEq, List.cons.injEq, Value.bool.injEq, and_true] at h
  obtain ⟨h0, h1, h2, h3, h4⟩ := h
  funext i
  by_cases hi : i < l.length
  · rcases (by omega : i = 0 ∨ i = 1 ∨ i = 2 ∨ i = 3 ∨ i = 4) with rfl | rfl | rfl | rfl | rfl <;> assumption
  · simp [madeB, hi]
theorem MayR.at_key {l : List S24} (h5 : l.length ≤ 5) {s : Nat → Int} {val : Value} (h : MayR l (madeV (madeB l.length s)) val) : val = .bool (liesB l s) := by
  obtain ⟨s', h1, rfl⟩ := h
  unfold liesB
  rw [leastV_made l s s' (-1) 0 (madeB_of_key l h5 s s' h1)]
theorem KpT.book {n0 : Nat} {w : World} (hn : n0 ≤ w.heap.size) (W : World) (k : Nat) (o o' : Obj) (hk : w.heap.size ≤ k) (h : W.heap[k]? = some o) (hc : o.isCells = false) (_ : o.isWalk = false) : KpT n0 W (W.putObj k o') :=
  ⟨by simp [World.putObj], fun i u hu h2 => by
    by_cases e : i = k
    · subst e
      rw [h] at hu
      injection hu with hu
      subst hu
      rcases h2 with h2 | ⟨c, t, fr, rfl, _⟩
      · omega
      · simp [Obj.isCells] at hc
    · exact (World.putObj_heap_other e).trans hu⟩
theorem It82.others {n0 : Nat} (A B : World) (k : Nat) (o : Obj) (h : It82 n0 A B) (hk : A.heap[k]? = some o) (hc : o.isCells = false) : B.heap[k]? = some o :=
  h.2.2.2.2 k o hk (.inr fun c fr e => by subst e; simp [Obj.isCells] at hc)
theorem It82.blk {n0 : Nat} {A B : World} (h : It82 n0 A B) {b : Nat} {cs : Array Value} {t : TypeId} {fr : Nat × Nat} (hb : A.heap[b]? = some (.cells cs t fr)) (ht : t ≠ 82) : B.heap[b]? = some (.cells cs t fr) :=
  h.2.2.2.2 b _ hb (.inr fun c fr' e => by injection e with e1 e2 e3; exact ht e2)
theorem It82.low {n0 : Nat} {A B w : World} (h : It82 n0 A B) (hn : w.heap.size ≤ n0) (hb : Below w.heap.size w A) : Below w.heap.size w B :=
  ⟨h.1.trans hb.os, h.2.1.trans hb.tape, h.2.2.1.trans hb.output, Nat.le_trans hb.size h.2.2.2.1, fun k hk => by
    have h1 := hb.block k hk
    obtain ⟨o, ho⟩ : ∃ o, w.heap[k]? = some o := ⟨_, Array.getElem?_eq_getElem hk⟩
    rw [ho] at h1 ⊢
    exact h.2.2.2.2 k o h1 (.inl (by omega))⟩
theorem It82.own {n0 : Nat} {A B : World} (h : It82 n0 A B) {base e size n : Nat} {v : Value} {xs : List Value} (ho : A.ownsRow base e size v n xs) (he : e ≠ 82) : B.ownsRow base e size v n xs := by
  refine own_move ho fun k hk => ?_
  obtain ⟨cells, hc⟩ := own_typed ho k hk
  rw [hc]
  exact h.blk hc he
theorem It82.memo {n0 : Nat} {A B : World} (h : It82 n0 A B) {K : TypeId} {Φ : Value → Value → Prop} {mb : Nat} (hm : MemoAt Try.prog K Φ A mb) : MemoAt Try.prog K Φ B mb := by
  obtain ⟨es, ck, h1, h2⟩ := hm
  exact ⟨es, ck, It82.others A B mb _ h h1 rfl, h2⟩
structure KI (l : List S24) (A : Option Addr) (c : Nat) (w : World) (bo bm mb : Nat) (pre : List (Nat → Int)) (W : World) : Prop where
  h22 : W.heap[w.heap.size]? = some (.cells #[.slice A l.length c] 22 (0, 0))
  out : ∃ v, W.heap[bo]? = some (.cells #[v] 75 (0, 0)) ∧ W.ownsRow w.heap.size 84 6 v (pre.filter (liesB l)).length (lostRow A l.length c (pre.filter (liesB l)))
  may : W.heap[bm]? = some (.cells #[.map (some mb)] 80 (0, 0))
  memo : MemoAt Try.prog 85 (MayR l) W mb
  below : Below w.heap.size w W
theorem KI.it {l : List S24} {A : Option Addr} {c : Nat} {w : World} {bo bm mb : Nat} {pre : List (Nat → Int)} {W W' : World} (h : KI l A c w bo bm mb pre W) (hi : It82 w.heap.size W W') : KI l A c w bo bm mb pre W' := by
  obtain ⟨h1, ⟨v, h2, h3⟩, h4, h5, h6⟩ := h
  exact ⟨hi.blk h1 (by decide), ⟨v, hi.blk h2 (by decide), hi.own h3 (by decide)⟩, hi.blk h4 (by decide), hi.memo h5, hi.low (Nat.le_refl _) h6⟩
theorem KI.ownFrom {l : List S24} {A : Option Addr} {c : Nat} {w : World} {bo bm mb B : Nat} (hB : mb < B) (hw : w.heap.size ≤ B) : OwnFrom B (KI l A c w bo bm mb) := by
  intro pre W W' row h hg hr
  obtain ⟨h1, ⟨v, h2, h3⟩, h4, h5, h6⟩ := h
  have hk : ∀ {b : Nat} {cs : Array Value} {t : TypeId} {fr : Nat × Nat}, W.heap[b]? = some (.cells cs t fr) → W'.heap[b]? = some (.cells cs t fr) := fun {b} {cs} {t} {fr} hb =>
    (hg.block b (blk_lt hb) (fun e => by
      obtain ⟨_, o, ho, hc⟩ := hr b e.symm
      rw [hb] at ho
      injection ho with ho
      subst ho
      simp [Obj.isCells] at hc)).trans hb
  refine ⟨hk h1, ⟨v, hk h2, own_move h3 fun k hkk => ?_⟩, hk h4, ?_, h6.grown hg h6.size (fun k e => by have := (hr k e).1; omega)⟩
  · obtain ⟨cells, hc⟩ := own_typed h3 k hkk
    rw [hc]
    exact hk hc
  · obtain ⟨es, ck, m1, m2⟩ := h5
    exact ⟨es, ck, (hg.block mb (Array.getElem?_eq_some_iff.1 m1).1 (fun e => by have := (hr mb e.symm).1; omega)).trans m1, m2⟩
end Go.Proofs.Ytegjollhajgcdaa.P.OwnSt
namespace Go.Proofs.Ytegjollhajgcdaa.P.OwnSt
open Go.RowKit Go.Proofs.YtegjollhajgcdaaW.PrintWords Go.Proofs.YtegjollhajgcdaaW.PrintLast Go.Proofs.YtegjollhajgcdaaW.PrintMore
set_option linter.unusedVariables false
set_option linter.unusedSimpArgs false
def KB (l : List S24) (A : Option Addr) (c : Nat) (w : World) (bo bm mb : Nat) (pre : List (Nat → Int)) (b8 : Nat) (x : Nat → Int) (B0 : Nat) (Wr W : World) : Prop :=
  KI l A c w bo bm mb pre W ∧ LostAt W b8 A l.length c x ∧ KpT w.heap.size Wr W ∧ KeepsFrom B0 Wr W
section
variable {l : List S24} {A : Option Addr} {c : Nat} {w : World} {bo bm mb : Nat} {pre : List (Nat → Int)} {b8 : Nat} {x : Nat → Int} {B0 : Nat} {Wr W W' : World}
theorem KpT.belowW (h : KpT w.heap.size Wr W) (hb : Below W.heap.size W W') : KpT w.heap.size Wr W' := h.of_below (hb.mono h.1)
theorem KB.below (h : KB l A c w bo bm mb pre b8 x B0 Wr W) (hb : Below W.heap.size W W') : KB l A c w bo bm mb pre b8 x B0 Wr W' :=
  ⟨h.1.it (It82.below hb), h.2.1.below hb, h.2.2.1.belowW hb, h.2.2.2.trans ⟨hb.size, fun k o _ hk _ => blk_below hk hb⟩⟩
theorem MemoHas.keep {key : Value} (h : MemoHas W mb key) (hb : W'.heap[mb]? = W.heap[mb]?) : MemoHas W' mb key := by
  obtain ⟨es, ck, h1, h2⟩ := h
  exact ⟨es, ck, hb.trans h1, h2⟩
theorem MemoAt.lt {P : Program} {K : TypeId} {Φ : Value → Value → Prop} (h : MemoAt P K Φ W mb) : mb < W.heap.size := by
  obtain ⟨es, ck, h1, _⟩ := h
  exact blk_lt h1
theorem below_put {n0 : Nat} (h : Below n0 w W) (hn : n0 ≤ mb) (o : Obj) : Below n0 w (W.putObj mb o) :=
  ⟨h.os, h.tape, h.output, by have := h.size; simpa [World.putObj] using this, fun k hk => (World.putObj_heap_other (by omega)).trans (h.block k hk)⟩
theorem KB.map (h : KB l A c w bo bm mb pre b8 x B0 Wr W) (hmb : w.heap.size ≤ mb) (hB : mb < B0) (o : Obj) (hm : MemoAt Try.prog 85 (MayR l) (W.putObj mb o) mb) : KB l A c w bo bm mb pre b8 x B0 Wr (W.putObj mb o) := by
  obtain ⟨⟨h1, ⟨v, h2, h3⟩, h4, h5, h6⟩, h7, h8, h9⟩ := h
  obtain ⟨es, ck, hE, _⟩ := h5
  have hk : ∀ {b : Nat} {cs : Array Value} {t : TypeId} {fr : Nat × Nat}, W.heap[b]? = some (.cells cs t fr) → (W.putObj mb o).heap[b]? = some (.cells cs t fr) := fun {b} {cs} {t} {fr} hb =>
    (World.putObj_heap_other (fun e => by rw [← e, hb] at hE; cases hE)).trans hb
  refine ⟨⟨hk h1, ⟨v, hk h2, own_move h3 fun k hkk => ?_⟩, hk h4, hm, below_put h6 hmb o⟩, hk h7, ⟨by have := h8.1; simpa [World.putObj] using this, fun k u hu hu2 => ?_⟩, ⟨by have := h9.size; simpa [World.putObj] using this, fun k u hB2 hu hc => ?_⟩⟩
  · obtain ⟨cells, hc⟩ := own_typed h3 k hkk
    rw [hc]
    exact hk hc
  · refine (World.putObj_heap_other (fun e => ?_)).trans (h8.2 k u hu hu2)
    have h10 := h8.2 k u hu hu2
    rcases hu2 with h11 | ⟨c', t, fr, rfl, _⟩
    · omega
    · rw [← e, h10] at hE
      cases hE
  · exact (World.putObj_heap_other (by omega)).trans (h9.same k u hB2 hu hc)
theorem KB.app (h : KB l A c w bo bm mb pre b8 x B0 Wr W) (hl : liesB l x = true) (hbo : w.heap.size < bo) {v v' : Value} (hv : W.heap[bo]? = some (.cells #[v] 75 (0, 0)))
    (hown : W.ownsRow w.heap.size 84 6 v (pre.filter (liesB l)).length (lostRow A l.length c (pre.filter (liesB l))))
    (ho : W'.ownsRow w.heap.size 84 6 v' ((pre.filter (liesB l)).length + 1) (lostRow A l.length c (pre.filter (liesB l)) ++ lostC A l.length c x)) (hg : W.grownBy W' v.ownBlock) (hsz : bm < W.heap.size) :
    KeepsFrom B0 Wr (W'.setCell ⟨bo, 0, none⟩ v') ∧ KpT w.heap.size Wr (W'.setCell ⟨bo, 0, none⟩ v') ∧ KI l A c w bo bm mb (pre ++ [x]) (W'.setCell ⟨bo, 0, none⟩ v') := by
  obtain ⟨⟨h1, _, h4, h5, h6⟩, h7, h8, h9⟩ := h
  have hty : ∀ k, v.ownBlock = some k → w.heap.size ≤ k ∧ ∃ cells, W.heap[k]? = some (.cells cells 84 (0, 0)) := fun k hk => ⟨own_base hown k hk, own_typed hown k hk⟩
  have hk : ∀ {b : Nat} {o : Obj}, W.heap[b]? = some o → (∀ cells, o ≠ .cells cells 84 (0, 0)) → W'.heap[b]? = some o := fun {b} {o} hb ho2 =>
    blk_grown hb hg (fun e => by
      obtain ⟨_, cells, hc⟩ := hty b e.symm
      rw [hb] at hc
      injection hc with hc
      exact ho2 _ hc)
  have hbo' := hk hv (fun _ e => by injection e with _ e2; exact absurd e2 (by decide))
  have hk2 : ∀ {b : Nat} {o : Obj}, W.heap[b]? = some o → (∀ cells, o ≠ .cells cells 84 (0, 0)) → b ≠ bo → (W'.setCell ⟨bo, 0, none⟩ v').heap[b]? = some o := fun {b} {o} hb ho2 hne =>
    (Below.heap_setCell W' ⟨bo, 0, none⟩ v' b hne).trans (hk hb ho2)
  refine ⟨⟨?_, fun k o hB hko hc => ?_⟩, ⟨?_, fun k o hko h2 => ?_⟩, ⟨?_, ⟨v', ?_, ?_⟩, ?_, ?_, ?_⟩⟩
  · have h10 := h9.size; have h11 := hg.size; simp [World.setCell]; omega
  · refine hk2 (h9.same k o hB hko hc) (fun cells e => by subst e; simp [Obj.isCells] at hc) (fun e => ?_)
    subst e
    have h10 := h9.same k o hB hko hc
    rw [hv] at h10
    injection h10 with h10
    subst h10
    simp [Obj.isCells] at hc
  · have h10 := h8.1; have h11 := hg.size; simp [World.setCell]; omega
  · have h10 := h8.2 k o hko h2
    refine (Below.heap_setCell W' ⟨bo, 0, none⟩ v' k (fun e => ?_)).trans ?_
    · have e' : k = bo := e
      subst e'
      rcases h2 with h2 | ⟨c', t, fr, rfl, h2⟩
      · omega
      · rw [hv] at h10
        injection h10 with h10
        injection h10 with _ h10
        subst h10
        revert h2
        decide
    · refine blk_grown h10 hg (fun e => ?_)
      obtain ⟨h11, cells, hc⟩ := hty k e.symm
      rcases h2 with h2 | ⟨c', t, fr, rfl, h2⟩
      · omega
      · rw [hc] at h10
        injection h10 with h10
        injection h10 with _ h10
        subst h10
        revert h2
        decide
  · exact hk2 h1 (fun _ e => by injection e with _ e2; exact absurd e2 (by decide)) (by omega)
  · simpa using blk_set hbo' 0 v'
  · have h10 : (pre ++ [x]).filter (liesB l) = pre.filter (liesB l) ++ [x] := by simp [hl]
    rw [h10, lostRow_snoc, List.length_append]
    refine own_setCell ho (fun e => ?_) _
    obtain ⟨cells, hc⟩ := own_typed ho bo e.symm
    rw [hbo'] at hc
    injection hc with hc
    injection hc with _ hc
    exact absurd hc (by decide)
  · refine hk2 h4 (fun _ e => by injection e with _ e2; exact absurd e2 (by decide)) (fun e => ?_)
    subst e
    rw [hv] at h4
    injection h4 with h4
    injection h4 with _ h4
    exact absurd h4 (by decide)
  · obtain ⟨es, ck, hE, hr⟩ := h5
    refine ⟨es, ck, hk2 hE (fun _ e => by cases e) (fun e => ?_), hr⟩
    subst e
    rw [hv] at hE
    cases hE
  · exact (h6.grown hg h6.size (fun k e => own_base hown k e)).setCell (Nat.le_of_lt hbo) _
theorem KB.skip (h : KB l A c w bo bm mb pre b8 x B0 Wr W) (hl : liesB l x = false) : KeepsFrom B0 Wr W ∧ KpT w.heap.size Wr W ∧ KI l A c w bo bm mb (pre ++ [x]) W := by
  refine ⟨h.2.2.2, h.2.2.1, ?_⟩
  obtain ⟨⟨h1, ⟨v, h2, h3⟩, h4, h5, h6⟩, h7, h8, h9⟩ := h
  have h10 : (pre ++ [x]).filter (liesB l) = pre.filter (liesB l) := by simp [hl]
  exact ⟨h1, ⟨v, h2, by rw [h10]; exact h3⟩, h4, h5, h6⟩
end
end Go.Proofs.Ytegjollhajgcdaa.P.OwnSt
