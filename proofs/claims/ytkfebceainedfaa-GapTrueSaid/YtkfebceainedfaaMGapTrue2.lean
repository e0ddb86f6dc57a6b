/- Lemmas for the statement GapTrue of the given program, for every input that its row lets in. Conditions: none beyond those that each lemma tells. -/
import Derived.Laws.Shifts
import Derived.WalkKit
import Derived.Test.YtkfebceainedfaaProg
import Derived.Below
import Derived.Deep.Draws
import Derived.Deep.AppendLies
import Derived.Maps.AppendAt
import Derived.OwnWalk
import Derived.Laws.BytesArg
import Derived.Laws.MakeOwn
import Derived.Laws.OwnMore
import Derived.Deep.OwnRows
import Derived.Tactics
import Derived.Lib.ConvBytes
import Derived.Laws.Slices
import Derived.KernelRfl
import Derived.RowKit3
import Derived.Deep.LoopGhost
import Derived.Deep.QuietTactic
import Derived.BigQuiet
import Derived.WideLaws
import Derived.Deep.DeepCutAuto
import Derived.Deep.CutBlock
import Derived.Deep.RegionHeld3
import Derived.Laws.Rows
import Derived.Lib.AppendStr
import Derived.ArgAppend
import Derived.Laws.IdiomCopy
import Derived.OrdersHeld
import Derived.Laws.BitsLemmas
import Derived.RowKit
import Derived.Lib.Hide
import Derived.Lib.SplitLaws
import Derived.BigRegion
import Derived.WalkSpells
import Derived.Deep.CutRange
import Derived.Deep.RegionLaw
import Derived.Deep.RegionWith
import Derived.Shelf.Abstract
import Derived.DeepKeys4
import Derived.Maps.Own
import Derived.RangeFuncRecord
import Derived.Test.YtkfebceainedfaaMGapTrue1
set_option linter.unusedVariables false
set_option linter.unusedSimpArgs false
namespace Go.Proofs.Ytkfebceainedfaa.OFix
open Go.RowKit
theorem cell_set_map (W : World) (p : Addr) (v : Value) : (W.setCell p v).cell? p = (W.cell? p).map fun _ => v := by
 unfold World.setCell World.cell?
 simp only [Array.getElem?_modify, if_true]
 cases ho : W.heap[p.block]? with
 | none => rfl
 | some o =>
  cases o with
  | cells c e fr =>
   by_cases hs : p.spot.isSome = true
   ·simp [hs]
   ·simp only [Option.map_some, hs, Bool.false_eq_true, if_false]
    by_cases ho2 : p.off < c.size
    ·simp [ho2]
    ·simp [ho2]
  | _ => rfl
theorem shr_mod (k yk : IntKind) (x y : Int) : Op.shift .shr k x yk (y % 256) = pure (.int k (x / 2 ^ min (y % 256).toNat k.bits)) := shift_shr_any k yk x _ (by omega)
theorem shl_mod (k yk : IntKind) (x y : Int) : Op.shift .shl k x yk (y % 256) = pure (.int k (k.wrap (x * 2 ^ min (y % 256).toNat k.bits))) := shift_shl_any k yk x _ (by omega)
theorem ne_nil_b (l : List UInt8) : (l != []) = !l.isEmpty := by cases l <;> rfl
attribute [go_sem] cell_set_map shr_mod shl_mod
end Go.Proofs.Ytkfebceainedfaa.OFix
namespace Go.Proofs.Ytkfebceainedfaa.P
open Go.RowKit Go.Proofs.YtkfebceainedfaaW.PrintWords Go.Proofs.YtkfebceainedfaaW.PrintLast Go.Proofs.YtkfebceainedfaaW.PrintMore
attribute [local go_sem] max2_int min2_int max_two min_two max_three min_three max_four min_four   -- for this text's walks alone
set_option linter.unusedVariables false
set_option linter.unusedSimpArgs false
def errW : Option Int → Value
 | none => .nilIface
 | some c => .iface 0 (.int .i64 c)
theorem errW_none : errW none = .nilIface := rfl
theorem errW_some (c : Int) : errW (some c) = .iface 0 (.int .i64 c) := rfl
theorem info3 : (Try.prog.info? 3).map (fun i => (i.zero, i.size, i.bytes)) = some (some (.int .i64 0), 1, 8) := by kernel_rfl
theorem info9 : (Try.prog.info? 9).map (fun i => (i.zero, i.size, i.bytes)) = some (some (.string ⟨#[]⟩), 1, 16) := by kernel_rfl
theorem info49 : (Try.prog.info? 49).map (fun i => (i.zero, i.size, i.bytes)) = some (some (.agg #[(.string ⟨#[]⟩), (.bool false), (.int .i64 0), (.int .i64 0)]), 4, 40) := by kernel_rfl
theorem info53 : (Try.prog.info? 53).map (fun i => (i.zero, i.size, i.bytes)) = some (some (.agg #[(.string ⟨#[]⟩), (.int .i64 0)]), 2, 24) := by kernel_rfl
theorem info60 : (Try.prog.info? 60).map (fun i => (i.zero, i.size, i.bytes)) = some (some (.agg #[(.string ⟨#[]⟩), (.string ⟨#[]⟩), (.string ⟨#[]⟩), (.int .i64 0), (.int .i64 0)]), 5, 64) := by kernel_rfl
def rd_L1 (xs : List (List Bool)) (i : Int) : (List Bool) := xs.getD i.toNat ([] : List Bool)
theorem at_L1 {w : World} {A : Option Addr} {n : Nat} {xs : List (List Bool)} (h : Kd.C (Kd.slice 4 Kd.bool) w A n xs) (i : Int) (h0 : 0 ≤ i) (h1 : i < n) : ∃ ad A0 c0, A = some ad ∧ w.cell? (ad.add i.toNat) = some (.slice A0 (rd_L1 xs i).length c0) ∧ (rd_L1 xs i).length ≤ c0 ∧ Kd.bool.C w A0 (rd_L1 xs i).length (rd_L1 xs i) := by
 obtain ⟨ad, c, e, _, hK, hc0⟩ := Kd.C_get h ([] : List Bool) i h0 h1
 have hc : ∀ j u, c[j]? = some u → w.cell? (ad.add (i.toNat * 1 + j)) = some u := hc0
 obtain ⟨A0, c0, rfl, l0, g0⟩ := hK
 exact ⟨ad, A0, c0, e, by have hq := hc 0 _ rfl; rwa [Nat.mul_one, Nat.add_zero] at hq, l0, g0⟩
structure S53 where
 f0 : ByteArray
 f1 : Int
def z53 : S53 := ⟨(⟨#[]⟩ : ByteArray), (0 : Int)⟩
def k53 : Kd S53 := Kd.iso (Kd.pair Kd.string (Kd.int .i64)) (fun x : S53 => (x.f0, x.f1))
theorem k53_open {w : World} {x : S53} {cs : List Value} (h : k53.K w x cs) : cs = [.string x.f0, .int .i64 x.f1] := by
 obtain ⟨_, _, rfl, rfl, rfl⟩ := h
 exact rfl
theorem k53_mk (w : World) (x : S53)  : k53.K w x [.string x.f0, .int .i64 x.f1] := ⟨[.string x.f0], [.int .i64 x.f1], rfl, rfl, rfl⟩
theorem k53_mkM (w : World) (base : Nat) (ok : Nat → Prop) (x : S53)  : k53.M w base ok x [.string x.f0, .int .i64 x.f1] := ⟨[.string x.f0], [.int .i64 x.f1], rfl, rfl, rfl⟩
def rd_T53 (xs : List S53) (i : Int) : S53 := xs.getD i.toNat z53
theorem at_T53 {w : World} {A : Option Addr} {n : Nat} {xs : List S53} (h : Kd.C k53 w A n xs) (i : Int) (h0 : 0 ≤ i) (h1 : i < n) : ∃ ad , A = some ad ∧ w.cell? (ad.add (i.toNat * 2)) = some (.string (rd_T53 xs i).f0) ∧ w.cell? ⟨(ad.add (i.toNat * 2)).block, (ad.add (i.toNat * 2)).off + 1, none⟩ = some (.int .i64 (rd_T53 xs i).f1) := by
 obtain ⟨ad, c, e, _, hK, hc0⟩ := Kd.C_get h z53 i h0 h1
 have hc : ∀ j u, c[j]? = some u → w.cell? (ad.add (i.toNat * 2 + j)) = some u := hc0
 obtain rfl := k53_open hK
 exact ⟨ad, e, hc 0 _ rfl, by rw [← add_field _ _ 1 (by omega)]; exact hc 1 _ rfl⟩
structure S47 where
 f0 : Int
 f1 : Int
def z47 : S47 := ⟨(0 : Int), (0 : Int)⟩
def k47 : Kd S47 := Kd.iso (Kd.pair (Kd.int .i64) (Kd.int .i64)) (fun x : S47 => (x.f0, x.f1))
theorem k47_open {w : World} {x : S47} {cs : List Value} (h : k47.K w x cs) : cs = [.int .i64 x.f0, .int .i64 x.f1] := by
 obtain ⟨_, _, rfl, rfl, rfl⟩ := h
 exact rfl
theorem k47_mk (w : World) (x : S47)  : k47.K w x [.int .i64 x.f0, .int .i64 x.f1] := ⟨[.int .i64 x.f0], [.int .i64 x.f1], rfl, rfl, rfl⟩
theorem k47_mkM (w : World) (base : Nat) (ok : Nat → Prop) (x : S47)  : k47.M w base ok x [.int .i64 x.f0, .int .i64 x.f1] := ⟨[.int .i64 x.f0], [.int .i64 x.f1], rfl, rfl, rfl⟩
def rd_T47 (xs : List S47) (i : Int) : S47 := xs.getD i.toNat z47
theorem at_T47 {w : World} {A : Option Addr} {n : Nat} {xs : List S47} (h : Kd.C k47 w A n xs) (i : Int) (h0 : 0 ≤ i) (h1 : i < n) : ∃ ad , A = some ad ∧ w.cell? (ad.add (i.toNat * 2)) = some (.int .i64 (rd_T47 xs i).f0) ∧ w.cell? ⟨(ad.add (i.toNat * 2)).block, (ad.add (i.toNat * 2)).off + 1, none⟩ = some (.int .i64 (rd_T47 xs i).f1) := by
 obtain ⟨ad, c, e, _, hK, hc0⟩ := Kd.C_get h z47 i h0 h1
 have hc : ∀ j u, c[j]? = some u → w.cell? (ad.add (i.toNat * 2 + j)) = some u := hc0
 obtain rfl := k47_open hK
 exact ⟨ad, e, hc 0 _ rfl, by rw [← add_field _ _ 1 (by omega)]; exact hc 1 _ rfl⟩
structure S49 where
 f0 : ByteArray
 f1 : Bool
 f2 : S47
def z49 : S49 := ⟨(⟨#[]⟩ : ByteArray), false, z47⟩
def k49 : Kd S49 := Kd.iso (Kd.pair Kd.string (Kd.pair Kd.bool k47)) (fun x : S49 => (x.f0, x.f1, x.f2))
theorem k49_open {w : World} {x : S49} {cs : List Value} (h : k49.K w x cs) : cs = [.string x.f0, .bool x.f1, .int .i64 x.f2.f0, .int .i64 x.f2.f1] := by
 obtain ⟨_, _, rfl, rfl, ⟨_, _, rfl, rfl, s2⟩⟩ := h
 obtain rfl := k47_open s2
 exact rfl
theorem k49_mkM (w : World) (base : Nat) (ok : Nat → Prop) (x : S49)  : k49.M w base ok x [.string x.f0, .bool x.f1, .int .i64 x.f2.f0, .int .i64 x.f2.f1] := ⟨[.string x.f0], [.bool x.f1, .int .i64 x.f2.f0, .int .i64 x.f2.f1], rfl, rfl, ⟨[.bool x.f1], [.int .i64 x.f2.f0, .int .i64 x.f2.f1], rfl, rfl, (k47_mkM w base ok x.f2 )⟩⟩
def rd_T49 (xs : List S49) (i : Int) : S49 := xs.getD i.toNat z49
theorem at_T49 {w : World} {A : Option Addr} {n : Nat} {xs : List S49} (h : Kd.C k49 w A n xs) (i : Int) (h0 : 0 ≤ i) (h1 : i < n) : ∃ ad , A = some ad ∧ w.cell? (ad.add (i.toNat * 4)) = some (.string (rd_T49 xs i).f0) ∧ w.cell? ⟨(ad.add (i.toNat * 4)).block, (ad.add (i.toNat * 4)).off + 1, none⟩ = some (.bool (rd_T49 xs i).f1) ∧ w.cell? ⟨(ad.add (i.toNat * 4)).block, (ad.add (i.toNat * 4)).off + 2, none⟩ = some (.int .i64 (rd_T49 xs i).f2.f0) ∧ w.cell? ⟨(ad.add (i.toNat * 4)).block, (ad.add (i.toNat * 4)).off + 3, none⟩ = some (.int .i64 (rd_T49 xs i).f2.f1) := by
 obtain ⟨ad, c, e, _, hK, hc0⟩ := Kd.C_get h z49 i h0 h1
 have hc : ∀ j u, c[j]? = some u → w.cell? (ad.add (i.toNat * 4 + j)) = some u := hc0
 obtain rfl := k49_open hK
 exact ⟨ad, e, hc 0 _ rfl, by rw [← add_field _ _ 1 (by omega)]; exact hc 1 _ rfl, by rw [← add_field _ _ 2 (by omega)]; exact hc 2 _ rfl, by rw [← add_field _ _ 3 (by omega)]; exact hc 3 _ rfl⟩
structure S31 where
 f0 : (List Int)
 f1 : (List Int)
def z31 : S31 := ⟨([] : List Int), ([] : List Int)⟩
def k31 : Kd S31 := Kd.iso (Kd.pair (Kd.slice 3 (Kd.int .i64)) (Kd.slice 3 (Kd.int .i64))) (fun x : S31 => (x.f0, x.f1))
theorem k31_open {w : World} {x : S31} {cs : List Value} (h : k31.K w x cs) : ∃ A0 c0 A1 c1, cs = [.slice A0 x.f0.length c0, .slice A1 x.f1.length c1] ∧ x.f0.length ≤ c0 ∧ (Kd.int .i64).C w A0 x.f0.length x.f0 ∧ x.f1.length ≤ c1 ∧ (Kd.int .i64).C w A1 x.f1.length x.f1 := by
 obtain ⟨_, _, rfl, ⟨A0, c0, rfl, l0, g0⟩, ⟨A1, c1, rfl, l1, g1⟩⟩ := h
 exact ⟨A0, c0, A1, c1, rfl, l0, g0, l1, g1⟩
theorem k31_mk (w : World) (x : S31) {A0 : Option Addr} {c0 : Nat} (l0 : x.f0.length ≤ c0) (g0 : (Kd.int .i64).C w A0 x.f0.length x.f0) {A1 : Option Addr} {c1 : Nat} (l1 : x.f1.length ≤ c1) (g1 : (Kd.int .i64).C w A1 x.f1.length x.f1) : k31.K w x [.slice A0 x.f0.length c0, .slice A1 x.f1.length c1] := ⟨[.slice A0 x.f0.length c0], [.slice A1 x.f1.length c1], rfl, ⟨A0, c0, rfl, l0, g0⟩, ⟨A1, c1, rfl, l1, g1⟩⟩
theorem k31_mkM (w : World) (base : Nat) (ok : Nat → Prop) (x : S31) {v0 : Value} (g0 : (Kd.int .i64).R 3 w base ok v0 x.f0) {v1 : Value} (g1 : (Kd.int .i64).R 3 w base ok v1 x.f1) : k31.M w base ok x [v0, v1] := ⟨[v0], [v1], rfl, ⟨v0, rfl, g0⟩, ⟨v1, rfl, g1⟩⟩
def rd_T31 (xs : List S31) (i : Int) : S31 := xs.getD i.toNat z31
theorem at_T31 {w : World} {A : Option Addr} {n : Nat} {xs : List S31} (h : Kd.C k31 w A n xs) (i : Int) (h0 : 0 ≤ i) (h1 : i < n) : ∃ ad A0 c0 A1 c1, A = some ad ∧ w.cell? (ad.add (i.toNat * 2)) = some (.slice A0 (rd_T31 xs i).f0.length c0) ∧ w.cell? ⟨(ad.add (i.toNat * 2)).block, (ad.add (i.toNat * 2)).off + 1, none⟩ = some (.slice A1 (rd_T31 xs i).f1.length c1) ∧ (rd_T31 xs i).f0.length ≤ c0 ∧ (Kd.int .i64).C w A0 (rd_T31 xs i).f0.length (rd_T31 xs i).f0 ∧ (rd_T31 xs i).f1.length ≤ c1 ∧ (Kd.int .i64).C w A1 (rd_T31 xs i).f1.length (rd_T31 xs i).f1 := by
 obtain ⟨ad, c, e, _, hK, hc0⟩ := Kd.C_get h z31 i h0 h1
 have hc : ∀ j u, c[j]? = some u → w.cell? (ad.add (i.toNat * 2 + j)) = some u := hc0
 obtain ⟨A0, c0, A1, c1, rfl, l0, g0, l1, g1⟩ := k31_open hK
 exact ⟨ad, A0, c0, A1, c1, e, hc 0 _ rfl, by rw [← add_field _ _ 1 (by omega)]; exact hc 1 _ rfl, l0, g0, l1, g1⟩
structure S60 where
 f0 : ByteArray
 f1 : ByteArray
 f2 : ByteArray
 f3 : S47
def z60 : S60 := ⟨(⟨#[]⟩ : ByteArray), (⟨#[]⟩ : ByteArray), (⟨#[]⟩ : ByteArray), z47⟩
def k60 : Kd S60 := Kd.iso (Kd.pair Kd.string (Kd.pair Kd.string (Kd.pair Kd.string k47))) (fun x : S60 => (x.f0, x.f1, x.f2, x.f3))
theorem k60_open {w : World} {x : S60} {cs : List Value} (h : k60.K w x cs) : cs = [.string x.f0, .string x.f1, .string x.f2, .int .i64 x.f3.f0, .int .i64 x.f3.f1] := by
 obtain ⟨_, _, rfl, rfl, ⟨_, _, rfl, rfl, ⟨_, _, rfl, rfl, s3⟩⟩⟩ := h
 obtain rfl := k47_open s3
 exact rfl
theorem k60_mk (w : World) (x : S60)  : k60.K w x [.string x.f0, .string x.f1, .string x.f2, .int .i64 x.f3.f0, .int .i64 x.f3.f1] := ⟨[.string x.f0], [.string x.f1, .string x.f2, .int .i64 x.f3.f0, .int .i64 x.f3.f1], rfl, rfl, ⟨[.string x.f1], [.string x.f2, .int .i64 x.f3.f0, .int .i64 x.f3.f1], rfl, rfl, ⟨[.string x.f2], [.int .i64 x.f3.f0, .int .i64 x.f3.f1], rfl, rfl, (k47_mk w x.f3 )⟩⟩⟩
theorem k60_mkM (w : World) (base : Nat) (ok : Nat → Prop) (x : S60)  : k60.M w base ok x [.string x.f0, .string x.f1, .string x.f2, .int .i64 x.f3.f0, .int .i64 x.f3.f1] := ⟨[.string x.f0], [.string x.f1, .string x.f2, .int .i64 x.f3.f0, .int .i64 x.f3.f1], rfl, rfl, ⟨[.string x.f1], [.string x.f2, .int .i64 x.f3.f0, .int .i64 x.f3.f1], rfl, rfl, ⟨[.string x.f2], [.int .i64 x.f3.f0, .int .i64 x.f3.f1], rfl, rfl, (k47_mkM w base ok x.f3 )⟩⟩⟩
def rd_T60 (xs : List S60) (i : Int) : S60 := xs.getD i.toNat z60
theorem at_T60 {w : World} {A : Option Addr} {n : Nat} {xs : List S60} (h : Kd.C k60 w A n xs) (i : Int) (h0 : 0 ≤ i) (h1 : i < n) : ∃ ad , A = some ad ∧ w.cell? (ad.add (i.toNat * 5)) = some (.string (rd_T60 xs i).f0) ∧ w.cell? ⟨(ad.add (i.toNat * 5)).block, (ad.add (i.toNat * 5)).off + 1, none⟩ = some (.string (rd_T60 xs i).f1) ∧ w.cell? ⟨(ad.add (i.toNat * 5)).block, (ad.add (i.toNat * 5)).off + 2, none⟩ = some (.string (rd_T60 xs i).f2) ∧ w.cell? ⟨(ad.add (i.toNat * 5)).block, (ad.add (i.toNat * 5)).off + 3, none⟩ = some (.int .i64 (rd_T60 xs i).f3.f0) ∧ w.cell? ⟨(ad.add (i.toNat * 5)).block, (ad.add (i.toNat * 5)).off + 4, none⟩ = some (.int .i64 (rd_T60 xs i).f3.f1) := by
 obtain ⟨ad, c, e, _, hK, hc0⟩ := Kd.C_get h z60 i h0 h1
 have hc : ∀ j u, c[j]? = some u → w.cell? (ad.add (i.toNat * 5 + j)) = some u := hc0
 obtain rfl := k60_open hK
 exact ⟨ad, e, hc 0 _ rfl, by rw [← add_field _ _ 1 (by omega)]; exact hc 1 _ rfl, by rw [← add_field _ _ 2 (by omega)]; exact hc 2 _ rfl, by rw [← add_field _ _ 3 (by omega)]; exact hc 3 _ rfl, by rw [← add_field _ _ 4 (by omega)]; exact hc 4 _ rfl⟩
end Go.Proofs.Ytkfebceainedfaa.P
namespace Go.Proofs.Ytkfebceainedfaa.P
open Go.RowKit Go.Proofs.YtkfebceainedfaaW.PrintWords Go.Proofs.YtkfebceainedfaaW.PrintLast Go.Proofs.YtkfebceainedfaaW.PrintMore
attribute [local go_sem] max2_int min2_int max_two min_two max_three min_three max_four min_four   -- for this text's walks alone
set_option linter.unusedVariables false
set_option linter.unusedSimpArgs false
def IsS83 (w0 W : World) (g : Nat) (f0 : Int) (f1 : Int) : Prop := W.heap[g]? = some (.cells #[.int .u64 f0, .int .u64 f1] 83 (0, 0)) ∧ w0.heap.size ≤ g
theorem IsS83.grown {w0 W : World} {g : Nat} {f0 : Int} {f1 : Int} {W1 : World} {row : Option Nat} (h : IsS83 w0 W g f0 f1) (hw : W.grownBy W1 row) (hne : some g ≠ row) : IsS83 w0 W1 g f0 f1 := by
 obtain ⟨hb, hg⟩ := h
 exact ⟨blk_grown hb hw hne, hg⟩
theorem IsS83.kept {w0 W : World} {g : Nat} {f0 : Int} {f1 : Int} {W1 : World} {S : Nat → Prop} (h : IsS83 w0 W g f0 f1) (hk : Kept W W1 S) (hne : ¬ S g) : IsS83 w0 W1 g f0 f1 := by
 obtain ⟨hb, hg⟩ := h
 exact ⟨blk_kept hb hk hne, hg⟩
theorem IsS83.below {w0 W : World} {g : Nat} {f0 : Int} {f1 : Int} {W1 : World} (h : IsS83 w0 W g f0 f1) (hw : Below W.heap.size W W1) : IsS83 w0 W1 g f0 f1 := h.grown (grown_of_below hw none) (by simp)
theorem IsS83.alloc {w0 W : World} {g : Nat} {f0 : Int} {f1 : Int} (h : IsS83 w0 W g f0 f1) (o : Obj) : IsS83 w0 (W.alloc o) g f0 f1 := h.below (below_alloc (Below.refl _ _) o)
theorem IsS83.drewN {w0 W : World} {g : Nat} {f0 : Int} {f1 : Int} (h : IsS83 w0 W g f0 f1) (m : Nat) : IsS83 w0 (W.drewN m) g f0 f1 := h
theorem IsS83.drew {w0 W : World} {g : Nat} {f0 : Int} {f1 : Int} (h : IsS83 w0 W g f0 f1) : IsS83 w0 W.drew g f0 f1 := h
theorem IsS83.at_ {w0 W : World} {g : Nat} {f0 : Int} {f1 : Int} {w' : World} {m : Nat} (hq : W.drewN m = w') (h : IsS83 w0 W g f0 f1) : IsS83 w0 w' g f0 f1 := by subst hq; exact IsS83.drewN h m
theorem IsS83.apart {w0 W : World} {g : Nat} {f0 : Int} {f1 : Int} {α : Type} {d : Kd α} {e : Nat} {base : Nat} {ok : Nat → Prop} {v : Value} {xs : List α} (h : IsS83 w0 W g f0 f1) (ho : d.R e W base ok v xs) (ht : ∀ q, q ∈ e :: d.E → q ≠ 83) : d.R e W base (fun k => ok k ∧ k ≠ g) v xs := by
 obtain ⟨hb, hg⟩ := h
 exact Kd.R_types ho hb ht
theorem IsS83.own_ne {w0 W : World} {g : Nat} {f0 : Int} {f1 : Int} {α : Type} {d : Kd α} {e : Nat} {base : Nat} {ok : Nat → Prop} {v : Value} {xs : List α} (h : IsS83 w0 W g f0 f1) (ho : d.R e W base ok v xs) (ht : e ≠ 83) : some g ≠ v.ownBlock := by
 obtain ⟨hb, hg⟩ := h
 exact Kd.R_ne ho hb ht
theorem IsS83.lt {w0 W : World} {g : Nat} {f0 : Int} {f1 : Int} (h : IsS83 w0 W g f0 f1) : g < W.heap.size := by
 obtain ⟨hb, hg⟩ := h
 exact blk_lt hb
theorem IsS83.ge {w0 W : World} {g : Nat} {f0 : Int} {f1 : Int} (h : IsS83 w0 W g f0 f1) : w0.heap.size ≤ g := by
 obtain ⟨hb, hg⟩ := h
 exact hg
theorem IsS83.far {w0 W : World} {g : Nat} {f0 : Int} {f1 : Int} {p : Addr} (h : IsS83 w0 W g f0 f1) (hne : g ≠ p.block) (u : Value) : IsS83 w0 (W.setCell p u) g f0 f1 := by
 obtain ⟨hb, hg⟩ := h
 exact ⟨blk_far hb hne u, hg⟩
theorem cellS83_0 {W : World} {g : Nat} {f0 : Int} {f1 : Int} (h : W.heap[g]? = some (.cells #[.int .u64 f0, .int .u64 f1] 83 (0, 0))) : W.cell? ⟨g, 0, none⟩ = some (.int .u64 f0) := (blk_cell h 0).trans rfl
theorem IsS83.set_0 {w0 W : World} {g : Nat} {f0 : Int} {f1 : Int} (h : IsS83 w0 W g f0 f1) (x : Int) : IsS83 w0 (W.setCell ⟨g, 0, none⟩ (.int .u64 x)) g x f1 := by
 obtain ⟨hb, hg⟩ := h
 exact ⟨by simpa using blk_set hb 0 (.int .u64 x), hg⟩
theorem cellS83_1 {W : World} {g : Nat} {f0 : Int} {f1 : Int} (h : W.heap[g]? = some (.cells #[.int .u64 f0, .int .u64 f1] 83 (0, 0))) : W.cell? ⟨g, 1, none⟩ = some (.int .u64 f1) := (blk_cell h 1).trans rfl
theorem IsS83.set_1 {w0 W : World} {g : Nat} {f0 : Int} {f1 : Int} (h : IsS83 w0 W g f0 f1) (x : Int) : IsS83 w0 (W.setCell ⟨g, 1, none⟩ (.int .u64 x)) g f0 x := by
 obtain ⟨hb, hg⟩ := h
 exact ⟨by simpa using blk_set hb 1 (.int .u64 x), hg⟩
theorem IsS83.new (w0 W : World) (f0 : Int) (f1 : Int) (hB : Below w0.heap.size w0 W) : IsS83 w0 (W.alloc (.cells #[.int .u64 f0, .int .u64 f1] 83)) W.heap.size f0 f1 := ⟨by simpa using heap_alloc_new W _, hB.size⟩
def cippuskit_Urn_turn.f (s0_0 : Int) (s0_1 : Int) : Option (Int × Int × Int) := if (Go.bits .or .u64 s0_1 (Go.bits .xor .u64 (Go.bits .xor .u64 (Go.bits .xor .u64 (Go.bits .xor .u64 s0_0 (IntKind.u64.wrap (s0_0 * 8388608))) s0_1) ((Go.bits .xor .u64 s0_0 (IntKind.u64.wrap (s0_0 * 8388608))) / 131072)) (s0_1 / 67108864))) = 0 then (some (IntKind.u64.wrap (1 + s0_1), s0_1, 1)) else (some (IntKind.u64.wrap ((Go.bits .xor .u64 (Go.bits .xor .u64 (Go.bits .xor .u64 (Go.bits .xor .u64 s0_0 (IntKind.u64.wrap (s0_0 * 8388608))) s0_1) ((Go.bits .xor .u64 s0_0 (IntKind.u64.wrap (s0_0 * 8388608))) / 131072)) (s0_1 / 67108864)) + s0_1), s0_1, Go.bits .xor .u64 (Go.bits .xor .u64 (Go.bits .xor .u64 (Go.bits .xor .u64 s0_0 (IntKind.u64.wrap (s0_0 * 8388608))) s0_1) ((Go.bits .xor .u64 s0_0 (IntKind.u64.wrap (s0_0 * 8388608))) / 131072)) (s0_1 / 67108864)))
set_option maxHeartbeats 8000000 in
set_option maxRecDepth 100000 in
theorem cippuskit_Urn_turn.calls (g : Nat) (s0_0 : Int) (s0_1 : Int) (r1 : Int) (r2 : Int) (r3 : Int) (w0 w : World) (hI : IsS83 w0 w g s0_0 s0_1) (hB : Below w0.heap.size w0 w) (h : cippuskit_Urn_turn.f s0_0 s0_1 = some (r1, r2, r3)) :
  Calls Try.prog 41 #[.pointer (some ⟨g, 0, none⟩)] w fun e w' => e = .returned (.int .u64 r1) ∧ IsS83 w0 w' g r2 r3 ∧ Below w0.heap.size w0 w' ∧ KeepBut w w' g none := by
 have HI0 := Aside0.mk hI
 have HK := Aside0.mk (KeepBut.refl w g none)
 have HL := Aside0.mk hB.size
 clear hI
 have HW0 := Aside0.mk hB.size
 have HB := Aside0.mk hB
 clear hB
 have H : (if (Go.bits .or .u64 s0_1 (Go.bits .xor .u64 (Go.bits .xor .u64 (Go.bits .xor .u64 (Go.bits .xor .u64 s0_0 (IntKind.u64.wrap (s0_0 * 8388608))) s0_1) ((Go.bits .xor .u64 s0_0 (IntKind.u64.wrap (s0_0 * 8388608))) / 131072)) (s0_1 / 67108864))) = 0 then (some (IntKind.u64.wrap (1 + s0_1), s0_1, 1)) else (some (IntKind.u64.wrap ((Go.bits .xor .u64 (Go.bits .xor .u64 (Go.bits .xor .u64 (Go.bits .xor .u64 s0_0 (IntKind.u64.wrap (s0_0 * 8388608))) s0_1) ((Go.bits .xor .u64 s0_0 (IntKind.u64.wrap (s0_0 * 8388608))) / 131072)) (s0_1 / 67108864)) + s0_1), s0_1, Go.bits .xor .u64 (Go.bits .xor .u64 (Go.bits .xor .u64 (Go.bits .xor .u64 s0_0 (IntKind.u64.wrap (s0_0 * 8388608))) s0_1) ((Go.bits .xor .u64 s0_0 (IntKind.u64.wrap (s0_0 * 8388608))) / 131072)) (s0_1 / 67108864)))) = some (r1, r2, r3) := h
 clear h
 by_cases c2 : (Go.bits .or .u64 s0_1 (Go.bits .xor .u64 (Go.bits .xor .u64 (Go.bits .xor .u64 (Go.bits .xor .u64 s0_0 (IntKind.u64.wrap (s0_0 * 8388608))) s0_1) ((Go.bits .xor .u64 s0_0 (IntKind.u64.wrap (s0_0 * 8388608))) / 131072)) (s0_1 / 67108864))) = 0
 ·rw [if_pos c2] at H
  have c2b0 : ((Go.bits .or .u64 s0_1 (Go.bits .xor .u64 (Go.bits .xor .u64 (Go.bits .xor .u64 (Go.bits .xor .u64 s0_0 (IntKind.u64.wrap (s0_0 * 8388608))) s0_1) ((Go.bits .xor .u64 s0_0 (IntKind.u64.wrap (s0_0 * 8388608))) / 131072)) (s0_1 / 67108864))) == 0) = true := beq_iff_eq.mpr c2
  have c2b1 : ((Go.bits .or .u64 s0_1 (Go.bits .xor .u64 (Go.bits .xor .u64 (Go.bits .xor .u64 (Go.bits .xor .u64 s0_0 (IntKind.u64.wrap (s0_0 * 8388608))) s0_1) ((Go.bits .xor .u64 s0_0 (IntKind.u64.wrap (s0_0 * 8388608))) / 131072)) (s0_1 / 67108864))) != 0) = false := bne_eq_false_iff_eq.mpr c2
  clear c2
  simp only [Option.some.injEq, Prod.mk.injEq] at H
  obtain ⟨rfl, rfl, rfl⟩ := H
  obtain ⟨HGz3, hgz3⟩ := HI0.out
  have hcz3_0 := cellS83_0 HGz3
  have hcz3_1 := cellS83_1 HGz3
  have hfz3_0 := blk_frozen HGz3 0
  have hfz3_1 := blk_frozen HGz3 1
  clear HGz3 hgz3
  go_enter Try.func41, Try.ntmps41
  go_wp2
  repeat (go_quiet (fail); try go_wp2)
  go_ret
  exact ⟨by first | rfl | (simp [errW_none, errW_some] <;> rfl) | (simp [*, errW_none, errW_some] <;> rfl), by repeat (first | (with_reducible first | exact HI0.out | apply IsS83.alloc | apply IsS83.drewN | apply IsS83.drew | apply IsS83.set_0 | apply IsS83.set_1) | exact HI0.out), by repeat (first | (with_reducible first | exact HB.out | apply below_alloc | apply pw_below_drewN | apply below_drew1 | refine below_set ?_ (IsS83.ge HI0.out)) | exact HB.out), by repeat (first | (with_reducible first | exact HK.out | apply KeepBut.set_ | apply keep_drewN | apply keep_drew | apply keep_alloc) | exact HK.out)⟩
 ·rw [if_neg c2] at H
  have c2b0 : ((Go.bits .or .u64 s0_1 (Go.bits .xor .u64 (Go.bits .xor .u64 (Go.bits .xor .u64 (Go.bits .xor .u64 s0_0 (IntKind.u64.wrap (s0_0 * 8388608))) s0_1) ((Go.bits .xor .u64 s0_0 (IntKind.u64.wrap (s0_0 * 8388608))) / 131072)) (s0_1 / 67108864))) == 0) = false := beq_eq_false_iff_ne.mpr c2
  have c2b1 : ((Go.bits .or .u64 s0_1 (Go.bits .xor .u64 (Go.bits .xor .u64 (Go.bits .xor .u64 (Go.bits .xor .u64 s0_0 (IntKind.u64.wrap (s0_0 * 8388608))) s0_1) ((Go.bits .xor .u64 s0_0 (IntKind.u64.wrap (s0_0 * 8388608))) / 131072)) (s0_1 / 67108864))) != 0) = true := bne_iff_ne.mpr c2
  simp only [Option.some.injEq, Prod.mk.injEq] at H
  obtain ⟨rfl, rfl, rfl⟩ := H
  obtain ⟨HGz4, hgz4⟩ := HI0.out
  have hcz4_0 := cellS83_0 HGz4
  have hcz4_1 := cellS83_1 HGz4
  have hfz4_0 := blk_frozen HGz4 0
  have hfz4_1 := blk_frozen HGz4 1
  clear HGz4 hgz4
  go_enter Try.func41, Try.ntmps41
  go_wp2
  repeat (go_quiet (fail); try go_wp2)
  go_ret
  exact ⟨by first | rfl | (simp [errW_none, errW_some] <;> rfl) | (simp [*, errW_none, errW_some] <;> rfl), by repeat (first | (with_reducible first | exact HI0.out | apply IsS83.alloc | apply IsS83.drewN | apply IsS83.drew | apply IsS83.set_0 | apply IsS83.set_1) | exact HI0.out), by repeat (first | (with_reducible first | exact HB.out | apply below_alloc | apply pw_below_drewN | apply below_drew1 | refine below_set ?_ (IsS83.ge HI0.out)) | exact HB.out), by repeat (first | (with_reducible first | exact HK.out | apply KeepBut.set_ | apply keep_drewN | apply keep_drew | apply keep_alloc) | exact HK.out)⟩
end Go.Proofs.Ytkfebceainedfaa.P
namespace Go.Proofs.Ytkfebceainedfaa.P.OwnUrn
open Go.RowKit Go.Proofs.YtkfebceainedfaaW.PrintWords Go.Proofs.YtkfebceainedfaaW.PrintLast Go.Proofs.YtkfebceainedfaaW.PrintMore
def urnGo : List Int → Int → Int → Option (Int × Int)
 | [], a, b => some (a, b)
 | x :: xs, a, b => (cippuskit_Urn_turn.f a (IntKind.u64.wrap (b + IntKind.u64.wrap x))).bind fun t => (cippuskit_Urn_turn.f t.2.1 t.2.2).bind fun t2 => urnGo xs t2.2.1 t2.2.2
def newUrn (l : List Int) : Option (Int × Int) := if l.length < 4611686018427387904 then urnGo l 11400714819323198485 14029467366897019727 else none
end Go.Proofs.Ytkfebceainedfaa.P.OwnUrn
namespace Go.Proofs.Ytkfebceainedfaa.P.OwnUrn
open Go.RowKit Go.Proofs.YtkfebceainedfaaW.PrintWords Go.Proofs.YtkfebceainedfaaW.PrintLast Go.Proofs.YtkfebceainedfaaW.PrintMore
set_option linter.unusedVariables false
theorem below_of_keep {w0 w W W' : World} {g : Nat} (h0 : Below w0.heap.size w0 w) (h1 : Below w0.heap.size w0 W') (hw : Below w.heap.size w W) (hk : KeepBut W W' g none) (hg : w.heap.size ≤ g) : Below w.heap.size w W' :=
 ⟨h1.os.trans h0.os.symm, h1.tape.trans h0.tape.symm, h1.output.trans h0.output.symm, Nat.le_trans hw.size hk.1, fun k hk' => (hk.2 k (Nat.lt_of_lt_of_le hk' hw.size) (by omega) (by simp)).trans (hw.block k hk')⟩
def RelNew (w0 w : World) (l0 : List Int) (r1 r2 : Int) (k : Nat) (wr : World) : Prop :=
 ∃ a b : Int, IsS83 w0 wr w.heap.size a b ∧ Below w0.heap.size w0 wr ∧ Below w.heap.size w wr ∧ urnGo (l0.drop k) a b = some (r1, r2)
set_option maxHeartbeats 4000000 in
set_option maxRecDepth 100000 in
theorem newUrn_calls (A0 : Option Addr) (c0 : Nat) (l0 : List Int) (r1 : Int) (r2 : Int) (w0 w : World) (hB : Below w0.heap.size w0 w) (hr0 : Kd.C (Kd.int .i64) w0 A0 l0.length l0) (hc0 : l0.length ≤ c0) (h : newUrn l0 = some (r1, r2)) :
  Calls Try.prog 12 #[.slice A0 l0.length c0] w fun e w' => ∃ g_ : Nat, e = .returned (.pointer (some ⟨g_, 0, none⟩)) ∧ IsS83 w0 w' g_ r1 r2 ∧ Below w0.heap.size w0 w' ∧ Below w.heap.size w w' := by
 have hlen : l0.length < 4611686018427387904 := by
  unfold newUrn at h
  split at h
  ·assumption
  ·cases h
 rw [newUrn, if_pos hlen] at h
 have H := Lib.hid h; clear h
 have HB := Aside0.mk hB; clear hB
 have HR := Aside0.mk hr0; clear hr0
 go_enter Try.func12, Try.ntmps12
 go_wp2
 go_loopw [4] (fun v wr => ∃ k : Nat, v = .int .i64 k ∧ k ≤ l0.length ∧ RelNew w0 w l0 r1 r2 k wr) (fun v _ => l0.length - (intOf v).toNat)
 case atStart =>
  refine ⟨0, rfl, Nat.zero_le _, _, _, IsS83.new w0 w _ _ HB.out, ?_, ?_, H.out⟩
  ·exact HB.out.alloc HB.out.size _
  ·exact (Below.refl _ _).alloc (Nat.le_refl _) _
 case round =>
  obtain ⟨k, rfl, hk, a, b, hI, hb0, hb1, hg⟩ := hrel
  by_cases hlt : k < l0.length
  ·obtain ⟨ad, e, hx⟩ := Kd.at_int HR.out (k : Int) (by omega) (by omega)
   subst e
   simp only [Int.toNat_natCast] at hx
   replace hx := (hb0.cell (World.block_lt_of_cell? w0 _ hx)).trans hx
   obtain ⟨HG, hg0⟩ := id hI
   have hc0 := cellS83_0 HG
   have hc1 := cellS83_1 HG
   have hf0 := blk_frozen HG 0
   have hf1 := blk_frozen HG 1
   have hlt' : (k : Int) < (l0.length : Int) := by omega
   have hd : l0.drop k = rd l0 k :: l0.drop (k + 1) := by rw [List.drop_eq_getElem_cons hlt]; simp [rd, List.getD_eq_getElem?_getD, hlt]
   rw [hd, urnGo, Option.bind_eq_some_iff] at hg
   obtain ⟨⟨t1, t2, t3⟩, ht, hg⟩ := hg
   rw [Option.bind_eq_some_iff] at hg
   obtain ⟨⟨u1, u2, u3⟩, hu, hg⟩ := hg
   dsimp only at hu hg
   have HT := Aside0.mk ht; clear ht
   have HU := Aside0.mk hu; clear hu
   have HG2 := Aside0.mk hg; clear hg hd
   go_wp2_with fail
   go_region
   go_wp2_with fail
   refine (cippuskit_Urn_turn.calls _ _ _ _ _ _ w0 _ ((hI.set_1 _).drew) (below_drew (below_set hb0 hg0)) HT.out).mono ?_
   rintro e w1 ⟨rfl, hI1, hB1, hK1⟩
   go_wp2_with fail
   refine (cippuskit_Urn_turn.calls _ _ _ _ _ _ w0 _ hI1 hB1 HU.out).mono ?_
   rintro e w2 ⟨rfl, hI2, hB2, hK2⟩
   go_wp2_with fail
   go_roundw
   case rel =>
    refine ⟨k + 1, by go_num, by omega, _, _, hI2, hB2, ?_, HG2.out⟩
    exact below_of_keep HB.out hB2 (below_of_keep HB.out hB1 (below_drew (below_set hb1 (Nat.le_refl _))) hK1 (Nat.le_refl _)) hK2 (Nat.le_refl _)
   case measure => simp [intOf]; omega
  ·go_wp2
   go_ret
   refine ⟨_, rfl, ?_, hb0, hb1⟩
   rw [List.drop_of_length_le (by omega)] at hg
   simp only [urnGo, Option.some.injEq, Prod.mk.injEq] at hg
   obtain ⟨rfl, rfl⟩ := hg
   exact hI
end Go.Proofs.Ytkfebceainedfaa.P.OwnUrn
namespace Go.Proofs.Ytkfebceainedfaa.P
open Go.RowKit Go.Proofs.YtkfebceainedfaaW.PrintWords Go.Proofs.YtkfebceainedfaaW.PrintLast Go.Proofs.YtkfebceainedfaaW.PrintMore
attribute [local go_sem] max2_int min2_int max_two min_two max_three min_three max_four min_four   -- for this text's walks alone
set_option linter.unusedVariables false
set_option linter.unusedSimpArgs false
def cippuskit_NewUrn.f (l0 : List Int) : Option (Int × Int) := OwnUrn.newUrn l0
theorem cippuskit_NewUrn.calls (A0 : Option Addr) (c0 : Nat) (l0 : List Int) (r1 : Int) (r2 : Int) (w0 w : World) (hB : Below w0.heap.size w0 w) (hr0 : Kd.C (Kd.int .i64) w0 A0 l0.length l0) (hc0 : l0.length ≤ c0) (h : cippuskit_NewUrn.f l0 = some (r1, r2)) :
  Calls Try.prog 12 #[.slice A0 l0.length c0] w fun e w' => ∃ g_ : Nat, e = .returned (.pointer (some ⟨g_, 0, none⟩)) ∧ IsS83 w0 w' g_ r1 r2 ∧ Below w0.heap.size w0 w' ∧ Below w.heap.size w w' := by
 exact OwnUrn.newUrn_calls A0 c0 l0 r1 r2 w0 w hB hr0 hc0 h
end Go.Proofs.Ytkfebceainedfaa.P
namespace Go.Proofs.Ytkfebceainedfaa.P
open Go.RowKit Go.Proofs.YtkfebceainedfaaW.PrintWords Go.Proofs.YtkfebceainedfaaW.PrintLast Go.Proofs.YtkfebceainedfaaW.PrintMore
theorem uk {W W' : World} {g : Nat} {o : Obj} (h : Aside0 (W.heap[g]? = some o)) (t : Aside0 (W.heap[g]? = some o) → W'.heap[g]? = some o := by intro z; (with_reducible repeat (first | refine blk_drewN ?_ _ | refine blk_drew ?_ | refine blk_alloc ?_ _)); exact z.out) : W'.heap[g]? = some o := t h
theorem uR {A P : Prop} (h : A) (t : A → P := by intro z; (with_reducible repeat (first | apply Kd.R_alloc | apply Kd.R_drewN | apply Kd.R_drew)); exact z.out) : P := t h
theorem uB {n : Nat} {w W W' : World} (h : Aside0 (Below n w W)) (t : Aside0 (Below n w W) → Below n w W' := by intro z; repeat (first | (with_reducible first | exact z.out | apply below_alloc | apply pw_below_drewN | apply below_drew1 | refine below_set ?_ (Aside0.out (by assumption)) | refine below_set ?_ (IsS83.ge (Aside0.out (by assumption)))) | exact z.out)) : Below n w W' := t h
theorem uK {w W W' : World} {g : Nat} {row : Option Nat} (h : Aside0 (KeepBut w W g row)) (t : Aside0 (KeepBut w W g row) → KeepBut w W' g row := by intro z; repeat (first | (with_reducible first | exact z.out | apply KeepBut.set_ | apply keep_drewN | apply keep_drew | apply keep_alloc | refine keep_far ?_ (Aside0.out (by assumption)) _) | exact z.out)) : KeepBut w W' g row := t h
theorem uI {w0 W W' : World} {g : Nat} {f0 f1 x0 x1 : Int} (h : Aside0 (IsS83 w0 W g f0 f1)) (t : Aside0 (IsS83 w0 W g f0 f1) → IsS83 w0 W' g x0 x1 := by intro z; repeat (first | (with_reducible first | exact z.out | apply IsS83.alloc | apply IsS83.drewN | apply IsS83.drew | apply IsS83.set_0 | apply IsS83.set_1 | refine IsS83.far ?_ (Aside0.out (by assumption)) _) | exact z.out)) : IsS83 w0 W' g x0 x1 := t h
theorem uD {A P : Prop} (h : A) (t : A → P := by intro z; repeat (first | exact z | (with_reducible refine Kd.C_alloc ?_ _) | (with_reducible refine Kd.C_drewN ?_ _) | (with_reducible refine Kd.C_drew ?_))) : P := t h
theorem uc {w : World} {g t : Nat} {cs : Array Value} {v : Value} (h : Aside0 (w.heap[g]? = some (.cells cs t (0, 0)))) (i : Nat) (e : cs[i]? = some v := by rfl) : w.cell? ⟨g, i, none⟩ = some v := (blk_cell h.out i).trans e
theorem uA {P : Prop} (h : P := by (try simp only [List.map_toArray, List.map_cons, List.map_nil]); first | done | rfl | (simp only [List.length_drop, List.length_take]; rfl)) : P := h
theorem uS {P : Prop} (h : P := by first | rfl | (simp; done) | (simp [*]; done)) : P := h
theorem uE {P : Prop} (h : P := by first | rfl | (simp [errW_none, errW_some] <;> rfl) | (simp [*, errW_none, errW_some] <;> rfl)) : P := h
abbrev tt : Bool := true
abbrev ff : Bool := false
theorem uP {P : Prop} (h : P := by simp only [Act.put, List.setIfInBounds_toArray, List.set_cons_zero, List.set_cons_succ, i64_w, i32_w]; rfl) : P := h
theorem ua {P : Prop} (h : P := by first | (with_reducible assumption) | assumption) : P := h
end Go.Proofs.Ytkfebceainedfaa.P
namespace Go.Proofs.Ytkfebceainedfaa.P
open Go.RowKit Go.Proofs.YtkfebceainedfaaW.PrintWords Go.Proofs.YtkfebceainedfaaW.PrintLast Go.Proofs.YtkfebceainedfaaW.PrintMore
attribute [local go_sem] max2_int min2_int max_two min_two max_three min_three max_four min_four   -- for this text's walks alone
set_option linter.unusedVariables false
set_option linter.unusedSimpArgs false
def cippuskit_SameInts.l0 : Nat → List Int → List Int → Bool → Int → Option (Bool)
 | 0, _, _, _, _ => none
 | k + 1, x0, x1, x5, x6 => if x5 = true then (if x6 < (x0.length : Int) then (if 0 ≤ x6 then (if x6 < (x1.length : Int) then (cippuskit_SameInts.l0 k x0 x1 ((rd x0 x6) == (rd x1 x6)) (wrap64 (x6 + 1))) else (none)) else (none)) else (some x5)) else (some x5)
def cippuskit_SameInts.f (k : Nat) (l0 : List Int) (l1 : List Int) : Option (Bool) := cippuskit_SameInts.l0 k l0 l1 ((l0.length : Int) == (l1.length : Int)) 0
theorem cippuskit_SameInts.mono_l : ∀ k, (∀ y0 y1 y2 y3, LeO (cippuskit_SameInts.l0 k y0 y1 y2 y3) (cippuskit_SameInts.l0 (k + 1) y0 y1 y2 y3))
 | 0 => fun _ _ _ _ r h => by simp [cippuskit_SameInts.l0] at h
 | k + 1 => by
  have ih0 := cippuskit_SameInts.mono_l k
  ·intro y0 y1 y2 y3
   unfold cippuskit_SameInts.l0
   repeat' first
   | (with_reducible exact ih0 _ _ _ _)
   | (with_reducible exact LeO.refl _)
   | (with_reducible exact LeO.none _)
   | (with_reducible refine LeO.ite ?_ ?_)
   | (with_reducible refine LeO.bind ?_ (fun _ => ?_))
   | exact ih0 _ _ _ _
   | exact LeO.none _
   | refine LeO.ite ?_ ?_
   | refine LeO.bind ?_ (fun _ => ?_)
theorem cippuskit_SameInts.mono : ∀ a0 a1 k, LeO (cippuskit_SameInts.f k a0 a1) (cippuskit_SameInts.f (k + 1) a0 a1) := by
 intro a0 a1 k
 have ih0 := cippuskit_SameInts.mono_l k
 unfold cippuskit_SameInts.f
 repeat' first
   | (with_reducible exact ih0 _ _ _ _)
   | (with_reducible exact LeO.refl _)
   | (with_reducible exact LeO.none _)
   | (with_reducible refine LeO.ite ?_ ?_)
   | (with_reducible refine LeO.bind ?_ (fun _ => ?_))
   | exact ih0 _ _ _ _
   | exact LeO.none _
   | refine LeO.ite ?_ ?_
   | refine LeO.bind ?_ (fun _ => ?_)
set_option maxHeartbeats 8000000 in
set_option maxRecDepth 100000 in
theorem cippuskit_SameInts.calls (k : Nat) (A0 : Option Addr) (c0 : Nat) (l0 : List Int) (A1 : Option Addr) (c1 : Nat) (l1 : List Int) (r : Bool) (w : World) (hr0 : Kd.C (Kd.int .i64) w A0 l0.length l0) (hc0 : l0.length ≤ c0) (hr1 : Kd.C (Kd.int .i64) w A1 l1.length l1) (hc1 : l1.length ≤ c1) (h : cippuskit_SameInts.f k l0 l1 = some r) :
  Calls Try.prog 55 #[.slice A0 l0.length c0, .slice A1 l1.length c1] w fun e w' => e = .returned (.bool r) ∧ Drawn0 w w' := by
 have HR0 := Aside0.mk hr0
 have HC0 := Aside0.mk hc0
 clear hr0 hc0
 have HR1 := Aside0.mk hr1
 have HC1 := Aside0.mk hc1
 clear hr1 hc1
 have H : (cippuskit_SameInts.l0 k l0 l1 ((l0.length : Int) == (l1.length : Int)) 0) = some r := h
 clear h
 have H' := Aside0.mk H
 clear H
 go_enter Try.func55, Try.ntmps55
 go_wp2
 repeat (go_quiet (fail); try go_wp2)
 go_loopg [5, 6] k (fun kq v5 v6 w' => ∃ (x5_1 : Bool) (x6_1 : Int), v5 = .bool x5_1 ∧ v6 = .int .i64 x6_1 ∧ Aside0 (cippuskit_SameInts.l0 kq l0 l1 x5_1 x6_1 = some r) ∧ Aside0 (kq ≤ k) ∧ Drawn0 w w')
 case atStart => exact ⟨(((l0.length : Int) == (l1.length : Int))), (0), uS, uS, H', ⟨Nat.le_refl _⟩, by repeat (first | exact Drawn0.refl _ | apply Drawn0.step)⟩
 case round =>
  clear H'
  try clear c1
  try clear p2
  obtain ⟨x5_1, x6_1, rfl, rfl, HA, HK1, ⟨m1, rfl⟩⟩ := hrel
  cases gk with
  | zero => exact absurd HA.out (by simp [cippuskit_SameInts.l0])
  | succ k1 =>
   have H := HA.out
   clear HA
   simp only [cippuskit_SameInts.l0] at H
   by_cases c3 : x5_1 = true
   ·subst c3
    have H1 : (if x6_1 < (l0.length : Int) then (if 0 ≤ x6_1 then (if x6_1 < (l1.length : Int) then (cippuskit_SameInts.l0 k1 l0 l1 ((rd l0 x6_1) == (rd l1 x6_1)) (wrap64 (x6_1 + 1))) else (none)) else (none)) else (some true)) = some r := by rw [if_pos rfl] at H; exact H
    clear H
    have H := H1
    clear H1
    by_cases c4 : x6_1 < (l0.length : Int)
    ·rw [if_pos c4] at H
     have c4b0 : decide (x6_1 < (l0.length : Int)) = true := decide_eq_true c4
     clear c4
     by_cases c5 : 0 ≤ x6_1
     ·rw [if_pos c5] at H
      have c5b0 : decide (0 ≤ x6_1) = true := decide_eq_true c5
      clear c5
      by_cases c6 : x6_1 < (l1.length : Int)
      ·rw [if_pos c6] at H
       have c6b0 : decide (x6_1 < (l1.length : Int)) = true := decide_eq_true c6
       clear c6
       have H' := Aside0.mk H
       clear H
       have p339 : 0 ≤ (x6_1 : Int) := of_decide_eq_true ua
       have q339 : x6_1 < (l0.length : Int) := of_decide_eq_true ua
       obtain ⟨ad339, e339, hx339_0⟩ := Kd.at_int HR0.out x6_1 p339 q339
       cases e339
       replace p339 := eq_true p339
       replace q339 := eq_true q339
       have p340 : 0 ≤ (x6_1 : Int) := of_decide_eq_true ua
       have q340 : x6_1 < (l1.length : Int) := of_decide_eq_true ua
       obtain ⟨ad340, e340, hx340_0⟩ := Kd.at_int HR1.out x6_1 p340 q340
       cases e340
       replace p340 := eq_true p340
       replace q340 := eq_true q340
       go_wp2
       repeat (go_quiet (fail); try go_wp2)
       go_roundg k1
       case measure => have := HK1.out; omega
       case rel => exact ⟨(((rd l0 x6_1) == (rd l1 x6_1))), (wrap64 (x6_1 + 1)), uS, uS, H', ⟨by have := HK1.out; omega⟩, by repeat (first | exact Drawn0.refl _ | apply Drawn0.step)⟩
      ·rw [if_neg c6] at H
       exact absurd H (by simp)
     ·rw [if_neg c5] at H
      exact absurd H (by simp)
    ·rw [if_neg c4] at H
     have c4b0 : decide (x6_1 < (l0.length : Int)) = false := decide_eq_false c4
     clear c4
     obtain rfl := Option.some.inj H
     go_wp2
     repeat (go_quiet (fail); try go_wp2)
     go_ret
     exact ⟨by first | rfl | (simp; done) | (simp [*]; done), by repeat (first | exact Drawn0.refl _ | apply Drawn0.step)⟩
   ·replace c3 := Bool.eq_false_iff.mpr c3
    subst c3
    have H1 : (some false) = some r := by rw [if_neg (show ¬ (false = true) by decide)] at H; exact H
    clear H
    have H := H1
    clear H1
    obtain rfl := Option.some.inj H
    go_wp2
    repeat (go_quiet (fail); try go_wp2)
    go_ret
    exact ⟨by first | rfl | (simp; done) | (simp [*]; done), by repeat (first | exact Drawn0.refl _ | apply Drawn0.step)⟩
end Go.Proofs.Ytkfebceainedfaa.P
namespace Go.Proofs.Ytkfebceainedfaa.P
open Go.RowKit Go.Proofs.YtkfebceainedfaaW.PrintWords Go.Proofs.YtkfebceainedfaaW.PrintLast Go.Proofs.YtkfebceainedfaaW.PrintMore
attribute [local go_sem] max2_int min2_int max_two min_two max_three min_three max_four min_four   -- for this text's walks alone
set_option linter.unusedVariables false
set_option linter.unusedSimpArgs false
def cippuskit_SameFilling.f (k : Nat) (l0_0 : List Int) (l0_1 : List Int) (l1_0 : List Int) (l1_1 : List Int) : Option (Bool) := (cippuskit_SameInts.f k l0_0 l1_0).bind fun t343 => (if t343 = true then ((cippuskit_SameInts.f k l0_1 l1_1).bind fun t344 => (some t344)) else (some false))
set_option maxHeartbeats 8000000 in
set_option maxRecDepth 100000 in
theorem cippuskit_SameFilling.calls (k : Nat) (A0_0 : Option Addr) (c0_0 : Nat) (l0_0 : List Int) (A0_1 : Option Addr) (c0_1 : Nat) (l0_1 : List Int) (A1_0 : Option Addr) (c1_0 : Nat) (l1_0 : List Int) (A1_1 : Option Addr) (c1_1 : Nat) (l1_1 : List Int) (r : Bool) (w : World) (hr0_0 : Kd.C (Kd.int .i64) w A0_0 l0_0.length l0_0) (hc0_0 : l0_0.length ≤ c0_0) (hr0_1 : Kd.C (Kd.int .i64) w A0_1 l0_1.length l0_1) (hc0_1 : l0_1.length ≤ c0_1) (hr1_0 : Kd.C (Kd.int .i64) w A1_0 l1_0.length l1_0) (hc1_0 : l1_0.length ≤ c1_0) (hr1_1 : Kd.C (Kd.int .i64) w A1_1 l1_1.length l1_1) (hc1_1 : l1_1.length ≤ c1_1) (h : cippuskit_SameFilling.f k l0_0 l0_1 l1_0 l1_1 = some r) :
  Calls Try.prog 35 #[.agg #[.slice A0_0 l0_0.length c0_0, .slice A0_1 l0_1.length c0_1], .agg #[.slice A1_0 l1_0.length c1_0, .slice A1_1 l1_1.length c1_1]] w fun e w' => e = .returned (.bool r) ∧ Below w.heap.size w w' := by
 have hu31 := Try.underlying31
 have HR0_0 := Aside0.mk hr0_0
 have HC0_0 := Aside0.mk hc0_0
 clear hr0_0 hc0_0
 have HR0_1 := Aside0.mk hr0_1
 have HC0_1 := Aside0.mk hc0_1
 clear hr0_1 hc0_1
 have HR1_0 := Aside0.mk hr1_0
 have HC1_0 := Aside0.mk hc1_0
 clear hr1_0 hc1_0
 have HR1_1 := Aside0.mk hr1_1
 have HC1_1 := Aside0.mk hc1_1
 clear hr1_1 hc1_1
 have HB := Aside0.mk (Below.refl w.heap.size w)
 have H : ((cippuskit_SameInts.f k l0_0 l1_0).bind fun t343 => (if t343 = true then ((cippuskit_SameInts.f k l0_1 l1_1).bind fun t344 => (some t344)) else (some false))) = some r := h
 clear h
 replace H := Option.bind_eq_some_iff.mp H
 obtain ⟨t343, A30, H⟩ := H
 replace H : (if t343 = true then ((cippuskit_SameInts.f k l0_1 l1_1).bind fun t344 => (some t344)) else (some false)) = some r := H
 have A3 := Aside0.mk A30
 clear A30
 by_cases c4 : t343 = true
 ·subst c4
  have H1 : ((cippuskit_SameInts.f k l0_1 l1_1).bind fun t344 => (some t344)) = some r := by rw [if_pos rfl] at H; exact H
  clear H
  have H := H1
  clear H1
  replace H := Option.bind_eq_some_iff.mp H
  obtain ⟨t344, A50, H⟩ := H
  replace H : (some t344) = some r := H
  have A5 := Aside0.mk A50
  clear A50
  obtain rfl := Option.some.inj H
  go_enter Try.func35, Try.ntmps35
  go_wp2_with (first | ((with_reducible refine gate_dst (N := 2) rfl ?_); refine box_event ?hg (N := 2) ?hd (cs := #[.slice A0_0 l0_0.length c0_0, .slice A0_1 l0_1.length c0_1]) (t := 31) ?hr ?_; (case hd => rfl); (case hg => rfl); (case hr => first | (go_simp; done) | (go_simp; rfl)); intro gb341 hg w6 hbox hb; have BK341 := Aside0.mk (hbox); have GW341 := Aside0.mk ((by rw [hg]; exact (below_size (uB HB)) : w.heap.size ≤ gb341)); have GE341 := Aside0.mk ((by rw [hg]; exact (below_size (uB HB)) : w.heap.size ≤ gb341)); replace HB := Aside0.mk (below_step (uB HB) hb); clear hb hbox hg) | ((with_reducible refine gate_dst (N := 3) rfl ?_); refine box_event ?hg (N := 3) ?hd (cs := #[.slice A1_0 l1_0.length c1_0, .slice A1_1 l1_1.length c1_1]) (t := 31) ?hr ?_; (case hd => rfl); (case hg => rfl); (case hr => first | (go_simp; done) | (go_simp; rfl)); intro gb342 hg w7 hbox hb; have BK342 := Aside0.mk (hbox); have GW342 := Aside0.mk ((by rw [hg]; exact (below_size (uB HB)) : w.heap.size ≤ gb342)); have GE342 := Aside0.mk ((by rw [hg]; exact (below_size (uB HB)) : w.heap.size ≤ gb342)); have NB341_342 := Aside0.mk ((by rw [hg]; exact Nat.ne_of_lt (blk_lt (uk BK341)) : gb341 ≠ gb342)); have NB342_341 := Aside0.mk ((by rw [hg]; exact Nat.ne_of_gt (blk_lt (uk BK341)) : gb342 ≠ gb341)); replace BK341 := Aside0.mk (blk_below (uk BK341) hb); replace HB := Aside0.mk (below_step (uB HB) hb); clear hb hbox hg; have hnb8 := NB341_342.out; have hnc8 := NB342_341.out; have hcz9_0 := uc (w := w7) BK341 0; have hcz9_1 := uc (w := w7) BK341 1; have hfz9_0 := blk_frozen BK341.out 0; have hfz9_1 := blk_frozen BK341.out 1; have hcz10_0 := uc (w := w7) BK342 0; have hcz10_1 := uc (w := w7) BK342 1; have hfz10_0 := blk_frozen BK342.out 0; have hfz10_1 := blk_frozen BK342.out 1) | ((with_reducible refine gate_callee (f := 55) rfl ?_); refine goesL_ (some 9) rfl rfl Try.func55 (by kernel_rfl) rfl #[.slice A0_0 l0_0.length c0_0, .slice A1_0 l1_0.length c1_0] rfl uA ?_; (with_reducible refine (cippuskit_SameInts.calls k _ _ l0_0 _ _ l1_0 true _ ?side1 ?side2 ?side3 ?side4 A3.out).mono ?_); (case side1 => exact uD (Kd.C_below HR0_0.out HB.out)); (case side2 => exact HC0_0.out); (case side3 => exact uD (Kd.C_below HR1_0.out HB.out)); (case side4 => exact HC1_0.out); rintro e w' ⟨rfl, ⟨nd, rfl⟩⟩; refine ⟨_, rfl, ?_⟩) | (go_at_call 55; (with_reducible refine (cippuskit_SameInts.calls k _ _ l0_1 _ _ l1_1 t344 _ ?side1 ?side2 ?side3 ?side4 A5.out).mono ?_); (case side1 => exact uD (Kd.C_below HR0_1.out (uB HB))); (case side2 => exact HC0_1.out); (case side3 => exact uD (Kd.C_below HR1_1.out (uB HB))); (case side4 => exact HC1_1.out); rintro e w' ⟨rfl, ⟨nd, rfl⟩⟩))
  go_ret
  exact ⟨uE, uB HB⟩
 ·replace c4 := Bool.eq_false_iff.mpr c4
  subst c4
  have H1 : (some false) = some r := by rw [if_neg (show ¬ (false = true) by decide)] at H; exact H
  clear H
  have H := H1
  clear H1
  obtain rfl := Option.some.inj H
  go_enter Try.func35, Try.ntmps35
  go_wp2_with (first | ((with_reducible refine gate_dst (N := 2) rfl ?_); refine box_event ?hg (N := 2) ?hd (cs := #[.slice A0_0 l0_0.length c0_0, .slice A0_1 l0_1.length c0_1]) (t := 31) ?hr ?_; (case hd => rfl); (case hg => rfl); (case hr => first | (go_simp; done) | (go_simp; rfl)); intro gb341 hg w11 hbox hb; have BK341 := Aside0.mk (hbox); have GW341 := Aside0.mk ((by rw [hg]; exact (below_size (uB HB)) : w.heap.size ≤ gb341)); have GE341 := Aside0.mk ((by rw [hg]; exact (below_size (uB HB)) : w.heap.size ≤ gb341)); replace HB := Aside0.mk (below_step (uB HB) hb); clear hb hbox hg) | ((with_reducible refine gate_dst (N := 3) rfl ?_); refine box_event ?hg (N := 3) ?hd (cs := #[.slice A1_0 l1_0.length c1_0, .slice A1_1 l1_1.length c1_1]) (t := 31) ?hr ?_; (case hd => rfl); (case hg => rfl); (case hr => first | (go_simp; done) | (go_simp; rfl)); intro gb342 hg w12 hbox hb; have BK342 := Aside0.mk (hbox); have GW342 := Aside0.mk ((by rw [hg]; exact (below_size (uB HB)) : w.heap.size ≤ gb342)); have GE342 := Aside0.mk ((by rw [hg]; exact (below_size (uB HB)) : w.heap.size ≤ gb342)); have NB341_342 := Aside0.mk ((by rw [hg]; exact Nat.ne_of_lt (blk_lt (uk BK341)) : gb341 ≠ gb342)); have NB342_341 := Aside0.mk ((by rw [hg]; exact Nat.ne_of_gt (blk_lt (uk BK341)) : gb342 ≠ gb341)); replace BK341 := Aside0.mk (blk_below (uk BK341) hb); replace HB := Aside0.mk (below_step (uB HB) hb); clear hb hbox hg; have hnb13 := NB341_342.out; have hnc13 := NB342_341.out; have hcz14_0 := uc (w := w12) BK341 0; have hcz14_1 := uc (w := w12) BK341 1; have hfz14_0 := blk_frozen BK341.out 0; have hfz14_1 := blk_frozen BK341.out 1; have hcz15_0 := uc (w := w12) BK342 0; have hcz15_1 := uc (w := w12) BK342 1; have hfz15_0 := blk_frozen BK342.out 0; have hfz15_1 := blk_frozen BK342.out 1) | ((with_reducible refine gate_callee (f := 55) rfl ?_); refine goesL_ (some 9) rfl rfl Try.func55 (by kernel_rfl) rfl #[.slice A0_0 l0_0.length c0_0, .slice A1_0 l1_0.length c1_0] rfl uA ?_; (with_reducible refine (cippuskit_SameInts.calls k _ _ l0_0 _ _ l1_0 false _ ?side1 ?side2 ?side3 ?side4 A3.out).mono ?_); (case side1 => exact uD (Kd.C_below HR0_0.out HB.out)); (case side2 => exact HC0_0.out); (case side3 => exact uD (Kd.C_below HR1_0.out HB.out)); (case side4 => exact HC1_0.out); rintro e w' ⟨rfl, ⟨nd, rfl⟩⟩; refine ⟨_, rfl, ?_⟩))
  go_ret
  exact ⟨uE, uB HB⟩
end Go.Proofs.Ytkfebceainedfaa.P
namespace Go.Proofs.Ytkfebceainedfaa.P
open Go.RowKit Go.Proofs.YtkfebceainedfaaW.PrintWords Go.Proofs.YtkfebceainedfaaW.PrintLast Go.Proofs.YtkfebceainedfaaW.PrintMore
attribute [local go_sem] max2_int min2_int max_two min_two max_three min_three max_four min_four   -- for this text's walks alone
set_option linter.unusedVariables false
set_option linter.unusedSimpArgs false
def cippuslaw02_has.l0 : Nat → List (S31) → Int → List Int → List Int → Option (Bool)
 | 0, _, _, _, _ => none
 | k + 1, x0, x5, x524000, x524001 => if x5 < (x0.length : Int) then (if 0 ≤ x5 then ((cippuskit_SameFilling.f k ((rd_T31 x0 x5).f0) ((rd_T31 x0 x5).f1) x524000 x524001).bind fun t525 => (if t525 = true then (some true) else (cippuslaw02_has.l0 k x0 (wrap64 (x5 + 1)) x524000 x524001))) else (none)) else (some false)
def cippuslaw02_has.f (k : Nat) (l0 : List (S31)) (l1_0 : List Int) (l1_1 : List Int) : Option (Bool) := cippuslaw02_has.l0 k l0 0 l1_0 l1_1
set_option maxHeartbeats 8000000 in
set_option maxRecDepth 100000 in
theorem cippuslaw02_has.calls (k : Nat) (A0 : Option Addr) (c0 : Nat) (l0 : List (S31)) (A1_0 : Option Addr) (c1_0 : Nat) (l1_0 : List Int) (A1_1 : Option Addr) (c1_1 : Nat) (l1_1 : List Int) (r : Bool) (w : World) (hr0 : Kd.C k31 w A0 l0.length l0) (hc0 : l0.length ≤ c0) (hr1_0 : Kd.C (Kd.int .i64) w A1_0 l1_0.length l1_0) (hc1_0 : l1_0.length ≤ c1_0) (hr1_1 : Kd.C (Kd.int .i64) w A1_1 l1_1.length l1_1) (hc1_1 : l1_1.length ≤ c1_1) (h : cippuslaw02_has.f k l0 l1_0 l1_1 = some r) :
  Calls Try.prog 16 #[.slice A0 l0.length c0, .agg #[.slice A1_0 l1_0.length c1_0, .slice A1_1 l1_1.length c1_1]] w fun e w' => e = .returned (.bool r) ∧ Below w.heap.size w w' := by
 have hu31 := Try.underlying31
 have HR0 := Aside0.mk hr0
 have HC0 := Aside0.mk hc0
 clear hr0 hc0
 have HR1_0 := Aside0.mk hr1_0
 have HC1_0 := Aside0.mk hc1_0
 clear hr1_0 hc1_0
 have HR1_1 := Aside0.mk hr1_1
 have HC1_1 := Aside0.mk hc1_1
 clear hr1_1 hc1_1
 have HB := Aside0.mk (Below.refl w.heap.size w)
 have H : (cippuslaw02_has.l0 k l0 0 l1_0 l1_1) = some r := h
 clear h
 have H' := Aside0.mk H
 clear H
 go_enter Try.func16, Try.ntmps16
 go_wp2_with (first | ((with_reducible refine gate_dst (N := 3) rfl ?_); refine box_event ?hg (N := 3) ?hd (cs := #[.slice A1_0 l1_0.length c1_0, .slice A1_1 l1_1.length c1_1]) (t := 31) ?hr ?_; (case hd => rfl); (case hg => rfl); (case hr => first | (go_simp; done) | (go_simp; rfl)); intro gb523 hg w3 hbox hb; have BK523 := Aside0.mk (hbox); have GW523 := Aside0.mk ((by rw [hg]; exact (below_size (uB HB)) : w.heap.size ≤ gb523)); have GE523 := Aside0.mk ((by rw [hg]; exact (below_size (uB HB)) : w.heap.size ≤ gb523)); replace HB := Aside0.mk (below_step (uB HB) hb); clear hb hbox hg))
 go_loopg [5] k (fun kq v5 w' => ∃ (x5_1 : Int), v5 = .int .i64 x5_1 ∧ Aside0 (cippuslaw02_has.l0 kq l0 x5_1 l1_0 l1_1 = some r) ∧ Aside0 (kq ≤ k) ∧ Aside0 (w'.heap[gb523]? = some (.cells #[(.slice A1_0 l1_0.length c1_0), (.slice A1_1 l1_1.length c1_1)] 31 (0, 0))) ∧ Aside0 (Below w.heap.size w w'))
 case atStart => exact ⟨(0), uS, H', ⟨Nat.le_refl _⟩, ⟨uk BK523⟩, ⟨uB HB⟩⟩
 case round =>
  clear H'
  try clear c1
  try clear p2
  obtain ⟨x5_1, rfl, HA, HK1, BK523, HB⟩ := hrel
  cases gk with
  | zero => exact absurd HA.out (by simp [cippuslaw02_has.l0])
  | succ k1 =>
   have H := HA.out
   clear HA
   simp only [cippuslaw02_has.l0] at H
   by_cases c4 : x5_1 < (l0.length : Int)
   ·rw [if_pos c4] at H
    have c4b0 : decide (x5_1 < (l0.length : Int)) = true := decide_eq_true c4
    clear c4
    by_cases c5 : 0 ≤ x5_1
    ·rw [if_pos c5] at H
     have c5b0 : decide (0 ≤ x5_1) = true := decide_eq_true c5
     clear c5
     replace H := Option.bind_eq_some_iff.mp H
     obtain ⟨t525, A60, H⟩ := H
     replace H : (if t525 = true then (some true) else (cippuslaw02_has.l0 k1 l0 (wrap64 (x5_1 + 1)) l1_0 l1_1)) = some r := H
     have A6 := Aside0.mk A60
     clear A60
     by_cases c7 : t525 = true
     ·subst c7
      have H1 : (some true) = some r := by rw [if_pos rfl] at H; exact H
      clear H
      have H := H1
      clear H1
      obtain rfl := Option.some.inj H
      try go_wp2
      replace BK523 := Aside0.mk (blk_drew BK523.out)
      replace HB := Aside0.mk (below_drew1 HB.out)
      have p524 : 0 ≤ (x5_1 : Int) := of_decide_eq_true ua
      have q524 : x5_1 < (l0.length : Int) := of_decide_eq_true ua
      obtain ⟨ad524, A524_0, c524_0, A524_1, c524_1, e524, hx524_0, hx524_1, hl524_0, hi524_0, hl524_1, hi524_1⟩ := at_T31 HR0.out x5_1 p524 q524
      have hw524_1 := hx524_1
      have hw524_0 := hx524_0
      cases e524
      try replace hx524_0 := (HB.out.cell (World.block_lt_of_cell? w _ hx524_0)).trans hx524_0
      try replace hx524_1 := (HB.out.cell (World.block_lt_of_cell? w _ hx524_1)).trans hx524_1
      have HR524_0 := Aside0.mk hi524_0
      have HC524_0 := Aside0.mk hl524_0
      clear hi524_0 hl524_0
      have HR524_1 := Aside0.mk hi524_1
      have HC524_1 := Aside0.mk hl524_1
      clear hi524_1 hl524_1
      replace p524 := eq_true p524
      replace q524 := eq_true q524
      refine start_ (n := 6) (S := fun w' => w'.cell? ⟨gb523, 0, none⟩ = some (.slice A1_0 l1_0.length c1_0) ∧ w'.cell? ⟨gb523, 1, none⟩ = some (.slice A1_1 l1_1.length c1_1) ∧ w'.cell? (ad524.add ((x5_1).toNat * 2)) = some (.slice A524_0 ((rd_T31 l0 x5_1).f0).length c524_0) ∧ w'.cell? ⟨(ad524.add ((x5_1).toNat * 2)).block, (ad524.add ((x5_1).toNat * 2)).off + 1, none⟩ = some (.slice A524_1 ((rd_T31 l0 x5_1).f1).length c524_1)) (ds := []) #[ff,ff,ff,ff,ff,ff] (by kernel_rfl) rfl rfl ⟨(blk_cell BK523.out 0).trans rfl, (blk_cell BK523.out 1).trans rfl, ((HB.out.cell (World.block_lt_of_cell? w _ hw524_0)).trans hw524_0), ((HB.out.cell (World.block_lt_of_cell? w _ hw524_1)).trans hw524_1)⟩ (fun hHeld => ?_)
      generalize wr.drew = w8 at BK523 HB HR524_0 HR524_1 hx524_0 hx524_1 hHeld ⊢
      refine pure_ (i := 0) (N := some 12) (v := ?_) (a' := ?_) #[tt,ff,ff,ff,ff,ff] rfl rfl (by kernel_rfl) (fun _ _ _ h => h) (Or.inl ⟨by rfl, ?_⟩) ?_ ?_
      rotate_left
      ·intro w'
       go_simp
       with_reducible rfl
      rotate_left
      ·exact uP
      refine pure_ (i := 1) (N := some 13) (v := ?_) (a' := ?_) #[tt,tt,ff,ff,ff,ff] rfl rfl (by kernel_rfl) (fun _ _ _ h => h) (Or.inl ⟨by rfl, ?_⟩) ?_ ?_
      rotate_left
      ·intro w'
       go_simp
       with_reducible rfl
      rotate_left
      ·exact uP
      refine pure_ (i := 2) (N := some 14) (v := ?_) (a' := ?_) #[tt,tt,tt,ff,ff,ff] rfl rfl (by kernel_rfl) (fun _ _ _ h => h) (Or.inl ⟨by rfl, ?_⟩) ?_ ?_
      rotate_left
      ·intro w'
       go_simp
       with_reducible rfl
      rotate_left
      ·exact uP
      refine take_ (i := 3) (N := some 15) (v := ?_) (a' := ?_) #[tt,tt,tt,tt,ff,ff] rfl rfl (by kernel_rfl) (fun _ _ _ h => h) (Or.inl ⟨by rfl, ?_⟩) hHeld ?_ ?_
      rotate_left
      ·rintro w' ⟨s0, s1, s2, s3⟩
       go_simp
       with_reducible rfl
      rotate_left
      ·exact uP
      refine take_ (i := 4) (N := some 16) (v := ?_) (a' := ?_) #[tt,tt,tt,tt,tt,ff] rfl rfl (by kernel_rfl) (fun _ _ _ h => h) (Or.inl ⟨by rfl, ?_⟩) hHeld ?_ ?_
      rotate_left
      ·rintro w' ⟨s0, s1, s2, s3⟩
       go_simp
       with_reducible rfl
      rotate_left
      ·exact uP
      refine one_ (i := 5) (N := some 17) #[tt,tt,tt,tt,tt,tt] rfl rfl (by kernel_rfl) (by decide) (fun K hK => ?_)
      refine goes_ Try.func35 (by kernel_rfl) rfl #[.agg #[.slice A524_0 ((rd_T31 l0 x5_1).f0).length c524_0, .slice A524_1 ((rd_T31 l0 x5_1).f1).length c524_1], .agg #[.slice A1_0 l1_0.length c1_0, .slice A1_1 l1_1.length c1_1]] (by rfl) rfl rfl uA ?_
      with_reducible refine (cippuskit_SameFilling.calls k1 _ _ ((rd_T31 l0 x5_1).f0) _ _ ((rd_T31 l0 x5_1).f1) _ _ l1_0 _ _ l1_1 true _ ?side1 ?side2 ?side3 ?side4 ?side5 ?side6 ?side7 ?side8 A6.out).mono ?_
      (case side1 => exact uD (Kd.C_below HR524_0.out HB.out))
      (case side2 => exact HC524_0.out)
      (case side3 => exact uD (Kd.C_below HR524_1.out HB.out))
      (case side4 => exact HC524_1.out)
      (case side5 => exact uD (Kd.C_below HR1_0.out HB.out))
      (case side6 => exact HC1_0.out)
      (case side7 => exact uD (Kd.C_below HR1_1.out HB.out))
      (case side8 => exact HC1_1.out)
      rintro e w9 ⟨rfl, hb⟩
      refine ⟨_, rfl, ?_⟩
      replace BK523 := Aside0.mk (blk_below (uk BK523) hb)
      replace HB := Aside0.mk (below_step (uB HB) hb)
      (try clear hb)
      (try clear hb2)
      (try clear hk)
      (try clear hi)
      refine hK.out _ _ ⟨(blk_cell BK523.out 0).trans rfl, (blk_cell BK523.out 1).trans rfl, ((HB.out.cell (World.block_lt_of_cell? w _ hw524_0)).trans hw524_0), ((HB.out.cell (World.block_lt_of_cell? w _ hw524_1)).trans hw524_1)⟩ (fun hHeld => ?_)
      clear hK K
      refine norm_ (a' := ?_) ?_ ?_
      rotate_left
      ·show Act.put _ (some 17) _ = _
       simp only [Act.put, List.setIfInBounds_toArray, List.set_cons_zero, List.set_cons_succ, i64_w, i32_w]
       rfl
      refine done_ (by kernel_rfl) ?_
      try go_wp2
      go_ret
      exact ⟨uE, uB HB⟩
     ·replace c7 := Bool.eq_false_iff.mpr c7
      subst c7
      have H1 : (cippuslaw02_has.l0 k1 l0 (wrap64 (x5_1 + 1)) l1_0 l1_1) = some r := by rw [if_neg (show ¬ (false = true) by decide)] at H; exact H
      clear H
      have H := H1
      clear H1
      have H' := Aside0.mk H
      clear H
      try go_wp2
      replace BK523 := Aside0.mk (blk_drew BK523.out)
      replace HB := Aside0.mk (below_drew1 HB.out)
      have p524 : 0 ≤ (x5_1 : Int) := of_decide_eq_true ua
      have q524 : x5_1 < (l0.length : Int) := of_decide_eq_true ua
      obtain ⟨ad524, A524_0, c524_0, A524_1, c524_1, e524, hx524_0, hx524_1, hl524_0, hi524_0, hl524_1, hi524_1⟩ := at_T31 HR0.out x5_1 p524 q524
      have hw524_1 := hx524_1
      have hw524_0 := hx524_0
      cases e524
      try replace hx524_0 := (HB.out.cell (World.block_lt_of_cell? w _ hx524_0)).trans hx524_0
      try replace hx524_1 := (HB.out.cell (World.block_lt_of_cell? w _ hx524_1)).trans hx524_1
      have HR524_0 := Aside0.mk hi524_0
      have HC524_0 := Aside0.mk hl524_0
      clear hi524_0 hl524_0
      have HR524_1 := Aside0.mk hi524_1
      have HC524_1 := Aside0.mk hl524_1
      clear hi524_1 hl524_1
      replace p524 := eq_true p524
      replace q524 := eq_true q524
      refine start_ (n := 6) (S := fun w' => w'.cell? ⟨gb523, 0, none⟩ = some (.slice A1_0 l1_0.length c1_0) ∧ w'.cell? ⟨gb523, 1, none⟩ = some (.slice A1_1 l1_1.length c1_1) ∧ w'.cell? (ad524.add ((x5_1).toNat * 2)) = some (.slice A524_0 ((rd_T31 l0 x5_1).f0).length c524_0) ∧ w'.cell? ⟨(ad524.add ((x5_1).toNat * 2)).block, (ad524.add ((x5_1).toNat * 2)).off + 1, none⟩ = some (.slice A524_1 ((rd_T31 l0 x5_1).f1).length c524_1)) (ds := []) #[ff,ff,ff,ff,ff,ff] (by kernel_rfl) rfl rfl ⟨(blk_cell BK523.out 0).trans rfl, (blk_cell BK523.out 1).trans rfl, ((HB.out.cell (World.block_lt_of_cell? w _ hw524_0)).trans hw524_0), ((HB.out.cell (World.block_lt_of_cell? w _ hw524_1)).trans hw524_1)⟩ (fun hHeld => ?_)
      generalize wr.drew = w10 at BK523 HB HR524_0 HR524_1 hx524_0 hx524_1 hHeld ⊢
      refine pure_ (i := 0) (N := some 12) (v := ?_) (a' := ?_) #[tt,ff,ff,ff,ff,ff] rfl rfl (by kernel_rfl) (fun _ _ _ h => h) (Or.inl ⟨by rfl, ?_⟩) ?_ ?_
      rotate_left
      ·intro w'
       go_simp
       with_reducible rfl
      rotate_left
      ·exact uP
      refine pure_ (i := 1) (N := some 13) (v := ?_) (a' := ?_) #[tt,tt,ff,ff,ff,ff] rfl rfl (by kernel_rfl) (fun _ _ _ h => h) (Or.inl ⟨by rfl, ?_⟩) ?_ ?_
      rotate_left
      ·intro w'
       go_simp
       with_reducible rfl
      rotate_left
      ·exact uP
      refine pure_ (i := 2) (N := some 14) (v := ?_) (a' := ?_) #[tt,tt,tt,ff,ff,ff] rfl rfl (by kernel_rfl) (fun _ _ _ h => h) (Or.inl ⟨by rfl, ?_⟩) ?_ ?_
      rotate_left
      ·intro w'
       go_simp
       with_reducible rfl
      rotate_left
      ·exact uP
      refine take_ (i := 3) (N := some 15) (v := ?_) (a' := ?_) #[tt,tt,tt,tt,ff,ff] rfl rfl (by kernel_rfl) (fun _ _ _ h => h) (Or.inl ⟨by rfl, ?_⟩) hHeld ?_ ?_
      rotate_left
      ·rintro w' ⟨s0, s1, s2, s3⟩
       go_simp
       with_reducible rfl
      rotate_left
      ·exact uP
      refine take_ (i := 4) (N := some 16) (v := ?_) (a' := ?_) #[tt,tt,tt,tt,tt,ff] rfl rfl (by kernel_rfl) (fun _ _ _ h => h) (Or.inl ⟨by rfl, ?_⟩) hHeld ?_ ?_
      rotate_left
      ·rintro w' ⟨s0, s1, s2, s3⟩
       go_simp
       with_reducible rfl
      rotate_left
      ·exact uP
      refine one_ (i := 5) (N := some 17) #[tt,tt,tt,tt,tt,tt] rfl rfl (by kernel_rfl) (by decide) (fun K hK => ?_)
      refine goes_ Try.func35 (by kernel_rfl) rfl #[.agg #[.slice A524_0 ((rd_T31 l0 x5_1).f0).length c524_0, .slice A524_1 ((rd_T31 l0 x5_1).f1).length c524_1], .agg #[.slice A1_0 l1_0.length c1_0, .slice A1_1 l1_1.length c1_1]] (by rfl) rfl rfl uA ?_
      with_reducible refine (cippuskit_SameFilling.calls k1 _ _ ((rd_T31 l0 x5_1).f0) _ _ ((rd_T31 l0 x5_1).f1) _ _ l1_0 _ _ l1_1 false _ ?side1 ?side2 ?side3 ?side4 ?side5 ?side6 ?side7 ?side8 A6.out).mono ?_
      (case side1 => exact uD (Kd.C_below HR524_0.out HB.out))
      (case side2 => exact HC524_0.out)
      (case side3 => exact uD (Kd.C_below HR524_1.out HB.out))
      (case side4 => exact HC524_1.out)
      (case side5 => exact uD (Kd.C_below HR1_0.out HB.out))
      (case side6 => exact HC1_0.out)
      (case side7 => exact uD (Kd.C_below HR1_1.out HB.out))
      (case side8 => exact HC1_1.out)
      rintro e w11 ⟨rfl, hb⟩
      refine ⟨_, rfl, ?_⟩
      replace BK523 := Aside0.mk (blk_below (uk BK523) hb)
      replace HB := Aside0.mk (below_step (uB HB) hb)
      (try clear hb)
      (try clear hb2)
      (try clear hk)
      (try clear hi)
      refine hK.out _ _ ⟨(blk_cell BK523.out 0).trans rfl, (blk_cell BK523.out 1).trans rfl, ((HB.out.cell (World.block_lt_of_cell? w _ hw524_0)).trans hw524_0), ((HB.out.cell (World.block_lt_of_cell? w _ hw524_1)).trans hw524_1)⟩ (fun hHeld => ?_)
      clear hK K
      refine norm_ (a' := ?_) ?_ ?_
      rotate_left
      ·show Act.put _ (some 17) _ = _
       simp only [Act.put, List.setIfInBounds_toArray, List.set_cons_zero, List.set_cons_succ, i64_w, i32_w]
       rfl
      refine done_ (by kernel_rfl) ?_
      try go_wp2
      go_roundg k1
      case measure => have := HK1.out; omega
      case rel => exact ⟨(wrap64 (x5_1 + 1)), uS, H', ⟨by have := HK1.out; omega⟩, ⟨uk BK523⟩, ⟨uB HB⟩⟩
    ·rw [if_neg c5] at H
     exact absurd H (by simp)
   ·rw [if_neg c4] at H
    have c4b0 : decide (x5_1 < (l0.length : Int)) = false := decide_eq_false c4
    clear c4
    obtain rfl := Option.some.inj H
    go_wp2
    go_ret
    exact ⟨uE, uB HB⟩
end Go.Proofs.Ytkfebceainedfaa.P
namespace Go.Proofs.Ytkfebceainedfaa.P
open Go.RowKit Go.Proofs.YtkfebceainedfaaW.PrintWords Go.Proofs.YtkfebceainedfaaW.PrintLast Go.Proofs.YtkfebceainedfaaW.PrintMore
attribute [local go_sem] max2_int min2_int max_two min_two max_three min_three max_four min_four   -- for this text's walks alone
set_option linter.unusedVariables false
set_option linter.unusedSimpArgs false
def cippuskit_Urn_Up.f (s0_0 : Int) (s0_1 : Int) (a1 : Int) : Option (Int × Int × Int) := if a1 < 2 then (some (0, s0_0, s0_1)) else ((cippuskit_Urn_turn.f s0_0 s0_1).bind fun bt133 => (if (IntKind.u64.wrap (a1)) = 0 then (none) else (some (wrap64 (Int.tmod (bt133.1 / 2048) (IntKind.u64.wrap (a1))), bt133.2.1, bt133.2.2))))
set_option maxHeartbeats 8000000 in
set_option maxRecDepth 100000 in
theorem cippuskit_Urn_Up.calls (g : Nat) (s0_0 : Int) (s0_1 : Int) (a1 : Int) (r1 : Int) (r2 : Int) (r3 : Int) (w0 w : World) (hI : IsS83 w0 w g s0_0 s0_1) (hB : Below w0.heap.size w0 w) (h : cippuskit_Urn_Up.f s0_0 s0_1 a1 = some (r1, r2, r3)) :
  Calls Try.prog 30 #[.pointer (some ⟨g, 0, none⟩), .int .i64 a1] w fun e w' => e = .returned (.int .i64 r1) ∧ IsS83 w0 w' g r2 r3 ∧ Below w0.heap.size w0 w' ∧ KeepBut w w' g none := by
 have HI0 := Aside0.mk hI
 have HK := Aside0.mk (KeepBut.refl w g none)
 have HL := Aside0.mk hB.size
 clear hI
 have HW0 := Aside0.mk hB.size
 have HB := Aside0.mk hB
 clear hB
 have H : (if a1 < 2 then (some (0, s0_0, s0_1)) else ((cippuskit_Urn_turn.f s0_0 s0_1).bind fun bt133 => (if (IntKind.u64.wrap (a1)) = 0 then (none) else (some (wrap64 (Int.tmod (bt133.1 / 2048) (IntKind.u64.wrap (a1))), bt133.2.1, bt133.2.2))))) = some (r1, r2, r3) := h
 clear h
 by_cases c3 : a1 < 2
 ·rw [if_pos c3] at H
  have c3b0 : decide (a1 < 2) = true := decide_eq_true c3
  clear c3
  simp only [Option.some.injEq, Prod.mk.injEq] at H
  obtain ⟨rfl, rfl, rfl⟩ := H
  go_enter Try.func30, Try.ntmps30
  go_wp2
  go_ret
  exact ⟨uE, uI HI0, uB HB, uK HK⟩
 ·rw [if_neg c3] at H
  have c3b0 : decide (a1 < 2) = false := decide_eq_false c3
  clear c3
  replace H := Option.bind_eq_some_iff.mp H
  obtain ⟨⟨t133, t134, t135⟩, A40, H⟩ := H
  replace H : (if (IntKind.u64.wrap (a1)) = 0 then (none) else (some (wrap64 (Int.tmod (t133 / 2048) (IntKind.u64.wrap (a1))), t134, t135))) = some (r1, r2, r3) := H
  have A4 := Aside0.mk A40
  clear A40
  by_cases c5 : (IntKind.u64.wrap (a1)) = 0
  ·rw [if_pos c5] at H
   exact absurd H (by simp)
  ·rw [if_neg c5] at H
   have c5b0 : ((IntKind.u64.wrap (a1)) == 0) = false := beq_eq_false_iff_ne.mpr c5
   have c5b1 : ((IntKind.u64.wrap (a1)) != 0) = true := bne_iff_ne.mpr c5
   simp only [Option.some.injEq, Prod.mk.injEq] at H
   obtain ⟨rfl, rfl, rfl⟩ := H
   go_enter Try.func30, Try.ntmps30
   go_wp2_with (first | ((with_reducible refine gate_callee (f := 41) rfl ?_); refine goesL_ (some 8) rfl rfl Try.func41 (by kernel_rfl) rfl #[.pointer (some ⟨g, 0, none⟩)] rfl uA ?_; (with_reducible refine (cippuskit_Urn_turn.calls g s0_0 s0_1 t133 t134 t135 w0 _ ?side1 ?side2 A4.out).mono ?_); (case side1 => exact uI HI0); (case side2 => exact uB HB); rintro e w6 ⟨rfl, hi, hb, hk⟩; refine ⟨_, rfl, ?_⟩; replace HK := Aside0.mk (KeepBut.trans (uK HK) hk (.inl rfl)); replace HB := Aside0.mk (hb); replace HI0 := Aside0.mk (hi); (try clear hb); (try clear hb2); (try clear hk); (try clear hi)))
   go_ret
   exact ⟨uE, uI HI0, uB HB, uK HK⟩
end Go.Proofs.Ytkfebceainedfaa.P
namespace Go.Proofs.Ytkfebceainedfaa.P
open Go.RowKit Go.Proofs.YtkfebceainedfaaW.PrintWords Go.Proofs.YtkfebceainedfaaW.PrintLast Go.Proofs.YtkfebceainedfaaW.PrintMore
attribute [local go_sem] max2_int min2_int max_two min_two max_three min_three max_four min_four   -- for this text's walks alone
set_option linter.unusedVariables false
set_option linter.unusedSimpArgs false
def cippuskit_Urn_Odds.f (s0_0 : Int) (s0_1 : Int) (a1 : Int) (a2 : Int) : Option (Bool × Int × Int) := (cippuskit_Urn_Up.f s0_0 s0_1 a2).bind fun bt139 => (some (decide (bt139.1 < a1), bt139.2.1, bt139.2.2))
set_option maxHeartbeats 8000000 in
set_option maxRecDepth 100000 in
theorem cippuskit_Urn_Odds.calls (g : Nat) (s0_0 : Int) (s0_1 : Int) (a1 : Int) (a2 : Int) (r1 : Bool) (r2 : Int) (r3 : Int) (w0 w : World) (hI : IsS83 w0 w g s0_0 s0_1) (hB : Below w0.heap.size w0 w) (h : cippuskit_Urn_Odds.f s0_0 s0_1 a1 a2 = some (r1, r2, r3)) :
  Calls Try.prog 31 #[.pointer (some ⟨g, 0, none⟩), .int .i64 a1, .int .i64 a2] w fun e w' => e = .returned (.bool r1) ∧ IsS83 w0 w' g r2 r3 ∧ Below w0.heap.size w0 w' ∧ KeepBut w w' g none := by
 have HI0 := Aside0.mk hI
 have HK := Aside0.mk (KeepBut.refl w g none)
 have HL := Aside0.mk hB.size
 clear hI
 have HW0 := Aside0.mk hB.size
 have HB := Aside0.mk hB
 clear hB
 have H : ((cippuskit_Urn_Up.f s0_0 s0_1 a2).bind fun bt139 => (some (decide (bt139.1 < a1), bt139.2.1, bt139.2.2))) = some (r1, r2, r3) := h
 clear h
 replace H := Option.bind_eq_some_iff.mp H
 obtain ⟨⟨t139, t140, t141⟩, A40, H⟩ := H
 replace H : (some (decide (t139 < a1), t140, t141)) = some (r1, r2, r3) := H
 have A4 := Aside0.mk A40
 clear A40
 simp only [Option.some.injEq, Prod.mk.injEq] at H
 obtain ⟨rfl, rfl, rfl⟩ := H
 go_enter Try.func31, Try.ntmps31
 go_wp2_with (first | ((with_reducible refine gate_callee (f := 30) rfl ?_); refine goesL_ (some 9) rfl rfl Try.func30 (by kernel_rfl) rfl #[.pointer (some ⟨g, 0, none⟩), .int .i64 a2] rfl uA ?_; (with_reducible refine (cippuskit_Urn_Up.calls g s0_0 s0_1 a2 t139 t140 t141 w0 _ ?side1 ?side2 A4.out).mono ?_); (case side1 => exact uI HI0); (case side2 => exact uB HB); rintro e w5 ⟨rfl, hi, hb, hk⟩; refine ⟨_, rfl, ?_⟩; replace HK := Aside0.mk (KeepBut.trans (uK HK) hk (.inl rfl)); replace HB := Aside0.mk (hb); replace HI0 := Aside0.mk (hi); (try clear hb); (try clear hb2); (try clear hk); (try clear hi)))
 go_ret
 exact ⟨uE, uI HI0, uB HB, uK HK⟩
end Go.Proofs.Ytkfebceainedfaa.P
namespace Go.Proofs.Ytkfebceainedfaa.P
open Go.RowKit Go.Proofs.YtkfebceainedfaaW.PrintWords Go.Proofs.YtkfebceainedfaaW.PrintLast Go.Proofs.YtkfebceainedfaaW.PrintMore
attribute [local go_sem] max2_int min2_int max_two min_two max_three min_three max_four min_four   -- for this text's walks alone
set_option linter.unusedVariables false
set_option linter.unusedSimpArgs false
theorem eqA53 (d : Nat) (w : World) (x0 y0 : ByteArray) (x1 y1 : Int) :
  (Op.equalIn (d + 2) 53 (.agg #[.string x0, .int .i64 x1]) (.agg #[.string y0, .int .i64 y1])).run Try.prog w = .ok (x0.toList == y0.toList && (x1 == y1)) w := by
 refine eqA_of Try.underlying53 (by kernel_rfl) ?_
 refine eqf_cons (by rfl) (by go_simp; rfl) (by go_simp; rfl) (by go_simp) ?_
 exact eqf_last (by rfl) (by go_simp; rfl) (by go_simp; rfl) (by go_simp)
end Go.Proofs.Ytkfebceainedfaa.P
namespace Go.Proofs.Ytkfebceainedfaa.P
open Go.RowKit Go.Proofs.YtkfebceainedfaaW.PrintWords Go.Proofs.YtkfebceainedfaaW.PrintLast Go.Proofs.YtkfebceainedfaaW.PrintMore
attribute [local go_sem] max2_int min2_int max_two min_two max_three min_three max_four min_four   -- for this text's walks alone
set_option linter.unusedVariables false
set_option linter.unusedSimpArgs false
def cippuskit_Urn_From.f (s0_0 : Int) (s0_1 : Int) (a1 : Int) (a2 : Int) : Option (Int × Int × Int) := (cippuskit_Urn_Up.f s0_0 s0_1 (wrap64 ((wrap64 (a2 - a1)) + 1))).bind fun bt136 => (some (wrap64 (a1 + bt136.1), bt136.2.1, bt136.2.2))
set_option maxHeartbeats 8000000 in
set_option maxRecDepth 100000 in
theorem cippuskit_Urn_From.calls (g : Nat) (s0_0 : Int) (s0_1 : Int) (a1 : Int) (a2 : Int) (r1 : Int) (r2 : Int) (r3 : Int) (w0 w : World) (hI : IsS83 w0 w g s0_0 s0_1) (hB : Below w0.heap.size w0 w) (h : cippuskit_Urn_From.f s0_0 s0_1 a1 a2 = some (r1, r2, r3)) :
  Calls Try.prog 18 #[.pointer (some ⟨g, 0, none⟩), .int .i64 a1, .int .i64 a2] w fun e w' => e = .returned (.int .i64 r1) ∧ IsS83 w0 w' g r2 r3 ∧ Below w0.heap.size w0 w' ∧ KeepBut w w' g none := by
 have HI0 := Aside0.mk hI
 have HK := Aside0.mk (KeepBut.refl w g none)
 have HL := Aside0.mk hB.size
 clear hI
 have HW0 := Aside0.mk hB.size
 have HB := Aside0.mk hB
 clear hB
 have H : ((cippuskit_Urn_Up.f s0_0 s0_1 (wrap64 ((wrap64 (a2 - a1)) + 1))).bind fun bt136 => (some (wrap64 (a1 + bt136.1), bt136.2.1, bt136.2.2))) = some (r1, r2, r3) := h
 clear h
 replace H := Option.bind_eq_some_iff.mp H
 obtain ⟨⟨t136, t137, t138⟩, A40, H⟩ := H
 replace H : (some (wrap64 (a1 + t136), t137, t138)) = some (r1, r2, r3) := H
 have A4 := Aside0.mk A40
 clear A40
 simp only [Option.some.injEq, Prod.mk.injEq] at H
 obtain ⟨rfl, rfl, rfl⟩ := H
 go_enter Try.func18, Try.ntmps18
 go_wp2_with (first | ((with_reducible refine gate_callee (f := 30) rfl ?_); refine goesL_ (some 13) rfl rfl Try.func30 (by kernel_rfl) rfl #[.pointer (some ⟨g, 0, none⟩), .int .i64 (wrap64 ((wrap64 (a2 - a1)) + 1))] rfl uA ?_; (with_reducible refine (cippuskit_Urn_Up.calls g s0_0 s0_1 (wrap64 ((wrap64 (a2 - a1)) + 1)) t136 t137 t138 w0 _ ?side1 ?side2 A4.out).mono ?_); (case side1 => exact uI HI0); (case side2 => exact uB HB); rintro e w5 ⟨rfl, hi, hb, hk⟩; refine ⟨_, rfl, ?_⟩; replace HK := Aside0.mk (KeepBut.trans (uK HK) hk (.inl rfl)); replace HB := Aside0.mk (hb); replace HI0 := Aside0.mk (hi); (try clear hb); (try clear hb2); (try clear hk); (try clear hi)))
 go_ret
 exact ⟨uE, uI HI0, uB HB, uK HK⟩
end Go.Proofs.Ytkfebceainedfaa.P
namespace Go.Proofs.Ytkfebceainedfaa.P
open Go.RowKit Go.Proofs.YtkfebceainedfaaW.PrintWords Go.Proofs.YtkfebceainedfaaW.PrintLast Go.Proofs.YtkfebceainedfaaW.PrintMore
attribute [local go_sem] max2_int min2_int max_two min_two max_three min_three max_four min_four   -- for this text's walks alone
set_option linter.unusedVariables false
set_option linter.unusedSimpArgs false
def cippuskit_Urn_Any.f (s0_0 : Int) (s0_1 : Int) (l1 : List Int) : Option (Int × Int × Int) := if (l1.length : Int) = 0 then (some (0, s0_0, s0_1)) else ((cippuskit_Urn_Up.f s0_0 s0_1 (l1.length : Int)).bind fun bt142 => (if 0 ≤ bt142.1 then (if bt142.1 < (l1.length : Int) then (some (rd l1 bt142.1, bt142.2.1, bt142.2.2)) else (none)) else (none)))
set_option maxHeartbeats 8000000 in
set_option maxRecDepth 100000 in
theorem cippuskit_Urn_Any.calls (g : Nat) (s0_0 : Int) (s0_1 : Int) (A1 : Option Addr) (c1 : Nat) (l1 : List Int) (r1 : Int) (r2 : Int) (r3 : Int) (w0 w : World) (hI : IsS83 w0 w g s0_0 s0_1) (hB : Below w0.heap.size w0 w) (hr1 : Kd.C (Kd.int .i64) w A1 l1.length l1) (hc1 : l1.length ≤ c1) (hf1 : ∀ ad, A1 = some ad → 0 < l1.length → ad.block ≠ g) (h : cippuskit_Urn_Any.f s0_0 s0_1 l1 = some (r1, r2, r3)) :
  Calls Try.prog 32 #[.pointer (some ⟨g, 0, none⟩), .slice A1 l1.length c1] w fun e w' => e = .returned (.int .i64 r1) ∧ IsS83 w0 w' g r2 r3 ∧ Below w0.heap.size w0 w' ∧ KeepBut w w' g none := by
 have HR1 := Aside0.mk hr1
 have HC1 := Aside0.mk hc1
 clear hr1 hc1
 have HI0 := Aside0.mk hI
 have HK := Aside0.mk (KeepBut.refl w g none)
 have HL := Aside0.mk hB.size
 clear hI
 have HW0 := Aside0.mk hB.size
 have HB := Aside0.mk hB
 clear hB
 have H : (if (l1.length : Int) = 0 then (some (0, s0_0, s0_1)) else ((cippuskit_Urn_Up.f s0_0 s0_1 (l1.length : Int)).bind fun bt142 => (if 0 ≤ bt142.1 then (if bt142.1 < (l1.length : Int) then (some (rd l1 bt142.1, bt142.2.1, bt142.2.2)) else (none)) else (none)))) = some (r1, r2, r3) := h
 clear h
 by_cases c3 : (l1.length : Int) = 0
 ·rw [if_pos c3] at H
  have c3b0 : ((l1.length : Int) == 0) = true := beq_iff_eq.mpr c3
  have c3b1 : ((l1.length : Int) != 0) = false := bne_eq_false_iff_eq.mpr c3
  clear c3
  simp only [Option.some.injEq, Prod.mk.injEq] at H
  obtain ⟨rfl, rfl, rfl⟩ := H
  go_enter Try.func32, Try.ntmps32
  go_wp2
  go_ret
  exact ⟨uE, uI HI0, uB HB, uK HK⟩
 ·rw [if_neg c3] at H
  have c3b0 : ((l1.length : Int) == 0) = false := beq_eq_false_iff_ne.mpr c3
  have c3b1 : ((l1.length : Int) != 0) = true := bne_iff_ne.mpr c3
  have c3b2 : ¬ (l1 = []) := fun h_ => c3 (by rw [h_]; rfl)
  replace H := Option.bind_eq_some_iff.mp H
  obtain ⟨⟨t142, t143, t144⟩, A40, H⟩ := H
  replace H : (if 0 ≤ t142 then (if t142 < (l1.length : Int) then (some (rd l1 t142, t143, t144)) else (none)) else (none)) = some (r1, r2, r3) := H
  have A4 := Aside0.mk A40
  clear A40
  by_cases c5 : 0 ≤ t142
  ·rw [if_pos c5] at H
   have c5b0 : decide (0 ≤ t142) = true := decide_eq_true c5
   clear c5
   by_cases c6 : t142 < (l1.length : Int)
   ·rw [if_pos c6] at H
    have c6b0 : decide (t142 < (l1.length : Int)) = true := decide_eq_true c6
    clear c6
    simp only [Option.some.injEq, Prod.mk.injEq] at H
    obtain ⟨rfl, rfl, rfl⟩ := H
    go_enter Try.func32, Try.ntmps32
    go_wp2_with (first | ((with_reducible refine gate_callee (f := 30) rfl ?_); refine goesL_ (some 12) rfl rfl Try.func30 (by kernel_rfl) rfl #[.pointer (some ⟨g, 0, none⟩), .int .i64 (l1.length : Int)] rfl uA ?_; (with_reducible refine (cippuskit_Urn_Up.calls g s0_0 s0_1 (l1.length : Int) t142 t143 t144 w0 _ ?side1 ?side2 A4.out).mono ?_); (case side1 => exact uI HI0); (case side2 => exact uB HB); rintro e w7 ⟨rfl, hi, hb, hk⟩; refine ⟨_, rfl, ?_⟩; replace HK := Aside0.mk (KeepBut.trans (uK HK) hk (.inl rfl)); replace HB := Aside0.mk (hb); replace HI0 := Aside0.mk (hi); (try clear hb); (try clear hb2); (try clear hk); (try clear hi); have p145 : 0 ≤ (t142 : Int) := of_decide_eq_true ua; have q145 : t142 < (l1.length : Int) := of_decide_eq_true ua; obtain ⟨ad145, e145, hx145_0⟩ := Kd.at_int HR1.out t142 p145 q145; cases e145; replace hx145_0 := keep_cell HK.out hx145_0 (by first | (rw [add_block]; exact hf1 _ rfl (by omega)) | exact hf1 _ rfl (by omega) | exact hf1 ad145 rfl (by omega)); replace p145 := eq_true p145; replace q145 := eq_true q145))
    go_ret
    exact ⟨uE, uI HI0, uB HB, uK HK⟩
   ·rw [if_neg c6] at H
    exact absurd H (by simp)
  ·rw [if_neg c5] at H
   exact absurd H (by simp)
end Go.Proofs.Ytkfebceainedfaa.P
namespace Go.Proofs.Ytkfebceainedfaa.P
open Go.RowKit Go.Proofs.YtkfebceainedfaaW.PrintWords Go.Proofs.YtkfebceainedfaaW.PrintLast Go.Proofs.YtkfebceainedfaaW.PrintMore
attribute [local go_sem] max2_int min2_int max_two min_two max_three min_three max_four min_four   -- for this text's walks alone
set_option linter.unusedVariables false
set_option linter.unusedSimpArgs false
def cippuskit_Urn_Span.f (s0_0 : Int) (s0_1 : Int) (a1 : Int) (a2 : Int) : Option (Int × Int × Int × Int) := (cippuskit_Urn_From.f s0_0 s0_1 a1 a2).bind fun bt147 => ((cippuskit_Urn_Up.f bt147.2.1 bt147.2.2 3).bind fun bt150 => ((cippuskit_Urn_Up.f bt150.2.1 bt150.2.2 6).bind fun bt153 => ((cippuskit_Urn_From.f bt153.2.1 bt153.2.2 bt147.1 a2).bind fun bt156 => ((cippuskit_Urn_Any.f bt156.2.1 bt156.2.2 (([bt147.1, mn a2 (wrap64 (bt147.1 + bt150.1)), mn a2 (wrap64 (bt147.1 + bt153.1)), bt156.1] : List Int))).bind fun bt162 => (some (bt147.1, bt162.1, bt162.2.1, bt162.2.2))))))
set_option maxHeartbeats 8000000 in
set_option maxRecDepth 100000 in
theorem cippuskit_Urn_Span.calls (g : Nat) (s0_0 : Int) (s0_1 : Int) (a1 : Int) (a2 : Int) (r1 : Int) (r2 : Int) (r3 : Int) (r4 : Int) (w0 w : World) (hI : IsS83 w0 w g s0_0 s0_1) (hB : Below w0.heap.size w0 w) (h : cippuskit_Urn_Span.f s0_0 s0_1 a1 a2 = some (r1, r2, r3, r4)) :
  Calls Try.prog 72 #[.pointer (some ⟨g, 0, none⟩), .int .i64 a1, .int .i64 a2] w fun e w' => e = .returned (.agg #[.int .i64 r1, .int .i64 r2]) ∧ IsS83 w0 w' g r3 r4 ∧ Below w0.heap.size w0 w' ∧ KeepBut w w' g none := by
 have hu47 := Try.underlying47
 have HI0 := Aside0.mk hI
 have HK := Aside0.mk (KeepBut.refl w g none)
 have HL := Aside0.mk hB.size
 clear hI
 have HW0 := Aside0.mk hB.size
 have HB := Aside0.mk hB
 clear hB
 have H : ((cippuskit_Urn_From.f s0_0 s0_1 a1 a2).bind fun bt147 => ((cippuskit_Urn_Up.f bt147.2.1 bt147.2.2 3).bind fun bt150 => ((cippuskit_Urn_Up.f bt150.2.1 bt150.2.2 6).bind fun bt153 => ((cippuskit_Urn_From.f bt153.2.1 bt153.2.2 bt147.1 a2).bind fun bt156 => ((cippuskit_Urn_Any.f bt156.2.1 bt156.2.2 (([bt147.1, mn a2 (wrap64 (bt147.1 + bt150.1)), mn a2 (wrap64 (bt147.1 + bt153.1)), bt156.1] : List Int))).bind fun bt162 => (some (bt147.1, bt162.1, bt162.2.1, bt162.2.2))))))) = some (r1, r2, r3, r4) := h
 clear h
 replace H := Option.bind_eq_some_iff.mp H
 obtain ⟨⟨t147, t148, t149⟩, A40, H⟩ := H
 replace H : ((cippuskit_Urn_Up.f t148 t149 3).bind fun bt150 => ((cippuskit_Urn_Up.f bt150.2.1 bt150.2.2 6).bind fun bt153 => ((cippuskit_Urn_From.f bt153.2.1 bt153.2.2 t147 a2).bind fun bt156 => ((cippuskit_Urn_Any.f bt156.2.1 bt156.2.2 (([t147, mn a2 (wrap64 (t147 + bt150.1)), mn a2 (wrap64 (t147 + bt153.1)), bt156.1] : List Int))).bind fun bt162 => (some (t147, bt162.1, bt162.2.1, bt162.2.2)))))) = some (r1, r2, r3, r4) := H
 have A4 := Aside0.mk A40
 clear A40
 replace H := Option.bind_eq_some_iff.mp H
 obtain ⟨⟨t150, t151, t152⟩, A50, H⟩ := H
 replace H : ((cippuskit_Urn_Up.f t151 t152 6).bind fun bt153 => ((cippuskit_Urn_From.f bt153.2.1 bt153.2.2 t147 a2).bind fun bt156 => ((cippuskit_Urn_Any.f bt156.2.1 bt156.2.2 (([t147, mn a2 (wrap64 (t147 + t150)), mn a2 (wrap64 (t147 + bt153.1)), bt156.1] : List Int))).bind fun bt162 => (some (t147, bt162.1, bt162.2.1, bt162.2.2))))) = some (r1, r2, r3, r4) := H
 have A5 := Aside0.mk A50
 clear A50
 obtain ⟨ji6, hji6⟩ : ∃ j_ : Int, (mn a2 (wrap64 (t147 + t150))) = j_ := ⟨_, rfl⟩
 replace H : ((cippuskit_Urn_Up.f t151 t152 6).bind fun bt153 => ((cippuskit_Urn_From.f bt153.2.1 bt153.2.2 t147 a2).bind fun bt156 => ((cippuskit_Urn_Any.f bt156.2.1 bt156.2.2 (([t147, ji6, mn a2 (wrap64 (t147 + bt153.1)), bt156.1] : List Int))).bind fun bt162 => (some (t147, bt162.1, bt162.2.1, bt162.2.2))))) = some (r1, r2, r3, r4) := by first | (rw [hji6] at H; exact H) | (simp only [hji6] at H ⊢; exact H)
 (try rw [hji6] at A4)
 (try rw [hji6] at A5)
 have hji6_ : (if (wrap64 (t147 + t150)) < a2 then (wrap64 (t147 + t150)) else a2) = ji6 := hji6
 replace H := Option.bind_eq_some_iff.mp H
 obtain ⟨⟨t153, t154, t155⟩, A70, H⟩ := H
 replace H : ((cippuskit_Urn_From.f t154 t155 t147 a2).bind fun bt156 => ((cippuskit_Urn_Any.f bt156.2.1 bt156.2.2 (([t147, ji6, mn a2 (wrap64 (t147 + t153)), bt156.1] : List Int))).bind fun bt162 => (some (t147, bt162.1, bt162.2.1, bt162.2.2)))) = some (r1, r2, r3, r4) := H
 have A7 := Aside0.mk A70
 clear A70
 obtain ⟨ji8, hji8⟩ : ∃ j_ : Int, (mn a2 (wrap64 (t147 + t153))) = j_ := ⟨_, rfl⟩
 replace H : ((cippuskit_Urn_From.f t154 t155 t147 a2).bind fun bt156 => ((cippuskit_Urn_Any.f bt156.2.1 bt156.2.2 (([t147, ji6, ji8, bt156.1] : List Int))).bind fun bt162 => (some (t147, bt162.1, bt162.2.1, bt162.2.2)))) = some (r1, r2, r3, r4) := by first | (rw [hji8] at H; exact H) | (simp only [hji8] at H ⊢; exact H)
 (try rw [hji8] at A4)
 (try rw [hji8] at A5)
 (try rw [hji8] at A7)
 have hji8_ : (if (wrap64 (t147 + t153)) < a2 then (wrap64 (t147 + t153)) else a2) = ji8 := hji8
 replace H := Option.bind_eq_some_iff.mp H
 obtain ⟨⟨t156, t157, t158⟩, A90, H⟩ := H
 replace H : ((cippuskit_Urn_Any.f t157 t158 (([t147, ji6, ji8, t156] : List Int))).bind fun bt162 => (some (t147, bt162.1, bt162.2.1, bt162.2.2))) = some (r1, r2, r3, r4) := H
 have A9 := Aside0.mk A90
 clear A90
 obtain ⟨y159, hy159⟩ : ∃ y_ : List Int, y_ = (([t147, ji6, ji8, t156] : List Int)) := ⟨_, rfl⟩
 replace H : ((cippuskit_Urn_Any.f t157 t158 y159).bind fun bt162 => (some (t147, bt162.1, bt162.2.1, bt162.2.2))) = some (r1, r2, r3, r4) := by first | (rw [hy159]; with_reducible exact H) | (have H2_ := (Option.bind_some _ _).symm.trans H; rw [hy159]; with_reducible exact H2_) | (have H2_ := (Option.bind_some _ _).symm.trans H; with_reducible exact H2_) | with_reducible exact H | (rw [hy159]; exact H) | exact H
 have Ny159 := Aside0.mk hy159
 clear hy159
 replace H := Option.bind_eq_some_iff.mp H
 obtain ⟨⟨t162, t163, t164⟩, A100, H⟩ := H
 replace H : (some (t147, t162, t163, t164)) = some (r1, r2, r3, r4) := H
 have A10 := Aside0.mk A100
 clear A100
 simp only [Option.some.injEq, Prod.mk.injEq] at H
 obtain ⟨rfl, rfl, rfl, rfl⟩ := H
 go_enter Try.func72, Try.ntmps72
 go_wp2_with (first | ((with_reducible refine gate_dst (N := 6) rfl ?_); refine box_event ?hg (N := 6) ?hd (cs := #[.int .i64 0, .int .i64 0]) (t := 47) ?hr ?_; (case hd => rfl); (case hg => rfl); (case hr => first | (go_simp; done) | (go_simp; rfl)); intro gb146 hg w11 hbox hb; replace HB := Aside0.mk (below_step (uB HB) hb); have BK146 := Aside0.mk (hbox); have GW146 := Aside0.mk ((by rw [hg]; exact (keep_size (w := w) (g := g) (row := none) (uK HK)) : w.heap.size ≤ gb146)); have GE146 := Aside0.mk ((Nat.le_trans HW0.out (by rw [hg]; exact (keep_size (w := w) (g := g) (row := none) (uK HK)) : w.heap.size ≤ gb146) : w0.heap.size ≤ gb146)); have NB0_146 := Aside0.mk ((by rw [hg]; exact Nat.ne_of_lt (IsS83.lt (show IsS83 w0 _ g s0_0 s0_1 from uI HI0)) : g ≠ gb146)); have NB146_0 := Aside0.mk ((by rw [hg]; exact Nat.ne_of_gt (IsS83.lt (show IsS83 w0 _ g s0_0 s0_1 from uI HI0)) : gb146 ≠ g)); replace HI0 := Aside0.mk (IsS83.below (uI HI0) hb); replace HK := Aside0.mk (KeepBut.trans (uK HK) (KeepBut.of_below hb g none) (.inl rfl)); clear hb hbox hg) | ((with_reducible refine gate_callee (f := 18) rfl ?_); refine goesL_ (some 11) rfl rfl Try.func18 (by kernel_rfl) rfl #[.pointer (some ⟨g, 0, none⟩), .int .i64 a1, .int .i64 a2] rfl uA ?_; (with_reducible refine (cippuskit_Urn_From.calls g s0_0 s0_1 a1 a2 t147 t148 t149 w0 _ ?side1 ?side2 A4.out).mono ?_); (case side1 => exact uI HI0); (case side2 => exact uB HB); rintro e w12 ⟨rfl, hi, hb, hk⟩; refine ⟨_, rfl, ?_⟩; replace BK146 := Aside0.mk (KeepBut.blk hk (uk BK146) NB146_0.out (by simp)); replace HK := Aside0.mk (KeepBut.trans (uK HK) hk (.inl rfl)); replace HB := Aside0.mk (hb); replace HI0 := Aside0.mk (hi); (try clear hb); (try clear hb2); (try clear hk); (try clear hi)) | ((with_reducible refine gate_callee (f := 30) rfl ?_); refine goesL_ (some 18) rfl rfl Try.func30 (by kernel_rfl) rfl #[.pointer (some ⟨g, 0, none⟩), .int .i64 3] rfl uA ?_; (with_reducible refine (cippuskit_Urn_Up.calls g t148 t149 3 t150 t151 t152 w0 _ ?side1 ?side2 A5.out).mono ?_); (case side1 => exact uI HI0); (case side2 => exact uB HB); rintro e w13 ⟨rfl, hi, hb, hk⟩; refine ⟨_, rfl, ?_⟩; replace BK146 := Aside0.mk (KeepBut.blk hk (uk BK146) NB146_0.out (by simp)); replace HK := Aside0.mk (KeepBut.trans (uK HK) hk (.inl rfl)); replace HB := Aside0.mk (hb); replace HI0 := Aside0.mk (hi); (try clear hb); (try clear hb2); (try clear hk); (try clear hi)) | ((with_reducible refine gate_callee (f := 30) rfl ?_); refine goesL_ (some 24) rfl rfl Try.func30 (by kernel_rfl) rfl #[.pointer (some ⟨g, 0, none⟩), .int .i64 6] rfl uA ?_; (with_reducible refine (cippuskit_Urn_Up.calls g t151 t152 6 t153 t154 t155 w0 _ ?side1 ?side2 A7.out).mono ?_); (case side1 => exact uI HI0); (case side2 => exact uB HB); rintro e w14 ⟨rfl, hi, hb, hk⟩; refine ⟨_, rfl, ?_⟩; replace BK146 := Aside0.mk (KeepBut.blk hk (uk BK146) NB146_0.out (by simp)); replace HK := Aside0.mk (KeepBut.trans (uK HK) hk (.inl rfl)); replace HB := Aside0.mk (hb); replace HI0 := Aside0.mk (hi); (try clear hb); (try clear hb2); (try clear hk); (try clear hi)) | ((with_reducible refine gate_callee (f := 18) rfl ?_); refine goesL_ (some 30) rfl rfl Try.func18 (by kernel_rfl) rfl #[.pointer (some ⟨g, 0, none⟩), .int .i64 t147, .int .i64 a2] rfl uA ?_; (with_reducible refine (cippuskit_Urn_From.calls g t154 t155 t147 a2 t156 t157 t158 w0 _ ?side1 ?side2 A9.out).mono ?_); (case side1 => exact uI HI0); (case side2 => exact uB HB); rintro e w15 ⟨rfl, hi, hb, hk⟩; refine ⟨_, rfl, ?_⟩; replace BK146 := Aside0.mk (KeepBut.blk hk (uk BK146) NB146_0.out (by simp)); replace HK := Aside0.mk (KeepBut.trans (uK HK) hk (.inl rfl)); replace HB := Aside0.mk (hb); replace HI0 := Aside0.mk (hi); (try clear hb); (try clear hb2); (try clear hk); (try clear hi)) | ((with_reducible refine gate_dst (N := 31) rfl ?_); refine Kd.R_lit (Kd.int .i64) _ 3 ?hg (N := 31) ?hd (xs := ([t147, ji6, ji8, t156] : List Int)) (inner := [.int .i64 t147, .int .i64 ji6, .int .i64 ji8, .int .i64 t156]) (ok := fun _ => True) (okp := fun _ => True) ?hr ?hp (fun _ hk => hk) trivial (Below.refl _ _) (Nat.le_refl _) (by simp) ?_; (case hd => rfl); (case hg => rfl); (case hr => first | (go_simp; done) | (go_simp; rfl)); (case hp => exact (Reps.one (show Kd.M (Kd.int .i64) _ _ _ t147 [.int .i64 t147] from rfl) (Reps.one (show Kd.M (Kd.int .i64) _ _ _ ji6 [.int .i64 ji6] from rfl) (Reps.one (show Kd.M (Kd.int .i64) _ _ _ ji8 [.int .i64 ji8] from rfl) (Reps.one (show Kd.M (Kd.int .i64) _ _ _ t156 [.int .i64 t156] from rfl) (Reps.none _ _)))))); intro v160 w16 ho17 hb hg_ hnew_; clear hg_ hnew_; (first | rw [← Ny159.out] at ho17 | (simp only [Int.reduceToNat] at ho17; rw [← Ny159.out] at ho17)); have HO161 := Aside0.mk (Kd.R_lower ho17 (keep_size (w := w) (g := g) (row := none) (uK HK))); replace BK146 := Aside0.mk (blk_below (uk BK146) hb); replace HB := Aside0.mk (below_step (uB HB) hb); replace HI0 := Aside0.mk (IsS83.below (uI HI0) hb); replace HK := Aside0.mk (KeepBut.trans (uK HK) (KeepBut.of_below hb g none) (.inl rfl)); clear hb ho17; obtain ⟨Ao18, co18, eo18⟩ := Kd.R_slice HO161.out; subst eo18) | ((with_reducible refine gate_callee (f := 32) rfl ?_); refine goesL_ (some 32) rfl rfl Try.func32 (by kernel_rfl) rfl #[.pointer (some ⟨g, 0, none⟩), .slice Ao18 y159.length co18] rfl uA ?_; (with_reducible refine (cippuskit_Urn_Any.calls g t157 t158 _ _ y159 t162 t163 t164 w0 _ ?side1 ?side2 ?side3 ?side4 ?side5 A10.out).mono ?_); (case side1 => exact uI HI0); (case side2 => exact uB HB); (case side3 => exact uD (Kd.R_reads' HO161.out).2.2); (case side4 => exact (Kd.R_reads' HO161.out).2.1); (case side5 => exact far_slice (IsS83.own_ne HI0.out HO161.out (by decide))); rintro e w19 ⟨rfl, hi, hb, hk⟩; refine ⟨_, rfl, ?_⟩; replace BK146 := Aside0.mk (KeepBut.blk hk (uk BK146) NB146_0.out (by simp)); replace HO161 := Aside0.mk (Kd.R_mono (Kd.R_keep (IsS83.apart (show IsS83 w0 _ g t157 t158 from uI HI0) (uR HO161) (by decide)) hk (fun _ h => h.2)) (fun _ h => h.1)); replace HK := Aside0.mk (KeepBut.trans (uK HK) hk (.inl rfl)); replace HB := Aside0.mk (hb); replace HI0 := Aside0.mk (hi); (try clear hb); (try clear hb2); (try clear hk); (try clear hi); have hnb20 := NB146_0.out; have hnc20 := NB0_146.out; have hcz21_0 := uc (w := w19) BK146 0; have hcz21_1 := uc (w := w19) BK146 1; have hfz21_0 := blk_frozen BK146.out 0; have hfz21_1 := blk_frozen BK146.out 1))
 refine bodyPost_ret (results_cell_row rfl _ _ gb146 47 #[.int .i64 t147, .int .i64 t162] (0, 0) _ rfl (by (with_reducible repeat (first | refine blk_drewN ?_ _ | refine blk_drew ?_ | refine blk_alloc ?_ _)); refine blk_put (cs := #[.int .i64 t147, .int .i64 0]) ?_ 1 _ rfl; (with_reducible repeat (first | refine blk_drewN ?_ _ | refine blk_drew ?_ | refine blk_alloc ?_ _)); refine blk_put (cs := #[.int .i64 0, .int .i64 0]) ?_ 0 _ rfl; (with_reducible repeat (first | refine blk_drewN ?_ _ | refine blk_drew ?_ | refine blk_alloc ?_ _)); exact BK146.out) Try.underlying47 rfl (by kernel_rfl)) rfl ?_
 exact ⟨by first | rfl | (simp [errW_none, errW_some] <;> rfl) | (simp only [← hji6, ← hji8]; first | rfl | (simp [errW_none, errW_some] <;> rfl)) | (simp [*, errW_none, errW_some] <;> rfl), uI HI0, uB HB, uK HK⟩
end Go.Proofs.Ytkfebceainedfaa.P
namespace Go.Proofs.Ytkfebceainedfaa.P
open Go.RowKit Go.Proofs.YtkfebceainedfaaW.PrintWords Go.Proofs.YtkfebceainedfaaW.PrintLast Go.Proofs.YtkfebceainedfaaW.PrintMore
attribute [local go_sem] max2_int min2_int max_two min_two max_three min_three max_four min_four   -- for this text's walks alone
set_option linter.unusedVariables false
set_option linter.unusedSimpArgs false
def gap_letters_with.f (a0 : Int) (a1 : Int) : Option (Int) := some (Go.bits .or .u32 a0 (shl .u32 1 ((a1 - 65) % 256)))
set_option maxHeartbeats 8000000 in
set_option maxRecDepth 100000 in
theorem gap_letters_with.calls (a0 : Int) (a1 : Int) (r : Int) (w : World) (h : gap_letters_with.f a0 a1 = some r) :
  Calls Try.prog 58 #[.int .u32 a0, .int .u8 a1] w fun e w' => e = .returned (.int .u32 r) ∧ Drawn0 w w' := by
 have H : (some (Go.bits .or .u32 a0 (shl .u32 1 ((a1 - 65) % 256)))) = some r := h
 clear h
 obtain ⟨ji3, hji3⟩ : ∃ j_ : Int, (shl .u32 1 ((a1 - 65) % 256)) = j_ := ⟨_, rfl⟩
 replace H : (some (Go.bits .or .u32 a0 (ji3))) = some r := by first | (rw [hji3] at H; exact H) | (simp only [hji3] at H ⊢; exact H)
 have hji3_ : (IntKind.u32.wrap (1 * 2 ^ min ((a1 - 65) % 256).toNat 32)) = ji3 := hji3
 have hji3z : ((a1 - 65) % 256) ≤ 32 → (IntKind.u32.wrap (1 * 2 ^ ((a1 - 65) % 256).toNat)) = ji3 := shl_small hji3
 have hji3u : (IntKind.u32.wrap (2 ^ min ((a1 - 65) % 256).toNat 32)) = ji3 := by have h_ := hji3_; rw [Int.one_mul] at h_; exact h_
 have hji3v : ((a1 - 65) % 256) ≤ 32 → (IntKind.u32.wrap (2 ^ ((a1 - 65) % 256).toNat)) = ji3 := fun hle_ => by have h_ := hji3z hle_; rw [Int.one_mul] at h_; exact h_
 obtain rfl := Option.some.inj H
 go_enter Try.func58, Try.ntmps58
 go_wp2
 go_ret
 exact ⟨by first | rfl | (simp; done) | (simp only [OFix.ne_nil_b]; done) | (simp only [← hji3, OFix.ne_nil_b]; done) | (simp only [← hji3] <;> (first | rfl | simp)) | (simp [*]; done), by repeat (first | exact Drawn0.refl _ | apply Drawn0.step)⟩
end Go.Proofs.Ytkfebceainedfaa.P
namespace Go.Proofs.Ytkfebceainedfaa.P
open Go.RowKit Go.Proofs.YtkfebceainedfaaW.PrintWords Go.Proofs.YtkfebceainedfaaW.PrintLast Go.Proofs.YtkfebceainedfaaW.PrintMore
attribute [local go_sem] max2_int min2_int max_two min_two max_three min_three max_four min_four   -- for this text's walks alone
set_option linter.unusedVariables false
set_option linter.unusedSimpArgs false
def gap_of.l0 : Nat → Int → Int → Int → ByteArray → Bool → Int → Int → Option (Int)
 | 0, _, _, _, _, _, _, _ => none
 | k + 1, x3, x10, x11, x338000, x338001, x338002, x338003 => if x11 < x10 then (if 0 ≤ x11 then (if x11 < (x338000.size : Int) then ((gap_letters_with.f x3 (bt x338000 x11)).bind fun t338 => (gap_of.l0 k t338 x10 (wrap64 (x11 + 1)) x338000 x338001 x338002 x338003)) else (none)) else (none)) else (some x3)
def gap_of.f (k : Nat) (a0_0 : ByteArray) (a0_1 : Bool) (a0_2 : Int) (a0_3 : Int) : Option (Int) := if a0_0.toList = ([] : List UInt8) then (some 67108863) else (gap_of.l0 k 0 (a0_0.size : Int) 0 a0_0 a0_1 a0_2 a0_3)
set_option maxHeartbeats 8000000 in
set_option maxRecDepth 100000 in
theorem gap_of.calls (k : Nat) (a0_0 : ByteArray) (a0_1 : Bool) (a0_2 : Int) (a0_3 : Int) (r : Int) (w : World) (h : gap_of.f k a0_0 a0_1 a0_2 a0_3 = some r) :
  Calls Try.prog 77 #[.agg #[.string a0_0, .bool a0_1, .int .i64 a0_2, .int .i64 a0_3]] w fun e w' => e = .returned (.int .u32 r) ∧ Below w.heap.size w w' := by
 have hu49 := Try.underlying49
 have HB := Aside0.mk (Below.refl w.heap.size w)
 have H : (if a0_0.toList = ([] : List UInt8) then (some 67108863) else (gap_of.l0 k 0 (a0_0.size : Int) 0 a0_0 a0_1 a0_2 a0_3)) = some r := h
 clear h
 by_cases c2 : a0_0.toList = ([] : List UInt8)
 ·rw [if_pos c2] at H
  have c2b0 : (a0_0.toList == ([] : List UInt8)) = true := beq_iff_eq.mpr c2
  have c2b1 : (a0_0.toList != ([] : List UInt8)) = false := bne_eq_false_iff_eq.mpr c2
  clear c2
  obtain rfl := Option.some.inj H
  go_enter Try.func77, Try.ntmps77
  go_wp2_with (first | ((with_reducible refine gate_dst (N := 1) rfl ?_); refine box_event ?hg (N := 1) ?hd (cs := #[.string a0_0, .bool a0_1, .int .i64 a0_2, .int .i64 a0_3]) (t := 49) ?hr ?_; (case hd => rfl); (case hg => rfl); (case hr => first | (go_simp; done) | (go_simp; rfl)); intro gb337 hg w3 hbox hb; have BK337 := Aside0.mk (hbox); have GW337 := Aside0.mk ((by rw [hg]; exact (below_size (uB HB)) : w.heap.size ≤ gb337)); have GE337 := Aside0.mk ((by rw [hg]; exact (below_size (uB HB)) : w.heap.size ≤ gb337)); replace HB := Aside0.mk (below_step (uB HB) hb); clear hb hbox hg; have hcz4_0 := uc (w := w3) BK337 0; have hcz4_1 := uc (w := w3) BK337 1; have hcz4_2 := uc (w := w3) BK337 2; have hcz4_3 := uc (w := w3) BK337 3; have hfz4_0 := blk_frozen BK337.out 0; have hfz4_1 := blk_frozen BK337.out 1; have hfz4_2 := blk_frozen BK337.out 2; have hfz4_3 := blk_frozen BK337.out 3))
  go_ret
  exact ⟨uE, uB HB⟩
 ·rw [if_neg c2] at H
  have c2b0 : (a0_0.toList == ([] : List UInt8)) = false := beq_eq_false_iff_ne.mpr c2
  have c2b1 : (a0_0.toList != ([] : List UInt8)) = true := bne_iff_ne.mpr c2
  have H' := Aside0.mk H
  clear H
  go_enter Try.func77, Try.ntmps77
  go_wp2_with (first | ((with_reducible refine gate_dst (N := 1) rfl ?_); refine box_event ?hg (N := 1) ?hd (cs := #[.string a0_0, .bool a0_1, .int .i64 a0_2, .int .i64 a0_3]) (t := 49) ?hr ?_; (case hd => rfl); (case hg => rfl); (case hr => first | (go_simp; done) | (go_simp; rfl)); intro gb337 hg w5 hbox hb; have BK337 := Aside0.mk (hbox); have GW337 := Aside0.mk ((by rw [hg]; exact (below_size (uB HB)) : w.heap.size ≤ gb337)); have GE337 := Aside0.mk ((by rw [hg]; exact (below_size (uB HB)) : w.heap.size ≤ gb337)); replace HB := Aside0.mk (below_step (uB HB) hb); clear hb hbox hg; have hcz6_0 := uc (w := w5) BK337 0; have hcz6_1 := uc (w := w5) BK337 1; have hcz6_2 := uc (w := w5) BK337 2; have hcz6_3 := uc (w := w5) BK337 3; have hfz6_0 := blk_frozen BK337.out 0; have hfz6_1 := blk_frozen BK337.out 1; have hfz6_2 := blk_frozen BK337.out 2; have hfz6_3 := blk_frozen BK337.out 3))
  go_loopg [3, 11] k (fun kq v3 v11 w' => ∃ (x3_1 : Int) (x11_1 : Int), v3 = .int .u32 x3_1 ∧ v11 = .int .i64 x11_1 ∧ Aside0 (gap_of.l0 kq x3_1 (a0_0.size : Int) x11_1 a0_0 a0_1 a0_2 a0_3 = some r) ∧ Aside0 (kq ≤ k) ∧ Aside0 (w'.heap[gb337]? = some (.cells #[.string a0_0, .bool a0_1, .int .i64 a0_2, .int .i64 a0_3] 49 (0, 0))) ∧ Aside0 (Below w.heap.size w w'))
  case atStart => exact ⟨(0), (0), uS, uS, H', ⟨Nat.le_refl _⟩, ⟨uk BK337⟩, ⟨uB HB⟩⟩
  case round =>
   clear H'
   try clear c2
   try clear c2b0
   try clear c2b1
   try clear p2
   try clear hcz4_0
   try clear hcz4_1
   try clear hcz4_2
   try clear hcz4_3
   try clear hcz6_0
   try clear hcz6_1
   try clear hcz6_2
   try clear hcz6_3
   try clear hfz4_0
   try clear hfz4_1
   try clear hfz4_2
   try clear hfz4_3
   try clear hfz6_0
   try clear hfz6_1
   try clear hfz6_2
   try clear hfz6_3
   obtain ⟨x3_1, x11_1, rfl, rfl, HA, HK1, BK337, HB⟩ := hrel
   cases gk with
   | zero => exact absurd HA.out (by simp [gap_of.l0])
   | succ k1 =>
    have H := HA.out
    clear HA
    simp only [gap_of.l0] at H
    by_cases c7 : x11_1 < (a0_0.size : Int)
    ·rw [if_pos c7] at H
     have c7b0 : decide (x11_1 < (a0_0.size : Int)) = true := decide_eq_true c7
     clear c7
     by_cases c8 : 0 ≤ x11_1
     ·rw [if_pos c8] at H
      have c8b0 : decide (0 ≤ x11_1) = true := decide_eq_true c8
      clear c8
      by_cases c9 : x11_1 < (a0_0.size : Int)
      ·rw [if_pos c9] at H
       have c9b0 : decide (x11_1 < (a0_0.size : Int)) = true := decide_eq_true c9
       clear c9
       replace H := Option.bind_eq_some_iff.mp H
       obtain ⟨t338, A110, H⟩ := H
       replace H : (gap_of.l0 k1 t338 (a0_0.size : Int) (wrap64 (x11_1 + 1)) a0_0 a0_1 a0_2 a0_3) = some r := H
       have A11 := Aside0.mk A110
       clear A110
       have H' := Aside0.mk H
       clear H
       have hcz12_0 := uc (w := wr) BK337 0
       have hcz12_1 := uc (w := wr) BK337 1
       have hcz12_2 := uc (w := wr) BK337 2
       have hcz12_3 := uc (w := wr) BK337 3
       have hfz12_0 := blk_frozen BK337.out 0
       have hfz12_1 := blk_frozen BK337.out 1
       have hfz12_2 := blk_frozen BK337.out 2
       have hfz12_3 := blk_frozen BK337.out 3
       have p10 : 0 ≤ (x11_1 : Int) := of_decide_eq_true ua
       have q10 : x11_1 < (a0_0.size : Int) := of_decide_eq_true ua
       have hx10 := bt_at a0_0 x11_1
       replace p10 := eq_true p10
       replace q10 := eq_true q10
       go_wp2_with (first | ((with_reducible refine gate_callee (f := 58) rfl ?_); refine goesL_ (some 19) rfl rfl Try.func58 (by kernel_rfl) rfl #[.int .u32 x3_1, .int .u8 (bt a0_0 x11_1)] rfl uA ?_; (with_reducible refine (gap_letters_with.calls x3_1 (bt a0_0 x11_1) t338 _ A11.out).mono ?_); rintro e w' ⟨rfl, ⟨nd, rfl⟩⟩; refine ⟨_, rfl, ?_⟩))
       go_roundg k1
       case measure => have := HK1.out; omega
       case rel => exact ⟨(t338), (wrap64 (x11_1 + 1)), uS, uS, H', ⟨by have := HK1.out; omega⟩, ⟨uk BK337⟩, ⟨uB HB⟩⟩
      ·rw [if_neg c9] at H
       exact absurd H (by simp)
     ·rw [if_neg c8] at H
      exact absurd H (by simp)
    ·rw [if_neg c7] at H
     have c7b0 : decide (x11_1 < (a0_0.size : Int)) = false := decide_eq_false c7
     clear c7
     obtain rfl := Option.some.inj H
     go_wp2
     go_ret
     exact ⟨uE, uB HB⟩
end Go.Proofs.Ytkfebceainedfaa.P
namespace Go.Proofs.Ytkfebceainedfaa.P
open Go.RowKit Go.Proofs.YtkfebceainedfaaW.PrintWords Go.Proofs.YtkfebceainedfaaW.PrintLast Go.Proofs.YtkfebceainedfaaW.PrintMore
attribute [local go_sem] max2_int min2_int max_two min_two max_three min_three max_four min_four   -- for this text's walks alone
set_option linter.unusedVariables false
set_option linter.unusedSimpArgs false
def gap_letters_has.f (a0 : Int) (a1 : Int) : Option (Bool) := some ((Go.bits .and .u32 (shr .u32 a0 ((a1 - 65) % 256)) 1) == 1)
set_option maxHeartbeats 8000000 in
set_option maxRecDepth 100000 in
theorem gap_letters_has.calls (a0 : Int) (a1 : Int) (r : Bool) (w : World) (h : gap_letters_has.f a0 a1 = some r) :
  Calls Try.prog 81 #[.int .u32 a0, .int .u8 a1] w fun e w' => e = .returned (.bool r) ∧ Drawn0 w w' := by
 have H : (some ((Go.bits .and .u32 (shr .u32 a0 ((a1 - 65) % 256)) 1) == 1)) = some r := h
 clear h
 obtain ⟨ji3, hji3⟩ : ∃ j_ : Int, (shr .u32 a0 ((a1 - 65) % 256)) = j_ := ⟨_, rfl⟩
 replace H : (some ((Go.bits .and .u32 (ji3) 1) == 1)) = some r := by first | (rw [hji3] at H; exact H) | (simp only [hji3] at H ⊢; exact H)
 have hji3_ : (a0 / 2 ^ min ((a1 - 65) % 256).toNat 32) = ji3 := hji3
 have hji3z : ((a1 - 65) % 256) ≤ 32 → (a0 / 2 ^ ((a1 - 65) % 256).toNat) = ji3 := shr_small hji3
 obtain rfl := Option.some.inj H
 go_enter Try.func81, Try.ntmps81
 go_wp2
 go_ret
 exact ⟨by first | rfl | (simp; done) | (simp only [OFix.ne_nil_b]; done) | (simp only [← hji3, OFix.ne_nil_b]; done) | (simp only [← hji3] <;> (first | rfl | simp)) | (simp [*]; done), by repeat (first | exact Drawn0.refl _ | apply Drawn0.step)⟩
end Go.Proofs.Ytkfebceainedfaa.P
namespace Go.Proofs.Ytkfebceainedfaa.OwnGap
set_option linter.unusedVariables false
set_option linter.unusedSimpArgs false
theorem flatMap_eq {α β : Type} {f g : α → List β} : ∀ {l : List α}, (∀ x ∈ l, f x = g x) → l.flatMap f = l.flatMap g
 | [], _ => rfl
 | a :: l, h => by rw [List.flatMap_cons, List.flatMap_cons, h a (by simp), flatMap_eq (fun x hx => h x (by simp [hx]))]
theorem filterMap_flat {α β : Type} (f : α → Option β) : ∀ l : List α, l.filterMap f = l.flatMap fun x => (f x).toList
 | [] => rfl
 | a :: l => by
  rw [List.filterMap_cons, List.flatMap_cons, ← filterMap_flat f l]
  cases f a <;> rfl
structure Rw where
 n : Nat
 gap : Nat → Bool
 fit : Nat → Int → Bool
 lo : Nat → Int
 hi : Nat → Int
 wl : Int → Int
 wh : Int → Int
def okW (R : Rw) (i : Nat) (l h : Int) : Bool := decide (l ≤ R.hi i ∧ R.lo i ≤ h)
def gapF (R : Rw) (next : List Int → List (List Int)) (i : Nat) : Nat → Int → Int → List Int → List (List Int)
 | m, l, h, [] => if okW R i l h = true then (next []).map ((m : Int) :: ·) else []
 | m, l, h, a :: t => (if okW R i l h = true then (next (a :: t)).map ((m : Int) :: ·) else []) ++ (if m + 1 ≤ 10 then gapF R next i (m + 1) (l + R.wl a) (h + R.wh a) t else [])
def fillsF (R : Rw) : Nat → Nat → List Int → List (List Int)
 | 0, _, t => if t = [] then [[]] else []
 | rem + 1, i, t => if R.gap i = false then (match t with | [] => [] | a :: t' => if R.fit i a = true then fillsF R rem (i + 1) t' else [])
   else gapF R (fillsF R rem (i + 1)) i 0 0 0 t
def compF (R : Rw) : Nat → Nat → Nat → Int → Int → List Int → List (List Int)
 | 0, i, _, _, _, t => fillsF R 0 i t
 | rem + 1, i, m, l, h, t => if R.gap i = false then fillsF R (rem + 1) i t else gapF R (fillsF R rem (i + 1)) i m l h t
theorem compF_succ (R : Rw) (rem i m : Nat) (l h : Int) (t : List Int) : compF R (rem + 1) i m l h t = if R.gap i = false then fillsF R (rem + 1) i t else gapF R (fillsF R rem (i + 1)) i m l h t := rfl
theorem fillsF_succ (R : Rw) (rem i : Nat) (t : List Int) : fillsF R (rem + 1) i t = if R.gap i = false then (match t with | [] => [] | a :: t' => if R.fit i a = true then fillsF R rem (i + 1) t' else []) else gapF R (fillsF R rem (i + 1)) i 0 0 0 t := rfl
theorem gapF_nil (R : Rw) (next : List Int → List (List Int)) (i m : Nat) (l h : Int) : gapF R next i m l h [] = if okW R i l h = true then (next []).map ((m : Int) :: ·) else [] := by rw [gapF]
theorem gapF_cons (R : Rw) (next : List Int → List (List Int)) (i m : Nat) (l h a : Int) (t : List Int) : gapF R next i m l h (a :: t) = (if okW R i l h = true then (next (a :: t)).map ((m : Int) :: ·) else []) ++ (if m + 1 ≤ 10 then gapF R next i (m + 1) (l + R.wl a) (h + R.wh a) t else []) := by rw [gapF]
theorem compF_start (R : Rw) (rem i : Nat) (t : List Int) : compF R rem i 0 0 0 t = fillsF R rem i t := by
 cases rem with
 | zero => rfl
 | succ rem =>
  rw [compF_succ]
  split
  ·rfl
  ·rename_i h
   rw [fillsF_succ, if_neg h]
structure Pth where
 i : Nat
 m : Nat
 l : Int
 h : Int
 fs : List Int
def letterF (R : Rw) : Nat → Nat → Nat → Int → Int → List Int → Int → List Pth
 | 0, _, _, _, _, _, _ => []
 | rem + 1, i, m, l, h, fs, a => if R.gap i = false then (if R.fit i a = true then [⟨i + 1, 0, 0, 0, fs⟩] else [])
   else (if okW R i l h = true then letterF R rem (i + 1) 0 0 0 (fs ++ [(m : Int)]) a else []) ++ (if m + 1 ≤ 10 ∧ l + R.wl a ≤ R.hi i then [⟨i, m + 1, l + R.wl a, h + R.wh a, fs⟩] else [])
theorem letterF_succ (R : Rw) (rem i m : Nat) (l h : Int) (fs : List Int) (a : Int) : letterF R (rem + 1) i m l h fs a = if R.gap i = false then (if R.fit i a = true then [⟨i + 1, 0, 0, 0, fs⟩] else [])
   else (if okW R i l h = true then letterF R rem (i + 1) 0 0 0 (fs ++ [(m : Int)]) a else []) ++ (if m + 1 ≤ 10 ∧ l + R.wl a ≤ R.hi i then [⟨i, m + 1, l + R.wl a, h + R.wh a, fs⟩] else []) := rfl
def compP (R : Rw) (p : Pth) (t : List Int) : List (List Int) := (compF R (R.n - p.i) p.i p.m p.l p.h t).map (p.fs ++ ·)
def letterP (R : Rw) (p : Pth) (a : Int) : List Pth := letterF R (R.n - p.i) p.i p.m p.l p.h p.fs a
theorem gapF_wide (R : Rw) (next : List Int → List (List Int)) (i : Nat) : ∀ (t : List Int) (m : Nat) (l h : Int), R.hi i < l → (∀ a ∈ t, 0 ≤ R.wl a) → gapF R next i m l h t = []
 | [], m, l, h, hl, _ => by
  rw [gapF_nil, if_neg]
  simp [okW]
  omega
 | a :: t, m, l, h, hl, hw => by
  rw [gapF_cons, if_neg (by simp [okW]; omega)]
  rw [gapF_wide R next i t (m + 1) (l + R.wl a) (h + R.wh a) (by have := hw a (by simp); omega) (fun b hb => hw b (by simp [hb]))]
  split <;> rfl
theorem letter_step (R : Rw) (a : Int) (t : List Int) (hw : ∀ b ∈ t, 0 ≤ R.wl b) : ∀ (rem i m : Nat) (l h : Int) (fs : List Int), i + rem = R.n →
  (compF R rem i m l h (a :: t)).map (fs ++ ·) = (letterF R rem i m l h fs a).flatMap (compP R · t) := by
 intro rem
 induction rem with
 | zero => intro i m l h fs hi; simp [compF, fillsF, letterF]
 | succ rem ih =>
  intro i m l h fs hi
  have e1 : ∀ q : Pth, q.i = i + 1 → R.n - q.i = rem := fun q hq => by omega
  by_cases hg : R.gap i = false
  ·rw [compF_succ, letterF_succ, fillsF_succ, if_pos hg, if_pos hg, if_pos hg]
   by_cases hf : R.fit i a = true
   ·simp only [hf, if_true, List.flatMap_cons, List.flatMap_nil, List.append_nil]
    unfold compP
    rw [show R.n - (i + 1) = rem by omega, compF_start]
   ·simp [hf]
  ·rw [compF_succ, letterF_succ, if_neg hg, if_neg hg, gapF_cons, List.map_append, List.flatMap_append]
   congr 1
   ·by_cases hk : okW R i l h = true
    ·rw [if_pos hk, if_pos hk, ← ih (i + 1) 0 0 0 (fs ++ [(m : Int)]) (by omega), compF_start, List.map_map]
     apply List.map_congr_left
     intro x _
     simp
    ·rw [if_neg hk, if_neg hk]; rfl
   ·by_cases hm : m + 1 ≤ 10
    ·rw [if_pos hm]
     by_cases hl : l + R.wl a ≤ R.hi i
     ·rw [if_pos ⟨hm, hl⟩]
      simp only [List.flatMap_cons, List.flatMap_nil, List.append_nil]
      unfold compP
      rw [show R.n - i = rem + 1 by omega]
      rw [compF_succ, if_neg hg]
     ·rw [if_neg (fun h => hl h.2), gapF_wide R _ i t _ _ _ (by omega) hw]
      rfl
    ·rw [if_neg hm, if_neg (fun h => hm h.1)]
     rfl
theorem letterP_step (R : Rw) (p : Pth) (a : Int) (t : List Int) (hp : p.i ≤ R.n) (hw : ∀ b ∈ t, 0 ≤ R.wl b) : compP R p (a :: t) = (letterP R p a).flatMap (compP R · t) :=
 letter_step R a t hw (R.n - p.i) p.i p.m p.l p.h p.fs (by omega)
theorem letterF_le (R : Rw) (a : Int) : ∀ (rem i m : Nat) (l h : Int) (fs : List Int), i + rem = R.n → ∀ q ∈ letterF R rem i m l h fs a, q.i ≤ R.n := by
 intro rem
 induction rem with
 | zero => intro i m l h fs hi q hq; simp [letterF] at hq
 | succ rem ih =>
  intro i m l h fs hi q hq
  unfold letterF at hq
  split at hq
  ·split at hq
   ·simp at hq; subst hq; show i + 1 ≤ R.n; omega
   ·simp at hq
  ·rw [List.mem_append] at hq
   rcases hq with hq | hq
   ·split at hq
    ·exact ih (i + 1) 0 0 0 _ (by omega) q hq
    ·simp at hq
   ·split at hq
    ·simp at hq; subst hq; show i ≤ R.n; omega
    ·simp at hq
def wordF (R : Rw) : List Pth → List Int → List Pth
 | l, [] => l
 | l, a :: t => wordF R (l.flatMap (letterP R · a)) t
theorem wordF_nil (R : Rw) (t : List Int) : wordF R [] t = [] := by
 induction t with
 | nil => rfl
 | cons a t ih => unfold wordF; simpa using ih
theorem wordF_append (R : Rw) : ∀ (t u : List Int) (l : List Pth), wordF R l (t ++ u) = wordF R (wordF R l t) u
 | [], u, l => rfl
 | a :: t, u, l => by
  show wordF R (l.flatMap (letterP R · a)) (t ++ u) = wordF R (wordF R (l.flatMap (letterP R · a)) t) u
  exact wordF_append R t u _
theorem word_step (R : Rw) (u : List Int) (hu : ∀ b ∈ u, 0 ≤ R.wl b) : ∀ (t : List Int) (l : List Pth), (∀ q ∈ l, q.i ≤ R.n) → (∀ b ∈ t, 0 ≤ R.wl b) →
  l.flatMap (compP R · (t ++ u)) = (wordF R l t).flatMap (compP R · u)
 | [], l, _, _ => rfl
 | a :: t, l, hl, ht => by
  unfold wordF
  rw [← word_step R u hu t _ (fun q hq => by
   obtain ⟨p, hp, hx⟩ := List.mem_flatMap.1 hq
   have := hl p hp
   exact letterF_le R a _ _ _ _ _ _ (by omega) q hx) (fun b hb => ht b (by simp [hb])), List.flatMap_assoc]
  refine flatMap_eq fun p hp => ?_
  refine letterP_step R p a (t ++ u) (hl p hp) (fun b hb => ?_)
  rcases List.mem_append.1 hb with hb | hb
  ·exact ht b (by simp [hb])
  ·exact hu b hb
def doneF (R : Rw) : Nat → Nat → Nat → Int → Int → List Int → Option (List Int)
 | 0, _, _, _, _, fs => some fs
 | rem + 1, i, m, l, h, fs => if R.gap i = true ∧ okW R i l h = true then doneF R rem (i + 1) 0 0 0 (fs ++ [(m : Int)]) else none
theorem done_comp (R : Rw) : ∀ (rem i m : Nat) (l h : Int) (fs : List Int), (compF R rem i m l h []).map (fs ++ ·) = (doneF R rem i m l h fs).toList := by
 intro rem
 induction rem with
 | zero => intro i m l h fs; simp [compF, fillsF, doneF]
 | succ rem ih =>
  intro i m l h fs
  rw [compF_succ, doneF]
  by_cases hg : R.gap i = false
  ·rw [if_pos hg, if_neg (by simp [hg])]
   rw [fillsF_succ, if_pos hg]
   rfl
  ·have hg' : R.gap i = true := by simpa using hg
   rw [if_neg hg]
   rw [gapF_nil]
   by_cases hk : okW R i l h = true
   ·rw [if_pos hk, if_pos ⟨hg', hk⟩, ← ih (i + 1) 0 0 0, compF_start, List.map_map]
    apply List.map_congr_left
    intro x _
    simp
   ·rw [if_neg hk, if_neg (fun h => hk h.2)]
    rfl
def doneP (R : Rw) (p : Pth) : Option (List Int) := doneF R (R.n - p.i) p.i p.m p.l p.h p.fs
theorem doneP_comp (R : Rw) (p : Pth) : compP R p [] = (doneP R p).toList := done_comp R _ _ _ _ _ _
def p0 : Pth := ⟨0, 0, 0, 0, []⟩
theorem fills_paths (R : Rw) (t : List Int) (ht : ∀ b ∈ t, 0 ≤ R.wl b) : fillsF R R.n 0 t = (wordF R [p0] t).filterMap (doneP R) := by
 have h := word_step R [] (by simp) t [p0] (by intro q hq; simp at hq; subst hq; exact Nat.zero_le _) ht
 rw [List.append_nil] at h
 have e : [p0].flatMap (compP R · t) = fillsF R R.n 0 t := by
  simp only [List.flatMap_cons, List.flatMap_nil, List.append_nil]
  show (compF R (R.n - 0) 0 0 0 0 t).map ([] ++ ·) = _
  rw [compF_start]
  simp
 rw [← e, h]
 rw [filterMap_flat]
 exact flatMap_eq fun p _ => doneP_comp R p
end Go.Proofs.Ytkfebceainedfaa.OwnGap
namespace Go.Proofs.Ytkfebceainedfaa.P.OwnGap
open Go.RowKit Go.Proofs.YtkfebceainedfaaW.PrintWords Go.Proofs.YtkfebceainedfaaW.PrintLast Go.Proofs.YtkfebceainedfaaW.PrintMore
open Go.Proofs.Ytkfebceainedfaa.OwnGap
set_option linter.unusedVariables false
set_option linter.unusedSimpArgs false
structure Lx where
 l0 : List S53
 l1 : List Bool
 l2 : List Bool
 l3 : List (List Bool)
 l4 : List S47
 r : List S49
structure SV where
 b : Nat
 cs : Array Value
 mb : Nat
 A0 : Option Addr
 c0 : Nat
 A1 : Option Addr
 c1 : Nat
 A2 : Option Addr
 c2 : Nat
 A3 : Option Addr
 c3 : Nat
 Ar : Option Addr
 cr : Nat
 Af : Option Addr
 cf : Nat
def fitB (s : ByteArray) (a : Int) : Bool := s.size == 0 || (bytesOf s).contains a
def rwOf (X : Lx) : Rw := ⟨X.r.length, fun i => (rd_T49 X.r (i : Int)).f1, fun i a => fitB (rd_T49 X.r (i : Int)).f0 a, fun i => (rd_T49 X.r (i : Int)).f2.f0, fun i => (rd_T49 X.r (i : Int)).f2.f1, fun a => (rd_T47 X.l4 (a - 65)).f0, fun a => (rd_T47 X.l4 (a - 65)).f1⟩
structure SrW (X : Lx) (S : SV) (fits : List Int) (W : World) : Prop where
 blk : W.heap[S.b]? = some (.cells S.cs 130 (0, 0))
 e0 : S.cs[0]? = some (.slice S.A0 X.l0.length S.c0)
 e1 : S.cs[1]? = some (.slice S.A1 X.l1.length S.c1)
 e2 : S.cs[2]? = some (.slice S.A2 X.l2.length S.c2)
 e3 : S.cs[3]? = some (.slice S.A3 X.l3.length S.c3)
 e5 : S.cs[5]? = some (.slice S.Ar X.r.length S.cr)
 e6 : S.cs[6]? = some (.slice S.Af X.r.length S.cf)
 ew : ∀ k : Nat, k < 26 → S.cs[7 + k * 2]? = some (.int .i64 (rd_T47 X.l4 (k : Int)).f0) ∧ S.cs[7 + k * 2 + 1]? = some (.int .i64 (rd_T47 X.l4 (k : Int)).f1)
 em : S.cs[59]? = some (.map (some S.mb))
 h0 : Kd.C k53 W S.A0 X.l0.length X.l0
 h1 : Kd.C Kd.bool W S.A1 X.l1.length X.l1
 h2 : Kd.C Kd.bool W S.A2 X.l2.length X.l2
 h3 : Kd.C (Kd.slice 4 Kd.bool) W S.A3 X.l3.length X.l3
 hr : Kd.C k49 W S.Ar X.r.length X.r
 hf : Kd.C (Kd.int .u32) W S.Af X.r.length fits
 g0 : X.l0.length ≤ S.c0
 gr : X.r.length ≤ S.cr
theorem SrW.below {X : Lx} {S : SV} {fits : List Int} {W W' : World} (h : SrW X S fits W) (hb : Below W.heap.size W W') : SrW X S fits W' :=
 { h with blk := blk_below h.blk hb, h0 := Kd.C_below h.h0 hb, h1 := Kd.C_below h.h1 hb, h2 := Kd.C_below h.h2 hb, h3 := Kd.C_below h.h3 hb, hr := Kd.C_below h.hr hb, hf := Kd.C_below h.hf hb }
theorem SrW.cell {X : Lx} {S : SV} {fits : List Int} {W : World} (h : SrW X S fits W) (k : Nat) {v : Value} (hv : S.cs[k]? = some v) : W.cell? ⟨S.b, k, none⟩ = some v := (blk_cell h.blk k).trans hv
def fG (fs : List Int) (k : Nat) : Int := fs.getD k 0
def pC (p : Pth) : Array Value := #[.int .i64 (p.i : Int), .int .i64 (p.m : Int), .int .i64 p.l, .int .i64 p.h, .int .i64 (fG p.fs 0), .int .i64 (fG p.fs 1), .int .i64 (fG p.fs 2), .int .i64 (p.fs.length : Int)]
def PAt (W : World) (b : Nat) (p : Pth) : Prop := W.heap[b]? = some (.cells (pC p) 154 (0, 0))
theorem PAt.cells {W : World} {b : Nat} {p : Pth} (h : PAt W b p) : W.cell? ⟨b, 0, none⟩ = some (.int .i64 (p.i : Int)) ∧ W.cell? ⟨b, 1, none⟩ = some (.int .i64 (p.m : Int)) ∧ W.cell? ⟨b, 2, none⟩ = some (.int .i64 p.l) ∧ W.cell? ⟨b, 3, none⟩ = some (.int .i64 p.h) ∧ W.cell? ⟨b, 4, none⟩ = some (.int .i64 (fG p.fs 0)) ∧ W.cell? ⟨b, 5, none⟩ = some (.int .i64 (fG p.fs 1)) ∧ W.cell? ⟨b, 6, none⟩ = some (.int .i64 (fG p.fs 2)) ∧ W.cell? ⟨b, 7, none⟩ = some (.int .i64 (p.fs.length : Int)) :=
 ⟨(blk_cell h 0).trans rfl, (blk_cell h 1).trans rfl, (blk_cell h 2).trans rfl, (blk_cell h 3).trans rfl, (blk_cell h 4).trans rfl, (blk_cell h 5).trans rfl, (blk_cell h 6).trans rfl, (blk_cell h 7).trans rfl⟩
def shutB (R : Rw) (p : Pth) : Bool := decide (p.i < R.n) && (R.gap p.i && okW R p.i p.l p.h)
def shutP (R : Rw) (p : Pth) : Pth := if shutB R p = true then ⟨p.i + 1, 0, 0, 0, p.fs ++ [(p.m : Int)]⟩ else p
theorem wp_gen {P : Program} {c : Code} {K : Exit → Act → World → Prop} {a : Act} {w : World} (I : World → Prop) (h : I w) (k : ∀ wx, I wx → Code.wp P c K a wx) : Code.wp P c K a w := k w h
structure PB (w wx : World) (p : Pth) : Prop where
 below : Below w.heap.size w wx
 pat : PAt wx w.heap.size p
 res : ∃ q : Nat → Int, wx.heap[w.heap.size + 1]? = some (.cells #[.int .i64 (q 0), .int .i64 (q 1), .int .i64 (q 2), .int .i64 (q 3), .int .i64 (q 4), .int .i64 (q 5), .int .i64 (q 6), .int .i64 (q 7)] 154 (0, 0))
theorem PB.start (w : World) (p : Pth) : PB w ((w.alloc (.cells (pC p) 154)).alloc (.cells #[.int .i64 0, .int .i64 0, .int .i64 0, .int .i64 0, .int .i64 0, .int .i64 0, .int .i64 0, .int .i64 0] 154)) p :=
 ⟨((Below.refl _ _).alloc (Nat.le_refl _) _).alloc (by simp) _, blk_alloc (blk_new w _) _, fun _ => 0, by simpa using blk_new (w.alloc (.cells (pC p) 154)) _⟩
theorem res_cells {wx : World} {b : Nat} {q : Nat → Int} (hq : wx.heap[b]? = some (.cells #[.int .i64 (q 0), .int .i64 (q 1), .int .i64 (q 2), .int .i64 (q 3), .int .i64 (q 4), .int .i64 (q 5), .int .i64 (q 6), .int .i64 (q 7)] 154 (0, 0))) :
  (wx.cell? ⟨b, 0, none⟩ = some (.int .i64 (q 0)) ∧ wx.cell? ⟨b, 1, none⟩ = some (.int .i64 (q 1)) ∧ wx.cell? ⟨b, 2, none⟩ = some (.int .i64 (q 2)) ∧ wx.cell? ⟨b, 3, none⟩ = some (.int .i64 (q 3)) ∧ wx.cell? ⟨b, 4, none⟩ = some (.int .i64 (q 4)) ∧ wx.cell? ⟨b, 5, none⟩ = some (.int .i64 (q 5)) ∧ wx.cell? ⟨b, 6, none⟩ = some (.int .i64 (q 6)) ∧ wx.cell? ⟨b, 7, none⟩ = some (.int .i64 (q 7))) ∧
  wx.frozen? ⟨b, 0, none⟩ = false ∧ wx.frozen? ⟨b, 1, none⟩ = false ∧ wx.frozen? ⟨b, 2, none⟩ = false ∧ wx.frozen? ⟨b, 3, none⟩ = false ∧ wx.frozen? ⟨b, 4, none⟩ = false ∧ wx.frozen? ⟨b, 5, none⟩ = false ∧ wx.frozen? ⟨b, 6, none⟩ = false ∧ wx.frozen? ⟨b, 7, none⟩ = false :=
 ⟨⟨(blk_cell hq 0).trans rfl, (blk_cell hq 1).trans rfl, (blk_cell hq 2).trans rfl, (blk_cell hq 3).trans rfl, (blk_cell hq 4).trans rfl, (blk_cell hq 5).trans rfl, (blk_cell hq 6).trans rfl, (blk_cell hq 7).trans rfl⟩, blk_frozen hq 0, blk_frozen hq 1, blk_frozen hq 2, blk_frozen hq 3, blk_frozen hq 4, blk_frozen hq 5, blk_frozen hq 6, blk_frozen hq 7⟩
theorem cells8 {wx : World} {b t : Nat} {v0 v1 v2 v3 v4 v5 v6 v7 : Value} (hq : wx.heap[b]? = some (.cells #[v0, v1, v2, v3, v4, v5, v6, v7] t (0, 0))) :
  (wx.cell? ⟨b, 0, none⟩ = some v0 ∧ wx.cell? ⟨b, 1, none⟩ = some v1 ∧ wx.cell? ⟨b, 2, none⟩ = some v2 ∧ wx.cell? ⟨b, 3, none⟩ = some v3 ∧ wx.cell? ⟨b, 4, none⟩ = some v4 ∧ wx.cell? ⟨b, 5, none⟩ = some v5 ∧ wx.cell? ⟨b, 6, none⟩ = some v6 ∧ wx.cell? ⟨b, 7, none⟩ = some v7) ∧
  wx.frozen? ⟨b, 0, none⟩ = false ∧ wx.frozen? ⟨b, 1, none⟩ = false ∧ wx.frozen? ⟨b, 2, none⟩ = false ∧ wx.frozen? ⟨b, 3, none⟩ = false ∧ wx.frozen? ⟨b, 4, none⟩ = false ∧ wx.frozen? ⟨b, 5, none⟩ = false ∧ wx.frozen? ⟨b, 6, none⟩ = false ∧ wx.frozen? ⟨b, 7, none⟩ = false :=
 ⟨⟨(blk_cell hq 0).trans rfl, (blk_cell hq 1).trans rfl, (blk_cell hq 2).trans rfl, (blk_cell hq 3).trans rfl, (blk_cell hq 4).trans rfl, (blk_cell hq 5).trans rfl, (blk_cell hq 6).trans rfl, (blk_cell hq 7).trans rfl⟩, blk_frozen hq 0, blk_frozen hq 1, blk_frozen hq 2, blk_frozen hq 3, blk_frozen hq 4, blk_frozen hq 5, blk_frozen hq 6, blk_frozen hq 7⟩
def pD (p : Pth) : Array Value := #[.int .i64 (p.i : Int), .int .i64 (p.m : Int), .int .i64 p.l, .int .i64 p.h, .int .i64 (fG (p.fs ++ [(p.m : Int)]) 0), .int .i64 (fG (p.fs ++ [(p.m : Int)]) 1), .int .i64 (fG (p.fs ++ [(p.m : Int)]) 2), .int .i64 (p.fs.length : Int)]
theorem PAt.fill {W : World} {b : Nat} {p : Pth} (h : PAt W b p) (hl : p.fs.length < 3) : (W.setCell ⟨b, 4 + p.fs.length, none⟩ (.int .i64 (p.m : Int))).heap[b]? = some (.cells (pD p) 154 (0, 0)) := by
 have h1 := blk_set h (4 + p.fs.length) (.int .i64 (p.m : Int))
 rw [h1]
 unfold pC pD fG
 obtain ⟨i, m, l, h0, fs⟩ := p
 match fs, hl with
 | [], _ => rfl
 | [a], _ => rfl
 | [a, b], _ => rfl
theorem PB.drewN {w wx : World} {p : Pth} (h : PB w wx p) (n : Nat) : PB w (wx.drewN n) p := ⟨pw_below_drewN h.below n, h.pat, h.res⟩
theorem PB.alloc {w wx : World} {p : Pth} (h : PB w wx p) (o : Obj) : PB w (wx.alloc o) p := ⟨h.below.alloc (by have := h.below.size; omega) _, blk_alloc h.pat _, let ⟨q, hq⟩ := h.res; ⟨q, blk_alloc hq _⟩⟩
theorem PB.drew {w wx : World} {p : Pth} (h : PB w wx p) : PB w wx.drew p := ⟨h.below.drew, h.pat, h.res⟩
theorem wp_gen' {K : Exit → Act → World → Prop} {a : Act} {w : World} {e : Exit} (I : World → Prop) (h : I w) (k : ∀ wx, I wx → K e a wx) : K e a w := k w h
theorem set8_blk {W : World} {b t : Nat} {v0 v1 v2 v3 v4 v5 v6 v7 : Value} (h : W.heap[b]? = some (.cells #[v0, v1, v2, v3, v4, v5, v6, v7] t (0, 0))) (u0 u1 u2 u3 u4 u5 u6 u7 : Value) : ((((((((W.setCell ⟨b, 0, none⟩ u0).setCell ⟨b, 1, none⟩ u1).setCell ⟨b, 2, none⟩ u2).setCell ⟨b, 3, none⟩ u3).setCell ⟨b, 4, none⟩ u4).setCell ⟨b, 5, none⟩ u5).setCell ⟨b, 6, none⟩ u6).setCell ⟨b, 7, none⟩ u7).heap[b]? = some (.cells #[u0, u1, u2, u3, u4, u5, u6, u7] t (0, 0)) := by
 have s0 := blk_set h 0 u0
 have s1 := blk_set s0 1 u1
 have s2 := blk_set s1 2 u2
 have s3 := blk_set s2 3 u3
 have s4 := blk_set s3 4 u4
 have s5 := blk_set s4 5 u5
 have s6 := blk_set s5 6 u6
 have s7 := blk_set s6 7 u7
 simpa using s7
theorem set8_below {n : Nat} {w0 W : World} {b : Nat} (h : Below n w0 W) (hb : n ≤ b) (u0 u1 u2 u3 u4 u5 u6 u7 : Value) : Below n w0 ((((((((W.setCell ⟨b, 0, none⟩ u0).setCell ⟨b, 1, none⟩ u1).setCell ⟨b, 2, none⟩ u2).setCell ⟨b, 3, none⟩ u3).setCell ⟨b, 4, none⟩ u4).setCell ⟨b, 5, none⟩ u5).setCell ⟨b, 6, none⟩ u6).setCell ⟨b, 7, none⟩ u7) :=
 (((((((h.setCell hb _).setCell hb _).setCell hb _).setCell hb _).setCell hb _).setCell hb _).setCell hb _).setCell hb _
theorem set5_far {W : World} {b g t : Nat} {cs : Array Value} (h : W.heap[b]? = some (.cells cs t (0, 0))) (hb : b ≠ g) (u0 u1 u2 u3 u4 : Value) : (((((W.setCell ⟨g, 7, none⟩ u0).setCell ⟨g, 0, none⟩ u1).setCell ⟨g, 1, none⟩ u2).setCell ⟨g, 2, none⟩ u3).setCell ⟨g, 3, none⟩ u4).heap[b]? = some (.cells cs t (0, 0)) :=
 blk_far (blk_far (blk_far (blk_far (blk_far h hb _) hb _) hb _) hb _) hb _
theorem set5_below {n : Nat} {w0 W : World} {b : Nat} (h : Below n w0 W) (hb : n ≤ b) (u0 u1 u2 u3 u4 : Value) : Below n w0 (((((W.setCell ⟨b, 7, none⟩ u0).setCell ⟨b, 0, none⟩ u1).setCell ⟨b, 1, none⟩ u2).setCell ⟨b, 2, none⟩ u3).setCell ⟨b, 3, none⟩ u4) :=
 ((((h.setCell hb _).setCell hb _).setCell hb _).setCell hb _).setCell hb _
set_option maxHeartbeats 1000000 in
set_option maxRecDepth 100000 in
theorem shut_calls (X : Lx) (S : SV) (fits : List Int) (p : Pth) (w : World) (hS : SrW X S fits w) (hi : p.i ≤ X.r.length) (hn : X.r.length ≤ 1000) (hm : p.m ≤ 1000) (hfs : p.i < X.r.length → (rd_T49 X.r (p.i : Int)).f1 = true → p.fs.length < 3) :
  Calls Try.prog 90 #[.pointer (some ⟨S.b, 0, none⟩), .agg (pC p)] w fun e w' => e = .returned (.tuple #[.agg (pC (shutP (rwOf X) p)), .bool (shutB (rwOf X) p)]) ∧ Below w.heap.size w w' := by
 have HS := Aside0.mk hS
 have HP := Aside0.mk (show PAt (w.alloc (.cells (pC p) 154)) w.heap.size p from blk_new w _)
 have hc5 := hS.cell 5 hS.e5
 have hbl := blk_lt hS.blk
 by_cases hlt : p.i < X.r.length
 ·obtain ⟨ad, eA, -⟩ := at_T49 hS.hr (p.i : Int) (by omega) (by omega)
  have h1 : ((p.i : Int) == (X.r.length : Int)) = false := by simp; omega
  have hil : (p.i : Int) < (X.r.length : Int) := by omega
  have hl0 : p.i < X.r.length := hlt
  have HX := Aside0.mk (fun (W : World) (h : SrW X S fits W) => show W.cell? ⟨S.b, 5, none⟩ = some (.slice (some ad) X.r.length S.cr) ∧ W.cell? (ad.add (p.i * 4)) = some (.string (rd_T49 X.r (p.i : Int)).f0) ∧ W.cell? ⟨(ad.add (p.i * 4)).block, (ad.add (p.i * 4)).off + 1, none⟩ = some (.bool (rd_T49 X.r (p.i : Int)).f1) ∧ W.cell? ⟨(ad.add (p.i * 4)).block, (ad.add (p.i * 4)).off + 2, none⟩ = some (.int .i64 (rd_T49 X.r (p.i : Int)).f2.f0) ∧ W.cell? ⟨(ad.add (p.i * 4)).block, (ad.add (p.i * 4)).off + 3, none⟩ = some (.int .i64 (rd_T49 X.r (p.i : Int)).f2.f1) by
   obtain ⟨ad', eA', y0, y1, y2, y3⟩ := at_T49 h.hr (p.i : Int) (by omega) (by omega)
   rw [eA] at eA'
   injection eA' with eA'
   subst eA'
   simp only [Int.toNat_natCast] at y0 y1 y2 y3
   exact ⟨by rw [h.cell 5 h.e5, eA], y0, y1, y2, y3⟩)
  obtain ⟨c, hc⟩ : ∃ c, c = rd_T49 X.r (p.i : Int) := ⟨_, rfl⟩
  rw [← hc] at HX hfs
  have HC := Aside0.mk hc
  have HFS := Aside0.mk hfs
  have HLT := Aside0.mk hlt
  clear hS hc hfs hlt hi eA hc5
  unfold pC
  go_enter Try.func90, Try.ntmps90
  go_upto_region 1 with fail
  refine wp_gen (fun wx => Aside0 (PB w wx p)) ⟨PB.start w p⟩ ?_
  clear HP hbl
  rintro wx HB
  obtain ⟨e0, -⟩ := HB.out.pat.cells
  have hS2 := HS.out.below HB.out.below
  obtain ⟨hc5, y0, y1, y2, y3⟩ := HX.out wx hS2
  have hbl := blk_lt hS2.blk
  clear hS2
  rcases hg : c.f1 with _ | _
  ·rw [hg] at y1
   go_upto_region 2 with first | go_quiet (fail) | fail
   refine wp_gen (fun wx => Aside0 (PB w wx p)) ⟨HB.out.drewN _⟩ ?_
   clear HB e0 hc5 y0 y1 y2 y3 hbl
   rintro wx HB
   obtain ⟨e0, e1, e2, e3, e4, e5, e6, e7⟩ := HB.out.pat.cells
   obtain ⟨q, hq⟩ := HB.out.res
   obtain ⟨⟨q0, q1, q2, q3, q4, q5, q6, q7⟩, f0, f1, f2, f3, f4, f5, f6, f7⟩ := res_cells hq
   have hql := blk_lt hq
   have HQ := Aside0.mk hq
   clear hq
   go_wp2_with fail
   have hsf : shutB (rwOf X) p = false := by
    unfold shutB
    rw [show (rwOf X).gap p.i = false by show (rd_T49 X.r (p.i : Int)).f1 = false; rw [← HC.out]; exact hg]
    simp
   have hsp : shutP (rwOf X) p = p := if_neg (by rw [hsf]; decide)
   refine bodyPost_ret (results_ct rfl _ _ (w.heap.size + 1) 154 _ (0, 0) _ rfl (set8_blk HQ.out _ _ _ _ _ _ _ _) Try.underlying154 rfl (by kernel_rfl)) rfl ⟨?_, set8_below HB.out.below (by omega) _ _ _ _ _ _ _ _⟩
   rw [hsf, hsp]
   rfl
  ·rw [hg] at y1
   go_upto_region 3 with first | go_quiet (fail) | fail
   refine wp_gen (fun wx => Aside0 (PB w wx p)) ⟨HB.out.drewN _⟩ ?_
   clear HB e0 hc5 y0 y1 y2 y3 hbl
   rintro wx HB
   obtain ⟨e0, -⟩ := HB.out.pat.cells
   have hS2 := HS.out.below HB.out.below
   obtain ⟨hc5, y0, y1, y2, y3⟩ := HX.out wx hS2
   have hbl := blk_lt hS2.blk
   clear hS2
   have hpl := blk_lt HB.out.pat
   have hadl := World.block_lt_of_cell? wx _ y0
   go_region
   obtain ⟨bw, hbw⟩ : ∃ b, b = wx.heap.size := ⟨_, rfl⟩
   have hbw2 : w.heap.size + 2 ≤ bw := by
    obtain ⟨q, hq⟩ := HB.out.res
    have := blk_lt hq
    omega
   refine wp_gen' (fun wy => Aside0 (PB w wy p) ∧ Aside0 (wy.heap[bw]? = some (.cells #[.int .i64 c.f2.f0, .int .i64 c.f2.f1] 47 (0, 0)))) ⟨⟨(HB.out.alloc _).drew⟩, ⟨by rw [hbw]; exact blk_new wx _⟩⟩ ?_
   rw [← hbw]
   clear hbw HB e0 hc5 y0 y1 y2 y3 hbl hpl hadl
   rintro wy ⟨HB, HW⟩
   clear wx
   obtain ⟨e0, e1, e2, e3, e4, e5, e6, e7⟩ := HB.out.pat.cells
   have w0 := (blk_cell HW.out 0).trans (show (#[Value.int .i64 c.f2.f0, Value.int .i64 c.f2.f1] : Array Value)[0]? = some (Value.int .i64 c.f2.f0) from rfl)
   have w1 := (blk_cell HW.out 1).trans (show (#[Value.int .i64 c.f2.f0, Value.int .i64 c.f2.f1] : Array Value)[1]? = some (Value.int .i64 c.f2.f1) from rfl)
   have hpl := blk_lt HB.out.pat
   have hok : okW (rwOf X) p.i p.l p.h = decide (p.l ≤ c.f2.f1 ∧ c.f2.f0 ≤ p.h) := by rw [HC.out]; rfl
   have hgp : (rwOf X).gap p.i = true := by show (rd_T49 X.r (p.i : Int)).f1 = true; rw [← HC.out]; exact hg
   have hin : decide (p.i < (rwOf X).n) = true := decide_eq_true HLT.out
   have HSB := Aside0.mk (show shutB (rwOf X) p = decide (p.l ≤ c.f2.f1 ∧ c.f2.f0 ≤ p.h) by unfold shutB; rw [hin, hgp, hok]; rfl)
   clear hok hgp hin
   by_cases hk : p.l ≤ c.f2.f1 ∧ c.f2.f0 ≤ p.h
   ·have HK := Aside0.mk (show shutB (rwOf X) p = true by rw [HSB.out]; exact decide_eq_true hk)
    have hk1 : decide (c.f2.f1 < p.l) = false := decide_eq_false (by omega)
    have hk2 : decide (p.h < c.f2.f0) = false := decide_eq_false (by omega)
    have hfl : p.fs.length < 3 := HFS.out HLT.out hg
    have hfl3 : (p.fs.length : Int) < 3 := by omega
    have hcf : wy.cell? ⟨w.heap.size, 4 + p.fs.length, none⟩ = some (.int .i64 (fG p.fs p.fs.length)) := by
     rw [blk_cell HB.out.pat]
     match p.fs.length, hfl with
     | 0, _ => rfl
     | 1, _ => rfl
     | 2, _ => rfl
    have hff := blk_frozen HB.out.pat (4 + p.fs.length)
    clear hk
    go_upto_region 7 with fail
    refine wp_gen (fun wz => Aside0 (Below w.heap.size w wz) ∧ Aside0 (wz.heap[w.heap.size]? = some (.cells (pD p) 154 (0, 0))) ∧ Aside0 (∃ q : Nat → Int, wz.heap[w.heap.size + 1]? = some (.cells #[.int .i64 (q 0), .int .i64 (q 1), .int .i64 (q 2), .int .i64 (q 3), .int .i64 (q 4), .int .i64 (q 5), .int .i64 (q 6), .int .i64 (q 7)] 154 (0, 0)))) ⟨⟨HB.out.below.setCell (Nat.le_refl _) _⟩, ⟨HB.out.pat.fill hfl⟩, ⟨by
     obtain ⟨q, hq⟩ := HB.out.res
     exact ⟨q, blk_far hq (by simp) _⟩⟩⟩ ?_
    clear HB HW e0 e1 e2 e3 e4 e5 e6 e7 w0 w1 hpl hcf hff
    rintro wz ⟨HB, HP, HR⟩
    obtain ⟨q, hq⟩ := HR.out
    obtain ⟨⟨q0, q1, q2, q3, q4, q5, q6, q7⟩, f0, f1, f2, f3, f4, f5, f6, f7⟩ := res_cells hq
    have hql := blk_lt hq
    have HQ := Aside0.mk hq
    clear hq
    obtain ⟨⟨e0, e1, e2, e3, e4, e5, e6, e7⟩, g0, g1, g2, g3, g4, g5, g6, g7⟩ := cells8 (show wz.heap[w.heap.size]? = some (.cells #[_, _, _, _, _, _, _, _] 154 (0, 0)) from HP.out)
    have hpl := blk_lt HP.out
    go_wp2_with fail
    have hsp : shutP (rwOf X) p = ⟨p.i + 1, 0, 0, 0, p.fs ++ [(p.m : Int)]⟩ := if_pos HK.out
    refine bodyPost_ret (results_ct rfl _ _ (w.heap.size + 1) 154 _ (0, 0) _ rfl (set8_blk (set5_far HQ.out (by simp) _ _ _ _ _) _ _ _ _ _ _ _ _) Try.underlying154 rfl (by kernel_rfl)) rfl ⟨?_, set8_below (set5_below HB.out (Nat.le_refl _) _ _ _ _ _) (by omega) _ _ _ _ _ _ _ _⟩
    rw [HK.out, hsp]
    simp only [List.length_append, List.length_cons, List.length_nil]
    rfl
   ·have HK := Aside0.mk (show shutB (rwOf X) p = false by rw [HSB.out]; exact decide_eq_false hk)
    have hkd : decide (c.f2.f1 < p.l) = true ∨ (decide (c.f2.f1 < p.l) = false ∧ decide (p.h < c.f2.f0) = true) := by
     by_cases h : c.f2.f1 < p.l
     ·exact .inl (decide_eq_true h)
     ·exact .inr ⟨decide_eq_false h, decide_eq_true (by omega)⟩
    clear hk
    obtain ⟨q, hq⟩ := HB.out.res
    obtain ⟨⟨q0, q1, q2, q3, q4, q5, q6, q7⟩, f0, f1, f2, f3, f4, f5, f6, f7⟩ := res_cells hq
    have hql := blk_lt hq
    have HQ := Aside0.mk hq
    clear hq
    have hsp : shutP (rwOf X) p = p := if_neg (by rw [HK.out]; decide)
    have HSP := Aside0.mk hsp
    clear hsp
    rcases hkd with hk1 | ⟨hk1, hk2⟩
    all_goals
     go_wp2_with fail
     refine bodyPost_ret (results_ct rfl _ _ (w.heap.size + 1) 154 _ (0, 0) _ rfl (set8_blk HQ.out _ _ _ _ _ _ _ _) Try.underlying154 rfl (by kernel_rfl)) rfl ⟨?_, set8_below HB.out.below (by omega) _ _ _ _ _ _ _ _⟩
     rw [HK.out, HSP.out]
     rfl
 ·have hpi : p.i = X.r.length := by omega
  have h1 : ((p.i : Int) == (X.r.length : Int)) = true := by rw [hpi]; simp
  have HPI := Aside0.mk hpi
  clear hS hpi hlt hi
  unfold pC
  go_enter Try.func90, Try.ntmps90
  go_upto_region 1 with fail
  refine wp_gen (fun wx => Aside0 (PB w wx p)) ⟨PB.start w p⟩ ?_
  clear HP hc5 hbl
  rintro wx HB
  obtain ⟨e0, -⟩ := HB.out.pat.cells
  have hS2 := HS.out.below HB.out.below
  have hc5 := hS2.cell 5 hS2.e5
  have hbl := blk_lt hS2.blk
  clear hS2
  go_upto_region 2 with first | go_quiet (fail) | fail
  refine wp_gen (fun wx => Aside0 (PB w wx p)) ⟨HB.out.drewN _⟩ ?_
  clear HB e0 hc5 hbl
  rintro wx HB
  obtain ⟨e0, e1, e2, e3, e4, e5, e6, e7⟩ := HB.out.pat.cells
  obtain ⟨q, hq⟩ := HB.out.res
  obtain ⟨⟨q0, q1, q2, q3, q4, q5, q6, q7⟩, f0, f1, f2, f3, f4, f5, f6, f7⟩ := res_cells hq
  have hql := blk_lt hq
  have HQ := Aside0.mk hq
  clear hq
  go_wp2_with fail
  have hsf : shutB (rwOf X) p = false := by
   unfold shutB
   rw [show decide (p.i < (rwOf X).n) = false from decide_eq_false (by show ¬ p.i < X.r.length; have := HPI.out; omega)]
   rfl
  have hsp : shutP (rwOf X) p = p := if_neg (by rw [hsf]; decide)
  refine bodyPost_ret (results_ct rfl _ _ (w.heap.size + 1) 154 _ (0, 0) _ rfl (set8_blk HQ.out _ _ _ _ _ _ _ _) Try.underlying154 rfl (by kernel_rfl)) rfl ⟨?_, set8_below HB.out.below (by omega) _ _ _ _ _ _ _ _⟩
  rw [hsf, hsp]
  rfl
end Go.Proofs.Ytkfebceainedfaa.P.OwnGap
namespace Go.Proofs.Ytkfebceainedfaa.P.OwnGap
open Go.RowKit Go.Proofs.YtkfebceainedfaaW.PrintWords Go.Proofs.YtkfebceainedfaaW.PrintLast Go.Proofs.YtkfebceainedfaaW.PrintMore
open Go.Proofs.Ytkfebceainedfaa.OwnGap
set_option linter.unusedVariables false
set_option linter.unusedSimpArgs false
theorem Ev.if_pos' {α : Type} {c : Prop} [Decidable c] {g f : Nat → Option α} {r : α} (hc : c) (h : Ev g r) : Ev (fun k => if c then g k else f k) r := by simpa [hc] using h
theorem Ev.if_neg' {α : Type} {c : Prop} [Decidable c] {g f : Nat → Option α} {r : α} (hc : ¬ c) (h : Ev f r) : Ev (fun k => if c then g k else f k) r := by simpa [hc] using h
theorem wrap64_small {x : Int} (h0 : 0 ≤ x) (h1 : x < 4611686018427387904) : wrap64 x = x := by simp [wrap64]; omega
theorem wraps_u32 (n : Int) (h₀ : 0 ≤ n) (h₁ : n < 2 ^ 32) : IntKind.u32.wrap n = n := by rw [IntKind.wrap_u32]; omega
theorem has_mask (n j : Nat) (hn : n < 2 ^ 26) (hj : j < 26) : gap_letters_has.f (n : Int) (65 + (j : Int)) = some (n.testBit j) := by
 unfold gap_letters_has.f shr
 rw [show (65 + (j : Int) - 65) % 256 = (j : Int) by omega, Int.toNat_natCast, Nat.min_eq_left (by simp [IntKind.bits]; omega)]
 have e1 : ((n : Int) / 2 ^ j) = ((n >>> j : Nat) : Int) := by rw [Nat.shiftRight_eq_div_pow]; simp
 have hlt : n >>> j < 2 ^ 26 := by rw [Nat.shiftRight_eq_div_pow]; exact Nat.lt_of_le_of_lt (Nat.div_le_self _ _) hn
 rw [e1]
 have e2 := (bits_nat .u32 32 (by decide) wraps_u32 (n >>> j) 1 (by omega) (by decide)).1
 rw [show ((1 : Int)) = ((1 : Nat) : Int) from rfl, e2]
 unfold Nat.testBit
 congr 1
 have h4 : (n >>> j) &&& 1 = 0 ∨ (n >>> j) &&& 1 = 1 := by
  rw [Nat.and_one_is_mod]
  omega
 rw [Nat.and_comm 1]
 rcases h4 with h4 | h4 <;> rw [h4] <;> rfl
theorem with_mask (n j : Nat) (hn : n < 2 ^ 26) (hj : j < 26) : gap_letters_with.f (n : Int) (65 + (j : Int)) = some ((n ||| 2 ^ j : Nat) : Int) := by
 unfold gap_letters_with.f shl
 rw [show (65 + (j : Int) - 65) % 256 = (j : Int) by omega, Int.toNat_natCast, Nat.min_eq_left (by simp [IntKind.bits]; omega)]
 have hp : (2 : Nat) ^ j < 2 ^ 26 := Nat.pow_lt_pow_right (by decide) hj
 have e1 : (1 : Int) * 2 ^ j = ((2 ^ j : Nat) : Int) := by simp
 have hp2 : ((2 ^ j : Nat) : Int) < 2 ^ 32 := by
  have : ((2 ^ j : Nat) : Int) < ((2 ^ 26 : Nat) : Int) := by exact_mod_cast hp
  omega
 rw [e1, wraps_u32 _ (Int.natCast_nonneg _) hp2]
 have e2 := (bits_nat .u32 32 (by decide) wraps_u32 n (2 ^ j) (by omega) (by omega)).2
 rw [e2]
def maskF : Nat → List Int → Nat
 | n, [] => n
 | n, a :: l => maskF (n ||| 2 ^ (a - 65).toNat) l
def maskN (l : List Int) : Nat := maskF 0 l
theorem maskF_append : ∀ (l m : List Int) (n : Nat), maskF n (l ++ m) = maskF (maskF n l) m
 | [], _, _ => rfl
 | a :: l, m, n => maskF_append l m (n ||| 2 ^ (a - 65).toNat)
theorem maskF_lt : ∀ (l : List Int) (n : Nat), (∀ a ∈ l, 65 ≤ a ∧ a ≤ 90) → n < 2 ^ 26 → maskF n l < 2 ^ 26
 | [], _, _, h => h
 | a :: l, n, hl, h => maskF_lt l _ (fun b hb => hl b (List.mem_cons_of_mem _ hb)) (Nat.or_lt_two_pow h (by
   have := hl a (List.mem_cons_self ..)
   exact Nat.pow_lt_pow_right (by decide) (by omega)))
theorem maskF_bit : ∀ (l : List Int) (n j : Nat), (∀ a ∈ l, 65 ≤ a ∧ a ≤ 90) → (maskF n l).testBit j = (n.testBit j || l.contains (65 + (j : Int)))
 | [], n, j, _ => by simp [maskF]
 | a :: l, n, j, hl => by
  have ha := hl a (List.mem_cons_self ..)
  rw [maskF, maskF_bit l _ j (fun b hb => hl b (List.mem_cons_of_mem _ hb)), Nat.testBit_or, Nat.testBit_two_pow, List.contains_cons, Bool.or_assoc]
  congr 2
  rw [Bool.eq_iff_iff]
  simp only [decide_eq_true_eq, beq_iff_eq]
  omega
def ofV (s : ByteArray) : Int := if s.size = 0 then 67108863 else (maskN (bytesOf s) : Int)
def LetS (s : ByteArray) : Prop := ∀ k : Nat, k < s.size → 65 ≤ bt s (k : Int) ∧ bt s (k : Int) ≤ 90
theorem LetS.all {s : ByteArray} (hs : LetS s) : ∀ a ∈ bytesOf s, 65 ≤ a ∧ a ≤ 90 := by
 intro a ha
 obtain ⟨k, hk, rfl⟩ := List.mem_iff_getElem.1 ha
 have h1 := hs k (by rw [bytesOf_length] at hk; exact hk)
 rw [← rd_bytesOf] at h1
 simpa [rd, List.getD_eq_getElem?_getD, List.getElem?_eq_getElem hk] using h1
theorem ofV_has {s : ByteArray} (hs : LetS s) (a : Int) (h0 : 65 ≤ a) (h1 : a ≤ 90) : gap_letters_has.f (ofV s) a = some (fitB s a) := by
 obtain ⟨j, hj, rfl⟩ : ∃ j : Nat, j < 26 ∧ a = 65 + (j : Int) := ⟨(a - 65).toNat, by omega, by omega⟩
 unfold ofV fitB
 by_cases h : s.size = 0
 ·rw [if_pos h, h]
  have hb : ∀ j, j < 26 → (67108863 : Nat).testBit j = true := by decide
  rw [show (67108863 : Int) = ((67108863 : Nat) : Int) from rfl, has_mask _ j (by decide) hj, hb j hj]
  rfl
 ·rw [if_neg h, maskN, has_mask _ j (maskF_lt _ _ hs.all (by decide)) hj, maskF_bit _ _ _ hs.all, Nat.zero_testBit, Bool.false_or]
  rw [show (s.size == 0) = false from beq_eq_false_iff_ne.2 h, Bool.false_or]
theorem of_l0 (s : ByteArray) (hs : LetS s) (hz : s.size < 4611686018427387903) (g : Bool) (lo hi : Int) : ∀ (rem i : Nat), i + rem = s.size → Ev (fun k => gap_of.l0 k (maskF 0 ((bytesOf s).take i) : Nat) (s.size : Int) (i : Int) s g lo hi) ((maskN (bytesOf s) : Nat) : Int) := by
 intro rem
 induction rem with
 | zero =>
  intro i hi
  refine Ev.step (fun k => by rw [gap_of.l0]) ?_
  rw [List.take_of_length_le (by rw [bytesOf_length]; omega)]
  exact Ev.if_neg' (by omega) (Ev.now _)
 | succ rem ih =>
  intro i hi
  have hik : i < s.size := by omega
  refine Ev.step (fun k => by rw [gap_of.l0]) ?_
  refine Ev.if_pos' (by omega) (Ev.if_pos' (by omega) (Ev.if_pos' (by omega) ?_))
  obtain ⟨j, hj, ej⟩ : ∃ j : Nat, j < 26 ∧ bt s (i : Int) = 65 + (j : Int) := ⟨(bt s (i : Int) - 65).toNat, by have := hs i hik; omega, by have := hs i hik; omega⟩
  rw [ej, with_mask _ j (maskF_lt _ _ (fun a ha => hs.all a (List.mem_of_mem_take ha)) (by decide)) hj]
  simp only [Option.bind_some]
  have h2 := ih (i + 1) (by omega)
  have e2 : maskF 0 ((bytesOf s).take (i + 1)) = maskF 0 ((bytesOf s).take i) ||| 2 ^ j := by
   have hl : i < (bytesOf s).length := by rw [bytesOf_length]; exact hik
   rw [List.take_add_one, List.getElem?_eq_getElem hl, maskF_append]
   show maskF 0 ((bytesOf s).take i) ||| 2 ^ ((bytesOf s)[i] - 65).toNat = _
   have : (bytesOf s)[i] = 65 + (j : Int) := by
    rw [← ej, ← rd_bytesOf]
    simp [rd, List.getD_eq_getElem?_getD, List.getElem?_eq_getElem hl]
   rw [this]
   congr 2
   omega
  rw [e2] at h2
  rw [show wrap64 ((i : Int) + 1) = ((i + 1 : Nat) : Int) by rw [wrap64_small (by omega) (by omega)]; omega]
  exact h2
theorem nil_size (s : ByteArray) : s.toList = ([] : List UInt8) ↔ s.size = 0 := by
 rw [Go.ByteArray.toList_eq, ← List.length_eq_zero_iff]
 rfl
theorem of_ev (s : ByteArray) (hs : LetS s) (hz : s.size < 4611686018427387903) (g : Bool) (lo hi : Int) : Ev (fun k => gap_of.f k s g lo hi) (ofV s) := by
 unfold gap_of.f ofV
 by_cases h : s.size = 0
 ·rw [if_pos h]
  exact Ev.if_pos' ((nil_size s).2 h) (Ev.now _)
 ·rw [if_neg h]
  exact Ev.if_neg' (fun e => h ((nil_size s).1 e)) (of_l0 s hs hz g lo hi s.size 0 (by omega))
end Go.Proofs.Ytkfebceainedfaa.P.OwnGap
namespace Go.Proofs.Ytkfebceainedfaa.P
open Go.RowKit Go.Proofs.YtkfebceainedfaaW.PrintWords Go.Proofs.YtkfebceainedfaaW.PrintLast Go.Proofs.YtkfebceainedfaaW.PrintMore
attribute [local go_sem] max2_int min2_int max_two min_two max_three min_three max_four min_four   -- for this text's walks alone
set_option linter.unusedVariables false
set_option linter.unusedSimpArgs false
def gap_in.f (a0 : Int) (a1 : Int) (a2 : Int) : Option (Bool) := if a1 ≤ a0 then (some (decide (a0 ≤ a2))) else (some false)
set_option maxHeartbeats 8000000 in
set_option maxRecDepth 100000 in
theorem gap_in.calls (a0 : Int) (a1 : Int) (a2 : Int) (r : Bool) (w : World) (h : gap_in.f a0 a1 a2 = some r) :
  Calls Try.prog 49 #[.int .i64 a0, .int .i64 a1, .int .i64 a2] w fun e w' => e = .returned (.bool r) ∧ Drawn0 w w' := by
 have H : (if a1 ≤ a0 then (some (decide (a0 ≤ a2))) else (some false)) = some r := h
 clear h
 by_cases c4 : a1 ≤ a0
 ·rw [if_pos c4] at H
  have c4b0 : decide (a1 ≤ a0) = true := decide_eq_true c4
  clear c4
  obtain rfl := Option.some.inj H
  go_enter Try.func49, Try.ntmps49
  go_wp2
  go_ret
  exact ⟨by first | rfl | (simp; done) | (simp [*]; done), by repeat (first | exact Drawn0.refl _ | apply Drawn0.step)⟩
 ·rw [if_neg c4] at H
  have c4b0 : decide (a1 ≤ a0) = false := decide_eq_false c4
  clear c4
  obtain rfl := Option.some.inj H
  go_enter Try.func49, Try.ntmps49
  go_wp2
  go_ret
  exact ⟨by first | rfl | (simp; done) | (simp [*]; done), by repeat (first | exact Drawn0.refl _ | apply Drawn0.step)⟩
end Go.Proofs.Ytkfebceainedfaa.P
namespace Go.Proofs.Ytkfebceainedfaa.P
open Go.RowKit Go.Proofs.YtkfebceainedfaaW.PrintWords Go.Proofs.YtkfebceainedfaaW.PrintLast Go.Proofs.YtkfebceainedfaaW.PrintMore
attribute [local go_sem] max2_int min2_int max_two min_two max_three min_three max_four min_four   -- for this text's walks alone
set_option linter.unusedVariables false
set_option linter.unusedSimpArgs false
def gap_capital.f (a0 : Int) : Option (Bool) := if a0 ≥ 65 then (some (decide (a0 ≤ 90))) else (some false)
set_option maxHeartbeats 8000000 in
set_option maxRecDepth 100000 in
theorem gap_capital.calls (a0 : Int) (r : Bool) (w : World) (h : gap_capital.f a0 = some r) :
  Calls Try.prog 105 #[.int .u8 a0] w fun e w' => e = .returned (.bool r) ∧ Drawn0 w w' := by
 have H : (if a0 ≥ 65 then (some (decide (a0 ≤ 90))) else (some false)) = some r := h
 clear h
 by_cases c2 : a0 ≥ 65
 ·rw [if_pos c2] at H
  have c2b0 : decide (65 ≤ a0) = true := decide_eq_true c2
  clear c2
  obtain rfl := Option.some.inj H
  go_enter Try.func105, Try.ntmps105
  go_wp2
  go_ret
  exact ⟨by first | rfl | (simp; done) | (simp [*]; done), by repeat (first | exact Drawn0.refl _ | apply Drawn0.step)⟩
 ·rw [if_neg c2] at H
  have c2b0 : decide (65 ≤ a0) = false := decide_eq_false c2
  clear c2
  obtain rfl := Option.some.inj H
  go_enter Try.func105, Try.ntmps105
  go_wp2
  go_ret
  exact ⟨by first | rfl | (simp; done) | (simp [*]; done), by repeat (first | exact Drawn0.refl _ | apply Drawn0.step)⟩
end Go.Proofs.Ytkfebceainedfaa.P
namespace Go.Proofs.Ytkfebceainedfaa.P
open Go.RowKit Go.Proofs.YtkfebceainedfaaW.PrintWords Go.Proofs.YtkfebceainedfaaW.PrintLast Go.Proofs.YtkfebceainedfaaW.PrintMore
attribute [local go_sem] max2_int min2_int max_two min_two max_three min_three max_four min_four   -- for this text's walks alone
set_option linter.unusedVariables false
set_option linter.unusedSimpArgs false
def cippusref02_between.f (a0 : Int) (a1 : Int) (a2 : Int) : Option (Bool) := if a0 ≥ a1 then (some (decide (a0 ≤ a2))) else (some false)
set_option maxHeartbeats 8000000 in
set_option maxRecDepth 100000 in
theorem cippusref02_between.calls (a0 : Int) (a1 : Int) (a2 : Int) (r : Bool) (w : World) (h : cippusref02_between.f a0 a1 a2 = some r) :
  Calls Try.prog 87 #[.int .i64 a0, .int .i64 a1, .int .i64 a2] w fun e w' => e = .returned (.bool r) ∧ Drawn0 w w' := by
 have H : (if a0 ≥ a1 then (some (decide (a0 ≤ a2))) else (some false)) = some r := h
 clear h
 by_cases c4 : a0 ≥ a1
 ·rw [if_pos c4] at H
  have c4b0 : decide (a1 ≤ a0) = true := decide_eq_true c4
  clear c4
  obtain rfl := Option.some.inj H
  go_enter Try.func87, Try.ntmps87
  go_wp2
  go_ret
  exact ⟨by first | rfl | (simp; done) | (simp [*]; done), by repeat (first | exact Drawn0.refl _ | apply Drawn0.step)⟩
 ·rw [if_neg c4] at H
  have c4b0 : decide (a1 ≤ a0) = false := decide_eq_false c4
  clear c4
  obtain rfl := Option.some.inj H
  go_enter Try.func87, Try.ntmps87
  go_wp2
  go_ret
  exact ⟨by first | rfl | (simp; done) | (simp [*]; done), by repeat (first | exact Drawn0.refl _ | apply Drawn0.step)⟩
end Go.Proofs.Ytkfebceainedfaa.P
namespace Go.Proofs.Ytkfebceainedfaa.P
open Go.RowKit Go.Proofs.YtkfebceainedfaaW.PrintWords Go.Proofs.YtkfebceainedfaaW.PrintLast Go.Proofs.YtkfebceainedfaaW.PrintMore
attribute [local go_sem] max2_int min2_int max_two min_two max_three min_three max_four min_four   -- for this text's walks alone
set_option linter.unusedVariables false
set_option linter.unusedSimpArgs false
def cippusref02_capital.f (a0 : Int) : Option (Bool) := if a0 ≥ 65 then (some (decide (a0 ≤ 90))) else (some false)
set_option maxHeartbeats 8000000 in
set_option maxRecDepth 100000 in
theorem cippusref02_capital.calls (a0 : Int) (r : Bool) (w : World) (h : cippusref02_capital.f a0 = some r) :
  Calls Try.prog 104 #[.int .u8 a0] w fun e w' => e = .returned (.bool r) ∧ Drawn0 w w' := by
 have H : (if a0 ≥ 65 then (some (decide (a0 ≤ 90))) else (some false)) = some r := h
 clear h
 by_cases c2 : a0 ≥ 65
 ·rw [if_pos c2] at H
  have c2b0 : decide (65 ≤ a0) = true := decide_eq_true c2
  clear c2
  obtain rfl := Option.some.inj H
  go_enter Try.func104, Try.ntmps104
  go_wp2
  go_ret
  exact ⟨by first | rfl | (simp; done) | (simp [*]; done), by repeat (first | exact Drawn0.refl _ | apply Drawn0.step)⟩
 ·rw [if_neg c2] at H
  have c2b0 : decide (65 ≤ a0) = false := decide_eq_false c2
  clear c2
  obtain rfl := Option.some.inj H
  go_enter Try.func104, Try.ntmps104
  go_wp2
  go_ret
  exact ⟨by first | rfl | (simp; done) | (simp [*]; done), by repeat (first | exact Drawn0.refl _ | apply Drawn0.step)⟩
end Go.Proofs.Ytkfebceainedfaa.P
namespace Go.Proofs.Ytkfebceainedfaa.P.OwnGap
open Go.RowKit Go.Proofs.YtkfebceainedfaaW.PrintWords Go.Proofs.YtkfebceainedfaaW.PrintLast Go.Proofs.YtkfebceainedfaaW.PrintMore
open Go.Proofs.Ytkfebceainedfaa.OwnGap
set_option linter.unusedVariables false
set_option linter.unusedSimpArgs false
def inB (a lo hi : Int) : Bool := decide (lo ≤ a) && decide (a ≤ hi)
def capB (a : Int) : Bool := inB a 65 90
theorem cap_p (a : Int) : gap_capital.f a = some (capB a) := by
 unfold gap_capital.f capB inB
 by_cases h : 65 ≤ a <;> simp [h]
theorem cap_r (a : Int) : cippusref02_capital.f a = some (capB a) := by
 unfold cippusref02_capital.f capB inB
 by_cases h : 65 ≤ a <;> simp [h]
theorem in_p (a lo hi : Int) : gap_in.f a lo hi = some (inB a lo hi) := by
 unfold gap_in.f inB
 by_cases h : lo ≤ a <;> simp [h]
theorem in_r (a lo hi : Int) : cippusref02_between.f a lo hi = some (inB a lo hi) := by
 unfold cippusref02_between.f inB
 by_cases h : lo ≤ a <;> simp [h]
theorem wrap_nat {i n : Nat} (h : i < n) (hn : n < 4611686018427387903) : wrap64 ((i : Int) + 1) = ((i + 1 : Nat) : Int) := by rw [wrap64_small (by omega) (by omega)]; omega
theorem inB_true {a lo hi : Int} : inB a lo hi = true ↔ lo ≤ a ∧ a ≤ hi := by simp [inB]
def textB (s : ByteArray) : Bool := (List.range s.size).all fun i => capB (bt s (i : Int))
theorem range_all {n : Nat} {f : Nat → Bool} : (List.range n).all f = true ↔ ∀ i, i < n → f i = true := by
 rw [List.all_eq_true]
 exact ⟨fun h i hi => h i (List.mem_range.2 hi), fun h i hi => h i (List.mem_range.1 hi)⟩
def sameW (a b : S53) : Bool := a.f0.toList == b.f0.toList && (a.f1 == b.f1)
def wordV (l0 : List S53) (nf : Nat) (i : Nat) : Int :=
 if inB (rd_T53 l0 (i : Int)).f0.size 1 8 = false then 2 else if textB (rd_T53 l0 (i : Int)).f0 = false then 2 else if inB (rd_T53 l0 (i : Int)).f1 0 ((nf : Int) - 1) = false then 3
 else if (l0.take i).any (sameW (rd_T53 l0 (i : Int))) = true then 4 else 0
theorem ifF {α : Type} {b : Bool} {x y : α} (h : b = true) : (if b = false then x else y) = y := by rw [h]; rfl
theorem ifT {α : Type} {b : Bool} {x y : α} (h : b = false) : (if b = false then x else y) = x := by rw [h]; rfl
def spanV (a b lo hi : Int) : Int := if (inB a lo hi && inB b lo hi) = false then 1 else if b < a then 5 else 0
def firstF (f : Nat → Int) (R : Int) : Nat → Nat → Int
 | 0, _ => R
 | rem + 1, i => if f i = 0 then firstF f R rem (i + 1) else f i
theorem firstF_zero {f : Nat → Int} {R : Int} : ∀ (rem i : Nat), firstF f R rem i = 0 → R = 0 ∧ ∀ j, i ≤ j → j < i + rem → f j = 0
 | 0, i, h => ⟨h, fun j h1 h2 => by omega⟩
 | rem + 1, i, h => by
  unfold firstF at h
  by_cases h0 : f i = 0
  ·rw [if_pos h0] at h
   obtain ⟨h1, h2⟩ := firstF_zero rem (i + 1) h
   refine ⟨h1, fun j h3 h4 => ?_⟩
   rcases Nat.lt_or_ge i j with h5 | h5
   ·exact h2 j (by omega) (by omega)
   ·rw [show j = i by omega]; exact h0
  ·rw [if_neg h0] at h
   exact absurd h h0
def spanAt (l4 : List S47) (i : Nat) : Int := spanV (rd_T47 l4 (i : Int)).f0 (rd_T47 l4 (i : Int)).f1 1 100
def formAt (l3 : List (List Bool)) (nf : Nat) (i : Nat) : Int := if (rd_L1 l3 (i : Int)).length = nf then 0 else 2
def checkV (l0 : List S53) (l1 l2 : List Bool) (l3 : List (List Bool)) (l4 : List S47) : Int :=
 if l1.length = 0 then 7 else if 5 < l1.length then 6 else if l2.length ≠ l1.length then 2 else if l3.length ≠ l1.length then 2 else
  firstF (formAt l3 l1.length) (if l0.length = 0 then 7 else if 12 < l0.length then 6 else firstF (wordV l0 l1.length) (if l4.length ≠ 26 then 2 else firstF (spanAt l4) 0 26 0) l0.length 0) l1.length 0
def ascAt (s : ByteArray) (i : Nat) : Bool := capB (bt s (i : Int)) && (decide (i = 0) || decide (bt s ((i : Int) - 1) < bt s (i : Int)))
def ascB (s : ByteArray) : Bool := (List.range s.size).all (ascAt s)
theorem asc_ge {s : ByteArray} {j : Nat} (h : ∀ q, q < j → ascAt s q = true) : ∀ q, q < j → 65 + (q : Int) ≤ bt s (q : Int) ∧ bt s (q : Int) ≤ 90 := by
 intro q
 induction q with
 | zero =>
  intro hq
  have h1 := h 0 hq
  simp only [ascAt, capB, Bool.and_eq_true, inB_true] at h1
  exact ⟨by simpa using h1.1.1, h1.1.2⟩
 | succ q ih =>
  intro hq
  have h1 := h (q + 1) hq
  have h2 := (ih (by omega)).1
  simp only [ascAt, capB, Bool.and_eq_true, inB_true, Bool.or_eq_true, decide_eq_true_eq] at h1
  obtain ⟨h3, h4⟩ := h1
  rcases h4 with h4 | h4
  ·omega
  ·rw [show ((q + 1 : Nat) : Int) - 1 = (q : Int) by omega] at h4
   exact ⟨by omega, h3.2⟩
theorem asc_le {s : ByteArray} {j : Nat} (h : ∀ q, q < j → ascAt s q = true) : j ≤ 26 := by
 rcases Nat.eq_zero_or_pos j with h0 | h0
 ·omega
 ·have := asc_ge h (j - 1) (by omega)
  omega
theorem ascB_let {s : ByteArray} (h : ascB s = true) : LetS s ∧ s.size ≤ 26 := by
 have h1 := range_all.1 h
 exact ⟨fun k hk => by have := asc_ge h1 k hk; omega, asc_le h1⟩
def cellV (c : S49) : Int := if c.f1 = true then (if c.f0.size = 0 then spanV c.f2.f0 c.f2.f1 0 1000 else 2) else if ascB c.f0 = false then 2 else if c.f2.f0 = 0 ∧ c.f2.f1 = 0 then 0 else 2
def rowF (l : List S49) : Nat → Nat → Nat → Int
 | 0, _, _ => 0
 | rem + 1, i, n => if cellV (rd_T49 l (i : Int)) = 0 then (if (rd_T49 l (i : Int)).f1 = true then (if 3 < n + 1 then 6 else rowF l rem (i + 1) (n + 1)) else rowF l rem (i + 1) n) else cellV (rd_T49 l (i : Int))
def rowV (l : List S49) : Int := if l.length = 0 then 7 else if 24 < l.length then 6 else rowF l l.length 0 0
def bothV (l0 : List S53) (l1 l2 : List Bool) (l3 : List (List Bool)) (l4 : List S47) (r : List S49) : Int := if checkV l0 l1 l2 l3 l4 = 0 then rowV r else checkV l0 l1 l2 l3 l4
theorem sameW_comm (a b : S53) : sameW a b = sameW b a := by
 unfold sameW
 rw [Bool.eq_iff_iff]
 simp only [Bool.and_eq_true, beq_iff_eq]
 exact ⟨fun h => ⟨h.1.symm, h.2.symm⟩, fun h => ⟨h.1.symm, h.2.symm⟩⟩
end Go.Proofs.Ytkfebceainedfaa.P.OwnGap
namespace Go.Proofs.Ytkfebceainedfaa.P.OwnUrn
open Go.RowKit Go.Proofs.YtkfebceainedfaaW.PrintWords Go.Proofs.YtkfebceainedfaaW.PrintLast Go.Proofs.YtkfebceainedfaaW.PrintMore
open Go.Proofs.Ytkfebceainedfaa.P.OwnGap
set_option linter.unusedVariables false
set_option linter.unusedSimpArgs false
theorem wrap_u64_range (n : Int) : 0 ≤ IntKind.u64.wrap n ∧ IntKind.u64.wrap n < 18446744073709551616 := by
 have h : IntKind.u64.wrap n = n % 18446744073709551616 := by simp [IntKind.wrap, IntKind.bits, IntKind.signed]
 rw [h]
 omega
theorem wrap_u64_small {n : Int} (h0 : 0 ≤ n) (h1 : n < 18446744073709551616) : IntKind.u64.wrap n = n := by
 have h : IntKind.u64.wrap n = n % 18446744073709551616 := by simp [IntKind.wrap, IntKind.bits, IntKind.signed]
 rw [h]
 omega
theorem turn_ok (a b : Int) : ∃ v a' b', cippuskit_Urn_turn.f a b = some (v, a', b') ∧ 0 ≤ v ∧ v < 18446744073709551616 := by
 unfold cippuskit_Urn_turn.f
 split
 ·exact ⟨_, _, _, rfl, wrap_u64_range _⟩
 ·exact ⟨_, _, _, rfl, wrap_u64_range _⟩
theorem up_ok (a b n : Int) (hn : n ≤ 1000) : ∃ v a' b', cippuskit_Urn_Up.f a b n = some (v, a', b') ∧ 0 ≤ v ∧ (v < n ∨ v = 0) := by
 unfold cippuskit_Urn_Up.f
 by_cases h : n < 2
 ·rw [if_pos h]
  exact ⟨0, a, b, rfl, Int.le_refl _, .inr rfl⟩
 ·rw [if_neg h]
  obtain ⟨v, a', b', e, h0, h1⟩ := turn_ok a b
  rw [e, Option.bind_some, wrap_u64_small (by omega) (by omega), if_neg (by omega)]
  have h2 : 0 ≤ v / 2048 := by omega
  have h3 : Int.tmod (v / 2048) n = (v / 2048) % n := Int.tmod_eq_emod_of_nonneg h2
  have h4 := Int.emod_nonneg (v / 2048) (show n ≠ 0 by omega)
  have h5 := Int.emod_lt_of_pos (v / 2048) (show 0 < n by omega)
  refine ⟨_, _, _, rfl, ?_⟩
  show 0 ≤ wrap64 (Int.tmod (v / 2048) n) ∧ (wrap64 (Int.tmod (v / 2048) n) < n ∨ _)
  rw [h3, wrap64_small h4 (by omega)]
  exact ⟨h4, .inl h5⟩
theorem from_ok (a b lo hi : Int) (h0 : -1000 ≤ lo) (h1 : lo ≤ 1000) (h2 : -1000 ≤ hi) (h3 : hi ≤ 900 + lo) : ∃ v a' b', cippuskit_Urn_From.f a b lo hi = some (v, a', b') ∧ lo ≤ v ∧ (v ≤ hi ∨ v = lo) := by
 unfold cippuskit_Urn_From.f
 have e1 : wrap64 (hi - lo) = hi - lo := by simp [wrap64]; omega
 have e2 : wrap64 (hi - lo + 1) = hi - lo + 1 := by simp [wrap64]; omega
 rw [e1, e2]
 obtain ⟨v, a', b', e, h4, h5⟩ := up_ok a b (hi - lo + 1) (by omega)
 rw [e, Option.bind_some]
 refine ⟨_, _, _, rfl, ?_⟩
 have e3 : wrap64 (lo + v) = lo + v := by simp [wrap64]; omega
 show lo ≤ wrap64 (lo + v) ∧ (wrap64 (lo + v) ≤ hi ∨ wrap64 (lo + v) = lo)
 rw [e3]
 omega
theorem odds_ok (a b n m : Int) (hm : m ≤ 1000) : ∃ v a' b', cippuskit_Urn_Odds.f a b n m = some (v, a', b') := by
 unfold cippuskit_Urn_Odds.f
 obtain ⟨v, a', b', e, _⟩ := up_ok a b m hm
 rw [e, Option.bind_some]
 exact ⟨_, _, _, rfl⟩
theorem any_ok (a b : Int) (l : List Int) (h0 : l ≠ []) (hl : l.length ≤ 1000) : ∃ v a' b', cippuskit_Urn_Any.f a b l = some (v, a', b') ∧ v ∈ l := by
 have h1 : 0 < l.length := List.length_pos_iff.2 h0
 unfold cippuskit_Urn_Any.f
 rw [if_neg (by omega)]
 obtain ⟨v, a', b', e, h4, h5⟩ := up_ok a b (l.length : Int) (by omega)
 rw [e, Option.bind_some]
 have h6 : v < (l.length : Int) := by omega
 rw [if_pos h4, if_pos h6]
 refine ⟨_, _, _, rfl, ?_⟩
 show rd l v ∈ l
 unfold rd
 rw [List.getD_eq_getElem?_getD, List.getElem?_eq_getElem (by omega)]
 exact List.getElem_mem _
abbrev St := Int × Int
def rowGo : Nat → List Bool → St → Option (List Bool × St)
 | 0, l, s => some (l, s)
 | n + 1, l, s => (cippuskit_Urn_Odds.f s.1 s.2 1 2).bind fun a => rowGo n (l ++ [a.1]) a.2
def formsGo (f : Nat) : Nat → List Bool → List Bool → List (List Bool) → St → Option (List Bool × List Bool × List (List Bool) × St)
 | 0, F, L, N, s => some (F, L, N, s)
 | n + 1, F, L, N, s => (cippuskit_Urn_Odds.f s.1 s.2 2 3).bind fun a => (cippuskit_Urn_Odds.f a.2.1 a.2.2 2 3).bind fun b => (rowGo f [] b.2).bind fun c => formsGo f n (F ++ [a.1]) (L ++ [b.1]) (N ++ [c.1]) c.2
def textGo : Nat → ByteArray → St → Option (ByteArray × St)
 | 0, t, s => some (t, s)
 | n + 1, t, s => (cippuskit_Urn_Any.f s.1 s.2 [65, 66, 66, 73]).bind fun a => textGo n (t ++ strOfNums [IntKind.u8.wrap a.1]) a.2
def wordsGo (forms letters : Int) : Nat → List S53 → St → Option (List S53 × St)
 | 0, l, s => some (l, s)
 | n + 1, l, s => (cippuskit_Urn_Up.f s.1 s.2 forms).bind fun f => (cippuskit_Urn_From.f f.2.1 f.2.2 1 letters).bind fun k => (textGo k.1.toNat ⟨#[]⟩ k.2).bind fun t =>
   wordsGo forms letters n (if l.any (fun x => sameW x ⟨t.1, f.1⟩) = true then l else l ++ [⟨t.1, f.1⟩]) t.2
def widGo : Nat → List S47 → St → Option (List S47 × St)
 | 0, l, s => some (l, s)
 | n + 1, l, s => (cippuskit_Urn_Any.f s.1 s.2 [2, 6]).bind fun a => (cippuskit_Urn_Span.f a.2.1 a.2.2 1 a.1).bind fun b => widGo n (l ++ [⟨b.1, b.2.1⟩]) b.2.2
def lexiconOf (s0 s1 a1 a2 : Int) : Option (List S53 × List Bool × List Bool × List (List Bool) × List S47 × Int × Int) :=
 if (0 ≤ a1 ∧ a1 ≤ 800) ∧ (0 ≤ a2 ∧ a2 ≤ 800) then
  (cippuskit_Urn_From.f s0 s1 1 3).bind fun f => (formsGo f.1.toNat f.1.toNat [] [] [] f.2).bind fun x => (cippuskit_Urn_From.f x.2.2.2.1 x.2.2.2.2 1 a1).bind fun i =>
   (wordsGo f.1 a2 i.1.toNat [] i.2).bind fun w => (widGo 26 [] w.2).bind fun d => some (w.1, x.1.set 0 true, x.2.1.set (f.1.toNat - 1) true, x.2.2.1, d.1, d.2.1, d.2.2)
 else none
end Go.Proofs.Ytkfebceainedfaa.P.OwnUrn
namespace Go.Proofs.Ytkfebceainedfaa.P.OwnUrn
open Go.RowKit Go.Proofs.YtkfebceainedfaaW.PrintWords Go.Proofs.YtkfebceainedfaaW.PrintLast Go.Proofs.YtkfebceainedfaaW.PrintMore
open Go.Proofs.Ytkfebceainedfaa.P.OwnGap
set_option linter.unusedVariables false
set_option linter.unusedSimpArgs false
abbrev kB : Kd Bool := Kd.bool
def T1 : Nat → Prop := fun _ => True
section
variable {α β : Type} {d : Kd α} {d' : Kd β} {e e' base base' : Nat} {W W' w1 : World} {u v v1 : Value} {xs : List α} {ys : List β} {ok : Nat → Prop}
theorem R_st (h : d.R e W base (fun _ => True) v xs) (hm : ∀ k, base ≤ k → k < W.heap.size → W'.heap[k]? = W.heap[k]?) : d.R e W' base (fun _ => True) v xs :=
 Kd.R_mono (Kd.R_step (Kd.R_bound h) (fun k hk hlt => hm k hk.2.1 hlt)) (fun _ _ => trivial)
theorem R_oth (hE : d.E = []) (h : d.R e W base (fun _ => True) u xs) {row : Option Nat} (hg : W.grownBy w1 row) (hne : ∀ k, u.ownBlock = some k → some k ≠ row) : d.R e w1 base (fun _ => True) u xs :=
 Kd.R_mono (Kd.R_grown (Kd.R_tight hE h) hg (fun k hk => hne k hk.symm)) (fun _ _ => trivial)
theorem ne_ty (h : d.R e W base (fun _ => True) u xs) (h' : d'.R e' W base' (fun _ => True) v ys) (ht : e' ≠ e) : ∀ k, u.ownBlock = some k → some k ≠ v.ownBlock := fun k hk => by
 obtain ⟨cells, hc⟩ := Kd.R_typed h k hk
 exact Kd.R_ne h' hc ht
theorem ne_tyN (h : d.R e W base (fun _ => True) u xs) (h' : Kd.N d' e' W base' ok v ys) (ht : e' ≠ e) : ∀ k, u.ownBlock = some k → some k ≠ v.ownBlock := fun k hk => by
 obtain ⟨cells, hc⟩ := Kd.R_typed h k hk
 exact Kd.N_ne h' hc ht
theorem ne_grow (hd : ∀ k, v.ownBlock = some k → u.ownBlock ≠ some k) (hu : ∀ k, u.ownBlock = some k → k < W.heap.size) (hat : v1.ownBlock = v.ownBlock ∨ ∃ b, v1.ownBlock = some b ∧ W.heap.size ≤ b) : ∀ k, v1.ownBlock = some k → u.ownBlock ≠ some k := by
 intro k hk hu2
 rcases hat with h | ⟨b, hb, hle⟩
 ·exact hd k (h ▸ hk) hu2
 ·have := hu k hu2
  rw [hb] at hk
  injection hk with hk
  omega
theorem ne_swap (hd : ∀ k, v.ownBlock = some k → u.ownBlock ≠ some k) : ∀ k, u.ownBlock = some k → v.ownBlock ≠ some k := fun k h1 h2 => hd k h2 h1
end
structure LR (w0 w W : World) (g : Nat) (B : Nat → Prop) (s : St) (v0 v1 v2 v3 v4 v9 : Value) (l0 : List S53) (l1 l2 : List Bool) (l3 : List (List Bool)) (l4 : List S47) (l9 : List Bool) : Prop where
 gn : g < w.heap.size
 kb : KeepBut w W g none
 u : IsS83 w0 W g s.1 s.2
 bw : Below w0.heap.size w0 W
 r0 : k53.R 53 W w.heap.size (fun _ => True) v0 l0
 r1 : kB.R 4 W w.heap.size (fun _ => True) v1 l1
 r2 : kB.R 4 W w.heap.size (fun _ => True) v2 l2
 r3 : Kd.N (Kd.slice 4 Kd.bool) 24 W w.heap.size (fun k => (((((w.heap.size ≤ k ∧ B k) ∧ some k ≠ v0.ownBlock) ∧ some k ≠ v4.ownBlock) ∧ some k ≠ v1.ownBlock) ∧ some k ≠ v2.ownBlock) ∧ some k ≠ v9.ownBlock) v3 l3
 r4 : k47.R 47 W w.heap.size (fun _ => True) v4 l4
 r9 : kB.R 4 W w.heap.size (fun _ => True) v9 l9
 d12 : ∀ k, v1.ownBlock = some k → v2.ownBlock ≠ some k
 d19 : ∀ k, v1.ownBlock = some k → v9.ownBlock ≠ some k
 d29 : ∀ k, v2.ownBlock = some k → v9.ownBlock ≠ some k
section
variable {w0 w W W' w1 : World} {g : Nat} {B B' : Nat → Prop} {s s' : St} {v0 v1 v2 v3 v4 v9 v' : Value} {l0 l0' : List S53} {l1 l1' l2 l2' : List Bool} {l3 : List (List Bool)} {l4 l4' : List S47} {l9 l9' : List Bool}
theorem keep_trans {a b c : World} {g : Nat} (h : KeepBut a b g none) (k : KeepBut b c g none) : KeepBut a c g none :=
 ⟨Nat.le_trans h.1 k.1, fun i h1 h2 h3 => (k.2 i (Nat.lt_of_lt_of_le h1 h.1) h2 h3).trans (h.2 i h1 h2 h3)⟩
theorem LR.sz (h : LR w0 w W g B s v0 v1 v2 v3 v4 v9 l0 l1 l2 l3 l4 l9) : w.heap.size ≤ W.heap.size := h.kb.1
theorem LR.w0g (h : LR w0 w W g B s v0 v1 v2 v3 v4 v9 l0 l1 l2 l3 l4 l9) : w0.heap.size ≤ w.heap.size := Nat.le_trans h.u.2 (Nat.le_of_lt h.gn)
theorem LR.step (h : LR w0 w W g B s v0 v1 v2 v3 v4 v9 l0 l1 l2 l3 l4 l9) (hk : KeepBut W W' g none) (hu : IsS83 w0 W' g s'.1 s'.2) (hb : Below w0.heap.size w0 W') : LR w0 w W' g B s' v0 v1 v2 v3 v4 v9 l0 l1 l2 l3 l4 l9 := by
 have hm : ∀ k, w.heap.size ≤ k → k < W.heap.size → W'.heap[k]? = W.heap[k]? := fun k h1 h2 => hk.2 k h2 (by have := h.gn; omega) (by simp)
 exact { h with kb := keep_trans h.kb hk, u := hu, bw := hb, r0 := R_st h.r0 hm, r1 := R_st h.r1 hm, r2 := R_st h.r2 hm, r3 := Kd.N_step h.r3 (fun k hk hlt => hm k hk.1.1.1.1.1.1 hlt), r4 := R_st h.r4 hm, r9 := R_st h.r9 hm }
theorem LR.next (h : LR w0 w W g B s v0 v1 v2 v3 v4 v9 l0 l1 l2 l3 l4 l9) (hb : Below W.heap.size W W') : LR w0 w W' g B s v0 v1 v2 v3 v4 v9 l0 l1 l2 l3 l4 l9 :=
 h.step (KeepBut.of_below hb g none) (h.u.below hb) (h.bw.trans (hb.mono (Nat.le_trans h.w0g h.sz)))
theorem LR.sub (h : LR w0 w W g B s v0 v1 v2 v3 v4 v9 l0 l1 l2 l3 l4 l9) (hB : ∀ k, k < W.heap.size → B k → B' k) : LR w0 w W g B' s v0 v1 v2 v3 v4 v9 l0 l1 l2 l3 l4 l9 :=
 { h with r3 := Kd.N_mono (Kd.N_bound h.r3) (fun k hk => ⟨⟨⟨⟨⟨⟨hk.1.1.1.1.1.1.1, hB k hk.2 hk.1.1.1.1.1.1.2⟩, hk.1.1.1.1.1.2⟩, hk.1.1.1.1.2⟩, hk.1.1.1.2⟩, hk.1.1.2⟩, hk.1.2⟩) }
theorem setBlk_keep {b o : Nat} (v : Value) (hn : w.heap.size ≤ b) : KeepBut w W g none → KeepBut w (W.setCell ⟨b, o, none⟩ v) g none := fun hk =>
 ⟨by show _ ≤ (W.heap.modify _ _).size; rw [Array.size_modify]; exact hk.1, fun i h1 h2 h3 => (Below.heap_setCell W ⟨b, o, none⟩ v i (by show i ≠ b; omega)).trans (hk.2 i h1 h2 h3)⟩
theorem R_fb {α : Type} {d : Kd α} {e : Nat} {x : Value} {xs : List α} {n b o : Nat} (hE : d.E = []) (h : d.R e W n (fun _ => True) x xs) (hne : x.ownBlock ≠ some b) (v : Value) : d.R e (W.setCell ⟨b, o, none⟩ v) n (fun _ => True) x xs :=
 Kd.R_mono (Kd.R_far (p := ⟨b, o, none⟩) (Kd.R_tight hE h) (fun k hk => by rintro rfl; exact hne hk.symm) v) (fun _ _ => trivial)
theorem LR.far (h : LR w0 w W g B s v0 v1 v2 v3 v4 v9 l0 l1 l2 l3 l4 l9) {b o : Nat} (hn : w.heap.size ≤ b) (hB : ∀ k, B k → k ≠ b) (n0 : v0.ownBlock ≠ some b) (n1 : v1.ownBlock ≠ some b) (n2 : v2.ownBlock ≠ some b) (n4 : v4.ownBlock ≠ some b) (n9 : v9.ownBlock ≠ some b) (v : Value) : LR w0 w (W.setCell ⟨b, o, none⟩ v) g B s v0 v1 v2 v3 v4 v9 l0 l1 l2 l3 l4 l9 := by
 have hgb : g ≠ b := by have := h.gn; omega
 exact { h with kb := setBlk_keep v hn h.kb, u := ⟨blk_far h.u.1 hgb v, h.u.2⟩, bw := h.bw.setCell (by show w0.heap.size ≤ b; have := h.w0g; omega) v, r0 := R_fb rfl h.r0 n0 v, r1 := R_fb rfl h.r1 n1 v, r2 := R_fb rfl h.r2 n2 v, r3 := Kd.N_far (p := ⟨b, o, none⟩) h.r3 (fun k hk => hB k hk.1.1.1.1.1.2) v, r4 := R_fb rfl h.r4 n4 v, r9 := R_fb rfl h.r9 n9 v }
theorem LR.grow_kb (h : LR w0 w W g B s v0 v1 v2 v3 v4 v9 l0 l1 l2 l3 l4 l9) {row : Option Nat} (hg : W.grownBy w1 row) (hr : ∀ k, row = some k → w.heap.size ≤ k) : KeepBut w w1 g none ∧ IsS83 w0 w1 g s.1 s.2 ∧ Below w0.heap.size w0 w1 :=
 ⟨⟨Nat.le_trans h.kb.1 hg.size, fun i h1 h2 h3 => (hg.block i (Nat.lt_of_lt_of_le h1 h.kb.1) (fun e => by have := hr i e.symm; omega)).trans (h.kb.2 i h1 h2 h3)⟩, h.u.grown hg (fun e => by have := hr g e.symm; have := h.gn; omega), h.bw.grown hg (Nat.le_trans h.w0g h.sz) (fun k hk => Nat.le_trans h.w0g (hr k hk))⟩
def Hat (W : World) (v v' : Value) : Prop := v'.ownBlock = v.ownBlock ∨ ∃ b, v'.ownBlock = some b ∧ W.heap.size ≤ b
theorem LR.app0 (h : LR w0 w W g B s v0 v1 v2 v3 v4 v9 l0 l1 l2 l3 l4 l9) (hR : k53.R 53 w1 w.heap.size (fun _ => True) v' l0') (hg : W.grownBy w1 v0.ownBlock) (hat : Hat W v0 v') : LR w0 w w1 g B s v' v1 v2 v3 v4 v9 l0' l1 l2 l3 l4 l9 := by
 obtain ⟨hk, hu, hb⟩ := h.grow_kb hg (Kd.R_base h.r0)
 refine ⟨h.gn, hk, hu, hb, hR, R_oth rfl h.r1 hg (ne_ty h.r1 h.r0 (by decide)), R_oth rfl h.r2 hg (ne_ty h.r2 h.r0 (by decide)), ?_, R_oth rfl h.r4 hg (ne_ty h.r4 h.r0 (by decide)), R_oth rfl h.r9 hg (ne_ty h.r9 h.r0 (by decide)), h.d12, h.d19, h.d29⟩
 exact Kd.N_mono (Kd.N_after (u := v0) (Kd.N_mono h.r3 (fun k ⟨⟨⟨⟨⟨⟨a, b⟩, c⟩, d⟩, e⟩, f⟩, i⟩ => (⟨⟨⟨⟨⟨⟨a, b⟩, d⟩, e⟩, f⟩, i⟩, c⟩ : ((((( w.heap.size ≤ k ∧ B k) ∧ some k ≠ v4.ownBlock) ∧ some k ≠ v1.ownBlock) ∧ some k ≠ v2.ownBlock) ∧ some k ≠ v9.ownBlock) ∧ some k ≠ v0.ownBlock))) hg hat) (fun k ⟨⟨⟨⟨⟨⟨a, b⟩, d⟩, e⟩, f⟩, i⟩, c⟩ => ⟨⟨⟨⟨⟨⟨a, b⟩, c⟩, d⟩, e⟩, f⟩, i⟩)
theorem LR.app4 (h : LR w0 w W g B s v0 v1 v2 v3 v4 v9 l0 l1 l2 l3 l4 l9) (hR : k47.R 47 w1 w.heap.size (fun _ => True) v' l4') (hg : W.grownBy w1 v4.ownBlock) (hat : Hat W v4 v') : LR w0 w w1 g B s v0 v1 v2 v3 v' v9 l0 l1 l2 l3 l4' l9 := by
 obtain ⟨hk, hu, hb⟩ := h.grow_kb hg (Kd.R_base h.r4)
 refine ⟨h.gn, hk, hu, hb, R_oth rfl h.r0 hg (ne_ty h.r0 h.r4 (by decide)), R_oth rfl h.r1 hg (ne_ty h.r1 h.r4 (by decide)), R_oth rfl h.r2 hg (ne_ty h.r2 h.r4 (by decide)), ?_, hR, R_oth rfl h.r9 hg (ne_ty h.r9 h.r4 (by decide)), h.d12, h.d19, h.d29⟩
 exact Kd.N_mono (Kd.N_after (u := v4) (Kd.N_mono h.r3 (fun k ⟨⟨⟨⟨⟨⟨a, b⟩, c⟩, d⟩, e⟩, f⟩, i⟩ => (⟨⟨⟨⟨⟨⟨a, b⟩, c⟩, e⟩, f⟩, i⟩, d⟩ : ((((( w.heap.size ≤ k ∧ B k) ∧ some k ≠ v0.ownBlock) ∧ some k ≠ v1.ownBlock) ∧ some k ≠ v2.ownBlock) ∧ some k ≠ v9.ownBlock) ∧ some k ≠ v4.ownBlock))) hg hat) (fun k ⟨⟨⟨⟨⟨⟨a, b⟩, c⟩, e⟩, f⟩, i⟩, d⟩ => ⟨⟨⟨⟨⟨⟨a, b⟩, c⟩, d⟩, e⟩, f⟩, i⟩)
theorem LR.app1 (h : LR w0 w W g B s v0 v1 v2 v3 v4 v9 l0 l1 l2 l3 l4 l9) (hR : kB.R 4 w1 w.heap.size (fun _ => True) v' l1') (hg : W.grownBy w1 v1.ownBlock) (hat : Hat W v1 v') : LR w0 w w1 g B s v0 v' v2 v3 v4 v9 l0 l1' l2 l3 l4 l9 := by
 obtain ⟨hk, hu, hb⟩ := h.grow_kb hg (Kd.R_base h.r1)
 refine ⟨h.gn, hk, hu, hb, R_oth rfl h.r0 hg (ne_ty h.r0 h.r1 (by decide)), hR, R_oth rfl h.r2 hg (fun k hk e => h.d12 k e.symm hk), ?_, R_oth rfl h.r4 hg (ne_ty h.r4 h.r1 (by decide)), R_oth rfl h.r9 hg (fun k hk e => h.d19 k e.symm hk), ne_grow h.d12 (Kd.R_lt h.r2) hat, ne_grow h.d19 (Kd.R_lt h.r9) hat, h.d29⟩
 exact Kd.N_mono (Kd.N_after (u := v1) (Kd.N_mono h.r3 (fun k ⟨⟨⟨⟨⟨⟨a, b⟩, c⟩, d⟩, e⟩, f⟩, i⟩ => (⟨⟨⟨⟨⟨⟨a, b⟩, c⟩, d⟩, f⟩, i⟩, e⟩ : ((((( w.heap.size ≤ k ∧ B k) ∧ some k ≠ v0.ownBlock) ∧ some k ≠ v4.ownBlock) ∧ some k ≠ v2.ownBlock) ∧ some k ≠ v9.ownBlock) ∧ some k ≠ v1.ownBlock))) hg hat) (fun k ⟨⟨⟨⟨⟨⟨a, b⟩, c⟩, d⟩, f⟩, i⟩, e⟩ => ⟨⟨⟨⟨⟨⟨a, b⟩, c⟩, d⟩, e⟩, f⟩, i⟩)
theorem LR.app2 (h : LR w0 w W g B s v0 v1 v2 v3 v4 v9 l0 l1 l2 l3 l4 l9) (hR : kB.R 4 w1 w.heap.size (fun _ => True) v' l2') (hg : W.grownBy w1 v2.ownBlock) (hat : Hat W v2 v') : LR w0 w w1 g B s v0 v1 v' v3 v4 v9 l0 l1 l2' l3 l4 l9 := by
 obtain ⟨hk, hu, hb⟩ := h.grow_kb hg (Kd.R_base h.r2)
 refine ⟨h.gn, hk, hu, hb, R_oth rfl h.r0 hg (ne_ty h.r0 h.r2 (by decide)), R_oth rfl h.r1 hg (fun k hk e => h.d12 k hk e.symm), hR, ?_, R_oth rfl h.r4 hg (ne_ty h.r4 h.r2 (by decide)), R_oth rfl h.r9 hg (fun k hk e => h.d29 k e.symm hk), ne_swap (ne_grow (ne_swap h.d12) (Kd.R_lt h.r1) hat), h.d19, ne_grow h.d29 (Kd.R_lt h.r9) hat⟩
 exact Kd.N_mono (Kd.N_after (u := v2) (Kd.N_mono h.r3 (fun k ⟨⟨⟨⟨⟨⟨a, b⟩, c⟩, d⟩, e⟩, f⟩, i⟩ => (⟨⟨⟨⟨⟨⟨a, b⟩, c⟩, d⟩, e⟩, i⟩, f⟩ : ((((( w.heap.size ≤ k ∧ B k) ∧ some k ≠ v0.ownBlock) ∧ some k ≠ v4.ownBlock) ∧ some k ≠ v1.ownBlock) ∧ some k ≠ v9.ownBlock) ∧ some k ≠ v2.ownBlock))) hg hat) (fun k ⟨⟨⟨⟨⟨⟨a, b⟩, c⟩, d⟩, e⟩, i⟩, f⟩ => ⟨⟨⟨⟨⟨⟨a, b⟩, c⟩, d⟩, e⟩, f⟩, i⟩)
theorem LR.app9 (h : LR w0 w W g B s v0 v1 v2 v3 v4 v9 l0 l1 l2 l3 l4 l9) (hR : kB.R 4 w1 w.heap.size (fun _ => True) v' l9') (hg : W.grownBy w1 v9.ownBlock) (hat : Hat W v9 v') : LR w0 w w1 g B s v0 v1 v2 v3 v4 v' l0 l1 l2 l3 l4 l9' := by
 obtain ⟨hk, hu, hb⟩ := h.grow_kb hg (Kd.R_base h.r9)
 refine ⟨h.gn, hk, hu, hb, R_oth rfl h.r0 hg (ne_ty h.r0 h.r9 (by decide)), R_oth rfl h.r1 hg (fun k hk e => h.d19 k hk e.symm), R_oth rfl h.r2 hg (fun k hk e => h.d29 k hk e.symm), ?_, R_oth rfl h.r4 hg (ne_ty h.r4 h.r9 (by decide)), hR, h.d12, ne_swap (ne_grow (ne_swap h.d19) (Kd.R_lt h.r1) hat), ne_swap (ne_grow (ne_swap h.d29) (Kd.R_lt h.r2) hat)⟩
 exact Kd.N_after (u := v9) h.r3 hg hat
theorem LR.appN (h : LR w0 w W g B s v0 v1 v2 v3 v4 v9 l0 l1 l2 l3 l4 l9) (hN : Kd.N (Kd.slice 4 Kd.bool) 24 w1 w.heap.size (fun k => ((((w.heap.size ≤ k ∧ B k) ∧ some k ≠ v0.ownBlock) ∧ some k ≠ v4.ownBlock) ∧ some k ≠ v1.ownBlock) ∧ some k ≠ v2.ownBlock) v' (l3 ++ [l9])) (hg : W.grownBy w1 v3.ownBlock) : LR w0 w w1 g B s v0 v1 v2 v' v4 (.slice none 0 0) l0 l1 l2 (l3 ++ [l9]) l4 [] := by
 obtain ⟨hk, hu, hb⟩ := h.grow_kb hg (Kd.N_base h.r3)
 have hn : ∀ k, (Value.slice none 0 0).ownBlock ≠ some k := fun k => by simp [Value.ownBlock]
 exact ⟨h.gn, hk, hu, hb, R_oth rfl h.r0 hg (ne_tyN h.r0 h.r3 (by decide)), R_oth rfl h.r1 hg (ne_tyN h.r1 h.r3 (by decide)), R_oth rfl h.r2 hg (ne_tyN h.r2 h.r3 (by decide)), Kd.N_mono hN (fun k hk => ⟨hk, fun e => hn k e.symm⟩), R_oth rfl h.r4 hg (ne_tyN h.r4 h.r3 (by decide)), Kd.R_nil _ _ _ _ _, h.d12, fun k _ => hn k, fun k _ => hn k⟩
theorem LR.rowOk (h : LR w0 w W g B s v0 v1 v2 v3 v4 v9 l0 l1 l2 l3 l4 l9) : ∀ k, some k = v9.ownBlock ∧ B k → (((((w.heap.size ≤ k ∧ B k) ∧ some k ≠ v0.ownBlock) ∧ some k ≠ v4.ownBlock) ∧ some k ≠ v1.ownBlock) ∧ some k ≠ v2.ownBlock) ∧ some k ≠ v3.ownBlock := fun k hk =>
 ⟨⟨⟨⟨⟨⟨Kd.R_base h.r9 k hk.1.symm, hk.2⟩, ne_ty h.r9 h.r0 (by decide) k hk.1.symm⟩, ne_ty h.r9 h.r4 (by decide) k hk.1.symm⟩, fun e => h.d19 k e.symm hk.1.symm⟩, fun e => h.d29 k e.symm hk.1.symm⟩, ne_tyN h.r9 h.r3 (by decide) k hk.1.symm⟩
theorem LR.freshOk (h : LR w0 w W g B s v0 v1 v2 v3 v4 v9 l0 l1 l2 l3 l4 l9) (hB : ∀ k, W.heap.size ≤ k → B k) : ∀ k, W.heap.size ≤ k → ((((w.heap.size ≤ k ∧ B k) ∧ some k ≠ v0.ownBlock) ∧ some k ≠ v4.ownBlock) ∧ some k ≠ v1.ownBlock) ∧ some k ≠ v2.ownBlock := fun k hk =>
 ⟨⟨⟨⟨⟨Nat.le_trans h.sz hk, hB k hk⟩, fun e => by have := Kd.R_lt h.r0 k e.symm; omega⟩, fun e => by have := Kd.R_lt h.r4 k e.symm; omega⟩, fun e => by have := Kd.R_lt h.r1 k e.symm; omega⟩, fun e => by have := Kd.R_lt h.r2 k e.symm; omega⟩
theorem LR.put1 {a c n : Nat} (h : LR w0 w W g B s v0 (.slice (some ⟨a, 0, none⟩) n c) v2 v3 v4 v9 l0 l1 l2 l3 l4 l9) (i : Nat) (b : Bool) : LR w0 w (W.setCell ⟨a, i, none⟩ (.bool b)) g B s v0 (.slice (some ⟨a, 0, none⟩) n c) v2 v3 v4 v9 l0 (l1.set i b) l2 l3 l4 l9 := by
 have hR := Kd.R_putn h.r1 (i : Int) b
 rw [Int.toNat_natCast] at hR
 have ha : (Value.slice (some ⟨a, 0, none⟩) n c).ownBlock = some a := by simp [Value.ownBlock]
 have hn := Kd.R_base h.r1 a ha
 have hgb : g ≠ a := by have := h.gn; omega
 refine { h with kb := setBlk_keep _ hn h.kb, u := ⟨blk_far h.u.1 hgb _, h.u.2⟩, bw := h.bw.setCell (by show w0.heap.size ≤ a; have := h.w0g; omega) _, r0 := R_fb rfl h.r0 (fun e => ne_ty h.r0 h.r1 (by decide) a e ha.symm) _, r1 := hR, r2 := R_fb rfl h.r2 (h.d12 a ha) _, r3 := ?_, r4 := R_fb rfl h.r4 (fun e => ne_ty h.r4 h.r1 (by decide) a e ha.symm) _, r9 := R_fb rfl h.r9 (h.d19 a ha) _ }
 exact Kd.N_far (p := ⟨a, i, none⟩) h.r3 (fun k hk => by rintro rfl; exact hk.1.1.2 ha.symm) _
theorem LR.put2 {a c n : Nat} (h : LR w0 w W g B s v0 v1 (.slice (some ⟨a, 0, none⟩) n c) v3 v4 v9 l0 l1 l2 l3 l4 l9) (i : Nat) (b : Bool) : LR w0 w (W.setCell ⟨a, i, none⟩ (.bool b)) g B s v0 v1 (.slice (some ⟨a, 0, none⟩) n c) v3 v4 v9 l0 l1 (l2.set i b) l3 l4 l9 := by
 have hR := Kd.R_putn h.r2 (i : Int) b
 rw [Int.toNat_natCast] at hR
 have ha : (Value.slice (some ⟨a, 0, none⟩) n c).ownBlock = some a := by simp [Value.ownBlock]
 have hn := Kd.R_base h.r2 a ha
 have hgb : g ≠ a := by have := h.gn; omega
 refine { h with kb := setBlk_keep _ hn h.kb, u := ⟨blk_far h.u.1 hgb _, h.u.2⟩, bw := h.bw.setCell (by show w0.heap.size ≤ a; have := h.w0g; omega) _, r0 := R_fb rfl h.r0 (fun e => ne_ty h.r0 h.r2 (by decide) a e ha.symm) _, r2 := hR, r1 := R_fb rfl h.r1 (fun e => h.d12 a e ha) _, r3 := ?_, r4 := R_fb rfl h.r4 (fun e => ne_ty h.r4 h.r2 (by decide) a e ha.symm) _, r9 := R_fb rfl h.r9 (h.d29 a ha) _ }
 exact Kd.N_far (p := ⟨a, i, none⟩) h.r3 (fun k hk => by rintro rfl; exact hk.1.2 ha.symm) _
end
def LxB (W : World) (bx : Nat) (u0 u1 u2 u3 u4 : Value) : Prop := W.heap[bx]? = some (.cells #[u0, u1, u2, u3, u4] 28 (0, 0))
theorem LxB.cells {W : World} {bx : Nat} {u0 u1 u2 u3 u4 : Value} (h : LxB W bx u0 u1 u2 u3 u4) : W.cell? ⟨bx, 0, none⟩ = some u0 ∧ W.cell? ⟨bx, 1, none⟩ = some u1 ∧ W.cell? ⟨bx, 2, none⟩ = some u2 ∧ W.cell? ⟨bx, 3, none⟩ = some u3 ∧ W.cell? ⟨bx, 4, none⟩ = some u4 :=
 ⟨(blk_cell h 0).trans rfl, (blk_cell h 1).trans rfl, (blk_cell h 2).trans rfl, (blk_cell h 3).trans rfl, (blk_cell h 4).trans rfl⟩
structure LX (w0 w W : World) (g : Nat) (B : Nat → Prop) (bx : Nat) (s : St) (v0 v1 v2 v3 v4 v9 : Value) (l0 : List S53) (l1 l2 : List Bool) (l3 : List (List Bool)) (l4 : List S47) (l9 : List Bool) : Prop where
 r : LR w0 w W g B s v0 v1 v2 v3 v4 v9 l0 l1 l2 l3 l4 l9
 b : LxB W bx v0 v1 v2 v3 v4
 n : w.heap.size < bx
end Go.Proofs.Ytkfebceainedfaa.P.OwnUrn
namespace Go.Proofs.Ytkfebceainedfaa.P.OwnUrn
open Go.RowKit Go.Proofs.YtkfebceainedfaaW.PrintWords Go.Proofs.YtkfebceainedfaaW.PrintLast Go.Proofs.YtkfebceainedfaaW.PrintMore
open Go.Proofs.Ytkfebceainedfaa.P.OwnGap
set_option linter.unusedVariables false
set_option linter.unusedSimpArgs false
attribute [local go_sem] Oper.semAt_some
attribute [local go_sem high] eqA53
abbrev nilV : Value := .slice none 0 0
theorem infoL4 : (Try.prog.info? 4).map (fun i => (i.zero, i.size, i.bytes)) = some (some (.bool false), 1, 1) := by kernel_rfl
theorem infoL24 : (Try.prog.info? 24).map (fun i => (i.zero, i.size, i.bytes)) = some (some (.slice none 0 0), 1, 24) := by kernel_rfl
theorem infoL47 : (Try.prog.info? 47).map (fun i => (i.zero, i.size, i.bytes)) = some (some (.agg #[(.int .i64 0), (.int .i64 0)]), 2, 16) := by kernel_rfl
theorem infoL53 : (Try.prog.info? 53).map (fun i => (i.zero, i.size, i.bytes)) = some (some (.agg #[(.string ⟨#[]⟩), (.int .i64 0)]), 2, 24) := by kernel_rfl
theorem LX.start {w0 w : World} {g : Nat} {s : St} (hg : g < w.heap.size) (hI : IsS83 w0 w g s.1 s.2) (hB : Below w0.heap.size w0 w) : LX w0 w ((w.alloc (.cells #[nilV, nilV, nilV, nilV, nilV] 28)).alloc (.cells #[nilV, nilV, nilV, nilV, nilV] 28)) g (fun k => k ≠ w.heap.size + 1 ∧ k ≠ w.heap.size) (w.heap.size + 1) s nilV nilV nilV nilV nilV nilV [] [] [] [] [] [] := by
  have hn : ∀ k, nilV.ownBlock ≠ some k := fun k => by simp [Value.ownBlock]
  have hb : Below w.heap.size w ((w.alloc (.cells #[nilV, nilV, nilV, nilV, nilV] 28)).alloc (.cells #[nilV, nilV, nilV, nilV, nilV] 28)) := ((Below.refl _ _).alloc (Nat.le_refl _) _).alloc (by simp) _
  have h0 : w0.heap.size ≤ w.heap.size := hB.size
  refine ⟨⟨hg, KeepBut.of_below hb g none, hI.below hb, hB.trans (hb.mono h0), Kd.R_nil _ _ _ _ _, Kd.R_nil _ _ _ _ _, Kd.R_nil _ _ _ _ _, Kd.N_nil _ _ _ _ _, Kd.R_nil _ _ _ _ _, Kd.R_nil _ _ _ _ _, fun k _ => hn k, fun k _ => hn k, fun k _ => hn k⟩, ?_, Nat.lt_succ_self _⟩
  have h2 := blk_new (w.alloc (.cells #[nilV, nilV, nilV, nilV, nilV] 28)) (.cells #[nilV, nilV, nilV, nilV, nilV] 28)
  rw [World.size_alloc] at h2
  exact h2
section
variable {w0 w W W' w1 : World} {g bx : Nat} {B : Nat → Prop} {s s' : St} {v0 v1 v2 v3 v4 v9 v' : Value} {l0 l0' : List S53} {l1 l1' l2 l2' : List Bool} {l3 : List (List Bool)} {l4 l4' : List S47} {l9 l9' : List Bool}
theorem LX.next (h : LX w0 w W g B bx s v0 v1 v2 v3 v4 v9 l0 l1 l2 l3 l4 l9) (hb : Below W.heap.size W W') : LX w0 w W' g B bx s v0 v1 v2 v3 v4 v9 l0 l1 l2 l3 l4 l9 := ⟨h.r.next hb, blk_below h.b hb, h.n⟩
theorem LX.urn (h : LX w0 w W g B bx s v0 v1 v2 v3 v4 v9 l0 l1 l2 l3 l4 l9) (hu : IsS83 w0 W' g s'.1 s'.2) (hb : Below w0.heap.size w0 W') (hk : KeepBut W W' g none) : LX w0 w W' g B bx s' v0 v1 v2 v3 v4 v9 l0 l1 l2 l3 l4 l9 :=
  ⟨h.r.step hk hu hb, (hk.2 bx (blk_lt h.b) (by have := h.n; have := h.r.gn; omega) (by simp)).trans h.b, h.n⟩
theorem LR.farX {u0 u1 u2 u3 u4 : Value} (h : LR w0 w W g B s v0 v1 v2 v3 v4 v9 l0 l1 l2 l3 l4 l9) (hb : LxB W bx u0 u1 u2 u3 u4) (hn : w.heap.size < bx) (hB : ∀ k, B k → k ≠ bx) (o : Nat) (v : Value) : LR w0 w (W.setCell ⟨bx, o, none⟩ v) g B s v0 v1 v2 v3 v4 v9 l0 l1 l2 l3 l4 l9 :=
  h.far (Nat.le_of_lt hn) hB (fun e => Kd.R_ne h.r0 hb (by decide) e.symm) (fun e => Kd.R_ne h.r1 hb (by decide) e.symm) (fun e => Kd.R_ne h.r2 hb (by decide) e.symm) (fun e => Kd.R_ne h.r4 hb (by decide) e.symm) (fun e => Kd.R_ne h.r9 hb (by decide) e.symm) v
theorem LxB.set0 {u0 u1 u2 u3 u4 : Value} (hb : LxB W bx u0 u1 u2 u3 u4) (v : Value) : LxB (W.setCell ⟨bx, 0, none⟩ v) bx v u1 u2 u3 u4 := (blk_set hb 0 v).trans (by simp)
theorem LxB.set1 {u0 u1 u2 u3 u4 : Value} (hb : LxB W bx u0 u1 u2 u3 u4) (v : Value) : LxB (W.setCell ⟨bx, 1, none⟩ v) bx u0 v u2 u3 u4 := (blk_set hb 1 v).trans (by simp)
theorem LxB.set2 {u0 u1 u2 u3 u4 : Value} (hb : LxB W bx u0 u1 u2 u3 u4) (v : Value) : LxB (W.setCell ⟨bx, 2, none⟩ v) bx u0 u1 v u3 u4 := (blk_set hb 2 v).trans (by simp)
theorem LxB.set3 {u0 u1 u2 u3 u4 : Value} (hb : LxB W bx u0 u1 u2 u3 u4) (v : Value) : LxB (W.setCell ⟨bx, 3, none⟩ v) bx u0 u1 u2 v u4 := (blk_set hb 3 v).trans (by simp)
theorem LxB.set4 {u0 u1 u2 u3 u4 : Value} (hb : LxB W bx u0 u1 u2 u3 u4) (v : Value) : LxB (W.setCell ⟨bx, 4, none⟩ v) bx u0 u1 u2 u3 v := (blk_set hb 4 v).trans (by simp)
end
section
variable {w0 w W : World} {g b : Nat} {B : Nat → Prop} {s : St} {v0 v1 v2 v3 v4 v9 u0 u1 u2 u3 u4 : Value} {l0 : List S53} {l1 l2 : List Bool} {l3 : List (List Bool)} {l4 : List S47} {l9 : List Bool}
theorem LR.farN (h : LR w0 w W g B s v0 v1 v2 v3 v4 v9 l0 l1 l2 l3 l4 l9) (hb : LxB W b u0 u1 u2 u3 u4) (hn : w.heap.size ≤ b) (hB : ∀ k, B k → k ≠ b) (o : Nat) (v : Value) : LR w0 w (W.setCell ⟨b, o, none⟩ v) g B s v0 v1 v2 v3 v4 v9 l0 l1 l2 l3 l4 l9 :=
  h.far hn hB (fun e => Kd.R_ne h.r0 hb (by decide) e.symm) (fun e => Kd.R_ne h.r1 hb (by decide) e.symm) (fun e => Kd.R_ne h.r2 hb (by decide) e.symm) (fun e => Kd.R_ne h.r4 hb (by decide) e.symm) (fun e => Kd.R_ne h.r9 hb (by decide) e.symm) v
theorem LR.far5 (h : LR w0 w W g B s v0 v1 v2 v3 v4 v9 l0 l1 l2 l3 l4 l9) (hb : LxB W b u0 u1 u2 u3 u4) (hn : w.heap.size ≤ b) (hB : ∀ k, B k → k ≠ b) (x0 x1 x2 x3 x4 : Value) :
    LR w0 w (((((W.setCell ⟨b, 0, none⟩ x0).setCell ⟨b, 1, none⟩ x1).setCell ⟨b, 2, none⟩ x2).setCell ⟨b, 3, none⟩ x3).setCell ⟨b, 4, none⟩ x4) g B s v0 v1 v2 v3 v4 v9 l0 l1 l2 l3 l4 l9 ∧ LxB (((((W.setCell ⟨b, 0, none⟩ x0).setCell ⟨b, 1, none⟩ x1).setCell ⟨b, 2, none⟩ x2).setCell ⟨b, 3, none⟩ x3).setCell ⟨b, 4, none⟩ x4) b x0 x1 x2 x3 x4 :=
  ⟨((((h.farN hb hn hB 0 x0).farN (hb.set0 x0) hn hB 1 x1).farN ((hb.set0 x0).set1 x1) hn hB 2 x2).farN (((hb.set0 x0).set1 x1).set2 x2) hn hB 3 x3).farN ((((hb.set0 x0).set1 x1).set2 x2).set3 x3) hn hB 4 x4, ((((hb.set0 x0).set1 x1).set2 x2).set3 x3).set4 x4⟩
theorem LR.told (h : LR w0 w W g B s v0 v1 v2 v3 v4 v9 l0 l1 l2 l3 l4 l9) : Kd.R k53 53 W w.heap.size (fun k_ => (w.heap.size ≤ k_)) v0 l0 ∧ Kd.R Kd.bool 4 W w.heap.size (fun k_ => (w.heap.size ≤ k_) ∧ some k_ ≠ v2.ownBlock) v1 l1 ∧ Kd.R Kd.bool 4 W w.heap.size (fun k_ => (w.heap.size ≤ k_) ∧ some k_ ≠ v1.ownBlock) v2 l2 ∧ Kd.N (Kd.slice 4 Kd.bool) 24 W w.heap.size (fun k_ => (w.heap.size ≤ k_) ∧ some k_ ≠ v0.ownBlock ∧ some k_ ≠ v1.ownBlock ∧ some k_ ≠ v2.ownBlock ∧ some k_ ≠ v4.ownBlock) v3 l3 ∧ Kd.R k47 47 W w.heap.size (fun k_ => (w.heap.size ≤ k_)) v4 l4 :=
  ⟨Kd.R_reok rfl h.r0 (Kd.R_base h.r0), Kd.R_reok rfl h.r1 (fun k hk => ⟨Kd.R_base h.r1 k hk, fun e => h.d12 k hk e.symm⟩), Kd.R_reok rfl h.r2 (fun k hk => ⟨Kd.R_base h.r2 k hk, fun e => h.d12 k e.symm hk⟩),
    Kd.N_mono h.r3 (fun k ⟨⟨⟨⟨⟨⟨a, b⟩, c⟩, d⟩, e⟩, f⟩, i⟩ => ⟨a, c, e, f, d⟩), Kd.R_reok rfl h.r4 (Kd.R_base h.r4)⟩
end
theorem C_lit (w : World) (xs : List Int) (t : TypeId) (hm : xs.length ≤ 1000) : Kd.C (Kd.int .i64) (w.alloc (.cells (xs.map (Value.int .i64)).toArray t)) (some ⟨w.heap.size, 0, none⟩) xs.length xs := by
  refine ⟨rfl, by omega, fun _ => ⟨_, rfl, fun j q hj => ⟨[.int .i64 q], rfl, rfl, fun i u hu => ?_⟩⟩⟩
  have hi : i = 0 := by
    have := (List.getElem?_eq_some_iff.1 hu).1
    simpa using this
  subst hi
  simp only [List.getElem?_cons_zero, Option.some.injEq] at hu
  subst hu
  have e : ((⟨w.heap.size, 0, none⟩ : Addr).add (j * (Kd.int .i64).sz + 0)) = ⟨w.heap.size, j, none⟩ := by
    rw [show j * (Kd.int .i64).sz + 0 = j by show j * 1 + 0 = j; omega]
    cases j <;> simp [Addr.add]
  rw [e, blk_cell (blk_new w _) j]
  simp [hj]
theorem conv_byte (w : World) (c : Int) : (convert 67 9 (.slice (some ⟨w.heap.size, 0, none⟩) 1 1)).run Try.prog (w.alloc (.cells #[.int .u8 c] 5)) = .ok (.string (strOfNums [c])) (w.alloc (.cells #[.int .u8 c] 5)) :=
  run_convert_bytes_arg (P := Try.prog) (w := w.alloc (.cells #[.int .u8 c] 5)) 67 5 Try.underlying67 Try.underlying5 w.heap.size 0 1 1 [c] rfl (fun i hi => by
    obtain rfl : i = 0 := by omega
    exact (blk_cell (blk_new w (.cells #[.int .u8 c] 5)) 0).trans rfl) 9 Try.underlying9
theorem R_sl {α : Type} {d : Kd α} {e base : Nat} {W : World} {ok : Nat → Prop} {v : Value} {xs : List α} (h : d.R e W base ok v xs) : ∃ A n c, v = .slice A n c := by
  obtain ⟨A, c, e⟩ := Kd.R_slice h
  exact ⟨A, _, c, e⟩
set_option maxHeartbeats 8000000 in
set_option maxRecDepth 100000 in
theorem lexiconOf_calls (g : Nat) (s0 s1 a1 a2 : Int) (r1 : List S53) (r2 r3 : List Bool) (r4 : List (List Bool)) (r5 : List S47) (r6 r7 : Int) (w0 w : World) (hI : IsS83 w0 w g s0 s1) (hB : Below w0.heap.size w0 w) (h : lexiconOf s0 s1 a1 a2 = some (r1, r2, r3, r4, r5, r6, r7)) :
    Calls Try.prog 38 #[.pointer (some ⟨g, 0, none⟩), .int .i64 a1, .int .i64 a2] w fun e w' => ∃ v0_ v1_ v2_ v3_ v4_ : Value, e = .returned (.agg #[v0_, v1_, v2_, v3_, v4_]) ∧ Kd.R k53 53 w' w.heap.size (fun k_ => (w.heap.size ≤ k_)) v0_ r1 ∧ Kd.R Kd.bool 4 w' w.heap.size (fun k_ => (w.heap.size ≤ k_) ∧ some k_ ≠ (v2_ : Value).ownBlock) v1_ r2 ∧ Kd.R Kd.bool 4 w' w.heap.size (fun k_ => (w.heap.size ≤ k_) ∧ some k_ ≠ (v1_ : Value).ownBlock) v2_ r3 ∧ Kd.N (Kd.slice 4 Kd.bool) 24 w' w.heap.size (fun k_ => (w.heap.size ≤ k_) ∧ some k_ ≠ (v0_ : Value).ownBlock ∧ some k_ ≠ (v1_ : Value).ownBlock ∧ some k_ ≠ (v2_ : Value).ownBlock ∧ some k_ ≠ (v4_ : Value).ownBlock) v3_ r4 ∧ Kd.R k47 47 w' w.heap.size (fun k_ => (w.heap.size ≤ k_)) v4_ r5 ∧ IsS83 w0 w' g r6 r7 ∧ Below w0.heap.size w0 w' ∧ KeepBut w w' g none := by
  unfold lexiconOf at h
  by_cases ha : (0 ≤ a1 ∧ a1 ≤ 800) ∧ (0 ≤ a2 ∧ a2 ≤ 800)
  case neg => rw [if_neg ha] at h; cases h
  rw [if_pos ha] at h
  obtain ⟨⟨F, sF⟩, hF, h⟩ := Option.bind_eq_some_iff.1 h
  obtain ⟨tgt, hT, h⟩ := Option.bind_eq_some_iff.1 h
  obtain ⟨⟨N, sN⟩, hN, h⟩ := Option.bind_eq_some_iff.1 h
  obtain ⟨⟨wl, sW⟩, hW, h⟩ := Option.bind_eq_some_iff.1 h
  obtain ⟨⟨dl, sD⟩, hD, h⟩ := Option.bind_eq_some_iff.1 h
  have hgl : g < w.heap.size := blk_lt hI.1
  obtain ⟨vF, aF, bF, eF, hF1, hF3⟩ := from_ok s0 s1 1 3 (by decide) (by decide) (by decide) (by decide)
  rw [eF] at hF
  simp only [Option.some.injEq, Prod.mk.injEq] at hF
  obtain ⟨rfl, rfl⟩ := hF
  simp only at hT hN hW hD h
  obtain ⟨f, rfl⟩ : ∃ f : Nat, vF = (f : Int) := ⟨vF.toNat, by omega⟩
  have hf3 : 1 ≤ f ∧ f ≤ 3 := by omega
  rw [Int.toNat_natCast] at hT
  have HFC := Aside0.mk (fun (W : World) (hI : IsS83 w0 W g s0 s1) (hB : Below w0.heap.size w0 W) => cippuskit_Urn_From.calls g s0 s1 1 3 (f : Int) aF bF w0 W hI hB eF)
  have HT := Aside0.mk hT
  have HN := Aside0.mk hN
  have HW := Aside0.mk hW
  have HD := Aside0.mk hD
  have HEND := Aside0.mk h
  have HX0 := Aside0.mk (LX.start (s := (s0, s1)) hgl hI hB)
  clear h hT hN hW hD eF hF1 hF3 hI hB
  obtain ⟨n0, hn0⟩ : ∃ n, n = w.heap.size := ⟨_, rfl⟩
  have HN0 := Aside0.mk hn0
  go_enter Try.func38, Try.ntmps38
  go_upto_region 2 with fail
  refine wp_gen (fun wx => Aside0 (LX w0 w wx g (fun k => k ≠ n0 + 1 ∧ k ≠ n0) (n0 + 1) (s0, s1) nilV nilV nilV nilV nilV nilV [] [] [] [] [] [] ∧ wx.heap[n0]? = some (.cells #[nilV, nilV, nilV, nilV, nilV] 28 (0, 0)))) ⟨by rw [hn0]; exact HX0.out, by rw [hn0]; exact blk_alloc (blk_new w _) _⟩ ?_
  rw [← hn0]
  clear hn0 HX0
  rintro w1 HX
  go_upto_block 0 with first
    | (go_at_call 18; refine (HFC.out _ HX.out.1.r.u HX.out.1.r.bw).mono ?_; rintro e w2 ⟨rfl, hu2, hb2, hk2⟩; have HX2 := Aside0.mk (show LX w0 w w2 g (fun k => k ≠ n0 + 1 ∧ k ≠ n0) (n0 + 1) (aF, bF) nilV nilV nilV nilV nilV nilV [] [] [] [] [] [] ∧ w2.heap[n0]? = some (.cells #[nilV, nilV, nilV, nilV, nilV] 28 (0, 0)) from ⟨HX.out.1.urn hu2 hb2 hk2, (hk2.2 n0 (blk_lt HX.out.2) (by rw [HN0.out]; omega) (by simp)).trans HX.out.2⟩); clear hu2 hb2 hk2)
    | fail
  have HBX := Aside0.mk (show n0 < n0 + 1 from Nat.lt_succ_self _)
  obtain ⟨bx, hbx⟩ : ∃ b, b = n0 + 1 := ⟨_, rfl⟩
  rw [← hbx] at HX2 ⊢
  have HBE := Aside0.mk hbx
  have hfz : (f : Int) ≤ 3 := by omega
  have HNE := Aside0.mk (show n0 ≠ bx by rw [hbx]; omega)
  clear hbx HX HBX w1
  go_cut [9, 10, 11] (fun _ _ _ wx => ∃ v1 v2 v3, Aside0 (LX w0 w wx g (fun k => k ≠ bx ∧ k ≠ n0) bx tgt.2.2.2 nilV v1 v2 v3 nilV nilV [] tgt.1 tgt.2.1 tgt.2.2.1 [] [] ∧ tgt.1.length = f ∧ tgt.2.1.length = f ∧ wx.heap[n0]? = some (.cells #[nilV, nilV, nilV, nilV, nilV] 28 (0, 0))))
  case first =>
    go_wp2_with fail
    go_loopg [9, 10, 11] f (fun gh s9 _ _ wr => ∃ (i : Nat) (s : St) (v1 v2 v3 : Value) (l1 l2 : List Bool) (l3 : List (List Bool)), i + gh = f ∧ s9 = .int .i64 (i : Int) ∧ Aside0 (LX w0 w wr g (fun k => k ≠ bx ∧ k ≠ n0) bx s nilV v1 v2 v3 nilV nilV [] l1 l2 l3 [] [] ∧ wr.heap[n0]? = some (.cells #[nilV, nilV, nilV, nilV, nilV] 28 (0, 0))) ∧ Aside0 (formsGo f (f - i) l1 l2 l3 s = some tgt) ∧ Aside0 (l1.length = i ∧ l2.length = i ∧ l3.length = i))
    case atStart => exact ⟨0, _, _, _, _, [], [], [], by omega, rfl, HX2, HT, ⟨rfl, rfl, rfl⟩⟩
    case round =>
      clear HX2
      obtain ⟨i, s, v1, v2, v3, l1, l2, l3, hi, rfl, HX, HG, HL⟩ := hrel
      have HIN := Aside0.mk hi
      clear hi
      by_cases hlt : i < f
      · have hiz : (i : Int) < (f : Int) := by omega
        have hid : decide (i < f) = true := decide_eq_true hlt
        have HLT := Aside0.mk hlt
        have hg := HG.out
        rw [show f - i = (f - (i + 1)) + 1 by omega, formsGo] at hg
        obtain ⟨⟨ra, sa⟩, hra, hg⟩ := Option.bind_eq_some_iff.1 hg
        obtain ⟨⟨rb, sb⟩, hrb, hg⟩ := Option.bind_eq_some_iff.1 hg
        obtain ⟨⟨rw9, sc⟩, hrc, hg⟩ := Option.bind_eq_some_iff.1 hg
        have HRA := Aside0.mk hra
        have HRB := Aside0.mk hrb
        have HRC := Aside0.mk hrc
        have HG2 := Aside0.mk hg
        clear hg hra hrb hrc HG
        have hf0 : (l1.length + 1) * 1 ≤ 140737488355328 ∧ (l2.length + 1) * 1 ≤ 140737488355328 := by have := HL.out; omega
        have HF0 := Aside0.mk hf0
        clear hf0
        go_upto_region 6 with fail
        go_cut [30] (fun _ wx => ∃ v1' v2', Aside0 (LX w0 w wx g (fun k => k ≠ bx ∧ k ≠ n0) bx sb nilV v1' v2' v3 nilV nilV [] (l1 ++ [ra]) (l2 ++ [rb]) l3 [] [] ∧ wx.heap[n0]? = some (.cells #[nilV, nilV, nilV, nilV, nilV] 28 (0, 0))))
        case first =>
          obtain ⟨x0, x1, x2, x3, x4⟩ := HX.out.1.b.cells
          have xl := blk_lt HX.out.1.b
          have HXd := Aside0.mk (HX.out.1.next ((Below.refl _ _).drew))
          have HNd := Aside0.mk (show wr.drew.heap[n0]? = _ from HX.out.2)
          go_region_law (first
            | (rw [if_pos (by rfl)]; go_simp; (fail_if_success (have h_ := HX5.out)); go_at_call 31; refine (cippuskit_Urn_Odds.calls g _ _ 2 3 ra sa.1 sa.2 w0 _ HXd.out.r.u HXd.out.r.bw HRA.out).mono ?_; rintro e w5 ⟨rfl, hu5, hb5, hk5⟩; have HX5 := Aside0.mk (HXd.out.urn (s' := sa) hu5 hb5 hk5); have HN5 := Aside0.mk ((hk5.2 n0 (blk_lt HNd.out) (by have := HXd.out.r.gn; rw [HN0.out]; omega) (by simp)).trans HNd.out); obtain ⟨y0, y1, y2, y3, y4⟩ := HX5.out.b.cells; have yl := blk_lt HX5.out.b; clear hu5 hb5 hk5)
            | (rw [if_pos (by rfl)]; go_simp; go_at_call 31; refine (cippuskit_Urn_Odds.calls g _ _ 2 3 rb sb.1 sb.2 w0 _ HX6.out.u HX6.out.bw HRB.out).mono ?_; rintro e w7 ⟨rfl, hu7, hb7, hk7⟩; have HX7 := Aside0.mk (HX6.out.step (s' := sb) hk7 hu7 hb7); have HBX7 := Aside0.mk (show LxB w7 bx nilV v1 v2 v3 nilV from (hk7.2 bx (blk_lt HBX6.out) (by have := HX.out.1.n; have := HX.out.1.r.gn; omega) (by simp)).trans HBX6.out); have HN7 := Aside0.mk ((hk7.2 n0 (blk_lt HN6.out) (by have := HXd.out.r.gn; rw [HN0.out]; omega) (by simp)).trans HN6.out); obtain ⟨q0, q1, q2, q3, q4⟩ := HBX7.out.cells; have ql := blk_lt HBX7.out; clear hu7 hb7 hk7)
            | (refine Kd.R_append_step Kd.bool (w0 := w5) w.heap.size rfl (.tmp 26) (.tmp 29) 24 4 (.bool false) 1 rfl Try.underlying24 infoL4 rfl (by decide) (by omega) v1 l1 ra [.bool ra] (fun _ => True) (fun _ => False) rfl rfl ?_ (fun _ h => h.elim) (fun _ _ => trivial) ?_ ?_ ?_ ?_ ?_
               · exact rfl
               · exact HX5.out.r.r1
               · exact Below.refl _ _
               · exact HX5.out.r.sz
               · exact HF0.out.1
               intro v6 w6 hr6 hb6 hg6 hat6
               obtain ⟨A6, n6, c6, rfl⟩ := R_sl hr6
               have HX6 := Aside0.mk (HX5.out.r.app1 hr6 hg6 hat6)
               have HBX6 := Aside0.mk (show LxB w6 bx nilV v1 v2 v3 nilV from (hg6.block bx (blk_lt HX5.out.b) (Kd.R_ne HX5.out.r.r1 HX5.out.b (by decide))).trans HX5.out.b)
               have HN6 := Aside0.mk ((hg6.block n0 (blk_lt HN5.out) (Kd.R_ne HX5.out.r.r1 HN5.out (by decide))).trans HN5.out)
               obtain ⟨z0, z1, z2, z3, z4⟩ := HBX6.out.cells
               have zl := blk_lt HBX6.out
               clear hr6 hb6 hg6 hat6)
            | (refine Kd.R_append_step Kd.bool (w0 := w7) w.heap.size rfl (.tmp 32) (.tmp 35) 24 4 (.bool false) 1 rfl Try.underlying24 infoL4 rfl (by decide) (by omega) v2 l2 rb [.bool rb] (fun _ => True) (fun _ => False) rfl rfl ?_ (fun _ h => h.elim) (fun _ _ => trivial) ?_ ?_ ?_ ?_ ?_
               · exact rfl
               · exact HX7.out.r2
               · exact Below.refl _ _
               · exact HX7.out.sz
               · exact HF0.out.2
               intro v8 w8 hr8 hb8 hg8 hat8
               obtain ⟨A8, n8, c8, rfl⟩ := R_sl hr8
               have HX8 := Aside0.mk (HX7.out.app2 hr8 hg8 hat8)
               have HBX8 := Aside0.mk (show LxB w8 bx nilV v1 v2 v3 nilV from (hg8.block bx (blk_lt HBX7.out) (Kd.R_ne HX7.out.r2 HBX7.out (by decide))).trans HBX7.out)
               have HN8 := Aside0.mk ((hg8.block n0 (blk_lt HN7.out) (Kd.R_ne HX7.out.r2 HN7.out (by decide))).trans HN7.out)
               obtain ⟨p0, p1, p2, p3, p4⟩ := HBX8.out.cells
               have pl := blk_lt HBX8.out
               have pf1 := blk_frozen HBX8.out 1
               have pf2 := blk_frozen HBX8.out 2
               clear hr8 hb8 hg8 hat8))
          all_goals
            go_wp2_with fail
            refine Met.intro ?_
            go_step
            (repeat apply Exists.intro)
            refine ⟨?_, rfl⟩
            exact ⟨_, _, ⟨⟨((HX8.out.farX HBX8.out HX.out.1.n (fun k h => h.1) 1 _).farX (HBX8.out.set1 _) HX.out.1.n (fun k h => h.1) 2 _), (HBX8.out.set1 _).set2 _, HX.out.1.n⟩, blk_far (blk_far HN8.out HNE.out _) HNE.out _⟩⟩
        case rest =>
          obtain ⟨v1', v2', HX1⟩ := hcut
          clear HX HF0
          rename World => wd
          go_upto_block 2 with fail
          go_cut [10, 11] (fun s10 _ wx => ∃ v9, s10 = v9 ∧ Aside0 (LX w0 w wx g (fun k => k ≠ bx ∧ k ≠ n0) bx sc nilV v1' v2' v3 nilV v9 [] (l1 ++ [ra]) (l2 ++ [rb]) l3 [] rw9 ∧ wx.heap[n0]? = some (.cells #[nilV, nilV, nilV, nilV, nilV] 28 (0, 0))))
          case first =>
            go_wp2_with fail
            go_loopg [10, 11] f (fun gh s10 s11 wr => ∃ (k : Nat) (s : St) (l9 : List Bool), k + gh = f ∧ s11 = .int .i64 (k : Int) ∧ Aside0 (LX w0 w wr g (fun k => k ≠ bx ∧ k ≠ n0) bx s nilV v1' v2' v3 nilV s10 [] (l1 ++ [ra]) (l2 ++ [rb]) l3 [] l9 ∧ wr.heap[n0]? = some (.cells #[nilV, nilV, nilV, nilV, nilV] 28 (0, 0))) ∧ Aside0 (rowGo (f - k) l9 s = some (rw9, sc)) ∧ Aside0 (l9.length = k))
            case atStart => exact ⟨0, sb, [], by omega, rfl, HX1, HRC, ⟨rfl⟩⟩
            case round =>
              clear HX1
              obtain ⟨k, s, l9, hk, rfl, HX, HG, HL9⟩ := hrel
              have HKN := Aside0.mk hk
              clear hk
              by_cases hkl : k < f
              · have hkz : (k : Int) < (f : Int) := by omega
                have hkd : decide (k < f) = true := decide_eq_true hkl
                have HKL := Aside0.mk hkl
                have hg := HG.out
                rw [show f - k = (f - (k + 1)) + 1 by omega, rowGo] at hg
                obtain ⟨⟨rc, sd⟩, hrc, hg⟩ := Option.bind_eq_some_iff.1 hg
                have HRD := Aside0.mk hrc
                have HG2 := Aside0.mk hg
                clear hg hrc HG
                go_wp2_with first
                  | (go_at_call 31; refine (cippuskit_Urn_Odds.calls g _ _ 1 2 rc sd.1 sd.2 w0 _ HX.out.1.r.u HX.out.1.r.bw HRD.out).mono ?_; rintro e w5 ⟨rfl, hu5, hb5, hk5⟩; have HX5 := Aside0.mk (HX.out.1.urn (s' := sd) hu5 hb5 hk5); have HN5 := Aside0.mk ((hk5.2 n0 (blk_lt HX.out.2) (by have := HX.out.1.r.gn; rw [HN0.out]; omega) (by simp)).trans HX.out.2); clear hu5 hb5 hk5)
                  | (at_builtin; refine Kd.R_append Kd.bool (w0 := w5) w.heap.size rfl (.tmp 44) (.tmp 47) 24 4 (.bool false) 1 rfl Try.underlying24 infoL4 rfl (by decide) (by omega) u10 l9 rc [.bool rc] (fun _ => True) (fun _ => False) rfl rfl ?aP (fun _ hk => hk.elim) ?aF ?aO ?aB ?aS ?aL ?_; (case aP => exact rfl); (case aF => exact (fun _ _ => trivial)); (case aO => exact HX5.out.r.r9); (case aB => exact Below.refl _ _); (case aS => exact HX5.out.r.sz); (case aL => have := HL9.out; omega); intro v6 w6 ho hb hg hat; have HX6 := Aside0.mk (show LX w0 w w6 g (fun k => k ≠ bx ∧ k ≠ n0) bx sd nilV v1' v2' v3 nilV v6 [] (l1 ++ [ra]) (l2 ++ [rb]) l3 [] (l9 ++ [rc]) from ⟨HX5.out.r.app9 ho hg hat, (hg.block bx (blk_lt HX5.out.b) (Kd.R_ne HX5.out.r.r9 HX5.out.b (by decide))).trans HX5.out.b, HX5.out.n⟩); have HN6 := Aside0.mk ((hg.block n0 (blk_lt HN5.out) (Kd.R_ne HX5.out.r.r9 HN5.out (by decide))).trans HN5.out); clear ho hb hg hat)
                  | fail
                go_roundg (gk - 1)
                case measure => have := HKN.out; have := HKL.out; omega
                case rel => exact ⟨k + 1, sd, l9 ++ [rc], by have := HKN.out; have := HKL.out; omega, by go_num, ⟨HX6.out, HN6.out⟩, HG2, ⟨by rw [List.length_append, HL9.out]; rfl⟩⟩
              · have hkz : ¬ (k : Int) < (f : Int) := by omega
                have hkd : decide (k < f) = false := decide_eq_false hkl
                have HE := Aside0.mk (show l9 = rw9 ∧ s = sc by
                  have h := HG.out
                  rw [show f - k = 0 by omega, rowGo] at h
                  simp only [Option.some.injEq, Prod.mk.injEq] at h
                  exact h)
                go_wp2_with fail
                refine Met.intro ?_
                go_step
                (repeat apply Exists.intro)
                refine ⟨?_, rfl⟩
                refine ⟨_, rfl, ⟨?_⟩⟩
                have h := HX.out
                rw [HE.out.1, HE.out.2] at h
                exact h
          case rest =>
            obtain ⟨v9, rfl, HX⟩ := hcut
            clear HX1
            obtain ⟨A9, c9, rfl, hl9, -⟩ := Kd.R_reads HX.out.1.r.r9
            have HFK := Aside0.mk (show Kd.FK (Kd.slice 4 Kd.bool) wc (fun k => some k = (Value.slice A9 rw9.length c9).ownBlock ∧ (k ≠ bx ∧ k ≠ n0)) rw9 [.slice A9 rw9.length c9] from
              Kd.FK_slice_mk hl9 (Kd.R_F (Kd.R_mono (Kd.R_tight rfl HX.out.1.r.r9) (fun k hk => ⟨hk, fun e => Kd.R_ne HX.out.1.r.r9 HX.out.1.b (by decide) (by rw [← e]; exact hk), fun e => Kd.R_ne HX.out.1.r.r9 HX.out.2 (by decide) (by rw [← e]; exact hk)⟩))))
            obtain ⟨x0, x1, x2, x3, x4⟩ := HX.out.1.b.cells
            have xl := blk_lt HX.out.1.b
            have HL3 := Aside0.mk (show (l3.length + 1) * 24 ≤ 140737488355328 by have := HL.out.2.2; omega)
            go_wp2_with first
              | (at_builtin; refine Kd.N_append (Kd.slice 4 Kd.bool) (w0 := wc) w.heap.size rfl (.tmp 50) (.tmp 52) 25 24 (.slice none 0 0) 24 rfl Try.underlying25 infoL24 rfl (by decide) (by omega) v3 l3 rw9 [.slice A9 rw9.length c9] (fun k => ((((w.heap.size ≤ k ∧ (k ≠ bx ∧ k ≠ n0)) ∧ some k ≠ nilV.ownBlock) ∧ some k ≠ nilV.ownBlock) ∧ some k ≠ v1'.ownBlock) ∧ some k ≠ v2'.ownBlock) (fun k => some k = (Value.slice A9 rw9.length c9).ownBlock ∧ (k ≠ bx ∧ k ≠ n0)) rfl rfl ?nP ?nO ?nF ?nN ?nB ?nS ?nL ?_; (case nP => exact HFK.out); (case nO => exact HX.out.1.r.rowOk); (case nF => exact HX.out.1.r.freshOk (fun k hk => ⟨by have := blk_lt HX.out.1.b; omega, by have := blk_lt HX.out.2; omega⟩)); (case nN => exact Kd.N_mono HX.out.1.r.r3 (fun k hk => hk.1)); (case nB => exact Below.refl _ _); (case nS => exact HX.out.1.r.sz); (case nL => exact HL3.out); intro v6 w6 hN hb hg hat; obtain ⟨A6, n6, c6, rfl⟩ : ∃ A n c, v6 = .slice A n c := (by obtain ⟨A, c, e⟩ := Kd.N_slice hN; exact ⟨A, _, c, e⟩); have HN6 := Aside0.mk ((hg.block n0 (blk_lt HX.out.2) (Kd.N_ne HX.out.1.r.r3 HX.out.2 (by decide))).trans HX.out.2); have HBX6 := Aside0.mk (show LxB w6 bx nilV v1' v2' v3 nilV from (hg.block bx (blk_lt HX.out.1.b) (Kd.N_ne HX.out.1.r.r3 HX.out.1.b (by decide))).trans HX.out.1.b); have HX6 := Aside0.mk (HX.out.1.r.appN hN hg); obtain ⟨y0, y1, y2, y3, y4⟩ := HBX6.out.cells; have yl := blk_lt HBX6.out; have yf := blk_frozen HBX6.out 3; clear hN hb hg hat)
              | fail
            have HX7 := Aside0.mk (show LX w0 w (w6.setCell ⟨bx, 3, none⟩ (.slice A6 n6 c6)) g (fun k => k ≠ bx ∧ k ≠ n0) bx sc nilV v1' v2' (.slice A6 n6 c6) nilV nilV [] (l1 ++ [ra]) (l2 ++ [rb]) (l3 ++ [rw9]) [] [] from ⟨HX6.out.farX HBX6.out HX.out.1.n (fun k h => h.1) 3 _, HBX6.out.set3 _, HX.out.1.n⟩)
            have HN7 := Aside0.mk (blk_far (p := ⟨bx, 3, none⟩) HN6.out HNE.out (.slice A6 n6 c6))
            go_roundg (f - (i + 1))
            case measure => have := HIN.out; have := HLT.out; omega
            case rel => exact ⟨i + 1, sc, v1', v2', .slice A6 n6 c6, l1 ++ [ra], l2 ++ [rb], l3 ++ [rw9], by have := HIN.out; have := HLT.out; omega, by go_num, ⟨HX7.out, HN7.out⟩, HG2, ⟨by rw [List.length_append, HL.out.1]; rfl, by rw [List.length_append, HL.out.2.1]; rfl, by rw [List.length_append, HL.out.2.2]; rfl⟩⟩
      · have hiz : ¬ (i : Int) < (f : Int) := by omega
        have hid : decide (i < f) = false := decide_eq_false hlt
        have HE := Aside0.mk (show tgt = (l1, l2, l3, s) by
          have h := HG.out
          rw [show f - i = 0 by omega, formsGo] at h
          simp only [Option.some.injEq] at h
          exact h.symm)
        go_wp2_with fail
        refine Met.intro ?_
        go_step
        (repeat apply Exists.intro)
        refine ⟨?_, rfl⟩
        refine ⟨v1, v2, v3, ⟨?_⟩⟩
        rw [HE.out]
        have := HIN.out
        exact ⟨HX.out.1, by rw [HL.out.1]; omega, by rw [HL.out.2.1]; omega, HX.out.2⟩
  case rest =>
    obtain ⟨v1, v2, v3, HX⟩ := hcut
    clear HX2
    obtain ⟨F1, L1, N1, sT⟩ := tgt
    have HX := Aside0.mk (show LX w0 w wc g (fun k => k ≠ bx ∧ k ≠ n0) bx sT nilV v1 v2 v3 nilV nilV [] F1 L1 N1 [] [] ∧ F1.length = f ∧ L1.length = f ∧ wc.heap[n0]? = some (.cells #[nilV, nilV, nilV, nilV, nilV] 28 (0, 0)) from HX.out)
    obtain ⟨ga, ca, rfl, -⟩ := Kd.R_form HX.out.1.r.r1 (by rw [HX.out.2.1]; omega)
    obtain ⟨gb, cb, rfl, -⟩ := Kd.R_form HX.out.1.r.r2 (by rw [HX.out.2.2.1]; omega)
    obtain ⟨k0, kf0⟩ := Kd.R_cell false HX.out.1.r.r1 0 (by decide) (by rw [HX.out.2.1]; omega)
    obtain ⟨k1, kf1⟩ := Kd.R_cell false HX.out.1.r.r2 ((f : Int) - 1) (by omega) (by rw [HX.out.2.2.1]; omega)
    rw [show ((f : Int) - 1).toNat = f - 1 by omega] at k1 kf1
    have hga : (Value.slice (some ⟨ga, 0, none⟩) F1.length ca).ownBlock = some ga := by simp [Value.ownBlock]
    have hgb : (Value.slice (some ⟨gb, 0, none⟩) L1.length cb).ownBlock = some gb := by simp [Value.ownBlock]
    have hab : ga ≠ gb := fun e => HX.out.1.r.d12 ga hga (by rw [e]; exact hgb)
    have hba : gb ≠ ga := fun e => hab e.symm
    have hxa : bx ≠ ga := fun e => Kd.R_ne HX.out.1.r.r1 HX.out.1.b (by decide) (by rw [e]; exact hga.symm)
    have hxb : bx ≠ gb := fun e => Kd.R_ne HX.out.1.r.r2 HX.out.1.b (by decide) (by rw [e]; exact hgb.symm)
    have hna : n0 ≠ ga := fun e => Kd.R_ne HX.out.1.r.r1 HX.out.2.2.2 (by decide) (by rw [e]; exact hga.symm)
    have hnb : n0 ≠ gb := fun e => Kd.R_ne HX.out.1.r.r2 HX.out.2.2.2 (by decide) (by rw [e]; exact hgb.symm)
    have gal := Kd.R_lt HX.out.1.r.r1 ga hga
    have gbl := Kd.R_lt HX.out.1.r.r2 gb hgb
    have hlF : F1.length = f := HX.out.2.1
    have hlL : L1.length = f := HX.out.2.2.1
    obtain ⟨fl, hfl⟩ : ∃ n, n = F1.length := ⟨_, rfl⟩
    obtain ⟨ll, hll⟩ : ∃ n, n = L1.length := ⟨_, rfl⟩
    have HXa := Aside0.mk (show LX w0 w wc g (fun k => k ≠ bx ∧ k ≠ n0) bx sT nilV (.slice (some ⟨ga, 0, none⟩) fl ca) (.slice (some ⟨gb, 0, none⟩) ll cb) v3 nilV nilV [] F1 L1 N1 [] [] by rw [hfl, hll]; exact HX.out.1)
    have HNa := Aside0.mk HX.out.2.2.2
    rw [← hfl] at hlF
    rw [← hll] at hlL
    have HLF := Aside0.mk hlF
    have HLL := Aside0.mk hlL
    have HFLE := Aside0.mk hfl
    have HLLE := Aside0.mk hll
    obtain ⟨x0, x1, x2, x3, x4⟩ := HXa.out.b.cells
    have xl := blk_lt HXa.out.b
    have hf0z : (0 : Int) < (fl : Int) := by omega
    have hf0d : decide (0 < fl) = true := decide_eq_true (by omega)
    have hl0z : (f : Int) - 1 < (ll : Int) := by omega
    have hl0y : (0 : Int) ≤ (f : Int) - 1 := by omega
    have hl0x : (1 : Int) ≤ (f : Int) := by omega
    have hf1 : 1 ≤ f := by omega
    have hl0d : decide (f - 1 < ll) = true := decide_eq_true (by omega)
    have k0' : wc.cell? ⟨ga, 0, none⟩ = some (.bool (rdOf false F1 0)) := k0
    have kf0' : wc.frozen? ⟨ga, 0, none⟩ = false := kf0
    clear k0 kf0 hga hgb hfl hll hlF hlL HX
    go_upto_region 13 with fail
    go_region
    refine wp_gen' (fun wx => Aside0 (LX w0 w wx g (fun k => k ≠ bx ∧ k ≠ n0) bx sT nilV (.slice (some ⟨ga, 0, none⟩) fl ca) (.slice (some ⟨gb, 0, none⟩) ll cb) v3 nilV nilV [] (F1.set 0 true) (L1.set (f - 1) true) N1 [] [] ∧ wx.heap[n0]? = some (.cells #[nilV, nilV, nilV, nilV, nilV] 28 (0, 0)))) ⟨?_⟩ ?_
    · refine ⟨LX.next ⟨(HXa.out.r.put1 0 true).put2 (f - 1) true, blk_far (blk_far HXa.out.b hxa _) hxb _, HXa.out.n⟩ ((Below.refl _ _).drew), blk_far (blk_far HNa.out hna _) hnb _⟩
    clear k1 kf1 k0' kf0' hab hba hxa hxb hna hnb gal gbl x0 x1 x2 x3 x4 xl hf0z hf0d hl0z hl0y hl0x hf1 hl0d HXa HNa
    rintro wd HX
    obtain ⟨n, s14a, s14b, e14, hn1, hn2⟩ := from_ok sT.1 sT.2 1 a1 (by decide) (by decide) (by omega) (by omega)
    have hN2 : cippuskit_Urn_From.f sT.1 sT.2 1 a1 = some (N, sN) := HN.out
    rw [e14] at hN2
    simp only [Option.some.injEq, Prod.mk.injEq] at hN2
    obtain ⟨rfl, rfl⟩ := hN2
    obtain ⟨nn, rfl⟩ : ∃ k : Nat, n = (k : Int) := ⟨n.toNat, by omega⟩
    have hnn : nn ≤ 800 := by omega
    have HW2 := Aside0.mk (show wordsGo (f : Int) a2 nn [] (s14a, s14b) = some (wl, sW) by have h := HW.out; simp only [Int.toNat_natCast] at h; exact h)
    have HE14 := Aside0.mk e14
    obtain ⟨V1, hV1⟩ : ∃ v, v = Value.slice (some ⟨ga, 0, none⟩) fl ca := ⟨_, rfl⟩
    obtain ⟨V2, hV2⟩ : ∃ v, v = Value.slice (some ⟨gb, 0, none⟩) ll cb := ⟨_, rfl⟩
    rw [← hV1, ← hV2] at HX
    clear e14 hn1 hn2 hV1 hV2
    go_upto_block 4 with first
      | (go_at_call 18; refine (cippuskit_Urn_From.calls g _ _ 1 a1 (nn : Int) s14a s14b w0 _ HX.out.1.r.u HX.out.1.r.bw HE14.out).mono ?_; rintro e w5 ⟨rfl, hu5, hb5, hk5⟩; have HX5 := Aside0.mk (HX.out.1.urn (s' := (s14a, s14b)) hu5 hb5 hk5); have HN5 := Aside0.mk ((hk5.2 n0 (blk_lt HX.out.2) (by have := HX.out.1.r.gn; rw [HN0.out]; omega) (by simp)).trans HX.out.2); clear hu5 hb5 hk5)
      | fail
    obtain ⟨m, hm⟩ : ∃ m, m = w5.heap.size := ⟨_, rfl⟩
    have HXm := Aside0.mk (show LX w0 w w5 g (fun k => k ≠ bx ∧ k < m ∧ k ≠ n0) bx (s14a, s14b) nilV V1 V2 v3 nilV nilV [] (F1.set 0 true) (L1.set (f - 1) true) N1 [] [] ∧ w5.heap[n0]? = some (.cells #[nilV, nilV, nilV, nilV, nilV] 28 (0, 0)) ∧ m ≤ w5.heap.size from ⟨⟨HX5.out.r.sub (fun k h1 h2 => ⟨h2.1, by rw [hm]; exact h1, h2.2⟩), HX5.out.b, HX5.out.n⟩, HN5.out, by rw [hm]; exact Nat.le_refl _⟩)
    have HMX := Aside0.mk (show bx < m by rw [hm]; exact blk_lt HX5.out.b)
    obtain ⟨Fs, hFs⟩ : ∃ l, l = F1.set 0 true := ⟨_, rfl⟩
    obtain ⟨Ls, hLs⟩ : ∃ l, l = L1.set (f - 1) true := ⟨_, rfl⟩
    rw [← hFs, ← hLs] at HXm
    have HFS := Aside0.mk hFs
    have HLS := Aside0.mk hLs
    clear hm hFs hLs HX HX5 HN5
    go_cut [12, 13, 14, 15, 16] (fun _ _ _ _ _ wx => ∃ v0, Aside0 (LX w0 w wx g (fun k => k ≠ bx ∧ k < m ∧ k ≠ n0) bx sW v0 V1 V2 v3 nilV nilV wl Fs Ls N1 [] [] ∧ wx.heap[n0]? = some (.cells #[nilV, nilV, nilV, nilV, nilV] 28 (0, 0))))
    case first =>
      go_wp2_with fail
      go_loopg [12, 13, 14, 15, 16] nn (fun gh s12 _ _ _ _ wr => ∃ (s : St) (v0 : Value) (l0 : List S53), s12 = .int .i64 (gh : Int) ∧ gh ≤ 800 ∧ Aside0 (LX w0 w wr g (fun k => k ≠ bx ∧ k < m ∧ k ≠ n0) bx s v0 V1 V2 v3 nilV nilV l0 Fs Ls N1 [] [] ∧ wr.heap[n0]? = some (.cells #[nilV, nilV, nilV, nilV, nilV] 28 (0, 0)) ∧ m ≤ wr.heap.size) ∧ Aside0 (wordsGo (f : Int) a2 gh l0 s = some (wl, sW)) ∧ Aside0 (l0.length + gh ≤ 800))
      case atStart => exact ⟨_, _, [], rfl, hnn, HXm, HW2, ⟨by simpa using hnn⟩⟩
      case round =>
        clear HXm
        obtain ⟨s, v0, l0, rfl, hgk, HX, HG, HL0⟩ := hrel
        by_cases hlt : 0 < gk
        · have hiz : (0 : Int) < (gk : Int) := by omega
          have hid : decide ((0 : Int) < (gk : Int)) = true := decide_eq_true hiz
          have hid2 : decide (0 < gk) = true := decide_eq_true hlt
          have HLT := Aside0.mk hlt
          obtain ⟨ngk, hng⟩ : ∃ k, gk = k + 1 := ⟨gk - 1, by omega⟩
          have hg := HG.out
          rw [hng, wordsGo] at hg
          obtain ⟨⟨φ, sa⟩, hra, hg1⟩ := Option.bind_eq_some_iff.1 hg
          obtain ⟨⟨K, sb⟩, hrb, hg2⟩ := Option.bind_eq_some_iff.1 hg1
          obtain ⟨⟨tT, sc⟩, hrc, hg3⟩ := Option.bind_eq_some_iff.1 hg2
          obtain ⟨K', k1, k2, ek, hk1, hk2⟩ := from_ok sa.1 sa.2 1 a2 (by decide) (by decide) (by omega) (by omega)
          have hrb2 : cippuskit_Urn_From.f sa.1 sa.2 1 a2 = some (K, sb) := hrb
          rw [ek] at hrb2
          simp only [Option.some.injEq, Prod.mk.injEq] at hrb2
          obtain ⟨rfl, rfl⟩ := hrb2
          obtain ⟨kk, rfl⟩ : ∃ k : Nat, K' = (k : Int) := ⟨K'.toNat, by omega⟩
          have hkk : kk ≤ 800 := by omega
          have HUP := Aside0.mk (show cippuskit_Urn_Up.f s.1 s.2 (f : Int) = some (φ, sa.1, sa.2) from hra)
          have HFK := Aside0.mk ek
          have HTX := Aside0.mk (show textGo kk ⟨#[]⟩ (k1, k2) = some (tT, sc) by simpa using hrc)
          have HG2 := Aside0.mk hg3
          have HNG := Aside0.mk hng
          clear hg hg1 hg2 hg3 hra hrb hrc ek hk1 hk2 hng HG
          go_upto_region 18 with first
            | (go_at_call 30; refine (cippuskit_Urn_Up.calls g _ _ (f : Int) φ sa.1 sa.2 w0 _ HX.out.1.r.u HX.out.1.r.bw HUP.out).mono ?_; rintro e w5 ⟨rfl, hu5, hb5, hk5⟩; have HX5 := Aside0.mk (HX.out.1.urn (s' := sa) hu5 hb5 hk5); have HN5 := Aside0.mk ((hk5.2 n0 (blk_lt HX.out.2.1) (by have := HX.out.1.r.gn; rw [HN0.out]; omega) (by simp)).trans HX.out.2.1); have HM5 := Aside0.mk (Nat.le_trans HX.out.2.2 hk5.1); clear hu5 hb5 hk5)
            | fail
          obtain ⟨b13, hb13⟩ : ∃ b, b = w5.heap.size := ⟨_, rfl⟩
          have HB13 := Aside0.mk (show m ≤ b13 by rw [hb13]; exact HM5.out)
          refine wp_gen (fun wx => Aside0 (LX w0 w wx g (fun k => k ≠ bx ∧ k < m ∧ k ≠ n0) bx sa v0 V1 V2 v3 nilV nilV l0 Fs Ls N1 [] [] ∧ wx.heap[n0]? = some (.cells #[nilV, nilV, nilV, nilV, nilV] 28 (0, 0))) ∧ Aside0 (wx.heap[b13]? = some (.cells #[.string ⟨#[]⟩, .int .i64 φ] 53 (0, 0))) ∧ Aside0 (v0.ownBlock ≠ some b13 ∧ V1.ownBlock ≠ some b13 ∧ V2.ownBlock ≠ some b13)) ⟨⟨HX5.out.next ((Below.refl _ _).alloc (Nat.le_refl _) _), blk_alloc HN5.out _⟩, ⟨by rw [hb13]; exact blk_new w5 _⟩, ⟨fun e => by have := Kd.R_lt HX5.out.r.r0 _ e; omega, fun e => by have := Kd.R_lt HX5.out.r.r1 _ e; omega, fun e => by have := Kd.R_lt HX5.out.r.r2 _ e; omega⟩⟩ ?_
          rw [← hb13]
          clear hb13 HX HX5 HN5 HM5
          rintro wx ⟨HX, H13, HNB⟩
          go_upto_block 6 with first
            | (go_at_call 18; refine (cippuskit_Urn_From.calls g _ _ 1 a2 (kk : Int) k1 k2 w0 _ HX.out.1.r.u HX.out.1.r.bw HFK.out).mono ?_; rintro e w5 ⟨rfl, hu5, hb5, hk5⟩; have HX5 := Aside0.mk (HX.out.1.urn (s' := (k1, k2)) hu5 hb5 hk5); have HN5 := Aside0.mk ((hk5.2 n0 (blk_lt HX.out.2) (by have := HX.out.1.r.gn; rw [HN0.out]; omega) (by simp)).trans HX.out.2); have H135 := Aside0.mk ((hk5.2 b13 (blk_lt H13.out) (by have := HX.out.1.r.gn; have := HX.out.1.n; have := HMX.out; have := HB13.out; omega) (by simp)).trans H13.out); clear hu5 hb5 hk5)
            | fail
          clear HX H13 HFK HUP
          go_cut [14] (fun _ wx => Aside0 (LX w0 w wx g (fun k => k ≠ bx ∧ k < m ∧ k ≠ n0) bx sc v0 V1 V2 v3 nilV nilV l0 Fs Ls N1 [] [] ∧ wx.heap[n0]? = some (.cells #[nilV, nilV, nilV, nilV, nilV] 28 (0, 0))) ∧ Aside0 (wx.heap[b13]? = some (.cells #[.string tT, .int .i64 φ] 53 (0, 0))))
          case first =>
            go_wp2_with fail
            go_loopg [14] kk (fun gh s14 wr => ∃ (s : St) (T : ByteArray), s14 = .int .i64 (gh : Int) ∧ gh ≤ 800 ∧ T.size + gh ≤ 800 ∧ Aside0 (LX w0 w wr g (fun k => k ≠ bx ∧ k < m ∧ k ≠ n0) bx s v0 V1 V2 v3 nilV nilV l0 Fs Ls N1 [] [] ∧ wr.heap[n0]? = some (.cells #[nilV, nilV, nilV, nilV, nilV] 28 (0, 0))) ∧ Aside0 (wr.heap[b13]? = some (.cells #[.string T, .int .i64 φ] 53 (0, 0))) ∧ Aside0 (textGo gh T s = some (tT, sc)))
            case atStart => exact ⟨_, ⟨#[]⟩, rfl, hkk, by have h0 : (⟨#[]⟩ : ByteArray).size = 0 := rfl; omega, ⟨HX5.out, HN5.out⟩, H135, HTX⟩
            case round =>
              clear HX5 HN5 H135 HTX
              obtain ⟨s, T, rfl, hgk2, hTz, HX, H13, HG⟩ := hrel
              by_cases hl2 : 0 < gk
              · have hiz : (0 : Int) < (gk : Int) := by omega
                have hid : decide ((0 : Int) < (gk : Int)) = true := decide_eq_true hiz
                have hid2 : decide (0 < gk) = true := decide_eq_true hl2
                have HL2 := Aside0.mk hl2
                obtain ⟨ng2, hng2⟩ : ∃ k, gk = k + 1 := ⟨gk - 1, by omega⟩
                have hg := HG.out
                rw [hng2, textGo] at hg
                obtain ⟨⟨ch, sd⟩, hrc, hg⟩ := Option.bind_eq_some_iff.1 hg
                have HAN := Aside0.mk (show cippuskit_Urn_Any.f s.1 s.2 [65, 66, 66, 73] = some (ch, sd.1, sd.2) from hrc)
                have HG2b := Aside0.mk hg
                have HNG2 := Aside0.mk hng2
                have hst : (strOfNums [IntKind.u8.wrap ch]).size = 1 := by simp [strOfNums, ByteArray.size]
                have hsz2 : (9223372036854775807 < T.size + 1) = False := eq_false (by omega)
                have hsz : (9223372036854775807 < T.size + (strOfNums [IntKind.u8.wrap ch]).size) = False := eq_false (by rw [hst]; omega)
                clear hg hrc hng2 HG
                go_upto_block 7 with fail
                go_cut [89] (fun _ wx => Aside0 (LX w0 w wx g (fun k => k ≠ bx ∧ k < m ∧ k ≠ n0) bx sd v0 V1 V2 v3 nilV nilV l0 Fs Ls N1 [] [] ∧ wx.heap[n0]? = some (.cells #[nilV, nilV, nilV, nilV, nilV] 28 (0, 0))) ∧ Aside0 (wx.heap[b13]? = some (.cells #[.string (T ++ strOfNums [IntKind.u8.wrap ch]), .int .i64 φ] 53 (0, 0))))
                case first =>
                  obtain ⟨y0, y1⟩ : wr.cell? ⟨b13, 0, none⟩ = some (.string T) ∧ wr.cell? ⟨b13, 1, none⟩ = some (.int .i64 φ) := ⟨(blk_cell H13.out 0).trans rfl, (blk_cell H13.out 1).trans rfl⟩
                  have yl := blk_lt H13.out
                  have HXd := Aside0.mk (HX.out.1.next ((Below.refl _ _).drew))
                  have HXe := Aside0.mk (HXd.out.next ((Below.refl _ _).alloc (Nat.le_refl _) (.cells #[.int .i64 65, .int .i64 66, .int .i64 66, .int .i64 73] 3)))
                  have HLT := Aside0.mk (show Kd.C (Kd.int .i64) (wr.drew.alloc (.cells #[.int .i64 65, .int .i64 66, .int .i64 66, .int .i64 73] 3)) (some ⟨wr.drew.heap.size, 0, none⟩) 4 [65, 66, 66, 73] from C_lit wr.drew [65, 66, 66, 73] 3 (by decide))
                  have HGN := Aside0.mk (show wr.drew.heap.size ≠ g by have := blk_lt HXd.out.r.u.1; omega)
                  go_upto_region 21 with fail
                  go_region_law (first
                    | (rw [if_pos (by rfl)]; go_simp; go_at_call 32; refine (cippuskit_Urn_Any.calls g _ _ (some ⟨wr.drew.heap.size, 0, none⟩) 4 [65, 66, 66, 73] ch sd.1 sd.2 w0 _ HXe.out.r.u HXe.out.r.bw HLT.out (by decide) (fun ad e _ => by injection e with e; subst e; exact HGN.out) HAN.out).mono ?_; rintro e w5 ⟨rfl, hu5, hb5, hk5⟩; have HX5 := Aside0.mk (HXe.out.urn (s' := sd) hu5 hb5 hk5); have HN5 := Aside0.mk ((hk5.2 n0 (Nat.lt_of_lt_of_le (blk_lt HX.out.2) (by simp)) (by have := HX.out.1.r.gn; rw [HN0.out]; omega) (by simp)).trans (blk_alloc (show wr.drew.heap[n0]? = _ from HX.out.2) (.cells #[.int .i64 65, .int .i64 66, .int .i64 66, .int .i64 73] 3))); have H135 := Aside0.mk ((hk5.2 b13 (Nat.lt_of_lt_of_le (blk_lt H13.out) (by simp)) (by have := HX.out.1.r.gn; have := HX.out.1.n; have := HMX.out; have := HB13.out; omega) (by simp)).trans (blk_alloc (show wr.drew.heap[b13]? = _ from H13.out) (.cells #[.int .i64 65, .int .i64 66, .int .i64 66, .int .i64 73] 3))); have z0 := (blk_cell H135.out 0).trans (show (#[Value.string T, .int .i64 φ] : Array Value)[0]? = some (.string T) from rfl); have zl := blk_lt H135.out; have zf := blk_frozen H135.out 0; have hcv := conv_byte w5 (IntKind.u8.wrap ch); clear hu5 hb5 hk5))
                  all_goals
                    go_wp2_with fail
                    refine Met.intro ?_
                    go_step
                    (repeat apply Exists.intro)
                    refine ⟨?_, rfl⟩
                    refine ⟨⟨(LX.next (W := w5.setCell ⟨b13, 0, none⟩ _) ⟨HX5.out.r.far (o := 0) (by have := HX5.out.n; have := HMX.out; have := HB13.out; omega) (fun k hk => by have := hk.2.1; have := HB13.out; omega) HNB.out.1 HNB.out.2.1 HNB.out.2.2 (by simp [Value.ownBlock]) (by simp [Value.ownBlock]) _, blk_far HX5.out.b (show bx ≠ b13 by have := HMX.out; have := HB13.out; omega) _, HX5.out.n⟩ ((Below.refl _ _).alloc (Nat.le_refl _) _)), blk_alloc (blk_far HN5.out (show n0 ≠ b13 by have := HMX.out; have := HB13.out; have := HX5.out.n; rw [HN0.out]; omega) _) _⟩, ⟨blk_alloc ((blk_set H135.out 0 _).trans (by simp)) _⟩⟩
                case rest =>
                  obtain ⟨HX1, H131⟩ := hcut
                  go_wp2_with fail
                  go_roundg (gk - 1)
                  case measure => have := HL2.out; omega
                  case rel => exact ⟨sd, T ++ strOfNums [IntKind.u8.wrap ch], by have := HNG2.out; congr 1; omega, by omega, by rw [ByteArray.size_append, hst]; have := HL2.out; omega, HX1, H131, ⟨by have h := HG2b.out; rw [show gk - 1 = ng2 by have := HNG2.out; omega]; exact h⟩⟩
              · have hiz : ¬ (0 : Int) < (gk : Int) := by omega
                have hid : decide ((0 : Int) < (gk : Int)) = false := decide_eq_false hiz
                have hid2 : decide (0 < gk) = false := decide_eq_false hl2
                have HE := Aside0.mk (show T = tT ∧ s = sc by
                  have h := HG.out
                  rw [show gk = 0 by omega, textGo] at h
                  simp only [Option.some.injEq, Prod.mk.injEq] at h
                  exact h)
                go_wp2_with fail
                refine Met.intro ?_
                go_step
                (repeat apply Exists.intro)
                refine ⟨?_, rfl⟩
                have h1 := HX.out
                have h2 := H13.out
                rw [HE.out.2] at h1
                rw [HE.out.1] at h2
                exact ⟨⟨h1⟩, ⟨h2⟩⟩
          case rest =>
            obtain ⟨HX, H13⟩ := hcut
            clear HX5 HN5 H135 HTX
            obtain ⟨A0, c0, rfl, hc0, -⟩ := Kd.R_reads HX.out.1.r.r0
            go_upto_block 8 with fail
            go_cut [15, 16] (fun s15 _ wx => s15 = .bool (l0.any (fun x => sameW x ⟨tT, φ⟩)) ∧ Aside0 (LX w0 w wx g (fun k => k ≠ bx ∧ k < m ∧ k ≠ n0) bx sc (.slice A0 l0.length c0) V1 V2 v3 nilV nilV l0 Fs Ls N1 [] [] ∧ wx.heap[n0]? = some (.cells #[nilV, nilV, nilV, nilV, nilV] 28 (0, 0))) ∧ Aside0 (wx.heap[b13]? = some (.cells #[.string tT, .int .i64 φ] 53 (0, 0))))
            case first =>
              go_wp2_with fail
              go_loopg [15, 16] l0.length (fun gh s15 s16 wr => ∃ k : Nat, k + gh = l0.length ∧ s15 = .bool ((l0.take k).any (fun x => sameW x ⟨tT, φ⟩)) ∧ s16 = .int .i64 (k : Int) ∧ Aside0 (LX w0 w wr g (fun k => k ≠ bx ∧ k < m ∧ k ≠ n0) bx sc (.slice A0 l0.length c0) V1 V2 v3 nilV nilV l0 Fs Ls N1 [] [] ∧ wr.heap[n0]? = some (.cells #[nilV, nilV, nilV, nilV, nilV] 28 (0, 0))) ∧ Aside0 (wr.heap[b13]? = some (.cells #[.string tT, .int .i64 φ] 53 (0, 0))))
              case atStart => exact ⟨0, by omega, rfl, rfl, HX, H13⟩
              case round =>
                clear HX H13
                obtain ⟨k, hk, rfl, rfl, HX, H13⟩ := hrel
                have HKN := Aside0.mk hk
                clear hk
                obtain ⟨x0, -⟩ := HX.out.1.b.cells
                have xl := blk_lt HX.out.1.b
                by_cases hkl : k < l0.length
                · have hkz : (k : Int) < (l0.length : Int) := by omega
                  have hkd : decide (k < l0.length) = true := decide_eq_true hkl
                  have hkq : k ≤ 800 := by have := HL0.out; omega
                  have HKL := Aside0.mk hkl
                  obtain ⟨ad, eA, z0, z1⟩ := at_T53 (Kd.R_reads' HX.out.1.r.r0).2.2 (k : Int) (by omega) hkz
                  subst eA
                  simp only [Int.toNat_natCast] at z0 z1
                  have zl := World.block_lt_of_cell? wr _ z0
                  obtain ⟨y0, y1⟩ : wr.cell? ⟨b13, 0, none⟩ = some (.string tT) ∧ wr.cell? ⟨b13, 1, none⟩ = some (.int .i64 φ) := ⟨(blk_cell H13.out 0).trans rfl, (blk_cell H13.out 1).trans rfl⟩
                  have yl := blk_lt H13.out
                  have HST := Aside0.mk (show (l0.take (k + 1)).any (fun x => sameW x ⟨tT, φ⟩) = ((l0.take k).any (fun x => sameW x ⟨tT, φ⟩) || sameW (rd_T53 l0 (k : Int)) ⟨tT, φ⟩) by
                    have e : rd_T53 l0 (k : Int) = l0[k] := by simp [rd_T53, List.getD_eq_getElem?_getD, hkl]
                    rw [List.take_add_one, List.any_append, List.getElem?_eq_getElem hkl, e]
                    simp)
                  obtain ⟨b, hb⟩ : ∃ b, b = (l0.take k).any (fun x => sameW x ⟨tT, φ⟩) := ⟨_, rfl⟩
                  obtain ⟨wd, hwd⟩ : ∃ wd, wd = rd_T53 l0 (k : Int) := ⟨_, rfl⟩
                  rw [← hwd] at z0 z1 HST
                  obtain ⟨q, hq⟩ : ∃ q, q = sameW wd ⟨tT, φ⟩ := ⟨_, rfl⟩
                  have c7b0 : (wd.f0.toList == tT.toList && (wd.f1 == φ)) = q := hq.symm
                  rw [← hb, ← hq] at HST
                  rw [← hb]
                  clear hb hwd hq
                  go_upto_region 26 with fail
                  cases b with
                  | true =>
                    go_upto_region 25 with first
                      | go_quiet (fail)
                      | fail
                    go_wp2_with fail
                    go_roundg (gk - 1)
                    case measure => have := HKN.out; have := HKL.out; omega
                    case rel => exact ⟨k + 1, by have := HKN.out; have := HKL.out; omega, by rw [HST.out]; rfl, by go_num, ⟨HX.out.1.next (by repeat (first | exact Below.refl _ _ | apply pw_below_drewN | apply below_drew1)), HX.out.2⟩, H13⟩
                  | false =>
                    go_upto_region 25 with first
                      | go_quiet (fail)
                      | fail
                    go_wp2_with fail
                    go_roundg (gk - 1)
                    case measure => have := HKN.out; have := HKL.out; omega
                    case rel => exact ⟨k + 1, by have := HKN.out; have := HKL.out; omega, by rw [HST.out]; rfl, by go_num, ⟨HX.out.1.next (by repeat (first | exact Below.refl _ _ | apply pw_below_drewN | apply below_drew1)), HX.out.2⟩, H13⟩
                · have hkz : ¬ (k : Int) < (l0.length : Int) := by omega
                  have hkd : decide (k < l0.length) = false := decide_eq_false hkl
                  have HE := Aside0.mk (show l0.take k = l0 from List.take_of_length_le (by omega))
                  rw [HE.out]
                  go_wp2_with fail
                  refine Met.intro ?_
                  go_step
                  (repeat apply Exists.intro)
                  refine ⟨?_, rfl⟩
                  exact ⟨rfl, HX, H13⟩
            case rest =>
              obtain ⟨rfl, HX1, H131⟩ := hcut
              clear HX H13
              obtain ⟨b, hb⟩ : ∃ b, b = l0.any (fun x => sameW x ⟨tT, φ⟩) := ⟨_, rfl⟩
              rw [← hb]
              have HG3 := Aside0.mk (show wordsGo (f : Int) a2 ngk (if b = true then l0 else l0 ++ [⟨tT, φ⟩]) sc = some (wl, sW) from by rw [hb]; exact HG2.out)
              clear hb HG2
              have HMW := Aside0.mk (show m ≤ wc.heap.size from Nat.le_trans HB13.out (Nat.le_of_lt (blk_lt H131.out)))
              cases b with
              | true =>
                go_wp2_with fail
                go_roundg (gk - 1)
                case measure => have := HLT.out; omega
                case rel => exact ⟨sc, _, l0, by have := HNG.out; congr 1; omega, by omega, ⟨HX1.out.1, HX1.out.2, HMW.out⟩, ⟨by have h := HG3.out; rw [show gk - 1 = ngk by have := HNG.out; omega]; exact h⟩, ⟨by have := HL0.out; omega⟩⟩
              | false =>
                obtain ⟨x0, -⟩ := HX1.out.1.b.cells
                have xl := blk_lt HX1.out.1.b
                obtain ⟨y0, y1⟩ : wc.cell? ⟨b13, 0, none⟩ = some (.string tT) ∧ wc.cell? ⟨b13, 1, none⟩ = some (.int .i64 φ) := ⟨(blk_cell H131.out 0).trans rfl, (blk_cell H131.out 1).trans rfl⟩
                have yl := blk_lt H131.out
                have HL3 := Aside0.mk (show (l0.length + 1) * 24 ≤ 140737488355328 by have := HL0.out; omega)
                go_wp2_with first
                  | (at_builtin; refine Kd.R_append k53 (w0 := wc) w.heap.size rfl (.tmp 111) (.tmp 113) 23 53 (.agg #[.string ⟨#[]⟩, .int .i64 0]) 24 rfl Try.underlying23 infoL53 rfl (by decide) (by omega) (.slice A0 l0.length c0) l0 ⟨tT, φ⟩ [.string tT, .int .i64 φ] (fun _ => True) (fun _ => False) rfl rfl ?aP (fun _ hk => hk.elim) ?aF ?aO ?aB ?aS ?aL ?_; (case aP => exact k53_mkM _ _ _ _); (case aF => exact (fun _ _ => trivial)); (case aO => exact HX1.out.1.r.r0); (case aB => exact Below.refl _ _); (case aS => exact HX1.out.1.r.sz); (case aL => exact HL3.out); intro v6 w6 ho hb hg hat; obtain ⟨A6, n6, c6, rfl⟩ := R_sl ho; have HX6 := Aside0.mk (HX1.out.1.r.app0 ho hg hat); have HBX6 := Aside0.mk (show LxB w6 bx (.slice A0 l0.length c0) V1 V2 v3 nilV from (hg.block bx (blk_lt HX1.out.1.b) (Kd.R_ne HX1.out.1.r.r0 HX1.out.1.b (by decide))).trans HX1.out.1.b); have HN6 := Aside0.mk ((hg.block n0 (blk_lt HX1.out.2) (Kd.R_ne HX1.out.1.r.r0 HX1.out.2 (by decide))).trans HX1.out.2); have HM6 := Aside0.mk (show m ≤ w6.heap.size from Nat.le_trans HMW.out hg.size); obtain ⟨q0, -⟩ := HBX6.out.cells; have ql := blk_lt HBX6.out; have qf := blk_frozen HBX6.out 0; clear ho hb hg hat)
                  | fail
                have HX7 := Aside0.mk (show LX w0 w (w6.setCell ⟨bx, 0, none⟩ (.slice A6 n6 c6)) g (fun k => k ≠ bx ∧ k < m ∧ k ≠ n0) bx sc (.slice A6 n6 c6) V1 V2 v3 nilV nilV (l0 ++ [⟨tT, φ⟩]) Fs Ls N1 [] [] from ⟨HX6.out.farX HBX6.out HX1.out.1.n (fun k h => h.1) 0 _, HBX6.out.set0 _, HX1.out.1.n⟩)
                have HN7 := Aside0.mk (blk_far (p := ⟨bx, 0, none⟩) HN6.out HNE.out (.slice A6 n6 c6))
                go_roundg (gk - 1)
                case measure => have := HLT.out; omega
                case rel => exact ⟨sc, _, l0 ++ [⟨tT, φ⟩], by have := HNG.out; congr 1; omega, by omega, ⟨HX7.out, HN7.out, by show _ ≤ (w6.heap.modify _ _).size; rw [Array.size_modify]; exact HM6.out⟩, ⟨by have h := HG3.out; rw [show gk - 1 = ngk by have := HNG.out; omega]; exact h⟩, ⟨by have := HL0.out; have := HLT.out; rw [List.length_append, List.length_singleton]; omega⟩⟩
        · --
          have hiz : ¬ (0 : Int) < (gk : Int) := by omega
          have hid : decide ((0 : Int) < (gk : Int)) = false := decide_eq_false hiz
          have hid2 : decide (0 < gk) = false := decide_eq_false hlt
          have HE := Aside0.mk (show l0 = wl ∧ s = sW by
            have h := HG.out
            rw [show gk = 0 by omega, wordsGo] at h
            simp only [Option.some.injEq, Prod.mk.injEq] at h
            exact h)
          go_wp2_with fail
          refine Met.intro ?_
          go_step
          (repeat apply Exists.intro)
          refine ⟨?_, rfl⟩
          refine ⟨v0, ⟨?_⟩⟩
          have h1 := HX.out
          rw [HE.out.1, HE.out.2] at h1
          exact ⟨h1.1, h1.2.1⟩
    case rest =>
      obtain ⟨v0, HX⟩ := hcut
      go_upto_block 10 with fail
      go_cut [17] (fun _ wx => ∃ v4, Aside0 (LX w0 w wx g (fun k => k ≠ bx ∧ k < m ∧ k ≠ n0) bx sD v0 V1 V2 v3 v4 nilV wl Fs Ls N1 dl [] ∧ wx.heap[n0]? = some (.cells #[nilV, nilV, nilV, nilV, nilV] 28 (0, 0))))
      case first =>
        go_wp2_with fail
        go_loopg [17] 26 (fun gh s17 wr => ∃ (i : Nat) (s : St) (v4 : Value) (l4 : List S47), i + gh = 26 ∧ s17 = .int .i64 (i : Int) ∧ Aside0 (LX w0 w wr g (fun k => k ≠ bx ∧ k < m ∧ k ≠ n0) bx s v0 V1 V2 v3 v4 nilV wl Fs Ls N1 l4 [] ∧ wr.heap[n0]? = some (.cells #[nilV, nilV, nilV, nilV, nilV] 28 (0, 0))) ∧ Aside0 (widGo gh l4 s = some (dl, sD)) ∧ Aside0 (l4.length = i))
        case atStart => exact ⟨0, sW, nilV, [], by omega, rfl, HX, HD, ⟨rfl⟩⟩
        case round =>
          clear HX
          obtain ⟨i, s, v4, l4, hi, rfl, HX, HG, HL4⟩ := hrel
          have HIN := Aside0.mk hi
          by_cases hlt : i < 26
          · have hiz : (i : Int) < 26 := by omega
            have hid : decide ((i : Int) < 26) = true := decide_eq_true hiz
            have hid2 : decide (i < 26) = true := decide_eq_true hlt
            have HLT := Aside0.mk hlt
            obtain ⟨ng, hng⟩ : ∃ k, gk = k + 1 := ⟨gk - 1, by omega⟩
            have hg := HG.out
            rw [hng, widGo] at hg
            obtain ⟨⟨ch, sd⟩, hra, hg1⟩ := Option.bind_eq_some_iff.1 hg
            obtain ⟨⟨q1, q2, se⟩, hrb, hg2⟩ := Option.bind_eq_some_iff.1 hg1
            have HAN := Aside0.mk (show cippuskit_Urn_Any.f s.1 s.2 [2, 6] = some (ch, sd.1, sd.2) from hra)
            have HSP := Aside0.mk (show cippuskit_Urn_Span.f sd.1 sd.2 1 ch = some (q1, q2, se.1, se.2) from hrb)
            have HG2 := Aside0.mk (show widGo ng (l4 ++ [⟨q1, q2⟩]) se = some (dl, sD) from hg2)
            have HNG := Aside0.mk hng
            have HF4 := Aside0.mk (show (l4.length + 1) * 16 ≤ 140737488355328 by have := HL4.out; omega)
            clear hg hg1 hg2 hra hrb hng HG hi
            go_upto_block 11 with fail
            go_cut [128] (fun _ wx => ∃ v4', Aside0 (LX w0 w wx g (fun k => k ≠ bx ∧ k < m ∧ k ≠ n0) bx se v0 V1 V2 v3 v4' nilV wl Fs Ls N1 (l4 ++ [⟨q1, q2⟩]) [] ∧ wx.heap[n0]? = some (.cells #[nilV, nilV, nilV, nilV, nilV] 28 (0, 0))))
            case first =>
              obtain ⟨x0, x1, x2, x3, x4⟩ := HX.out.1.b.cells
              clear x0 x1 x2 x3
              have xl := blk_lt HX.out.1.b
              have HXe := Aside0.mk ((HX.out.1.next ((Below.refl _ _).drew)).next ((Below.refl _ _).alloc (Nat.le_refl _) (.cells #[.int .i64 2, .int .i64 6] 3)))
              have HLL6 := Aside0.mk (show Kd.C (Kd.int .i64) (wr.drew.alloc (.cells #[.int .i64 2, .int .i64 6] 3)) (some ⟨wr.drew.heap.size, 0, none⟩) 2 [2, 6] from C_lit wr.drew [2, 6] 3 (by decide))
              have HGN := Aside0.mk (show wr.drew.heap.size ≠ g by have := blk_lt (HX.out.1.next ((Below.refl _ _).drew)).r.u.1; omega)
              go_upto_region 32 with fail
              go_region_law (first
                | (rw [if_pos (by rfl)]; go_simp; go_at_call 32; refine (cippuskit_Urn_Any.calls g _ _ (some ⟨wr.drew.heap.size, 0, none⟩) 2 [2, 6] ch sd.1 sd.2 w0 _ HXe.out.r.u HXe.out.r.bw HLL6.out (by decide) (fun ad e _ => by injection e with e; subst e; exact HGN.out) HAN.out).mono ?_; rintro e w5 ⟨rfl, hu5, hb5, hk5⟩; have HX5 := Aside0.mk (HXe.out.urn (s' := sd) hu5 hb5 hk5); have HN5 := Aside0.mk ((hk5.2 n0 (Nat.lt_of_lt_of_le (blk_lt HX.out.2) (by simp)) (by have := HX.out.1.r.gn; rw [HN0.out]; omega) (by simp)).trans (blk_alloc (show wr.drew.heap[n0]? = _ from HX.out.2) (.cells #[.int .i64 2, .int .i64 6] 3))); obtain ⟨-, -, -, -, y4⟩ := HX5.out.b.cells; have yl := blk_lt HX5.out.b; clear hu5 hb5 hk5)
                | (rw [if_pos (by rfl)]; go_simp; go_at_call 72; refine (cippuskit_Urn_Span.calls g _ _ 1 ch q1 q2 se.1 se.2 w0 _ HX5.out.r.u HX5.out.r.bw HSP.out).mono ?_; rintro e w7 ⟨rfl, hu7, hb7, hk7⟩; have HX7 := Aside0.mk (HX5.out.urn (s' := se) hu7 hb7 hk7); have HN7 := Aside0.mk ((hk7.2 n0 (blk_lt HN5.out) (by have := HX.out.1.r.gn; rw [HN0.out]; omega) (by simp)).trans HN5.out); obtain ⟨-, -, -, -, z4⟩ := HX7.out.b.cells; have zl := blk_lt HX7.out.b; clear hu7 hb7 hk7)
                | (refine Kd.R_append_step k47 (w0 := w7) w.heap.size rfl (.tmp 121) (.tmp 127) 26 47 (.agg #[.int .i64 0, .int .i64 0]) 16 rfl Try.underlying26 infoL47 rfl (by decide) (by omega) v4 l4 ⟨q1, q2⟩ [.int .i64 q1, .int .i64 q2] (fun _ => True) (fun _ => False) rfl rfl ?_ (fun _ h => h.elim) (fun _ _ => trivial) ?_ ?_ ?_ ?_ ?_
                   · exact k47_mkM _ _ _ _
                   · exact HX7.out.r.r4
                   · exact Below.refl _ _
                   · exact HX7.out.r.sz
                   · exact HF4.out
                   intro v8 w8 hr8 hb8 hg8 hat8
                   obtain ⟨A8, n8, c8, rfl⟩ := R_sl hr8
                   have HX8 := Aside0.mk (HX7.out.r.app4 hr8 hg8 hat8)
                   have HBX8 := Aside0.mk (show LxB w8 bx v0 V1 V2 v3 v4 from (hg8.block bx (blk_lt HX7.out.b) (Kd.R_ne HX7.out.r.r4 HX7.out.b (by decide))).trans HX7.out.b)
                   have HN8 := Aside0.mk ((hg8.block n0 (blk_lt HN7.out) (Kd.R_ne HX7.out.r.r4 HN7.out (by decide))).trans HN7.out)
                   obtain ⟨-, -, -, -, p4⟩ := HBX8.out.cells
                   have pl := blk_lt HBX8.out
                   have pf4 := blk_frozen HBX8.out 4
                   clear hr8 hb8 hg8 hat8))
              all_goals
                go_wp2_with fail
                refine Met.intro ?_
                go_step
                (repeat apply Exists.intro)
                refine ⟨?_, rfl⟩
                exact ⟨_, ⟨⟨HX8.out.farX HBX8.out HX.out.1.n (fun k h => h.1) 4 _, HBX8.out.set4 _, HX.out.1.n⟩, blk_far HN8.out HNE.out _⟩⟩
            case rest =>
              obtain ⟨v4', HX1⟩ := hcut
              clear HX
              go_wp2_with fail
              go_roundg (gk - 1)
              case measure => have := HNG.out; omega
              case rel => exact ⟨i + 1, se, v4', l4 ++ [⟨q1, q2⟩], by have := HIN.out; have := HNG.out; omega, by go_num, HX1, ⟨by have h := HG2.out; rw [show gk - 1 = ng by have := HNG.out; omega]; exact h⟩, ⟨by rw [List.length_append, HL4.out]; rfl⟩⟩
          · have hiz : ¬ (i : Int) < 26 := by omega
            have hid : decide ((i : Int) < 26) = false := decide_eq_false hiz
            have hid2 : decide (i < 26) = false := decide_eq_false hlt
            have HE := Aside0.mk (show l4 = dl ∧ s = sD by
              have h := HG.out
              rw [show gk = 0 by omega, widGo] at h
              simp only [Option.some.injEq, Prod.mk.injEq] at h
              exact h)
            clear hi
            go_wp2_with fail
            refine Met.intro ?_
            go_step
            (repeat apply Exists.intro)
            refine ⟨?_, rfl⟩
            refine ⟨v4, ⟨?_⟩⟩
            have h1 := HX.out
            rw [HE.out.1, HE.out.2] at h1
            exact h1
      case rest =>
        obtain ⟨v4, HX1⟩ := hcut
        clear HX
        obtain ⟨A0, m0, e0, rfl⟩ := R_sl HX1.out.1.r.r0
        obtain ⟨A1, m1, e1, rfl⟩ := R_sl HX1.out.1.r.r1
        obtain ⟨A2, m2, e2, rfl⟩ := R_sl HX1.out.1.r.r2
        obtain ⟨A4, m4, e4, rfl⟩ := R_sl HX1.out.1.r.r4
        obtain ⟨A3, e3, rfl⟩ := Kd.N_slice HX1.out.1.r.r3
        have hm3 := HX1.out.1.r.r3
        clear hm3
        obtain ⟨x0, x1, x2, x3, x4⟩ := HX1.out.1.b.cells
        have xl := blk_lt HX1.out.1.b
        have nl := blk_lt HX1.out.2
        obtain ⟨n0c, n1c, n2c, n3c, n4c⟩ := LxB.cells (show LxB wc n0 nilV nilV nilV nilV nilV from HX1.out.2)
        have nf0 := blk_frozen HX1.out.2 0
        have nf1 := blk_frozen HX1.out.2 1
        have nf2 := blk_frozen HX1.out.2 2
        have nf3 := blk_frozen HX1.out.2 3
        have nf4 := blk_frozen HX1.out.2 4
        have HFIN := Aside0.mk (HX1.out.1.r.far5 (b := n0) (show LxB wc n0 nilV nilV nilV nilV nilV from HX1.out.2) (by rw [HN0.out]; exact Nat.le_refl _) (fun k h => h.2.2) (.slice A0 m0 e0) (.slice A1 m1 e1) (.slice A2 m2 e2) (.slice A3 N1.length e3) (.slice A4 m4 e4))
        have hend := HEND.out
        simp only [Option.some.injEq, Prod.mk.injEq, Int.toNat_natCast] at hend
        rw [← HFS.out, ← HLS.out] at hend
        obtain ⟨h1, h2, h3, h4, h5, h6, h7⟩ := hend
        subst h1 h2 h3 h4 h5 h6 h7
        go_wp2_with fail
        refine bodyPost_ret (results_cell_row rfl _ _ n0 28 _ (0, 0) _ rfl HFIN.out.2 Try.underlying28 rfl (by kernel_rfl)) rfl ⟨_, _, _, _, _, rfl, ?_⟩
        obtain ⟨t0, t1, t2, t3, t4⟩ := HFIN.out.1.told
        exact ⟨t0, t1, t2, t3, t4, HFIN.out.1.u, HFIN.out.1.bw, HFIN.out.1.kb⟩
end Go.Proofs.Ytkfebceainedfaa.P.OwnUrn
namespace Go.Proofs.Ytkfebceainedfaa.P
open Go.RowKit Go.Proofs.YtkfebceainedfaaW.PrintWords Go.Proofs.YtkfebceainedfaaW.PrintLast Go.Proofs.YtkfebceainedfaaW.PrintMore
attribute [local go_sem] max2_int min2_int max_two min_two max_three min_three max_four min_four   -- for this text's walks alone
set_option linter.unusedVariables false
set_option linter.unusedSimpArgs false
def cippuskit_LexiconOf.f (s0_0 : Int) (s0_1 : Int) (a1 : Int) (a2 : Int) : Option ((List (S53)) × (List Bool) × (List Bool) × (List (List Bool)) × (List (S47)) × Int × Int) := OwnUrn.lexiconOf s0_0 s0_1 a1 a2
theorem cippuskit_LexiconOf.calls (g : Nat) (s0_0 : Int) (s0_1 : Int) (a1 : Int) (a2 : Int) (r1 : List (S53)) (r2 : List Bool) (r3 : List Bool) (r4 : List (List Bool)) (r5 : List (S47)) (r6 : Int) (r7 : Int) (w0 w : World) (hI : IsS83 w0 w g s0_0 s0_1) (hB : Below w0.heap.size w0 w) (h : cippuskit_LexiconOf.f s0_0 s0_1 a1 a2 = some (r1, r2, r3, r4, r5, r6, r7)) :
  Calls Try.prog 38 #[.pointer (some ⟨g, 0, none⟩), .int .i64 a1, .int .i64 a2] w fun e w' => ∃ v0_ v1_ v2_ v3_ v4_ : Value, e = .returned (.agg #[v0_, v1_, v2_, v3_, v4_]) ∧ Kd.R k53 53 w' w.heap.size (fun k_ => (w.heap.size ≤ k_)) v0_ r1 ∧ Kd.R Kd.bool 4 w' w.heap.size (fun k_ => (w.heap.size ≤ k_) ∧ some k_ ≠ (v2_ : Value).ownBlock) v1_ r2 ∧ Kd.R Kd.bool 4 w' w.heap.size (fun k_ => (w.heap.size ≤ k_) ∧ some k_ ≠ (v1_ : Value).ownBlock) v2_ r3 ∧ Kd.N (Kd.slice 4 Kd.bool) 24 w' w.heap.size (fun k_ => (w.heap.size ≤ k_) ∧ some k_ ≠ (v0_ : Value).ownBlock ∧ some k_ ≠ (v1_ : Value).ownBlock ∧ some k_ ≠ (v2_ : Value).ownBlock ∧ some k_ ≠ (v4_ : Value).ownBlock) v3_ r4 ∧ Kd.R k47 47 w' w.heap.size (fun k_ => (w.heap.size ≤ k_)) v4_ r5 ∧ IsS83 w0 w' g r6 r7 ∧ Below w0.heap.size w0 w' ∧ KeepBut w w' g none := by
 exact OwnUrn.lexiconOf_calls g s0_0 s0_1 a1 a2 r1 r2 r3 r4 r5 r6 r7 w0 w hI hB h
end Go.Proofs.Ytkfebceainedfaa.P
namespace Go.Proofs.Ytkfebceainedfaa.P.OwnGap
open Go.RowKit Go.Proofs.YtkfebceainedfaaW.PrintWords Go.Proofs.YtkfebceainedfaaW.PrintLast Go.Proofs.YtkfebceainedfaaW.PrintMore
open Go.Proofs.Ytkfebceainedfaa.OwnGap
set_option linter.unusedVariables false
set_option linter.unusedSimpArgs false
abbrev kI : Kd Int := Kd.int .i64
def kP : Kd Pth := Kd.iso (Kd.pair kI (Kd.pair kI (Kd.pair kI (Kd.pair kI (Kd.pair kI (Kd.pair kI (Kd.pair kI kI))))))) (fun p : Pth => ((p.i : Int), (p.m : Int), p.l, p.h, fG p.fs 0, fG p.fs 1, fG p.fs 2, (p.fs.length : Int)))
def pL (p : Pth) : List Value := [.int .i64 (p.i : Int), .int .i64 (p.m : Int), .int .i64 p.l, .int .i64 p.h, .int .i64 (fG p.fs 0), .int .i64 (fG p.fs 1), .int .i64 (fG p.fs 2), .int .i64 (p.fs.length : Int)]
theorem kP_mkM (w : World) (base : Nat) (ok : Nat → Prop) (p : Pth) : kP.M w base ok p (pL p) :=
 ⟨[_], _, rfl, rfl, [_], _, rfl, rfl, [_], _, rfl, rfl, [_], _, rfl, rfl, [_], _, rfl, rfl, [_], _, rfl, rfl, [_], [_], rfl, rfl, rfl⟩
theorem kP_openM {w : World} {base : Nat} {ok : Nat → Prop} {p : Pth} {cs : List Value} (h : kP.M w base ok p cs) : cs = pL p := by
 obtain ⟨_, _, rfl, rfl, _, _, rfl, rfl, _, _, rfl, rfl, _, _, rfl, rfl, _, _, rfl, rfl, _, _, rfl, rfl, _, _, rfl, rfl, rfl⟩ := h
 rfl
theorem kP_open {w : World} {p : Pth} {cs : List Value} (h : kP.K w p cs) : cs = pL p := by
 obtain ⟨_, _, rfl, rfl, _, _, rfl, rfl, _, _, rfl, rfl, _, _, rfl, rfl, _, _, rfl, rfl, _, _, rfl, rfl, _, _, rfl, rfl, rfl⟩ := h
 rfl
structure OkP (X : Lx) (p : Pth) : Prop where
 i : p.i ≤ X.r.length
 m : p.m ≤ 10
 l0 : 0 ≤ p.l
 l1 : p.l ≤ p.m * 1000
 h0 : 0 ≤ p.h
 h1 : p.h ≤ p.m * 1000
 g : p.fs.length + ((List.range' p.i (X.r.length - p.i)).filter (rwOf X).gap).length ≤ 3
structure OkX (X : Lx) (fits : List Int) : Prop where
 n : X.r.length ≤ 1000
 w : ∀ a : Int, 65 ≤ a → a ≤ 90 → 0 ≤ (rd_T47 X.l4 (a - 65)).f0 ∧ (rd_T47 X.l4 (a - 65)).f0 ≤ 1000 ∧ 0 ≤ (rd_T47 X.l4 (a - 65)).f1 ∧ (rd_T47 X.l4 (a - 65)).f1 ≤ 1000
 f : ∀ i : Nat, i < X.r.length → ∀ a : Int, 65 ≤ a → a ≤ 90 → gap_letters_has.f (rd fits (i : Int)) a = some (fitB (rd_T49 X.r (i : Int)).f0 a)
structure PL (w wx : World) (p : Pth) : Prop where
 below : Below w.heap.size w wx
 pat : PAt wx w.heap.size p
theorem PL.start (w : World) (p : Pth) : PL w (w.alloc (.cells (pC p) 154)) p := ⟨(Below.refl _ _).alloc (Nat.le_refl _) _, blk_new w _⟩
theorem PL.drewN {w wx : World} {p : Pth} (h : PL w wx p) (n : Nat) : PL w (wx.drewN n) p := ⟨pw_below_drewN h.below n, h.pat⟩
theorem PL.alloc {w wx : World} {p : Pth} (h : PL w wx p) (o : Obj) : PL w (wx.alloc o) p := ⟨h.below.alloc (by have := h.below.size; omega) _, blk_alloc h.pat _⟩
theorem PL.drew {w wx : World} {p : Pth} (h : PL w wx p) : PL w wx.drew p := ⟨h.below.drew, h.pat⟩
theorem PL.next {w wx wy : World} {p : Pth} (h : PL w wx p) (hb : Below wx.heap.size wx wy) : PL w wy p := ⟨h.below.trans (hb.mono h.below.size), blk_below h.pat hb⟩
theorem set4 {W : World} {b : Nat} {p : Pth} (h : PAt W b p) (u0 u1 u2 u3 : Value) : ((((W.setCell ⟨b, 0, none⟩ u0).setCell ⟨b, 1, none⟩ u1).setCell ⟨b, 2, none⟩ u2).setCell ⟨b, 3, none⟩ u3).heap[b]? = some (.cells #[u0, u1, u2, u3, .int .i64 (fG p.fs 0), .int .i64 (fG p.fs 1), .int .i64 (fG p.fs 2), .int .i64 (p.fs.length : Int)] 154 (0, 0)) := by
 have s0 := blk_set h 0 u0
 have s1 := blk_set s0 1 u1
 have s2 := blk_set s1 2 u2
 have s3 := blk_set s2 3 u3
 rw [s3]
 rfl
theorem set4_below {n : Nat} {w0 W : World} {b : Nat} (h : Below n w0 W) (hb : n ≤ b) (u0 u1 u2 u3 : Value) : Below n w0 ((((W.setCell ⟨b, 0, none⟩ u0).setCell ⟨b, 1, none⟩ u1).setCell ⟨b, 2, none⟩ u2).setCell ⟨b, 3, none⟩ u3) :=
 (((h.setCell hb _).setCell hb _).setCell hb _).setCell hb _
def PR (w wx : World) (v : Value) (l : List Pth) : Prop := kP.R 154 wx w.heap.size (fun _ => True) v l
theorem set3 {W : World} {b : Nat} {p : Pth} (h : PAt W b p) (u1 u2 u3 : Value) : (((W.setCell ⟨b, 1, none⟩ u1).setCell ⟨b, 2, none⟩ u2).setCell ⟨b, 3, none⟩ u3).heap[b]? = some (.cells #[.int .i64 (p.i : Int), u1, u2, u3, .int .i64 (fG p.fs 0), .int .i64 (fG p.fs 1), .int .i64 (fG p.fs 2), .int .i64 (p.fs.length : Int)] 154 (0, 0)) := by
 have s1 := blk_set h 1 u1
 have s2 := blk_set s1 2 u2
 have s3 := blk_set s2 3 u3
 rw [s3]
 rfl
theorem set3_below {n : Nat} {w0 W : World} {b : Nat} (h : Below n w0 W) (hb : n ≤ b) (u1 u2 u3 : Value) : Below n w0 (((W.setCell ⟨b, 1, none⟩ u1).setCell ⟨b, 2, none⟩ u2).setCell ⟨b, 3, none⟩ u3) :=
 ((h.setCell hb _).setCell hb _).setCell hb _
theorem R_low {W : World} {n : Nat} {v : Value} {l : List Pth} (h : kP.R 154 W (n + 1) (fun _ => True) v l) (u1 u2 u3 : Value) : kP.R 154 (((W.setCell ⟨n, 1, none⟩ u1).setCell ⟨n, 2, none⟩ u2).setCell ⟨n, 3, none⟩ u3) (n + 1) (fun _ => True) v l := by
 have hk : ∀ k, (True ∧ n + 1 ≤ k ∧ k < W.heap.size ∧ ∃ q, q ∈ 154 :: kP.E ∧ ∃ cells, W.heap[k]? = some (.cells cells q (0, 0))) → k ≠ n := fun k h => by have := h.2.1; omega
 exact Kd.R_mono (Kd.R_far (Kd.R_far (Kd.R_far (Kd.R_bound h) hk u1) hk u2) hk u3) (fun _ _ => trivial)
theorem letterF_length (R : Rw) (a : Int) : ∀ (rem i m : Nat) (l h : Int) (fs : List Int), (letterF R rem i m l h fs a).length ≤ rem
 | 0, _, _, _, _, _ => by rw [letterF]; exact Nat.le_refl _
 | rem + 1, i, m, l, h, fs => by
  have ih := letterF_length R a rem (i + 1) 0 0 0 (fs ++ [(m : Int)])
  rw [letterF_succ]
  split
  ·split
   ·simp
   ·simp
  ·rw [List.length_append]
   have h1 : (if okW R i l h = true then letterF R rem (i + 1) 0 0 0 (fs ++ [(m : Int)]) a else []).length ≤ rem := by
    split
    ·exact ih
    ·exact Nat.zero_le _
   have h2 : (if m + 1 ≤ 10 ∧ l + R.wl a ≤ R.hi i then [(⟨i, m + 1, l + R.wl a, h + R.wh a, fs⟩ : Pth)] else []).length ≤ 1 := by
    split <;> simp
   omega
end Go.Proofs.Ytkfebceainedfaa.P.OwnGap
namespace Go.Proofs.Ytkfebceainedfaa.P.OwnGap
open Go.RowKit Go.Proofs.YtkfebceainedfaaW.PrintWords Go.Proofs.YtkfebceainedfaaW.PrintLast Go.Proofs.YtkfebceainedfaaW.PrintMore
open Go.Proofs.Ytkfebceainedfaa.OwnGap
set_option linter.unusedVariables false
set_option linter.unusedSimpArgs false
def zP : Pth := ⟨0, 0, 0, 0, []⟩
theorem at_P {w : World} {A : Option Addr} {n : Nat} {xs : List Pth} (h : Kd.C kP w A n xs) (j : Nat) (h1 : j < n) : ∃ ad, A = some ad ∧ w.cell? (ad.add (j * 8)) = some (.int .i64 ((xs.getD j zP).i : Int)) ∧ w.cell? ⟨(ad.add (j * 8)).block, (ad.add (j * 8)).off + 1, none⟩ = some (.int .i64 ((xs.getD j zP).m : Int)) ∧ w.cell? ⟨(ad.add (j * 8)).block, (ad.add (j * 8)).off + 2, none⟩ = some (.int .i64 (xs.getD j zP).l) ∧ w.cell? ⟨(ad.add (j * 8)).block, (ad.add (j * 8)).off + 3, none⟩ = some (.int .i64 (xs.getD j zP).h) ∧ w.cell? ⟨(ad.add (j * 8)).block, (ad.add (j * 8)).off + 4, none⟩ = some (.int .i64 (fG (xs.getD j zP).fs 0)) ∧ w.cell? ⟨(ad.add (j * 8)).block, (ad.add (j * 8)).off + 5, none⟩ = some (.int .i64 (fG (xs.getD j zP).fs 1)) ∧ w.cell? ⟨(ad.add (j * 8)).block, (ad.add (j * 8)).off + 6, none⟩ = some (.int .i64 (fG (xs.getD j zP).fs 2)) ∧ w.cell? ⟨(ad.add (j * 8)).block, (ad.add (j * 8)).off + 7, none⟩ = some (.int .i64 ((xs.getD j zP).fs.length : Int)) := by
  obtain ⟨ad, c, e, _, hK, hc0⟩ := Kd.C_get h zP (j : Int) (by omega) (by omega)
  have hc : ∀ t u, c[t]? = some u → w.cell? (ad.add (j * 8 + t)) = some u := hc0
  obtain rfl := kP_open hK
  exact ⟨ad, e, hc 0 _ rfl, by rw [← add_field _ _ 1 (by omega)]; exact hc 1 _ rfl, by rw [← add_field _ _ 2 (by omega)]; exact hc 2 _ rfl, by rw [← add_field _ _ 3 (by omega)]; exact hc 3 _ rfl, by rw [← add_field _ _ 4 (by omega)]; exact hc 4 _ rfl, by rw [← add_field _ _ 5 (by omega)]; exact hc 5 _ rfl, by rw [← add_field _ _ 6 (by omega)]; exact hc 6 _ rfl, by rw [← add_field _ _ 7 (by omega)]; exact hc 7 _ rfl⟩
def wk (X : Lx) (l : List Pth) (text : ByteArray) (k : Nat) : List Pth := wordF (rwOf X) l ((bytesOf text).take k)
theorem wk_succ (X : Lx) (l : List Pth) (text : ByteArray) (k : Nat) (hk : k < text.size) : wk X l text (k + 1) = (wk X l text k).flatMap (letterP (rwOf X) · (bt text (k : Int))) := by
  have h1 : (bytesOf text)[k]? = some (bt text (k : Int)) := by
    unfold bytesOf
    rw [List.getElem?_map]
    have h2 : text.data.toList[k]? = some (text[k]'hk) := by
      rw [Array.getElem?_toList]
      exact Array.getElem?_eq_getElem hk
    rw [h2]
    show some (((text[k]'hk).toNat : Nat) : Int) = _
    have := bt_at text (k : Int) (by simpa using hk)
    simp only [Int.toNat_natCast] at this
    rw [this]
  unfold wk
  rw [List.take_add_one, h1, wordF_append]
  rfl
theorem wk_all (X : Lx) (l : List Pth) (text : ByteArray) : wk X l text text.size = wordF (rwOf X) l (bytesOf text) := by
  unfold wk
  rw [← bytesOf_length, List.take_length]
theorem R_next {W W' : World} {n : Nat} {v : Value} {l : List Pth} (h : kP.R 154 W n (fun _ => True) v l) (hb : Below W.heap.size W W') : kP.R 154 W' n (fun _ => True) v l := Kd.R_step h (fun k _ hk => hb.block k hk)
structure RelW (X : Lx) (w wr : World) (l : List Pth) (text : ByteArray) (k : Nat) (v : Value) : Prop where
  row : ∃ A c, v = .slice A (wk X l text k).length c ∧ (wk X l text k).length ≤ c ∧ Kd.C kP wr A (wk X l text k).length (wk X l text k)
  own : 0 < k → PR w wr v (wk X l text k)
  below : Below w.heap.size w wr
structure RelV (X : Lx) (wi wr : World) (lk : List Pth) (a : Int) (j : Nat) (v : Value) : Prop where
  own : PR wi wr v ((lk.take j).flatMap (letterP (rwOf X) · a))
  below : Below wi.heap.size wi wr
set_option maxHeartbeats 4000000 in
set_option maxRecDepth 100000 in
theorem word_calls (X : Lx) (S : SV) (fits : List Int) (hn : X.r.length ≤ 1000)
    (HLET : Aside0 (∀ (a : Int), 65 ≤ a → a ≤ 90 → ∀ (p : Pth) (w : World), SrW X S fits w → OkP X p → Calls Try.prog 91 #[.pointer (some ⟨S.b, 0, none⟩), .agg (pC p), .int .u8 a] w fun e w' => ∃ v, e = .returned v ∧ PR w w' v (letterP (rwOf X) p a) ∧ Below w.heap.size w w'))
    (text : ByteArray) (hpos : 0 < text.size) (h64 : text.size ≤ 1000) (HT : Aside0 (∀ k : Nat, k < text.size → 65 ≤ bt text (k : Int) ∧ bt text (k : Int) ≤ 90))
    (A : Option Addr) (c : Nat) (l : List Pth) (hlc : l.length ≤ c) (w : World) (hS : SrW X S fits w) (hrow : Kd.C kP w A l.length l)
    (HOK : Aside0 (∀ k, k ≤ text.size → (wk X l text k).length ≤ 1000000000 ∧ ∀ q ∈ wk X l text k, OkP X q)) :
    Calls Try.prog 99 #[.pointer (some ⟨S.b, 0, none⟩), .slice A l.length c, .string text] w fun e w' => ∃ v, e = .returned v ∧ PR w w' v (wordF (rwOf X) l (bytesOf text)) ∧ Below w.heap.size w w' := by
  have HS := Aside0.mk hS
  have HROW := Aside0.mk hrow
  clear hS hrow
  go_enter Try.func99, Try.ntmps99
  go_wp2
  go_loopw [1, 13] (fun v1 v13 wr => ∃ k : Nat, v13 = .int .i64 k ∧ k ≤ text.size ∧ Aside0 (RelW X w wr l text k v1)) (fun v1 v13 wr => text.size - (intOf v13).toNat)
  case atStart => exact ⟨0, rfl, by omega, ⟨⟨⟨A, c, rfl, hlc, HROW.out⟩, fun h => absurd h (Nat.lt_irrefl _), Below.refl _ _⟩⟩⟩
  case round =>
    obtain ⟨k, rfl, hk, HR⟩ := hrel
    by_cases hlt : k < text.size
    · obtain ⟨A1, c1, rfl, hc1, hr1⟩ := HR.out.row
      have HB := Aside0.mk HR.out.below
      have HK := Aside0.mk (HOK.out k hk)
      have HK1 := Aside0.mk (HOK.out (k + 1) hlt)
      obtain ⟨a, ha⟩ : ∃ a, a = bt text (k : Int) := ⟨_, rfl⟩
      have HA := Aside0.mk (show 65 ≤ a ∧ a ≤ 90 by rw [ha]; exact HT.out k hlt)
      obtain ⟨lk, hlk⟩ : ∃ lk, lk = wk X l text k := ⟨_, rfl⟩
      have HK2 := Aside0.mk (show wk X l text (k + 1) = lk.flatMap (letterP (rwOf X) · a) by rw [hlk, ha]; exact wk_succ X l text k hlt)
      rw [← hlk] at hr1 hc1 HK
      rw [← hlk]
      have HR1 := Aside0.mk hr1
      have HBT := Aside0.mk ha
      have hlk3 := HK.out.1
      clear HR hlk hr1 ha
      rename World => wo
      go_wp2
      go_loopw [8, 18] (fun v8 v18 wi => ∃ j : Nat, v18 = .int .i64 j ∧ j ≤ lk.length ∧ Aside0 (RelV X wo wi lk a j v8)) (fun v8 v18 wi => lk.length - (intOf v18).toNat)
      case atStart => exact ⟨0, rfl, by omega, ⟨⟨Kd.R_nil _ _ _ _ _, Below.refl _ _⟩⟩⟩
      case round =>
        obtain ⟨j, rfl, hj, HV⟩ := hrel
        by_cases hjl : j < lk.length
        · obtain ⟨ad, rfl, e0, e1, e2, e3, e4, e5, e6, e7⟩ := at_P (Kd.C_below HR1.out HV.out.below) j hjl
          obtain ⟨q, hq⟩ : ∃ q, q = lk.getD j zP := ⟨_, rfl⟩
          rw [← hq] at e0 e1 e2 e3 e4 e5 e6 e7
          have hqm : q ∈ lk := by
            rw [hq, List.getD_eq_getElem?_getD, List.getElem?_eq_getElem hjl]
            exact List.getElem_mem hjl
          have HQ := Aside0.mk (show OkP X q from HK.out.2 q hqm)
          have HTK := Aside0.mk (show (lk.take (j + 1)).flatMap (letterP (rwOf X) · a) = (lk.take j).flatMap (letterP (rwOf X) · a) ++ letterP (rwOf X) q a by
            rw [List.take_add_one, List.flatMap_append, hq, List.getD_eq_getElem?_getD, List.getElem?_eq_getElem hjl]
            simp)
          have HLEN := Aside0.mk (show ((lk.take j).flatMap (letterP (rwOf X) · a)).length + (letterP (rwOf X) q a).length ≤ 1000000000 by
            have h1 := HK1.out.1
            rw [HK2.out, ← List.take_append_drop (j + 1) lk, List.flatMap_append, HTK.out] at h1
            simp only [List.length_append] at h1
            omega)
          clear hq hqm
          have hpl := World.block_lt_of_cell? wr _ e0
          have hjl2 : (j : Int) < (lk.length : Int) := by omega
          go_upto_region 8 with fail
          refine wp_gen (fun wx => Aside0 (PR wo wx u8 ((lk.take j).flatMap (letterP (rwOf X) · a))) ∧ Aside0 (Below wo.heap.size wo wx) ∧ Aside0 (wx.heap[wr.heap.size]? = some (.cells (pC q) 154 (0, 0)))) ⟨⟨Kd.R_alloc HV.out.own _⟩, ⟨HV.out.below.alloc HV.out.below.size _⟩, ⟨blk_new wr _⟩⟩ ?_
          obtain ⟨b10, hb10⟩ : ∃ b, b = wr.heap.size := ⟨_, rfl⟩
          rw [← hb10]
          clear e0 e1 e2 e3 e4 e5 e6 e7 hpl HV
          rintro wx ⟨HO, HBX, H10⟩
          obtain ⟨⟨e0, e1, e2, e3, e4, e5, e6, e7⟩, -⟩ := cells8 (show wx.heap[b10]? = some (.cells #[_, _, _, _, _, _, _, _] 154 (0, 0)) from H10.out)
          have hpl := blk_lt H10.out
          have hbtr : ((text[k]'hlt).toNat : Int) = a := by
            have := bt_at text (k : Int) (by simpa using hlt)
            simp only [Int.toNat_natCast] at this
            rw [this, HBT.out]
          have HLC := Aside0.mk (fun (W : World) (h : SrW X S fits W) => HLET.out a HA.out.1 HA.out.2 q W h HQ.out)
          clear hb10
          go_region_law (first
            | (rw [if_pos (by rfl)]; go_simp; go_at_call 91; refine (HLC.out _ (HS.out.below ((HB.out.trans (HBX.out.mono HB.out.size)).drew))).mono ?_; rintro e w3 ⟨v, rfl, hv, hB3⟩; obtain ⟨Av, cv, rfl, -, hrv⟩ := Kd.R_reads hv; have HRV := Aside0.mk hrv; have HOV := Aside0.mk (R_next (Kd.R_drew HO.out) hB3); have HBV := Aside0.mk (HBX.out.drew.trans (hB3.mono HBX.out.drew.size)); clear hv hB3 hrv)
            | (refine Kd.R_append_rows_step kP (w0 := wo) (Rr := fun x cs => cs = pL x) wo.heap.size rfl (.tmp 22) (.tmp 28) 157 154 (.agg #[(.int .i64 0), (.int .i64 0), (.int .i64 0), (.int .i64 0), (.int .i64 0), (.int .i64 0), (.int .i64 0), (.int .i64 0)]) 64 rfl Try.underlying157 (by kernel_rfl) rfl (by decide) (by omega) u8 ((lk.take j).flatMap (letterP (rwOf X) · a)) (letterP (rwOf X) q a) Av (letterP (rwOf X) q a).length cv (fun _ => True) (fun _ => False) rfl rfl ?_ ?_ (fun x cs h => h ▸ kP_mkM _ _ _ _) (fun _ h => h.elim) (fun _ _ => trivial) ?_ ?_ ?_ ?_
               · exact HOV.out
               · exact HRV.out.imp_ (Below.refl _ _) (fun _ _ hp => kP_open hp)
               · exact HBV.out
               · exact HBV.out.size
               · have := HLEN.out; omega
               intro vv wv hov hbv hgv hav
               have HO4 := Aside0.mk hov
               have HB4 := Aside0.mk hbv
               clear hov hbv hgv hav))
          all_goals
            go_wp2_with fail
            refine ⟨⟨j + 1, by go_num, hjl, ⟨⟨by rw [HTK.out]; exact HO4.out, HB4.out⟩⟩⟩, ?_⟩
            simp [intOf]
            omega
        · have hje : j = lk.length := by omega
          have hjl2 : ¬ (j : Int) < (lk.length : Int) := by omega
          go_wp2_with fail
          have hall : (lk.take j).flatMap (letterP (rwOf X) · a) = wk X l text (k + 1) := by rw [hje, List.take_length, HK2.out]
          have hown := HV.out.own
          rw [hall] at hown
          obtain ⟨A2, c2, e2, hl2, hr2⟩ := Kd.R_reads hown
          refine ⟨⟨k + 1, by go_num, hlt, ⟨⟨⟨A2, c2, e2, hl2, hr2⟩, fun _ => Kd.R_lower hown HB.out.size, HB.out.trans (HV.out.below.mono HB.out.size)⟩⟩⟩, ?_⟩
          simp [intOf]
          omega
    · have hke : k = text.size := by omega
      have HRR := Aside0.mk (HR.out.own (by omega))
      have HB := Aside0.mk HR.out.below
      rw [hke, wk_all] at HRR
      clear HR
      go_wp2_with fail
      go_ret
      exact ⟨_, rfl, HRR.out, HB.out⟩
end Go.Proofs.Ytkfebceainedfaa.P.OwnGap
namespace Go.Proofs.Ytkfebceainedfaa.P.OwnGap
open Go.RowKit Go.Shelf Go.Proofs.YtkfebceainedfaaW.PrintWords Go.Proofs.YtkfebceainedfaaW.PrintLast Go.Proofs.YtkfebceainedfaaW.PrintMore
open Go.Proofs.Ytkfebceainedfaa.OwnGap
set_option linter.unusedVariables false
set_option linter.unusedSimpArgs false
def idxV (V : Pth → Bool) : List Pth → Int
 | [] => -1
 | p :: l => if V p = true then 0 else if idxV V l = -1 then -1 else idxV V l + 1
theorem idxV_none {V : Pth → Bool} : ∀ {l : List Pth}, (∀ p ∈ l, V p = false) → idxV V l = -1
 | [], _ => rfl
 | p :: l, h => by
  rw [idxV, if_neg (by rw [h p (by simp)]; decide), if_pos (idxV_none (fun q hq => h q (by simp [hq])))]
theorem idxV_first {V : Pth → Bool} : ∀ {l : List Pth} (k : Nat), k < l.length → V (l.getD k zP) = true → (∀ j, j < k → V (l.getD j zP) = false) → idxV V l = (k : Int)
 | [], k, hk, _, _ => absurd hk (Nat.not_lt_zero _)
 | p :: l, 0, _, h, _ => by rw [idxV, if_pos (by simpa using h)]; rfl
 | p :: l, k + 1, hk, h, h0 => by
  have h1 : V p = false := by simpa using h0 0 (by omega)
  have ih := idxV_first (l := l) k (by simpa using hk) (by simpa using h) (fun j hj => by simpa using h0 (j + 1) (by omega))
  rw [idxV, if_neg (by rw [h1]; decide), ih, if_neg (by omega)]
  omega
theorem idxV_cases (V : Pth → Bool) : ∀ l : List Pth, (idxV V l = -1 ∧ ∀ p ∈ l, V p = false) ∨ (∃ k : Nat, idxV V l = (k : Int) ∧ k < l.length ∧ V (l.getD k zP) = true ∧ ∀ j, j < k → V (l.getD j zP) = false)
 | [] => .inl ⟨rfl, by simp⟩
 | p :: l => by
  by_cases hp : V p = true
  ·exact .inr ⟨0, by rw [idxV, if_pos hp]; rfl, by simp, by simpa using hp, fun j hj => absurd hj (Nat.not_lt_zero _)⟩
  ·have hp' : V p = false := by simpa using hp
   rcases idxV_cases V l with ⟨e, h⟩ | ⟨k, e, hk, h, h0⟩
   ·refine .inl ⟨by rw [idxV, if_neg hp, if_pos e], fun q hq => ?_⟩
    rcases List.mem_cons.1 hq with rfl | hq
    ·exact hp'
    ·exact h q hq
   ·refine .inr ⟨k + 1, by rw [idxV, if_neg hp, if_neg (by omega), e]; omega, by simpa using hk, by simpa using h, fun j hj => ?_⟩
    cases j with
    | zero => simpa using hp'
    | succ j => simpa using h0 j (by omega)
theorem idxV_any (V : Pth → Bool) (l : List Pth) : decide (0 ≤ idxV V l) = l.any V := by
 rcases idxV_cases V l with ⟨e, h⟩ | ⟨k, e, hk, h, _⟩
 ·rw [e, show l.any V = false by rw [List.any_eq_false]; intro q hq; rw [h q hq]; decide]
  rfl
 ·rw [e, show l.any V = true by
   rw [List.any_eq_true]
   refine ⟨l.getD k zP, ?_, h⟩
   rw [List.getD_eq_getElem?_getD, List.getElem?_eq_getElem hk]
   exact List.getElem_mem hk]
  exact decide_eq_true (by omega)
def PredP (g : Nat) (lb : Array Value) (V : Pth → Bool) (I : World → Prop) (l : List Pth) : Prop :=
 ∀ q ∈ l, ∀ W, I W → Calls Try.prog g (#[.agg (pC q)] ++ lb) W fun e W' => e = .returned (.bool (V q)) ∧ I W'
set_option maxHeartbeats 2000000 in
set_option maxRecDepth 100000 in
theorem index_calls (g : Nat) (lb : Array Value) (eg : ∀ args w, (callFunc g args).run Try.prog w = .ok (.enter g args) w) (V : Pth → Bool) (I : World → Prop) (A : Option Addr) (c : Nat) (l : List Pth) (hl : l.length ≤ 1000000000) (w : World) (hI : I w) (hrow : ∀ W, I W → Kd.C kP W A l.length l) (hp : PredP g lb V I l) :
  Calls Try.prog 107 #[.slice A l.length c, .func (.func g) #[] lb] w fun e w' => e = .returned (.int .i64 (idxV V l)) ∧ I w' := by
 have HI := Aside0.mk hI
 have HROW := Aside0.mk hrow
 have HP := Aside0.mk hp
 clear hI hrow hp
 go_enter Try.func107, Try.ntmps107
 go_wp2
 go_loopg [5, 8] l.length (fun k _ s8 wr => ∃ kk : Nat, kk + k = l.length ∧ s8 = .int .i64 kk ∧ Aside0 (I wr) ∧ Aside0 (∀ j, j < kk → V (l.getD j zP) = false))
 case atStart => exact ⟨0, by omega, rfl, HI, ⟨fun j hj => absurd hj (Nat.not_lt_zero _)⟩⟩
 case round =>
  obtain ⟨kk, hkk, rfl, HW, HV⟩ := hrel
  have HKK := Aside0.mk hkk
  clear HI
  by_cases hlt : kk < l.length
  ·have hltz : (kk : Int) < (l.length : Int) := by omega
   obtain ⟨ad, rfl, e0, e1, e2, e3, e4, e5, e6, e7⟩ := at_P (HROW.out wr HW.out) kk hlt
   obtain ⟨q, hq⟩ : ∃ q, q = l.getD kk zP := ⟨_, rfl⟩
   rw [← hq] at e0 e1 e2 e3 e4 e5 e6 e7
   have hqm : q ∈ l := by
    rw [hq, List.getD_eq_getElem?_getD, List.getElem?_eq_getElem hlt]
    exact List.getElem_mem hlt
   have HC := Aside0.mk (HP.out q hqm wr HW.out)
   have HQ := Aside0.mk hq
   have hadl := World.block_lt_of_cell? wr _ e0
   clear hq hqm hkk
   obtain ⟨v, hv⟩ : ∃ v, v = V q := ⟨_, rfl⟩
   have HV1 := Aside0.mk hv
   rw [← hv] at HC
   clear hv
   cases v with
   | true =>
    go_wp2_with (go_at_fn g; refine HC.out.mono ?_; rintro e w' ⟨rfl, hw'⟩; have HW' := Aside0.mk hw'; clear hw')
    go_ret
    refine ⟨?_, HW'.out⟩
    rw [idxV_first kk hlt (by rw [← HQ.out]; exact HV1.out.symm) HV.out]
    rfl
   | false =>
    go_wp2_with (go_at_fn g; refine HC.out.mono ?_; rintro e w' ⟨rfl, hw'⟩; have HW' := Aside0.mk hw'; clear hw')
    go_roundg (gk - 1)
    case measure => have := HKK.out; omega
    case rel =>
     refine ⟨kk + 1, by have := HKK.out; omega, by go_num, HW', ⟨fun j hj => ?_⟩⟩
     by_cases e : j = kk
     ·subst e
      rw [← HQ.out]
      exact HV1.out.symm
     ·exact HV.out j (by omega)
  ·have hltz : ¬ (kk : Int) < (l.length : Int) := by omega
   go_wp2_with fail
   go_ret
   refine ⟨?_, HW.out⟩
   rw [idxV_none (fun p hpm => by
    obtain ⟨j, hj, rfl⟩ := List.mem_iff_getElem.1 hpm
    have := HV.out j (by omega)
    rwa [List.getD_eq_getElem?_getD, List.getElem?_eq_getElem hj] at this)]
   rfl
set_option maxHeartbeats 2000000 in
theorem contains_calls (g : Nat) (lb : Array Value) (eg : ∀ args w, (callFunc g args).run Try.prog w = .ok (.enter g args) w) (V : Pth → Bool) (I : World → Prop) (A : Option Addr) (c : Nat) (l : List Pth) (hl : l.length ≤ 1000000000) (w : World) (hI : I w) (hrow : ∀ W, I W → Kd.C kP W A l.length l) (hp : PredP g lb V I l) :
  Calls Try.prog 108 #[.slice A l.length c, .func (.func g) #[] lb] w fun e w' => e = .returned (.bool (l.any V)) ∧ I w' := by
 have HC := Aside0.mk (index_calls g lb eg V I A c l hl w hI hrow hp)
 clear hI hrow hp
 obtain ⟨x, hx⟩ : ∃ x, x = idxV V l := ⟨_, rfl⟩
 obtain ⟨b, hb⟩ : ∃ b, b = l.any V := ⟨_, rfl⟩
 have HB := Aside0.mk (show decide (0 ≤ x) = b by rw [hx, hb]; exact idxV_any V l)
 rw [← hb]
 rw [← hx] at HC
 clear hb hx
 go_enter Try.func108, Try.ntmps108
 go_wp2_with (go_at_call 107; refine HC.out.mono ?_; rintro e w' ⟨rfl, hw'⟩; have HW' := Aside0.mk hw'; clear hw')
 go_ret
 refine ⟨?_, HW'.out⟩
 rw [← HB.out]
 rfl
end Go.Proofs.Ytkfebceainedfaa.P.OwnGap
namespace Go.Proofs.Ytkfebceainedfaa.P.OwnGap
open Go.RowKit Go.Maps Go.Proofs.YtkfebceainedfaaW.PrintWords Go.Proofs.YtkfebceainedfaaW.PrintLast Go.Proofs.YtkfebceainedfaaW.PrintMore
set_option linter.unusedVariables false
set_option linter.unusedSimpArgs false
theorem laidOut : laidOutB Try.prog = true := by kernel_rfl
theorem law139 : Keyed Try.prog 139 := Keyed.of_law (deep_law_laid laidOut (m := 20) (by decide) (of_decide_eq_true (by kernel_rfl)) (by kernel_rfl) (by kernel_rfl))
theorem law151 : Keyed Try.prog 151 := Keyed.of_law (deep_law_laid laidOut (m := 20) (by decide) (of_decide_eq_true (by kernel_rfl)) (by kernel_rfl) (by kernel_rfl))
def stV (i m l h k f : Int) : Value := .agg #[.int .i64 i, .int .i64 m, .int .i64 l, .int .i64 h, .int .i64 k, .int .i64 f]
def ptV (i m l h k f w a : Int) : Value := .agg #[.int .i64 i, .int .i64 m, .int .i64 l, .int .i64 h, .int .i64 k, .int .i64 f, .int .i64 w, .int .i64 a]
def w64 (n : Int) : Prop := -9223372036854775808 ≤ n ∧ n ≤ 9223372036854775807
theorem w64_wf {n : Int} (h : w64 n) : (Lit.int .i64 n).wf = true := by
 unfold w64 at h
 simp [Lit.wf, show IntKind.min .i64 = -9223372036854775808 from rfl, show IntKind.max .i64 = 9223372036854775807 from rfl]
 omega
theorem keyLits_int (P : Program) (h3 : P.underlying 3 = some (.int .i64)) (d : Nat) (n : Int) (hn : w64 n) : P.keyLits (d + 1) 3 [.int .i64 n] = some [.int .i64 n] := by
 unfold Program.keyLits
 rw [h3]
 simp only [w64_wf hn, and_self, if_true]
theorem keyLits_spot (P : Program) (h3 : P.underlying 3 = some (.int .i64)) (c3 : P.cellsOf 3 = 1) (c137 : P.cellsOf 137 = 4) (g1 g2 g3 g4 : Field) (hu : P.underlying 137 = some (.struct #[g1, g2, g3, g4]))
  (k1 : g1.name = "cell" ∧ g1.type = 3 ∧ g1.offset = 0) (k2 : g2.name = "many" ∧ g2.type = 3 ∧ g2.offset = 1) (k3 : g3.name = "low" ∧ g3.type = 3 ∧ g3.offset = 2) (k4 : g4.name = "high" ∧ g4.type = 3 ∧ g4.offset = 3)
  (d : Nat) (i m l h : Int) (hi : w64 i) (hm : w64 m) (hl : w64 l) (hh : w64 h) : P.keyLits (d + 1 + 1) 137 [.int .i64 i, .int .i64 m, .int .i64 l, .int .i64 h] = some [.int .i64 i, .int .i64 m, .int .i64 l, .int .i64 h] := by
 have q := keyLits_int P h3
 unfold Program.keyLits
 rw [hu]
 obtain ⟨n1, t1, o1⟩ := k1
 obtain ⟨n2, t2, o2⟩ := k2
 obtain ⟨n3, t3, o3⟩ := k3
 obtain ⟨n4, t4, o4⟩ := k4
 simp only [c137, List.length_cons, List.length_nil, List.mapM_cons, List.mapM_nil, t1, t2, t3, t4, o1, o2, o3, o4, c3, List.drop_zero, List.drop_succ_cons, List.take_succ_cons, List.take_zero, q _ _ hi, q _ _ hm, q _ _ hl, q _ _ hh]
 rw [if_pos (by refine ⟨trivial, ?_⟩; simp [n1, n2, n3, n4])]
 rfl
theorem keyLits_state (P : Program) (h3 : P.underlying 3 = some (.int .i64)) (c3 : P.cellsOf 3 = 1) (c137 : P.cellsOf 137 = 4) (g1 g2 g3 g4 : Field) (hu : P.underlying 137 = some (.struct #[g1, g2, g3, g4]))
  (k1 : g1.name = "cell" ∧ g1.type = 3 ∧ g1.offset = 0) (k2 : g2.name = "many" ∧ g2.type = 3 ∧ g2.offset = 1) (k3 : g3.name = "low" ∧ g3.type = 3 ∧ g3.offset = 2) (k4 : g4.name = "high" ∧ g4.type = 3 ∧ g4.offset = 3)
  (c139 : P.cellsOf 139 = 6) (f1 f2 f3 : Field) (hs : P.underlying 139 = some (.struct #[f1, f2, f3])) (j1 : f1.name = "spot" ∧ f1.type = 137 ∧ f1.offset = 0) (j2 : f2.name = "words" ∧ f2.type = 3 ∧ f2.offset = 4) (j3 : f3.name = "form" ∧ f3.type = 3 ∧ f3.offset = 5)
  (d : Nat) (i m l h k f : Int) (hi : w64 i) (hm : w64 m) (hl : w64 l) (hh : w64 h) (hk : w64 k) (hf : w64 f) : P.keyLits (d + 1 + 1 + 1) 139 [.int .i64 i, .int .i64 m, .int .i64 l, .int .i64 h, .int .i64 k, .int .i64 f] = some [.int .i64 i, .int .i64 m, .int .i64 l, .int .i64 h, .int .i64 k, .int .i64 f] := by
 have q := keyLits_int P h3
 have r := keyLits_spot P h3 c3 c137 g1 g2 g3 g4 hu k1 k2 k3 k4 d i m l h hi hm hl hh
 unfold Program.keyLits
 rw [hs]
 obtain ⟨n1, t1, o1⟩ := j1
 obtain ⟨n2, t2, o2⟩ := j2
 obtain ⟨n3, t3, o3⟩ := j3
 simp only [c139, c137, List.length_cons, List.length_nil, List.mapM_cons, List.mapM_nil, t1, t2, t3, o1, o2, o3, c3, List.drop_zero, List.drop_succ_cons, List.take_succ_cons, List.take_zero, r, q _ _ hk, q _ _ hf]
 rw [if_pos (by refine ⟨trivial, ?_⟩; simp [n1, n2, n3])]
 rfl
theorem keyOf_state (i m l h k f : Int) (hi : w64 i) (hm : w64 m) (hl : w64 l) (hh : w64 h) (hk : w64 k) (hf : w64 f) : ∃ t, keyOf Try.prog 139 (stV i m l h k f) = some t := by
 have hs : Try.prog.types.size + 1 = Try.prog.types.size - 2 + 1 + 1 + 1 := by kernel_rfl
 have h3 := keyLits_state Try.prog Try.underlying3 (by kernel_rfl) (by kernel_rfl) _ _ _ _ Try.underlying137 ⟨rfl, rfl, rfl⟩ ⟨rfl, rfl, rfl⟩ ⟨rfl, rfl, rfl⟩ ⟨rfl, rfl, rfl⟩ (by kernel_rfl) _ _ _ Try.underlying139 ⟨rfl, rfl, rfl⟩ ⟨rfl, rfl, rfl⟩ ⟨rfl, rfl, rfl⟩ (Try.prog.types.size - 2) i m l h k f hi hm hl hh hk hf
 rw [← hs] at h3
 have h1 : Try.prog.keyType 139 = true := by kernel_rfl
 have h2 : (stV i m l h k f).formed Try.prog 139 = true := by kernel_rfl
 refine ⟨.string (keyBytes [.int .i64 i, .int .i64 m, .int .i64 l, .int .i64 h, .int .i64 k, .int .i64 f]), ?_⟩
 unfold keyOf
 rw [Try.underlying139]
 simp only [h1, h2, Bool.and_self, if_true]
 rw [show (stV i m l h k f).cells.toList = [.int .i64 i, .int .i64 m, .int .i64 l, .int .i64 h, .int .i64 k, .int .i64 f] from rfl, h3]
 rfl
theorem keyLits_point (P : Program) (h3 : P.underlying 3 = some (.int .i64)) (c3 : P.cellsOf 3 = 1) (c139 : P.cellsOf 139 = 6) (c151 : P.cellsOf 151 = 8) (f1 f2 f3 : Field) (hs : P.underlying 151 = some (.struct #[f1, f2, f3])) (j1 : f1.name = "state" ∧ f1.type = 139 ∧ f1.offset = 0) (j2 : f2.name = "word" ∧ f2.type = 3 ∧ f2.offset = 6) (j3 : f3.name = "at" ∧ f3.type = 3 ∧ f3.offset = 7)
  (d : Nat) (i m l h k f w a : Int) (hw : w64 w) (ha : w64 a) (r : P.keyLits (d + 1 + 1 + 1) 139 [.int .i64 i, .int .i64 m, .int .i64 l, .int .i64 h, .int .i64 k, .int .i64 f] = some [.int .i64 i, .int .i64 m, .int .i64 l, .int .i64 h, .int .i64 k, .int .i64 f]) :
  P.keyLits (d + 1 + 1 + 1 + 1) 151 [.int .i64 i, .int .i64 m, .int .i64 l, .int .i64 h, .int .i64 k, .int .i64 f, .int .i64 w, .int .i64 a] = some [.int .i64 i, .int .i64 m, .int .i64 l, .int .i64 h, .int .i64 k, .int .i64 f, .int .i64 w, .int .i64 a] := by
 have q := keyLits_int P h3
 unfold Program.keyLits
 rw [hs]
 obtain ⟨n1, t1, o1⟩ := j1
 obtain ⟨n2, t2, o2⟩ := j2
 obtain ⟨n3, t3, o3⟩ := j3
 simp only [c151, c139, List.length_cons, List.length_nil, List.mapM_cons, List.mapM_nil, t1, t2, t3, o1, o2, o3, c3, List.drop_zero, List.drop_succ_cons, List.take_succ_cons, List.take_zero, r, q _ _ hw, q _ _ ha]
 rw [if_pos (by refine ⟨trivial, ?_⟩; simp [n1, n2, n3])]
 rfl
theorem keyOf_point (i m l h k f w a : Int) (hi : w64 i) (hm : w64 m) (hl : w64 l) (hh : w64 h) (hk : w64 k) (hf : w64 f) (hw : w64 w) (ha : w64 a) : ∃ t, keyOf Try.prog 151 (ptV i m l h k f w a) = some t := by
 have hs : Try.prog.types.size + 1 = Try.prog.types.size - 3 + 1 + 1 + 1 + 1 := by kernel_rfl
 have h4 := keyLits_state Try.prog Try.underlying3 (by kernel_rfl) (by kernel_rfl) _ _ _ _ Try.underlying137 ⟨rfl, rfl, rfl⟩ ⟨rfl, rfl, rfl⟩ ⟨rfl, rfl, rfl⟩ ⟨rfl, rfl, rfl⟩ (by kernel_rfl) _ _ _ Try.underlying139 ⟨rfl, rfl, rfl⟩ ⟨rfl, rfl, rfl⟩ ⟨rfl, rfl, rfl⟩ (Try.prog.types.size - 3) i m l h k f hi hm hl hh hk hf
 have h3 := keyLits_point Try.prog Try.underlying3 (by kernel_rfl) (by kernel_rfl) (by kernel_rfl) _ _ _ Try.underlying151 ⟨rfl, rfl, rfl⟩ ⟨rfl, rfl, rfl⟩ ⟨rfl, rfl, rfl⟩ (Try.prog.types.size - 3) i m l h k f w a hw ha h4
 rw [← hs] at h3
 have h1 : Try.prog.keyType 151 = true := by kernel_rfl
 have h2 : (ptV i m l h k f w a).formed Try.prog 151 = true := by kernel_rfl
 refine ⟨.string (keyBytes [.int .i64 i, .int .i64 m, .int .i64 l, .int .i64 h, .int .i64 k, .int .i64 f, .int .i64 w, .int .i64 a]), ?_⟩
 unfold keyOf
 rw [Try.underlying151]
 simp only [h1, h2, Bool.and_self, if_true]
 rw [show (ptV i m l h k f w a).cells.toList = [.int .i64 i, .int .i64 m, .int .i64 l, .int .i64 h, .int .i64 k, .int .i64 f, .int .i64 w, .int .i64 a] from rfl, h3]
 rfl
section
variable {P : Program}
def MemoAt (P : Program) (K : TypeId) (Φ : Value → Value → Prop) (W : World) (mb : Nat) : Prop :=
 ∃ es clock, W.heap[mb]? = some (.map es clock) ∧ ∀ e ∈ es.toList, (∃ l, keyOf P K e.key = some l) ∧ Φ e.key e.val
def MemoHas (W : World) (mb : Nat) (key : Value) : Prop := ∃ es clock, W.heap[mb]? = some (.map es clock) ∧ ∃ e ∈ es.toList, e.key = key
theorem MemoAt.new (K : TypeId) (Φ : Value → Value → Prop) (W : World) : MemoAt P K Φ (W.alloc (.map #[] 0)) W.heap.size := ⟨#[], 0, blk_new W _, by simp⟩
theorem MemoAt.keep {K : TypeId} {Φ : Value → Value → Prop} {W W' : World} {mb : Nat} (h : MemoAt P K Φ W mb) (hb : W'.heap[mb]? = W.heap[mb]?) : MemoAt P K Φ W' mb := by
 obtain ⟨es, c, h1, h2⟩ := h
 exact ⟨es, c, hb.trans h1, h2⟩
theorem MemoAt.look {K T E : TypeId} {Φ : Value → Value → Prop} {W : World} {mb : Nat} (h : MemoAt P K Φ W mb) (law : Keyed P K) (hT : P.underlying T = some (.map K E)) {z : Value} (hz : (zeroValue E).run P W = .ok z W) {key : Value} {l : Lit} (hk : keyOf P K key = some l) :
  ∃ v b, (∀ c : Bool, (Instr.lookup T (.map (some mb)) key c).run P W = .ok (if c = true then .tuple #[v, .bool b] else v) W) ∧ ((b = true ∧ Φ key v ∧ MemoHas W mb key) ∨ (b = false ∧ v = z ∧ ¬ MemoHas W mb key)) := by
 obtain ⟨es, ck, hb, hes⟩ := h
 have hchk := fun em => law.check W em hk
 have hg : (getObj mb).run P W = .ok (.map es ck) W := by simp [getObj, Sem.run, hb]
 rcases law.find W hk es.toList (fun e he => (hes e he).1) with ⟨hf, hno⟩ | ⟨j, e, hf, hj, hek⟩
 ·refine ⟨z, false, fun c => ?_, .inr ⟨rfl, rfl, ?_⟩⟩
  ·simp [Instr.lookup, run_underlying hT, Sem.run_bind, hg, hchk, hf, hz, Result.andThen]
  ·rintro ⟨es', c', hb', e, he, hke⟩
   rw [hb] at hb'
   cases hb'
   exact hno e he hke
 ·have hmem : e ∈ es.toList := List.mem_of_getElem? hj
  refine ⟨e.val, true, fun c => ?_, .inl ⟨rfl, hek ▸ (hes e hmem).2, ⟨es, ck, hb, e, hmem, hek⟩⟩⟩
  simp [Instr.lookup, run_underlying hT, Sem.run_bind, hg, hchk, hf, Result.andThen]
theorem MemoAt.update {K T E : TypeId} {Φ : Value → Value → Prop} {W : World} {mb : Nat} (h : MemoAt P K Φ W mb) (law : Keyed P K) (hT : P.underlying T = some (.map K E)) {key val : Value} {l : Lit} (hk : keyOf P K key = some l) (hv : Φ key val) :
  ∃ o, (Instr.mapUpdate T (.map (some mb)) key val).run P W = .ok () (W.putObj mb o) ∧ MemoAt P K Φ (W.putObj mb o) mb ∧ MemoHas (W.putObj mb o) mb key ∧ (∀ k', MemoHas W mb k' → MemoHas (W.putObj mb o) mb k') := by
 obtain ⟨es, ck, hb, hes⟩ := h
 have hchk := law.check W false hk
 have hg : (getObj mb).run P W = .ok (.map es ck) W := by simp [getObj, Sem.run, hb]
 have hlt : mb < W.heap.size := (Array.getElem?_eq_some_iff.1 hb).1
 have hset : ∀ o, (setObj mb o).run P W = .ok () (W.putObj mb o) := fun o => by simp [setObj, Sem.run, hb, World.putObj]
 rcases law.find W hk es.toList (fun e he => (hes e he).1) with ⟨hf, hno⟩ | ⟨j, e, hf, hj, hek⟩
 ·refine ⟨.map (es.push { key, val, born := ck }) (ck + 1), ?_, ⟨_, _, World.putObj_heap_same hlt, ?_⟩, ⟨_, _, World.putObj_heap_same hlt, { key, val, born := ck }, by simp, rfl⟩, ?_⟩
  ·simp [Instr.mapUpdate, run_underlying hT, Sem.run_bind, hg, hchk, hf, hset, Result.andThen]
  ·intro e he
   simp only [Array.toList_push, List.mem_append, List.mem_singleton] at he
   rcases he with he | rfl
   ·exact hes e he
   ·exact ⟨⟨l, hk⟩, hv⟩
  ·rintro k' ⟨es', c', hb', e, he, hke⟩
   rw [hb] at hb'
   cases hb'
   exact ⟨_, _, World.putObj_heap_same hlt, e, by simp only [Array.toList_push, List.mem_append]; exact .inl he, hke⟩
 ·have hst : (Instr.keyThatStays e.key key).run P W = .ok key W := by rw [hek]; exact law.stays W hk
  have hj' : es[j]? = some e := by simpa using hj
  have hjl : j < es.size := (Array.getElem?_eq_some_iff.1 hj').1
  refine ⟨.map (es.modify j fun e => { e with key, val }) ck, ?_, ⟨_, _, World.putObj_heap_same hlt, ?_⟩, ⟨_, _, World.putObj_heap_same hlt, { e with key, val }, ?_, rfl⟩, ?_⟩
  ·simp [Instr.mapUpdate, run_underlying hT, Sem.run_bind, hg, hchk, hf, hj', hst, hset, Result.andThen]
  ·intro x hx
   obtain ⟨i, hi⟩ := List.getElem?_of_mem hx
   rw [Array.getElem?_toList, Array.getElem?_modify] at hi
   split at hi
   ·rw [Option.map_eq_some_iff] at hi
    obtain ⟨y, _, rfl⟩ := hi
    exact ⟨⟨l, hk⟩, hv⟩
   ·exact hes x (List.mem_of_getElem? (by rw [Array.getElem?_toList]; exact hi))
  ·refine List.mem_of_getElem? (i := j) ?_
   rw [Array.getElem?_toList, Array.getElem?_modify, if_pos rfl, hj']
   rfl
  ·rintro k' ⟨es', c', hb', x, hx, hke⟩
   rw [hb] at hb'
   cases hb'
   obtain ⟨i, hi⟩ := List.getElem?_of_mem hx
   rw [Array.getElem?_toList] at hi
   by_cases hij : j = i
   ·subst hij
    rw [hj'] at hi
    cases hi
    refine ⟨_, _, World.putObj_heap_same hlt, { e with key, val }, List.mem_of_getElem? (i := j) ?_, ?_⟩
    ·rw [Array.getElem?_toList, Array.getElem?_modify, if_pos rfl, hj']
     rfl
    ·show key = k'
     rw [← hke, hek]
   ·refine ⟨_, _, World.putObj_heap_same hlt, x, List.mem_of_getElem? (i := i) ?_, hke⟩
    rw [Array.getElem?_toList, Array.getElem?_modify, if_neg hij]
    exact hi
end
end Go.Proofs.Ytkfebceainedfaa.P.OwnGap
