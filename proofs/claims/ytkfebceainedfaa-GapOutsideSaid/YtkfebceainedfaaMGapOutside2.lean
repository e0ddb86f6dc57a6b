/- Lemmas for the statement GapOutside of the given program, for every input that its row lets in. Conditions: none beyond those that each lemma tells. -/
import Derived.Laws.Shifts
import Derived.WalkKit
import Derived.Test.YtkfebceainedfaaProg
import Derived.Below
import Derived.Deep.Draws
import Derived.Deep.AppendLies
import Derived.Maps.AppendAt
import Derived.OwnWalk
import Derived.Laws.BytesArg
import Derived.Laws.MakeOwn
import Derived.Laws.OwnMore
import Derived.Deep.OwnRows
import Derived.Tactics
import Derived.Lib.ConvBytes
import Derived.Laws.Slices
import Derived.KernelRfl
import Derived.RowKit3
import Derived.Deep.LoopGhost
import Derived.Deep.QuietTactic
import Derived.BigQuiet
import Derived.WideLaws
import Derived.Deep.DeepCutAuto
import Derived.Deep.CutBlock
import Derived.Deep.RegionHeld3
import Derived.Laws.Rows
import Derived.Lib.AppendStr
import Derived.ArgAppend
import Derived.Laws.IdiomCopy
import Derived.OrdersHeld
import Derived.Laws.BitsLemmas
import Derived.RowKit
import Derived.Lib.SplitLaws
import Derived.Lib.Hide
import Derived.BigRegion
import Derived.WalkSpells
import Derived.Deep.CutRange
import Derived.Shelf.Strings.Builder1
import Derived.Ground.Names2Prog
import Derived.Deep.RegionWith
import Derived.Deep.RegionLaw
import Derived.Shelf.Abstract
import Derived.DeepKeys4
import Derived.Maps.Own
import Derived.RangeFuncRecord
import Derived.Test.YtkfebceainedfaaMGapOutside1
set_option linter.unusedVariables false
set_option linter.unusedSimpArgs false
namespace Go.Proofs.Ytkfebceainedfaa.OFix
open Go.RowKit
theorem cell_set_map (W : World) (p : Addr) (v : Value) : (W.setCell p v).cell? p = (W.cell? p).map fun _ => v := by
 unfold World.setCell World.cell?
 simp only [Array.getElem?_modify, if_true]
 cases ho : W.heap[p.block]? with
 | none => rfl
 | some o =>
  cases o with
  | cells c e fr =>
   by_cases hs : p.spot.isSome = true
   ·simp [hs]
   ·simp only [Option.map_some, hs, Bool.false_eq_true, if_false]
    by_cases ho2 : p.off < c.size
    ·simp [ho2]
    ·simp [ho2]
  | _ => rfl
theorem shr_mod (k yk : IntKind) (x y : Int) : Op.shift .shr k x yk (y % 256) = pure (.int k (x / 2 ^ min (y % 256).toNat k.bits)) := shift_shr_any k yk x _ (by omega)
theorem shl_mod (k yk : IntKind) (x y : Int) : Op.shift .shl k x yk (y % 256) = pure (.int k (k.wrap (x * 2 ^ min (y % 256).toNat k.bits))) := shift_shl_any k yk x _ (by omega)
theorem ne_nil_b (l : List UInt8) : (l != []) = !l.isEmpty := by cases l <;> rfl
attribute [go_sem] cell_set_map shr_mod shl_mod
end Go.Proofs.Ytkfebceainedfaa.OFix
namespace Go.Proofs.Ytkfebceainedfaa.P
open Go.RowKit Go.Proofs.YtkfebceainedfaaW.PrintWords Go.Proofs.YtkfebceainedfaaW.PrintLast Go.Proofs.YtkfebceainedfaaW.PrintMore
attribute [local go_sem] max2_int min2_int max_two min_two max_three min_three max_four min_four   -- for this text's walks alone
set_option linter.unusedVariables false
set_option linter.unusedSimpArgs false
def errW : Option Int → Value
 | none => .nilIface
 | some c => .iface 0 (.int .i64 c)
theorem errW_none : errW none = .nilIface := rfl
theorem errW_some (c : Int) : errW (some c) = .iface 0 (.int .i64 c) := rfl
theorem info3 : (Try.prog.info? 3).map (fun i => (i.zero, i.size, i.bytes)) = some (some (.int .i64 0), 1, 8) := by kernel_rfl
theorem info9 : (Try.prog.info? 9).map (fun i => (i.zero, i.size, i.bytes)) = some (some (.string ⟨#[]⟩), 1, 16) := by kernel_rfl
theorem info49 : (Try.prog.info? 49).map (fun i => (i.zero, i.size, i.bytes)) = some (some (.agg #[(.string ⟨#[]⟩), (.bool false), (.int .i64 0), (.int .i64 0)]), 4, 40) := by kernel_rfl
theorem info53 : (Try.prog.info? 53).map (fun i => (i.zero, i.size, i.bytes)) = some (some (.agg #[(.string ⟨#[]⟩), (.int .i64 0)]), 2, 24) := by kernel_rfl
theorem info60 : (Try.prog.info? 60).map (fun i => (i.zero, i.size, i.bytes)) = some (some (.agg #[(.string ⟨#[]⟩), (.string ⟨#[]⟩), (.string ⟨#[]⟩), (.int .i64 0), (.int .i64 0)]), 5, 64) := by kernel_rfl
def rd_L1 (xs : List (List Bool)) (i : Int) : (List Bool) := xs.getD i.toNat ([] : List Bool)
theorem at_L1 {w : World} {A : Option Addr} {n : Nat} {xs : List (List Bool)} (h : Kd.C (Kd.slice 4 Kd.bool) w A n xs) (i : Int) (h0 : 0 ≤ i) (h1 : i < n) : ∃ ad A0 c0, A = some ad ∧ w.cell? (ad.add i.toNat) = some (.slice A0 (rd_L1 xs i).length c0) ∧ (rd_L1 xs i).length ≤ c0 ∧ Kd.bool.C w A0 (rd_L1 xs i).length (rd_L1 xs i) := by
 obtain ⟨ad, c, e, _, hK, hc0⟩ := Kd.C_get h ([] : List Bool) i h0 h1
 have hc : ∀ j u, c[j]? = some u → w.cell? (ad.add (i.toNat * 1 + j)) = some u := hc0
 obtain ⟨A0, c0, rfl, l0, g0⟩ := hK
 exact ⟨ad, A0, c0, e, by have hq := hc 0 _ rfl; rwa [Nat.mul_one, Nat.add_zero] at hq, l0, g0⟩
structure S53 where
 f0 : ByteArray
 f1 : Int
def z53 : S53 := ⟨(⟨#[]⟩ : ByteArray), (0 : Int)⟩
def k53 : Kd S53 := Kd.iso (Kd.pair Kd.string (Kd.int .i64)) (fun x : S53 => (x.f0, x.f1))
theorem k53_open {w : World} {x : S53} {cs : List Value} (h : k53.K w x cs) : cs = [.string x.f0, .int .i64 x.f1] := by
 obtain ⟨_, _, rfl, rfl, rfl⟩ := h
 exact rfl
theorem k53_mk (w : World) (x : S53)  : k53.K w x [.string x.f0, .int .i64 x.f1] := ⟨[.string x.f0], [.int .i64 x.f1], rfl, rfl, rfl⟩
theorem k53_mkM (w : World) (base : Nat) (ok : Nat → Prop) (x : S53)  : k53.M w base ok x [.string x.f0, .int .i64 x.f1] := ⟨[.string x.f0], [.int .i64 x.f1], rfl, rfl, rfl⟩
def rd_T53 (xs : List S53) (i : Int) : S53 := xs.getD i.toNat z53
theorem at_T53 {w : World} {A : Option Addr} {n : Nat} {xs : List S53} (h : Kd.C k53 w A n xs) (i : Int) (h0 : 0 ≤ i) (h1 : i < n) : ∃ ad , A = some ad ∧ w.cell? (ad.add (i.toNat * 2)) = some (.string (rd_T53 xs i).f0) ∧ w.cell? ⟨(ad.add (i.toNat * 2)).block, (ad.add (i.toNat * 2)).off + 1, none⟩ = some (.int .i64 (rd_T53 xs i).f1) := by
 obtain ⟨ad, c, e, _, hK, hc0⟩ := Kd.C_get h z53 i h0 h1
 have hc : ∀ j u, c[j]? = some u → w.cell? (ad.add (i.toNat * 2 + j)) = some u := hc0
 obtain rfl := k53_open hK
 exact ⟨ad, e, hc 0 _ rfl, by rw [← add_field _ _ 1 (by omega)]; exact hc 1 _ rfl⟩
structure S47 where
 f0 : Int
 f1 : Int
def z47 : S47 := ⟨(0 : Int), (0 : Int)⟩
def k47 : Kd S47 := Kd.iso (Kd.pair (Kd.int .i64) (Kd.int .i64)) (fun x : S47 => (x.f0, x.f1))
theorem k47_open {w : World} {x : S47} {cs : List Value} (h : k47.K w x cs) : cs = [.int .i64 x.f0, .int .i64 x.f1] := by
 obtain ⟨_, _, rfl, rfl, rfl⟩ := h
 exact rfl
theorem k47_mk (w : World) (x : S47)  : k47.K w x [.int .i64 x.f0, .int .i64 x.f1] := ⟨[.int .i64 x.f0], [.int .i64 x.f1], rfl, rfl, rfl⟩
theorem k47_mkM (w : World) (base : Nat) (ok : Nat → Prop) (x : S47)  : k47.M w base ok x [.int .i64 x.f0, .int .i64 x.f1] := ⟨[.int .i64 x.f0], [.int .i64 x.f1], rfl, rfl, rfl⟩
def rd_T47 (xs : List S47) (i : Int) : S47 := xs.getD i.toNat z47
theorem at_T47 {w : World} {A : Option Addr} {n : Nat} {xs : List S47} (h : Kd.C k47 w A n xs) (i : Int) (h0 : 0 ≤ i) (h1 : i < n) : ∃ ad , A = some ad ∧ w.cell? (ad.add (i.toNat * 2)) = some (.int .i64 (rd_T47 xs i).f0) ∧ w.cell? ⟨(ad.add (i.toNat * 2)).block, (ad.add (i.toNat * 2)).off + 1, none⟩ = some (.int .i64 (rd_T47 xs i).f1) := by
 obtain ⟨ad, c, e, _, hK, hc0⟩ := Kd.C_get h z47 i h0 h1
 have hc : ∀ j u, c[j]? = some u → w.cell? (ad.add (i.toNat * 2 + j)) = some u := hc0
 obtain rfl := k47_open hK
 exact ⟨ad, e, hc 0 _ rfl, by rw [← add_field _ _ 1 (by omega)]; exact hc 1 _ rfl⟩
structure S49 where
 f0 : ByteArray
 f1 : Bool
 f2 : S47
def z49 : S49 := ⟨(⟨#[]⟩ : ByteArray), false, z47⟩
def k49 : Kd S49 := Kd.iso (Kd.pair Kd.string (Kd.pair Kd.bool k47)) (fun x : S49 => (x.f0, x.f1, x.f2))
theorem k49_open {w : World} {x : S49} {cs : List Value} (h : k49.K w x cs) : cs = [.string x.f0, .bool x.f1, .int .i64 x.f2.f0, .int .i64 x.f2.f1] := by
 obtain ⟨_, _, rfl, rfl, ⟨_, _, rfl, rfl, s2⟩⟩ := h
 obtain rfl := k47_open s2
 exact rfl
theorem k49_mkM (w : World) (base : Nat) (ok : Nat → Prop) (x : S49)  : k49.M w base ok x [.string x.f0, .bool x.f1, .int .i64 x.f2.f0, .int .i64 x.f2.f1] := ⟨[.string x.f0], [.bool x.f1, .int .i64 x.f2.f0, .int .i64 x.f2.f1], rfl, rfl, ⟨[.bool x.f1], [.int .i64 x.f2.f0, .int .i64 x.f2.f1], rfl, rfl, (k47_mkM w base ok x.f2 )⟩⟩
def rd_T49 (xs : List S49) (i : Int) : S49 := xs.getD i.toNat z49
theorem at_T49 {w : World} {A : Option Addr} {n : Nat} {xs : List S49} (h : Kd.C k49 w A n xs) (i : Int) (h0 : 0 ≤ i) (h1 : i < n) : ∃ ad , A = some ad ∧ w.cell? (ad.add (i.toNat * 4)) = some (.string (rd_T49 xs i).f0) ∧ w.cell? ⟨(ad.add (i.toNat * 4)).block, (ad.add (i.toNat * 4)).off + 1, none⟩ = some (.bool (rd_T49 xs i).f1) ∧ w.cell? ⟨(ad.add (i.toNat * 4)).block, (ad.add (i.toNat * 4)).off + 2, none⟩ = some (.int .i64 (rd_T49 xs i).f2.f0) ∧ w.cell? ⟨(ad.add (i.toNat * 4)).block, (ad.add (i.toNat * 4)).off + 3, none⟩ = some (.int .i64 (rd_T49 xs i).f2.f1) := by
 obtain ⟨ad, c, e, _, hK, hc0⟩ := Kd.C_get h z49 i h0 h1
 have hc : ∀ j u, c[j]? = some u → w.cell? (ad.add (i.toNat * 4 + j)) = some u := hc0
 obtain rfl := k49_open hK
 exact ⟨ad, e, hc 0 _ rfl, by rw [← add_field _ _ 1 (by omega)]; exact hc 1 _ rfl, by rw [← add_field _ _ 2 (by omega)]; exact hc 2 _ rfl, by rw [← add_field _ _ 3 (by omega)]; exact hc 3 _ rfl⟩
structure S31 where
 f0 : (List Int)
 f1 : (List Int)
def z31 : S31 := ⟨([] : List Int), ([] : List Int)⟩
def k31 : Kd S31 := Kd.iso (Kd.pair (Kd.slice 3 (Kd.int .i64)) (Kd.slice 3 (Kd.int .i64))) (fun x : S31 => (x.f0, x.f1))
theorem k31_open {w : World} {x : S31} {cs : List Value} (h : k31.K w x cs) : ∃ A0 c0 A1 c1, cs = [.slice A0 x.f0.length c0, .slice A1 x.f1.length c1] ∧ x.f0.length ≤ c0 ∧ (Kd.int .i64).C w A0 x.f0.length x.f0 ∧ x.f1.length ≤ c1 ∧ (Kd.int .i64).C w A1 x.f1.length x.f1 := by
 obtain ⟨_, _, rfl, ⟨A0, c0, rfl, l0, g0⟩, ⟨A1, c1, rfl, l1, g1⟩⟩ := h
 exact ⟨A0, c0, A1, c1, rfl, l0, g0, l1, g1⟩
theorem k31_mk (w : World) (x : S31) {A0 : Option Addr} {c0 : Nat} (l0 : x.f0.length ≤ c0) (g0 : (Kd.int .i64).C w A0 x.f0.length x.f0) {A1 : Option Addr} {c1 : Nat} (l1 : x.f1.length ≤ c1) (g1 : (Kd.int .i64).C w A1 x.f1.length x.f1) : k31.K w x [.slice A0 x.f0.length c0, .slice A1 x.f1.length c1] := ⟨[.slice A0 x.f0.length c0], [.slice A1 x.f1.length c1], rfl, ⟨A0, c0, rfl, l0, g0⟩, ⟨A1, c1, rfl, l1, g1⟩⟩
theorem k31_mkM (w : World) (base : Nat) (ok : Nat → Prop) (x : S31) {v0 : Value} (g0 : (Kd.int .i64).R 3 w base ok v0 x.f0) {v1 : Value} (g1 : (Kd.int .i64).R 3 w base ok v1 x.f1) : k31.M w base ok x [v0, v1] := ⟨[v0], [v1], rfl, ⟨v0, rfl, g0⟩, ⟨v1, rfl, g1⟩⟩
def rd_T31 (xs : List S31) (i : Int) : S31 := xs.getD i.toNat z31
theorem at_T31 {w : World} {A : Option Addr} {n : Nat} {xs : List S31} (h : Kd.C k31 w A n xs) (i : Int) (h0 : 0 ≤ i) (h1 : i < n) : ∃ ad A0 c0 A1 c1, A = some ad ∧ w.cell? (ad.add (i.toNat * 2)) = some (.slice A0 (rd_T31 xs i).f0.length c0) ∧ w.cell? ⟨(ad.add (i.toNat * 2)).block, (ad.add (i.toNat * 2)).off + 1, none⟩ = some (.slice A1 (rd_T31 xs i).f1.length c1) ∧ (rd_T31 xs i).f0.length ≤ c0 ∧ (Kd.int .i64).C w A0 (rd_T31 xs i).f0.length (rd_T31 xs i).f0 ∧ (rd_T31 xs i).f1.length ≤ c1 ∧ (Kd.int .i64).C w A1 (rd_T31 xs i).f1.length (rd_T31 xs i).f1 := by
 obtain ⟨ad, c, e, _, hK, hc0⟩ := Kd.C_get h z31 i h0 h1
 have hc : ∀ j u, c[j]? = some u → w.cell? (ad.add (i.toNat * 2 + j)) = some u := hc0
 obtain ⟨A0, c0, A1, c1, rfl, l0, g0, l1, g1⟩ := k31_open hK
 exact ⟨ad, A0, c0, A1, c1, e, hc 0 _ rfl, by rw [← add_field _ _ 1 (by omega)]; exact hc 1 _ rfl, l0, g0, l1, g1⟩
structure S60 where
 f0 : ByteArray
 f1 : ByteArray
 f2 : ByteArray
 f3 : S47
def z60 : S60 := ⟨(⟨#[]⟩ : ByteArray), (⟨#[]⟩ : ByteArray), (⟨#[]⟩ : ByteArray), z47⟩
def k60 : Kd S60 := Kd.iso (Kd.pair Kd.string (Kd.pair Kd.string (Kd.pair Kd.string k47))) (fun x : S60 => (x.f0, x.f1, x.f2, x.f3))
theorem k60_open {w : World} {x : S60} {cs : List Value} (h : k60.K w x cs) : cs = [.string x.f0, .string x.f1, .string x.f2, .int .i64 x.f3.f0, .int .i64 x.f3.f1] := by
 obtain ⟨_, _, rfl, rfl, ⟨_, _, rfl, rfl, ⟨_, _, rfl, rfl, s3⟩⟩⟩ := h
 obtain rfl := k47_open s3
 exact rfl
theorem k60_mk (w : World) (x : S60)  : k60.K w x [.string x.f0, .string x.f1, .string x.f2, .int .i64 x.f3.f0, .int .i64 x.f3.f1] := ⟨[.string x.f0], [.string x.f1, .string x.f2, .int .i64 x.f3.f0, .int .i64 x.f3.f1], rfl, rfl, ⟨[.string x.f1], [.string x.f2, .int .i64 x.f3.f0, .int .i64 x.f3.f1], rfl, rfl, ⟨[.string x.f2], [.int .i64 x.f3.f0, .int .i64 x.f3.f1], rfl, rfl, (k47_mk w x.f3 )⟩⟩⟩
theorem k60_mkM (w : World) (base : Nat) (ok : Nat → Prop) (x : S60)  : k60.M w base ok x [.string x.f0, .string x.f1, .string x.f2, .int .i64 x.f3.f0, .int .i64 x.f3.f1] := ⟨[.string x.f0], [.string x.f1, .string x.f2, .int .i64 x.f3.f0, .int .i64 x.f3.f1], rfl, rfl, ⟨[.string x.f1], [.string x.f2, .int .i64 x.f3.f0, .int .i64 x.f3.f1], rfl, rfl, ⟨[.string x.f2], [.int .i64 x.f3.f0, .int .i64 x.f3.f1], rfl, rfl, (k47_mkM w base ok x.f3 )⟩⟩⟩
def rd_T60 (xs : List S60) (i : Int) : S60 := xs.getD i.toNat z60
theorem at_T60 {w : World} {A : Option Addr} {n : Nat} {xs : List S60} (h : Kd.C k60 w A n xs) (i : Int) (h0 : 0 ≤ i) (h1 : i < n) : ∃ ad , A = some ad ∧ w.cell? (ad.add (i.toNat * 5)) = some (.string (rd_T60 xs i).f0) ∧ w.cell? ⟨(ad.add (i.toNat * 5)).block, (ad.add (i.toNat * 5)).off + 1, none⟩ = some (.string (rd_T60 xs i).f1) ∧ w.cell? ⟨(ad.add (i.toNat * 5)).block, (ad.add (i.toNat * 5)).off + 2, none⟩ = some (.string (rd_T60 xs i).f2) ∧ w.cell? ⟨(ad.add (i.toNat * 5)).block, (ad.add (i.toNat * 5)).off + 3, none⟩ = some (.int .i64 (rd_T60 xs i).f3.f0) ∧ w.cell? ⟨(ad.add (i.toNat * 5)).block, (ad.add (i.toNat * 5)).off + 4, none⟩ = some (.int .i64 (rd_T60 xs i).f3.f1) := by
 obtain ⟨ad, c, e, _, hK, hc0⟩ := Kd.C_get h z60 i h0 h1
 have hc : ∀ j u, c[j]? = some u → w.cell? (ad.add (i.toNat * 5 + j)) = some u := hc0
 obtain rfl := k60_open hK
 exact ⟨ad, e, hc 0 _ rfl, by rw [← add_field _ _ 1 (by omega)]; exact hc 1 _ rfl, by rw [← add_field _ _ 2 (by omega)]; exact hc 2 _ rfl, by rw [← add_field _ _ 3 (by omega)]; exact hc 3 _ rfl, by rw [← add_field _ _ 4 (by omega)]; exact hc 4 _ rfl⟩
end Go.Proofs.Ytkfebceainedfaa.P
namespace Go.Proofs.Ytkfebceainedfaa.P
open Go.RowKit Go.Proofs.YtkfebceainedfaaW.PrintWords Go.Proofs.YtkfebceainedfaaW.PrintLast Go.Proofs.YtkfebceainedfaaW.PrintMore
attribute [local go_sem] max2_int min2_int max_two min_two max_three min_three max_four min_four   -- for this text's walks alone
set_option linter.unusedVariables false
set_option linter.unusedSimpArgs false
def IsS83 (w0 W : World) (g : Nat) (f0 : Int) (f1 : Int) : Prop := W.heap[g]? = some (.cells #[.int .u64 f0, .int .u64 f1] 83 (0, 0)) ∧ w0.heap.size ≤ g
theorem IsS83.grown {w0 W : World} {g : Nat} {f0 : Int} {f1 : Int} {W1 : World} {row : Option Nat} (h : IsS83 w0 W g f0 f1) (hw : W.grownBy W1 row) (hne : some g ≠ row) : IsS83 w0 W1 g f0 f1 := by
 obtain ⟨hb, hg⟩ := h
 exact ⟨blk_grown hb hw hne, hg⟩
theorem IsS83.kept {w0 W : World} {g : Nat} {f0 : Int} {f1 : Int} {W1 : World} {S : Nat → Prop} (h : IsS83 w0 W g f0 f1) (hk : Kept W W1 S) (hne : ¬ S g) : IsS83 w0 W1 g f0 f1 := by
 obtain ⟨hb, hg⟩ := h
 exact ⟨blk_kept hb hk hne, hg⟩
theorem IsS83.below {w0 W : World} {g : Nat} {f0 : Int} {f1 : Int} {W1 : World} (h : IsS83 w0 W g f0 f1) (hw : Below W.heap.size W W1) : IsS83 w0 W1 g f0 f1 := h.grown (grown_of_below hw none) (by simp)
theorem IsS83.alloc {w0 W : World} {g : Nat} {f0 : Int} {f1 : Int} (h : IsS83 w0 W g f0 f1) (o : Obj) : IsS83 w0 (W.alloc o) g f0 f1 := h.below (below_alloc (Below.refl _ _) o)
theorem IsS83.drewN {w0 W : World} {g : Nat} {f0 : Int} {f1 : Int} (h : IsS83 w0 W g f0 f1) (m : Nat) : IsS83 w0 (W.drewN m) g f0 f1 := h
theorem IsS83.drew {w0 W : World} {g : Nat} {f0 : Int} {f1 : Int} (h : IsS83 w0 W g f0 f1) : IsS83 w0 W.drew g f0 f1 := h
theorem IsS83.at_ {w0 W : World} {g : Nat} {f0 : Int} {f1 : Int} {w' : World} {m : Nat} (hq : W.drewN m = w') (h : IsS83 w0 W g f0 f1) : IsS83 w0 w' g f0 f1 := by subst hq; exact IsS83.drewN h m
theorem IsS83.apart {w0 W : World} {g : Nat} {f0 : Int} {f1 : Int} {α : Type} {d : Kd α} {e : Nat} {base : Nat} {ok : Nat → Prop} {v : Value} {xs : List α} (h : IsS83 w0 W g f0 f1) (ho : d.R e W base ok v xs) (ht : ∀ q, q ∈ e :: d.E → q ≠ 83) : d.R e W base (fun k => ok k ∧ k ≠ g) v xs := by
 obtain ⟨hb, hg⟩ := h
 exact Kd.R_types ho hb ht
theorem IsS83.own_ne {w0 W : World} {g : Nat} {f0 : Int} {f1 : Int} {α : Type} {d : Kd α} {e : Nat} {base : Nat} {ok : Nat → Prop} {v : Value} {xs : List α} (h : IsS83 w0 W g f0 f1) (ho : d.R e W base ok v xs) (ht : e ≠ 83) : some g ≠ v.ownBlock := by
 obtain ⟨hb, hg⟩ := h
 exact Kd.R_ne ho hb ht
theorem IsS83.lt {w0 W : World} {g : Nat} {f0 : Int} {f1 : Int} (h : IsS83 w0 W g f0 f1) : g < W.heap.size := by
 obtain ⟨hb, hg⟩ := h
 exact blk_lt hb
theorem IsS83.ge {w0 W : World} {g : Nat} {f0 : Int} {f1 : Int} (h : IsS83 w0 W g f0 f1) : w0.heap.size ≤ g := by
 obtain ⟨hb, hg⟩ := h
 exact hg
theorem IsS83.far {w0 W : World} {g : Nat} {f0 : Int} {f1 : Int} {p : Addr} (h : IsS83 w0 W g f0 f1) (hne : g ≠ p.block) (u : Value) : IsS83 w0 (W.setCell p u) g f0 f1 := by
 obtain ⟨hb, hg⟩ := h
 exact ⟨blk_far hb hne u, hg⟩
theorem cellS83_0 {W : World} {g : Nat} {f0 : Int} {f1 : Int} (h : W.heap[g]? = some (.cells #[.int .u64 f0, .int .u64 f1] 83 (0, 0))) : W.cell? ⟨g, 0, none⟩ = some (.int .u64 f0) := (blk_cell h 0).trans rfl
theorem IsS83.set_0 {w0 W : World} {g : Nat} {f0 : Int} {f1 : Int} (h : IsS83 w0 W g f0 f1) (x : Int) : IsS83 w0 (W.setCell ⟨g, 0, none⟩ (.int .u64 x)) g x f1 := by
 obtain ⟨hb, hg⟩ := h
 exact ⟨by simpa using blk_set hb 0 (.int .u64 x), hg⟩
theorem cellS83_1 {W : World} {g : Nat} {f0 : Int} {f1 : Int} (h : W.heap[g]? = some (.cells #[.int .u64 f0, .int .u64 f1] 83 (0, 0))) : W.cell? ⟨g, 1, none⟩ = some (.int .u64 f1) := (blk_cell h 1).trans rfl
theorem IsS83.set_1 {w0 W : World} {g : Nat} {f0 : Int} {f1 : Int} (h : IsS83 w0 W g f0 f1) (x : Int) : IsS83 w0 (W.setCell ⟨g, 1, none⟩ (.int .u64 x)) g f0 x := by
 obtain ⟨hb, hg⟩ := h
 exact ⟨by simpa using blk_set hb 1 (.int .u64 x), hg⟩
theorem IsS83.new (w0 W : World) (f0 : Int) (f1 : Int) (hB : Below w0.heap.size w0 W) : IsS83 w0 (W.alloc (.cells #[.int .u64 f0, .int .u64 f1] 83)) W.heap.size f0 f1 := ⟨by simpa using heap_alloc_new W _, hB.size⟩
def cippuskit_Urn_turn.f (s0_0 : Int) (s0_1 : Int) : Option (Int × Int × Int) := if (Go.bits .or .u64 s0_1 (Go.bits .xor .u64 (Go.bits .xor .u64 (Go.bits .xor .u64 (Go.bits .xor .u64 s0_0 (IntKind.u64.wrap (s0_0 * 8388608))) s0_1) ((Go.bits .xor .u64 s0_0 (IntKind.u64.wrap (s0_0 * 8388608))) / 131072)) (s0_1 / 67108864))) = 0 then (some (IntKind.u64.wrap (1 + s0_1), s0_1, 1)) else (some (IntKind.u64.wrap ((Go.bits .xor .u64 (Go.bits .xor .u64 (Go.bits .xor .u64 (Go.bits .xor .u64 s0_0 (IntKind.u64.wrap (s0_0 * 8388608))) s0_1) ((Go.bits .xor .u64 s0_0 (IntKind.u64.wrap (s0_0 * 8388608))) / 131072)) (s0_1 / 67108864)) + s0_1), s0_1, Go.bits .xor .u64 (Go.bits .xor .u64 (Go.bits .xor .u64 (Go.bits .xor .u64 s0_0 (IntKind.u64.wrap (s0_0 * 8388608))) s0_1) ((Go.bits .xor .u64 s0_0 (IntKind.u64.wrap (s0_0 * 8388608))) / 131072)) (s0_1 / 67108864)))
set_option maxHeartbeats 8000000 in
set_option maxRecDepth 100000 in
theorem cippuskit_Urn_turn.calls (g : Nat) (s0_0 : Int) (s0_1 : Int) (r1 : Int) (r2 : Int) (r3 : Int) (w0 w : World) (hI : IsS83 w0 w g s0_0 s0_1) (hB : Below w0.heap.size w0 w) (h : cippuskit_Urn_turn.f s0_0 s0_1 = some (r1, r2, r3)) :
  Calls Try.prog 41 #[.pointer (some ⟨g, 0, none⟩)] w fun e w' => e = .returned (.int .u64 r1) ∧ IsS83 w0 w' g r2 r3 ∧ Below w0.heap.size w0 w' ∧ KeepBut w w' g none := by
 have HI0 := Aside0.mk hI
 have HK := Aside0.mk (KeepBut.refl w g none)
 have HL := Aside0.mk hB.size
 clear hI
 have HW0 := Aside0.mk hB.size
 have HB := Aside0.mk hB
 clear hB
 have H : (if (Go.bits .or .u64 s0_1 (Go.bits .xor .u64 (Go.bits .xor .u64 (Go.bits .xor .u64 (Go.bits .xor .u64 s0_0 (IntKind.u64.wrap (s0_0 * 8388608))) s0_1) ((Go.bits .xor .u64 s0_0 (IntKind.u64.wrap (s0_0 * 8388608))) / 131072)) (s0_1 / 67108864))) = 0 then (some (IntKind.u64.wrap (1 + s0_1), s0_1, 1)) else (some (IntKind.u64.wrap ((Go.bits .xor .u64 (Go.bits .xor .u64 (Go.bits .xor .u64 (Go.bits .xor .u64 s0_0 (IntKind.u64.wrap (s0_0 * 8388608))) s0_1) ((Go.bits .xor .u64 s0_0 (IntKind.u64.wrap (s0_0 * 8388608))) / 131072)) (s0_1 / 67108864)) + s0_1), s0_1, Go.bits .xor .u64 (Go.bits .xor .u64 (Go.bits .xor .u64 (Go.bits .xor .u64 s0_0 (IntKind.u64.wrap (s0_0 * 8388608))) s0_1) ((Go.bits .xor .u64 s0_0 (IntKind.u64.wrap (s0_0 * 8388608))) / 131072)) (s0_1 / 67108864)))) = some (r1, r2, r3) := h
 clear h
 by_cases c2 : (Go.bits .or .u64 s0_1 (Go.bits .xor .u64 (Go.bits .xor .u64 (Go.bits .xor .u64 (Go.bits .xor .u64 s0_0 (IntKind.u64.wrap (s0_0 * 8388608))) s0_1) ((Go.bits .xor .u64 s0_0 (IntKind.u64.wrap (s0_0 * 8388608))) / 131072)) (s0_1 / 67108864))) = 0
 ·rw [if_pos c2] at H
  have c2b0 : ((Go.bits .or .u64 s0_1 (Go.bits .xor .u64 (Go.bits .xor .u64 (Go.bits .xor .u64 (Go.bits .xor .u64 s0_0 (IntKind.u64.wrap (s0_0 * 8388608))) s0_1) ((Go.bits .xor .u64 s0_0 (IntKind.u64.wrap (s0_0 * 8388608))) / 131072)) (s0_1 / 67108864))) == 0) = true := beq_iff_eq.mpr c2
  have c2b1 : ((Go.bits .or .u64 s0_1 (Go.bits .xor .u64 (Go.bits .xor .u64 (Go.bits .xor .u64 (Go.bits .xor .u64 s0_0 (IntKind.u64.wrap (s0_0 * 8388608))) s0_1) ((Go.bits .xor .u64 s0_0 (IntKind.u64.wrap (s0_0 * 8388608))) / 131072)) (s0_1 / 67108864))) != 0) = false := bne_eq_false_iff_eq.mpr c2
  clear c2
  simp only [Option.some.injEq, Prod.mk.injEq] at H
  obtain ⟨rfl, rfl, rfl⟩ := H
  obtain ⟨HGz3, hgz3⟩ := HI0.out
  have hcz3_0 := cellS83_0 HGz3
  have hcz3_1 := cellS83_1 HGz3
  have hfz3_0 := blk_frozen HGz3 0
  have hfz3_1 := blk_frozen HGz3 1
  clear HGz3 hgz3
  go_enter Try.func41, Try.ntmps41
  go_wp2
  repeat (go_quiet (fail); try go_wp2)
  go_ret
  exact ⟨by first | rfl | (simp [errW_none, errW_some] <;> rfl) | (simp [*, errW_none, errW_some] <;> rfl), by repeat (first | (with_reducible first | exact HI0.out | apply IsS83.alloc | apply IsS83.drewN | apply IsS83.drew | apply IsS83.set_0 | apply IsS83.set_1) | exact HI0.out), by repeat (first | (with_reducible first | exact HB.out | apply below_alloc | apply pw_below_drewN | apply below_drew1 | refine below_set ?_ (IsS83.ge HI0.out)) | exact HB.out), by repeat (first | (with_reducible first | exact HK.out | apply KeepBut.set_ | apply keep_drewN | apply keep_drew | apply keep_alloc) | exact HK.out)⟩
 ·rw [if_neg c2] at H
  have c2b0 : ((Go.bits .or .u64 s0_1 (Go.bits .xor .u64 (Go.bits .xor .u64 (Go.bits .xor .u64 (Go.bits .xor .u64 s0_0 (IntKind.u64.wrap (s0_0 * 8388608))) s0_1) ((Go.bits .xor .u64 s0_0 (IntKind.u64.wrap (s0_0 * 8388608))) / 131072)) (s0_1 / 67108864))) == 0) = false := beq_eq_false_iff_ne.mpr c2
  have c2b1 : ((Go.bits .or .u64 s0_1 (Go.bits .xor .u64 (Go.bits .xor .u64 (Go.bits .xor .u64 (Go.bits .xor .u64 s0_0 (IntKind.u64.wrap (s0_0 * 8388608))) s0_1) ((Go.bits .xor .u64 s0_0 (IntKind.u64.wrap (s0_0 * 8388608))) / 131072)) (s0_1 / 67108864))) != 0) = true := bne_iff_ne.mpr c2
  simp only [Option.some.injEq, Prod.mk.injEq] at H
  obtain ⟨rfl, rfl, rfl⟩ := H
  obtain ⟨HGz4, hgz4⟩ := HI0.out
  have hcz4_0 := cellS83_0 HGz4
  have hcz4_1 := cellS83_1 HGz4
  have hfz4_0 := blk_frozen HGz4 0
  have hfz4_1 := blk_frozen HGz4 1
  clear HGz4 hgz4
  go_enter Try.func41, Try.ntmps41
  go_wp2
  repeat (go_quiet (fail); try go_wp2)
  go_ret
  exact ⟨by first | rfl | (simp [errW_none, errW_some] <;> rfl) | (simp [*, errW_none, errW_some] <;> rfl), by repeat (first | (with_reducible first | exact HI0.out | apply IsS83.alloc | apply IsS83.drewN | apply IsS83.drew | apply IsS83.set_0 | apply IsS83.set_1) | exact HI0.out), by repeat (first | (with_reducible first | exact HB.out | apply below_alloc | apply pw_below_drewN | apply below_drew1 | refine below_set ?_ (IsS83.ge HI0.out)) | exact HB.out), by repeat (first | (with_reducible first | exact HK.out | apply KeepBut.set_ | apply keep_drewN | apply keep_drew | apply keep_alloc) | exact HK.out)⟩
end Go.Proofs.Ytkfebceainedfaa.P
namespace Go.Proofs.Ytkfebceainedfaa.P
open Go.RowKit Go.Proofs.YtkfebceainedfaaW.PrintWords Go.Proofs.YtkfebceainedfaaW.PrintLast Go.Proofs.YtkfebceainedfaaW.PrintMore
theorem uk {W W' : World} {g : Nat} {o : Obj} (h : Aside0 (W.heap[g]? = some o)) (t : Aside0 (W.heap[g]? = some o) → W'.heap[g]? = some o := by intro z; (with_reducible repeat (first | refine blk_drewN ?_ _ | refine blk_drew ?_ | refine blk_alloc ?_ _)); exact z.out) : W'.heap[g]? = some o := t h
theorem uR {A P : Prop} (h : A) (t : A → P := by intro z; (with_reducible repeat (first | apply Kd.R_alloc | apply Kd.R_drewN | apply Kd.R_drew)); exact z.out) : P := t h
theorem uB {n : Nat} {w W W' : World} (h : Aside0 (Below n w W)) (t : Aside0 (Below n w W) → Below n w W' := by intro z; repeat (first | (with_reducible first | exact z.out | apply below_alloc | apply pw_below_drewN | apply below_drew1 | refine below_set ?_ (Aside0.out (by assumption)) | refine below_set ?_ (IsS83.ge (Aside0.out (by assumption)))) | exact z.out)) : Below n w W' := t h
theorem uK {w W W' : World} {g : Nat} {row : Option Nat} (h : Aside0 (KeepBut w W g row)) (t : Aside0 (KeepBut w W g row) → KeepBut w W' g row := by intro z; repeat (first | (with_reducible first | exact z.out | apply KeepBut.set_ | apply keep_drewN | apply keep_drew | apply keep_alloc | refine keep_far ?_ (Aside0.out (by assumption)) _) | exact z.out)) : KeepBut w W' g row := t h
theorem uI {w0 W W' : World} {g : Nat} {f0 f1 x0 x1 : Int} (h : Aside0 (IsS83 w0 W g f0 f1)) (t : Aside0 (IsS83 w0 W g f0 f1) → IsS83 w0 W' g x0 x1 := by intro z; repeat (first | (with_reducible first | exact z.out | apply IsS83.alloc | apply IsS83.drewN | apply IsS83.drew | apply IsS83.set_0 | apply IsS83.set_1 | refine IsS83.far ?_ (Aside0.out (by assumption)) _) | exact z.out)) : IsS83 w0 W' g x0 x1 := t h
theorem uD {A P : Prop} (h : A) (t : A → P := by intro z; repeat (first | exact z | (with_reducible refine Kd.C_alloc ?_ _) | (with_reducible refine Kd.C_drewN ?_ _) | (with_reducible refine Kd.C_drew ?_))) : P := t h
theorem uc {w : World} {g t : Nat} {cs : Array Value} {v : Value} (h : Aside0 (w.heap[g]? = some (.cells cs t (0, 0)))) (i : Nat) (e : cs[i]? = some v := by rfl) : w.cell? ⟨g, i, none⟩ = some v := (blk_cell h.out i).trans e
theorem uA {P : Prop} (h : P := by (try simp only [List.map_toArray, List.map_cons, List.map_nil]); first | done | rfl | (simp only [List.length_drop, List.length_take]; rfl)) : P := h
theorem uS {P : Prop} (h : P := by first | rfl | (simp; done) | (simp [*]; done)) : P := h
theorem uE {P : Prop} (h : P := by first | rfl | (simp [errW_none, errW_some] <;> rfl) | (simp [*, errW_none, errW_some] <;> rfl)) : P := h
abbrev tt : Bool := true
abbrev ff : Bool := false
theorem uP {P : Prop} (h : P := by simp only [Act.put, List.setIfInBounds_toArray, List.set_cons_zero, List.set_cons_succ, i64_w, i32_w]; rfl) : P := h
theorem ua {P : Prop} (h : P := by first | (with_reducible assumption) | assumption) : P := h
end Go.Proofs.Ytkfebceainedfaa.P
namespace Go.Proofs.Ytkfebceainedfaa.P
open Go.RowKit Go.Proofs.YtkfebceainedfaaW.PrintWords Go.Proofs.YtkfebceainedfaaW.PrintLast Go.Proofs.YtkfebceainedfaaW.PrintMore
attribute [local go_sem] max2_int min2_int max_two min_two max_three min_three max_four min_four   -- for this text's walks alone
set_option linter.unusedVariables false
set_option linter.unusedSimpArgs false
def gap_letters_has.f (a0 : Int) (a1 : Int) : Option (Bool) := some ((Go.bits .and .u32 (shr .u32 a0 ((a1 - 65) % 256)) 1) == 1)
set_option maxHeartbeats 8000000 in
set_option maxRecDepth 100000 in
theorem gap_letters_has.calls (a0 : Int) (a1 : Int) (r : Bool) (w : World) (h : gap_letters_has.f a0 a1 = some r) :
  Calls Try.prog 81 #[.int .u32 a0, .int .u8 a1] w fun e w' => e = .returned (.bool r) ∧ Drawn0 w w' := by
 have H : (some ((Go.bits .and .u32 (shr .u32 a0 ((a1 - 65) % 256)) 1) == 1)) = some r := h
 clear h
 obtain ⟨ji3, hji3⟩ : ∃ j_ : Int, (shr .u32 a0 ((a1 - 65) % 256)) = j_ := ⟨_, rfl⟩
 replace H : (some ((Go.bits .and .u32 (ji3) 1) == 1)) = some r := by first | (rw [hji3] at H; exact H) | (simp only [hji3] at H ⊢; exact H)
 have hji3_ : (a0 / 2 ^ min ((a1 - 65) % 256).toNat 32) = ji3 := hji3
 have hji3z : ((a1 - 65) % 256) ≤ 32 → (a0 / 2 ^ ((a1 - 65) % 256).toNat) = ji3 := shr_small hji3
 obtain rfl := Option.some.inj H
 go_enter Try.func81, Try.ntmps81
 go_wp2
 go_ret
 exact ⟨by first | rfl | (simp; done) | (simp only [OFix.ne_nil_b]; done) | (simp only [← hji3, OFix.ne_nil_b]; done) | (simp only [← hji3] <;> (first | rfl | simp)) | (simp [*]; done), by repeat (first | exact Drawn0.refl _ | apply Drawn0.step)⟩
end Go.Proofs.Ytkfebceainedfaa.P
namespace Go.Proofs.Ytkfebceainedfaa.P
open Go.RowKit Go.Proofs.YtkfebceainedfaaW.PrintWords Go.Proofs.YtkfebceainedfaaW.PrintLast Go.Proofs.YtkfebceainedfaaW.PrintMore
attribute [local go_sem] max2_int min2_int max_two min_two max_three min_three max_four min_four   -- for this text's walks alone
set_option linter.unusedVariables false
set_option linter.unusedSimpArgs false
def gap_letters_with.f (a0 : Int) (a1 : Int) : Option (Int) := some (Go.bits .or .u32 a0 (shl .u32 1 ((a1 - 65) % 256)))
set_option maxHeartbeats 8000000 in
set_option maxRecDepth 100000 in
theorem gap_letters_with.calls (a0 : Int) (a1 : Int) (r : Int) (w : World) (h : gap_letters_with.f a0 a1 = some r) :
  Calls Try.prog 58 #[.int .u32 a0, .int .u8 a1] w fun e w' => e = .returned (.int .u32 r) ∧ Drawn0 w w' := by
 have H : (some (Go.bits .or .u32 a0 (shl .u32 1 ((a1 - 65) % 256)))) = some r := h
 clear h
 obtain ⟨ji3, hji3⟩ : ∃ j_ : Int, (shl .u32 1 ((a1 - 65) % 256)) = j_ := ⟨_, rfl⟩
 replace H : (some (Go.bits .or .u32 a0 (ji3))) = some r := by first | (rw [hji3] at H; exact H) | (simp only [hji3] at H ⊢; exact H)
 have hji3_ : (IntKind.u32.wrap (1 * 2 ^ min ((a1 - 65) % 256).toNat 32)) = ji3 := hji3
 have hji3z : ((a1 - 65) % 256) ≤ 32 → (IntKind.u32.wrap (1 * 2 ^ ((a1 - 65) % 256).toNat)) = ji3 := shl_small hji3
 have hji3u : (IntKind.u32.wrap (2 ^ min ((a1 - 65) % 256).toNat 32)) = ji3 := by have h_ := hji3_; rw [Int.one_mul] at h_; exact h_
 have hji3v : ((a1 - 65) % 256) ≤ 32 → (IntKind.u32.wrap (2 ^ ((a1 - 65) % 256).toNat)) = ji3 := fun hle_ => by have h_ := hji3z hle_; rw [Int.one_mul] at h_; exact h_
 obtain rfl := Option.some.inj H
 go_enter Try.func58, Try.ntmps58
 go_wp2
 go_ret
 exact ⟨by first | rfl | (simp; done) | (simp only [OFix.ne_nil_b]; done) | (simp only [← hji3, OFix.ne_nil_b]; done) | (simp only [← hji3] <;> (first | rfl | simp)) | (simp [*]; done), by repeat (first | exact Drawn0.refl _ | apply Drawn0.step)⟩
end Go.Proofs.Ytkfebceainedfaa.P
namespace Go.Proofs.Ytkfebceainedfaa.P
open Go.RowKit Go.Proofs.YtkfebceainedfaaW.PrintWords Go.Proofs.YtkfebceainedfaaW.PrintLast Go.Proofs.YtkfebceainedfaaW.PrintMore
attribute [local go_sem] max2_int min2_int max_two min_two max_three min_three max_four min_four   -- for this text's walks alone
set_option linter.unusedVariables false
set_option linter.unusedSimpArgs false
def gap_of.l0 : Nat → Int → Int → Int → ByteArray → Bool → Int → Int → Option (Int)
 | 0, _, _, _, _, _, _, _ => none
 | k + 1, x3, x10, x11, x338000, x338001, x338002, x338003 => if x11 < x10 then (if 0 ≤ x11 then (if x11 < (x338000.size : Int) then ((gap_letters_with.f x3 (bt x338000 x11)).bind fun t338 => (gap_of.l0 k t338 x10 (wrap64 (x11 + 1)) x338000 x338001 x338002 x338003)) else (none)) else (none)) else (some x3)
def gap_of.f (k : Nat) (a0_0 : ByteArray) (a0_1 : Bool) (a0_2 : Int) (a0_3 : Int) : Option (Int) := if a0_0.toList = ([] : List UInt8) then (some 67108863) else (gap_of.l0 k 0 (a0_0.size : Int) 0 a0_0 a0_1 a0_2 a0_3)
set_option maxHeartbeats 8000000 in
set_option maxRecDepth 100000 in
theorem gap_of.calls (k : Nat) (a0_0 : ByteArray) (a0_1 : Bool) (a0_2 : Int) (a0_3 : Int) (r : Int) (w : World) (h : gap_of.f k a0_0 a0_1 a0_2 a0_3 = some r) :
  Calls Try.prog 77 #[.agg #[.string a0_0, .bool a0_1, .int .i64 a0_2, .int .i64 a0_3]] w fun e w' => e = .returned (.int .u32 r) ∧ Below w.heap.size w w' := by
 have hu49 := Try.underlying49
 have HB := Aside0.mk (Below.refl w.heap.size w)
 have H : (if a0_0.toList = ([] : List UInt8) then (some 67108863) else (gap_of.l0 k 0 (a0_0.size : Int) 0 a0_0 a0_1 a0_2 a0_3)) = some r := h
 clear h
 by_cases c2 : a0_0.toList = ([] : List UInt8)
 ·rw [if_pos c2] at H
  have c2b0 : (a0_0.toList == ([] : List UInt8)) = true := beq_iff_eq.mpr c2
  have c2b1 : (a0_0.toList != ([] : List UInt8)) = false := bne_eq_false_iff_eq.mpr c2
  clear c2
  obtain rfl := Option.some.inj H
  go_enter Try.func77, Try.ntmps77
  go_wp2_with (first | ((with_reducible refine gate_dst (N := 1) rfl ?_); refine box_event ?hg (N := 1) ?hd (cs := #[.string a0_0, .bool a0_1, .int .i64 a0_2, .int .i64 a0_3]) (t := 49) ?hr ?_; (case hd => rfl); (case hg => rfl); (case hr => first | (go_simp; done) | (go_simp; rfl)); intro gb337 hg w3 hbox hb; have BK337 := Aside0.mk (hbox); have GW337 := Aside0.mk ((by rw [hg]; exact (below_size (uB HB)) : w.heap.size ≤ gb337)); have GE337 := Aside0.mk ((by rw [hg]; exact (below_size (uB HB)) : w.heap.size ≤ gb337)); replace HB := Aside0.mk (below_step (uB HB) hb); clear hb hbox hg; have hcz4_0 := uc (w := w3) BK337 0; have hcz4_1 := uc (w := w3) BK337 1; have hcz4_2 := uc (w := w3) BK337 2; have hcz4_3 := uc (w := w3) BK337 3; have hfz4_0 := blk_frozen BK337.out 0; have hfz4_1 := blk_frozen BK337.out 1; have hfz4_2 := blk_frozen BK337.out 2; have hfz4_3 := blk_frozen BK337.out 3))
  go_ret
  exact ⟨uE, uB HB⟩
 ·rw [if_neg c2] at H
  have c2b0 : (a0_0.toList == ([] : List UInt8)) = false := beq_eq_false_iff_ne.mpr c2
  have c2b1 : (a0_0.toList != ([] : List UInt8)) = true := bne_iff_ne.mpr c2
  have H' := Aside0.mk H
  clear H
  go_enter Try.func77, Try.ntmps77
  go_wp2_with (first | ((with_reducible refine gate_dst (N := 1) rfl ?_); refine box_event ?hg (N := 1) ?hd (cs := #[.string a0_0, .bool a0_1, .int .i64 a0_2, .int .i64 a0_3]) (t := 49) ?hr ?_; (case hd => rfl); (case hg => rfl); (case hr => first | (go_simp; done) | (go_simp; rfl)); intro gb337 hg w5 hbox hb; have BK337 := Aside0.mk (hbox); have GW337 := Aside0.mk ((by rw [hg]; exact (below_size (uB HB)) : w.heap.size ≤ gb337)); have GE337 := Aside0.mk ((by rw [hg]; exact (below_size (uB HB)) : w.heap.size ≤ gb337)); replace HB := Aside0.mk (below_step (uB HB) hb); clear hb hbox hg; have hcz6_0 := uc (w := w5) BK337 0; have hcz6_1 := uc (w := w5) BK337 1; have hcz6_2 := uc (w := w5) BK337 2; have hcz6_3 := uc (w := w5) BK337 3; have hfz6_0 := blk_frozen BK337.out 0; have hfz6_1 := blk_frozen BK337.out 1; have hfz6_2 := blk_frozen BK337.out 2; have hfz6_3 := blk_frozen BK337.out 3))
  go_loopg [3, 11] k (fun kq v3 v11 w' => ∃ (x3_1 : Int) (x11_1 : Int), v3 = .int .u32 x3_1 ∧ v11 = .int .i64 x11_1 ∧ Aside0 (gap_of.l0 kq x3_1 (a0_0.size : Int) x11_1 a0_0 a0_1 a0_2 a0_3 = some r) ∧ Aside0 (kq ≤ k) ∧ Aside0 (w'.heap[gb337]? = some (.cells #[.string a0_0, .bool a0_1, .int .i64 a0_2, .int .i64 a0_3] 49 (0, 0))) ∧ Aside0 (Below w.heap.size w w'))
  case atStart => exact ⟨(0), (0), uS, uS, H', ⟨Nat.le_refl _⟩, ⟨uk BK337⟩, ⟨uB HB⟩⟩
  case round =>
   clear H'
   try clear c2
   try clear c2b0
   try clear c2b1
   try clear p2
   try clear hcz4_0
   try clear hcz4_1
   try clear hcz4_2
   try clear hcz4_3
   try clear hcz6_0
   try clear hcz6_1
   try clear hcz6_2
   try clear hcz6_3
   try clear hfz4_0
   try clear hfz4_1
   try clear hfz4_2
   try clear hfz4_3
   try clear hfz6_0
   try clear hfz6_1
   try clear hfz6_2
   try clear hfz6_3
   obtain ⟨x3_1, x11_1, rfl, rfl, HA, HK1, BK337, HB⟩ := hrel
   cases gk with
   | zero => exact absurd HA.out (by simp [gap_of.l0])
   | succ k1 =>
    have H := HA.out
    clear HA
    simp only [gap_of.l0] at H
    by_cases c7 : x11_1 < (a0_0.size : Int)
    ·rw [if_pos c7] at H
     have c7b0 : decide (x11_1 < (a0_0.size : Int)) = true := decide_eq_true c7
     clear c7
     by_cases c8 : 0 ≤ x11_1
     ·rw [if_pos c8] at H
      have c8b0 : decide (0 ≤ x11_1) = true := decide_eq_true c8
      clear c8
      by_cases c9 : x11_1 < (a0_0.size : Int)
      ·rw [if_pos c9] at H
       have c9b0 : decide (x11_1 < (a0_0.size : Int)) = true := decide_eq_true c9
       clear c9
       replace H := Option.bind_eq_some_iff.mp H
       obtain ⟨t338, A110, H⟩ := H
       replace H : (gap_of.l0 k1 t338 (a0_0.size : Int) (wrap64 (x11_1 + 1)) a0_0 a0_1 a0_2 a0_3) = some r := H
       have A11 := Aside0.mk A110
       clear A110
       have H' := Aside0.mk H
       clear H
       have hcz12_0 := uc (w := wr) BK337 0
       have hcz12_1 := uc (w := wr) BK337 1
       have hcz12_2 := uc (w := wr) BK337 2
       have hcz12_3 := uc (w := wr) BK337 3
       have hfz12_0 := blk_frozen BK337.out 0
       have hfz12_1 := blk_frozen BK337.out 1
       have hfz12_2 := blk_frozen BK337.out 2
       have hfz12_3 := blk_frozen BK337.out 3
       have p10 : 0 ≤ (x11_1 : Int) := of_decide_eq_true ua
       have q10 : x11_1 < (a0_0.size : Int) := of_decide_eq_true ua
       have hx10 := bt_at a0_0 x11_1
       replace p10 := eq_true p10
       replace q10 := eq_true q10
       go_wp2_with (first | ((with_reducible refine gate_callee (f := 58) rfl ?_); refine goesL_ (some 19) rfl rfl Try.func58 (by kernel_rfl) rfl #[.int .u32 x3_1, .int .u8 (bt a0_0 x11_1)] rfl uA ?_; (with_reducible refine (gap_letters_with.calls x3_1 (bt a0_0 x11_1) t338 _ A11.out).mono ?_); rintro e w' ⟨rfl, ⟨nd, rfl⟩⟩; refine ⟨_, rfl, ?_⟩))
       go_roundg k1
       case measure => have := HK1.out; omega
       case rel => exact ⟨(t338), (wrap64 (x11_1 + 1)), uS, uS, H', ⟨by have := HK1.out; omega⟩, ⟨uk BK337⟩, ⟨uB HB⟩⟩
      ·rw [if_neg c9] at H
       exact absurd H (by simp)
     ·rw [if_neg c8] at H
      exact absurd H (by simp)
    ·rw [if_neg c7] at H
     have c7b0 : decide (x11_1 < (a0_0.size : Int)) = false := decide_eq_false c7
     clear c7
     obtain rfl := Option.some.inj H
     go_wp2
     go_ret
     exact ⟨uE, uB HB⟩
end Go.Proofs.Ytkfebceainedfaa.P
namespace Go.Proofs.Ytkfebceainedfaa.OwnGap
set_option linter.unusedVariables false
set_option linter.unusedSimpArgs false
theorem flatMap_eq {α β : Type} {f g : α → List β} : ∀ {l : List α}, (∀ x ∈ l, f x = g x) → l.flatMap f = l.flatMap g
 | [], _ => rfl
 | a :: l, h => by rw [List.flatMap_cons, List.flatMap_cons, h a (by simp), flatMap_eq (fun x hx => h x (by simp [hx]))]
theorem filterMap_flat {α β : Type} (f : α → Option β) : ∀ l : List α, l.filterMap f = l.flatMap fun x => (f x).toList
 | [] => rfl
 | a :: l => by
  rw [List.filterMap_cons, List.flatMap_cons, ← filterMap_flat f l]
  cases f a <;> rfl
structure Rw where
 n : Nat
 gap : Nat → Bool
 fit : Nat → Int → Bool
 lo : Nat → Int
 hi : Nat → Int
 wl : Int → Int
 wh : Int → Int
def okW (R : Rw) (i : Nat) (l h : Int) : Bool := decide (l ≤ R.hi i ∧ R.lo i ≤ h)
def gapF (R : Rw) (next : List Int → List (List Int)) (i : Nat) : Nat → Int → Int → List Int → List (List Int)
 | m, l, h, [] => if okW R i l h = true then (next []).map ((m : Int) :: ·) else []
 | m, l, h, a :: t => (if okW R i l h = true then (next (a :: t)).map ((m : Int) :: ·) else []) ++ (if m + 1 ≤ 10 then gapF R next i (m + 1) (l + R.wl a) (h + R.wh a) t else [])
def fillsF (R : Rw) : Nat → Nat → List Int → List (List Int)
 | 0, _, t => if t = [] then [[]] else []
 | rem + 1, i, t => if R.gap i = false then (match t with | [] => [] | a :: t' => if R.fit i a = true then fillsF R rem (i + 1) t' else [])
   else gapF R (fillsF R rem (i + 1)) i 0 0 0 t
def compF (R : Rw) : Nat → Nat → Nat → Int → Int → List Int → List (List Int)
 | 0, i, _, _, _, t => fillsF R 0 i t
 | rem + 1, i, m, l, h, t => if R.gap i = false then fillsF R (rem + 1) i t else gapF R (fillsF R rem (i + 1)) i m l h t
theorem compF_succ (R : Rw) (rem i m : Nat) (l h : Int) (t : List Int) : compF R (rem + 1) i m l h t = if R.gap i = false then fillsF R (rem + 1) i t else gapF R (fillsF R rem (i + 1)) i m l h t := rfl
theorem fillsF_succ (R : Rw) (rem i : Nat) (t : List Int) : fillsF R (rem + 1) i t = if R.gap i = false then (match t with | [] => [] | a :: t' => if R.fit i a = true then fillsF R rem (i + 1) t' else []) else gapF R (fillsF R rem (i + 1)) i 0 0 0 t := rfl
theorem gapF_nil (R : Rw) (next : List Int → List (List Int)) (i m : Nat) (l h : Int) : gapF R next i m l h [] = if okW R i l h = true then (next []).map ((m : Int) :: ·) else [] := by rw [gapF]
theorem gapF_cons (R : Rw) (next : List Int → List (List Int)) (i m : Nat) (l h a : Int) (t : List Int) : gapF R next i m l h (a :: t) = (if okW R i l h = true then (next (a :: t)).map ((m : Int) :: ·) else []) ++ (if m + 1 ≤ 10 then gapF R next i (m + 1) (l + R.wl a) (h + R.wh a) t else []) := by rw [gapF]
theorem compF_start (R : Rw) (rem i : Nat) (t : List Int) : compF R rem i 0 0 0 t = fillsF R rem i t := by
 cases rem with
 | zero => rfl
 | succ rem =>
  rw [compF_succ]
  split
  ·rfl
  ·rename_i h
   rw [fillsF_succ, if_neg h]
structure Pth where
 i : Nat
 m : Nat
 l : Int
 h : Int
 fs : List Int
def letterF (R : Rw) : Nat → Nat → Nat → Int → Int → List Int → Int → List Pth
 | 0, _, _, _, _, _, _ => []
 | rem + 1, i, m, l, h, fs, a => if R.gap i = false then (if R.fit i a = true then [⟨i + 1, 0, 0, 0, fs⟩] else [])
   else (if okW R i l h = true then letterF R rem (i + 1) 0 0 0 (fs ++ [(m : Int)]) a else []) ++ (if m + 1 ≤ 10 ∧ l + R.wl a ≤ R.hi i then [⟨i, m + 1, l + R.wl a, h + R.wh a, fs⟩] else [])
theorem letterF_succ (R : Rw) (rem i m : Nat) (l h : Int) (fs : List Int) (a : Int) : letterF R (rem + 1) i m l h fs a = if R.gap i = false then (if R.fit i a = true then [⟨i + 1, 0, 0, 0, fs⟩] else [])
   else (if okW R i l h = true then letterF R rem (i + 1) 0 0 0 (fs ++ [(m : Int)]) a else []) ++ (if m + 1 ≤ 10 ∧ l + R.wl a ≤ R.hi i then [⟨i, m + 1, l + R.wl a, h + R.wh a, fs⟩] else []) := rfl
def compP (R : Rw) (p : Pth) (t : List Int) : List (List Int) := (compF R (R.n - p.i) p.i p.m p.l p.h t).map (p.fs ++ ·)
def letterP (R : Rw) (p : Pth) (a : Int) : List Pth := letterF R (R.n - p.i) p.i p.m p.l p.h p.fs a
theorem gapF_wide (R : Rw) (next : List Int → List (List Int)) (i : Nat) : ∀ (t : List Int) (m : Nat) (l h : Int), R.hi i < l → (∀ a ∈ t, 0 ≤ R.wl a) → gapF R next i m l h t = []
 | [], m, l, h, hl, _ => by
  rw [gapF_nil, if_neg]
  simp [okW]
  omega
 | a :: t, m, l, h, hl, hw => by
  rw [gapF_cons, if_neg (by simp [okW]; omega)]
  rw [gapF_wide R next i t (m + 1) (l + R.wl a) (h + R.wh a) (by have := hw a (by simp); omega) (fun b hb => hw b (by simp [hb]))]
  split <;> rfl
theorem letter_step (R : Rw) (a : Int) (t : List Int) (hw : ∀ b ∈ t, 0 ≤ R.wl b) : ∀ (rem i m : Nat) (l h : Int) (fs : List Int), i + rem = R.n →
  (compF R rem i m l h (a :: t)).map (fs ++ ·) = (letterF R rem i m l h fs a).flatMap (compP R · t) := by
 intro rem
 induction rem with
 | zero => intro i m l h fs hi; simp [compF, fillsF, letterF]
 | succ rem ih =>
  intro i m l h fs hi
  have e1 : ∀ q : Pth, q.i = i + 1 → R.n - q.i = rem := fun q hq => by omega
  by_cases hg : R.gap i = false
  ·rw [compF_succ, letterF_succ, fillsF_succ, if_pos hg, if_pos hg, if_pos hg]
   by_cases hf : R.fit i a = true
   ·simp only [hf, if_true, List.flatMap_cons, List.flatMap_nil, List.append_nil]
    unfold compP
    rw [show R.n - (i + 1) = rem by omega, compF_start]
   ·simp [hf]
  ·rw [compF_succ, letterF_succ, if_neg hg, if_neg hg, gapF_cons, List.map_append, List.flatMap_append]
   congr 1
   ·by_cases hk : okW R i l h = true
    ·rw [if_pos hk, if_pos hk, ← ih (i + 1) 0 0 0 (fs ++ [(m : Int)]) (by omega), compF_start, List.map_map]
     apply List.map_congr_left
     intro x _
     simp
    ·rw [if_neg hk, if_neg hk]; rfl
   ·by_cases hm : m + 1 ≤ 10
    ·rw [if_pos hm]
     by_cases hl : l + R.wl a ≤ R.hi i
     ·rw [if_pos ⟨hm, hl⟩]
      simp only [List.flatMap_cons, List.flatMap_nil, List.append_nil]
      unfold compP
      rw [show R.n - i = rem + 1 by omega]
      rw [compF_succ, if_neg hg]
     ·rw [if_neg (fun h => hl h.2), gapF_wide R _ i t _ _ _ (by omega) hw]
      rfl
    ·rw [if_neg hm, if_neg (fun h => hm h.1)]
     rfl
theorem letterP_step (R : Rw) (p : Pth) (a : Int) (t : List Int) (hp : p.i ≤ R.n) (hw : ∀ b ∈ t, 0 ≤ R.wl b) : compP R p (a :: t) = (letterP R p a).flatMap (compP R · t) :=
 letter_step R a t hw (R.n - p.i) p.i p.m p.l p.h p.fs (by omega)
theorem letterF_le (R : Rw) (a : Int) : ∀ (rem i m : Nat) (l h : Int) (fs : List Int), i + rem = R.n → ∀ q ∈ letterF R rem i m l h fs a, q.i ≤ R.n := by
 intro rem
 induction rem with
 | zero => intro i m l h fs hi q hq; simp [letterF] at hq
 | succ rem ih =>
  intro i m l h fs hi q hq
  unfold letterF at hq
  split at hq
  ·split at hq
   ·simp at hq; subst hq; show i + 1 ≤ R.n; omega
   ·simp at hq
  ·rw [List.mem_append] at hq
   rcases hq with hq | hq
   ·split at hq
    ·exact ih (i + 1) 0 0 0 _ (by omega) q hq
    ·simp at hq
   ·split at hq
    ·simp at hq; subst hq; show i ≤ R.n; omega
    ·simp at hq
def wordF (R : Rw) : List Pth → List Int → List Pth
 | l, [] => l
 | l, a :: t => wordF R (l.flatMap (letterP R · a)) t
theorem wordF_nil (R : Rw) (t : List Int) : wordF R [] t = [] := by
 induction t with
 | nil => rfl
 | cons a t ih => unfold wordF; simpa using ih
theorem wordF_append (R : Rw) : ∀ (t u : List Int) (l : List Pth), wordF R l (t ++ u) = wordF R (wordF R l t) u
 | [], u, l => rfl
 | a :: t, u, l => by
  show wordF R (l.flatMap (letterP R · a)) (t ++ u) = wordF R (wordF R (l.flatMap (letterP R · a)) t) u
  exact wordF_append R t u _
theorem word_step (R : Rw) (u : List Int) (hu : ∀ b ∈ u, 0 ≤ R.wl b) : ∀ (t : List Int) (l : List Pth), (∀ q ∈ l, q.i ≤ R.n) → (∀ b ∈ t, 0 ≤ R.wl b) →
  l.flatMap (compP R · (t ++ u)) = (wordF R l t).flatMap (compP R · u)
 | [], l, _, _ => rfl
 | a :: t, l, hl, ht => by
  unfold wordF
  rw [← word_step R u hu t _ (fun q hq => by
   obtain ⟨p, hp, hx⟩ := List.mem_flatMap.1 hq
   have := hl p hp
   exact letterF_le R a _ _ _ _ _ _ (by omega) q hx) (fun b hb => ht b (by simp [hb])), List.flatMap_assoc]
  refine flatMap_eq fun p hp => ?_
  refine letterP_step R p a (t ++ u) (hl p hp) (fun b hb => ?_)
  rcases List.mem_append.1 hb with hb | hb
  ·exact ht b (by simp [hb])
  ·exact hu b hb
def doneF (R : Rw) : Nat → Nat → Nat → Int → Int → List Int → Option (List Int)
 | 0, _, _, _, _, fs => some fs
 | rem + 1, i, m, l, h, fs => if R.gap i = true ∧ okW R i l h = true then doneF R rem (i + 1) 0 0 0 (fs ++ [(m : Int)]) else none
theorem done_comp (R : Rw) : ∀ (rem i m : Nat) (l h : Int) (fs : List Int), (compF R rem i m l h []).map (fs ++ ·) = (doneF R rem i m l h fs).toList := by
 intro rem
 induction rem with
 | zero => intro i m l h fs; simp [compF, fillsF, doneF]
 | succ rem ih =>
  intro i m l h fs
  rw [compF_succ, doneF]
  by_cases hg : R.gap i = false
  ·rw [if_pos hg, if_neg (by simp [hg])]
   rw [fillsF_succ, if_pos hg]
   rfl
  ·have hg' : R.gap i = true := by simpa using hg
   rw [if_neg hg]
   rw [gapF_nil]
   by_cases hk : okW R i l h = true
   ·rw [if_pos hk, if_pos ⟨hg', hk⟩, ← ih (i + 1) 0 0 0, compF_start, List.map_map]
    apply List.map_congr_left
    intro x _
    simp
   ·rw [if_neg hk, if_neg (fun h => hk h.2)]
    rfl
def doneP (R : Rw) (p : Pth) : Option (List Int) := doneF R (R.n - p.i) p.i p.m p.l p.h p.fs
theorem doneP_comp (R : Rw) (p : Pth) : compP R p [] = (doneP R p).toList := done_comp R _ _ _ _ _ _
def p0 : Pth := ⟨0, 0, 0, 0, []⟩
theorem fills_paths (R : Rw) (t : List Int) (ht : ∀ b ∈ t, 0 ≤ R.wl b) : fillsF R R.n 0 t = (wordF R [p0] t).filterMap (doneP R) := by
 have h := word_step R [] (by simp) t [p0] (by intro q hq; simp at hq; subst hq; exact Nat.zero_le _) ht
 rw [List.append_nil] at h
 have e : [p0].flatMap (compP R · t) = fillsF R R.n 0 t := by
  simp only [List.flatMap_cons, List.flatMap_nil, List.append_nil]
  show (compF R (R.n - 0) 0 0 0 0 t).map ([] ++ ·) = _
  rw [compF_start]
  simp
 rw [← e, h]
 rw [filterMap_flat]
 exact flatMap_eq fun p _ => doneP_comp R p
end Go.Proofs.Ytkfebceainedfaa.OwnGap
namespace Go.Proofs.Ytkfebceainedfaa.P.OwnGap
open Go.RowKit Go.Proofs.YtkfebceainedfaaW.PrintWords Go.Proofs.YtkfebceainedfaaW.PrintLast Go.Proofs.YtkfebceainedfaaW.PrintMore
open Go.Proofs.Ytkfebceainedfaa.OwnGap
set_option linter.unusedVariables false
set_option linter.unusedSimpArgs false
structure Lx where
 l0 : List S53
 l1 : List Bool
 l2 : List Bool
 l3 : List (List Bool)
 l4 : List S47
 r : List S49
structure SV where
 b : Nat
 cs : Array Value
 mb : Nat
 A0 : Option Addr
 c0 : Nat
 A1 : Option Addr
 c1 : Nat
 A2 : Option Addr
 c2 : Nat
 A3 : Option Addr
 c3 : Nat
 Ar : Option Addr
 cr : Nat
 Af : Option Addr
 cf : Nat
def fitB (s : ByteArray) (a : Int) : Bool := s.size == 0 || (bytesOf s).contains a
def rwOf (X : Lx) : Rw := ⟨X.r.length, fun i => (rd_T49 X.r (i : Int)).f1, fun i a => fitB (rd_T49 X.r (i : Int)).f0 a, fun i => (rd_T49 X.r (i : Int)).f2.f0, fun i => (rd_T49 X.r (i : Int)).f2.f1, fun a => (rd_T47 X.l4 (a - 65)).f0, fun a => (rd_T47 X.l4 (a - 65)).f1⟩
structure SrW (X : Lx) (S : SV) (fits : List Int) (W : World) : Prop where
 blk : W.heap[S.b]? = some (.cells S.cs 130 (0, 0))
 e0 : S.cs[0]? = some (.slice S.A0 X.l0.length S.c0)
 e1 : S.cs[1]? = some (.slice S.A1 X.l1.length S.c1)
 e2 : S.cs[2]? = some (.slice S.A2 X.l2.length S.c2)
 e3 : S.cs[3]? = some (.slice S.A3 X.l3.length S.c3)
 e5 : S.cs[5]? = some (.slice S.Ar X.r.length S.cr)
 e6 : S.cs[6]? = some (.slice S.Af X.r.length S.cf)
 ew : ∀ k : Nat, k < 26 → S.cs[7 + k * 2]? = some (.int .i64 (rd_T47 X.l4 (k : Int)).f0) ∧ S.cs[7 + k * 2 + 1]? = some (.int .i64 (rd_T47 X.l4 (k : Int)).f1)
 em : S.cs[59]? = some (.map (some S.mb))
 h0 : Kd.C k53 W S.A0 X.l0.length X.l0
 h1 : Kd.C Kd.bool W S.A1 X.l1.length X.l1
 h2 : Kd.C Kd.bool W S.A2 X.l2.length X.l2
 h3 : Kd.C (Kd.slice 4 Kd.bool) W S.A3 X.l3.length X.l3
 hr : Kd.C k49 W S.Ar X.r.length X.r
 hf : Kd.C (Kd.int .u32) W S.Af X.r.length fits
 g0 : X.l0.length ≤ S.c0
 gr : X.r.length ≤ S.cr
theorem SrW.below {X : Lx} {S : SV} {fits : List Int} {W W' : World} (h : SrW X S fits W) (hb : Below W.heap.size W W') : SrW X S fits W' :=
 { h with blk := blk_below h.blk hb, h0 := Kd.C_below h.h0 hb, h1 := Kd.C_below h.h1 hb, h2 := Kd.C_below h.h2 hb, h3 := Kd.C_below h.h3 hb, hr := Kd.C_below h.hr hb, hf := Kd.C_below h.hf hb }
theorem SrW.cell {X : Lx} {S : SV} {fits : List Int} {W : World} (h : SrW X S fits W) (k : Nat) {v : Value} (hv : S.cs[k]? = some v) : W.cell? ⟨S.b, k, none⟩ = some v := (blk_cell h.blk k).trans hv
def fG (fs : List Int) (k : Nat) : Int := fs.getD k 0
def pC (p : Pth) : Array Value := #[.int .i64 (p.i : Int), .int .i64 (p.m : Int), .int .i64 p.l, .int .i64 p.h, .int .i64 (fG p.fs 0), .int .i64 (fG p.fs 1), .int .i64 (fG p.fs 2), .int .i64 (p.fs.length : Int)]
def PAt (W : World) (b : Nat) (p : Pth) : Prop := W.heap[b]? = some (.cells (pC p) 154 (0, 0))
theorem PAt.cells {W : World} {b : Nat} {p : Pth} (h : PAt W b p) : W.cell? ⟨b, 0, none⟩ = some (.int .i64 (p.i : Int)) ∧ W.cell? ⟨b, 1, none⟩ = some (.int .i64 (p.m : Int)) ∧ W.cell? ⟨b, 2, none⟩ = some (.int .i64 p.l) ∧ W.cell? ⟨b, 3, none⟩ = some (.int .i64 p.h) ∧ W.cell? ⟨b, 4, none⟩ = some (.int .i64 (fG p.fs 0)) ∧ W.cell? ⟨b, 5, none⟩ = some (.int .i64 (fG p.fs 1)) ∧ W.cell? ⟨b, 6, none⟩ = some (.int .i64 (fG p.fs 2)) ∧ W.cell? ⟨b, 7, none⟩ = some (.int .i64 (p.fs.length : Int)) :=
 ⟨(blk_cell h 0).trans rfl, (blk_cell h 1).trans rfl, (blk_cell h 2).trans rfl, (blk_cell h 3).trans rfl, (blk_cell h 4).trans rfl, (blk_cell h 5).trans rfl, (blk_cell h 6).trans rfl, (blk_cell h 7).trans rfl⟩
def shutB (R : Rw) (p : Pth) : Bool := decide (p.i < R.n) && (R.gap p.i && okW R p.i p.l p.h)
def shutP (R : Rw) (p : Pth) : Pth := if shutB R p = true then ⟨p.i + 1, 0, 0, 0, p.fs ++ [(p.m : Int)]⟩ else p
theorem wp_gen {P : Program} {c : Code} {K : Exit → Act → World → Prop} {a : Act} {w : World} (I : World → Prop) (h : I w) (k : ∀ wx, I wx → Code.wp P c K a wx) : Code.wp P c K a w := k w h
structure PB (w wx : World) (p : Pth) : Prop where
 below : Below w.heap.size w wx
 pat : PAt wx w.heap.size p
 res : ∃ q : Nat → Int, wx.heap[w.heap.size + 1]? = some (.cells #[.int .i64 (q 0), .int .i64 (q 1), .int .i64 (q 2), .int .i64 (q 3), .int .i64 (q 4), .int .i64 (q 5), .int .i64 (q 6), .int .i64 (q 7)] 154 (0, 0))
theorem PB.start (w : World) (p : Pth) : PB w ((w.alloc (.cells (pC p) 154)).alloc (.cells #[.int .i64 0, .int .i64 0, .int .i64 0, .int .i64 0, .int .i64 0, .int .i64 0, .int .i64 0, .int .i64 0] 154)) p :=
 ⟨((Below.refl _ _).alloc (Nat.le_refl _) _).alloc (by simp) _, blk_alloc (blk_new w _) _, fun _ => 0, by simpa using blk_new (w.alloc (.cells (pC p) 154)) _⟩
theorem res_cells {wx : World} {b : Nat} {q : Nat → Int} (hq : wx.heap[b]? = some (.cells #[.int .i64 (q 0), .int .i64 (q 1), .int .i64 (q 2), .int .i64 (q 3), .int .i64 (q 4), .int .i64 (q 5), .int .i64 (q 6), .int .i64 (q 7)] 154 (0, 0))) :
  (wx.cell? ⟨b, 0, none⟩ = some (.int .i64 (q 0)) ∧ wx.cell? ⟨b, 1, none⟩ = some (.int .i64 (q 1)) ∧ wx.cell? ⟨b, 2, none⟩ = some (.int .i64 (q 2)) ∧ wx.cell? ⟨b, 3, none⟩ = some (.int .i64 (q 3)) ∧ wx.cell? ⟨b, 4, none⟩ = some (.int .i64 (q 4)) ∧ wx.cell? ⟨b, 5, none⟩ = some (.int .i64 (q 5)) ∧ wx.cell? ⟨b, 6, none⟩ = some (.int .i64 (q 6)) ∧ wx.cell? ⟨b, 7, none⟩ = some (.int .i64 (q 7))) ∧
  wx.frozen? ⟨b, 0, none⟩ = false ∧ wx.frozen? ⟨b, 1, none⟩ = false ∧ wx.frozen? ⟨b, 2, none⟩ = false ∧ wx.frozen? ⟨b, 3, none⟩ = false ∧ wx.frozen? ⟨b, 4, none⟩ = false ∧ wx.frozen? ⟨b, 5, none⟩ = false ∧ wx.frozen? ⟨b, 6, none⟩ = false ∧ wx.frozen? ⟨b, 7, none⟩ = false :=
 ⟨⟨(blk_cell hq 0).trans rfl, (blk_cell hq 1).trans rfl, (blk_cell hq 2).trans rfl, (blk_cell hq 3).trans rfl, (blk_cell hq 4).trans rfl, (blk_cell hq 5).trans rfl, (blk_cell hq 6).trans rfl, (blk_cell hq 7).trans rfl⟩, blk_frozen hq 0, blk_frozen hq 1, blk_frozen hq 2, blk_frozen hq 3, blk_frozen hq 4, blk_frozen hq 5, blk_frozen hq 6, blk_frozen hq 7⟩
theorem cells8 {wx : World} {b t : Nat} {v0 v1 v2 v3 v4 v5 v6 v7 : Value} (hq : wx.heap[b]? = some (.cells #[v0, v1, v2, v3, v4, v5, v6, v7] t (0, 0))) :
  (wx.cell? ⟨b, 0, none⟩ = some v0 ∧ wx.cell? ⟨b, 1, none⟩ = some v1 ∧ wx.cell? ⟨b, 2, none⟩ = some v2 ∧ wx.cell? ⟨b, 3, none⟩ = some v3 ∧ wx.cell? ⟨b, 4, none⟩ = some v4 ∧ wx.cell? ⟨b, 5, none⟩ = some v5 ∧ wx.cell? ⟨b, 6, none⟩ = some v6 ∧ wx.cell? ⟨b, 7, none⟩ = some v7) ∧
  wx.frozen? ⟨b, 0, none⟩ = false ∧ wx.frozen? ⟨b, 1, none⟩ = false ∧ wx.frozen? ⟨b, 2, none⟩ = false ∧ wx.frozen? ⟨b, 3, none⟩ = false ∧ wx.frozen? ⟨b, 4, none⟩ = false ∧ wx.frozen? ⟨b, 5, none⟩ = false ∧ wx.frozen? ⟨b, 6, none⟩ = false ∧ wx.frozen? ⟨b, 7, none⟩ = false :=
 ⟨⟨(blk_cell hq 0).trans rfl, (blk_cell hq 1).trans rfl, (blk_cell hq 2).trans rfl, (blk_cell hq 3).trans rfl, (blk_cell hq 4).trans rfl, (blk_cell hq 5).trans rfl, (blk_cell hq 6).trans rfl, (blk_cell hq 7).trans rfl⟩, blk_frozen hq 0, blk_frozen hq 1, blk_frozen hq 2, blk_frozen hq 3, blk_frozen hq 4, blk_frozen hq 5, blk_frozen hq 6, blk_frozen hq 7⟩
def pD (p : Pth) : Array Value := #[.int .i64 (p.i : Int), .int .i64 (p.m : Int), .int .i64 p.l, .int .i64 p.h, .int .i64 (fG (p.fs ++ [(p.m : Int)]) 0), .int .i64 (fG (p.fs ++ [(p.m : Int)]) 1), .int .i64 (fG (p.fs ++ [(p.m : Int)]) 2), .int .i64 (p.fs.length : Int)]
theorem PAt.fill {W : World} {b : Nat} {p : Pth} (h : PAt W b p) (hl : p.fs.length < 3) : (W.setCell ⟨b, 4 + p.fs.length, none⟩ (.int .i64 (p.m : Int))).heap[b]? = some (.cells (pD p) 154 (0, 0)) := by
 have h1 := blk_set h (4 + p.fs.length) (.int .i64 (p.m : Int))
 rw [h1]
 unfold pC pD fG
 obtain ⟨i, m, l, h0, fs⟩ := p
 match fs, hl with
 | [], _ => rfl
 | [a], _ => rfl
 | [a, b], _ => rfl
theorem PB.drewN {w wx : World} {p : Pth} (h : PB w wx p) (n : Nat) : PB w (wx.drewN n) p := ⟨pw_below_drewN h.below n, h.pat, h.res⟩
theorem PB.alloc {w wx : World} {p : Pth} (h : PB w wx p) (o : Obj) : PB w (wx.alloc o) p := ⟨h.below.alloc (by have := h.below.size; omega) _, blk_alloc h.pat _, let ⟨q, hq⟩ := h.res; ⟨q, blk_alloc hq _⟩⟩
theorem PB.drew {w wx : World} {p : Pth} (h : PB w wx p) : PB w wx.drew p := ⟨h.below.drew, h.pat, h.res⟩
theorem wp_gen' {K : Exit → Act → World → Prop} {a : Act} {w : World} {e : Exit} (I : World → Prop) (h : I w) (k : ∀ wx, I wx → K e a wx) : K e a w := k w h
theorem set8_blk {W : World} {b t : Nat} {v0 v1 v2 v3 v4 v5 v6 v7 : Value} (h : W.heap[b]? = some (.cells #[v0, v1, v2, v3, v4, v5, v6, v7] t (0, 0))) (u0 u1 u2 u3 u4 u5 u6 u7 : Value) : ((((((((W.setCell ⟨b, 0, none⟩ u0).setCell ⟨b, 1, none⟩ u1).setCell ⟨b, 2, none⟩ u2).setCell ⟨b, 3, none⟩ u3).setCell ⟨b, 4, none⟩ u4).setCell ⟨b, 5, none⟩ u5).setCell ⟨b, 6, none⟩ u6).setCell ⟨b, 7, none⟩ u7).heap[b]? = some (.cells #[u0, u1, u2, u3, u4, u5, u6, u7] t (0, 0)) := by
 have s0 := blk_set h 0 u0
 have s1 := blk_set s0 1 u1
 have s2 := blk_set s1 2 u2
 have s3 := blk_set s2 3 u3
 have s4 := blk_set s3 4 u4
 have s5 := blk_set s4 5 u5
 have s6 := blk_set s5 6 u6
 have s7 := blk_set s6 7 u7
 simpa using s7
theorem set8_below {n : Nat} {w0 W : World} {b : Nat} (h : Below n w0 W) (hb : n ≤ b) (u0 u1 u2 u3 u4 u5 u6 u7 : Value) : Below n w0 ((((((((W.setCell ⟨b, 0, none⟩ u0).setCell ⟨b, 1, none⟩ u1).setCell ⟨b, 2, none⟩ u2).setCell ⟨b, 3, none⟩ u3).setCell ⟨b, 4, none⟩ u4).setCell ⟨b, 5, none⟩ u5).setCell ⟨b, 6, none⟩ u6).setCell ⟨b, 7, none⟩ u7) :=
 (((((((h.setCell hb _).setCell hb _).setCell hb _).setCell hb _).setCell hb _).setCell hb _).setCell hb _).setCell hb _
theorem set5_far {W : World} {b g t : Nat} {cs : Array Value} (h : W.heap[b]? = some (.cells cs t (0, 0))) (hb : b ≠ g) (u0 u1 u2 u3 u4 : Value) : (((((W.setCell ⟨g, 7, none⟩ u0).setCell ⟨g, 0, none⟩ u1).setCell ⟨g, 1, none⟩ u2).setCell ⟨g, 2, none⟩ u3).setCell ⟨g, 3, none⟩ u4).heap[b]? = some (.cells cs t (0, 0)) :=
 blk_far (blk_far (blk_far (blk_far (blk_far h hb _) hb _) hb _) hb _) hb _
theorem set5_below {n : Nat} {w0 W : World} {b : Nat} (h : Below n w0 W) (hb : n ≤ b) (u0 u1 u2 u3 u4 : Value) : Below n w0 (((((W.setCell ⟨b, 7, none⟩ u0).setCell ⟨b, 0, none⟩ u1).setCell ⟨b, 1, none⟩ u2).setCell ⟨b, 2, none⟩ u3).setCell ⟨b, 3, none⟩ u4) :=
 ((((h.setCell hb _).setCell hb _).setCell hb _).setCell hb _).setCell hb _
set_option maxHeartbeats 1000000 in
set_option maxRecDepth 100000 in
theorem shut_calls (X : Lx) (S : SV) (fits : List Int) (p : Pth) (w : World) (hS : SrW X S fits w) (hi : p.i ≤ X.r.length) (hn : X.r.length ≤ 1000) (hm : p.m ≤ 1000) (hfs : p.i < X.r.length → (rd_T49 X.r (p.i : Int)).f1 = true → p.fs.length < 3) :
  Calls Try.prog 90 #[.pointer (some ⟨S.b, 0, none⟩), .agg (pC p)] w fun e w' => e = .returned (.tuple #[.agg (pC (shutP (rwOf X) p)), .bool (shutB (rwOf X) p)]) ∧ Below w.heap.size w w' := by
 have HS := Aside0.mk hS
 have HP := Aside0.mk (show PAt (w.alloc (.cells (pC p) 154)) w.heap.size p from blk_new w _)
 have hc5 := hS.cell 5 hS.e5
 have hbl := blk_lt hS.blk
 by_cases hlt : p.i < X.r.length
 ·obtain ⟨ad, eA, -⟩ := at_T49 hS.hr (p.i : Int) (by omega) (by omega)
  have h1 : ((p.i : Int) == (X.r.length : Int)) = false := by simp; omega
  have hil : (p.i : Int) < (X.r.length : Int) := by omega
  have hl0 : p.i < X.r.length := hlt
  have HX := Aside0.mk (fun (W : World) (h : SrW X S fits W) => show W.cell? ⟨S.b, 5, none⟩ = some (.slice (some ad) X.r.length S.cr) ∧ W.cell? (ad.add (p.i * 4)) = some (.string (rd_T49 X.r (p.i : Int)).f0) ∧ W.cell? ⟨(ad.add (p.i * 4)).block, (ad.add (p.i * 4)).off + 1, none⟩ = some (.bool (rd_T49 X.r (p.i : Int)).f1) ∧ W.cell? ⟨(ad.add (p.i * 4)).block, (ad.add (p.i * 4)).off + 2, none⟩ = some (.int .i64 (rd_T49 X.r (p.i : Int)).f2.f0) ∧ W.cell? ⟨(ad.add (p.i * 4)).block, (ad.add (p.i * 4)).off + 3, none⟩ = some (.int .i64 (rd_T49 X.r (p.i : Int)).f2.f1) by
   obtain ⟨ad', eA', y0, y1, y2, y3⟩ := at_T49 h.hr (p.i : Int) (by omega) (by omega)
   rw [eA] at eA'
   injection eA' with eA'
   subst eA'
   simp only [Int.toNat_natCast] at y0 y1 y2 y3
   exact ⟨by rw [h.cell 5 h.e5, eA], y0, y1, y2, y3⟩)
  obtain ⟨c, hc⟩ : ∃ c, c = rd_T49 X.r (p.i : Int) := ⟨_, rfl⟩
  rw [← hc] at HX hfs
  have HC := Aside0.mk hc
  have HFS := Aside0.mk hfs
  have HLT := Aside0.mk hlt
  clear hS hc hfs hlt hi eA hc5
  unfold pC
  go_enter Try.func90, Try.ntmps90
  go_upto_region 1 with fail
  refine wp_gen (fun wx => Aside0 (PB w wx p)) ⟨PB.start w p⟩ ?_
  clear HP hbl
  rintro wx HB
  obtain ⟨e0, -⟩ := HB.out.pat.cells
  have hS2 := HS.out.below HB.out.below
  obtain ⟨hc5, y0, y1, y2, y3⟩ := HX.out wx hS2
  have hbl := blk_lt hS2.blk
  clear hS2
  rcases hg : c.f1 with _ | _
  ·rw [hg] at y1
   go_upto_region 2 with first | go_quiet (fail) | fail
   refine wp_gen (fun wx => Aside0 (PB w wx p)) ⟨HB.out.drewN _⟩ ?_
   clear HB e0 hc5 y0 y1 y2 y3 hbl
   rintro wx HB
   obtain ⟨e0, e1, e2, e3, e4, e5, e6, e7⟩ := HB.out.pat.cells
   obtain ⟨q, hq⟩ := HB.out.res
   obtain ⟨⟨q0, q1, q2, q3, q4, q5, q6, q7⟩, f0, f1, f2, f3, f4, f5, f6, f7⟩ := res_cells hq
   have hql := blk_lt hq
   have HQ := Aside0.mk hq
   clear hq
   go_wp2_with fail
   have hsf : shutB (rwOf X) p = false := by
    unfold shutB
    rw [show (rwOf X).gap p.i = false by show (rd_T49 X.r (p.i : Int)).f1 = false; rw [← HC.out]; exact hg]
    simp
   have hsp : shutP (rwOf X) p = p := if_neg (by rw [hsf]; decide)
   refine bodyPost_ret (results_ct rfl _ _ (w.heap.size + 1) 154 _ (0, 0) _ rfl (set8_blk HQ.out _ _ _ _ _ _ _ _) Try.underlying154 rfl (by kernel_rfl)) rfl ⟨?_, set8_below HB.out.below (by omega) _ _ _ _ _ _ _ _⟩
   rw [hsf, hsp]
   rfl
  ·rw [hg] at y1
   go_upto_region 3 with first | go_quiet (fail) | fail
   refine wp_gen (fun wx => Aside0 (PB w wx p)) ⟨HB.out.drewN _⟩ ?_
   clear HB e0 hc5 y0 y1 y2 y3 hbl
   rintro wx HB
   obtain ⟨e0, -⟩ := HB.out.pat.cells
   have hS2 := HS.out.below HB.out.below
   obtain ⟨hc5, y0, y1, y2, y3⟩ := HX.out wx hS2
   have hbl := blk_lt hS2.blk
   clear hS2
   have hpl := blk_lt HB.out.pat
   have hadl := World.block_lt_of_cell? wx _ y0
   go_region
   obtain ⟨bw, hbw⟩ : ∃ b, b = wx.heap.size := ⟨_, rfl⟩
   have hbw2 : w.heap.size + 2 ≤ bw := by
    obtain ⟨q, hq⟩ := HB.out.res
    have := blk_lt hq
    omega
   refine wp_gen' (fun wy => Aside0 (PB w wy p) ∧ Aside0 (wy.heap[bw]? = some (.cells #[.int .i64 c.f2.f0, .int .i64 c.f2.f1] 47 (0, 0)))) ⟨⟨(HB.out.alloc _).drew⟩, ⟨by rw [hbw]; exact blk_new wx _⟩⟩ ?_
   rw [← hbw]
   clear hbw HB e0 hc5 y0 y1 y2 y3 hbl hpl hadl
   rintro wy ⟨HB, HW⟩
   clear wx
   obtain ⟨e0, e1, e2, e3, e4, e5, e6, e7⟩ := HB.out.pat.cells
   have w0 := (blk_cell HW.out 0).trans (show (#[Value.int .i64 c.f2.f0, Value.int .i64 c.f2.f1] : Array Value)[0]? = some (Value.int .i64 c.f2.f0) from rfl)
   have w1 := (blk_cell HW.out 1).trans (show (#[Value.int .i64 c.f2.f0, Value.int .i64 c.f2.f1] : Array Value)[1]? = some (Value.int .i64 c.f2.f1) from rfl)
   have hpl := blk_lt HB.out.pat
   have hok : okW (rwOf X) p.i p.l p.h = decide (p.l ≤ c.f2.f1 ∧ c.f2.f0 ≤ p.h) := by rw [HC.out]; rfl
   have hgp : (rwOf X).gap p.i = true := by show (rd_T49 X.r (p.i : Int)).f1 = true; rw [← HC.out]; exact hg
   have hin : decide (p.i < (rwOf X).n) = true := decide_eq_true HLT.out
   have HSB := Aside0.mk (show shutB (rwOf X) p = decide (p.l ≤ c.f2.f1 ∧ c.f2.f0 ≤ p.h) by unfold shutB; rw [hin, hgp, hok]; rfl)
   clear hok hgp hin
   by_cases hk : p.l ≤ c.f2.f1 ∧ c.f2.f0 ≤ p.h
   ·have HK := Aside0.mk (show shutB (rwOf X) p = true by rw [HSB.out]; exact decide_eq_true hk)
    have hk1 : decide (c.f2.f1 < p.l) = false := decide_eq_false (by omega)
    have hk2 : decide (p.h < c.f2.f0) = false := decide_eq_false (by omega)
    have hfl : p.fs.length < 3 := HFS.out HLT.out hg
    have hfl3 : (p.fs.length : Int) < 3 := by omega
    have hcf : wy.cell? ⟨w.heap.size, 4 + p.fs.length, none⟩ = some (.int .i64 (fG p.fs p.fs.length)) := by
     rw [blk_cell HB.out.pat]
     match p.fs.length, hfl with
     | 0, _ => rfl
     | 1, _ => rfl
     | 2, _ => rfl
    have hff := blk_frozen HB.out.pat (4 + p.fs.length)
    clear hk
    go_upto_region 7 with fail
    refine wp_gen (fun wz => Aside0 (Below w.heap.size w wz) ∧ Aside0 (wz.heap[w.heap.size]? = some (.cells (pD p) 154 (0, 0))) ∧ Aside0 (∃ q : Nat → Int, wz.heap[w.heap.size + 1]? = some (.cells #[.int .i64 (q 0), .int .i64 (q 1), .int .i64 (q 2), .int .i64 (q 3), .int .i64 (q 4), .int .i64 (q 5), .int .i64 (q 6), .int .i64 (q 7)] 154 (0, 0)))) ⟨⟨HB.out.below.setCell (Nat.le_refl _) _⟩, ⟨HB.out.pat.fill hfl⟩, ⟨by
     obtain ⟨q, hq⟩ := HB.out.res
     exact ⟨q, blk_far hq (by simp) _⟩⟩⟩ ?_
    clear HB HW e0 e1 e2 e3 e4 e5 e6 e7 w0 w1 hpl hcf hff
    rintro wz ⟨HB, HP, HR⟩
    obtain ⟨q, hq⟩ := HR.out
    obtain ⟨⟨q0, q1, q2, q3, q4, q5, q6, q7⟩, f0, f1, f2, f3, f4, f5, f6, f7⟩ := res_cells hq
    have hql := blk_lt hq
    have HQ := Aside0.mk hq
    clear hq
    obtain ⟨⟨e0, e1, e2, e3, e4, e5, e6, e7⟩, g0, g1, g2, g3, g4, g5, g6, g7⟩ := cells8 (show wz.heap[w.heap.size]? = some (.cells #[_, _, _, _, _, _, _, _] 154 (0, 0)) from HP.out)
    have hpl := blk_lt HP.out
    go_wp2_with fail
    have hsp : shutP (rwOf X) p = ⟨p.i + 1, 0, 0, 0, p.fs ++ [(p.m : Int)]⟩ := if_pos HK.out
    refine bodyPost_ret (results_ct rfl _ _ (w.heap.size + 1) 154 _ (0, 0) _ rfl (set8_blk (set5_far HQ.out (by simp) _ _ _ _ _) _ _ _ _ _ _ _ _) Try.underlying154 rfl (by kernel_rfl)) rfl ⟨?_, set8_below (set5_below HB.out (Nat.le_refl _) _ _ _ _ _) (by omega) _ _ _ _ _ _ _ _⟩
    rw [HK.out, hsp]
    simp only [List.length_append, List.length_cons, List.length_nil]
    rfl
   ·have HK := Aside0.mk (show shutB (rwOf X) p = false by rw [HSB.out]; exact decide_eq_false hk)
    have hkd : decide (c.f2.f1 < p.l) = true ∨ (decide (c.f2.f1 < p.l) = false ∧ decide (p.h < c.f2.f0) = true) := by
     by_cases h : c.f2.f1 < p.l
     ·exact .inl (decide_eq_true h)
     ·exact .inr ⟨decide_eq_false h, decide_eq_true (by omega)⟩
    clear hk
    obtain ⟨q, hq⟩ := HB.out.res
    obtain ⟨⟨q0, q1, q2, q3, q4, q5, q6, q7⟩, f0, f1, f2, f3, f4, f5, f6, f7⟩ := res_cells hq
    have hql := blk_lt hq
    have HQ := Aside0.mk hq
    clear hq
    have hsp : shutP (rwOf X) p = p := if_neg (by rw [HK.out]; decide)
    have HSP := Aside0.mk hsp
    clear hsp
    rcases hkd with hk1 | ⟨hk1, hk2⟩
    all_goals
     go_wp2_with fail
     refine bodyPost_ret (results_ct rfl _ _ (w.heap.size + 1) 154 _ (0, 0) _ rfl (set8_blk HQ.out _ _ _ _ _ _ _ _) Try.underlying154 rfl (by kernel_rfl)) rfl ⟨?_, set8_below HB.out.below (by omega) _ _ _ _ _ _ _ _⟩
     rw [HK.out, HSP.out]
     rfl
 ·have hpi : p.i = X.r.length := by omega
  have h1 : ((p.i : Int) == (X.r.length : Int)) = true := by rw [hpi]; simp
  have HPI := Aside0.mk hpi
  clear hS hpi hlt hi
  unfold pC
  go_enter Try.func90, Try.ntmps90
  go_upto_region 1 with fail
  refine wp_gen (fun wx => Aside0 (PB w wx p)) ⟨PB.start w p⟩ ?_
  clear HP hc5 hbl
  rintro wx HB
  obtain ⟨e0, -⟩ := HB.out.pat.cells
  have hS2 := HS.out.below HB.out.below
  have hc5 := hS2.cell 5 hS2.e5
  have hbl := blk_lt hS2.blk
  clear hS2
  go_upto_region 2 with first | go_quiet (fail) | fail
  refine wp_gen (fun wx => Aside0 (PB w wx p)) ⟨HB.out.drewN _⟩ ?_
  clear HB e0 hc5 hbl
  rintro wx HB
  obtain ⟨e0, e1, e2, e3, e4, e5, e6, e7⟩ := HB.out.pat.cells
  obtain ⟨q, hq⟩ := HB.out.res
  obtain ⟨⟨q0, q1, q2, q3, q4, q5, q6, q7⟩, f0, f1, f2, f3, f4, f5, f6, f7⟩ := res_cells hq
  have hql := blk_lt hq
  have HQ := Aside0.mk hq
  clear hq
  go_wp2_with fail
  have hsf : shutB (rwOf X) p = false := by
   unfold shutB
   rw [show decide (p.i < (rwOf X).n) = false from decide_eq_false (by show ¬ p.i < X.r.length; have := HPI.out; omega)]
   rfl
  have hsp : shutP (rwOf X) p = p := if_neg (by rw [hsf]; decide)
  refine bodyPost_ret (results_ct rfl _ _ (w.heap.size + 1) 154 _ (0, 0) _ rfl (set8_blk HQ.out _ _ _ _ _ _ _ _) Try.underlying154 rfl (by kernel_rfl)) rfl ⟨?_, set8_below HB.out.below (by omega) _ _ _ _ _ _ _ _⟩
  rw [hsf, hsp]
  rfl
end Go.Proofs.Ytkfebceainedfaa.P.OwnGap
namespace Go.Proofs.Ytkfebceainedfaa.P.OwnGap
open Go.RowKit Go.Proofs.YtkfebceainedfaaW.PrintWords Go.Proofs.YtkfebceainedfaaW.PrintLast Go.Proofs.YtkfebceainedfaaW.PrintMore
open Go.Proofs.Ytkfebceainedfaa.OwnGap
set_option linter.unusedVariables false
set_option linter.unusedSimpArgs false
theorem Ev.if_pos' {α : Type} {c : Prop} [Decidable c] {g f : Nat → Option α} {r : α} (hc : c) (h : Ev g r) : Ev (fun k => if c then g k else f k) r := by simpa [hc] using h
theorem Ev.if_neg' {α : Type} {c : Prop} [Decidable c] {g f : Nat → Option α} {r : α} (hc : ¬ c) (h : Ev f r) : Ev (fun k => if c then g k else f k) r := by simpa [hc] using h
theorem wrap64_small {x : Int} (h0 : 0 ≤ x) (h1 : x < 4611686018427387904) : wrap64 x = x := by simp [wrap64]; omega
theorem wraps_u32 (n : Int) (h₀ : 0 ≤ n) (h₁ : n < 2 ^ 32) : IntKind.u32.wrap n = n := by rw [IntKind.wrap_u32]; omega
theorem has_mask (n j : Nat) (hn : n < 2 ^ 26) (hj : j < 26) : gap_letters_has.f (n : Int) (65 + (j : Int)) = some (n.testBit j) := by
 unfold gap_letters_has.f shr
 rw [show (65 + (j : Int) - 65) % 256 = (j : Int) by omega, Int.toNat_natCast, Nat.min_eq_left (by simp [IntKind.bits]; omega)]
 have e1 : ((n : Int) / 2 ^ j) = ((n >>> j : Nat) : Int) := by rw [Nat.shiftRight_eq_div_pow]; simp
 have hlt : n >>> j < 2 ^ 26 := by rw [Nat.shiftRight_eq_div_pow]; exact Nat.lt_of_le_of_lt (Nat.div_le_self _ _) hn
 rw [e1]
 have e2 := (bits_nat .u32 32 (by decide) wraps_u32 (n >>> j) 1 (by omega) (by decide)).1
 rw [show ((1 : Int)) = ((1 : Nat) : Int) from rfl, e2]
 unfold Nat.testBit
 congr 1
 have h4 : (n >>> j) &&& 1 = 0 ∨ (n >>> j) &&& 1 = 1 := by
  rw [Nat.and_one_is_mod]
  omega
 rw [Nat.and_comm 1]
 rcases h4 with h4 | h4 <;> rw [h4] <;> rfl
theorem with_mask (n j : Nat) (hn : n < 2 ^ 26) (hj : j < 26) : gap_letters_with.f (n : Int) (65 + (j : Int)) = some ((n ||| 2 ^ j : Nat) : Int) := by
 unfold gap_letters_with.f shl
 rw [show (65 + (j : Int) - 65) % 256 = (j : Int) by omega, Int.toNat_natCast, Nat.min_eq_left (by simp [IntKind.bits]; omega)]
 have hp : (2 : Nat) ^ j < 2 ^ 26 := Nat.pow_lt_pow_right (by decide) hj
 have e1 : (1 : Int) * 2 ^ j = ((2 ^ j : Nat) : Int) := by simp
 have hp2 : ((2 ^ j : Nat) : Int) < 2 ^ 32 := by
  have : ((2 ^ j : Nat) : Int) < ((2 ^ 26 : Nat) : Int) := by exact_mod_cast hp
  omega
 rw [e1, wraps_u32 _ (Int.natCast_nonneg _) hp2]
 have e2 := (bits_nat .u32 32 (by decide) wraps_u32 n (2 ^ j) (by omega) (by omega)).2
 rw [e2]
def maskF : Nat → List Int → Nat
 | n, [] => n
 | n, a :: l => maskF (n ||| 2 ^ (a - 65).toNat) l
def maskN (l : List Int) : Nat := maskF 0 l
theorem maskF_append : ∀ (l m : List Int) (n : Nat), maskF n (l ++ m) = maskF (maskF n l) m
 | [], _, _ => rfl
 | a :: l, m, n => maskF_append l m (n ||| 2 ^ (a - 65).toNat)
theorem maskF_lt : ∀ (l : List Int) (n : Nat), (∀ a ∈ l, 65 ≤ a ∧ a ≤ 90) → n < 2 ^ 26 → maskF n l < 2 ^ 26
 | [], _, _, h => h
 | a :: l, n, hl, h => maskF_lt l _ (fun b hb => hl b (List.mem_cons_of_mem _ hb)) (Nat.or_lt_two_pow h (by
   have := hl a (List.mem_cons_self ..)
   exact Nat.pow_lt_pow_right (by decide) (by omega)))
theorem maskF_bit : ∀ (l : List Int) (n j : Nat), (∀ a ∈ l, 65 ≤ a ∧ a ≤ 90) → (maskF n l).testBit j = (n.testBit j || l.contains (65 + (j : Int)))
 | [], n, j, _ => by simp [maskF]
 | a :: l, n, j, hl => by
  have ha := hl a (List.mem_cons_self ..)
  rw [maskF, maskF_bit l _ j (fun b hb => hl b (List.mem_cons_of_mem _ hb)), Nat.testBit_or, Nat.testBit_two_pow, List.contains_cons, Bool.or_assoc]
  congr 2
  rw [Bool.eq_iff_iff]
  simp only [decide_eq_true_eq, beq_iff_eq]
  omega
def ofV (s : ByteArray) : Int := if s.size = 0 then 67108863 else (maskN (bytesOf s) : Int)
def LetS (s : ByteArray) : Prop := ∀ k : Nat, k < s.size → 65 ≤ bt s (k : Int) ∧ bt s (k : Int) ≤ 90
theorem LetS.all {s : ByteArray} (hs : LetS s) : ∀ a ∈ bytesOf s, 65 ≤ a ∧ a ≤ 90 := by
 intro a ha
 obtain ⟨k, hk, rfl⟩ := List.mem_iff_getElem.1 ha
 have h1 := hs k (by rw [bytesOf_length] at hk; exact hk)
 rw [← rd_bytesOf] at h1
 simpa [rd, List.getD_eq_getElem?_getD, List.getElem?_eq_getElem hk] using h1
theorem ofV_has {s : ByteArray} (hs : LetS s) (a : Int) (h0 : 65 ≤ a) (h1 : a ≤ 90) : gap_letters_has.f (ofV s) a = some (fitB s a) := by
 obtain ⟨j, hj, rfl⟩ : ∃ j : Nat, j < 26 ∧ a = 65 + (j : Int) := ⟨(a - 65).toNat, by omega, by omega⟩
 unfold ofV fitB
 by_cases h : s.size = 0
 ·rw [if_pos h, h]
  have hb : ∀ j, j < 26 → (67108863 : Nat).testBit j = true := by decide
  rw [show (67108863 : Int) = ((67108863 : Nat) : Int) from rfl, has_mask _ j (by decide) hj, hb j hj]
  rfl
 ·rw [if_neg h, maskN, has_mask _ j (maskF_lt _ _ hs.all (by decide)) hj, maskF_bit _ _ _ hs.all, Nat.zero_testBit, Bool.false_or]
  rw [show (s.size == 0) = false from beq_eq_false_iff_ne.2 h, Bool.false_or]
theorem of_l0 (s : ByteArray) (hs : LetS s) (hz : s.size < 4611686018427387903) (g : Bool) (lo hi : Int) : ∀ (rem i : Nat), i + rem = s.size → Ev (fun k => gap_of.l0 k (maskF 0 ((bytesOf s).take i) : Nat) (s.size : Int) (i : Int) s g lo hi) ((maskN (bytesOf s) : Nat) : Int) := by
 intro rem
 induction rem with
 | zero =>
  intro i hi
  refine Ev.step (fun k => by rw [gap_of.l0]) ?_
  rw [List.take_of_length_le (by rw [bytesOf_length]; omega)]
  exact Ev.if_neg' (by omega) (Ev.now _)
 | succ rem ih =>
  intro i hi
  have hik : i < s.size := by omega
  refine Ev.step (fun k => by rw [gap_of.l0]) ?_
  refine Ev.if_pos' (by omega) (Ev.if_pos' (by omega) (Ev.if_pos' (by omega) ?_))
  obtain ⟨j, hj, ej⟩ : ∃ j : Nat, j < 26 ∧ bt s (i : Int) = 65 + (j : Int) := ⟨(bt s (i : Int) - 65).toNat, by have := hs i hik; omega, by have := hs i hik; omega⟩
  rw [ej, with_mask _ j (maskF_lt _ _ (fun a ha => hs.all a (List.mem_of_mem_take ha)) (by decide)) hj]
  simp only [Option.bind_some]
  have h2 := ih (i + 1) (by omega)
  have e2 : maskF 0 ((bytesOf s).take (i + 1)) = maskF 0 ((bytesOf s).take i) ||| 2 ^ j := by
   have hl : i < (bytesOf s).length := by rw [bytesOf_length]; exact hik
   rw [List.take_add_one, List.getElem?_eq_getElem hl, maskF_append]
   show maskF 0 ((bytesOf s).take i) ||| 2 ^ ((bytesOf s)[i] - 65).toNat = _
   have : (bytesOf s)[i] = 65 + (j : Int) := by
    rw [← ej, ← rd_bytesOf]
    simp [rd, List.getD_eq_getElem?_getD, List.getElem?_eq_getElem hl]
   rw [this]
   congr 2
   omega
  rw [e2] at h2
  rw [show wrap64 ((i : Int) + 1) = ((i + 1 : Nat) : Int) by rw [wrap64_small (by omega) (by omega)]; omega]
  exact h2
theorem nil_size (s : ByteArray) : s.toList = ([] : List UInt8) ↔ s.size = 0 := by
 rw [Go.ByteArray.toList_eq, ← List.length_eq_zero_iff]
 rfl
theorem of_ev (s : ByteArray) (hs : LetS s) (hz : s.size < 4611686018427387903) (g : Bool) (lo hi : Int) : Ev (fun k => gap_of.f k s g lo hi) (ofV s) := by
 unfold gap_of.f ofV
 by_cases h : s.size = 0
 ·rw [if_pos h]
  exact Ev.if_pos' ((nil_size s).2 h) (Ev.now _)
 ·rw [if_neg h]
  exact Ev.if_neg' (fun e => h ((nil_size s).1 e)) (of_l0 s hs hz g lo hi s.size 0 (by omega))
end Go.Proofs.Ytkfebceainedfaa.P.OwnGap
namespace Go.Proofs.Ytkfebceainedfaa.P.OwnGap
open Go.Shelf
def lays169_ren : Go.Shelf.Ren := ⟨fun | 169 => 67 | n => n, fun | 70 => 112 | 9 => 9 | 0 => 0 | 72 => 114 | 37 => 67 | 127 => 145 | 3 => 3 | 5 => 5 | n => n, fun | n => n⟩
theorem lays169 : Go.Proofs.Lays.n169 Try.prog lays169_ren := {
 mixed := by kernel_rfl
 f169 := Try.func67.trans (congrArg some (by kernel_rfl))
 t0 := Try.underlying0
 a0 := Try.isAgg0
 z0 := Try.sizeOf0
 v0 := Try.zeroValue0
 t3 := Try.underlying3
 a3 := Try.isAgg3
 z3 := Try.sizeOf3
 v3 := Try.zeroValue3
 t9 := Try.underlying9
 a9 := Try.isAgg9
 z9 := Try.sizeOf9
 v9 := Try.zeroValue9
 t37 := Try.underlying67
 a37 := Try.isAgg67
 z37 := Try.sizeOf67
 v37 := Try.zeroValue67
 t70 := Try.underlying112
 a70 := Try.isAgg112
 z70 := Try.sizeOf112
 v70 := Try.zeroValue112
 t72 := Try.underlying114
 a72 := Try.isAgg114
 z72 := Try.sizeOf114
 v72 := Try.zeroValue114
 t127 := Try.underlying145
 a127 := Try.isAgg145
 z127 := Try.sizeOf145
 v127 := Try.zeroValue145 }
theorem Builder_Extra_169 : Go.Proofs.Builder.Extra Try.prog lays169_ren := {
 sizeBuilder := by kernel_rfl
 liesBuilder := by kernel_rfl
 t5 := Try.underlying5
 a5 := Try.isAgg5
 z5 := Try.sizeOf5
 v5 := Try.zeroValue5
 infoByte := by kernel_rfl
 cellsByte := by kernel_rfl
 sizeByte := by kernel_rfl
 neB5 := by decide }
open Go.RowKit in
theorem Builder_String_any (B b : Nat) (l : List UInt8) (w : World) (h : Lib.IsBuilder 114 5 B b (Lib.byteCells l) w) (hBw : B ≤ w.heap.size) :
  Calls Try.prog 67 #[.pointer (some ⟨b, 0, none⟩)] w fun e w' => e = .returned (.string ⟨l.toArray⟩) ∧ Below B w w' := Any.Builder_String_any lays169 Builder_Extra_169 B b l w h hBw
open Go.RowKit Go.Proofs.YtkfebceainedfaaW.PrintWords Go.Proofs.YtkfebceainedfaaW.PrintLast Go.Proofs.YtkfebceainedfaaW.PrintMore
set_option linter.unusedVariables false
set_option linter.unusedSimpArgs false
set_option maxHeartbeats 1000000 in
set_option maxRecDepth 100000 in
theorem copyCheck_calls (B b : Nat) (bs : List Value) (w : World) (h : Lib.IsBuilder 114 5 B b bs w) :
  Calls Try.prog 84 #[.pointer (some ⟨b, 0, none⟩)] w fun e w' => e = .returned (.tuple #[]) ∧ Lib.BuilderAt 114 5 B b (.pointer (some ⟨b, 0, none⟩)) bs w' ∧ Below B w w' ∧ w'.heap.size = w.heap.size := by
 have hinf : (Try.prog.info? 114).map (·.size) = some 2 := by kernel_rfl
 obtain ⟨j, hj, hjs⟩ := Option.map_eq_some_iff.1 hinf
 have hlies : liesAt Try.prog Try.prog.depth 114 (2 / Try.prog.cellsOf 114) 0 114 1 = true := by kernel_rfl
 rcases h with h | h
 ·have c0 := h.cell0
  have f0 := h.frozen0
  have hsh := h.shape
  have hlt := h.lt
  have H := Aside0.mk h
  clear h
  go_enter Try.func84, Try.ntmps84
  go_wp2
  rw [Lib.run_to_unsafe w ⟨b, 0, none⟩ Try.underlying112 Try.underlying166 hj (by rw [hjs]; decide) hsh (Nat.zero_lt_succ 1)]
  simp only [Result.andThen]
  rw [Oper.upon_value]
  go_wp2
  rw [run_callFunc_extern Try.func103 (by kernel_rfl) (by kernel_rfl) (by kernel_rfl) (e := Extern.AbiNoEscape.same) (by kernel_rfl), Lib.run_noEscape]
  simp only [Result.andThen]
  rw [Oper.upon_value]
  go_wp2
  rw [Lib.run_from_unsafe w ⟨b, 0, none⟩ Try.underlying166 Try.underlying112 hj hsh hlies]
  simp only [Result.andThen]
  rw [Oper.upon_value]
  go_wp2
  go_end0
  exact ⟨rfl, H.out.used _, (Below.refl B w).setCell (p := ⟨b, 0, none⟩) H.out.1 _, by simp [World.setCell]⟩
 ·have c0 := h.cell0
  have H := Aside0.mk h
  clear h
  go_enter Try.func84, Try.ntmps84
  go_wp2
  rw [Lib.run_neq_ptr_same w _ Try.underlying112 hj]
  go_wp2
  go_end0
  exact ⟨rfl, H.out, Below.refl B _, rfl⟩
theorem byte_info : ∃ i0, Try.prog.info? 5 = some i0 ∧ i0.zero = some (.int .u8 0) ∧ i0.size = 1 ∧ i0.bytes = 1 := by
 have hinf : (Try.prog.info? 5).map (fun i => (i.zero, i.size, i.bytes)) = some (some (.int .u8 0), 1, 1) := by kernel_rfl
 rw [Option.map_eq_some_iff] at hinf
 obtain ⟨inf, e1, e2⟩ := hinf
 injection e2 with e2 e3
 injection e3 with e3 e4
 exact ⟨inf, e1, e2, e3, e4⟩
theorem row1 (w : World) (x : Value) (t : TypeId) : ∀ j u, [x][j]? = some u → (w.alloc (.cells #[x] t)).cell? ((⟨w.heap.size, 0, none⟩ : Addr).add j) = some u := by
 intro j u hj
 have h0 : j = 0 := by
  have := (List.getElem?_eq_some_iff.1 hj).1
  simpa using this
 subst h0
 rw [← hj]
 exact blk_cell (blk_new w _) 0
theorem bld_grown {w1 w2 : World} {b t : Nat} {p v : Value} (h : w1.heap[b]? = some (.cells #[p, v] t (0, 0))) (hne : v.ownBlock ≠ some b) (o : Obj) (hg : (w1.alloc o).grownBy w2 v.ownBlock) : w2.heap[b]? = some (.cells #[p, v] t (0, 0)) := by
 have hlt := blk_lt h
 rw [hg.block b (by simp; omega) (fun e => hne e.symm), Below.heap_alloc w1 o b hlt]
 exact h
set_option maxHeartbeats 1000000 in
set_option maxRecDepth 100000 in
theorem writeByte_calls (B b : Nat) (bs : List Value) (c : Int) (w : World) (h : Lib.IsBuilder 114 5 B b bs w) (hl : bs.length ≤ 1000000) (hBw : B ≤ w.heap.size) :
  Calls Try.prog 66 #[.pointer (some ⟨b, 0, none⟩), .int .u8 c] w fun e w' => e = .returned .nilIface ∧ Lib.IsBuilder 114 5 B b (bs ++ [.int .u8 c]) w' ∧ Below B w w' ∧ w.heap.size ≤ w'.heap.size := by
 obtain ⟨i0, hi, hz0, hz1, hz2⟩ := byte_info
 go_enter Try.func66, Try.ntmps66
 have HBS := Aside0.mk hl
 have HBW := Aside0.mk hBw
 have HINF := Aside0.mk (And.intro hi (And.intro hz0 (And.intro hz1 hz2)))
 have H := Aside0.mk h
 clear h hl hBw hi hz0 hz1 hz2
 go_wp2_with (first
  | (go_at_call 84; refine (copyCheck_calls B b bs w H.out).mono ?_; rintro e w1 ⟨rfl, h1, hb1, hs1⟩; have HS1 := Aside0.mk hs1; have HB1 := Aside0.mk hb1; clear hs1 hb1; obtain ⟨hB, v, hbk, hown, hne⟩ := h1; have c0 := (blk_cell hbk 0).trans (show (#[Value.pointer (some ⟨b, 0, none⟩), v] : Array Value)[0]? = some _ from rfl); have c1 := (blk_cell hbk 1).trans (show (#[Value.pointer (some ⟨b, 0, none⟩), v] : Array Value)[1]? = some _ from rfl); have hlt := blk_lt hbk; have HBK := Aside0.mk hbk; have HOWN := Aside0.mk hown; have HNE := Aside0.mk hne; have HBB := Aside0.mk hB; clear hbk hown hne hB)
  | (at_builtin; refine wpList_append_own _ rfl _ _ 67 rfl B 5 i0 (.int .u8 0) 1 1 Try.underlying67 HINF.out.1 HINF.out.2.1 HINF.out.2.2.1 HINF.out.2.2.2 rfl (by decide) _ _ _ rfl (HOWN.out.alloc _) ⟨w1.heap.size, 0, none⟩ 1 1 [.int .u8 c] rfl rfl (row1 w1 (.int .u8 c) 5) (by intro u hu; simp at hu; subst hu; rfl) (by have := HBS.out; unfold maxLen; omega) (by have := HBS.out; omega) (by have := HBW.out; have := HS1.out; simp; omega) ?_; intro v' w2 hown' hgrow _; have HV2 := Aside0.mk (bld_grown HBK.out HNE.out (.cells #[.int .u8 c] 5) hgrow); have d1 := (blk_cell HV2.out 1).trans (show (#[Value.pointer (some ⟨b, 0, none⟩), v] : Array Value)[1]? = some _ from rfl); have f1 := blk_frozen HV2.out 1; obtain ⟨A2, c2, e2⟩ := own_slice hown'; subst e2; have HO2 := Aside0.mk hown'; have HG2 := Aside0.mk hgrow; clear hown' hgrow)
  | fail)
 go_ret
 have hg3 : (w1.alloc (.cells #[.int .u8 c] 5)).grownBy w2 v.ownBlock := HG2.out
 refine ⟨rfl, .inr ?_, ((HB1.out.alloc (by have := HBW.out; have := HS1.out; omega) _).grown hg3 (by have := HBW.out; have := HS1.out; simp; omega) (fun k hk => (HOWN.out.lt k hk).1)).setCell (p := ⟨b, 1, none⟩) HBB.out _, ?_⟩
 ·exact Lib.BuilderAt.put HBB.out HV2.out (bs' := bs ++ [.int .u8 c]) (by rw [List.length_append]; exact HO2.out) (by decide)
 ·have h1 := HG2.out.size
  have h2 := HS1.out
  simp [World.setCell] at h1 ⊢
  omega
set_option maxHeartbeats 1000000 in
set_option maxRecDepth 100000 in
theorem writeString_calls (B b : Nat) (bs : List Value) (s : ByteArray) (w : World) (h : Lib.IsBuilder 114 5 B b bs w) (hl : bs.length + s.size ≤ 1000000) (hBw : B ≤ w.heap.size) :
  Calls Try.prog 82 #[.pointer (some ⟨b, 0, none⟩), .string s] w fun e w' => e = .returned (.tuple #[.int .i64 s.size, .nilIface]) ∧ Lib.IsBuilder 114 5 B b (bs ++ Lib.strCells s) w' ∧ Below B w w' ∧ w.heap.size ≤ w'.heap.size := by
 obtain ⟨i0, hi, hz0, hz1, hz2⟩ := byte_info
 go_enter Try.func82, Try.ntmps82
 have HBS := Aside0.mk hl
 have HBW := Aside0.mk hBw
 have HINF := Aside0.mk (And.intro hi (And.intro hz0 (And.intro hz1 hz2)))
 have H := Aside0.mk h
 clear h hl hBw hi hz0 hz1 hz2
 go_wp2_with (first
  | (go_at_call 84; refine (copyCheck_calls B b bs w H.out).mono ?_; rintro e w1 ⟨rfl, h1, hb1, hs1⟩; have HS1 := Aside0.mk hs1; have HB1 := Aside0.mk hb1; clear hs1 hb1; obtain ⟨hB, v, hbk, hown, hne⟩ := h1; have c0 := (blk_cell hbk 0).trans (show (#[Value.pointer (some ⟨b, 0, none⟩), v] : Array Value)[0]? = some _ from rfl); have c1 := (blk_cell hbk 1).trans (show (#[Value.pointer (some ⟨b, 0, none⟩), v] : Array Value)[1]? = some _ from rfl); have hlt := blk_lt hbk; have HBK := Aside0.mk hbk; have HOWN := Aside0.mk hown; have HNE := Aside0.mk hne; have HBB := Aside0.mk hB; clear hbk hown hne hB)
  | (at_builtin; refine Lib.wpList_append_own_string _ rfl _ _ 67 9 rfl B 5 i0 Try.underlying67 Try.underlying9 HINF.out.1 HINF.out.2.1 HINF.out.2.2.1 HINF.out.2.2.2 _ _ _ rfl HOWN.out s rfl (by have := HBS.out; unfold maxLen; omega) (by have := HBS.out; omega) (by have := HBW.out; have := HS1.out; omega) ?_; intro v' w2 hown' hgrow _; have HV2 := Aside0.mk (show w2.heap[b]? = some (.cells #[.pointer (some ⟨b, 0, none⟩), v] 114 (0, 0)) by rw [hgrow.block b hlt (fun e => HNE.out e.symm)]; exact HBK.out); have d1 := (blk_cell HV2.out 1).trans (show (#[Value.pointer (some ⟨b, 0, none⟩), v] : Array Value)[1]? = some _ from rfl); have f1 := blk_frozen HV2.out 1; obtain ⟨A2, c2, e2⟩ := own_slice hown'; subst e2; have HO2 := Aside0.mk hown'; have HG2 := Aside0.mk hgrow; clear hown' hgrow)
  | fail)
 go_ret2
 have hg3 : w1.grownBy w2 v.ownBlock := HG2.out
 refine ⟨rfl, .inr ?_, (HB1.out.grown hg3 (by have := HBW.out; have := HS1.out; omega) (fun k hk => (HOWN.out.lt k hk).1)).setCell (p := ⟨b, 1, none⟩) HBB.out _, ?_⟩
 ·exact Lib.BuilderAt.put HBB.out HV2.out (bs' := bs ++ Lib.strCells s) (by rw [List.length_append, Lib.strCells_length]; exact HO2.out) (by decide)
 ·have h1 := HG2.out.size
  have h2 := HS1.out
  simp [World.setCell] at h1 ⊢
  omega
end Go.Proofs.Ytkfebceainedfaa.P.OwnGap
namespace Go.Proofs.Ytkfebceainedfaa.P.OwnGap
open Go.RowKit Go.Shelf Go.Proofs.YtkfebceainedfaaW.PrintWords Go.Proofs.YtkfebceainedfaaW.PrintLast Go.Proofs.YtkfebceainedfaaW.PrintMore
open Go.Proofs.Ytkfebceainedfaa.OwnGap
set_option linter.unusedVariables false
set_option linter.unusedSimpArgs false
def txtF (n j : Nat) : List UInt8 := ((List.range j).filter n.testBit).map fun i => UInt8.ofNat (65 + i)
theorem txtF_succ (n j : Nat) : txtF n (j + 1) = txtF n j ++ (if n.testBit j = true then [UInt8.ofNat (65 + j)] else []) := by
 unfold txtF
 rw [List.range_succ, List.filter_append, List.map_append]
 congr 1
 by_cases h : n.testBit j = true <;> simp [h]
theorem txtF_len (n j : Nat) : (txtF n j).length ≤ j := by
 unfold txtF
 rw [List.length_map]
 exact Nat.le_trans (List.length_filter_le _ _) (by simp)
def textV (n : Nat) : ByteArray := ⟨(txtF n 26).toArray⟩
theorem byteCells_snoc (l : List UInt8) (j : Nat) (hj : j < 26) : Lib.byteCells l ++ [Value.int .u8 (65 + (j : Int))] = Lib.byteCells (l ++ [UInt8.ofNat (65 + j)]) := by
 unfold Lib.byteCells
 rw [List.map_append]
 congr 1
 simp
 omega
theorem builder_new (w : World) : Lib.IsBuilder 114 5 w.heap.size w.heap.size (Lib.byteCells []) (w.alloc (.cells #[.pointer none, .slice none 0 0] 114)) :=
 .inl ⟨Nat.le_refl _, .slice none 0 0, blk_new w _, ⟨rfl, .inl ⟨rfl, rfl⟩⟩, by simp [Value.ownBlock]⟩
theorem bld_next {B b : Nat} {bs : List Value} {W W' : World} (h : Lib.IsBuilder 114 5 B b bs W) (hb : Below W.heap.size W W') : Lib.IsBuilder 114 5 B b bs W' := by
 have go : ∀ p, Lib.BuilderAt 114 5 B b p bs W → Lib.BuilderAt 114 5 B b p bs W' := by
  rintro p ⟨h1, v, h2, h3, h4⟩
  exact ⟨h1, v, blk_below h2 hb, own_move h3 (fun k hk => hb.block k (by obtain ⟨_, hc⟩ := own_typed h3 k hk; exact blk_lt hc)), h4⟩
 rcases h with h | h
 ·exact .inl (go _ h)
 ·exact .inr (go _ h)
set_option maxHeartbeats 2000000 in
set_option maxRecDepth 100000 in
theorem text_calls (n : Nat) (hn : n < 2 ^ 26) (w : World) : Calls Try.prog 59 #[.int .u32 (n : Int)] w fun e w' => e = .returned (.string (textV n)) ∧ Below w.heap.size w w' := by
 have HN := Aside0.mk hn
 have HB0 := Aside0.mk (builder_new w)
 have HW0 := Aside0.mk ((Below.refl w.heap.size w).alloc (Nat.le_refl _) (.cells #[.pointer none, .slice none 0 0] 114))
 have HZ0 := Aside0.mk (show w.heap.size ≤ (w.alloc (.cells #[.pointer none, .slice none 0 0] 114)).heap.size by simp)
 clear hn
 go_enter Try.func59, Try.ntmps59
 go_wp2_with fail
 go_loopg [4] 26 (fun k s4 wr => ∃ j : Nat, j + k = 26 ∧ s4 = .int .u8 (65 + (j : Int)) ∧ Aside0 (Lib.IsBuilder 114 5 w.heap.size w.heap.size (Lib.byteCells (txtF n j)) wr) ∧ Aside0 (Below w.heap.size w wr ∧ w.heap.size ≤ wr.heap.size))
 case atStart => exact ⟨0, by omega, rfl, HB0, ⟨HW0.out, HZ0.out⟩⟩
 case round =>
  obtain ⟨j, hj, rfl, HB, HW⟩ := hrel
  have HJN := Aside0.mk hj
  by_cases hlt : j < 26
  ·have hle : (65 + (j : Int)) ≤ 90 := by omega
   have hld : decide (65 + (j : Int) ≤ 90) = true := decide_eq_true hle
   have HLT := Aside0.mk hlt
   have HTS := Aside0.mk (txtF_succ n j)
   have HTL := Aside0.mk (show (Lib.byteCells (txtF n j)).length ≤ 26 by unfold Lib.byteCells; rw [List.length_map]; exact Nat.le_trans (txtF_len n j) (by omega))
   cases hb : n.testBit j with
   | true =>
    have HBT := Aside0.mk hb
    clear hb hj
    go_wp2_with first | (go_at_call 81; refine (gap_letters_has.calls _ _ _ _ (has_mask n j HN.out HLT.out)).mono ?_; rintro e w1 ⟨rfl, hd⟩; rw [HBT.out]; have HD := Aside0.mk hd.below; have HB1 := Aside0.mk (bld_next HB.out hd.below); clear hd) | (go_at_call 66; refine (writeByte_calls w.heap.size w.heap.size (Lib.byteCells (txtF n j)) (65 + (j : Int)) w1 HB1.out (by have := HTL.out; omega) (Nat.le_trans HW.out.2 HD.out.size)).mono ?_; rintro e w2 ⟨rfl, hb2, hw2, hs2⟩; have HB2 := Aside0.mk (show Lib.IsBuilder 114 5 w.heap.size w.heap.size (Lib.byteCells (txtF n (j + 1))) w2 by rw [HTS.out, HBT.out, if_pos rfl, ← byteCells_snoc _ _ HLT.out]; exact hb2); have HW2 := Aside0.mk (show Below w.heap.size w w2 ∧ w.heap.size ≤ w2.heap.size from ⟨(HW.out.1.trans (HD.out.mono HW.out.2)).trans hw2, Nat.le_trans (Nat.le_trans HW.out.2 HD.out.size) hs2⟩); clear hb2 hw2 hs2) | fail
    go_roundg (gk - 1)
    case measure => have := HJN.out; have := HLT.out; omega
    case rel => exact ⟨j + 1, by have := HJN.out; have := HLT.out; omega, by congr 1, HB2, HW2⟩
   | false =>
    have HBT := Aside0.mk hb
    clear hb hj
    go_wp2_with first | (go_at_call 81; refine (gap_letters_has.calls _ _ _ _ (has_mask n j HN.out HLT.out)).mono ?_; rintro e w1 ⟨rfl, hd⟩; rw [HBT.out]; have HD := Aside0.mk hd.below; have HB1 := Aside0.mk (show Lib.IsBuilder 114 5 w.heap.size w.heap.size (Lib.byteCells (txtF n (j + 1))) w1 by rw [HTS.out, HBT.out, if_neg (by simp), List.append_nil]; exact bld_next HB.out hd.below); have HW2 := Aside0.mk (show Below w.heap.size w w1 ∧ w.heap.size ≤ w1.heap.size from ⟨HW.out.1.trans (hd.below.mono HW.out.2), Nat.le_trans HW.out.2 hd.below.size⟩); clear hd) | fail
    go_roundg (gk - 1)
    case measure => have := HJN.out; have := HLT.out; omega
    case rel => exact ⟨j + 1, by have := HJN.out; have := HLT.out; omega, by congr 1, HB1, HW2⟩
  ·have h26 : j = 26 := by omega
   subst h26
   go_wp2_with first | (go_at_call 67; refine (Builder_String_any w.heap.size w.heap.size (txtF n 26) wr HB.out HW.out.2).mono ?_; rintro e w2 ⟨rfl, hb2⟩; have HB2 := Aside0.mk (HW.out.1.trans hb2); clear hb2) | fail
   go_ret
   exact ⟨rfl, HB2.out⟩
end Go.Proofs.Ytkfebceainedfaa.P.OwnGap
namespace Go.Proofs.Ytkfebceainedfaa.P.OwnGap
open Go.RowKit Go.Proofs.YtkfebceainedfaaW.PrintWords Go.Proofs.YtkfebceainedfaaW.PrintLast Go.Proofs.YtkfebceainedfaaW.PrintMore
open Go.Proofs.Ytkfebceainedfaa.OwnGap
set_option linter.unusedVariables false
set_option linter.unusedSimpArgs false
abbrev kI : Kd Int := Kd.int .i64
def kP : Kd Pth := Kd.iso (Kd.pair kI (Kd.pair kI (Kd.pair kI (Kd.pair kI (Kd.pair kI (Kd.pair kI (Kd.pair kI kI))))))) (fun p : Pth => ((p.i : Int), (p.m : Int), p.l, p.h, fG p.fs 0, fG p.fs 1, fG p.fs 2, (p.fs.length : Int)))
def pL (p : Pth) : List Value := [.int .i64 (p.i : Int), .int .i64 (p.m : Int), .int .i64 p.l, .int .i64 p.h, .int .i64 (fG p.fs 0), .int .i64 (fG p.fs 1), .int .i64 (fG p.fs 2), .int .i64 (p.fs.length : Int)]
theorem kP_mkM (w : World) (base : Nat) (ok : Nat → Prop) (p : Pth) : kP.M w base ok p (pL p) :=
 ⟨[_], _, rfl, rfl, [_], _, rfl, rfl, [_], _, rfl, rfl, [_], _, rfl, rfl, [_], _, rfl, rfl, [_], _, rfl, rfl, [_], [_], rfl, rfl, rfl⟩
theorem kP_openM {w : World} {base : Nat} {ok : Nat → Prop} {p : Pth} {cs : List Value} (h : kP.M w base ok p cs) : cs = pL p := by
 obtain ⟨_, _, rfl, rfl, _, _, rfl, rfl, _, _, rfl, rfl, _, _, rfl, rfl, _, _, rfl, rfl, _, _, rfl, rfl, _, _, rfl, rfl, rfl⟩ := h
 rfl
theorem kP_open {w : World} {p : Pth} {cs : List Value} (h : kP.K w p cs) : cs = pL p := by
 obtain ⟨_, _, rfl, rfl, _, _, rfl, rfl, _, _, rfl, rfl, _, _, rfl, rfl, _, _, rfl, rfl, _, _, rfl, rfl, _, _, rfl, rfl, rfl⟩ := h
 rfl
structure OkP (X : Lx) (p : Pth) : Prop where
 i : p.i ≤ X.r.length
 m : p.m ≤ 10
 l0 : 0 ≤ p.l
 l1 : p.l ≤ p.m * 1000
 h0 : 0 ≤ p.h
 h1 : p.h ≤ p.m * 1000
 g : p.fs.length + ((List.range' p.i (X.r.length - p.i)).filter (rwOf X).gap).length ≤ 3
structure OkX (X : Lx) (fits : List Int) : Prop where
 n : X.r.length ≤ 1000
 w : ∀ a : Int, 65 ≤ a → a ≤ 90 → 0 ≤ (rd_T47 X.l4 (a - 65)).f0 ∧ (rd_T47 X.l4 (a - 65)).f0 ≤ 1000 ∧ 0 ≤ (rd_T47 X.l4 (a - 65)).f1 ∧ (rd_T47 X.l4 (a - 65)).f1 ≤ 1000
 f : ∀ i : Nat, i < X.r.length → ∀ a : Int, 65 ≤ a → a ≤ 90 → gap_letters_has.f (rd fits (i : Int)) a = some (fitB (rd_T49 X.r (i : Int)).f0 a)
structure PL (w wx : World) (p : Pth) : Prop where
 below : Below w.heap.size w wx
 pat : PAt wx w.heap.size p
theorem PL.start (w : World) (p : Pth) : PL w (w.alloc (.cells (pC p) 154)) p := ⟨(Below.refl _ _).alloc (Nat.le_refl _) _, blk_new w _⟩
theorem PL.drewN {w wx : World} {p : Pth} (h : PL w wx p) (n : Nat) : PL w (wx.drewN n) p := ⟨pw_below_drewN h.below n, h.pat⟩
theorem PL.alloc {w wx : World} {p : Pth} (h : PL w wx p) (o : Obj) : PL w (wx.alloc o) p := ⟨h.below.alloc (by have := h.below.size; omega) _, blk_alloc h.pat _⟩
theorem PL.drew {w wx : World} {p : Pth} (h : PL w wx p) : PL w wx.drew p := ⟨h.below.drew, h.pat⟩
theorem PL.next {w wx wy : World} {p : Pth} (h : PL w wx p) (hb : Below wx.heap.size wx wy) : PL w wy p := ⟨h.below.trans (hb.mono h.below.size), blk_below h.pat hb⟩
theorem set4 {W : World} {b : Nat} {p : Pth} (h : PAt W b p) (u0 u1 u2 u3 : Value) : ((((W.setCell ⟨b, 0, none⟩ u0).setCell ⟨b, 1, none⟩ u1).setCell ⟨b, 2, none⟩ u2).setCell ⟨b, 3, none⟩ u3).heap[b]? = some (.cells #[u0, u1, u2, u3, .int .i64 (fG p.fs 0), .int .i64 (fG p.fs 1), .int .i64 (fG p.fs 2), .int .i64 (p.fs.length : Int)] 154 (0, 0)) := by
 have s0 := blk_set h 0 u0
 have s1 := blk_set s0 1 u1
 have s2 := blk_set s1 2 u2
 have s3 := blk_set s2 3 u3
 rw [s3]
 rfl
theorem set4_below {n : Nat} {w0 W : World} {b : Nat} (h : Below n w0 W) (hb : n ≤ b) (u0 u1 u2 u3 : Value) : Below n w0 ((((W.setCell ⟨b, 0, none⟩ u0).setCell ⟨b, 1, none⟩ u1).setCell ⟨b, 2, none⟩ u2).setCell ⟨b, 3, none⟩ u3) :=
 (((h.setCell hb _).setCell hb _).setCell hb _).setCell hb _
def PR (w wx : World) (v : Value) (l : List Pth) : Prop := kP.R 154 wx w.heap.size (fun _ => True) v l
theorem set3 {W : World} {b : Nat} {p : Pth} (h : PAt W b p) (u1 u2 u3 : Value) : (((W.setCell ⟨b, 1, none⟩ u1).setCell ⟨b, 2, none⟩ u2).setCell ⟨b, 3, none⟩ u3).heap[b]? = some (.cells #[.int .i64 (p.i : Int), u1, u2, u3, .int .i64 (fG p.fs 0), .int .i64 (fG p.fs 1), .int .i64 (fG p.fs 2), .int .i64 (p.fs.length : Int)] 154 (0, 0)) := by
 have s1 := blk_set h 1 u1
 have s2 := blk_set s1 2 u2
 have s3 := blk_set s2 3 u3
 rw [s3]
 rfl
theorem set3_below {n : Nat} {w0 W : World} {b : Nat} (h : Below n w0 W) (hb : n ≤ b) (u1 u2 u3 : Value) : Below n w0 (((W.setCell ⟨b, 1, none⟩ u1).setCell ⟨b, 2, none⟩ u2).setCell ⟨b, 3, none⟩ u3) :=
 ((h.setCell hb _).setCell hb _).setCell hb _
theorem R_low {W : World} {n : Nat} {v : Value} {l : List Pth} (h : kP.R 154 W (n + 1) (fun _ => True) v l) (u1 u2 u3 : Value) : kP.R 154 (((W.setCell ⟨n, 1, none⟩ u1).setCell ⟨n, 2, none⟩ u2).setCell ⟨n, 3, none⟩ u3) (n + 1) (fun _ => True) v l := by
 have hk : ∀ k, (True ∧ n + 1 ≤ k ∧ k < W.heap.size ∧ ∃ q, q ∈ 154 :: kP.E ∧ ∃ cells, W.heap[k]? = some (.cells cells q (0, 0))) → k ≠ n := fun k h => by have := h.2.1; omega
 exact Kd.R_mono (Kd.R_far (Kd.R_far (Kd.R_far (Kd.R_bound h) hk u1) hk u2) hk u3) (fun _ _ => trivial)
theorem letterF_length (R : Rw) (a : Int) : ∀ (rem i m : Nat) (l h : Int) (fs : List Int), (letterF R rem i m l h fs a).length ≤ rem
 | 0, _, _, _, _, _ => by rw [letterF]; exact Nat.le_refl _
 | rem + 1, i, m, l, h, fs => by
  have ih := letterF_length R a rem (i + 1) 0 0 0 (fs ++ [(m : Int)])
  rw [letterF_succ]
  split
  ·split
   ·simp
   ·simp
  ·rw [List.length_append]
   have h1 : (if okW R i l h = true then letterF R rem (i + 1) 0 0 0 (fs ++ [(m : Int)]) a else []).length ≤ rem := by
    split
    ·exact ih
    ·exact Nat.zero_le _
   have h2 : (if m + 1 ≤ 10 ∧ l + R.wl a ≤ R.hi i then [(⟨i, m + 1, l + R.wl a, h + R.wh a, fs⟩ : Pth)] else []).length ≤ 1 := by
    split <;> simp
   omega
end Go.Proofs.Ytkfebceainedfaa.P.OwnGap
namespace Go.Proofs.Ytkfebceainedfaa.P.OwnGap
open Go.RowKit Go.Proofs.YtkfebceainedfaaW.PrintWords Go.Proofs.YtkfebceainedfaaW.PrintLast Go.Proofs.YtkfebceainedfaaW.PrintMore
open Go.Proofs.Ytkfebceainedfaa.OwnGap
set_option linter.unusedVariables false
set_option linter.unusedSimpArgs false
def zP : Pth := ⟨0, 0, 0, 0, []⟩
theorem at_P {w : World} {A : Option Addr} {n : Nat} {xs : List Pth} (h : Kd.C kP w A n xs) (j : Nat) (h1 : j < n) : ∃ ad, A = some ad ∧ w.cell? (ad.add (j * 8)) = some (.int .i64 ((xs.getD j zP).i : Int)) ∧ w.cell? ⟨(ad.add (j * 8)).block, (ad.add (j * 8)).off + 1, none⟩ = some (.int .i64 ((xs.getD j zP).m : Int)) ∧ w.cell? ⟨(ad.add (j * 8)).block, (ad.add (j * 8)).off + 2, none⟩ = some (.int .i64 (xs.getD j zP).l) ∧ w.cell? ⟨(ad.add (j * 8)).block, (ad.add (j * 8)).off + 3, none⟩ = some (.int .i64 (xs.getD j zP).h) ∧ w.cell? ⟨(ad.add (j * 8)).block, (ad.add (j * 8)).off + 4, none⟩ = some (.int .i64 (fG (xs.getD j zP).fs 0)) ∧ w.cell? ⟨(ad.add (j * 8)).block, (ad.add (j * 8)).off + 5, none⟩ = some (.int .i64 (fG (xs.getD j zP).fs 1)) ∧ w.cell? ⟨(ad.add (j * 8)).block, (ad.add (j * 8)).off + 6, none⟩ = some (.int .i64 (fG (xs.getD j zP).fs 2)) ∧ w.cell? ⟨(ad.add (j * 8)).block, (ad.add (j * 8)).off + 7, none⟩ = some (.int .i64 ((xs.getD j zP).fs.length : Int)) := by
  obtain ⟨ad, c, e, _, hK, hc0⟩ := Kd.C_get h zP (j : Int) (by omega) (by omega)
  have hc : ∀ t u, c[t]? = some u → w.cell? (ad.add (j * 8 + t)) = some u := hc0
  obtain rfl := kP_open hK
  exact ⟨ad, e, hc 0 _ rfl, by rw [← add_field _ _ 1 (by omega)]; exact hc 1 _ rfl, by rw [← add_field _ _ 2 (by omega)]; exact hc 2 _ rfl, by rw [← add_field _ _ 3 (by omega)]; exact hc 3 _ rfl, by rw [← add_field _ _ 4 (by omega)]; exact hc 4 _ rfl, by rw [← add_field _ _ 5 (by omega)]; exact hc 5 _ rfl, by rw [← add_field _ _ 6 (by omega)]; exact hc 6 _ rfl, by rw [← add_field _ _ 7 (by omega)]; exact hc 7 _ rfl⟩
def wk (X : Lx) (l : List Pth) (text : ByteArray) (k : Nat) : List Pth := wordF (rwOf X) l ((bytesOf text).take k)
theorem wk_succ (X : Lx) (l : List Pth) (text : ByteArray) (k : Nat) (hk : k < text.size) : wk X l text (k + 1) = (wk X l text k).flatMap (letterP (rwOf X) · (bt text (k : Int))) := by
  have h1 : (bytesOf text)[k]? = some (bt text (k : Int)) := by
    unfold bytesOf
    rw [List.getElem?_map]
    have h2 : text.data.toList[k]? = some (text[k]'hk) := by
      rw [Array.getElem?_toList]
      exact Array.getElem?_eq_getElem hk
    rw [h2]
    show some (((text[k]'hk).toNat : Nat) : Int) = _
    have := bt_at text (k : Int) (by simpa using hk)
    simp only [Int.toNat_natCast] at this
    rw [this]
  unfold wk
  rw [List.take_add_one, h1, wordF_append]
  rfl
theorem wk_all (X : Lx) (l : List Pth) (text : ByteArray) : wk X l text text.size = wordF (rwOf X) l (bytesOf text) := by
  unfold wk
  rw [← bytesOf_length, List.take_length]
theorem R_next {W W' : World} {n : Nat} {v : Value} {l : List Pth} (h : kP.R 154 W n (fun _ => True) v l) (hb : Below W.heap.size W W') : kP.R 154 W' n (fun _ => True) v l := Kd.R_step h (fun k _ hk => hb.block k hk)
structure RelW (X : Lx) (w wr : World) (l : List Pth) (text : ByteArray) (k : Nat) (v : Value) : Prop where
  row : ∃ A c, v = .slice A (wk X l text k).length c ∧ (wk X l text k).length ≤ c ∧ Kd.C kP wr A (wk X l text k).length (wk X l text k)
  own : 0 < k → PR w wr v (wk X l text k)
  below : Below w.heap.size w wr
structure RelV (X : Lx) (wi wr : World) (lk : List Pth) (a : Int) (j : Nat) (v : Value) : Prop where
  own : PR wi wr v ((lk.take j).flatMap (letterP (rwOf X) · a))
  below : Below wi.heap.size wi wr
set_option maxHeartbeats 4000000 in
set_option maxRecDepth 100000 in
theorem word_calls (X : Lx) (S : SV) (fits : List Int) (hn : X.r.length ≤ 1000)
    (HLET : Aside0 (∀ (a : Int), 65 ≤ a → a ≤ 90 → ∀ (p : Pth) (w : World), SrW X S fits w → OkP X p → Calls Try.prog 91 #[.pointer (some ⟨S.b, 0, none⟩), .agg (pC p), .int .u8 a] w fun e w' => ∃ v, e = .returned v ∧ PR w w' v (letterP (rwOf X) p a) ∧ Below w.heap.size w w'))
    (text : ByteArray) (hpos : 0 < text.size) (h64 : text.size ≤ 1000) (HT : Aside0 (∀ k : Nat, k < text.size → 65 ≤ bt text (k : Int) ∧ bt text (k : Int) ≤ 90))
    (A : Option Addr) (c : Nat) (l : List Pth) (hlc : l.length ≤ c) (w : World) (hS : SrW X S fits w) (hrow : Kd.C kP w A l.length l)
    (HOK : Aside0 (∀ k, k ≤ text.size → (wk X l text k).length ≤ 1000000000 ∧ ∀ q ∈ wk X l text k, OkP X q)) :
    Calls Try.prog 99 #[.pointer (some ⟨S.b, 0, none⟩), .slice A l.length c, .string text] w fun e w' => ∃ v, e = .returned v ∧ PR w w' v (wordF (rwOf X) l (bytesOf text)) ∧ Below w.heap.size w w' := by
  have HS := Aside0.mk hS
  have HROW := Aside0.mk hrow
  clear hS hrow
  go_enter Try.func99, Try.ntmps99
  go_wp2
  go_loopw [1, 13] (fun v1 v13 wr => ∃ k : Nat, v13 = .int .i64 k ∧ k ≤ text.size ∧ Aside0 (RelW X w wr l text k v1)) (fun v1 v13 wr => text.size - (intOf v13).toNat)
  case atStart => exact ⟨0, rfl, by omega, ⟨⟨⟨A, c, rfl, hlc, HROW.out⟩, fun h => absurd h (Nat.lt_irrefl _), Below.refl _ _⟩⟩⟩
  case round =>
    obtain ⟨k, rfl, hk, HR⟩ := hrel
    by_cases hlt : k < text.size
    · obtain ⟨A1, c1, rfl, hc1, hr1⟩ := HR.out.row
      have HB := Aside0.mk HR.out.below
      have HK := Aside0.mk (HOK.out k hk)
      have HK1 := Aside0.mk (HOK.out (k + 1) hlt)
      obtain ⟨a, ha⟩ : ∃ a, a = bt text (k : Int) := ⟨_, rfl⟩
      have HA := Aside0.mk (show 65 ≤ a ∧ a ≤ 90 by rw [ha]; exact HT.out k hlt)
      obtain ⟨lk, hlk⟩ : ∃ lk, lk = wk X l text k := ⟨_, rfl⟩
      have HK2 := Aside0.mk (show wk X l text (k + 1) = lk.flatMap (letterP (rwOf X) · a) by rw [hlk, ha]; exact wk_succ X l text k hlt)
      rw [← hlk] at hr1 hc1 HK
      rw [← hlk]
      have HR1 := Aside0.mk hr1
      have HBT := Aside0.mk ha
      have hlk3 := HK.out.1
      clear HR hlk hr1 ha
      rename World => wo
      go_wp2
      go_loopw [8, 18] (fun v8 v18 wi => ∃ j : Nat, v18 = .int .i64 j ∧ j ≤ lk.length ∧ Aside0 (RelV X wo wi lk a j v8)) (fun v8 v18 wi => lk.length - (intOf v18).toNat)
      case atStart => exact ⟨0, rfl, by omega, ⟨⟨Kd.R_nil _ _ _ _ _, Below.refl _ _⟩⟩⟩
      case round =>
        obtain ⟨j, rfl, hj, HV⟩ := hrel
        by_cases hjl : j < lk.length
        · obtain ⟨ad, rfl, e0, e1, e2, e3, e4, e5, e6, e7⟩ := at_P (Kd.C_below HR1.out HV.out.below) j hjl
          obtain ⟨q, hq⟩ : ∃ q, q = lk.getD j zP := ⟨_, rfl⟩
          rw [← hq] at e0 e1 e2 e3 e4 e5 e6 e7
          have hqm : q ∈ lk := by
            rw [hq, List.getD_eq_getElem?_getD, List.getElem?_eq_getElem hjl]
            exact List.getElem_mem hjl
          have HQ := Aside0.mk (show OkP X q from HK.out.2 q hqm)
          have HTK := Aside0.mk (show (lk.take (j + 1)).flatMap (letterP (rwOf X) · a) = (lk.take j).flatMap (letterP (rwOf X) · a) ++ letterP (rwOf X) q a by
            rw [List.take_add_one, List.flatMap_append, hq, List.getD_eq_getElem?_getD, List.getElem?_eq_getElem hjl]
            simp)
          have HLEN := Aside0.mk (show ((lk.take j).flatMap (letterP (rwOf X) · a)).length + (letterP (rwOf X) q a).length ≤ 1000000000 by
            have h1 := HK1.out.1
            rw [HK2.out, ← List.take_append_drop (j + 1) lk, List.flatMap_append, HTK.out] at h1
            simp only [List.length_append] at h1
            omega)
          clear hq hqm
          have hpl := World.block_lt_of_cell? wr _ e0
          have hjl2 : (j : Int) < (lk.length : Int) := by omega
          go_upto_region 8 with fail
          refine wp_gen (fun wx => Aside0 (PR wo wx u8 ((lk.take j).flatMap (letterP (rwOf X) · a))) ∧ Aside0 (Below wo.heap.size wo wx) ∧ Aside0 (wx.heap[wr.heap.size]? = some (.cells (pC q) 154 (0, 0)))) ⟨⟨Kd.R_alloc HV.out.own _⟩, ⟨HV.out.below.alloc HV.out.below.size _⟩, ⟨blk_new wr _⟩⟩ ?_
          obtain ⟨b10, hb10⟩ : ∃ b, b = wr.heap.size := ⟨_, rfl⟩
          rw [← hb10]
          clear e0 e1 e2 e3 e4 e5 e6 e7 hpl HV
          rintro wx ⟨HO, HBX, H10⟩
          obtain ⟨⟨e0, e1, e2, e3, e4, e5, e6, e7⟩, -⟩ := cells8 (show wx.heap[b10]? = some (.cells #[_, _, _, _, _, _, _, _] 154 (0, 0)) from H10.out)
          have hpl := blk_lt H10.out
          have hbtr : ((text[k]'hlt).toNat : Int) = a := by
            have := bt_at text (k : Int) (by simpa using hlt)
            simp only [Int.toNat_natCast] at this
            rw [this, HBT.out]
          have HLC := Aside0.mk (fun (W : World) (h : SrW X S fits W) => HLET.out a HA.out.1 HA.out.2 q W h HQ.out)
          clear hb10
          go_region_law (first
            | (rw [if_pos (by rfl)]; go_simp; go_at_call 91; refine (HLC.out _ (HS.out.below ((HB.out.trans (HBX.out.mono HB.out.size)).drew))).mono ?_; rintro e w3 ⟨v, rfl, hv, hB3⟩; obtain ⟨Av, cv, rfl, -, hrv⟩ := Kd.R_reads hv; have HRV := Aside0.mk hrv; have HOV := Aside0.mk (R_next (Kd.R_drew HO.out) hB3); have HBV := Aside0.mk (HBX.out.drew.trans (hB3.mono HBX.out.drew.size)); clear hv hB3 hrv)
            | (refine Kd.R_append_rows_step kP (w0 := wo) (Rr := fun x cs => cs = pL x) wo.heap.size rfl (.tmp 22) (.tmp 28) 157 154 (.agg #[(.int .i64 0), (.int .i64 0), (.int .i64 0), (.int .i64 0), (.int .i64 0), (.int .i64 0), (.int .i64 0), (.int .i64 0)]) 64 rfl Try.underlying157 (by kernel_rfl) rfl (by decide) (by omega) u8 ((lk.take j).flatMap (letterP (rwOf X) · a)) (letterP (rwOf X) q a) Av (letterP (rwOf X) q a).length cv (fun _ => True) (fun _ => False) rfl rfl ?_ ?_ (fun x cs h => h ▸ kP_mkM _ _ _ _) (fun _ h => h.elim) (fun _ _ => trivial) ?_ ?_ ?_ ?_
               · exact HOV.out
               · exact HRV.out.imp_ (Below.refl _ _) (fun _ _ hp => kP_open hp)
               · exact HBV.out
               · exact HBV.out.size
               · have := HLEN.out; omega
               intro vv wv hov hbv hgv hav
               have HO4 := Aside0.mk hov
               have HB4 := Aside0.mk hbv
               clear hov hbv hgv hav))
          all_goals
            go_wp2_with fail
            refine ⟨⟨j + 1, by go_num, hjl, ⟨⟨by rw [HTK.out]; exact HO4.out, HB4.out⟩⟩⟩, ?_⟩
            simp [intOf]
            omega
        · have hje : j = lk.length := by omega
          have hjl2 : ¬ (j : Int) < (lk.length : Int) := by omega
          go_wp2_with fail
          have hall : (lk.take j).flatMap (letterP (rwOf X) · a) = wk X l text (k + 1) := by rw [hje, List.take_length, HK2.out]
          have hown := HV.out.own
          rw [hall] at hown
          obtain ⟨A2, c2, e2, hl2, hr2⟩ := Kd.R_reads hown
          refine ⟨⟨k + 1, by go_num, hlt, ⟨⟨⟨A2, c2, e2, hl2, hr2⟩, fun _ => Kd.R_lower hown HB.out.size, HB.out.trans (HV.out.below.mono HB.out.size)⟩⟩⟩, ?_⟩
          simp [intOf]
          omega
    · have hke : k = text.size := by omega
      have HRR := Aside0.mk (HR.out.own (by omega))
      have HB := Aside0.mk HR.out.below
      rw [hke, wk_all] at HRR
      clear HR
      go_wp2_with fail
      go_ret
      exact ⟨_, rfl, HRR.out, HB.out⟩
end Go.Proofs.Ytkfebceainedfaa.P.OwnGap
namespace Go.Proofs.Ytkfebceainedfaa.P.OwnGap
open Go.RowKit Go.Shelf Go.Proofs.YtkfebceainedfaaW.PrintWords Go.Proofs.YtkfebceainedfaaW.PrintLast Go.Proofs.YtkfebceainedfaaW.PrintMore
open Go.Proofs.Ytkfebceainedfaa.OwnGap
set_option linter.unusedVariables false
set_option linter.unusedSimpArgs false
def idxV (V : Pth → Bool) : List Pth → Int
 | [] => -1
 | p :: l => if V p = true then 0 else if idxV V l = -1 then -1 else idxV V l + 1
theorem idxV_none {V : Pth → Bool} : ∀ {l : List Pth}, (∀ p ∈ l, V p = false) → idxV V l = -1
 | [], _ => rfl
 | p :: l, h => by
  rw [idxV, if_neg (by rw [h p (by simp)]; decide), if_pos (idxV_none (fun q hq => h q (by simp [hq])))]
theorem idxV_first {V : Pth → Bool} : ∀ {l : List Pth} (k : Nat), k < l.length → V (l.getD k zP) = true → (∀ j, j < k → V (l.getD j zP) = false) → idxV V l = (k : Int)
 | [], k, hk, _, _ => absurd hk (Nat.not_lt_zero _)
 | p :: l, 0, _, h, _ => by rw [idxV, if_pos (by simpa using h)]; rfl
 | p :: l, k + 1, hk, h, h0 => by
  have h1 : V p = false := by simpa using h0 0 (by omega)
  have ih := idxV_first (l := l) k (by simpa using hk) (by simpa using h) (fun j hj => by simpa using h0 (j + 1) (by omega))
  rw [idxV, if_neg (by rw [h1]; decide), ih, if_neg (by omega)]
  omega
theorem idxV_cases (V : Pth → Bool) : ∀ l : List Pth, (idxV V l = -1 ∧ ∀ p ∈ l, V p = false) ∨ (∃ k : Nat, idxV V l = (k : Int) ∧ k < l.length ∧ V (l.getD k zP) = true ∧ ∀ j, j < k → V (l.getD j zP) = false)
 | [] => .inl ⟨rfl, by simp⟩
 | p :: l => by
  by_cases hp : V p = true
  ·exact .inr ⟨0, by rw [idxV, if_pos hp]; rfl, by simp, by simpa using hp, fun j hj => absurd hj (Nat.not_lt_zero _)⟩
  ·have hp' : V p = false := by simpa using hp
   rcases idxV_cases V l with ⟨e, h⟩ | ⟨k, e, hk, h, h0⟩
   ·refine .inl ⟨by rw [idxV, if_neg hp, if_pos e], fun q hq => ?_⟩
    rcases List.mem_cons.1 hq with rfl | hq
    ·exact hp'
    ·exact h q hq
   ·refine .inr ⟨k + 1, by rw [idxV, if_neg hp, if_neg (by omega), e]; omega, by simpa using hk, by simpa using h, fun j hj => ?_⟩
    cases j with
    | zero => simpa using hp'
    | succ j => simpa using h0 j (by omega)
theorem idxV_any (V : Pth → Bool) (l : List Pth) : decide (0 ≤ idxV V l) = l.any V := by
 rcases idxV_cases V l with ⟨e, h⟩ | ⟨k, e, hk, h, _⟩
 ·rw [e, show l.any V = false by rw [List.any_eq_false]; intro q hq; rw [h q hq]; decide]
  rfl
 ·rw [e, show l.any V = true by
   rw [List.any_eq_true]
   refine ⟨l.getD k zP, ?_, h⟩
   rw [List.getD_eq_getElem?_getD, List.getElem?_eq_getElem hk]
   exact List.getElem_mem hk]
  exact decide_eq_true (by omega)
def PredP (g : Nat) (lb : Array Value) (V : Pth → Bool) (I : World → Prop) (l : List Pth) : Prop :=
 ∀ q ∈ l, ∀ W, I W → Calls Try.prog g (#[.agg (pC q)] ++ lb) W fun e W' => e = .returned (.bool (V q)) ∧ I W'
set_option maxHeartbeats 2000000 in
set_option maxRecDepth 100000 in
theorem index_calls (g : Nat) (lb : Array Value) (eg : ∀ args w, (callFunc g args).run Try.prog w = .ok (.enter g args) w) (V : Pth → Bool) (I : World → Prop) (A : Option Addr) (c : Nat) (l : List Pth) (hl : l.length ≤ 1000000000) (w : World) (hI : I w) (hrow : ∀ W, I W → Kd.C kP W A l.length l) (hp : PredP g lb V I l) :
  Calls Try.prog 107 #[.slice A l.length c, .func (.func g) #[] lb] w fun e w' => e = .returned (.int .i64 (idxV V l)) ∧ I w' := by
 have HI := Aside0.mk hI
 have HROW := Aside0.mk hrow
 have HP := Aside0.mk hp
 clear hI hrow hp
 go_enter Try.func107, Try.ntmps107
 go_wp2
 go_loopg [5, 8] l.length (fun k _ s8 wr => ∃ kk : Nat, kk + k = l.length ∧ s8 = .int .i64 kk ∧ Aside0 (I wr) ∧ Aside0 (∀ j, j < kk → V (l.getD j zP) = false))
 case atStart => exact ⟨0, by omega, rfl, HI, ⟨fun j hj => absurd hj (Nat.not_lt_zero _)⟩⟩
 case round =>
  obtain ⟨kk, hkk, rfl, HW, HV⟩ := hrel
  have HKK := Aside0.mk hkk
  clear HI
  by_cases hlt : kk < l.length
  ·have hltz : (kk : Int) < (l.length : Int) := by omega
   obtain ⟨ad, rfl, e0, e1, e2, e3, e4, e5, e6, e7⟩ := at_P (HROW.out wr HW.out) kk hlt
   obtain ⟨q, hq⟩ : ∃ q, q = l.getD kk zP := ⟨_, rfl⟩
   rw [← hq] at e0 e1 e2 e3 e4 e5 e6 e7
   have hqm : q ∈ l := by
    rw [hq, List.getD_eq_getElem?_getD, List.getElem?_eq_getElem hlt]
    exact List.getElem_mem hlt
   have HC := Aside0.mk (HP.out q hqm wr HW.out)
   have HQ := Aside0.mk hq
   have hadl := World.block_lt_of_cell? wr _ e0
   clear hq hqm hkk
   obtain ⟨v, hv⟩ : ∃ v, v = V q := ⟨_, rfl⟩
   have HV1 := Aside0.mk hv
   rw [← hv] at HC
   clear hv
   cases v with
   | true =>
    go_wp2_with (go_at_fn g; refine HC.out.mono ?_; rintro e w' ⟨rfl, hw'⟩; have HW' := Aside0.mk hw'; clear hw')
    go_ret
    refine ⟨?_, HW'.out⟩
    rw [idxV_first kk hlt (by rw [← HQ.out]; exact HV1.out.symm) HV.out]
    rfl
   | false =>
    go_wp2_with (go_at_fn g; refine HC.out.mono ?_; rintro e w' ⟨rfl, hw'⟩; have HW' := Aside0.mk hw'; clear hw')
    go_roundg (gk - 1)
    case measure => have := HKK.out; omega
    case rel =>
     refine ⟨kk + 1, by have := HKK.out; omega, by go_num, HW', ⟨fun j hj => ?_⟩⟩
     by_cases e : j = kk
     ·subst e
      rw [← HQ.out]
      exact HV1.out.symm
     ·exact HV.out j (by omega)
  ·have hltz : ¬ (kk : Int) < (l.length : Int) := by omega
   go_wp2_with fail
   go_ret
   refine ⟨?_, HW.out⟩
   rw [idxV_none (fun p hpm => by
    obtain ⟨j, hj, rfl⟩ := List.mem_iff_getElem.1 hpm
    have := HV.out j (by omega)
    rwa [List.getD_eq_getElem?_getD, List.getElem?_eq_getElem hj] at this)]
   rfl
set_option maxHeartbeats 2000000 in
theorem contains_calls (g : Nat) (lb : Array Value) (eg : ∀ args w, (callFunc g args).run Try.prog w = .ok (.enter g args) w) (V : Pth → Bool) (I : World → Prop) (A : Option Addr) (c : Nat) (l : List Pth) (hl : l.length ≤ 1000000000) (w : World) (hI : I w) (hrow : ∀ W, I W → Kd.C kP W A l.length l) (hp : PredP g lb V I l) :
  Calls Try.prog 108 #[.slice A l.length c, .func (.func g) #[] lb] w fun e w' => e = .returned (.bool (l.any V)) ∧ I w' := by
 have HC := Aside0.mk (index_calls g lb eg V I A c l hl w hI hrow hp)
 clear hI hrow hp
 obtain ⟨x, hx⟩ : ∃ x, x = idxV V l := ⟨_, rfl⟩
 obtain ⟨b, hb⟩ : ∃ b, b = l.any V := ⟨_, rfl⟩
 have HB := Aside0.mk (show decide (0 ≤ x) = b by rw [hx, hb]; exact idxV_any V l)
 rw [← hb]
 rw [← hx] at HC
 clear hb hx
 go_enter Try.func108, Try.ntmps108
 go_wp2_with (go_at_call 107; refine HC.out.mono ?_; rintro e w' ⟨rfl, hw'⟩; have HW' := Aside0.mk hw'; clear hw')
 go_ret
 refine ⟨?_, HW'.out⟩
 rw [← HB.out]
 rfl
end Go.Proofs.Ytkfebceainedfaa.P.OwnGap
namespace Go.Proofs.Ytkfebceainedfaa.P.OwnGap
open Go.RowKit Go.Maps Go.Proofs.YtkfebceainedfaaW.PrintWords Go.Proofs.YtkfebceainedfaaW.PrintLast Go.Proofs.YtkfebceainedfaaW.PrintMore
set_option linter.unusedVariables false
set_option linter.unusedSimpArgs false
theorem laidOut : laidOutB Try.prog = true := by kernel_rfl
theorem law139 : Keyed Try.prog 139 := Keyed.of_law (deep_law_laid laidOut (m := 20) (by decide) (of_decide_eq_true (by kernel_rfl)) (by kernel_rfl) (by kernel_rfl))
theorem law151 : Keyed Try.prog 151 := Keyed.of_law (deep_law_laid laidOut (m := 20) (by decide) (of_decide_eq_true (by kernel_rfl)) (by kernel_rfl) (by kernel_rfl))
def stV (i m l h k f : Int) : Value := .agg #[.int .i64 i, .int .i64 m, .int .i64 l, .int .i64 h, .int .i64 k, .int .i64 f]
def ptV (i m l h k f w a : Int) : Value := .agg #[.int .i64 i, .int .i64 m, .int .i64 l, .int .i64 h, .int .i64 k, .int .i64 f, .int .i64 w, .int .i64 a]
def w64 (n : Int) : Prop := -9223372036854775808 ≤ n ∧ n ≤ 9223372036854775807
theorem w64_wf {n : Int} (h : w64 n) : (Lit.int .i64 n).wf = true := by
 unfold w64 at h
 simp [Lit.wf, show IntKind.min .i64 = -9223372036854775808 from rfl, show IntKind.max .i64 = 9223372036854775807 from rfl]
 omega
theorem keyLits_int (P : Program) (h3 : P.underlying 3 = some (.int .i64)) (d : Nat) (n : Int) (hn : w64 n) : P.keyLits (d + 1) 3 [.int .i64 n] = some [.int .i64 n] := by
 unfold Program.keyLits
 rw [h3]
 simp only [w64_wf hn, and_self, if_true]
theorem keyLits_spot (P : Program) (h3 : P.underlying 3 = some (.int .i64)) (c3 : P.cellsOf 3 = 1) (c137 : P.cellsOf 137 = 4) (g1 g2 g3 g4 : Field) (hu : P.underlying 137 = some (.struct #[g1, g2, g3, g4]))
  (k1 : g1.name = "cell" ∧ g1.type = 3 ∧ g1.offset = 0) (k2 : g2.name = "many" ∧ g2.type = 3 ∧ g2.offset = 1) (k3 : g3.name = "low" ∧ g3.type = 3 ∧ g3.offset = 2) (k4 : g4.name = "high" ∧ g4.type = 3 ∧ g4.offset = 3)
  (d : Nat) (i m l h : Int) (hi : w64 i) (hm : w64 m) (hl : w64 l) (hh : w64 h) : P.keyLits (d + 1 + 1) 137 [.int .i64 i, .int .i64 m, .int .i64 l, .int .i64 h] = some [.int .i64 i, .int .i64 m, .int .i64 l, .int .i64 h] := by
 have q := keyLits_int P h3
 unfold Program.keyLits
 rw [hu]
 obtain ⟨n1, t1, o1⟩ := k1
 obtain ⟨n2, t2, o2⟩ := k2
 obtain ⟨n3, t3, o3⟩ := k3
 obtain ⟨n4, t4, o4⟩ := k4
 simp only [c137, List.length_cons, List.length_nil, List.mapM_cons, List.mapM_nil, t1, t2, t3, t4, o1, o2, o3, o4, c3, List.drop_zero, List.drop_succ_cons, List.take_succ_cons, List.take_zero, q _ _ hi, q _ _ hm, q _ _ hl, q _ _ hh]
 rw [if_pos (by refine ⟨trivial, ?_⟩; simp [n1, n2, n3, n4])]
 rfl
theorem keyLits_state (P : Program) (h3 : P.underlying 3 = some (.int .i64)) (c3 : P.cellsOf 3 = 1) (c137 : P.cellsOf 137 = 4) (g1 g2 g3 g4 : Field) (hu : P.underlying 137 = some (.struct #[g1, g2, g3, g4]))
  (k1 : g1.name = "cell" ∧ g1.type = 3 ∧ g1.offset = 0) (k2 : g2.name = "many" ∧ g2.type = 3 ∧ g2.offset = 1) (k3 : g3.name = "low" ∧ g3.type = 3 ∧ g3.offset = 2) (k4 : g4.name = "high" ∧ g4.type = 3 ∧ g4.offset = 3)
  (c139 : P.cellsOf 139 = 6) (f1 f2 f3 : Field) (hs : P.underlying 139 = some (.struct #[f1, f2, f3])) (j1 : f1.name = "spot" ∧ f1.type = 137 ∧ f1.offset = 0) (j2 : f2.name = "words" ∧ f2.type = 3 ∧ f2.offset = 4) (j3 : f3.name = "form" ∧ f3.type = 3 ∧ f3.offset = 5)
  (d : Nat) (i m l h k f : Int) (hi : w64 i) (hm : w64 m) (hl : w64 l) (hh : w64 h) (hk : w64 k) (hf : w64 f) : P.keyLits (d + 1 + 1 + 1) 139 [.int .i64 i, .int .i64 m, .int .i64 l, .int .i64 h, .int .i64 k, .int .i64 f] = some [.int .i64 i, .int .i64 m, .int .i64 l, .int .i64 h, .int .i64 k, .int .i64 f] := by
 have q := keyLits_int P h3
 have r := keyLits_spot P h3 c3 c137 g1 g2 g3 g4 hu k1 k2 k3 k4 d i m l h hi hm hl hh
 unfold Program.keyLits
 rw [hs]
 obtain ⟨n1, t1, o1⟩ := j1
 obtain ⟨n2, t2, o2⟩ := j2
 obtain ⟨n3, t3, o3⟩ := j3
 simp only [c139, c137, List.length_cons, List.length_nil, List.mapM_cons, List.mapM_nil, t1, t2, t3, o1, o2, o3, c3, List.drop_zero, List.drop_succ_cons, List.take_succ_cons, List.take_zero, r, q _ _ hk, q _ _ hf]
 rw [if_pos (by refine ⟨trivial, ?_⟩; simp [n1, n2, n3])]
 rfl
theorem keyOf_state (i m l h k f : Int) (hi : w64 i) (hm : w64 m) (hl : w64 l) (hh : w64 h) (hk : w64 k) (hf : w64 f) : ∃ t, keyOf Try.prog 139 (stV i m l h k f) = some t := by
 have hs : Try.prog.types.size + 1 = Try.prog.types.size - 2 + 1 + 1 + 1 := by kernel_rfl
 have h3 := keyLits_state Try.prog Try.underlying3 (by kernel_rfl) (by kernel_rfl) _ _ _ _ Try.underlying137 ⟨rfl, rfl, rfl⟩ ⟨rfl, rfl, rfl⟩ ⟨rfl, rfl, rfl⟩ ⟨rfl, rfl, rfl⟩ (by kernel_rfl) _ _ _ Try.underlying139 ⟨rfl, rfl, rfl⟩ ⟨rfl, rfl, rfl⟩ ⟨rfl, rfl, rfl⟩ (Try.prog.types.size - 2) i m l h k f hi hm hl hh hk hf
 rw [← hs] at h3
 have h1 : Try.prog.keyType 139 = true := by kernel_rfl
 have h2 : (stV i m l h k f).formed Try.prog 139 = true := by kernel_rfl
 refine ⟨.string (keyBytes [.int .i64 i, .int .i64 m, .int .i64 l, .int .i64 h, .int .i64 k, .int .i64 f]), ?_⟩
 unfold keyOf
 rw [Try.underlying139]
 simp only [h1, h2, Bool.and_self, if_true]
 rw [show (stV i m l h k f).cells.toList = [.int .i64 i, .int .i64 m, .int .i64 l, .int .i64 h, .int .i64 k, .int .i64 f] from rfl, h3]
 rfl
theorem keyLits_point (P : Program) (h3 : P.underlying 3 = some (.int .i64)) (c3 : P.cellsOf 3 = 1) (c139 : P.cellsOf 139 = 6) (c151 : P.cellsOf 151 = 8) (f1 f2 f3 : Field) (hs : P.underlying 151 = some (.struct #[f1, f2, f3])) (j1 : f1.name = "state" ∧ f1.type = 139 ∧ f1.offset = 0) (j2 : f2.name = "word" ∧ f2.type = 3 ∧ f2.offset = 6) (j3 : f3.name = "at" ∧ f3.type = 3 ∧ f3.offset = 7)
  (d : Nat) (i m l h k f w a : Int) (hw : w64 w) (ha : w64 a) (r : P.keyLits (d + 1 + 1 + 1) 139 [.int .i64 i, .int .i64 m, .int .i64 l, .int .i64 h, .int .i64 k, .int .i64 f] = some [.int .i64 i, .int .i64 m, .int .i64 l, .int .i64 h, .int .i64 k, .int .i64 f]) :
  P.keyLits (d + 1 + 1 + 1 + 1) 151 [.int .i64 i, .int .i64 m, .int .i64 l, .int .i64 h, .int .i64 k, .int .i64 f, .int .i64 w, .int .i64 a] = some [.int .i64 i, .int .i64 m, .int .i64 l, .int .i64 h, .int .i64 k, .int .i64 f, .int .i64 w, .int .i64 a] := by
 have q := keyLits_int P h3
 unfold Program.keyLits
 rw [hs]
 obtain ⟨n1, t1, o1⟩ := j1
 obtain ⟨n2, t2, o2⟩ := j2
 obtain ⟨n3, t3, o3⟩ := j3
 simp only [c151, c139, List.length_cons, List.length_nil, List.mapM_cons, List.mapM_nil, t1, t2, t3, o1, o2, o3, c3, List.drop_zero, List.drop_succ_cons, List.take_succ_cons, List.take_zero, r, q _ _ hw, q _ _ ha]
 rw [if_pos (by refine ⟨trivial, ?_⟩; simp [n1, n2, n3])]
 rfl
theorem keyOf_point (i m l h k f w a : Int) (hi : w64 i) (hm : w64 m) (hl : w64 l) (hh : w64 h) (hk : w64 k) (hf : w64 f) (hw : w64 w) (ha : w64 a) : ∃ t, keyOf Try.prog 151 (ptV i m l h k f w a) = some t := by
 have hs : Try.prog.types.size + 1 = Try.prog.types.size - 3 + 1 + 1 + 1 + 1 := by kernel_rfl
 have h4 := keyLits_state Try.prog Try.underlying3 (by kernel_rfl) (by kernel_rfl) _ _ _ _ Try.underlying137 ⟨rfl, rfl, rfl⟩ ⟨rfl, rfl, rfl⟩ ⟨rfl, rfl, rfl⟩ ⟨rfl, rfl, rfl⟩ (by kernel_rfl) _ _ _ Try.underlying139 ⟨rfl, rfl, rfl⟩ ⟨rfl, rfl, rfl⟩ ⟨rfl, rfl, rfl⟩ (Try.prog.types.size - 3) i m l h k f hi hm hl hh hk hf
 have h3 := keyLits_point Try.prog Try.underlying3 (by kernel_rfl) (by kernel_rfl) (by kernel_rfl) _ _ _ Try.underlying151 ⟨rfl, rfl, rfl⟩ ⟨rfl, rfl, rfl⟩ ⟨rfl, rfl, rfl⟩ (Try.prog.types.size - 3) i m l h k f w a hw ha h4
 rw [← hs] at h3
 have h1 : Try.prog.keyType 151 = true := by kernel_rfl
 have h2 : (ptV i m l h k f w a).formed Try.prog 151 = true := by kernel_rfl
 refine ⟨.string (keyBytes [.int .i64 i, .int .i64 m, .int .i64 l, .int .i64 h, .int .i64 k, .int .i64 f, .int .i64 w, .int .i64 a]), ?_⟩
 unfold keyOf
 rw [Try.underlying151]
 simp only [h1, h2, Bool.and_self, if_true]
 rw [show (ptV i m l h k f w a).cells.toList = [.int .i64 i, .int .i64 m, .int .i64 l, .int .i64 h, .int .i64 k, .int .i64 f, .int .i64 w, .int .i64 a] from rfl, h3]
 rfl
section
variable {P : Program}
def MemoAt (P : Program) (K : TypeId) (Φ : Value → Value → Prop) (W : World) (mb : Nat) : Prop :=
 ∃ es clock, W.heap[mb]? = some (.map es clock) ∧ ∀ e ∈ es.toList, (∃ l, keyOf P K e.key = some l) ∧ Φ e.key e.val
def MemoHas (W : World) (mb : Nat) (key : Value) : Prop := ∃ es clock, W.heap[mb]? = some (.map es clock) ∧ ∃ e ∈ es.toList, e.key = key
theorem MemoAt.new (K : TypeId) (Φ : Value → Value → Prop) (W : World) : MemoAt P K Φ (W.alloc (.map #[] 0)) W.heap.size := ⟨#[], 0, blk_new W _, by simp⟩
theorem MemoAt.keep {K : TypeId} {Φ : Value → Value → Prop} {W W' : World} {mb : Nat} (h : MemoAt P K Φ W mb) (hb : W'.heap[mb]? = W.heap[mb]?) : MemoAt P K Φ W' mb := by
 obtain ⟨es, c, h1, h2⟩ := h
 exact ⟨es, c, hb.trans h1, h2⟩
theorem MemoAt.look {K T E : TypeId} {Φ : Value → Value → Prop} {W : World} {mb : Nat} (h : MemoAt P K Φ W mb) (law : Keyed P K) (hT : P.underlying T = some (.map K E)) {z : Value} (hz : (zeroValue E).run P W = .ok z W) {key : Value} {l : Lit} (hk : keyOf P K key = some l) :
  ∃ v b, (∀ c : Bool, (Instr.lookup T (.map (some mb)) key c).run P W = .ok (if c = true then .tuple #[v, .bool b] else v) W) ∧ ((b = true ∧ Φ key v ∧ MemoHas W mb key) ∨ (b = false ∧ v = z ∧ ¬ MemoHas W mb key)) := by
 obtain ⟨es, ck, hb, hes⟩ := h
 have hchk := fun em => law.check W em hk
 have hg : (getObj mb).run P W = .ok (.map es ck) W := by simp [getObj, Sem.run, hb]
 rcases law.find W hk es.toList (fun e he => (hes e he).1) with ⟨hf, hno⟩ | ⟨j, e, hf, hj, hek⟩
 ·refine ⟨z, false, fun c => ?_, .inr ⟨rfl, rfl, ?_⟩⟩
  ·simp [Instr.lookup, run_underlying hT, Sem.run_bind, hg, hchk, hf, hz, Result.andThen]
  ·rintro ⟨es', c', hb', e, he, hke⟩
   rw [hb] at hb'
   cases hb'
   exact hno e he hke
 ·have hmem : e ∈ es.toList := List.mem_of_getElem? hj
  refine ⟨e.val, true, fun c => ?_, .inl ⟨rfl, hek ▸ (hes e hmem).2, ⟨es, ck, hb, e, hmem, hek⟩⟩⟩
  simp [Instr.lookup, run_underlying hT, Sem.run_bind, hg, hchk, hf, Result.andThen]
theorem MemoAt.update {K T E : TypeId} {Φ : Value → Value → Prop} {W : World} {mb : Nat} (h : MemoAt P K Φ W mb) (law : Keyed P K) (hT : P.underlying T = some (.map K E)) {key val : Value} {l : Lit} (hk : keyOf P K key = some l) (hv : Φ key val) :
  ∃ o, (Instr.mapUpdate T (.map (some mb)) key val).run P W = .ok () (W.putObj mb o) ∧ MemoAt P K Φ (W.putObj mb o) mb ∧ MemoHas (W.putObj mb o) mb key ∧ (∀ k', MemoHas W mb k' → MemoHas (W.putObj mb o) mb k') := by
 obtain ⟨es, ck, hb, hes⟩ := h
 have hchk := law.check W false hk
 have hg : (getObj mb).run P W = .ok (.map es ck) W := by simp [getObj, Sem.run, hb]
 have hlt : mb < W.heap.size := (Array.getElem?_eq_some_iff.1 hb).1
 have hset : ∀ o, (setObj mb o).run P W = .ok () (W.putObj mb o) := fun o => by simp [setObj, Sem.run, hb, World.putObj]
 rcases law.find W hk es.toList (fun e he => (hes e he).1) with ⟨hf, hno⟩ | ⟨j, e, hf, hj, hek⟩
 ·refine ⟨.map (es.push { key, val, born := ck }) (ck + 1), ?_, ⟨_, _, World.putObj_heap_same hlt, ?_⟩, ⟨_, _, World.putObj_heap_same hlt, { key, val, born := ck }, by simp, rfl⟩, ?_⟩
  ·simp [Instr.mapUpdate, run_underlying hT, Sem.run_bind, hg, hchk, hf, hset, Result.andThen]
  ·intro e he
   simp only [Array.toList_push, List.mem_append, List.mem_singleton] at he
   rcases he with he | rfl
   ·exact hes e he
   ·exact ⟨⟨l, hk⟩, hv⟩
  ·rintro k' ⟨es', c', hb', e, he, hke⟩
   rw [hb] at hb'
   cases hb'
   exact ⟨_, _, World.putObj_heap_same hlt, e, by simp only [Array.toList_push, List.mem_append]; exact .inl he, hke⟩
 ·have hst : (Instr.keyThatStays e.key key).run P W = .ok key W := by rw [hek]; exact law.stays W hk
  have hj' : es[j]? = some e := by simpa using hj
  have hjl : j < es.size := (Array.getElem?_eq_some_iff.1 hj').1
  refine ⟨.map (es.modify j fun e => { e with key, val }) ck, ?_, ⟨_, _, World.putObj_heap_same hlt, ?_⟩, ⟨_, _, World.putObj_heap_same hlt, { e with key, val }, ?_, rfl⟩, ?_⟩
  ·simp [Instr.mapUpdate, run_underlying hT, Sem.run_bind, hg, hchk, hf, hj', hst, hset, Result.andThen]
  ·intro x hx
   obtain ⟨i, hi⟩ := List.getElem?_of_mem hx
   rw [Array.getElem?_toList, Array.getElem?_modify] at hi
   split at hi
   ·rw [Option.map_eq_some_iff] at hi
    obtain ⟨y, _, rfl⟩ := hi
    exact ⟨⟨l, hk⟩, hv⟩
   ·exact hes x (List.mem_of_getElem? (by rw [Array.getElem?_toList]; exact hi))
  ·refine List.mem_of_getElem? (i := j) ?_
   rw [Array.getElem?_toList, Array.getElem?_modify, if_pos rfl, hj']
   rfl
  ·rintro k' ⟨es', c', hb', x, hx, hke⟩
   rw [hb] at hb'
   cases hb'
   obtain ⟨i, hi⟩ := List.getElem?_of_mem hx
   rw [Array.getElem?_toList] at hi
   by_cases hij : j = i
   ·subst hij
    rw [hj'] at hi
    cases hi
    refine ⟨_, _, World.putObj_heap_same hlt, { e with key, val }, List.mem_of_getElem? (i := j) ?_, ?_⟩
    ·rw [Array.getElem?_toList, Array.getElem?_modify, if_pos rfl, hj']
     rfl
    ·show key = k'
     rw [← hke, hek]
   ·refine ⟨_, _, World.putObj_heap_same hlt, x, List.mem_of_getElem? (i := i) ?_, hke⟩
    rw [Array.getElem?_toList, Array.getElem?_modify, if_neg hij]
    exact hi
end
end Go.Proofs.Ytkfebceainedfaa.P.OwnGap
namespace Go.Proofs.Ytkfebceainedfaa.P.OwnGap
open Go.RowKit Go.Proofs.YtkfebceainedfaaW.PrintWords Go.Proofs.YtkfebceainedfaaW.PrintLast Go.Proofs.YtkfebceainedfaaW.PrintMore
open Go.Proofs.Ytkfebceainedfaa.OwnGap
set_option linter.unusedVariables false
set_option linter.unusedSimpArgs false
def gapsFrom (R : Rw) (i rem : Nat) : Nat := ((List.range' i rem).filter R.gap).length
theorem gapsFrom_gap {R : Rw} {i rem : Nat} (h : R.gap i = true) : gapsFrom R i (rem + 1) = gapsFrom R (i + 1) rem + 1 := by
 unfold gapsFrom
 rw [List.range'_succ, List.filter_cons_of_pos h, List.length_cons]
theorem gapsFrom_cell {R : Rw} {i rem : Nat} (h : R.gap i = false) : gapsFrom R i (rem + 1) = gapsFrom R (i + 1) rem := by
 unfold gapsFrom
 rw [List.range'_succ, List.filter_cons_of_neg (by rw [h]; decide)]
set_option maxRecDepth 20000 in
theorem letterF_ok (X : Lx) (a : Int) (hw : 0 ≤ (rwOf X).wl a ∧ (rwOf X).wl a ≤ 1000 ∧ 0 ≤ (rwOf X).wh a ∧ (rwOf X).wh a ≤ 1000) : ∀ (rem i m : Nat) (l h : Int) (fs : List Int), i + rem = X.r.length → m ≤ 10 → 0 ≤ l → l ≤ m * 1000 → 0 ≤ h → h ≤ m * 1000 → fs.length + gapsFrom (rwOf X) i rem ≤ 3 →
  ∀ q ∈ letterF (rwOf X) rem i m l h fs a, OkP X q
 | 0, i, m, l, h, fs, hi, hm, h0, h1, h2, h3, hg, q, hq => by
  rw [letterF] at hq
  exact absurd hq (by simp)
 | rem + 1, i, m, l, h, fs, hi, hm, h0, h1, h2, h3, hg, q, hq => by
  rw [letterF_succ] at hq
  by_cases hgap : (rwOf X).gap i = false
  ·rw [if_pos hgap] at hq
   rw [gapsFrom_cell hgap] at hg
   by_cases hf : (rwOf X).fit i a = true
   ·rw [if_pos hf, List.mem_singleton] at hq
    subst hq
    refine ⟨by show i + 1 ≤ X.r.length; omega, by show 0 ≤ 10; omega, by show (0 : Int) ≤ 0; omega, by show (0 : Int) ≤ ((0 : Nat) : Int) * 1000; omega, by show (0 : Int) ≤ 0; omega, by show (0 : Int) ≤ ((0 : Nat) : Int) * 1000; omega, ?_⟩
    show fs.length + gapsFrom (rwOf X) (i + 1) (X.r.length - (i + 1)) ≤ 3
    rw [show X.r.length - (i + 1) = rem by omega]
    exact hg
   ·rw [if_neg hf] at hq
    exact absurd hq (by simp)
  ·have hgap' : (rwOf X).gap i = true := by simpa using hgap
   rw [if_neg hgap] at hq
   have hg0 := hg
   rw [gapsFrom_gap hgap'] at hg
   rcases List.mem_append.1 hq with hq | hq
   ·by_cases hk : okW (rwOf X) i l h = true
    ·rw [if_pos hk] at hq
     exact letterF_ok X a hw rem (i + 1) 0 0 0 (fs ++ [(m : Int)]) (by omega) (by omega) (by omega) (by omega) (by omega) (by omega) (by rw [List.length_append, List.length_singleton]; omega) q hq
    ·rw [if_neg hk] at hq
     exact absurd hq (by simp)
   ·by_cases hk : m + 1 ≤ 10 ∧ l + (rwOf X).wl a ≤ (rwOf X).hi i
    ·rw [if_pos hk, List.mem_singleton] at hq
     subst hq
     refine ⟨by show i ≤ X.r.length; omega, by show m + 1 ≤ 10; omega, by show 0 ≤ l + (rwOf X).wl a; omega, by show l + (rwOf X).wl a ≤ ((m + 1 : Nat) : Int) * 1000; omega, by show 0 ≤ h + (rwOf X).wh a; omega, by show h + (rwOf X).wh a ≤ ((m + 1 : Nat) : Int) * 1000; omega, ?_⟩
     show fs.length + gapsFrom (rwOf X) i (X.r.length - i) ≤ 3
     rw [show X.r.length - i = rem + 1 by omega]
     exact hg0
    ·rw [if_neg hk] at hq
     exact absurd hq (by simp)
theorem letterP_ok (X : Lx) (a : Int) (hw : 0 ≤ (rwOf X).wl a ∧ (rwOf X).wl a ≤ 1000 ∧ 0 ≤ (rwOf X).wh a ∧ (rwOf X).wh a ≤ 1000) (p : Pth) (hp : OkP X p) : ∀ q ∈ letterP (rwOf X) p a, OkP X q :=
 letterF_ok X a hw _ _ _ _ _ _ (by show p.i + (X.r.length - p.i) = _; have := hp.i; omega) hp.m hp.l0 hp.l1 hp.h0 hp.h1 hp.g
theorem wordF_ok (X : Lx) (hw : ∀ a : Int, 65 ≤ a → a ≤ 90 → 0 ≤ (rwOf X).wl a ∧ (rwOf X).wl a ≤ 1000 ∧ 0 ≤ (rwOf X).wh a ∧ (rwOf X).wh a ≤ 1000) : ∀ (t : List Int) (l : List Pth), (∀ a ∈ t, 65 ≤ a ∧ a ≤ 90) → (∀ q ∈ l, OkP X q) → ∀ q ∈ wordF (rwOf X) l t, OkP X q
 | [], l, ht, hl, q, hq => hl q hq
 | a :: t, l, ht, hl, q, hq => by
  unfold wordF at hq
  have ha := ht a (by simp)
  refine wordF_ok X hw t _ (fun b hb => ht b (by simp [hb])) ?_ q hq
  intro x hx
  obtain ⟨p, hp, hx⟩ := List.mem_flatMap.1 hx
  exact letterP_ok X a (hw a ha.1 ha.2) p (hl p hp) x hx
def cnt : Nat → Nat → Nat
 | _, 0 => 1
 | 0, _ + 1 => 1
 | g + 1, t + 1 => cnt g (t + 1) + cnt (g + 1) t
theorem cnt_zero (g : Nat) : cnt g 0 = 1 := by rw [cnt]
theorem cnt_none (t : Nat) : cnt 0 t = 1 := by
 cases t with
 | zero => rw [cnt]
 | succ t => rw [cnt]
theorem cnt_step (g t : Nat) : cnt (g + 1) (t + 1) = cnt g (t + 1) + cnt (g + 1) t := by rw [cnt]
theorem cnt_pos (g : Nat) : ∀ t : Nat, 1 ≤ cnt g t
 | 0 => by rw [cnt_zero]; exact Nat.le_refl _
 | t + 1 => by
  cases g with
  | zero => rw [cnt_none]; exact Nat.le_refl _
  | succ g =>
   rw [cnt_step]
   have := cnt_pos (g + 1) t
   omega
theorem cnt_mono (t g : Nat) : cnt g t ≤ cnt (g + 1) t := by
 cases t with
 | zero => rw [cnt_zero, cnt_zero]; exact Nat.le_refl _
 | succ t => rw [cnt_step]; omega
theorem cnt_up {t : Nat} : ∀ {g g' : Nat}, g ≤ g' → cnt g t ≤ cnt g' t := by
 intro g g' h
 induction h with
 | refl => exact Nat.le_refl _
 | step _ ih => exact Nat.le_trans ih (cnt_mono t _)
theorem cnt_le : ∀ g t : Nat, cnt g t ≤ (t + 1) ^ g
 | 0, t => by rw [cnt_none, Nat.pow_zero]; exact Nat.le_refl _
 | g + 1, 0 => by rw [cnt_zero]; simp
 | g + 1, t + 1 => by
  rw [cnt_step]
  have h1 := cnt_le g (t + 1)
  have h2 := cnt_le (g + 1) t
  have h3 : (t + 1) ^ (g + 1) ≤ (t + 1 + 1) ^ g * (t + 1) := by
   rw [Nat.pow_succ]
   exact Nat.mul_le_mul_right _ (Nat.pow_le_pow_left (Nat.le_succ _) _)
  have h4 : (t + 1 + 1) ^ (g + 1) = (t + 1 + 1) ^ g * (t + 1) + (t + 1 + 1) ^ g := by
   rw [Nat.pow_succ, Nat.mul_succ]
  omega
theorem letterF_cnt (R : Rw) (a : Int) (t : Nat) : ∀ (rem i m : Nat) (l h : Int) (fs : List Int), i + rem = R.n →
  ((letterF R rem i m l h fs a).map fun q => cnt (gapsFrom R q.i (R.n - q.i)) t).sum ≤ cnt (gapsFrom R i rem) (t + 1)
 | 0, i, m, l, h, fs, hi => by
  rw [letterF]
  simp
 | rem + 1, i, m, l, h, fs, hi => by
  rw [letterF_succ]
  by_cases hgap : R.gap i = false
  ·rw [if_pos hgap, gapsFrom_cell hgap]
   by_cases hf : R.fit i a = true
   ·rw [if_pos hf]
    simp only [List.map_cons, List.map_nil, List.sum_cons, List.sum_nil, Nat.add_zero]
    rw [show R.n - (i + 1) = rem by omega]
    cases gapsFrom R (i + 1) rem with
    | zero => rw [cnt_none, cnt_none]; exact Nat.le_refl _
    | succ g => rw [cnt_step]; omega
   ·rw [if_neg hf]
    simp
  ·have hgap' : R.gap i = true := by simpa using hgap
   rw [if_neg hgap, gapsFrom_gap hgap', List.map_append, List.sum_append, cnt_step]
   refine Nat.add_le_add ?_ ?_
   ·by_cases hk : okW R i l h = true
    ·rw [if_pos hk]
     exact letterF_cnt R a t rem (i + 1) 0 0 0 _ (by omega)
    ·rw [if_neg hk]
     simp
   ·by_cases hk : m + 1 ≤ 10 ∧ l + R.wl a ≤ R.hi i
    ·rw [if_pos hk]
     simp only [List.map_cons, List.map_nil, List.sum_cons, List.sum_nil, Nat.add_zero]
     rw [show R.n - i = rem + 1 by omega, gapsFrom_gap hgap']
     exact Nat.le_refl _
    ·rw [if_neg hk]
     simp
def cntL (R : Rw) (l : List Pth) (t : Nat) : Nat := (l.map fun q => cnt (gapsFrom R q.i (R.n - q.i)) t).sum
theorem cntL_flat (R : Rw) (a : Int) (t : Nat) : ∀ l : List Pth, (∀ q ∈ l, q.i ≤ R.n) → cntL R (l.flatMap (letterP R · a)) t ≤ cntL R l (t + 1)
 | [], _ => Nat.le_refl _
 | p :: l, hl => by
  unfold cntL
  rw [List.flatMap_cons, List.map_append, List.sum_append, List.map_cons, List.sum_cons]
  refine Nat.add_le_add ?_ (cntL_flat R a t l (fun q hq => hl q (by simp [hq])))
  have := hl p (by simp)
  exact letterF_cnt R a t _ _ _ _ _ _ (by omega)
theorem cntL_length (R : Rw) (l : List Pth) (t : Nat) : l.length ≤ cntL R l t := by
 induction l with
 | nil => exact Nat.zero_le _
 | cons p l ih =>
  unfold cntL at ih ⊢
  rw [List.map_cons, List.sum_cons, List.length_cons]
  have := cnt_pos (gapsFrom R p.i (R.n - p.i)) t
  omega
theorem wordF_cnt (R : Rw) : ∀ (u : List Int) (l : List Pth) (t : Nat), (∀ q ∈ l, q.i ≤ R.n) → cntL R (wordF R l u) t ≤ cntL R l (t + u.length)
 | [], l, t, _ => Nat.le_refl _
 | a :: u, l, t, hl => by
  unfold wordF
  refine Nat.le_trans (wordF_cnt R u _ t ?_) ?_
  ·intro q hq
   obtain ⟨p, hp, hq⟩ := List.mem_flatMap.1 hq
   have := hl p hp
   exact letterF_le R a _ _ _ _ _ _ (by omega) q hq
  ·have := cntL_flat R a (t + u.length) l hl
   rw [List.length_cons, show t + (u.length + 1) = t + u.length + 1 by omega]
   exact this
end Go.Proofs.Ytkfebceainedfaa.P.OwnGap
namespace Go.Proofs.Ytkfebceainedfaa.P.OwnGap
open Go.RowKit Go.Proofs.YtkfebceainedfaaW.PrintWords Go.Proofs.YtkfebceainedfaaW.PrintLast Go.Proofs.YtkfebceainedfaaW.PrintMore
open Go.Proofs.Ytkfebceainedfaa.OwnGap
set_option linter.unusedVariables false
set_option linter.unusedSimpArgs false
def mayV (X : Lx) (words : Nat) (form f : Int) : Bool := if words = 0 then rdOf false X.l1 f else if words < 8 then rdOf false (rd_L1 X.l3 form) f else false
theorem mayV_zero {X : Lx} {k : Nat} {form f : Int} (h : k = 0) : mayV X k form f = rdOf false X.l1 f := if_pos h
theorem mayV_next {X : Lx} {k : Nat} {form f : Int} (h : k ≠ 0) (h8 : k < 8) : mayV X k form f = rdOf false (rd_L1 X.l3 form) f := (if_neg h).trans (if_pos h8)
theorem mayV_full {X : Lx} {k : Nat} {form f : Int} (h8 : 8 ≤ k) : mayV X k form f = false := (if_neg (by omega)).trans (if_neg (by omega))
set_option maxHeartbeats 1000000 in
set_option maxRecDepth 100000 in
theorem may_calls (X : Lx) (S : SV) (fits : List Int) (i m : Int) (l h : Int) (k : Nat) (form f : Int) (w : World) (hS : SrW X S fits w)
  (hf0 : 0 ≤ f) (hf1 : f < X.l1.length) (hg0 : 0 ≤ form) (hg1 : form < X.l3.length) (hg2 : f < (rd_L1 X.l3 form).length) (hk : k ≤ 1000) :
  Calls Try.prog 80 #[.pointer (some ⟨S.b, 0, none⟩), .agg #[.int .i64 i, .int .i64 m, .int .i64 l, .int .i64 h, .int .i64 (k : Int), .int .i64 form], .int .i64 f] w fun e w' => e = .returned (.bool (mayV X k form f)) ∧ Below w.heap.size w w' := by
 have HB := Aside0.mk (show Below w.heap.size w (w.alloc (.cells #[.int .i64 i, .int .i64 m, .int .i64 l, .int .i64 h, .int .i64 (k : Int), .int .i64 form] 139)) from (Below.refl _ _).alloc (Nat.le_refl _) _)
 have hb := blk_new w (.cells #[.int .i64 i, .int .i64 m, .int .i64 l, .int .i64 h, .int .i64 (k : Int), .int .i64 form] 139)
 have hS2 := hS.below HB.out
 have hbl := blk_lt hS.blk
 have b4 := (blk_cell hb 4).trans rfl
 have b5 := (blk_cell hb 5).trans rfl
 obtain ⟨a1, eA1, y1⟩ := Kd.at_bool hS2.h1 f hf0 hf1
 have c1 := hS2.cell 1 hS2.e1
 rw [eA1] at c1
 obtain ⟨a3, A0, c0, eA3, y3, hc0, hrow⟩ := at_L1 hS2.h3 form hg0 hg1
 have c3 := hS2.cell 3 hS2.e3
 rw [eA3] at c3
 obtain ⟨a4, eA4, y4⟩ := Kd.at_bool hrow f hf0 hg2
 rw [eA4] at y3
 have hbl2 := blk_lt hS2.blk
 clear hS hS2 hb hrow
 by_cases hz : k = 0
 ·rw [mayV_zero hz]
  have h0 : ((k : Int) == 0) = true := by rw [hz]; rfl
  clear hz
  go_enter Try.func80, Try.ntmps80
  go_wp2_with fail
  go_ret
  exact ⟨rfl, HB.out⟩
 ·have h0 : ((k : Int) == 0) = false := by simp; omega
  by_cases h8 : k < 8
  ·rw [mayV_next hz h8]
   have h8' : (k : Int) < 8 := by omega
   have h8d : decide ((k : Int) < 8) = true := decide_eq_true h8'
   go_enter Try.func80, Try.ntmps80
   go_wp2_with first | go_quiet (fail) | fail
   go_ret
   exact ⟨rfl, by first | exact HB.out | exact pw_below_drewN HB.out _ | exact pw_below_drewN (pw_below_drewN HB.out _) _⟩
  ·rw [mayV_full (by omega)]
   have h8' : ¬ (k : Int) < 8 := by omega
   have h8d : decide ((k : Int) < 8) = false := decide_eq_false h8'
   go_enter Try.func80, Try.ntmps80
   go_wp2_with first | go_quiet (fail) | fail
   go_ret
   exact ⟨rfl, by first | exact HB.out | exact pw_below_drewN HB.out _ | exact pw_below_drewN (pw_below_drewN HB.out _) _⟩
end Go.Proofs.Ytkfebceainedfaa.P.OwnGap
namespace Go.Proofs.Ytkfebceainedfaa.P.OwnGap
open Go.RowKit Go.Proofs.YtkfebceainedfaaW.PrintWords Go.Proofs.YtkfebceainedfaaW.PrintLast Go.Proofs.YtkfebceainedfaaW.PrintMore
open Go.Proofs.Ytkfebceainedfaa.OwnGap
set_option linter.unusedVariables false
set_option linter.unusedSimpArgs false
def spotP (p : Pth) : Pth := ⟨p.i, p.m, p.l, p.h, []⟩
def addFs (fs : List Int) (p : Pth) : Pth := ⟨p.i, p.m, p.l, p.h, fs ++ p.fs⟩
theorem spotP_add (fs : List Int) (p : Pth) : spotP (addFs fs p) = spotP p := rfl
theorem addFs_spot (p : Pth) : addFs p.fs (spotP p) = p := by
 obtain ⟨i, m, l, h, fs⟩ := p
 show (⟨i, m, l, h, fs ++ []⟩ : Pth) = _
 rw [List.append_nil]
theorem letterF_add (R : Rw) (a : Int) (fs : List Int) : ∀ (rem i m : Nat) (l h : Int) (gs : List Int), letterF R rem i m l h (fs ++ gs) a = (letterF R rem i m l h gs a).map (addFs fs)
 | 0, i, m, l, h, gs => by rw [letterF, letterF]; rfl
 | rem + 1, i, m, l, h, gs => by
  rw [letterF_succ, letterF_succ]
  by_cases hg : R.gap i = false
  ·rw [if_pos hg, if_pos hg]
   by_cases hf : R.fit i a = true
   ·rw [if_pos hf, if_pos hf]; rfl
   ·rw [if_neg hf, if_neg hf]; rfl
  ·rw [if_neg hg, if_neg hg, List.map_append]
   congr 1
   ·by_cases hk : okW R i l h = true
    ·rw [if_pos hk, if_pos hk, List.append_assoc]
     exact letterF_add R a fs rem (i + 1) 0 0 0 (gs ++ [(m : Int)])
    ·rw [if_neg hk, if_neg hk]; rfl
   ·by_cases hk : m + 1 ≤ 10 ∧ l + R.wl a ≤ R.hi i
    ·rw [if_pos hk, if_pos hk]; rfl
    ·rw [if_neg hk, if_neg hk]; rfl
theorem letterP_add (R : Rw) (a : Int) (fs : List Int) (p : Pth) : letterP R (addFs fs p) a = (letterP R p a).map (addFs fs) := letterF_add R a fs _ _ _ _ _ _
theorem flat_add (R : Rw) (a : Int) (fs : List Int) : ∀ l : List Pth, (l.map (addFs fs)).flatMap (letterP R · a) = (l.flatMap (letterP R · a)).map (addFs fs)
 | [] => rfl
 | p :: l => by rw [List.map_cons, List.flatMap_cons, List.flatMap_cons, List.map_append, letterP_add, flat_add R a fs l]
theorem wordF_add (R : Rw) (fs : List Int) : ∀ (t : List Int) (l : List Pth), wordF R (l.map (addFs fs)) t = (wordF R l t).map (addFs fs)
 | [], l => rfl
 | a :: t, l => by
  show wordF R ((l.map (addFs fs)).flatMap (letterP R · a)) t = (wordF R (l.flatMap (letterP R · a)) t).map (addFs fs)
  rw [flat_add]
  exact wordF_add R fs t _
theorem wordF_flat (R : Rw) : ∀ (u : List Int) (l : List Pth), wordF R l u = l.flatMap fun q => wordF R [q] u
 | [], l => by
  show l = l.flatMap fun q => [q]
  induction l with
  | nil => rfl
  | cons p l ih => rw [List.flatMap_cons, ← ih]; rfl
 | a :: u, l => by
  show wordF R (l.flatMap (letterP R · a)) u = l.flatMap fun q => wordF R ([q].flatMap (letterP R · a)) u
  rw [wordF_flat R u, List.flatMap_assoc]
  apply flatMap_eq
  intro q _
  rw [List.flatMap_cons, List.flatMap_nil, List.append_nil]
  exact (wordF_flat R u _).symm
theorem doneF_add (R : Rw) (fs : List Int) : ∀ (rem i m : Nat) (l h : Int) (gs : List Int), doneF R rem i m l h (fs ++ gs) = (doneF R rem i m l h gs).map (fs ++ ·)
 | 0, i, m, l, h, gs => rfl
 | rem + 1, i, m, l, h, gs => by
  rw [doneF, doneF]
  by_cases hk : R.gap i = true ∧ okW R i l h = true
  ·rw [if_pos hk, if_pos hk, List.append_assoc]
   exact doneF_add R fs rem (i + 1) 0 0 0 (gs ++ [(m : Int)])
  ·rw [if_neg hk, if_neg hk]; rfl
theorem doneP_add (R : Rw) (fs : List Int) (p : Pth) : doneP R (addFs fs p) = (doneP R p).map (fs ++ ·) := doneF_add R fs _ _ _ _ _ _
theorem doneP_spot (R : Rw) (p : Pth) : (doneP R (spotP p)).isSome = (doneP R p).isSome := by
 conv => rhs; rw [← addFs_spot p, doneP_add]
 cases doneP R (spotP p) <;> rfl
def endV (X : Lx) (p : Pth) (k : Nat) (f : Int) : Bool := decide (0 < k) && (rdOf false X.l2 f && (doneP (rwOf X) (spotP p)).isSome)
def aliveF (X : Lx) : Nat → Pth → Nat → Int → Bool
 | 0, p, k, f => endV X p k f
 | n + 1, p, k, f => endV X p k f || X.l0.any fun w => mayV X k f w.f1 && (wordF (rwOf X) [spotP p] (bytesOf w.f0)).any fun q => aliveF X n q (k + 1) w.f1
def aliveV (X : Lx) (p : Pth) (k : Nat) (f : Int) : Bool := aliveF X (8 - k) p k f
theorem aliveV_step (X : Lx) (p : Pth) (k : Nat) (f : Int) : aliveV X p k f = (endV X p k f || X.l0.any fun w => mayV X k f w.f1 && (wordF (rwOf X) [spotP p] (bytesOf w.f0)).any fun q => aliveV X q (k + 1) w.f1) := by
 unfold aliveV
 by_cases hk : k < 8
 ·rw [show 8 - k = 8 - (k + 1) + 1 by omega, aliveF]
 ·rw [show 8 - k = 0 by omega, aliveF]
  have : (X.l0.any fun w => mayV X k f w.f1 && (wordF (rwOf X) [spotP p] (bytesOf w.f0)).any fun q => aliveF X (8 - (k + 1)) q (k + 1) w.f1) = false := by
   rw [List.any_eq_false]
   intro w _
   rw [mayV_full (by omega)]
   simp
  rw [this, Bool.or_false]
theorem aliveF_spot (X : Lx) : ∀ (n : Nat) (p q : Pth) (k : Nat) (f : Int), spotP p = spotP q → aliveF X n p k f = aliveF X n q k f
 | 0, p, q, k, f, h => by rw [aliveF, aliveF]; unfold endV; rw [h]
 | n + 1, p, q, k, f, h => by rw [aliveF, aliveF]; unfold endV; rw [h]
theorem aliveV_spot {X : Lx} {p q : Pth} {k : Nat} {f : Int} (h : spotP p = spotP q) : aliveV X p k f = aliveV X q k f := aliveF_spot X _ p q k f h
end Go.Proofs.Ytkfebceainedfaa.P.OwnGap
namespace Go.Proofs.Ytkfebceainedfaa.P.OwnGap
open Go.RowKit Go.Shelf Go.Proofs.YtkfebceainedfaaW.PrintWords Go.Proofs.YtkfebceainedfaaW.PrintLast Go.Proofs.YtkfebceainedfaaW.PrintMore
open Go.Proofs.Ytkfebceainedfaa.OwnGap
set_option linter.unusedVariables false
set_option linter.unusedSimpArgs false
def Same (W W' : World) : Prop := ∀ a v, W.cell? a = some v → W'.cell? a = some v
theorem same_grown {W W' : World} {mb : Nat} {es : Array MapEntry} {ck : Nat} (hm : W.heap[mb]? = some (.map es ck)) (hg : W.grownBy W' (some mb)) : Same W W' := by
 intro a v h
 by_cases e : a.block = mb
 ·exfalso
  subst e
  simp [World.cell?, hm] at h
 ·have hlt := World.block_lt_of_cell? W a h
  rw [World.cell?_of_block (hg.block a.block hlt (fun h2 => e (by injection h2)))]
  exact h
theorem C_same {α : Type} {d : Kd α} {W W' : World} (hK : ∀ x cs, d.K W x cs → d.K W' x cs) (hs : Same W W') {A : Option Addr} {n : Nat} {xs : List α} (h : d.C W A n xs) : d.C W' A n xs := by
 refine ⟨h.1, h.2.1, fun hn => ?_⟩
 obtain ⟨ad, he, hc⟩ := h.2.2 hn
 refine ⟨ad, he, fun j p hj => ?_⟩
 obtain ⟨cs, h1, h2, h3⟩ := hc j p hj
 exact ⟨cs, h1, hK _ _ h2, fun i u hu => hs _ _ (h3 i u hu)⟩
theorem C_same2 {α : Type} {d : Kd α} {e : Nat} {W W' : World} (hK : ∀ x cs, d.K W x cs → d.K W' x cs) (hs : Same W W') {A : Option Addr} {n : Nat} {xs : List (List α)} (h : (Kd.slice e d).C W A n xs) : (Kd.slice e d).C W' A n xs :=
 C_same (d := Kd.slice e d) (W := W) (fun x cs h => by
  obtain ⟨A, c, h1, h2, h3⟩ := h
  exact ⟨A, c, h1, h2, C_same hK hs h3⟩) hs h
theorem SrW.same {X : Lx} {S : SV} {fits : List Int} {W W' : World} (h : SrW X S fits W) (hs : Same W W') (hb : W'.heap[S.b]? = W.heap[S.b]?) : SrW X S fits W' :=
 { h with blk := hb.trans h.blk, h0 := C_same (W := W) (W' := W') (fun _ _ h => h) hs h.h0, h1 := C_same (W := W) (W' := W') (fun _ _ h => h) hs h.h1, h2 := C_same (W := W) (W' := W') (fun _ _ h => h) hs h.h2, h3 := C_same2 (W := W) (W' := W') (fun _ _ h => h) hs h.h3, hr := C_same (W := W) (W' := W') (fun _ _ h => h) hs h.hr, hf := C_same (W := W) (W' := W') (fun _ _ h => h) hs h.hf }
def AliveR (X : Lx) (key val : Value) : Prop := ∃ (p : Pth) (k : Nat) (f : Int), key = stV p.i p.m p.l p.h k f ∧ val = .bool (aliveV X p k f)
theorem AliveR.at_key {X : Lx} {p : Pth} {k : Nat} {f : Int} {val : Value} (h : AliveR X (stV p.i p.m p.l p.h k f) val) : val = .bool (aliveV X p k f) := by
 obtain ⟨q, k', f', hk, rfl⟩ := h
 simp only [stV, Value.agg.injEq, Array.mk.injEq, List.cons.injEq, Value.int.injEq, and_true, true_and] at hk
 obtain ⟨h1, h2, h3, h4, h5, rfl⟩ := hk
 obtain rfl : k = k' := by omega
 rw [aliveV_spot (show spotP q = spotP p by
  unfold spotP
  rw [show q.i = p.i by omega, show q.m = p.m by omega, h3, h4])]
structure AW (X : Lx) (S : SV) (fits : List Int) (W : World) : Prop where
 sr : SrW X S fits W
 memo : MemoAt Try.prog 139 (AliveR X) W S.mb
theorem AW.mlt {X : Lx} {S : SV} {fits : List Int} {W : World} (h : AW X S fits W) : S.mb < W.heap.size := by
 obtain ⟨es, ck, hb, _⟩ := h.memo
 exact blk_lt' hb
where
 blk_lt' {W : World} {b : Nat} {o : Obj} (h : W.heap[b]? = some o) : b < W.heap.size := (Array.getElem?_eq_some_iff.1 h).1
theorem AW.below {X : Lx} {S : SV} {fits : List Int} {W W' : World} (h : AW X S fits W) (hb : Below W.heap.size W W') : AW X S fits W' :=
 ⟨h.sr.below hb, h.memo.keep (hb.block S.mb h.mlt)⟩
theorem AW.map {X : Lx} {S : SV} {fits : List Int} {W : World} (h : AW X S fits W) : ∃ es ck, W.heap[S.mb]? = some (.map es ck) := by
 obtain ⟨es, ck, hb, _⟩ := h.memo
 exact ⟨es, ck, hb⟩
theorem AW.ne {X : Lx} {S : SV} {fits : List Int} {W : World} (h : AW X S fits W) {b : Nat} {cs : Array Value} {t : TypeId} {fr : Nat × Nat} (hb : W.heap[b]? = some (.cells cs t fr)) : b ≠ S.mb := by
 rintro rfl
 obtain ⟨es, ck, hm⟩ := h.map
 rw [hb] at hm
 simp at hm
theorem AW.keep {X : Lx} {S : SV} {fits : List Int} {W W' : World} (h : AW X S fits W) (hg : W.grownBy W' (some S.mb)) {b : Nat} {cs : Array Value} {t : TypeId} {fr : Nat × Nat} (hb : W.heap[b]? = some (.cells cs t fr)) : W'.heap[b]? = some (.cells cs t fr) :=
 (hg.block b (Array.getElem?_eq_some_iff.1 hb).1 (fun e => h.ne hb (by injection e))).trans hb
theorem AW.same {X : Lx} {S : SV} {fits : List Int} {W W' : World} (h : AW X S fits W) (hg : W.grownBy W' (some S.mb)) : Same W W' := by
 obtain ⟨es, ck, hm⟩ := h.map
 exact same_grown hm hg
theorem AW.put {X : Lx} {S : SV} {fits : List Int} {W : World} (h : AW X S fits W) (o : Obj) (hm : MemoAt Try.prog 139 (AliveR X) (W.putObj S.mb o) S.mb) : AW X S fits (W.putObj S.mb o) :=
 ⟨h.sr.same (h.same (grown_putObj W S.mb o)) (World.putObj_heap_other (h.ne h.sr.blk)), hm⟩
where
 grown_putObj (W : World) (k : Nat) (o : Obj) : W.grownBy (W.putObj k o) (some k) := ⟨rfl, rfl, rfl, by simp [World.putObj], fun i _ hi => World.putObj_heap_other (fun e => hi (by rw [e]))⟩
theorem grown_put (W : World) (k : Nat) (o : Obj) : W.grownBy (W.putObj k o) (some k) := ⟨rfl, rfl, rfl, by simp [World.putObj], fun i _ hi => World.putObj_heap_other (fun e => hi (by rw [e]))⟩
theorem grown_below {W W' : World} (h : Below W.heap.size W W') (m : Option Nat) : W.grownBy W' m := ⟨h.os, h.tape, h.output, h.size, fun k hk _ => h.block k hk⟩
theorem grown_trans {W W' W'' : World} {m : Option Nat} (h : W.grownBy W' m) (k : W'.grownBy W'' m) : W.grownBy W'' m := ⟨k.os.trans h.os, k.tape.trans h.tape, k.output.trans h.output, Nat.le_trans h.size k.size, fun i hi hne => (k.block i (Nat.lt_of_lt_of_le hi h.size) hne).trans (h.block i hi hne)⟩
structure OkL (X : Lx) : Prop where
 one : 1 ≤ X.l1.length
 f8 : X.l1.length ≤ 1000
 l2 : X.l2.length = X.l1.length
 l3 : X.l3.length = X.l1.length
 l3r : ∀ f : Int, 0 ≤ f → f < X.l1.length → (rd_L1 X.l3 f).length = X.l1.length
 n0 : X.l0.length ≤ 1000
 wd : ∀ j : Nat, j < X.l0.length → 0 < (rd_T53 X.l0 (j : Int)).f0.size ∧ (rd_T53 X.l0 (j : Int)).f0.size ≤ 8 ∧ 0 ≤ (rd_T53 X.l0 (j : Int)).f1 ∧ (rd_T53 X.l0 (j : Int)).f1 < X.l1.length
 lt : ∀ j : Nat, j < X.l0.length → ∀ k : Nat, k < (rd_T53 X.l0 (j : Int)).f0.size → 65 ≤ bt (rd_T53 X.l0 (j : Int)).f0 (k : Int) ∧ bt (rd_T53 X.l0 (j : Int)).f0 (k : Int) ≤ 90
theorem OkP.spot {X : Lx} {p : Pth} (h : OkP X p) : OkP X (spotP p) := ⟨h.i, h.m, h.l0, h.l1, h.h0, h.h1, Nat.le_trans (show 0 + ((List.range' p.i (X.r.length - p.i)).filter (rwOf X).gap).length ≤ p.fs.length + ((List.range' p.i (X.r.length - p.i)).filter (rwOf X).gap).length by omega) h.g⟩
theorem OkX.ww {X : Lx} {fits : List Int} (h : OkX X fits) : ∀ a : Int, 65 ≤ a → a ≤ 90 → 0 ≤ (rwOf X).wl a ∧ (rwOf X).wl a ≤ 1000 ∧ 0 ≤ (rwOf X).wh a ∧ (rwOf X).wh a ≤ 1000 := fun a h1 h2 => h.w a h1 h2
theorem take_bytes {s : ByteArray} (hs : ∀ k : Nat, k < s.size → 65 ≤ bt s (k : Int) ∧ bt s (k : Int) ≤ 90) : ∀ a ∈ bytesOf s, 65 ≤ a ∧ a ≤ 90 := by
 intro a ha
 obtain ⟨k, hk, rfl⟩ := List.mem_iff_getElem.1 ha
 rw [bytesOf_length] at hk
 have h := hs k hk
 have h2 := bt_at s (k : Int) (by simpa using hk)
 simp only [Int.toNat_natCast] at h2
 have h3 : (bytesOf s)[k]'(by rw [bytesOf_length]; exact hk) = bt s (k : Int) := by
  rw [← h2]
  simp [bytesOf]
  rfl
 rw [h3]
 exact h
theorem gapsFrom_le {X : Lx} {p : Pth} (h : OkP X p) : gapsFrom (rwOf X) p.i ((rwOf X).n - p.i) ≤ 3 := by
 have := h.g
 show ((List.range' p.i (X.r.length - p.i)).filter (rwOf X).gap).length ≤ 3
 omega
theorem wk_ok {X : Lx} {fits : List Int} (hX : OkX X fits) (l : List Pth) (hl : ∀ q ∈ l, OkP X q) (hn : cntL (rwOf X) l 8 ≤ 1000000000) (s : ByteArray) (h8 : s.size ≤ 8) (hs : ∀ k : Nat, k < s.size → 65 ≤ bt s (k : Int) ∧ bt s (k : Int) ≤ 90) :
  ∀ k, k ≤ s.size → (wk X l s k).length ≤ 1000000000 ∧ ∀ q ∈ wk X l s k, OkP X q := by
 intro k hk
 have ht : ∀ a ∈ (bytesOf s).take k, 65 ≤ a ∧ a ≤ 90 := fun a ha => take_bytes hs a (List.mem_of_mem_take ha)
 refine ⟨?_, wordF_ok X hX.ww _ l ht hl⟩
 have h1 := cntL_length (rwOf X) (wk X l s k) (8 - k)
 have h2 := wordF_cnt (rwOf X) ((bytesOf s).take k) l (8 - k) (fun q hq => (hl q hq).i)
 rw [List.length_take, bytesOf_length, Nat.min_eq_left hk, Nat.sub_add_cancel (by omega)] at h2
 exact Nat.le_trans h1 (Nat.le_trans h2 hn)
theorem cnt_one {X : Lx} {p : Pth} (h : OkP X p) (t : Nat) (ht : t ≤ 100) : cntL (rwOf X) [p] t ≤ 1030301 := by
 unfold cntL
 simp only [List.map_cons, List.map_nil, List.sum_cons, List.sum_nil, Nat.add_zero]
 refine Nat.le_trans (cnt_up (gapsFrom_le h)) (Nat.le_trans (cnt_le 3 t) ?_)
 exact Nat.pow_le_pow_left (show t + 1 ≤ 101 by omega) 3
theorem C_one {W : World} {b : Nat} {p : Pth} (h : PAt W b p) : Kd.C kP W (some ⟨b, 0, none⟩) 1 [p] := by
 refine ⟨rfl, by decide, fun _ => ⟨_, rfl, fun j q hj => ?_⟩⟩
 have hj0 : j = 0 := by
  have := (List.getElem?_eq_some_iff.1 hj).1
  simpa using this
 subst hj0
 simp only [List.getElem?_cons_zero, Option.some.injEq] at hj
 subst hj
 refine ⟨pL p, rfl, kP.K_of_M (kP_mkM W 0 (fun _ => True) p), fun i u hu => ?_⟩
 rw [show kP.sz = 8 from rfl, Nat.zero_mul, Nat.zero_add]
 have h1 : W.cell? ⟨b, i, none⟩ = (pC p)[i]? := blk_cell h i
 have h2 : ((⟨b, 0, none⟩ : Addr).add i) = ⟨b, i, none⟩ := by
  cases i with
  | zero => simp [Addr.add]
  | succ i => simp [Addr.add]
 rw [h2, h1]
 have h3 : (pL p)[i]? = (pC p)[i]? := by unfold pC pL; simp
 rw [← h3]
 exact hu
end Go.Proofs.Ytkfebceainedfaa.P.OwnGap
namespace Go.Proofs.Ytkfebceainedfaa.P.OwnGap
open Go.RowKit Go.Shelf Go.Proofs.YtkfebceainedfaaW.PrintWords Go.Proofs.YtkfebceainedfaaW.PrintLast Go.Proofs.YtkfebceainedfaaW.PrintMore
open Go.Proofs.Ytkfebceainedfaa.OwnGap
set_option linter.unusedVariables false
set_option linter.unusedSimpArgs false
def conT (X : Lx) (ws : List Int) : List UInt8 := ws.flatMap fun i => (rd_T53 X.l0 i).f0.data.toList
def wordsV (X : Lx) (ws : List Int) : ByteArray := ⟨(conT X ws).toArray⟩
theorem strCells_byte (l : List UInt8) (s : ByteArray) : Lib.byteCells l ++ Lib.strCells s = Lib.byteCells (l ++ s.data.toList) := by
 unfold Lib.byteCells Lib.strCells
 rw [List.map_append]
theorem at_num {w : World} {A : Option Addr} {n : Nat} {xs : List Int} (h : Kd.C (Kd.int .i64) w A n xs) (j : Nat) (hj : j < n) : ∃ ad, A = some ad ∧ w.cell? (ad.add j) = some (.int .i64 (rd xs (j : Int))) := by
 obtain ⟨ad, e, h1⟩ := Kd.at_int h (j : Int) (by omega) (by omega)
 rw [Int.toNat_natCast] at h1
 exact ⟨ad, e, h1⟩
theorem conT_succ (X : Lx) (ws : List Int) (j : Nat) (hj : j < ws.length) : conT X (ws.take (j + 1)) = conT X (ws.take j) ++ (rd_T53 X.l0 (rd ws (j : Int))).f0.data.toList := by
 unfold conT
 rw [List.take_add_one, List.getElem?_eq_getElem hj, List.flatMap_append]
 simp [rd, List.getD_eq_getElem?_getD, List.getElem?_eq_getElem hj]
theorem conT_len (X : Lx) (ws : List Int) (h : ∀ j : Nat, j < ws.length → (rd_T53 X.l0 (rd ws (j : Int))).f0.size ≤ 8) : ∀ j, j ≤ ws.length → (conT X (ws.take j)).length ≤ 8 * j
 | 0, _ => by simp [conT]
 | j + 1, hj => by
  rw [conT_succ X ws j (by omega), List.length_append]
  have h1 := conT_len X ws h j (by omega)
  have h2 := h j (by omega)
  have h3 : (rd_T53 X.l0 (rd ws (j : Int))).f0.data.toList.length = (rd_T53 X.l0 (rd ws (j : Int))).f0.size := data_length _
  omega
def partsF : List S49 → List Int → ByteArray → List ByteArray
 | [], _, _ => []
 | c :: r, fs, T => if c.f1 = true then T.extract 0 (fs.headD 0).toNat :: partsF r fs.tail (T.extract (fs.headD 0).toNat T.size) else T.extract 0 1 :: partsF r fs (T.extract 1 T.size)
def PartsOk : List S49 → List Int → ByteArray → Prop
 | [], _, _ => True
 | c :: r, fs, T => (c.f1 = true → 0 < fs.length ∧ 0 ≤ fs.headD 0 ∧ (fs.headD 0).toNat ≤ T.size ∧ PartsOk r fs.tail (T.extract (fs.headD 0).toNat T.size)) ∧ (c.f1 = false → 1 ≤ T.size ∧ PartsOk r fs (T.extract 1 T.size))
def FilAt (A B : Option Addr) (n m c d b : Nat) (W : World) : Prop := W.heap[b]? = some (.cells #[.slice A n c, .slice B m d] 31 (0, 0))
set_option maxHeartbeats 2000000 in
set_option maxRecDepth 100000 in
theorem parts_calls (X : Lx) (S : SV) (fits : List Int) (w : World) (hS : SrW X S fits w) (ws fs : List Int) (A B : Option Addr) (c d : Nat) (hw : Kd.C (Kd.int .i64) w A ws.length ws) (hf : Kd.C (Kd.int .i64) w B fs.length fs)
  (hwl : ws.length ≤ 8) (hfl : fs.length ≤ 1000) (hwi : ∀ j : Nat, j < ws.length → 0 ≤ rd ws (j : Int) ∧ rd ws (j : Int) < X.l0.length) (hwz : ∀ j : Nat, j < ws.length → (rd_T53 X.l0 (rd ws (j : Int))).f0.size ≤ 8) (hn : X.r.length ≤ 1000) (hok : PartsOk X.r fs (wordsV X ws)) :
  Calls Try.prog 60 #[.pointer (some ⟨S.b, 0, none⟩), .agg #[.slice A ws.length c, .slice B fs.length d]] w fun e w' => ∃ v, e = .returned v ∧ Kd.string.R 9 w' w.heap.size (fun _ => True) v (partsF X.r fs (wordsV X ws)) ∧ Below w.heap.size w w' := by
 have HS := Aside0.mk hS
 have HW := Aside0.mk hw
 have HF := Aside0.mk hf
 have HWI := Aside0.mk hwi
 have HWZ := Aside0.mk hwz
 have HOK := Aside0.mk hok
 have HN := Aside0.mk hn
 have HWL := Aside0.mk hwl
 have HFL := Aside0.mk hfl
 have hsl := blk_lt hS.blk
 have HSL := Aside0.mk hsl
 clear hS hw hf hwi hwz hok
 go_enter Try.func60, Try.ntmps60
 go_upto_region 2 with fail
 obtain ⟨bf, hbf⟩ : ∃ b, b = w.heap.size := ⟨_, rfl⟩
 have HBF := Aside0.mk hbf
 refine wp_gen (fun wx => Aside0 (FilAt A B ws.length fs.length c d bf wx) ∧ Aside0 (Lib.IsBuilder 114 5 (bf + 1) (bf + 1) (Lib.byteCells []) wx) ∧ Aside0 (Below bf w wx ∧ wx.heap.size = bf + 2)) ?_ ?_
 ·have h1 := builder_new (w.alloc (.cells #[.slice A ws.length c, .slice B fs.length d] 31))
  rw [World.size_alloc, ← hbf] at h1
  refine ⟨⟨?_⟩, ⟨h1⟩, ⟨?_⟩⟩
  ·rw [hbf]; exact blk_alloc (blk_new w _) _
  ·rw [hbf]; exact ⟨((Below.refl _ _).alloc (Nat.le_refl _) _).alloc (by simp) _, by simp⟩
 rw [← hbf]
 clear hbf
 rintro w1 ⟨HFA, HBD, HB1⟩
 have a0 := (blk_cell HFA.out 0).trans (show (#[Value.slice A ws.length c, Value.slice B fs.length d] : Array Value)[0]? = some _ from rfl)
 have al := blk_lt HFA.out
 go_upto_block 0 with fail
 refine wp_gen (fun wx => Aside0 (Lib.IsBuilder 114 5 (bf + 1) (bf + 1) (Lib.byteCells (conT X (ws.take 0))) wx) ∧ Aside0 (Below (bf + 1) w1 wx ∧ bf + 2 ≤ wx.heap.size)) ⟨HBD, ⟨Below.refl _ _, by have := HB1.out.2; omega⟩⟩ ?_
 rintro w2 ⟨HBD, HB2⟩
 go_cut [7, 17] (fun _ _ wx => Aside0 (Lib.IsBuilder 114 5 (bf + 1) (bf + 1) (Lib.byteCells (conT X ws)) wx) ∧ Aside0 (Below (bf + 1) w1 wx ∧ bf + 2 ≤ wx.heap.size))
 case first =>
  go_wp2_with fail
  go_loopg [7, 17] ws.length (fun k _ s17 wr => ∃ j : Nat, j + k = ws.length ∧ s17 = .int .i64 (j : Int) ∧ Aside0 (Lib.IsBuilder 114 5 (bf + 1) (bf + 1) (Lib.byteCells (conT X (ws.take j))) wr) ∧ Aside0 (Below (bf + 1) w1 wr ∧ bf + 2 ≤ wr.heap.size))
  case atStart => exact ⟨0, by omega, rfl, HBD, HB2⟩
  case round =>
   obtain ⟨j, hj, rfl, HD, HB3⟩ := hrel
   have HJN := Aside0.mk hj
   clear hj
   have HWB := Aside0.mk (show Below w.heap.size w wr by rw [← HBF.out]; exact HB1.out.1.trans (HB3.out.1.mono (by omega)))
   have HSR := Aside0.mk (HS.out.below HWB.out)
   by_cases hlt : j < ws.length
   ·have hjz : (j : Int) < (ws.length : Int) := by omega
    have hjd : decide (j < ws.length) = true := decide_eq_true hlt
    have HLT := Aside0.mk hlt
    obtain ⟨aw, rfl, y0⟩ := at_num (Kd.C_below HW.out HWB.out) j hlt
    have yl := World.block_lt_of_cell? wr _ y0
    obtain ⟨hi0, hi1⟩ := HWI.out j hlt
    have hz := HWZ.out j hlt
    have HCS := Aside0.mk (conT_succ X ws j hlt)
    have hcl := conT_len X ws HWZ.out j (by omega)
    obtain ⟨i, hi⟩ : ∃ i : Nat, rd ws (j : Int) = (i : Int) := ⟨(rd ws (j : Int)).toNat, by omega⟩
    rw [hi] at y0 hi0 hi1 hz HCS
    obtain ⟨a0', eA0, z0, z1⟩ := at_T53 HSR.out.h0 (i : Int) hi0 hi1
    simp only [Int.toNat_natCast] at z0 z1
    obtain ⟨wd, hwd⟩ : ∃ wd, wd = rd_T53 X.l0 (i : Int) := ⟨_, rfl⟩
    rw [← hwd] at z0 z1 hz HCS
    have c0 := HSR.out.cell 0 HSR.out.e0
    rw [eA0] at c0
    have hid : decide (i < X.l0.length) = true := decide_eq_true (by omega)
    have HCL := Aside0.mk (show (Lib.byteCells (conT X (ws.take j))).length + wd.f0.size ≤ 1000000 by rw [Lib.byteCells_length]; omega)
    have sbl := blk_lt HSR.out.blk
    clear hz hcl hwd hi eA0 hlt hi0
    go_wp2_with first | (go_at_call 82; refine (writeString_calls (bf + 1) (bf + 1) (Lib.byteCells (conT X (ws.take j))) wd.f0 wr HD.out HCL.out (by have := HB3.out.2; omega)).mono ?_; rintro e w4 ⟨rfl, hb4, hw4, hs4⟩; have HD4 := Aside0.mk (show Lib.IsBuilder 114 5 (bf + 1) (bf + 1) (Lib.byteCells (conT X (ws.take (j + 1)))) w4 by rw [HCS.out, ← strCells_byte]; exact hb4); have HB4 := Aside0.mk (show Below (bf + 1) w1 w4 ∧ bf + 2 ≤ w4.heap.size from ⟨HB3.out.1.trans hw4, Nat.le_trans HB3.out.2 hs4⟩); clear hb4 hw4 hs4) | fail
    go_roundg (gk - 1)
    case measure => have := HJN.out; have := HLT.out; omega
    case rel => exact ⟨j + 1, by have := HJN.out; have := HLT.out; omega, by go_num, HD4, HB4⟩
   ·have hjz : ¬ (j : Int) < (ws.length : Int) := by omega
    have hjd : decide (j < ws.length) = false := decide_eq_false hlt
    have HE := Aside0.mk (show Lib.IsBuilder 114 5 (bf + 1) (bf + 1) (Lib.byteCells (conT X ws)) wr by
     have h := HD.out
     rw [List.take_of_length_le (by omega)] at h
     exact h)
    go_wp2_with fail
    refine Met.intro ?_
    go_step
    (repeat apply Exists.intro)
    refine ⟨?_, rfl⟩
    exact ⟨HE, HB3⟩
 case rest =>
  obtain ⟨HE, HB3⟩ := hcut
  clear HBD HB2 w2
  have hal := al
  have HT := Aside0.mk (show (wordsV X ws).size ≤ 64 by
   have h := conT_len X ws HWZ.out ws.length (Nat.le_refl _)
   rw [List.take_length] at h
   show (conT X ws).toArray.size ≤ 64
   rw [List.size_toArray]
   omega)
  obtain ⟨Ar, hAr⟩ : ∃ A, A = S.Ar := ⟨_, rfl⟩
  have HAR := Aside0.mk hAr
  clear hAr
  obtain ⟨T0, hT0⟩ : ∃ T, T = wordsV X ws := ⟨_, rfl⟩
  have HT0 := Aside0.mk hT0
  rw [← hT0] at HT
  clear hT0 a0 al hal
  go_wp2_with first | (go_at_call 67; refine (Builder_String_any (bf + 1) (bf + 1) (conT X ws) wc HE.out (by have := HB3.out.2; omega)).mono ?_; rintro e w5 ⟨rfl, hb5⟩; rw [show (⟨(conT X ws).toArray⟩ : ByteArray) = T0 from HT0.out.symm]; have HB5 := Aside0.mk (show Below (bf + 1) w1 w5 ∧ bf + 2 ≤ w5.heap.size from ⟨HB3.out.1.trans hb5, Nat.le_trans HB3.out.2 hb5.size⟩); have HWB5 := Aside0.mk (show Below w.heap.size w w5 by rw [← HBF.out]; exact HB1.out.1.trans (HB5.out.1.mono (by omega))); have HSR5 := HS.out.below HWB5.out; have c5 := HSR5.cell 5 HSR5.e5; rw [← HAR.out] at c5; have sbl := blk_lt HSR5.blk; clear hb5 HSR5) | fail
  go_loopg [8, 9, 10, 12, 13, 38] X.r.length (fun k s8 s9 s10 _ _ s38 wr => ∃ (j nx : Nat) (T : ByteArray) (pl : List ByteArray), j + k = X.r.length ∧ s38 = .int .i64 (j : Int) ∧ s8 = .string T ∧ s10 = .int .i64 (nx : Int) ∧ nx ≤ fs.length ∧ T.size ≤ 64 ∧ pl.length = j ∧ Aside0 (Kd.string.R 9 wr (bf + 1) (fun _ => True) s9 pl) ∧ Aside0 (PartsOk (X.r.drop j) (fs.drop nx) T ∧ pl ++ partsF (X.r.drop j) (fs.drop nx) T = partsF X.r fs T0) ∧ Aside0 (Below (bf + 1) w1 wr ∧ bf + 2 ≤ wr.heap.size))
  case atStart => exact ⟨0, 0, T0, [], by omega, rfl, rfl, rfl, Nat.zero_le _, HT.out, rfl, ⟨Kd.R_nil _ _ _ _ _⟩, ⟨by rw [HT0.out]; exact HOK.out, rfl⟩, HB5⟩
  case round =>
   obtain ⟨j, nx, T, pl, hj, rfl, rfl, rfl, hnx, hT, hpl, HR, HP, HB⟩ := hrel
   have HJN := Aside0.mk hj
   clear hj HE HB3 HB5 HWB5 c5 sbl
   have HWB := Aside0.mk (show Below w.heap.size w wr by rw [← HBF.out]; exact HB1.out.1.trans (HB.out.1.mono (by omega)))
   have HSR := Aside0.mk (HS.out.below HWB.out)
   have HFW := Aside0.mk (show FilAt A B ws.length fs.length c d bf wr from (HB.out.1.block bf (by omega)).trans HFA.out)
   by_cases hlt : j < X.r.length
   ·have hjz : (j : Int) < (X.r.length : Int) := by omega
    have hjd : decide (j < X.r.length) = true := decide_eq_true hlt
    have HLT := Aside0.mk hlt
    obtain ⟨ar, hra, y0, y1, y2, y3⟩ := at_T49 HSR.out.hr (j : Int) (by omega) (by omega)
    have hra2 : Ar = some ar := HAR.out.trans hra
    subst hra2
    clear hra
    simp only [Int.toNat_natCast] at y0 y1 y2 y3
    obtain ⟨ce, hce⟩ : ∃ ce, ce = rd_T49 X.r (j : Int) := ⟨_, rfl⟩
    rw [← hce] at y0 y1 y2 y3
    have hdr : X.r.drop j = ce :: X.r.drop (j + 1) := by
     rw [List.drop_eq_getElem_cons hlt, hce]
     simp [rd_T49, List.getD_eq_getElem?_getD, List.getElem?_eq_getElem hlt]
    have HDR := Aside0.mk hdr
    have hrl := World.block_lt_of_cell? wr _ y0
    obtain ⟨hp1, hp2⟩ := HP.out
    rw [hdr] at hp1 hp2
    obtain ⟨hpt, hpf⟩ := hp1
    clear hdr hce
    obtain ⟨gg, hgg⟩ : ∃ gg, gg = ce.f1 := ⟨_, rfl⟩
    rw [← hgg] at y1 hpt hpf
    have HGG := Aside0.mk hgg
    clear hgg
    cases gg with
    | true =>
     obtain ⟨h1, h2, h3, h4⟩ := hpt rfl
     have hnx2 : nx < fs.length := by rw [List.length_drop] at h1; omega
     have hdf : fs.drop nx = rd fs (nx : Int) :: fs.drop (nx + 1) := by
      rw [List.drop_eq_getElem_cons hnx2]
      simp [rd, List.getD_eq_getElem?_getD, List.getElem?_eq_getElem hnx2]
     rw [hdf] at h2 h3 h4 hp2
     obtain ⟨q, hq⟩ : ∃ q : Nat, rd fs (nx : Int) = (q : Int) := ⟨(rd fs (nx : Int)).toNat, by simp only [List.headD_cons] at h2; omega⟩
     rw [hq] at h3 h4 hp2
     simp only [List.headD_cons, List.tail_cons, Int.toNat_natCast] at h3 h4
     have HQT := Aside0.mk (show partsF (ce :: X.r.drop (j + 1)) ((q : Int) :: fs.drop (nx + 1)) T = T.extract 0 q :: partsF (X.r.drop (j + 1)) (fs.drop (nx + 1)) (T.extract q T.size) by
      conv => lhs; unfold partsF
      rw [if_pos HGG.out.symm]
      rfl)
     have HP2 := Aside0.mk hp2
     have HP4 := Aside0.mk h4
     obtain ⟨ab, hab, z0⟩ := at_num (Kd.C_below HF.out HWB.out) nx hnx2
     rw [hq] at z0
     have zl := World.block_lt_of_cell? wr _ z0
     have b1 := (blk_cell HFW.out 1).trans (show (#[Value.slice A ws.length c, Value.slice B fs.length d] : Array Value)[1]? = some _ from rfl)
     have bl := blk_lt HFW.out
     rw [hab] at b1
     have hnz : (nx : Int) < (fs.length : Int) := by omega
     have hnd : decide (nx < fs.length) = true := decide_eq_true hnx2
     have hqT : (q : Int) ≤ (T.size : Int) := by omega
     have hqd : decide (q ≤ T.size) = true := decide_eq_true h3
     clear hpt hpf h1 h2 h4 hp2 hdf hq hab
     go_upto_region 16 with fail
     refine wp_gen (fun wx => Aside0 (Kd.string.R 9 wx (bf + 1) (fun _ => True) u9 pl) ∧ Aside0 (Below (bf + 1) w1 wx ∧ bf + 2 ≤ wx.heap.size)) ⟨⟨Kd.R_alloc HR.out _⟩, ⟨HB.out.1.alloc (by have := HB.out.2; omega) _, by have := HB.out.2; simp; omega⟩⟩ ?_
     rintro wx ⟨HRX, HBX⟩
     clear HR HB HSR HFW HWB y0 y1 y2 y3 hrl
     have HPL := Aside0.mk hpl
     have hpl2 : (pl.length : Int) = (j : Int) := by omega
     go_wp2_with first | (at_builtin; refine Kd.R_append Kd.string (w0 := w1) (bf + 1) rfl (.tmp 51) (.tmp 55) 61 9 (.string ⟨#[]⟩) 16 rfl Try.underlying61 info9 rfl (by decide) (by omega) u9 pl (T.extract 0 q) [.string (T.extract 0 q)] (fun _ => True) (fun _ => False) rfl rfl ?aP (fun _ hk => hk.elim) ?aF ?aO ?aB ?aS ?aL ?_; (case aP => exact rfl); (case aF => exact (fun _ _ => trivial)); (case aO => exact HRX.out); (case aB => exact HBX.out.1); (case aS => have := HBX.out.2; omega); (case aL => have := HPL.out; have := HLT.out; have := HN.out; omega); intro v6 w6 ho hb hg hat; have HR6 := Aside0.mk ho; have HB6 := Aside0.mk (show Below (bf + 1) w1 w6 ∧ bf + 2 ≤ w6.heap.size from ⟨hb, by have h1 := hg.size; have h2 := HBX.out.2; omega⟩); clear ho hb hg hat) | fail
     go_roundg (gk - 1)
     case measure => have := HJN.out; have := HLT.out; omega
     case rel => exact ⟨j + 1, nx + 1, T.extract q T.size, pl ++ [T.extract 0 q], by have := HJN.out; have := HLT.out; omega, by go_num, rfl, by first | rfl | go_num, by omega, by rw [ByteArray.size_extract]; omega, by rw [List.length_append, hpl]; rfl, HR6, ⟨HP4.out, by rw [← HP2.out, HQT.out, List.append_assoc]; rfl⟩, HB6⟩
    | false =>
     obtain ⟨h3, h4⟩ := hpf rfl
     have HQT := Aside0.mk (show partsF (ce :: X.r.drop (j + 1)) (fs.drop nx) T = T.extract 0 1 :: partsF (X.r.drop (j + 1)) (fs.drop nx) (T.extract 1 T.size) by
      conv => lhs; unfold partsF
      rw [if_neg (by rw [← HGG.out]; simp)])
     have HP2 := Aside0.mk hp2
     have HP4 := Aside0.mk h4
     have hqT : (1 : Int) ≤ (T.size : Int) := by omega
     have hqd : decide (1 ≤ T.size) = true := decide_eq_true h3
     clear hpt hpf h4 hp2
     go_upto_region 16 with fail
     refine wp_gen (fun wx => Aside0 (Kd.string.R 9 wx (bf + 1) (fun _ => True) u9 pl) ∧ Aside0 (Below (bf + 1) w1 wx ∧ bf + 2 ≤ wx.heap.size)) ⟨⟨Kd.R_alloc HR.out _⟩, ⟨HB.out.1.alloc (by have := HB.out.2; omega) _, by have := HB.out.2; simp; omega⟩⟩ ?_
     rintro wx ⟨HRX, HBX⟩
     clear HR HB HSR HFW HWB y0 y1 y2 y3 hrl
     have HPL := Aside0.mk hpl
     have hpl2 : (pl.length : Int) = (j : Int) := by omega
     go_wp2_with first | (at_builtin; refine Kd.R_append Kd.string (w0 := w1) (bf + 1) rfl (.tmp 51) (.tmp 55) 61 9 (.string ⟨#[]⟩) 16 rfl Try.underlying61 info9 rfl (by decide) (by omega) u9 pl (T.extract 0 1) [.string (T.extract 0 1)] (fun _ => True) (fun _ => False) rfl rfl ?aP (fun _ hk => hk.elim) ?aF ?aO ?aB ?aS ?aL ?_; (case aP => exact rfl); (case aF => exact (fun _ _ => trivial)); (case aO => exact HRX.out); (case aB => exact HBX.out.1); (case aS => have := HBX.out.2; omega); (case aL => have := HPL.out; have := HLT.out; have := HN.out; omega); intro v6 w6 ho hb hg hat; have HR6 := Aside0.mk ho; have HB6 := Aside0.mk (show Below (bf + 1) w1 w6 ∧ bf + 2 ≤ w6.heap.size from ⟨hb, by have h1 := hg.size; have h2 := HBX.out.2; omega⟩); clear ho hb hg hat) | fail
     go_roundg (gk - 1)
     case measure => have := HJN.out; have := HLT.out; omega
     case rel => exact ⟨j + 1, nx, T.extract 1 T.size, pl ++ [T.extract 0 1], by have := HJN.out; have := HLT.out; omega, by go_num, rfl, by first | rfl | go_num, by omega, by rw [ByteArray.size_extract]; omega, by rw [List.length_append, hpl]; rfl, HR6, ⟨HP4.out, by rw [← HP2.out, HQT.out, List.append_assoc]; rfl⟩, HB6⟩
   ·have hjz : ¬ (j : Int) < (X.r.length : Int) := by omega
    have hjd : decide (j < X.r.length) = false := decide_eq_false hlt
    have HE := Aside0.mk (show pl = partsF X.r fs T0 by
     have h := HP.out.2
     rw [List.drop_eq_nil_of_le (by omega)] at h
     rw [← h]
     simp [partsF])
    go_wp2_with fail
    go_ret
    refine ⟨_, rfl, ?_, HWB.out⟩
    rw [← HT0.out, ← HE.out, ← HBF.out]
    exact Kd.R_lower HR.out (by omega)
end Go.Proofs.Ytkfebceainedfaa.P.OwnGap
namespace Go.Proofs.Ytkfebceainedfaa.P
open Go.RowKit Go.Proofs.YtkfebceainedfaaW.PrintWords Go.Proofs.YtkfebceainedfaaW.PrintLast Go.Proofs.YtkfebceainedfaaW.PrintMore
attribute [local go_sem] max2_int min2_int max_two min_two max_three min_three max_four min_four   -- for this text's walks alone
set_option linter.unusedVariables false
set_option linter.unusedSimpArgs false
def gap_in.f (a0 : Int) (a1 : Int) (a2 : Int) : Option (Bool) := if a1 ≤ a0 then (some (decide (a0 ≤ a2))) else (some false)
set_option maxHeartbeats 8000000 in
set_option maxRecDepth 100000 in
theorem gap_in.calls (a0 : Int) (a1 : Int) (a2 : Int) (r : Bool) (w : World) (h : gap_in.f a0 a1 a2 = some r) :
  Calls Try.prog 49 #[.int .i64 a0, .int .i64 a1, .int .i64 a2] w fun e w' => e = .returned (.bool r) ∧ Drawn0 w w' := by
 have H : (if a1 ≤ a0 then (some (decide (a0 ≤ a2))) else (some false)) = some r := h
 clear h
 by_cases c4 : a1 ≤ a0
 ·rw [if_pos c4] at H
  have c4b0 : decide (a1 ≤ a0) = true := decide_eq_true c4
  clear c4
  obtain rfl := Option.some.inj H
  go_enter Try.func49, Try.ntmps49
  go_wp2
  go_ret
  exact ⟨by first | rfl | (simp; done) | (simp [*]; done), by repeat (first | exact Drawn0.refl _ | apply Drawn0.step)⟩
 ·rw [if_neg c4] at H
  have c4b0 : decide (a1 ≤ a0) = false := decide_eq_false c4
  clear c4
  obtain rfl := Option.some.inj H
  go_enter Try.func49, Try.ntmps49
  go_wp2
  go_ret
  exact ⟨by first | rfl | (simp; done) | (simp [*]; done), by repeat (first | exact Drawn0.refl _ | apply Drawn0.step)⟩
end Go.Proofs.Ytkfebceainedfaa.P
namespace Go.Proofs.Ytkfebceainedfaa.P
open Go.RowKit Go.Proofs.YtkfebceainedfaaW.PrintWords Go.Proofs.YtkfebceainedfaaW.PrintLast Go.Proofs.YtkfebceainedfaaW.PrintMore
attribute [local go_sem] max2_int min2_int max_two min_two max_three min_three max_four min_four   -- for this text's walks alone
set_option linter.unusedVariables false
set_option linter.unusedSimpArgs false
def gap_capital.f (a0 : Int) : Option (Bool) := if a0 ≥ 65 then (some (decide (a0 ≤ 90))) else (some false)
set_option maxHeartbeats 8000000 in
set_option maxRecDepth 100000 in
theorem gap_capital.calls (a0 : Int) (r : Bool) (w : World) (h : gap_capital.f a0 = some r) :
  Calls Try.prog 105 #[.int .u8 a0] w fun e w' => e = .returned (.bool r) ∧ Drawn0 w w' := by
 have H : (if a0 ≥ 65 then (some (decide (a0 ≤ 90))) else (some false)) = some r := h
 clear h
 by_cases c2 : a0 ≥ 65
 ·rw [if_pos c2] at H
  have c2b0 : decide (65 ≤ a0) = true := decide_eq_true c2
  clear c2
  obtain rfl := Option.some.inj H
  go_enter Try.func105, Try.ntmps105
  go_wp2
  go_ret
  exact ⟨by first | rfl | (simp; done) | (simp [*]; done), by repeat (first | exact Drawn0.refl _ | apply Drawn0.step)⟩
 ·rw [if_neg c2] at H
  have c2b0 : decide (65 ≤ a0) = false := decide_eq_false c2
  clear c2
  obtain rfl := Option.some.inj H
  go_enter Try.func105, Try.ntmps105
  go_wp2
  go_ret
  exact ⟨by first | rfl | (simp; done) | (simp [*]; done), by repeat (first | exact Drawn0.refl _ | apply Drawn0.step)⟩
end Go.Proofs.Ytkfebceainedfaa.P
namespace Go.Proofs.Ytkfebceainedfaa.P
open Go.RowKit Go.Proofs.YtkfebceainedfaaW.PrintWords Go.Proofs.YtkfebceainedfaaW.PrintLast Go.Proofs.YtkfebceainedfaaW.PrintMore
attribute [local go_sem] max2_int min2_int max_two min_two max_three min_three max_four min_four   -- for this text's walks alone
set_option linter.unusedVariables false
set_option linter.unusedSimpArgs false
def cippusref02_between.f (a0 : Int) (a1 : Int) (a2 : Int) : Option (Bool) := if a0 ≥ a1 then (some (decide (a0 ≤ a2))) else (some false)
set_option maxHeartbeats 8000000 in
set_option maxRecDepth 100000 in
theorem cippusref02_between.calls (a0 : Int) (a1 : Int) (a2 : Int) (r : Bool) (w : World) (h : cippusref02_between.f a0 a1 a2 = some r) :
  Calls Try.prog 87 #[.int .i64 a0, .int .i64 a1, .int .i64 a2] w fun e w' => e = .returned (.bool r) ∧ Drawn0 w w' := by
 have H : (if a0 ≥ a1 then (some (decide (a0 ≤ a2))) else (some false)) = some r := h
 clear h
 by_cases c4 : a0 ≥ a1
 ·rw [if_pos c4] at H
  have c4b0 : decide (a1 ≤ a0) = true := decide_eq_true c4
  clear c4
  obtain rfl := Option.some.inj H
  go_enter Try.func87, Try.ntmps87
  go_wp2
  go_ret
  exact ⟨by first | rfl | (simp; done) | (simp [*]; done), by repeat (first | exact Drawn0.refl _ | apply Drawn0.step)⟩
 ·rw [if_neg c4] at H
  have c4b0 : decide (a1 ≤ a0) = false := decide_eq_false c4
  clear c4
  obtain rfl := Option.some.inj H
  go_enter Try.func87, Try.ntmps87
  go_wp2
  go_ret
  exact ⟨by first | rfl | (simp; done) | (simp [*]; done), by repeat (first | exact Drawn0.refl _ | apply Drawn0.step)⟩
end Go.Proofs.Ytkfebceainedfaa.P
namespace Go.Proofs.Ytkfebceainedfaa.P
open Go.RowKit Go.Proofs.YtkfebceainedfaaW.PrintWords Go.Proofs.YtkfebceainedfaaW.PrintLast Go.Proofs.YtkfebceainedfaaW.PrintMore
attribute [local go_sem] max2_int min2_int max_two min_two max_three min_three max_four min_four   -- for this text's walks alone
set_option linter.unusedVariables false
set_option linter.unusedSimpArgs false
def cippusref02_capital.f (a0 : Int) : Option (Bool) := if a0 ≥ 65 then (some (decide (a0 ≤ 90))) else (some false)
set_option maxHeartbeats 8000000 in
set_option maxRecDepth 100000 in
theorem cippusref02_capital.calls (a0 : Int) (r : Bool) (w : World) (h : cippusref02_capital.f a0 = some r) :
  Calls Try.prog 104 #[.int .u8 a0] w fun e w' => e = .returned (.bool r) ∧ Drawn0 w w' := by
 have H : (if a0 ≥ 65 then (some (decide (a0 ≤ 90))) else (some false)) = some r := h
 clear h
 by_cases c2 : a0 ≥ 65
 ·rw [if_pos c2] at H
  have c2b0 : decide (65 ≤ a0) = true := decide_eq_true c2
  clear c2
  obtain rfl := Option.some.inj H
  go_enter Try.func104, Try.ntmps104
  go_wp2
  go_ret
  exact ⟨by first | rfl | (simp; done) | (simp [*]; done), by repeat (first | exact Drawn0.refl _ | apply Drawn0.step)⟩
 ·rw [if_neg c2] at H
  have c2b0 : decide (65 ≤ a0) = false := decide_eq_false c2
  clear c2
  obtain rfl := Option.some.inj H
  go_enter Try.func104, Try.ntmps104
  go_wp2
  go_ret
  exact ⟨by first | rfl | (simp; done) | (simp [*]; done), by repeat (first | exact Drawn0.refl _ | apply Drawn0.step)⟩
end Go.Proofs.Ytkfebceainedfaa.P
namespace Go.Proofs.Ytkfebceainedfaa.P.OwnGap
open Go.RowKit Go.Proofs.YtkfebceainedfaaW.PrintWords Go.Proofs.YtkfebceainedfaaW.PrintLast Go.Proofs.YtkfebceainedfaaW.PrintMore
open Go.Proofs.Ytkfebceainedfaa.OwnGap
set_option linter.unusedVariables false
set_option linter.unusedSimpArgs false
def inB (a lo hi : Int) : Bool := decide (lo ≤ a) && decide (a ≤ hi)
def capB (a : Int) : Bool := inB a 65 90
theorem cap_p (a : Int) : gap_capital.f a = some (capB a) := by
 unfold gap_capital.f capB inB
 by_cases h : 65 ≤ a <;> simp [h]
theorem cap_r (a : Int) : cippusref02_capital.f a = some (capB a) := by
 unfold cippusref02_capital.f capB inB
 by_cases h : 65 ≤ a <;> simp [h]
theorem in_p (a lo hi : Int) : gap_in.f a lo hi = some (inB a lo hi) := by
 unfold gap_in.f inB
 by_cases h : lo ≤ a <;> simp [h]
theorem in_r (a lo hi : Int) : cippusref02_between.f a lo hi = some (inB a lo hi) := by
 unfold cippusref02_between.f inB
 by_cases h : lo ≤ a <;> simp [h]
theorem wrap_nat {i n : Nat} (h : i < n) (hn : n < 4611686018427387903) : wrap64 ((i : Int) + 1) = ((i + 1 : Nat) : Int) := by rw [wrap64_small (by omega) (by omega)]; omega
theorem inB_true {a lo hi : Int} : inB a lo hi = true ↔ lo ≤ a ∧ a ≤ hi := by simp [inB]
def textB (s : ByteArray) : Bool := (List.range s.size).all fun i => capB (bt s (i : Int))
theorem range_all {n : Nat} {f : Nat → Bool} : (List.range n).all f = true ↔ ∀ i, i < n → f i = true := by
 rw [List.all_eq_true]
 exact ⟨fun h i hi => h i (List.mem_range.2 hi), fun h i hi => h i (List.mem_range.1 hi)⟩
def sameW (a b : S53) : Bool := a.f0.toList == b.f0.toList && (a.f1 == b.f1)
def wordV (l0 : List S53) (nf : Nat) (i : Nat) : Int :=
 if inB (rd_T53 l0 (i : Int)).f0.size 1 8 = false then 2 else if textB (rd_T53 l0 (i : Int)).f0 = false then 2 else if inB (rd_T53 l0 (i : Int)).f1 0 ((nf : Int) - 1) = false then 3
 else if (l0.take i).any (sameW (rd_T53 l0 (i : Int))) = true then 4 else 0
theorem ifF {α : Type} {b : Bool} {x y : α} (h : b = true) : (if b = false then x else y) = y := by rw [h]; rfl
theorem ifT {α : Type} {b : Bool} {x y : α} (h : b = false) : (if b = false then x else y) = x := by rw [h]; rfl
def spanV (a b lo hi : Int) : Int := if (inB a lo hi && inB b lo hi) = false then 1 else if b < a then 5 else 0
def firstF (f : Nat → Int) (R : Int) : Nat → Nat → Int
 | 0, _ => R
 | rem + 1, i => if f i = 0 then firstF f R rem (i + 1) else f i
theorem firstF_zero {f : Nat → Int} {R : Int} : ∀ (rem i : Nat), firstF f R rem i = 0 → R = 0 ∧ ∀ j, i ≤ j → j < i + rem → f j = 0
 | 0, i, h => ⟨h, fun j h1 h2 => by omega⟩
 | rem + 1, i, h => by
  unfold firstF at h
  by_cases h0 : f i = 0
  ·rw [if_pos h0] at h
   obtain ⟨h1, h2⟩ := firstF_zero rem (i + 1) h
   refine ⟨h1, fun j h3 h4 => ?_⟩
   rcases Nat.lt_or_ge i j with h5 | h5
   ·exact h2 j (by omega) (by omega)
   ·rw [show j = i by omega]; exact h0
  ·rw [if_neg h0] at h
   exact absurd h h0
def spanAt (l4 : List S47) (i : Nat) : Int := spanV (rd_T47 l4 (i : Int)).f0 (rd_T47 l4 (i : Int)).f1 1 100
def formAt (l3 : List (List Bool)) (nf : Nat) (i : Nat) : Int := if (rd_L1 l3 (i : Int)).length = nf then 0 else 2
def checkV (l0 : List S53) (l1 l2 : List Bool) (l3 : List (List Bool)) (l4 : List S47) : Int :=
 if l1.length = 0 then 7 else if 5 < l1.length then 6 else if l2.length ≠ l1.length then 2 else if l3.length ≠ l1.length then 2 else
  firstF (formAt l3 l1.length) (if l0.length = 0 then 7 else if 12 < l0.length then 6 else firstF (wordV l0 l1.length) (if l4.length ≠ 26 then 2 else firstF (spanAt l4) 0 26 0) l0.length 0) l1.length 0
def ascAt (s : ByteArray) (i : Nat) : Bool := capB (bt s (i : Int)) && (decide (i = 0) || decide (bt s ((i : Int) - 1) < bt s (i : Int)))
def ascB (s : ByteArray) : Bool := (List.range s.size).all (ascAt s)
theorem asc_ge {s : ByteArray} {j : Nat} (h : ∀ q, q < j → ascAt s q = true) : ∀ q, q < j → 65 + (q : Int) ≤ bt s (q : Int) ∧ bt s (q : Int) ≤ 90 := by
 intro q
 induction q with
 | zero =>
  intro hq
  have h1 := h 0 hq
  simp only [ascAt, capB, Bool.and_eq_true, inB_true] at h1
  exact ⟨by simpa using h1.1.1, h1.1.2⟩
 | succ q ih =>
  intro hq
  have h1 := h (q + 1) hq
  have h2 := (ih (by omega)).1
  simp only [ascAt, capB, Bool.and_eq_true, inB_true, Bool.or_eq_true, decide_eq_true_eq] at h1
  obtain ⟨h3, h4⟩ := h1
  rcases h4 with h4 | h4
  ·omega
  ·rw [show ((q + 1 : Nat) : Int) - 1 = (q : Int) by omega] at h4
   exact ⟨by omega, h3.2⟩
theorem asc_le {s : ByteArray} {j : Nat} (h : ∀ q, q < j → ascAt s q = true) : j ≤ 26 := by
 rcases Nat.eq_zero_or_pos j with h0 | h0
 ·omega
 ·have := asc_ge h (j - 1) (by omega)
  omega
theorem ascB_let {s : ByteArray} (h : ascB s = true) : LetS s ∧ s.size ≤ 26 := by
 have h1 := range_all.1 h
 exact ⟨fun k hk => by have := asc_ge h1 k hk; omega, asc_le h1⟩
def cellV (c : S49) : Int := if c.f1 = true then (if c.f0.size = 0 then spanV c.f2.f0 c.f2.f1 0 1000 else 2) else if ascB c.f0 = false then 2 else if c.f2.f0 = 0 ∧ c.f2.f1 = 0 then 0 else 2
def rowF (l : List S49) : Nat → Nat → Nat → Int
 | 0, _, _ => 0
 | rem + 1, i, n => if cellV (rd_T49 l (i : Int)) = 0 then (if (rd_T49 l (i : Int)).f1 = true then (if 3 < n + 1 then 6 else rowF l rem (i + 1) (n + 1)) else rowF l rem (i + 1) n) else cellV (rd_T49 l (i : Int))
def rowV (l : List S49) : Int := if l.length = 0 then 7 else if 24 < l.length then 6 else rowF l l.length 0 0
def bothV (l0 : List S53) (l1 l2 : List Bool) (l3 : List (List Bool)) (l4 : List S47) (r : List S49) : Int := if checkV l0 l1 l2 l3 l4 = 0 then rowV r else checkV l0 l1 l2 l3 l4
theorem sameW_comm (a b : S53) : sameW a b = sameW b a := by
 unfold sameW
 rw [Bool.eq_iff_iff]
 simp only [Bool.and_eq_true, beq_iff_eq]
 exact ⟨fun h => ⟨h.1.symm, h.2.symm⟩, fun h => ⟨h.1.symm, h.2.symm⟩⟩
end Go.Proofs.Ytkfebceainedfaa.P.OwnGap
namespace Go.Proofs.Ytkfebceainedfaa.P.OwnGap
open Go.RowKit Go.Shelf Go.Proofs.YtkfebceainedfaaW.PrintWords Go.Proofs.YtkfebceainedfaaW.PrintLast Go.Proofs.YtkfebceainedfaaW.PrintMore
open Go.Proofs.Ytkfebceainedfaa.OwnGap
set_option linter.unusedVariables false
set_option linter.unusedSimpArgs false
def mayAll (X : Lx) : Nat → Int → List Int → Option Int
 | _, f, [] => some f
 | k, f, i :: r => if mayV X k f (rd_T53 X.l0 i).f1 = true then mayAll X (k + 1) (rd_T53 X.l0 i).f1 r else none
def sumW (X : Lx) (T : ByteArray) (k : Nat) : Int × Int := ((List.range k).map fun (j : Nat) => rd_T47 X.l4 (bt T (j : Int) - 65)).foldl (fun s x => (s.1 + x.f0, s.2 + x.f1)) (0, 0)
def cellF (X : Lx) : List S49 → List Int → ByteArray → Bool
 | [], fs, T => decide (T.size = 0) && decide (fs.length = 0)
 | c :: r, fs, T =>
  if c.f1 = true then
   (if fs.length = 0 then false else if inB (fs.headD 0) 0 (min 10 (T.size : Int)) = false then false else
    if (sumW X T (fs.headD 0).toNat).1 > c.f2.f1 ∨ (sumW X T (fs.headD 0).toNat).2 < c.f2.f0 then false else cellF X r fs.tail (T.extract (fs.headD 0).toNat T.size))
  else (if T.size = 0 then false else if fitB c.f0 (bt T 0) = false then false else cellF X r fs (T.extract 1 T.size))
def isF (X : Lx) (ws fs : List Int) : Bool :=
 if inB (ws.length : Int) 1 8 = true then (match mayAll X 0 0 ws with | none => false | some f => rdOf false X.l2 f && cellF X X.r fs (wordsV X ws)) else false
theorem mayAll_step {X : Lx} {ws : List Int} {j : Nat} (hj : j < ws.length) (f : Int) : mayAll X j f (ws.drop j) = if mayV X j f (rd_T53 X.l0 (rd ws (j : Int))).f1 = true then mayAll X (j + 1) (rd_T53 X.l0 (rd ws (j : Int))).f1 (ws.drop (j + 1)) else none := by
 rw [List.drop_eq_getElem_cons hj, show rd ws (j : Int) = ws[j] by simp [rd, List.getD_eq_getElem?_getD, List.getElem?_eq_getElem hj]]
 rfl
theorem bt_extract (T : ByteArray) (a k : Nat) (hk : a + k < T.size) : bt (T.extract a T.size) (k : Int) = bt T ((a + k : Nat) : Int) := by
 have h1 : k < (T.extract a T.size).size := by rw [ByteArray.size_extract]; omega
 unfold bt
 rw [dif_pos (by rw [Int.toNat_natCast]; exact h1), dif_pos (by rw [Int.toNat_natCast]; exact hk)]
 simp only [Int.toNat_natCast]
 rw [ByteArray.getElem_extract]
theorem lets_extract {T : ByteArray} (h : LetS T) (a : Nat) : LetS (T.extract a T.size) := by
 intro k hk
 have hk2 : a + k < T.size := by rw [ByteArray.size_extract] at hk; omega
 rw [bt_extract T a k hk2]
 exact h (a + k) hk2
theorem lets_words (X : Lx) (ws : List Int) (h : ∀ j : Nat, j < ws.length → LetS (rd_T53 X.l0 (rd ws (j : Int))).f0) : LetS (wordsV X ws) := by
 intro k hk
 have hk2 : k < (conT X ws).length := by
  have : (wordsV X ws).size = (conT X ws).length := by show (conT X ws).toArray.size = _; rw [List.size_toArray]
  omega
 have e : bt (wordsV X ws) (k : Int) = (((conT X ws)[k]'hk2).toNat : Int) := by
  unfold bt
  rw [dif_pos (by simpa using hk)]
  rfl
 rw [e]
 have hm : (conT X ws)[k]'hk2 ∈ conT X ws := List.getElem_mem hk2
 obtain ⟨i, hi, hb⟩ := List.mem_flatMap.1 hm
 obtain ⟨j, hj, rfl⟩ := List.mem_iff_getElem.1 hi
 have hl := h j hj
 have er : rd ws (j : Int) = ws[j] := by simp [rd, List.getD_eq_getElem?_getD, List.getElem?_eq_getElem hj]
 rw [er] at hl
 have hb2 : (((conT X ws)[k]'hk2).toNat : Int) ∈ bytesOf (rd_T53 X.l0 ws[j]).f0 := List.mem_map.2 ⟨_, hb, rfl⟩
 exact hl.all _ hb2
theorem sumW_succ (X : Lx) (T : ByteArray) (j : Nat) : sumW X T (j + 1) = ((sumW X T j).1 + (rd_T47 X.l4 (bt T (j : Int) - 65)).f0, (sumW X T j).2 + (rd_T47 X.l4 (bt T (j : Int) - 65)).f1) := by
 unfold sumW
 rw [List.range_succ, List.map_append, List.foldl_append]
 rfl
theorem sumW_le {X : Lx} {fits : List Int} (hX : OkX X fits) {T : ByteArray} (hT : LetS T) : ∀ j : Nat, j ≤ T.size → 0 ≤ (sumW X T j).1 ∧ (sumW X T j).1 ≤ (j : Int) * 1000 ∧ 0 ≤ (sumW X T j).2 ∧ (sumW X T j).2 ≤ (j : Int) * 1000
 | 0, _ => by simp [sumW]
 | j + 1, hj => by
  obtain ⟨h1, h2, h3, h4⟩ := sumW_le hX hT j (by omega)
  obtain ⟨l0, l1⟩ := hT j (by omega)
  obtain ⟨k0, k1, k2, k3⟩ := hX.w _ l0 l1
  rw [sumW_succ]
  refine ⟨?_, ?_, ?_, ?_⟩ <;> simp only <;> omega
end Go.Proofs.Ytkfebceainedfaa.P.OwnGap
namespace Go.Proofs.Ytkfebceainedfaa.P.OwnGap
open Go.RowKit Go.Proofs.YtkfebceainedfaaW.PrintWords Go.Proofs.YtkfebceainedfaaW.PrintLast Go.Proofs.YtkfebceainedfaaW.PrintMore
open Go.Proofs.Ytkfebceainedfaa.OwnGap
set_option linter.unusedVariables false
set_option linter.unusedSimpArgs false
def endsF (X : Lx) (ws : List Int) (f : Int) (l : List Pth) : List (List Int × List Int) :=
 if (decide (0 < ws.length) && rdOf false X.l2 f) = true then (l.filterMap (doneP (rwOf X))).map fun fs => (ws, fs) else []
def fillF (X : Lx) : Nat → List Int → Int → List Pth → List (List Int × List Int)
 | 0, ws, f, l => endsF X ws f l
 | n + 1, ws, f, l => endsF X ws f l ++ (X.l0.zipIdx).flatMap fun (x : S53 × Nat) =>
   if mayV X ws.length f x.1.f1 = true then fillF X n (ws ++ [(x.2 : Int)]) x.1.f1 ((wordF (rwOf X) l (bytesOf x.1.f0)).filter fun q => aliveF X n q (ws.length + 1) x.1.f1) else []
def fillG (X : Lx) : Nat → List Int → Int → List Pth → List (List Int × List Int)
 | 0, ws, f, l => endsF X ws f l
 | n + 1, ws, f, l => endsF X ws f l ++ (X.l0.zipIdx).flatMap fun (x : S53 × Nat) =>
   if mayV X ws.length f x.1.f1 = true then fillG X n (ws ++ [(x.2 : Int)]) x.1.f1 (wordF (rwOf X) l (bytesOf x.1.f0)) else []
theorem endsF_nil (X : Lx) (ws : List Int) (f : Int) : endsF X ws f [] = [] := by
 unfold endsF
 split <;> rfl
theorem fillF_nil (X : Lx) : ∀ (n : Nat) (ws : List Int) (f : Int), fillF X n ws f [] = []
 | 0, ws, f => endsF_nil X ws f
 | n + 1, ws, f => by
  rw [fillF, endsF_nil, List.nil_append, List.flatMap_eq_nil_iff]
  intro x _
  by_cases hm : mayV X ws.length f x.1.f1 = true
  ·rw [if_pos hm, wordF_nil]
   exact fillF_nil X n _ _
  ·rw [if_neg hm]
theorem endsF_alive (X : Lx) (ws : List Int) (f : Int) (A : Pth → Bool) : ∀ l : List Pth, (∀ q ∈ l, A q = false → endV X q ws.length f = false) → endsF X ws f (l.filter A) = endsF X ws f l := by
 intro l hl
 unfold endsF
 by_cases hc : (decide (0 < ws.length) && rdOf false X.l2 f) = true
 ·rw [if_pos hc, if_pos hc]
  congr 1
  induction l with
  | nil => rfl
  | cons p l ih =>
   have ih := ih (fun q hq => hl q (by simp [hq]))
   by_cases ha : A p = true
   ·rw [List.filter_cons_of_pos ha, List.filterMap_cons, List.filterMap_cons, ih]
   ·rw [List.filter_cons_of_neg ha, ih, List.filterMap_cons]
    have he := hl p (by simp) (by simpa using ha)
    unfold endV at he
    rw [Bool.and_eq_true] at hc
    rw [doneP_spot, hc.1, hc.2, Bool.true_and, Bool.true_and] at he
    cases hd : doneP (rwOf X) p with
    | none => rfl
    | some fs => rw [hd] at he; exact absurd he (by simp)
 ·rw [if_neg hc, if_neg hc]
theorem dead_word (X : Lx) (n k : Nat) (f : Int) (p : Pth) (hd : aliveF X (n + 1) p k f = false) (w : S53) (hw : w ∈ X.l0) (hm : mayV X k f w.f1 = true) : ∀ q ∈ wordF (rwOf X) [p] (bytesOf w.f0), aliveF X n q (k + 1) w.f1 = false := by
 intro q hq
 rw [aliveF, Bool.or_eq_false_iff, List.any_eq_false] at hd
 have h := hd.2 w hw
 rw [hm, Bool.true_and] at h
 rw [show [p] = [spotP p].map (addFs p.fs) by rw [List.map_cons, List.map_nil, addFs_spot], wordF_add] at hq
 obtain ⟨q0, hq0, rfl⟩ := List.mem_map.1 hq
 rw [aliveF_spot X n (addFs p.fs q0) q0 _ _ (spotP_add _ _)]
 cases hb : aliveF X n q0 (k + 1) w.f1 with
 | false => rfl
 | true => exact absurd (List.any_eq_true.2 ⟨q0, hq0, hb⟩) h
theorem filter_word (X : Lx) (A B : Pth → Bool) (t : List Int) : ∀ l : List Pth, (∀ p ∈ l, A p = false → ∀ q ∈ wordF (rwOf X) [p] t, B q = false) → (wordF (rwOf X) (l.filter A) t).filter B = (wordF (rwOf X) l t).filter B := by
 intro l hl
 rw [wordF_flat, wordF_flat _ t l]
 induction l with
 | nil => rfl
 | cons p l ih =>
  have ih := ih (fun q hq => hl q (by simp [hq]))
  by_cases ha : A p = true
  ·rw [List.filter_cons_of_pos ha, List.flatMap_cons, List.flatMap_cons, List.filter_append, List.filter_append, ih]
  ·rw [List.filter_cons_of_neg ha, ih, List.flatMap_cons, List.filter_append]
   have : (wordF (rwOf X) [p] t).filter B = [] := by
    rw [List.filter_eq_nil_iff]
    intro q hq
    rw [hl p (by simp) (by simpa using ha) q hq]
    decide
   rw [this, List.nil_append]
theorem fillG_alive (X : Lx) : ∀ (n : Nat) (ws : List Int) (f : Int) (l : List Pth), fillG X n ws f (l.filter fun q => aliveF X n q ws.length f) = fillG X n ws f l
 | 0, ws, f, l => by
  rw [fillG, fillG]
  exact endsF_alive X ws f _ l (fun q _ h => h)
 | n + 1, ws, f, l => by
  rw [fillG, fillG, endsF_alive X ws f _ l (fun q _ h => by rw [aliveF, Bool.or_eq_false_iff] at h; exact h.1)]
  congr 1
  apply flatMap_eq
  intro x hx
  by_cases hm : mayV X ws.length f x.1.f1 = true
  ·rw [if_pos hm, if_pos hm, ← fillG_alive X n _ _ (wordF (rwOf X) (l.filter _) _), ← fillG_alive X n _ _ (wordF (rwOf X) l _)]
   rw [List.length_append, List.length_singleton]
   rw [filter_word X _ _ _ l (fun p _ hd q hq => dead_word X n ws.length f p hd x.1 (List.fst_mem_of_mem_zipIdx hx) hm q hq)]
  ·rw [if_neg hm, if_neg hm]
theorem fillF_all (X : Lx) : ∀ (n : Nat) (ws : List Int) (f : Int) (l : List Pth), fillF X n ws f l = fillG X n ws f l
 | 0, ws, f, l => rfl
 | n + 1, ws, f, l => by
  rw [fillF, fillG]
  congr 1
  apply flatMap_eq
  intro x hx
  by_cases hm : mayV X ws.length f x.1.f1 = true
  ·rw [if_pos hm, if_pos hm, fillF_all X n]
   have := fillG_alive X n (ws ++ [(x.2 : Int)]) x.1.f1 (wordF (rwOf X) l (bytesOf x.1.f0))
   rw [List.length_append, List.length_singleton] at this
   exact this
  ·rw [if_neg hm, if_neg hm]
end Go.Proofs.Ytkfebceainedfaa.P.OwnGap
namespace Go.Proofs.Ytkfebceainedfaa.OwnGap
set_option linter.unusedVariables false
set_option linter.unusedSimpArgs false
def gapB (R : Rw) (next : List Int → Bool) (i : Nat) : Nat → Int → Int → List Int → Bool
 | _, l, _, [] => decide (l ≤ R.hi i)
 | m, l, h, a :: t => (okW R i l h && next (a :: t)) || (decide (m + 1 ≤ 10) && gapB R next i (m + 1) (l + R.wl a) (h + R.wh a) t)
end Go.Proofs.Ytkfebceainedfaa.OwnGap
namespace Go.Proofs.Ytkfebceainedfaa.P.OwnGap
open Go.RowKit Go.Proofs.YtkfebceainedfaaW.PrintWords Go.Proofs.YtkfebceainedfaaW.PrintLast Go.Proofs.YtkfebceainedfaaW.PrintMore
open Go.Proofs.Ytkfebceainedfaa.OwnGap
set_option linter.unusedVariables false
set_option linter.unusedSimpArgs false
def endsR (X : Lx) (ws : List Int) (f : Int) (t : List Int) : List (List Int × List Int) :=
 if (decide (0 < ws.length) && rdOf false X.l2 f) = true then (fillsF (rwOf X) (rwOf X).n 0 t).map fun fs => (ws, fs) else []
def listG (X : Lx) (Bg : List Int → Bool) : Nat → List Int → Int → List Int → List (List Int × List Int)
 | 0, ws, f, t => endsR X ws f t
 | n + 1, ws, f, t => endsR X ws f t ++ (X.l0.zipIdx).flatMap fun (x : S53 × Nat) =>
   if (mayV X ws.length f x.1.f1 && Bg (t ++ bytesOf x.1.f0)) = true then listG X Bg n (ws ++ [(x.2 : Int)]) x.1.f1 (t ++ bytesOf x.1.f0) else []
theorem endsR_eq (X : Lx) (ws : List Int) (f : Int) (t : List Int) (ht : ∀ b ∈ t, 0 ≤ (rwOf X).wl b) : endsF X ws f (wordF (rwOf X) [p0] t) = endsR X ws f t := by
 unfold endsF endsR
 rw [fills_paths _ t ht]
theorem listG_dead (X : Lx) (Bg : List Int → Bool) (hw : ∀ x ∈ X.l0, ∀ b ∈ bytesOf x.f0, 0 ≤ (rwOf X).wl b) : ∀ (n : Nat) (ws : List Int) (f : Int) (t : List Int), (∀ u, (∀ b ∈ u, 0 ≤ (rwOf X).wl b) → fillsF (rwOf X) (rwOf X).n 0 (t ++ u) = []) → listG X Bg n ws f t = []
 | 0, ws, f, t, h => by
  rw [listG, endsR, show fillsF (rwOf X) (rwOf X).n 0 t = [] by have := h [] (by simp); rwa [List.append_nil] at this]
  split <;> rfl
 | n + 1, ws, f, t, h => by
  rw [listG, endsR, show fillsF (rwOf X) (rwOf X).n 0 t = [] by have := h [] (by simp); rwa [List.append_nil] at this]
  have e : (if (decide (0 < ws.length) && rdOf false X.l2 f) = true then ([] : List (List Int)).map (fun fs => (ws, fs)) else []) = [] := by split <;> rfl
  rw [e, List.nil_append, List.flatMap_eq_nil_iff]
  intro x hx
  split
  ·exact listG_dead X Bg hw n _ _ _ (fun u hu => by rw [List.append_assoc]; exact h _ (fun b hb => (List.mem_append.1 hb).elim (hw x.1 (List.fst_mem_of_mem_zipIdx hx) b) (hu b)))
  ·rfl
theorem fillG_list (X : Lx) (Bg : List Int → Bool) (hB : ∀ t u, (∀ b ∈ t ++ u, 0 ≤ (rwOf X).wl b) → Bg t = false → fillsF (rwOf X) (rwOf X).n 0 (t ++ u) = []) (hw : ∀ x ∈ X.l0, ∀ b ∈ bytesOf x.f0, 0 ≤ (rwOf X).wl b) : ∀ (n : Nat) (ws : List Int) (f : Int) (t : List Int), (∀ b ∈ t, 0 ≤ (rwOf X).wl b) →
  fillG X n ws f (wordF (rwOf X) [p0] t) = listG X Bg n ws f t
 | 0, ws, f, t, ht => by rw [fillG, listG, endsR_eq X ws f t ht]
 | n + 1, ws, f, t, ht => by
  rw [fillG, listG, endsR_eq X ws f t ht]
  congr 1
  apply flatMap_eq
  intro x hx
  have hx0 : x.1 ∈ X.l0 := List.fst_mem_of_mem_zipIdx hx
  have ht2 : ∀ b ∈ t ++ bytesOf x.1.f0, 0 ≤ (rwOf X).wl b := fun b hb => (List.mem_append.1 hb).elim (ht b) (hw x.1 hx0 b)
  by_cases hm : mayV X ws.length f x.1.f1 = true
  ·rw [if_pos hm, ← wordF_append, fillG_list X Bg hB hw n _ _ _ ht2, hm, Bool.true_and]
   by_cases hb : Bg (t ++ bytesOf x.1.f0) = true
   ·rw [if_pos hb]
   ·rw [if_neg hb]
    exact listG_dead X Bg hw n _ _ _ (fun u hu => hB _ u (fun b hb2 => (List.mem_append.1 hb2).elim (ht2 b) (hu b)) (by simpa using hb))
  ·rw [if_neg hm, if_neg (by rw [show mayV X ws.length f x.1.f1 = false by simpa using hm]; simp)]
theorem fillF_list (X : Lx) (Bg : List Int → Bool) (hB : ∀ t u, (∀ b ∈ t ++ u, 0 ≤ (rwOf X).wl b) → Bg t = false → fillsF (rwOf X) (rwOf X).n 0 (t ++ u) = []) (hw : ∀ x ∈ X.l0, ∀ b ∈ bytesOf x.f0, 0 ≤ (rwOf X).wl b) : fillF X 8 [] 0 [p0] = listG X Bg 8 [] 0 [] := by
 rw [fillF_all]
 exact fillG_list X Bg hB hw 8 [] 0 [] (by simp)
end Go.Proofs.Ytkfebceainedfaa.P.OwnGap
namespace Go.Proofs.Ytkfebceainedfaa.P.OwnGap
open Go.RowKit Go.Proofs.YtkfebceainedfaaW.PrintWords Go.Proofs.YtkfebceainedfaaW.PrintLast Go.Proofs.YtkfebceainedfaaW.PrintMore
open Go.Proofs.Ytkfebceainedfaa.OwnGap
set_option linter.unusedVariables false
set_option linter.unusedSimpArgs false
theorem wordV_zero {l0 : List S53} {nf i : Nat} (h : wordV l0 nf i = 0) : (1 ≤ ((rd_T53 l0 (i : Int)).f0.size : Int) ∧ ((rd_T53 l0 (i : Int)).f0.size : Int) ≤ 8) ∧ LetS (rd_T53 l0 (i : Int)).f0 ∧ (0 ≤ (rd_T53 l0 (i : Int)).f1 ∧ (rd_T53 l0 (i : Int)).f1 ≤ (nf : Int) - 1) ∧ (l0.take i).any (sameW (rd_T53 l0 (i : Int))) = false := by
 unfold wordV at h
 cases h1 : inB (rd_T53 l0 (i : Int)).f0.size 1 8 with
 | false => rw [ifT h1] at h; cases h
 | true =>
  rw [ifF h1] at h
  cases h2 : textB (rd_T53 l0 (i : Int)).f0 with
  | false => rw [ifT h2] at h; cases h
  | true =>
   rw [ifF h2] at h
   cases h3 : inB (rd_T53 l0 (i : Int)).f1 0 ((nf : Int) - 1) with
   | false => rw [ifT h3] at h; cases h
   | true =>
    rw [ifF h3] at h
    refine ⟨inB_true.1 h1, fun k hk => inB_true.1 (range_all.1 h2 k hk), inB_true.1 h3, ?_⟩
    rw [← Bool.not_eq_true]
    intro h4
    rw [if_pos h4] at h
    cases h
theorem spanV_zero {a b lo hi : Int} (h : spanV a b lo hi = 0) : (lo ≤ a ∧ a ≤ hi) ∧ (lo ≤ b ∧ b ≤ hi) ∧ a ≤ b := by
 unfold spanV at h
 cases h1 : (inB a lo hi && inB b lo hi) with
 | false => rw [ifT h1] at h; cases h
 | true =>
  rw [ifF h1] at h
  have h2 := Bool.and_eq_true_iff.1 h1
  refine ⟨inB_true.1 h2.1, inB_true.1 h2.2, ?_⟩
  by_cases h3 : b < a
  ·rw [if_pos h3] at h; cases h
  ·omega
theorem cellV_zero {c : S49} (h : cellV c = 0) : LetS c.f0 ∧ c.f0.size ≤ 26 ∧ (c.f1 = true → c.f0.size = 0 ∧ 0 ≤ c.f2.f0 ∧ c.f2.f0 ≤ c.f2.f1 ∧ c.f2.f1 ≤ 1000) ∧ (c.f1 = false → c.f2.f0 = 0 ∧ c.f2.f1 = 0) := by
 unfold cellV at h
 cases hg : c.f1 with
 | true =>
  rw [if_pos hg] at h
  by_cases hs : c.f0.size = 0
  ·rw [if_pos hs] at h
   obtain ⟨h1, h2, h3⟩ := spanV_zero h
   exact ⟨fun k hk => by omega, by omega, fun _ => ⟨hs, h1.1, h3, h2.2⟩, fun e => by cases e⟩
  ·rw [if_neg hs] at h; cases h
 | false =>
  rw [if_neg (by rw [hg]; simp)] at h
  cases ha : ascB c.f0 with
  | false => rw [ifT ha] at h; cases h
  | true =>
   rw [ifF ha] at h
   by_cases hz : c.f2.f0 = 0 ∧ c.f2.f1 = 0
   ·exact ⟨(ascB_let ha).1, (ascB_let ha).2, fun e => by (cases e), fun _ => hz⟩
   ·rw [if_neg hz] at h; cases h
theorem rowF_zero {l : List S49} : ∀ (rem i n : Nat), rowF l rem i n = 0 → n ≤ 3 → (∀ j, i ≤ j → j < i + rem → cellV (rd_T49 l (j : Int)) = 0) ∧ n + ((List.range' i rem).filter fun (j : Nat) => (rd_T49 l (j : Int)).f1).length ≤ 3
 | 0, i, n, _, hn => ⟨fun j h1 h2 => by omega, by simpa using hn⟩
 | rem + 1, i, n, h, hn => by
  unfold rowF at h
  by_cases hv : cellV (rd_T49 l (i : Int)) = 0
  ·rw [if_pos hv] at h
   have ext : (∀ j, i + 1 ≤ j → j < i + 1 + rem → cellV (rd_T49 l (j : Int)) = 0) → ∀ j, i ≤ j → j < i + (rem + 1) → cellV (rd_T49 l (j : Int)) = 0 := fun h1 j h2 h3 => by
    rcases Nat.lt_or_ge i j with h4 | h4
    ·exact h1 j (by omega) (by omega)
    ·rw [show j = i by omega]; exact hv
   rw [List.range'_succ]
   cases hg : (rd_T49 l (i : Int)).f1 with
   | true =>
    rw [if_pos hg] at h
    by_cases h3 : 3 < n + 1
    ·rw [if_pos h3] at h; cases h
    ·rw [if_neg h3] at h
     obtain ⟨h1, h2⟩ := rowF_zero rem (i + 1) (n + 1) h (by omega)
     refine ⟨ext h1, ?_⟩
     rw [List.filter_cons_of_pos (by simpa using hg), List.length_cons]
     omega
   | false =>
    rw [if_neg (by rw [hg]; simp)] at h
    obtain ⟨h1, h2⟩ := rowF_zero rem (i + 1) n h hn
    refine ⟨ext h1, ?_⟩
    rw [List.filter_cons_of_neg (by simpa using hg)]
    omega
  ·rw [if_neg hv] at h
   exact absurd h hv
structure OkC (X : Lx) : Prop where
 f1 : 1 ≤ X.l1.length
 f5 : X.l1.length ≤ 5
 l2 : X.l2.length = X.l1.length
 l3 : X.l3.length = X.l1.length
 l3r : ∀ i : Nat, i < X.l1.length → (rd_L1 X.l3 (i : Int)).length = X.l1.length
 n1 : 1 ≤ X.l0.length
 n12 : X.l0.length ≤ 12
 wd : ∀ i : Nat, i < X.l0.length → wordV X.l0 X.l1.length i = 0
 l4 : X.l4.length = 26
 sp : ∀ i : Nat, i < 26 → spanAt X.l4 i = 0
theorem checkV_zero {X : Lx} (h : checkV X.l0 X.l1 X.l2 X.l3 X.l4 = 0) : OkC X := by
 unfold checkV at h
 by_cases a1 : X.l1.length = 0
 ·rw [if_pos a1] at h; cases h
 rw [if_neg a1] at h
 by_cases a2 : 5 < X.l1.length
 ·rw [if_pos a2] at h; cases h
 rw [if_neg a2] at h
 by_cases a3 : X.l2.length ≠ X.l1.length
 ·rw [if_pos a3] at h; cases h
 rw [if_neg a3] at h
 by_cases a4 : X.l3.length ≠ X.l1.length
 ·rw [if_pos a4] at h; cases h
 rw [if_neg a4] at h
 obtain ⟨h, b1⟩ := firstF_zero _ _ h
 by_cases a5 : X.l0.length = 0
 ·rw [if_pos a5] at h; cases h
 rw [if_neg a5] at h
 by_cases a6 : 12 < X.l0.length
 ·rw [if_pos a6] at h; cases h
 rw [if_neg a6] at h
 obtain ⟨h, b2⟩ := firstF_zero _ _ h
 by_cases a7 : X.l4.length ≠ 26
 ·rw [if_pos a7] at h; cases h
 rw [if_neg a7] at h
 obtain ⟨-, b3⟩ := firstF_zero _ _ h
 refine ⟨by omega, by omega, by omega, by omega, fun i hi => ?_, by omega, by omega, fun i hi => b2 i (by omega) (by omega), by omega, fun i hi => b3 i (by omega) (by omega)⟩
 have h1 := b1 i (by omega) (by omega)
 unfold formAt at h1
 by_cases h2 : (rd_L1 X.l3 (i : Int)).length = X.l1.length
 ·exact h2
 ·rw [if_neg h2] at h1; cases h1
structure OkR (r : List S49) : Prop where
 n1 : 1 ≤ r.length
 n24 : r.length ≤ 24
 cell : ∀ i : Nat, i < r.length → cellV (rd_T49 r (i : Int)) = 0
 gaps : ((List.range' 0 r.length).filter fun (j : Nat) => (rd_T49 r (j : Int)).f1).length ≤ 3
theorem rowV_zero {r : List S49} (h : rowV r = 0) : OkR r := by
 unfold rowV at h
 by_cases a1 : r.length = 0
 ·rw [if_pos a1] at h; cases h
 rw [if_neg a1] at h
 by_cases a2 : 24 < r.length
 ·rw [if_pos a2] at h; cases h
 rw [if_neg a2] at h
 obtain ⟨h1, h2⟩ := rowF_zero _ _ _ h (by omega)
 exact ⟨by omega, by omega, fun i hi => h1 i (by omega) (by omega), by omega⟩
theorem bothV_zero {l0 : List S53} {l1 l2 : List Bool} {l3 : List (List Bool)} {l4 : List S47} {r : List S49} (h : bothV l0 l1 l2 l3 l4 r = 0) : checkV l0 l1 l2 l3 l4 = 0 ∧ rowV r = 0 := by
 unfold bothV at h
 by_cases h1 : checkV l0 l1 l2 l3 l4 = 0
 ·rw [if_pos h1] at h; exact ⟨h1, h⟩
 ·rw [if_neg h1] at h; exact absurd h h1
theorem okX_of {X : Lx} (hc : OkC X) (hr : OkR X.r) : OkX X (X.r.map fun c => ofV c.f0) := by
 refine ⟨by have := hr.n24; omega, fun a h1 h2 => ?_, fun i hi a h1 h2 => ?_⟩
 ·obtain ⟨j, hj, e⟩ : ∃ j : Nat, j < 26 ∧ a - 65 = (j : Int) := ⟨(a - 65).toNat, by omega, by omega⟩
  rw [e]
  obtain ⟨h3, h4, h5⟩ := spanV_zero (hc.sp j hj)
  omega
 ·have e : rd (X.r.map fun c => ofV c.f0) (i : Int) = ofV (rd_T49 X.r (i : Int)).f0 := by
   simp [rd, rd_T49, List.getD_eq_getElem?_getD, List.getElem?_eq_getElem hi]
  rw [e]
  exact ofV_has (cellV_zero (hr.cell i hi)).1 a h1 h2
theorem okL_of {X : Lx} (hc : OkC X) : OkL X := by
 refine ⟨hc.f1, by have := hc.f5; omega, hc.l2, hc.l3, fun f h1 h2 => ?_, by have := hc.n12; omega, fun j hj => ?_, fun j hj k hk => ?_⟩
 ·obtain ⟨i, rfl⟩ : ∃ i : Nat, f = (i : Int) := ⟨f.toNat, by omega⟩
  exact hc.l3r i (by omega)
 ·obtain ⟨h1, h2, h3, h4⟩ := wordV_zero (hc.wd j hj)
  omega
 ·exact (wordV_zero (hc.wd j hj)).2.1 k hk
theorem okP_of {X : Lx} (hr : OkR X.r) : OkP X p0 :=
 ⟨Nat.zero_le _, by decide, by decide, by decide, by decide, by decide, by
  show 0 + ((List.range' 0 (X.r.length - 0)).filter (rwOf X).gap).length ≤ 3
  have := hr.gaps
  rw [Nat.sub_zero, Nat.zero_add]
  exact this⟩
theorem let_of {r : List S49} (hr : OkR r) : ∀ i : Nat, i < r.length → LetS (rd_T49 r (i : Int)).f0 ∧ (rd_T49 r (i : Int)).f0.size < 4611686018427387903 := fun i hi => by
 obtain ⟨h1, h2, -⟩ := cellV_zero (hr.cell i hi)
 exact ⟨h1, by omega⟩
end Go.Proofs.Ytkfebceainedfaa.P.OwnGap
namespace Go.Proofs.Ytkfebceainedfaa.P.OwnGap
open Go.RowKit Go.Shelf Go.Proofs.YtkfebceainedfaaW.PrintWords Go.Proofs.YtkfebceainedfaaW.PrintLast Go.Proofs.YtkfebceainedfaaW.PrintMore
open Go.Proofs.Ytkfebceainedfaa.OwnGap
set_option linter.unusedVariables false
set_option linter.unusedSimpArgs false
def wsum (f : Int → Int) (l : List Int) : Int := (l.map f).sum
theorem wsum_cons (f : Int → Int) (a : Int) (l : List Int) : wsum f (a :: l) = f a + wsum f l := by simp [wsum]
theorem wsum_snoc (f : Int → Int) (a : Int) (l : List Int) : wsum f (l ++ [a]) = wsum f l + f a := by simp [wsum]
theorem mem_gapF (R : Rw) (next : List Int → List (List Int)) (i : Nat) : ∀ (t : List Int) (m : Nat) (l h : Int) (f : List Int),
  f ∈ gapF R next i m l h t ↔ ∃ k, k ≤ t.length ∧ (k = 0 ∨ m + k ≤ 10) ∧ okW R i (l + wsum R.wl (t.take k)) (h + wsum R.wh (t.take k)) = true ∧ ∃ g ∈ next (t.drop k), f = ((m + k : Nat) : Int) :: g
 | [], m, l, h, f => by
  rw [gapF_nil]
  constructor
  ·intro hf
   by_cases ho : okW R i l h = true
   ·rw [if_pos ho] at hf
    obtain ⟨g, hg, rfl⟩ := List.mem_map.1 hf
    exact ⟨0, Nat.le_refl _, .inl rfl, by simpa [wsum] using ho, g, hg, rfl⟩
   ·rw [if_neg ho] at hf
    simp at hf
  ·rintro ⟨k, hk, -, ho, g, hg, rfl⟩
   obtain rfl : k = 0 := by simpa using hk
   rw [if_pos (by simpa [wsum] using ho)]
   exact List.mem_map.2 ⟨g, hg, rfl⟩
 | a :: t, m, l, h, f => by
  rw [gapF_cons, List.mem_append]
  constructor
  ·rintro (hf | hf)
   ·by_cases ho : okW R i l h = true
    ·rw [if_pos ho] at hf
     obtain ⟨g, hg, rfl⟩ := List.mem_map.1 hf
     exact ⟨0, Nat.zero_le _, .inl rfl, by simpa [wsum] using ho, g, hg, rfl⟩
    ·rw [if_neg ho] at hf
     simp at hf
   ·by_cases hm : m + 1 ≤ 10
    ·rw [if_pos hm] at hf
     obtain ⟨k, hk, hk0, ho, g, hg, rfl⟩ := (mem_gapF R next i t (m + 1) _ _ f).1 hf
     refine ⟨k + 1, by simpa using hk, .inr (by omega), ?_, g, by simpa using hg, by rw [show m + 1 + k = m + (k + 1) by omega]⟩
     rw [List.take_succ_cons, wsum_cons, wsum_cons, ← Int.add_assoc, ← Int.add_assoc]
     exact ho
    ·rw [if_neg hm] at hf
     simp at hf
  ·rintro ⟨k, hk, hk0, ho, g, hg, rfl⟩
   cases k with
   | zero =>
    left
    rw [if_pos (by simpa [wsum] using ho)]
    exact List.mem_map.2 ⟨g, by simpa using hg, rfl⟩
   | succ k =>
    right
    rw [if_pos (by omega)]
    refine (mem_gapF R next i t (m + 1) _ _ _).2 ⟨k, by simpa using hk, by omega, ?_, g, by simpa using hg, by rw [show m + 1 + k = m + (k + 1) by omega]⟩
    rw [List.take_succ_cons, wsum_cons, wsum_cons, ← Int.add_assoc, ← Int.add_assoc] at ho
    exact ho
theorem bytesOf_extract (T : ByteArray) (a : Nat) : bytesOf (T.extract a T.size) = (bytesOf T).drop a := by
 unfold bytesOf
 rw [ByteArray.data_extract, Array.toList_extract, List.extract_eq_take_drop, ← List.map_drop]
 congr 1
 rw [List.take_of_length_le]
 rw [List.length_drop, data_length]
 exact Nat.le_refl _
theorem bytesOf_cons {T : ByteArray} (h : 0 < T.size) : bytesOf T = bt T 0 :: bytesOf (T.extract 1 T.size) := by
 rw [bytesOf_extract]
 have hl : 0 < (bytesOf T).length := by rw [bytesOf_length]; exact h
 have e := List.drop_eq_getElem_cons hl
 rw [List.drop_zero] at e
 conv => lhs; rw [e]
 have h2 := rd_bytesOf T 0
 rw [← h2]
 simp [rd, List.getD_eq_getElem?_getD, List.getElem?_eq_getElem hl]
theorem bytesOf_take {T : ByteArray} {k : Nat} (h : k < T.size) : (bytesOf T).take (k + 1) = (bytesOf T).take k ++ [bt T (k : Int)] := by
 have hl : k < (bytesOf T).length := by rw [bytesOf_length]; exact h
 rw [List.take_add_one, List.getElem?_eq_getElem hl, ← rd_bytesOf]
 simp [rd, List.getD_eq_getElem?_getD, List.getElem?_eq_getElem hl]
theorem bytesOf_nil {T : ByteArray} : bytesOf T = [] ↔ T.size = 0 := by
 rw [← List.length_eq_zero_iff, bytesOf_length]
theorem sumW_wsum (X : Lx) (T : ByteArray) : ∀ k : Nat, k ≤ T.size → sumW X T k = (wsum (rwOf X).wl ((bytesOf T).take k), wsum (rwOf X).wh ((bytesOf T).take k))
 | 0, _ => by simp [sumW, wsum]
 | k + 1, hk => by
  rw [sumW_succ, sumW_wsum X T k (by omega), bytesOf_take (by omega), wsum_snoc, wsum_snoc]
  rfl
theorem rd49_drop {r : List S49} {i : Nat} (h : i < r.length) : r.drop i = rd_T49 r (i : Int) :: r.drop (i + 1) := by
 rw [List.drop_eq_getElem_cons h]
 simp [rd_T49, List.getD_eq_getElem?_getD, List.getElem?_eq_getElem h]
theorem mem_fills (X : Lx) : ∀ (rem i : Nat) (fs : List Int) (T : ByteArray), i + rem = X.r.length → (fs ∈ fillsF (rwOf X) rem i (bytesOf T) ↔ cellF X (X.r.drop i) fs T = true)
 | 0, i, fs, T, hi => by
  rw [fillsF, List.drop_eq_nil_of_le (by omega), cellF]
  by_cases h : T.size = 0
  ·rw [if_pos (bytesOf_nil.2 h)]
   simp [h]
  ·rw [if_neg (fun e => h (bytesOf_nil.1 e))]
   simp [h]
 | rem + 1, i, fs, T, hi => by
  rw [fillsF_succ, rd49_drop (by omega), cellF]
  by_cases hg : (rd_T49 X.r (i : Int)).f1 = true
  ·rw [if_neg (show ¬ (rwOf X).gap i = false by show ¬ (rd_T49 X.r (i : Int)).f1 = false; rw [hg]; decide), if_pos hg, mem_gapF]
   cases fs with
   | nil => simp
   | cons h fs =>
    rw [if_neg (by simp), List.headD_cons, List.tail_cons]
    constructor
    ·rintro ⟨k, hk, hk0, ho, g, hgm, he⟩
     injection he with he1 he2
     subst he2
     rw [Nat.zero_add] at he1
     subst he1
     rw [bytesOf_length] at hk
     rw [Int.toNat_natCast, if_neg (by rw [Bool.not_eq_false, inB_true]; omega), sumW_wsum X T k hk]
     rw [Int.zero_add, Int.zero_add] at ho
     simp only [okW, decide_eq_true_eq] at ho
     rw [if_neg (by
      rintro (h1 | h1)
      ·have := ho.1
       have h2 : (rwOf X).hi i = (rd_T49 X.r (i : Int)).f2.f1 := rfl
       omega
      ·have := ho.2
       have h2 : (rwOf X).lo i = (rd_T49 X.r (i : Int)).f2.f0 := rfl
       omega)]
     rw [← bytesOf_extract] at hgm
     exact (mem_fills X rem (i + 1) _ _ (by omega)).1 hgm
    ·intro hc
     have hin : inB h 0 (min 10 (T.size : Int)) = true := by
      rw [← Bool.not_eq_false]
      intro e
      rw [if_pos e] at hc
      cases hc
     rw [if_neg (by rw [hin]; decide)] at hc
     have hb := inB_true.1 hin
     obtain ⟨k, rfl⟩ : ∃ k : Nat, h = (k : Int) := ⟨h.toNat, by omega⟩
     rw [Int.toNat_natCast] at hc
     have hkT : k ≤ T.size := by omega
     rw [sumW_wsum X T k hkT] at hc
     by_cases hw : wsum (rwOf X).wl ((bytesOf T).take k) > (rd_T49 X.r (i : Int)).f2.f1 ∨ wsum (rwOf X).wh ((bytesOf T).take k) < (rd_T49 X.r (i : Int)).f2.f0
     ·rw [if_pos hw] at hc
      cases hc
     ·rw [if_neg hw] at hc
      refine ⟨k, by rw [bytesOf_length]; exact hkT, by omega, ?_, fs, ?_, by rw [Nat.zero_add]⟩
      ·rw [Int.zero_add, Int.zero_add]
       simp only [okW, decide_eq_true_eq]
       have h1 : (rwOf X).hi i = (rd_T49 X.r (i : Int)).f2.f1 := rfl
       have h2 : (rwOf X).lo i = (rd_T49 X.r (i : Int)).f2.f0 := rfl
       omega
      ·rw [← bytesOf_extract]
       exact (mem_fills X rem (i + 1) _ _ (by omega)).2 hc
  ·have hg' : (rd_T49 X.r (i : Int)).f1 = false := by simpa using hg
   rw [if_pos (show (rwOf X).gap i = false from hg'), if_neg hg]
   by_cases h0 : T.size = 0
   ·rw [if_pos h0, bytesOf_nil.2 h0]
    simp
   ·rw [if_neg h0, bytesOf_cons (Nat.pos_of_ne_zero h0)]
    show fs ∈ (if (rwOf X).fit i (bt T 0) = true then fillsF (rwOf X) rem (i + 1) (bytesOf (T.extract 1 T.size)) else []) ↔ _
    have hf : (rwOf X).fit i (bt T 0) = fitB (rd_T49 X.r (i : Int)).f0 (bt T 0) := rfl
    rw [hf]
    cases fitB (rd_T49 X.r (i : Int)).f0 (bt T 0) with
    | false => simp
    | true =>
     rw [if_pos rfl, if_neg (by decide)]
     exact mem_fills X rem (i + 1) _ _ (by omega)
def lettersI (X : Lx) (ws : List Int) : List Int := ws.flatMap fun i => bytesOf (rd_T53 X.l0 i).f0
theorem lettersI_eq (X : Lx) (ws : List Int) : bytesOf (wordsV X ws) = lettersI X ws := by
 show (conT X ws).map (fun b => (b.toNat : Int)) = _
 unfold conT lettersI
 rw [List.map_flatMap]
 rfl
theorem rd53_nat {X : Lx} {j : Nat} (hj : j < X.l0.length) : X.l0[j] = rd_T53 X.l0 (j : Int) := by
 simp [rd_T53, List.getD_eq_getElem?_getD, List.getElem?_eq_getElem hj]
theorem mem_listG (X : Lx) : ∀ (n : Nat) (ws : List Int) (f : Int) (t : List Int) (vs fs : List Int),
  (vs, fs) ∈ listG X (fun _ => true) n ws f t ↔ ∃ us : List Int, vs = ws ++ us ∧ us.length ≤ n ∧ (∀ u ∈ us, 0 ≤ u ∧ u < X.l0.length) ∧ 0 < vs.length ∧ (∃ f', mayAll X ws.length f us = some f' ∧ rdOf false X.l2 f' = true) ∧ fs ∈ fillsF (rwOf X) (rwOf X).n 0 (t ++ lettersI X us) := by
 have hend : ∀ (ws : List Int) (f : Int) (t : List Int) (vs fs : List Int), (vs, fs) ∈ endsR X ws f t ↔ (vs = ws ∧ 0 < vs.length ∧ rdOf false X.l2 f = true ∧ fs ∈ fillsF (rwOf X) (rwOf X).n 0 t) := by
  intro ws f t vs fs
  unfold endsR
  by_cases hc : (decide (0 < ws.length) && rdOf false X.l2 f) = true
  ·rw [if_pos hc]
   simp only [Bool.and_eq_true, decide_eq_true_eq] at hc
   rw [List.mem_map]
   constructor
   ·rintro ⟨g, hg, he⟩
    injection he with he1 he2
    subst he1 he2
    exact ⟨rfl, hc.1, hc.2, hg⟩
   ·rintro ⟨rfl, -, -, hg⟩
    exact ⟨fs, hg, rfl⟩
  ·rw [if_neg hc]
   simp only [Bool.and_eq_true, decide_eq_true_eq] at hc
   constructor
   ·intro h
    simp at h
   ·rintro ⟨rfl, h1, h2, -⟩
    exact absurd ⟨h1, h2⟩ hc
 intro n
 induction n with
 | zero =>
  intro ws f t vs fs
  rw [listG, hend]
  constructor
  ·rintro ⟨rfl, h1, h2, h3⟩
   exact ⟨[], by simp, by simp, by simp, h1, ⟨f, rfl, h2⟩, by simpa [lettersI] using h3⟩
  ·rintro ⟨us, rfl, hu, -, h1, ⟨f', hf, h2⟩, h3⟩
   obtain rfl : us = [] := by simpa using hu
   rw [mayAll] at hf
   injection hf with hf
   subst hf
   exact ⟨by simp, h1, h2, by simpa [lettersI] using h3⟩
 | succ n ih =>
  intro ws f t vs fs
  rw [listG, List.mem_append, hend, List.mem_flatMap]
  constructor
  ·rintro (⟨rfl, h1, h2, h3⟩ | ⟨⟨w, j⟩, hx, hm⟩)
   ·exact ⟨[], by simp, by simp, by simp, h1, ⟨f, rfl, h2⟩, by simpa [lettersI] using h3⟩
   ·have hx2 := List.mem_zipIdx' hx
    have hj : j < X.l0.length := hx2.1
    have hw : w = rd_T53 X.l0 (j : Int) := by rw [hx2.2, rd53_nat]
    clear hx hx2
    subst hw
    simp only [Bool.and_true] at hm
    by_cases hy : mayV X ws.length f (rd_T53 X.l0 (j : Int)).f1 = true
    ·rw [if_pos hy, ih] at hm
     obtain ⟨us, rfl, hu, hub, h1, ⟨f', hf, h2⟩, h3⟩ := hm
     refine ⟨(j : Int) :: us, by simp, by simpa using hu, ?_, by simp; omega, ⟨f', ?_, h2⟩, ?_⟩
     ·intro u hu2
      rcases List.mem_cons.1 hu2 with rfl | hu2
      ·omega
      ·exact hub u hu2
     ·rw [mayAll, if_pos hy]
      simpa using hf
     ·rw [List.append_assoc] at h3
      exact h3
    ·rw [if_neg hy] at hm
     simp at hm
  ·rintro ⟨us, rfl, hu, hub, h1, ⟨f', hf, h2⟩, h3⟩
   cases us with
   | nil =>
    left
    rw [mayAll] at hf
    injection hf with hf
    subst hf
    exact ⟨by simp, h1, h2, by simpa [lettersI] using h3⟩
   | cons u us =>
    right
    obtain ⟨b0, b1⟩ := hub u (by simp)
    obtain ⟨j, rfl⟩ : ∃ j : Nat, u = (j : Int) := ⟨u.toNat, by omega⟩
    have hj : j < X.l0.length := by omega
    refine ⟨(X.l0[j], j), List.mem_zipIdx_iff_getElem?.2 (List.getElem?_eq_getElem hj), ?_⟩
    simp only [Bool.and_true]
    rw [mayAll] at hf
    by_cases hy : mayV X ws.length f (rd_T53 X.l0 (j : Int)).f1 = true
    ·rw [if_pos hy] at hf
     rw [rd53_nat hj, if_pos hy, ih]
     refine ⟨us, by simp, by simpa using hu, fun v hv => hub v (by simp [hv]), by simp; omega, ⟨f', by simpa using hf, h2⟩, ?_⟩
     rw [List.append_assoc]
     exact h3
    ·rw [if_neg hy] at hf
     cases hf
theorem wl_nonneg {X : Lx} {fits : List Int} (hX : OkX X fits) (hL : ∀ j : Nat, j < X.l0.length → LetS (rd_T53 X.l0 (j : Int)).f0) : ∀ x ∈ X.l0, ∀ b ∈ bytesOf x.f0, 0 ≤ (rwOf X).wl b := by
 intro x hx b hb
 obtain ⟨j, hj, rfl⟩ := List.mem_iff_getElem.1 hx
 rw [rd53_nat hj] at hb
 obtain ⟨h0, h1⟩ := (hL j hj).all b hb
 exact (hX.w b h0 h1).1
theorem mem_fillF {X : Lx} {fits : List Int} (hX : OkX X fits) (hL : ∀ j : Nat, j < X.l0.length → LetS (rd_T53 X.l0 (j : Int)).f0) (vs fs : List Int) :
  (vs, fs) ∈ fillF X 8 [] 0 [p0] ↔ isF X vs fs = true ∧ ∀ u ∈ vs, 0 ≤ u ∧ u < X.l0.length := by
 rw [fillF_list X (fun _ => true) (fun t u _ h => by cases h) (wl_nonneg hX hL), mem_listG]
 unfold isF
 constructor
 ·rintro ⟨us, he, hu, hub, h1, ⟨f', hf, h2⟩, h3⟩
  rw [List.nil_append] at he h3
  subst he
  refine ⟨?_, hub⟩
  rw [if_pos (inB_true.2 (by omega))]
  rw [show (([] : List Int).length) = 0 from rfl] at hf
  rw [hf]
  show (rdOf false X.l2 f' && cellF X X.r fs (wordsV X vs)) = true
  rw [h2, Bool.true_and]
  rw [← lettersI_eq] at h3
  have := (mem_fills X X.r.length 0 fs (wordsV X vs) (by omega)).1 h3
  rwa [List.drop_zero] at this
 ·rintro ⟨h, hub⟩
  by_cases hin : inB (vs.length : Int) 1 8 = true
  ·rw [if_pos hin] at h
   have hb := inB_true.1 hin
   cases hm : mayAll X 0 0 vs with
   | none => rw [hm] at h; cases h
   | some f' =>
    rw [hm] at h
    have h' : (rdOf false X.l2 f' && cellF X X.r fs (wordsV X vs)) = true := h
    rw [Bool.and_eq_true] at h'
    refine ⟨vs, rfl, by omega, hub, by omega, ⟨f', hm, h'.1⟩, ?_⟩
    rw [List.nil_append, ← lettersI_eq]
    refine (mem_fills X X.r.length 0 fs (wordsV X vs) (by omega)).2 ?_
    rw [List.drop_zero]
    exact h'.2
  ·rw [if_neg hin] at h
   cases h
theorem cellF_parts (X : Lx) : ∀ (r : List S49) (fs : List Int) (T : ByteArray), cellF X r fs T = true → PartsOk r fs T ∧ (partsF r fs T).length = r.length ∧ (partsF r fs T).flatMap (fun p => p.data.toList) = T.data.toList
 | [], fs, T, h => by
  rw [cellF, Bool.and_eq_true, decide_eq_true_eq] at h
  refine ⟨trivial, rfl, ?_⟩
  have : T.data.toList.length = 0 := by rw [data_length]; exact h.1
  rw [List.length_eq_zero_iff.1 this]
  rfl
 | c :: r, fs, T, h => by
  have hext : ∀ k : Nat, k ≤ T.size → (T.extract 0 k).data.toList ++ (T.extract k T.size).data.toList = T.data.toList := by
   intro k hk
   rw [ByteArray.data_extract, ByteArray.data_extract, Array.toList_extract, Array.toList_extract, List.extract_eq_take_drop, List.extract_eq_take_drop, List.drop_zero, Nat.sub_zero]
   rw [List.take_of_length_le (l := T.data.toList.drop k) (by rw [List.length_drop, data_length]; exact Nat.le_refl _)]
   exact List.take_append_drop k _
  rw [cellF] at h
  unfold PartsOk partsF
  by_cases hg : c.f1 = true
  ·rw [if_pos hg] at h ⊢
   cases fs with
   | nil => simp at h
   | cons x fs =>
    rw [if_neg (by simp), List.headD_cons, List.tail_cons] at h
    rw [List.headD_cons, List.tail_cons]
    have hin : inB x 0 (min 10 (T.size : Int)) = true := by
     rw [← Bool.not_eq_false]
     intro e
     rw [if_pos e] at h
     cases h
    rw [if_neg (by rw [hin]; decide)] at h
    have hb := inB_true.1 hin
    obtain ⟨k, rfl⟩ : ∃ k : Nat, x = (k : Int) := ⟨x.toNat, by omega⟩
    rw [Int.toNat_natCast] at h ⊢
    have hc : cellF X r fs (T.extract k T.size) = true := by
     by_cases hw : (sumW X T k).1 > c.f2.f1 ∨ (sumW X T k).2 < c.f2.f0
     ·rw [if_pos hw] at h
      cases h
     ·rwa [if_neg hw] at h
    obtain ⟨h1, h2, h3⟩ := cellF_parts X r fs _ hc
    refine ⟨⟨fun _ => ⟨by simp, by omega, by omega, h1⟩, fun e => by rw [hg] at e; cases e⟩, by rw [List.length_cons, List.length_cons, h2], ?_⟩
    rw [List.flatMap_cons, h3]
    exact hext k (by omega)
  ·have hg' : c.f1 = false := by simpa using hg
   rw [if_neg hg] at h ⊢
   by_cases h0 : T.size = 0
   ·rw [if_pos h0] at h
    cases h
   ·rw [if_neg h0] at h
    have hc : cellF X r fs (T.extract 1 T.size) = true := by
     by_cases hw : fitB c.f0 (bt T 0) = false
     ·rw [if_pos hw] at h
      cases h
     ·rwa [if_neg hw] at h
    obtain ⟨h1, h2, h3⟩ := cellF_parts X r fs _ hc
    refine ⟨⟨fun e => absurd e hg, fun _ => ⟨by omega, h1⟩⟩, by rw [List.length_cons, List.length_cons, h2], ?_⟩
    rw [List.flatMap_cons, h3]
    exact hext 1 (by omega)
theorem cellF_fills (X : Lx) : ∀ (r : List S49) (fs : List Int) (T : ByteArray), cellF X r fs T = true → fs.length = (r.filter fun c => c.f1).length
 | [], fs, T, h => by
  rw [cellF, Bool.and_eq_true, decide_eq_true_eq, decide_eq_true_eq] at h
  exact h.2
 | c :: r, fs, T, h => by
  rw [cellF] at h
  by_cases hg : c.f1 = true
  ·rw [if_pos hg] at h
   rw [List.filter_cons_of_pos hg]
   cases fs with
   | nil => simp at h
   | cons x fs =>
    rw [if_neg (by simp), List.headD_cons, List.tail_cons] at h
    split at h
    ·cases h
    ·split at h
     ·cases h
     ·rw [List.length_cons, List.length_cons, cellF_fills X r fs _ h]
  ·rw [if_neg hg] at h
   rw [List.filter_cons_of_neg (by simpa using hg)]
   split at h
   ·cases h
   ·split at h
    ·cases h
    ·exact cellF_fills X r fs _ h
end Go.Proofs.Ytkfebceainedfaa.P.OwnGap
namespace Go.Proofs.Ytkfebceainedfaa.P.OwnGap
open Go.RowKit Go.Shelf Go.Proofs.YtkfebceainedfaaW.PrintWords Go.Proofs.YtkfebceainedfaaW.PrintLast Go.Proofs.YtkfebceainedfaaW.PrintMore
open Go.Proofs.Ytkfebceainedfaa.OwnGap
set_option linter.unusedVariables false
set_option linter.unusedSimpArgs false
def hidB (c : S49) : Bool := c.f1 || !(decide (c.f0.size = 1))
def hidF : List S49 → List ByteArray → List Bool
 | c :: r, p :: ps => List.replicate p.size (hidB c) ++ hidF r ps
 | _, _ => []
def befB (H : List Bool) (q : Nat) : Bool := if q = 0 then false else H.getD (q - 1) false
def letW (b h bl : Bool) (x : UInt8) : List UInt8 := (if (b && !h) = true then [93] else []) ++ ((if bl = true then [32] else []) ++ ((if (!b && h) = true then [91] else []) ++ [x]))
def wordW (H : List Bool) : Nat → Bool → List UInt8 → List UInt8
 | _, _, [] => []
 | q, bl, a :: t => letW (befB H q) (H.getD q false) bl a ++ wordW H (q + 1) false t
def printW (X : Lx) (H : List Bool) : Nat → Nat → List Int → List UInt8
 | _, q, [] => if befB H q = true then [93] else []
 | i, q, u :: us => wordW H q (decide (0 < i)) (rd_T53 X.l0 u).f0.data.toList ++ printW X H (i + 1) (q + (rd_T53 X.l0 u).f0.size) us
def hidV (X : Lx) (ws fs : List Int) : List Bool := hidF X.r (partsF X.r fs (wordsV X ws))
def printT (X : Lx) (ws fs : List Int) : ByteArray := ⟨(printW X (hidV X ws fs) 0 0 ws).toArray⟩
theorem hidF_len : ∀ (r : List S49) (ps : List ByteArray), r.length = ps.length → (hidF r ps).length = (ps.flatMap fun p => p.data.toList).length
 | [], [], _ => rfl
 | c :: r, p :: ps, h => by
  rw [hidF, List.length_append, List.length_replicate, hidF_len r ps (by simpa using h), List.flatMap_cons, List.length_append, data_length]
 | [], _ :: _, h => by cases h
 | _ :: _, [], h => by cases h
theorem letW_len (b h bl : Bool) (x : UInt8) : (letW b h bl x).length ≤ 4 := by
 cases b <;> cases h <;> cases bl <;> simp [letW]
structure BD (bb : Nat) (w6 : World) (D : List UInt8) (n : Nat) (W : World) : Prop where
 is : Lib.IsBuilder 114 5 bb bb (Lib.byteCells D) W
 below : Below bb w6 W
 size : bb < W.heap.size
 len : D.length ≤ n
theorem BD.next {bb : Nat} {w6 : World} {D : List UInt8} {n : Nat} {W W' : World} (h : BD bb w6 D n W) (hb : Below W.heap.size W W') : BD bb w6 D n W' :=
 ⟨bld_next h.is hb, h.below.trans (hb.mono (by have := h.size; omega)), by have := h.size; have := hb.size; omega, h.len⟩
theorem BD.up {bb : Nat} {w6 : World} {D : List UInt8} {n m : Nat} {W : World} (h : BD bb w6 D n W) (hm : n ≤ m) : BD bb w6 D m W := ⟨h.is, h.below, h.size, Nat.le_trans h.len hm⟩
theorem put_calls {bb : Nat} {w6 : World} {D : List UInt8} {n : Nat} {w : World} (c : UInt8) (cz : Int) (hc : cz = (c.toNat : Int)) (h : BD bb w6 D n w) (hn : n ≤ 1000000) :
  Calls Try.prog 66 #[.pointer (some ⟨bb, 0, none⟩), .int .u8 cz] w fun e w' => e = .returned .nilIface ∧ BD bb w6 (D ++ [c]) (n + 1) w' := by
 refine (writeByte_calls bb bb (Lib.byteCells D) cz w h.is (by rw [Lib.byteCells_length]; have := h.len; omega) (by have := h.size; omega)).mono ?_
 rintro e w' ⟨he, hb, hbel, hz⟩
 refine ⟨he, ?_, h.below.trans hbel, by have := h.size; omega, by rw [List.length_append]; have := h.len; simp; omega⟩
 have e : Lib.byteCells (D ++ [c]) = Lib.byteCells D ++ [.int .u8 cz] := by
  unfold Lib.byteCells
  rw [List.map_append, hc]
  rfl
 rw [e]
 exact hb
end Go.Proofs.Ytkfebceainedfaa.P.OwnGap
namespace Go.Proofs.Ytkfebceainedfaa.P.OwnGap
open Go.RowKit Go.Proofs.YtkfebceainedfaaW.PrintWords Go.Proofs.YtkfebceainedfaaW.PrintLast Go.Proofs.YtkfebceainedfaaW.PrintMore
open Go.Proofs.Ytkfebceainedfaa.OwnGap
set_option linter.unusedVariables false
set_option linter.unusedSimpArgs false
structure Os where
 o : List UInt8
 w : List UInt8
 i : Bool
 l : UInt8
def stepO (s : Os) (c : UInt8) : Option Os :=
 if c = 91 ∨ c = 93 then (if ((decide (c = 91) == s.i) || (decide (c = 93) && decide (s.l = 91)) || (decide (c = 91) && decide (s.l = 93))) = true then none else some ⟨s.o, s.w, decide (c = 91), c⟩)
 else some ⟨if s.i = false ∧ c ≠ 32 then s.o ++ [c] else s.o, s.w ++ [c], s.i, c⟩
def runO : Os → List UInt8 → Option Os
 | s, [] => some s
 | s, c :: t => (stepO s c).bind fun s' => runO s' t
theorem runO_append : ∀ (t u : List UInt8) (s : Os), runO s (t ++ u) = (runO s t).bind fun s' => runO s' u
 | [], u, s => rfl
 | c :: t, u, s => by
  rw [List.cons_append, runO, runO]
  cases stepO s c with
  | none => rfl
  | some s' => exact runO_append t u s'
def visF (H : List Bool) : Nat → List UInt8 → List UInt8
 | _, [] => []
 | q, a :: t => (if H.getD q false = true then [] else [a]) ++ visF H (q + 1) t
theorem visF_append (H : List Bool) : ∀ (t u : List UInt8) (q : Nat), visF H q (t ++ u) = visF H q t ++ visF H (q + t.length) u
 | [], u, q => rfl
 | a :: t, u, q => by
  rw [List.cons_append, visF, visF, visF_append H t u, List.length_cons, List.append_assoc, show q + 1 + t.length = q + (t.length + 1) by omega]
def dueF (X : Lx) : Nat → List Int → List UInt8
 | _, [] => []
 | i, u :: us => (if 0 < i then [32] else []) ++ ((rd_T53 X.l0 u).f0.data.toList ++ dueF X (i + 1) us)
def LetU (a : UInt8) : Prop := a ≠ 91 ∧ a ≠ 93 ∧ a ≠ 32
theorem run_let (b h bl : Bool) {x : UInt8} (hx : LetU x) (o w : List UInt8) {l : UInt8} (hl : l ≠ 91 ∧ l ≠ 93) : runO ⟨o, w, b, l⟩ (letW b h bl x) = some ⟨o ++ (if h = true then [] else [x]), w ++ ((if bl = true then [32] else []) ++ [x]), h, x⟩ := by
 obtain ⟨x1, x2, x3⟩ := hx
 obtain ⟨l1, l2⟩ := hl
 cases b <;> cases h <;> cases bl <;> simp [letW, runO, stepO, x1, x2, x3, l1, l2]
theorem bef_next (H : List Bool) (q : Nat) : befB H (q + 1) = H.getD q false := by
 unfold befB
 rw [if_neg (by omega), Nat.add_sub_cancel]
theorem run_word (H : List Bool) : ∀ (t : List UInt8) (q : Nat) (o w : List UInt8) (l : UInt8), (∀ a ∈ t, LetU a) → (l ≠ 91 ∧ l ≠ 93) → ∃ l', (l' ≠ 91 ∧ l' ≠ 93) ∧ runO ⟨o, w, befB H q, l⟩ (wordW H q false t) = some ⟨o ++ visF H q t, w ++ t, befB H (q + t.length), l'⟩
 | [], q, o, w, l, ht, hl => ⟨l, hl, by simp [wordW, runO, visF]⟩
 | a :: t, q, o, w, l, ht, hl => by
  have ha := ht a (by simp)
  obtain ⟨l', h1, h2⟩ := run_word H t (q + 1) (o ++ (if H.getD q false = true then [] else [a])) (w ++ [a]) a (fun b hb => ht b (by simp [hb])) ⟨ha.1, ha.2.1⟩
  refine ⟨l', h1, ?_⟩
  rw [wordW, runO_append, run_let _ _ _ ha _ _ hl, Option.bind_some]
  rw [bef_next] at h2
  have e : w ++ ((if (false : Bool) = true then [32] else []) ++ [a]) = w ++ [a] := by simp
  rw [e, h2, visF, List.append_assoc, List.append_assoc, List.length_cons, show q + 1 + t.length = q + (t.length + 1) by omega]
  rfl
theorem run_print (X : Lx) (H : List Bool) : ∀ (us : List Int) (i q : Nat) (o w : List UInt8) (l : UInt8), (∀ u ∈ us, (rd_T53 X.l0 u).f0.data.toList ≠ [] ∧ ∀ a ∈ (rd_T53 X.l0 u).f0.data.toList, LetU a) → (l ≠ 91 ∧ l ≠ 93) →
  ∃ l', runO ⟨o, w, befB H q, l⟩ (printW X H i q us) = some ⟨o ++ visF H q (conT X us), w ++ dueF X i us, false, l'⟩
 | [], i, q, o, w, l, hu, hl => by
  rw [printW]
  cases hb : befB H q with
  | false => exact ⟨l, by simp [runO, conT, visF, dueF]⟩
  | true => exact ⟨93, by simp [runO, stepO, conT, visF, dueF, hl.1]⟩
 | u :: us, i, q, o, w, l, hu, hl => by
  obtain ⟨hne, hlet⟩ := hu u (by simp)
  have hsz : (rd_T53 X.l0 u).f0.size = (rd_T53 X.l0 u).f0.data.toList.length := by rw [Array.length_toList]; rfl
  have hcon : conT X (u :: us) = (rd_T53 X.l0 u).f0.data.toList ++ conT X us := by simp [conT]
  rw [printW, hcon, visF_append, dueF, hsz]
  cases ht : (rd_T53 X.l0 u).f0.data.toList with
  | nil => exact absurd ht hne
  | cons a t =>
   rw [ht] at hlet
   have ha := hlet a (by simp)
   obtain ⟨l1, h1, h2⟩ := run_word H t (q + 1) (o ++ (if H.getD q false = true then [] else [a])) (w ++ ((if decide (0 < i) = true then [32] else []) ++ [a])) a (fun b hb => hlet b (by simp [hb])) ⟨ha.1, ha.2.1⟩
   rw [bef_next] at h2
   obtain ⟨l2, h3⟩ := run_print X H us (i + 1) (q + (a :: t).length) (o ++ visF H q (a :: t)) (w ++ ((if 0 < i then [32] else []) ++ (a :: t))) l1 (fun v hv => hu v (by simp [hv])) h1
   refine ⟨l2, ?_⟩
   rw [runO_append, wordW, runO_append, run_let _ _ _ ha _ _ hl, Option.bind_some, h2, Option.bind_some]
   have e1 : o ++ (if H.getD q false = true then [] else [a]) ++ visF H (q + 1) t = o ++ visF H q (a :: t) := by rw [visF, List.append_assoc]
   have e2 : w ++ ((if decide (0 < i) = true then [32] else []) ++ [a]) ++ t = w ++ ((if 0 < i then [32] else []) ++ (a :: t)) := by simp
   rw [e1, e2, show q + 1 + t.length = q + (a :: t).length by rw [List.length_cons]; omega, h3]
   simp
def shownF : List S49 → List UInt8
 | [] => []
 | c :: r => (if c.f0.size = 1 then c.f0.data.toList else []) ++ shownF r
theorem getD_right (A B : List Bool) (k : Nat) : (A ++ B).getD (A.length + k) false = B.getD k false := by
 rw [List.getD_eq_getElem?_getD, List.getD_eq_getElem?_getD, List.getElem?_append_right (by omega)]
 congr 2
 omega
theorem visF_shift (A : List Bool) : ∀ (t : List UInt8) (B : List Bool) (q : Nat), visF (A ++ B) (A.length + q) t = visF B q t
 | [], B, q => rfl
 | a :: t, B, q => by rw [visF, visF, getD_right, Nat.add_assoc, visF_shift A t B (q + 1)]
theorem visF_rep (b : Bool) : ∀ (t : List UInt8) (A B : List Bool), visF (A ++ (List.replicate t.length b ++ B)) A.length t = if b = true then [] else t
 | [], A, B => by cases b <;> rfl
 | a :: t, A, B => by
  have h := visF_rep b t (A ++ [b]) B
  rw [List.append_assoc, List.singleton_append, List.length_append, List.length_singleton] at h
  have e : A ++ (List.replicate (a :: t).length b ++ B) = A ++ (b :: (List.replicate t.length b ++ B)) := by rw [List.length_cons, List.replicate_succ]; rfl
  have g : (A ++ (b :: (List.replicate t.length b ++ B))).getD A.length false = b := by simp [List.getD_eq_getElem?_getD]
  rw [e, visF, h, g]
  cases b <;> rfl
theorem extract_one {T : ByteArray} (h : 0 < T.size) : (T.extract 0 1).data.toList = [T[0]'h] := by
 rw [ByteArray.data_extract, Array.toList_extract]
 have h1 : 0 < T.data.toList.length := by rw [Array.length_toList]; exact h
 rw [List.extract_eq_take_drop, List.drop_zero]
 apply List.ext_getElem
 ·simp; omega
 ·intro i h2 h3
  obtain rfl : i = 0 := by simp at h3; omega
  simp [ByteArray.getElem_eq_getElem_data]
theorem one_fit {s T : ByteArray} (hs : s.size = 1) (hT : 0 < T.size) (hf : fitB s (bt T 0) = true) : (T.extract 0 1).data.toList = s.data.toList := by
 rw [extract_one hT]
 have h1 : s.data.toList.length = 1 := by rw [Array.length_toList]; exact hs
 obtain ⟨x, hx⟩ := List.length_eq_one_iff.1 h1
 rw [hx]
 unfold fitB at hf
 rw [hs] at hf
 have h2 : bt T 0 ∈ bytesOf s := by simpa using hf
 have h3 : bytesOf s = [(x.toNat : Int)] := by
  show s.data.toList.map _ = _
  rw [hx]; rfl
 have h4 : bt T 0 = ((T[0]'hT).toNat : Int) := by
  unfold bt
  rw [dif_pos (by simpa using hT)]
  rfl
 rw [h3, h4] at h2
 have h5 : (T[0]'hT).toNat = x.toNat := by
  have h6 : ((T[0]'hT).toNat : Int) = (x.toNat : Int) := by simpa using h2
  omega
 rw [UInt8.toNat_inj.1 h5]
theorem vis_shown (X : Lx) : ∀ (r : List S49) (fs : List Int) (T : ByteArray), (∀ c ∈ r, cellV c = 0) → cellF X r fs T = true → visF (hidF r (partsF r fs T)) 0 T.data.toList = shownF r
 | [], fs, T, hv, h => by
  rw [cellF, Bool.and_eq_true] at h
  have h0 : T.size = 0 := of_decide_eq_true h.1
  have : T.data.toList = [] := List.eq_nil_of_length_eq_zero (by rw [Array.length_toList]; exact h0)
  rw [this]; rfl
 | c :: r, fs, T, hv, h => by
  have hvc := cellV_zero (hv c (by simp))
  have hvr : ∀ d ∈ r, cellV d = 0 := fun d hd => hv d (by simp [hd])
  have key : ∀ (q : Nat) (gs : List Int), q ≤ T.size → cellF X r gs (T.extract q T.size) = true → (hidB c = false → (T.extract 0 q).data.toList = c.f0.data.toList ∧ c.f0.size = 1) → (hidB c = true → c.f0.size ≠ 1) →
    visF (hidF (c :: r) (T.extract 0 q :: partsF r gs (T.extract q T.size))) 0 T.data.toList = shownF (c :: r) := by
   intro q gs hq hc h1 h2
   have ih := vis_shown X r gs _ hvr hc
   have hsp : T.data.toList = (T.extract 0 q).data.toList ++ (T.extract q T.size).data.toList := by
    rw [ByteArray.data_extract, ByteArray.data_extract, Array.toList_extract, Array.toList_extract, List.extract_eq_take_drop, List.extract_eq_take_drop, List.drop_zero, Nat.sub_zero]
    rw [List.take_of_length_le (l := T.data.toList.drop q) (by rw [List.length_drop, Array.length_toList]; exact Nat.le_refl _), List.take_append_drop]
   have hl : (T.extract 0 q).size = (T.extract 0 q).data.toList.length := by rw [Array.length_toList]; rfl
   rw [hidF, hl, hsp, visF_append]
   have e1 := visF_rep (hidB c) (T.extract 0 q).data.toList [] (hidF r (partsF r gs (T.extract q T.size)))
   rw [List.nil_append, List.length_nil] at e1
   have e2 := visF_shift (List.replicate (T.extract 0 q).data.toList.length (hidB c)) (T.extract q T.size).data.toList (hidF r (partsF r gs (T.extract q T.size))) 0
   rw [List.length_replicate, Nat.add_zero] at e2
   rw [e1, Nat.zero_add, e2, ih, shownF]
   cases hb : hidB c with
   | true => rw [if_pos rfl, if_neg (h2 hb)]
   | false =>
    obtain ⟨h3, h4⟩ := h1 hb
    rw [if_neg (by decide), if_pos h4, h3]
  by_cases hg : c.f1 = true
  ·rw [cellF, if_pos hg] at h
   by_cases h0 : fs.length = 0
   ·rw [if_pos h0] at h; cases h
   rw [if_neg h0] at h
   cases hi : inB (fs.headD 0) 0 (min 10 (T.size : Int)) with
   | false => rw [hi, if_pos rfl] at h; cases h
   | true =>
    rw [hi, if_neg (by decide)] at h
    have hb := inB_true.1 hi
    by_cases hw : (sumW X T (fs.headD 0).toNat).1 > c.f2.f1 ∨ (sumW X T (fs.headD 0).toNat).2 < c.f2.f0
    ·rw [if_pos hw] at h; cases h
    rw [if_neg hw] at h
    rw [partsF, if_pos hg]
    have hh : hidB c = true := by unfold hidB; rw [hg]; rfl
    exact key _ _ (by omega) h (fun e => by rw [hh] at e; cases e) (fun _ => by have := (hvc.2.2.1 hg).1; omega)
  ·rw [cellF, if_neg hg] at h
   by_cases h0 : T.size = 0
   ·rw [if_pos h0] at h; cases h
   rw [if_neg h0] at h
   cases hf : fitB c.f0 (bt T 0) with
   | false => rw [hf, if_pos rfl] at h; cases h
   | true =>
    rw [hf, if_neg (by decide)] at h
    rw [partsF, if_neg hg]
    refine key 1 fs (by omega) h (fun e => ?_) (fun e h1 => ?_)
    ·have h1 : c.f0.size = 1 := by
      unfold hidB at e
      rw [show c.f1 = false by simpa using hg] at e
      simpa using e
     exact ⟨one_fit h1 (by omega) hf, h1⟩
    ·unfold hidB at e
     rw [show c.f1 = false by simpa using hg, h1] at e
     cases e
end Go.Proofs.Ytkfebceainedfaa.P.OwnGap
namespace Go.Proofs.Ytkfebceainedfaa.P.OwnUrn
open Go.RowKit Go.Proofs.YtkfebceainedfaaW.PrintWords Go.Proofs.YtkfebceainedfaaW.PrintLast Go.Proofs.YtkfebceainedfaaW.PrintMore
def urnGo : List Int → Int → Int → Option (Int × Int)
 | [], a, b => some (a, b)
 | x :: xs, a, b => (cippuskit_Urn_turn.f a (IntKind.u64.wrap (b + IntKind.u64.wrap x))).bind fun t => (cippuskit_Urn_turn.f t.2.1 t.2.2).bind fun t2 => urnGo xs t2.2.1 t2.2.2
def newUrn (l : List Int) : Option (Int × Int) := if l.length < 4611686018427387904 then urnGo l 11400714819323198485 14029467366897019727 else none
end Go.Proofs.Ytkfebceainedfaa.P.OwnUrn
namespace Go.Proofs.Ytkfebceainedfaa.P.OwnUrn
open Go.RowKit Go.Proofs.YtkfebceainedfaaW.PrintWords Go.Proofs.YtkfebceainedfaaW.PrintLast Go.Proofs.YtkfebceainedfaaW.PrintMore
set_option linter.unusedVariables false
theorem below_of_keep {w0 w W W' : World} {g : Nat} (h0 : Below w0.heap.size w0 w) (h1 : Below w0.heap.size w0 W') (hw : Below w.heap.size w W) (hk : KeepBut W W' g none) (hg : w.heap.size ≤ g) : Below w.heap.size w W' :=
 ⟨h1.os.trans h0.os.symm, h1.tape.trans h0.tape.symm, h1.output.trans h0.output.symm, Nat.le_trans hw.size hk.1, fun k hk' => (hk.2 k (Nat.lt_of_lt_of_le hk' hw.size) (by omega) (by simp)).trans (hw.block k hk')⟩
def RelNew (w0 w : World) (l0 : List Int) (r1 r2 : Int) (k : Nat) (wr : World) : Prop :=
 ∃ a b : Int, IsS83 w0 wr w.heap.size a b ∧ Below w0.heap.size w0 wr ∧ Below w.heap.size w wr ∧ urnGo (l0.drop k) a b = some (r1, r2)
set_option maxHeartbeats 4000000 in
set_option maxRecDepth 100000 in
theorem newUrn_calls (A0 : Option Addr) (c0 : Nat) (l0 : List Int) (r1 : Int) (r2 : Int) (w0 w : World) (hB : Below w0.heap.size w0 w) (hr0 : Kd.C (Kd.int .i64) w0 A0 l0.length l0) (hc0 : l0.length ≤ c0) (h : newUrn l0 = some (r1, r2)) :
  Calls Try.prog 12 #[.slice A0 l0.length c0] w fun e w' => ∃ g_ : Nat, e = .returned (.pointer (some ⟨g_, 0, none⟩)) ∧ IsS83 w0 w' g_ r1 r2 ∧ Below w0.heap.size w0 w' ∧ Below w.heap.size w w' := by
 have hlen : l0.length < 4611686018427387904 := by
  unfold newUrn at h
  split at h
  ·assumption
  ·cases h
 rw [newUrn, if_pos hlen] at h
 have H := Lib.hid h; clear h
 have HB := Aside0.mk hB; clear hB
 have HR := Aside0.mk hr0; clear hr0
 go_enter Try.func12, Try.ntmps12
 go_wp2
 go_loopw [4] (fun v wr => ∃ k : Nat, v = .int .i64 k ∧ k ≤ l0.length ∧ RelNew w0 w l0 r1 r2 k wr) (fun v _ => l0.length - (intOf v).toNat)
 case atStart =>
  refine ⟨0, rfl, Nat.zero_le _, _, _, IsS83.new w0 w _ _ HB.out, ?_, ?_, H.out⟩
  ·exact HB.out.alloc HB.out.size _
  ·exact (Below.refl _ _).alloc (Nat.le_refl _) _
 case round =>
  obtain ⟨k, rfl, hk, a, b, hI, hb0, hb1, hg⟩ := hrel
  by_cases hlt : k < l0.length
  ·obtain ⟨ad, e, hx⟩ := Kd.at_int HR.out (k : Int) (by omega) (by omega)
   subst e
   simp only [Int.toNat_natCast] at hx
   replace hx := (hb0.cell (World.block_lt_of_cell? w0 _ hx)).trans hx
   obtain ⟨HG, hg0⟩ := id hI
   have hc0 := cellS83_0 HG
   have hc1 := cellS83_1 HG
   have hf0 := blk_frozen HG 0
   have hf1 := blk_frozen HG 1
   have hlt' : (k : Int) < (l0.length : Int) := by omega
   have hd : l0.drop k = rd l0 k :: l0.drop (k + 1) := by rw [List.drop_eq_getElem_cons hlt]; simp [rd, List.getD_eq_getElem?_getD, hlt]
   rw [hd, urnGo, Option.bind_eq_some_iff] at hg
   obtain ⟨⟨t1, t2, t3⟩, ht, hg⟩ := hg
   rw [Option.bind_eq_some_iff] at hg
   obtain ⟨⟨u1, u2, u3⟩, hu, hg⟩ := hg
   dsimp only at hu hg
   have HT := Aside0.mk ht; clear ht
   have HU := Aside0.mk hu; clear hu
   have HG2 := Aside0.mk hg; clear hg hd
   go_wp2_with fail
   go_region
   go_wp2_with fail
   refine (cippuskit_Urn_turn.calls _ _ _ _ _ _ w0 _ ((hI.set_1 _).drew) (below_drew (below_set hb0 hg0)) HT.out).mono ?_
   rintro e w1 ⟨rfl, hI1, hB1, hK1⟩
   go_wp2_with fail
   refine (cippuskit_Urn_turn.calls _ _ _ _ _ _ w0 _ hI1 hB1 HU.out).mono ?_
   rintro e w2 ⟨rfl, hI2, hB2, hK2⟩
   go_wp2_with fail
   go_roundw
   case rel =>
    refine ⟨k + 1, by go_num, by omega, _, _, hI2, hB2, ?_, HG2.out⟩
    exact below_of_keep HB.out hB2 (below_of_keep HB.out hB1 (below_drew (below_set hb1 (Nat.le_refl _))) hK1 (Nat.le_refl _)) hK2 (Nat.le_refl _)
   case measure => simp [intOf]; omega
  ·go_wp2
   go_ret
   refine ⟨_, rfl, ?_, hb0, hb1⟩
   rw [List.drop_of_length_le (by omega)] at hg
   simp only [urnGo, Option.some.injEq, Prod.mk.injEq] at hg
   obtain ⟨rfl, rfl⟩ := hg
   exact hI
end Go.Proofs.Ytkfebceainedfaa.P.OwnUrn
namespace Go.Proofs.Ytkfebceainedfaa.P
open Go.RowKit Go.Proofs.YtkfebceainedfaaW.PrintWords Go.Proofs.YtkfebceainedfaaW.PrintLast Go.Proofs.YtkfebceainedfaaW.PrintMore
attribute [local go_sem] max2_int min2_int max_two min_two max_three min_three max_four min_four   -- for this text's walks alone
set_option linter.unusedVariables false
set_option linter.unusedSimpArgs false
def cippuskit_NewUrn.f (l0 : List Int) : Option (Int × Int) := OwnUrn.newUrn l0
theorem cippuskit_NewUrn.calls (A0 : Option Addr) (c0 : Nat) (l0 : List Int) (r1 : Int) (r2 : Int) (w0 w : World) (hB : Below w0.heap.size w0 w) (hr0 : Kd.C (Kd.int .i64) w0 A0 l0.length l0) (hc0 : l0.length ≤ c0) (h : cippuskit_NewUrn.f l0 = some (r1, r2)) :
  Calls Try.prog 12 #[.slice A0 l0.length c0] w fun e w' => ∃ g_ : Nat, e = .returned (.pointer (some ⟨g_, 0, none⟩)) ∧ IsS83 w0 w' g_ r1 r2 ∧ Below w0.heap.size w0 w' ∧ Below w.heap.size w w' := by
 exact OwnUrn.newUrn_calls A0 c0 l0 r1 r2 w0 w hB hr0 hc0 h
end Go.Proofs.Ytkfebceainedfaa.P
namespace Go.Proofs.Ytkfebceainedfaa.P
open Go.RowKit Go.Proofs.YtkfebceainedfaaW.PrintWords Go.Proofs.YtkfebceainedfaaW.PrintLast Go.Proofs.YtkfebceainedfaaW.PrintMore
attribute [local go_sem] max2_int min2_int max_two min_two max_three min_three max_four min_four   -- for this text's walks alone
set_option linter.unusedVariables false
set_option linter.unusedSimpArgs false
def cippuskit_SameInts.l0 : Nat → List Int → List Int → Bool → Int → Option (Bool)
 | 0, _, _, _, _ => none
 | k + 1, x0, x1, x5, x6 => if x5 = true then (if x6 < (x0.length : Int) then (if 0 ≤ x6 then (if x6 < (x1.length : Int) then (cippuskit_SameInts.l0 k x0 x1 ((rd x0 x6) == (rd x1 x6)) (wrap64 (x6 + 1))) else (none)) else (none)) else (some x5)) else (some x5)
def cippuskit_SameInts.f (k : Nat) (l0 : List Int) (l1 : List Int) : Option (Bool) := cippuskit_SameInts.l0 k l0 l1 ((l0.length : Int) == (l1.length : Int)) 0
set_option maxHeartbeats 8000000 in
set_option maxRecDepth 100000 in
theorem cippuskit_SameInts.calls (k : Nat) (A0 : Option Addr) (c0 : Nat) (l0 : List Int) (A1 : Option Addr) (c1 : Nat) (l1 : List Int) (r : Bool) (w : World) (hr0 : Kd.C (Kd.int .i64) w A0 l0.length l0) (hc0 : l0.length ≤ c0) (hr1 : Kd.C (Kd.int .i64) w A1 l1.length l1) (hc1 : l1.length ≤ c1) (h : cippuskit_SameInts.f k l0 l1 = some r) :
  Calls Try.prog 55 #[.slice A0 l0.length c0, .slice A1 l1.length c1] w fun e w' => e = .returned (.bool r) ∧ Drawn0 w w' := by
 have HR0 := Aside0.mk hr0
 have HC0 := Aside0.mk hc0
 clear hr0 hc0
 have HR1 := Aside0.mk hr1
 have HC1 := Aside0.mk hc1
 clear hr1 hc1
 have H : (cippuskit_SameInts.l0 k l0 l1 ((l0.length : Int) == (l1.length : Int)) 0) = some r := h
 clear h
 have H' := Aside0.mk H
 clear H
 go_enter Try.func55, Try.ntmps55
 go_wp2
 repeat (go_quiet (fail); try go_wp2)
 go_loopg [5, 6] k (fun kq v5 v6 w' => ∃ (x5_1 : Bool) (x6_1 : Int), v5 = .bool x5_1 ∧ v6 = .int .i64 x6_1 ∧ Aside0 (cippuskit_SameInts.l0 kq l0 l1 x5_1 x6_1 = some r) ∧ Aside0 (kq ≤ k) ∧ Drawn0 w w')
 case atStart => exact ⟨(((l0.length : Int) == (l1.length : Int))), (0), uS, uS, H', ⟨Nat.le_refl _⟩, by repeat (first | exact Drawn0.refl _ | apply Drawn0.step)⟩
 case round =>
  clear H'
  try clear c1
  try clear p2
  obtain ⟨x5_1, x6_1, rfl, rfl, HA, HK1, ⟨m1, rfl⟩⟩ := hrel
  cases gk with
  | zero => exact absurd HA.out (by simp [cippuskit_SameInts.l0])
  | succ k1 =>
   have H := HA.out
   clear HA
   simp only [cippuskit_SameInts.l0] at H
   by_cases c3 : x5_1 = true
   ·subst c3
    have H1 : (if x6_1 < (l0.length : Int) then (if 0 ≤ x6_1 then (if x6_1 < (l1.length : Int) then (cippuskit_SameInts.l0 k1 l0 l1 ((rd l0 x6_1) == (rd l1 x6_1)) (wrap64 (x6_1 + 1))) else (none)) else (none)) else (some true)) = some r := by rw [if_pos rfl] at H; exact H
    clear H
    have H := H1
    clear H1
    by_cases c4 : x6_1 < (l0.length : Int)
    ·rw [if_pos c4] at H
     have c4b0 : decide (x6_1 < (l0.length : Int)) = true := decide_eq_true c4
     clear c4
     by_cases c5 : 0 ≤ x6_1
     ·rw [if_pos c5] at H
      have c5b0 : decide (0 ≤ x6_1) = true := decide_eq_true c5
      clear c5
      by_cases c6 : x6_1 < (l1.length : Int)
      ·rw [if_pos c6] at H
       have c6b0 : decide (x6_1 < (l1.length : Int)) = true := decide_eq_true c6
       clear c6
       have H' := Aside0.mk H
       clear H
       have p339 : 0 ≤ (x6_1 : Int) := of_decide_eq_true ua
       have q339 : x6_1 < (l0.length : Int) := of_decide_eq_true ua
       obtain ⟨ad339, e339, hx339_0⟩ := Kd.at_int HR0.out x6_1 p339 q339
       cases e339
       replace p339 := eq_true p339
       replace q339 := eq_true q339
       have p340 : 0 ≤ (x6_1 : Int) := of_decide_eq_true ua
       have q340 : x6_1 < (l1.length : Int) := of_decide_eq_true ua
       obtain ⟨ad340, e340, hx340_0⟩ := Kd.at_int HR1.out x6_1 p340 q340
       cases e340
       replace p340 := eq_true p340
       replace q340 := eq_true q340
       go_wp2
       repeat (go_quiet (fail); try go_wp2)
       go_roundg k1
       case measure => have := HK1.out; omega
       case rel => exact ⟨(((rd l0 x6_1) == (rd l1 x6_1))), (wrap64 (x6_1 + 1)), uS, uS, H', ⟨by have := HK1.out; omega⟩, by repeat (first | exact Drawn0.refl _ | apply Drawn0.step)⟩
      ·rw [if_neg c6] at H
       exact absurd H (by simp)
     ·rw [if_neg c5] at H
      exact absurd H (by simp)
    ·rw [if_neg c4] at H
     have c4b0 : decide (x6_1 < (l0.length : Int)) = false := decide_eq_false c4
     clear c4
     obtain rfl := Option.some.inj H
     go_wp2
     repeat (go_quiet (fail); try go_wp2)
     go_ret
     exact ⟨by first | rfl | (simp; done) | (simp [*]; done), by repeat (first | exact Drawn0.refl _ | apply Drawn0.step)⟩
   ·replace c3 := Bool.eq_false_iff.mpr c3
    subst c3
    have H1 : (some false) = some r := by rw [if_neg (show ¬ (false = true) by decide)] at H; exact H
    clear H
    have H := H1
    clear H1
    obtain rfl := Option.some.inj H
    go_wp2
    repeat (go_quiet (fail); try go_wp2)
    go_ret
    exact ⟨by first | rfl | (simp; done) | (simp [*]; done), by repeat (first | exact Drawn0.refl _ | apply Drawn0.step)⟩
end Go.Proofs.Ytkfebceainedfaa.P
namespace Go.Proofs.Ytkfebceainedfaa.P
open Go.RowKit Go.Proofs.YtkfebceainedfaaW.PrintWords Go.Proofs.YtkfebceainedfaaW.PrintLast Go.Proofs.YtkfebceainedfaaW.PrintMore
attribute [local go_sem] max2_int min2_int max_two min_two max_three min_three max_four min_four   -- for this text's walks alone
set_option linter.unusedVariables false
set_option linter.unusedSimpArgs false
def cippuskit_SameFilling.f (k : Nat) (l0_0 : List Int) (l0_1 : List Int) (l1_0 : List Int) (l1_1 : List Int) : Option (Bool) := (cippuskit_SameInts.f k l0_0 l1_0).bind fun t343 => (if t343 = true then ((cippuskit_SameInts.f k l0_1 l1_1).bind fun t344 => (some t344)) else (some false))
set_option maxHeartbeats 8000000 in
set_option maxRecDepth 100000 in
theorem cippuskit_SameFilling.calls (k : Nat) (A0_0 : Option Addr) (c0_0 : Nat) (l0_0 : List Int) (A0_1 : Option Addr) (c0_1 : Nat) (l0_1 : List Int) (A1_0 : Option Addr) (c1_0 : Nat) (l1_0 : List Int) (A1_1 : Option Addr) (c1_1 : Nat) (l1_1 : List Int) (r : Bool) (w : World) (hr0_0 : Kd.C (Kd.int .i64) w A0_0 l0_0.length l0_0) (hc0_0 : l0_0.length ≤ c0_0) (hr0_1 : Kd.C (Kd.int .i64) w A0_1 l0_1.length l0_1) (hc0_1 : l0_1.length ≤ c0_1) (hr1_0 : Kd.C (Kd.int .i64) w A1_0 l1_0.length l1_0) (hc1_0 : l1_0.length ≤ c1_0) (hr1_1 : Kd.C (Kd.int .i64) w A1_1 l1_1.length l1_1) (hc1_1 : l1_1.length ≤ c1_1) (h : cippuskit_SameFilling.f k l0_0 l0_1 l1_0 l1_1 = some r) :
  Calls Try.prog 35 #[.agg #[.slice A0_0 l0_0.length c0_0, .slice A0_1 l0_1.length c0_1], .agg #[.slice A1_0 l1_0.length c1_0, .slice A1_1 l1_1.length c1_1]] w fun e w' => e = .returned (.bool r) ∧ Below w.heap.size w w' := by
 have hu31 := Try.underlying31
 have HR0_0 := Aside0.mk hr0_0
 have HC0_0 := Aside0.mk hc0_0
 clear hr0_0 hc0_0
 have HR0_1 := Aside0.mk hr0_1
 have HC0_1 := Aside0.mk hc0_1
 clear hr0_1 hc0_1
 have HR1_0 := Aside0.mk hr1_0
 have HC1_0 := Aside0.mk hc1_0
 clear hr1_0 hc1_0
 have HR1_1 := Aside0.mk hr1_1
 have HC1_1 := Aside0.mk hc1_1
 clear hr1_1 hc1_1
 have HB := Aside0.mk (Below.refl w.heap.size w)
 have H : ((cippuskit_SameInts.f k l0_0 l1_0).bind fun t343 => (if t343 = true then ((cippuskit_SameInts.f k l0_1 l1_1).bind fun t344 => (some t344)) else (some false))) = some r := h
 clear h
 replace H := Option.bind_eq_some_iff.mp H
 obtain ⟨t343, A30, H⟩ := H
 replace H : (if t343 = true then ((cippuskit_SameInts.f k l0_1 l1_1).bind fun t344 => (some t344)) else (some false)) = some r := H
 have A3 := Aside0.mk A30
 clear A30
 by_cases c4 : t343 = true
 ·subst c4
  have H1 : ((cippuskit_SameInts.f k l0_1 l1_1).bind fun t344 => (some t344)) = some r := by rw [if_pos rfl] at H; exact H
  clear H
  have H := H1
  clear H1
  replace H := Option.bind_eq_some_iff.mp H
  obtain ⟨t344, A50, H⟩ := H
  replace H : (some t344) = some r := H
  have A5 := Aside0.mk A50
  clear A50
  obtain rfl := Option.some.inj H
  go_enter Try.func35, Try.ntmps35
  go_wp2_with (first | ((with_reducible refine gate_dst (N := 2) rfl ?_); refine box_event ?hg (N := 2) ?hd (cs := #[.slice A0_0 l0_0.length c0_0, .slice A0_1 l0_1.length c0_1]) (t := 31) ?hr ?_; (case hd => rfl); (case hg => rfl); (case hr => first | (go_simp; done) | (go_simp; rfl)); intro gb341 hg w6 hbox hb; have BK341 := Aside0.mk (hbox); have GW341 := Aside0.mk ((by rw [hg]; exact (below_size (uB HB)) : w.heap.size ≤ gb341)); have GE341 := Aside0.mk ((by rw [hg]; exact (below_size (uB HB)) : w.heap.size ≤ gb341)); replace HB := Aside0.mk (below_step (uB HB) hb); clear hb hbox hg) | ((with_reducible refine gate_dst (N := 3) rfl ?_); refine box_event ?hg (N := 3) ?hd (cs := #[.slice A1_0 l1_0.length c1_0, .slice A1_1 l1_1.length c1_1]) (t := 31) ?hr ?_; (case hd => rfl); (case hg => rfl); (case hr => first | (go_simp; done) | (go_simp; rfl)); intro gb342 hg w7 hbox hb; have BK342 := Aside0.mk (hbox); have GW342 := Aside0.mk ((by rw [hg]; exact (below_size (uB HB)) : w.heap.size ≤ gb342)); have GE342 := Aside0.mk ((by rw [hg]; exact (below_size (uB HB)) : w.heap.size ≤ gb342)); have NB341_342 := Aside0.mk ((by rw [hg]; exact Nat.ne_of_lt (blk_lt (uk BK341)) : gb341 ≠ gb342)); have NB342_341 := Aside0.mk ((by rw [hg]; exact Nat.ne_of_gt (blk_lt (uk BK341)) : gb342 ≠ gb341)); replace BK341 := Aside0.mk (blk_below (uk BK341) hb); replace HB := Aside0.mk (below_step (uB HB) hb); clear hb hbox hg; have hnb8 := NB341_342.out; have hnc8 := NB342_341.out; have hcz9_0 := uc (w := w7) BK341 0; have hcz9_1 := uc (w := w7) BK341 1; have hfz9_0 := blk_frozen BK341.out 0; have hfz9_1 := blk_frozen BK341.out 1; have hcz10_0 := uc (w := w7) BK342 0; have hcz10_1 := uc (w := w7) BK342 1; have hfz10_0 := blk_frozen BK342.out 0; have hfz10_1 := blk_frozen BK342.out 1) | ((with_reducible refine gate_callee (f := 55) rfl ?_); refine goesL_ (some 9) rfl rfl Try.func55 (by kernel_rfl) rfl #[.slice A0_0 l0_0.length c0_0, .slice A1_0 l1_0.length c1_0] rfl uA ?_; (with_reducible refine (cippuskit_SameInts.calls k _ _ l0_0 _ _ l1_0 true _ ?side1 ?side2 ?side3 ?side4 A3.out).mono ?_); (case side1 => exact uD (Kd.C_below HR0_0.out HB.out)); (case side2 => exact HC0_0.out); (case side3 => exact uD (Kd.C_below HR1_0.out HB.out)); (case side4 => exact HC1_0.out); rintro e w' ⟨rfl, ⟨nd, rfl⟩⟩; refine ⟨_, rfl, ?_⟩) | (go_at_call 55; (with_reducible refine (cippuskit_SameInts.calls k _ _ l0_1 _ _ l1_1 t344 _ ?side1 ?side2 ?side3 ?side4 A5.out).mono ?_); (case side1 => exact uD (Kd.C_below HR0_1.out (uB HB))); (case side2 => exact HC0_1.out); (case side3 => exact uD (Kd.C_below HR1_1.out (uB HB))); (case side4 => exact HC1_1.out); rintro e w' ⟨rfl, ⟨nd, rfl⟩⟩))
  go_ret
  exact ⟨uE, uB HB⟩
 ·replace c4 := Bool.eq_false_iff.mpr c4
  subst c4
  have H1 : (some false) = some r := by rw [if_neg (show ¬ (false = true) by decide)] at H; exact H
  clear H
  have H := H1
  clear H1
  obtain rfl := Option.some.inj H
  go_enter Try.func35, Try.ntmps35
  go_wp2_with (first | ((with_reducible refine gate_dst (N := 2) rfl ?_); refine box_event ?hg (N := 2) ?hd (cs := #[.slice A0_0 l0_0.length c0_0, .slice A0_1 l0_1.length c0_1]) (t := 31) ?hr ?_; (case hd => rfl); (case hg => rfl); (case hr => first | (go_simp; done) | (go_simp; rfl)); intro gb341 hg w11 hbox hb; have BK341 := Aside0.mk (hbox); have GW341 := Aside0.mk ((by rw [hg]; exact (below_size (uB HB)) : w.heap.size ≤ gb341)); have GE341 := Aside0.mk ((by rw [hg]; exact (below_size (uB HB)) : w.heap.size ≤ gb341)); replace HB := Aside0.mk (below_step (uB HB) hb); clear hb hbox hg) | ((with_reducible refine gate_dst (N := 3) rfl ?_); refine box_event ?hg (N := 3) ?hd (cs := #[.slice A1_0 l1_0.length c1_0, .slice A1_1 l1_1.length c1_1]) (t := 31) ?hr ?_; (case hd => rfl); (case hg => rfl); (case hr => first | (go_simp; done) | (go_simp; rfl)); intro gb342 hg w12 hbox hb; have BK342 := Aside0.mk (hbox); have GW342 := Aside0.mk ((by rw [hg]; exact (below_size (uB HB)) : w.heap.size ≤ gb342)); have GE342 := Aside0.mk ((by rw [hg]; exact (below_size (uB HB)) : w.heap.size ≤ gb342)); have NB341_342 := Aside0.mk ((by rw [hg]; exact Nat.ne_of_lt (blk_lt (uk BK341)) : gb341 ≠ gb342)); have NB342_341 := Aside0.mk ((by rw [hg]; exact Nat.ne_of_gt (blk_lt (uk BK341)) : gb342 ≠ gb341)); replace BK341 := Aside0.mk (blk_below (uk BK341) hb); replace HB := Aside0.mk (below_step (uB HB) hb); clear hb hbox hg; have hnb13 := NB341_342.out; have hnc13 := NB342_341.out; have hcz14_0 := uc (w := w12) BK341 0; have hcz14_1 := uc (w := w12) BK341 1; have hfz14_0 := blk_frozen BK341.out 0; have hfz14_1 := blk_frozen BK341.out 1; have hcz15_0 := uc (w := w12) BK342 0; have hcz15_1 := uc (w := w12) BK342 1; have hfz15_0 := blk_frozen BK342.out 0; have hfz15_1 := blk_frozen BK342.out 1) | ((with_reducible refine gate_callee (f := 55) rfl ?_); refine goesL_ (some 9) rfl rfl Try.func55 (by kernel_rfl) rfl #[.slice A0_0 l0_0.length c0_0, .slice A1_0 l1_0.length c1_0] rfl uA ?_; (with_reducible refine (cippuskit_SameInts.calls k _ _ l0_0 _ _ l1_0 false _ ?side1 ?side2 ?side3 ?side4 A3.out).mono ?_); (case side1 => exact uD (Kd.C_below HR0_0.out HB.out)); (case side2 => exact HC0_0.out); (case side3 => exact uD (Kd.C_below HR1_0.out HB.out)); (case side4 => exact HC1_0.out); rintro e w' ⟨rfl, ⟨nd, rfl⟩⟩; refine ⟨_, rfl, ?_⟩))
  go_ret
  exact ⟨uE, uB HB⟩
end Go.Proofs.Ytkfebceainedfaa.P
