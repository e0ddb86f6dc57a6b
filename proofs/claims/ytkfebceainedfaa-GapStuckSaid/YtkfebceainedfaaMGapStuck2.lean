/- Lemmas for the statement GapStuck of the given program, for every input that its row lets in. Conditions: none beyond those that each lemma tells. -/
import Derived.Laws.Shifts
import Derived.WalkKit
import Derived.Test.YtkfebceainedfaaProg
import Derived.Below
import Derived.Deep.Draws
import Derived.Deep.AppendLies
import Derived.Maps.AppendAt
import Derived.OwnWalk
import Derived.Laws.BytesArg
import Derived.Laws.MakeOwn
import Derived.Laws.OwnMore
import Derived.Deep.OwnRows
import Derived.Tactics
import Derived.Lib.ConvBytes
import Derived.Laws.Slices
import Derived.KernelRfl
import Derived.RowKit3
import Derived.Deep.LoopGhost
import Derived.Deep.QuietTactic
import Derived.BigQuiet
import Derived.WideLaws
import Derived.Deep.DeepCutAuto
import Derived.Deep.CutBlock
import Derived.Deep.RegionHeld3
import Derived.Laws.Rows
import Derived.Lib.AppendStr
import Derived.ArgAppend
import Derived.Laws.IdiomCopy
import Derived.OrdersHeld
import Derived.Laws.BitsLemmas
import Derived.RowKit
import Derived.Lib.SplitLaws
import Derived.Lib.Hide
import Derived.BigRegion
import Derived.WalkSpells
import Derived.Deep.CutRange
import Derived.Deep.RegionWith
import Derived.Deep.RegionLaw
import Derived.Shelf.Abstract
import Derived.DeepKeys4
import Derived.Maps.Own
import Derived.RangeFuncRecord
import Derived.Test.YtkfebceainedfaaMGapStuck1
set_option linter.unusedVariables false
set_option linter.unusedSimpArgs false
namespace Go.Proofs.Ytkfebceainedfaa.OFix
open Go.RowKit
theorem cell_set_map (W : World) (p : Addr) (v : Value) : (W.setCell p v).cell? p = (W.cell? p).map fun _ => v := by
 unfold World.setCell World.cell?
 simp only [Array.getElem?_modify, if_true]
 cases ho : W.heap[p.block]? with
 | none => rfl
 | some o =>
  cases o with
  | cells c e fr =>
   by_cases hs : p.spot.isSome = true
   ·simp [hs]
   ·simp only [Option.map_some, hs, Bool.false_eq_true, if_false]
    by_cases ho2 : p.off < c.size
    ·simp [ho2]
    ·simp [ho2]
  | _ => rfl
theorem shr_mod (k yk : IntKind) (x y : Int) : Op.shift .shr k x yk (y % 256) = pure (.int k (x / 2 ^ min (y % 256).toNat k.bits)) := shift_shr_any k yk x _ (by omega)
theorem shl_mod (k yk : IntKind) (x y : Int) : Op.shift .shl k x yk (y % 256) = pure (.int k (k.wrap (x * 2 ^ min (y % 256).toNat k.bits))) := shift_shl_any k yk x _ (by omega)
theorem ne_nil_b (l : List UInt8) : (l != []) = !l.isEmpty := by cases l <;> rfl
attribute [go_sem] cell_set_map shr_mod shl_mod
end Go.Proofs.Ytkfebceainedfaa.OFix
namespace Go.Proofs.Ytkfebceainedfaa.P
open Go.RowKit Go.Proofs.YtkfebceainedfaaW.PrintWords Go.Proofs.YtkfebceainedfaaW.PrintLast Go.Proofs.YtkfebceainedfaaW.PrintMore
attribute [local go_sem] max2_int min2_int max_two min_two max_three min_three max_four min_four   -- for this text's walks alone
set_option linter.unusedVariables false
set_option linter.unusedSimpArgs false
def errW : Option Int → Value
 | none => .nilIface
 | some c => .iface 0 (.int .i64 c)
theorem errW_none : errW none = .nilIface := rfl
theorem errW_some (c : Int) : errW (some c) = .iface 0 (.int .i64 c) := rfl
theorem info3 : (Try.prog.info? 3).map (fun i => (i.zero, i.size, i.bytes)) = some (some (.int .i64 0), 1, 8) := by kernel_rfl
theorem info9 : (Try.prog.info? 9).map (fun i => (i.zero, i.size, i.bytes)) = some (some (.string ⟨#[]⟩), 1, 16) := by kernel_rfl
theorem info49 : (Try.prog.info? 49).map (fun i => (i.zero, i.size, i.bytes)) = some (some (.agg #[(.string ⟨#[]⟩), (.bool false), (.int .i64 0), (.int .i64 0)]), 4, 40) := by kernel_rfl
theorem info53 : (Try.prog.info? 53).map (fun i => (i.zero, i.size, i.bytes)) = some (some (.agg #[(.string ⟨#[]⟩), (.int .i64 0)]), 2, 24) := by kernel_rfl
theorem info60 : (Try.prog.info? 60).map (fun i => (i.zero, i.size, i.bytes)) = some (some (.agg #[(.string ⟨#[]⟩), (.string ⟨#[]⟩), (.string ⟨#[]⟩), (.int .i64 0), (.int .i64 0)]), 5, 64) := by kernel_rfl
def rd_L1 (xs : List (List Bool)) (i : Int) : (List Bool) := xs.getD i.toNat ([] : List Bool)
theorem at_L1 {w : World} {A : Option Addr} {n : Nat} {xs : List (List Bool)} (h : Kd.C (Kd.slice 4 Kd.bool) w A n xs) (i : Int) (h0 : 0 ≤ i) (h1 : i < n) : ∃ ad A0 c0, A = some ad ∧ w.cell? (ad.add i.toNat) = some (.slice A0 (rd_L1 xs i).length c0) ∧ (rd_L1 xs i).length ≤ c0 ∧ Kd.bool.C w A0 (rd_L1 xs i).length (rd_L1 xs i) := by
 obtain ⟨ad, c, e, _, hK, hc0⟩ := Kd.C_get h ([] : List Bool) i h0 h1
 have hc : ∀ j u, c[j]? = some u → w.cell? (ad.add (i.toNat * 1 + j)) = some u := hc0
 obtain ⟨A0, c0, rfl, l0, g0⟩ := hK
 exact ⟨ad, A0, c0, e, by have hq := hc 0 _ rfl; rwa [Nat.mul_one, Nat.add_zero] at hq, l0, g0⟩
structure S53 where
 f0 : ByteArray
 f1 : Int
def z53 : S53 := ⟨(⟨#[]⟩ : ByteArray), (0 : Int)⟩
def k53 : Kd S53 := Kd.iso (Kd.pair Kd.string (Kd.int .i64)) (fun x : S53 => (x.f0, x.f1))
theorem k53_open {w : World} {x : S53} {cs : List Value} (h : k53.K w x cs) : cs = [.string x.f0, .int .i64 x.f1] := by
 obtain ⟨_, _, rfl, rfl, rfl⟩ := h
 exact rfl
theorem k53_mk (w : World) (x : S53)  : k53.K w x [.string x.f0, .int .i64 x.f1] := ⟨[.string x.f0], [.int .i64 x.f1], rfl, rfl, rfl⟩
theorem k53_mkM (w : World) (base : Nat) (ok : Nat → Prop) (x : S53)  : k53.M w base ok x [.string x.f0, .int .i64 x.f1] := ⟨[.string x.f0], [.int .i64 x.f1], rfl, rfl, rfl⟩
def rd_T53 (xs : List S53) (i : Int) : S53 := xs.getD i.toNat z53
theorem at_T53 {w : World} {A : Option Addr} {n : Nat} {xs : List S53} (h : Kd.C k53 w A n xs) (i : Int) (h0 : 0 ≤ i) (h1 : i < n) : ∃ ad , A = some ad ∧ w.cell? (ad.add (i.toNat * 2)) = some (.string (rd_T53 xs i).f0) ∧ w.cell? ⟨(ad.add (i.toNat * 2)).block, (ad.add (i.toNat * 2)).off + 1, none⟩ = some (.int .i64 (rd_T53 xs i).f1) := by
 obtain ⟨ad, c, e, _, hK, hc0⟩ := Kd.C_get h z53 i h0 h1
 have hc : ∀ j u, c[j]? = some u → w.cell? (ad.add (i.toNat * 2 + j)) = some u := hc0
 obtain rfl := k53_open hK
 exact ⟨ad, e, hc 0 _ rfl, by rw [← add_field _ _ 1 (by omega)]; exact hc 1 _ rfl⟩
structure S47 where
 f0 : Int
 f1 : Int
def z47 : S47 := ⟨(0 : Int), (0 : Int)⟩
def k47 : Kd S47 := Kd.iso (Kd.pair (Kd.int .i64) (Kd.int .i64)) (fun x : S47 => (x.f0, x.f1))
theorem k47_open {w : World} {x : S47} {cs : List Value} (h : k47.K w x cs) : cs = [.int .i64 x.f0, .int .i64 x.f1] := by
 obtain ⟨_, _, rfl, rfl, rfl⟩ := h
 exact rfl
theorem k47_openM {w : World} {base : Nat} {ok : Nat → Prop} {x : S47} {cs : List Value} (h : k47.M w base ok x cs) : cs = [.int .i64 x.f0, .int .i64 x.f1] := by
 obtain ⟨_, _, rfl, rfl, rfl⟩ := h
 exact rfl
theorem k47_mk (w : World) (x : S47)  : k47.K w x [.int .i64 x.f0, .int .i64 x.f1] := ⟨[.int .i64 x.f0], [.int .i64 x.f1], rfl, rfl, rfl⟩
theorem k47_mkM (w : World) (base : Nat) (ok : Nat → Prop) (x : S47)  : k47.M w base ok x [.int .i64 x.f0, .int .i64 x.f1] := ⟨[.int .i64 x.f0], [.int .i64 x.f1], rfl, rfl, rfl⟩
def rd_T47 (xs : List S47) (i : Int) : S47 := xs.getD i.toNat z47
theorem at_T47 {w : World} {A : Option Addr} {n : Nat} {xs : List S47} (h : Kd.C k47 w A n xs) (i : Int) (h0 : 0 ≤ i) (h1 : i < n) : ∃ ad , A = some ad ∧ w.cell? (ad.add (i.toNat * 2)) = some (.int .i64 (rd_T47 xs i).f0) ∧ w.cell? ⟨(ad.add (i.toNat * 2)).block, (ad.add (i.toNat * 2)).off + 1, none⟩ = some (.int .i64 (rd_T47 xs i).f1) := by
 obtain ⟨ad, c, e, _, hK, hc0⟩ := Kd.C_get h z47 i h0 h1
 have hc : ∀ j u, c[j]? = some u → w.cell? (ad.add (i.toNat * 2 + j)) = some u := hc0
 obtain rfl := k47_open hK
 exact ⟨ad, e, hc 0 _ rfl, by rw [← add_field _ _ 1 (by omega)]; exact hc 1 _ rfl⟩
structure S49 where
 f0 : ByteArray
 f1 : Bool
 f2 : S47
def z49 : S49 := ⟨(⟨#[]⟩ : ByteArray), false, z47⟩
def k49 : Kd S49 := Kd.iso (Kd.pair Kd.string (Kd.pair Kd.bool k47)) (fun x : S49 => (x.f0, x.f1, x.f2))
theorem k49_open {w : World} {x : S49} {cs : List Value} (h : k49.K w x cs) : cs = [.string x.f0, .bool x.f1, .int .i64 x.f2.f0, .int .i64 x.f2.f1] := by
 obtain ⟨_, _, rfl, rfl, ⟨_, _, rfl, rfl, s2⟩⟩ := h
 obtain rfl := k47_open s2
 exact rfl
theorem k49_openM {w : World} {base : Nat} {ok : Nat → Prop} {x : S49} {cs : List Value} (h : k49.M w base ok x cs) : cs = [.string x.f0, .bool x.f1, .int .i64 x.f2.f0, .int .i64 x.f2.f1] := by
 obtain ⟨_, _, rfl, rfl, ⟨_, _, rfl, rfl, s2⟩⟩ := h
 obtain rfl := k47_openM s2
 exact rfl
theorem k49_mkM (w : World) (base : Nat) (ok : Nat → Prop) (x : S49)  : k49.M w base ok x [.string x.f0, .bool x.f1, .int .i64 x.f2.f0, .int .i64 x.f2.f1] := ⟨[.string x.f0], [.bool x.f1, .int .i64 x.f2.f0, .int .i64 x.f2.f1], rfl, rfl, ⟨[.bool x.f1], [.int .i64 x.f2.f0, .int .i64 x.f2.f1], rfl, rfl, (k47_mkM w base ok x.f2 )⟩⟩
def rd_T49 (xs : List S49) (i : Int) : S49 := xs.getD i.toNat z49
theorem at_T49 {w : World} {A : Option Addr} {n : Nat} {xs : List S49} (h : Kd.C k49 w A n xs) (i : Int) (h0 : 0 ≤ i) (h1 : i < n) : ∃ ad , A = some ad ∧ w.cell? (ad.add (i.toNat * 4)) = some (.string (rd_T49 xs i).f0) ∧ w.cell? ⟨(ad.add (i.toNat * 4)).block, (ad.add (i.toNat * 4)).off + 1, none⟩ = some (.bool (rd_T49 xs i).f1) ∧ w.cell? ⟨(ad.add (i.toNat * 4)).block, (ad.add (i.toNat * 4)).off + 2, none⟩ = some (.int .i64 (rd_T49 xs i).f2.f0) ∧ w.cell? ⟨(ad.add (i.toNat * 4)).block, (ad.add (i.toNat * 4)).off + 3, none⟩ = some (.int .i64 (rd_T49 xs i).f2.f1) := by
 obtain ⟨ad, c, e, _, hK, hc0⟩ := Kd.C_get h z49 i h0 h1
 have hc : ∀ j u, c[j]? = some u → w.cell? (ad.add (i.toNat * 4 + j)) = some u := hc0
 obtain rfl := k49_open hK
 exact ⟨ad, e, hc 0 _ rfl, by rw [← add_field _ _ 1 (by omega)]; exact hc 1 _ rfl, by rw [← add_field _ _ 2 (by omega)]; exact hc 2 _ rfl, by rw [← add_field _ _ 3 (by omega)]; exact hc 3 _ rfl⟩
structure S31 where
 f0 : (List Int)
 f1 : (List Int)
def z31 : S31 := ⟨([] : List Int), ([] : List Int)⟩
def k31 : Kd S31 := Kd.iso (Kd.pair (Kd.slice 3 (Kd.int .i64)) (Kd.slice 3 (Kd.int .i64))) (fun x : S31 => (x.f0, x.f1))
theorem k31_open {w : World} {x : S31} {cs : List Value} (h : k31.K w x cs) : ∃ A0 c0 A1 c1, cs = [.slice A0 x.f0.length c0, .slice A1 x.f1.length c1] ∧ x.f0.length ≤ c0 ∧ (Kd.int .i64).C w A0 x.f0.length x.f0 ∧ x.f1.length ≤ c1 ∧ (Kd.int .i64).C w A1 x.f1.length x.f1 := by
 obtain ⟨_, _, rfl, ⟨A0, c0, rfl, l0, g0⟩, ⟨A1, c1, rfl, l1, g1⟩⟩ := h
 exact ⟨A0, c0, A1, c1, rfl, l0, g0, l1, g1⟩
theorem k31_mk (w : World) (x : S31) {A0 : Option Addr} {c0 : Nat} (l0 : x.f0.length ≤ c0) (g0 : (Kd.int .i64).C w A0 x.f0.length x.f0) {A1 : Option Addr} {c1 : Nat} (l1 : x.f1.length ≤ c1) (g1 : (Kd.int .i64).C w A1 x.f1.length x.f1) : k31.K w x [.slice A0 x.f0.length c0, .slice A1 x.f1.length c1] := ⟨[.slice A0 x.f0.length c0], [.slice A1 x.f1.length c1], rfl, ⟨A0, c0, rfl, l0, g0⟩, ⟨A1, c1, rfl, l1, g1⟩⟩
theorem k31_mkM (w : World) (base : Nat) (ok : Nat → Prop) (x : S31) {v0 : Value} (g0 : (Kd.int .i64).R 3 w base ok v0 x.f0) {v1 : Value} (g1 : (Kd.int .i64).R 3 w base ok v1 x.f1) : k31.M w base ok x [v0, v1] := ⟨[v0], [v1], rfl, ⟨v0, rfl, g0⟩, ⟨v1, rfl, g1⟩⟩
def rd_T31 (xs : List S31) (i : Int) : S31 := xs.getD i.toNat z31
theorem at_T31 {w : World} {A : Option Addr} {n : Nat} {xs : List S31} (h : Kd.C k31 w A n xs) (i : Int) (h0 : 0 ≤ i) (h1 : i < n) : ∃ ad A0 c0 A1 c1, A = some ad ∧ w.cell? (ad.add (i.toNat * 2)) = some (.slice A0 (rd_T31 xs i).f0.length c0) ∧ w.cell? ⟨(ad.add (i.toNat * 2)).block, (ad.add (i.toNat * 2)).off + 1, none⟩ = some (.slice A1 (rd_T31 xs i).f1.length c1) ∧ (rd_T31 xs i).f0.length ≤ c0 ∧ (Kd.int .i64).C w A0 (rd_T31 xs i).f0.length (rd_T31 xs i).f0 ∧ (rd_T31 xs i).f1.length ≤ c1 ∧ (Kd.int .i64).C w A1 (rd_T31 xs i).f1.length (rd_T31 xs i).f1 := by
 obtain ⟨ad, c, e, _, hK, hc0⟩ := Kd.C_get h z31 i h0 h1
 have hc : ∀ j u, c[j]? = some u → w.cell? (ad.add (i.toNat * 2 + j)) = some u := hc0
 obtain ⟨A0, c0, A1, c1, rfl, l0, g0, l1, g1⟩ := k31_open hK
 exact ⟨ad, A0, c0, A1, c1, e, hc 0 _ rfl, by rw [← add_field _ _ 1 (by omega)]; exact hc 1 _ rfl, l0, g0, l1, g1⟩
structure S60 where
 f0 : ByteArray
 f1 : ByteArray
 f2 : ByteArray
 f3 : S47
def z60 : S60 := ⟨(⟨#[]⟩ : ByteArray), (⟨#[]⟩ : ByteArray), (⟨#[]⟩ : ByteArray), z47⟩
def k60 : Kd S60 := Kd.iso (Kd.pair Kd.string (Kd.pair Kd.string (Kd.pair Kd.string k47))) (fun x : S60 => (x.f0, x.f1, x.f2, x.f3))
theorem k60_open {w : World} {x : S60} {cs : List Value} (h : k60.K w x cs) : cs = [.string x.f0, .string x.f1, .string x.f2, .int .i64 x.f3.f0, .int .i64 x.f3.f1] := by
 obtain ⟨_, _, rfl, rfl, ⟨_, _, rfl, rfl, ⟨_, _, rfl, rfl, s3⟩⟩⟩ := h
 obtain rfl := k47_open s3
 exact rfl
theorem k60_mk (w : World) (x : S60)  : k60.K w x [.string x.f0, .string x.f1, .string x.f2, .int .i64 x.f3.f0, .int .i64 x.f3.f1] := ⟨[.string x.f0], [.string x.f1, .string x.f2, .int .i64 x.f3.f0, .int .i64 x.f3.f1], rfl, rfl, ⟨[.string x.f1], [.string x.f2, .int .i64 x.f3.f0, .int .i64 x.f3.f1], rfl, rfl, ⟨[.string x.f2], [.int .i64 x.f3.f0, .int .i64 x.f3.f1], rfl, rfl, (k47_mk w x.f3 )⟩⟩⟩
theorem k60_mkM (w : World) (base : Nat) (ok : Nat → Prop) (x : S60)  : k60.M w base ok x [.string x.f0, .string x.f1, .string x.f2, .int .i64 x.f3.f0, .int .i64 x.f3.f1] := ⟨[.string x.f0], [.string x.f1, .string x.f2, .int .i64 x.f3.f0, .int .i64 x.f3.f1], rfl, rfl, ⟨[.string x.f1], [.string x.f2, .int .i64 x.f3.f0, .int .i64 x.f3.f1], rfl, rfl, ⟨[.string x.f2], [.int .i64 x.f3.f0, .int .i64 x.f3.f1], rfl, rfl, (k47_mkM w base ok x.f3 )⟩⟩⟩
def rd_T60 (xs : List S60) (i : Int) : S60 := xs.getD i.toNat z60
theorem at_T60 {w : World} {A : Option Addr} {n : Nat} {xs : List S60} (h : Kd.C k60 w A n xs) (i : Int) (h0 : 0 ≤ i) (h1 : i < n) : ∃ ad , A = some ad ∧ w.cell? (ad.add (i.toNat * 5)) = some (.string (rd_T60 xs i).f0) ∧ w.cell? ⟨(ad.add (i.toNat * 5)).block, (ad.add (i.toNat * 5)).off + 1, none⟩ = some (.string (rd_T60 xs i).f1) ∧ w.cell? ⟨(ad.add (i.toNat * 5)).block, (ad.add (i.toNat * 5)).off + 2, none⟩ = some (.string (rd_T60 xs i).f2) ∧ w.cell? ⟨(ad.add (i.toNat * 5)).block, (ad.add (i.toNat * 5)).off + 3, none⟩ = some (.int .i64 (rd_T60 xs i).f3.f0) ∧ w.cell? ⟨(ad.add (i.toNat * 5)).block, (ad.add (i.toNat * 5)).off + 4, none⟩ = some (.int .i64 (rd_T60 xs i).f3.f1) := by
 obtain ⟨ad, c, e, _, hK, hc0⟩ := Kd.C_get h z60 i h0 h1
 have hc : ∀ j u, c[j]? = some u → w.cell? (ad.add (i.toNat * 5 + j)) = some u := hc0
 obtain rfl := k60_open hK
 exact ⟨ad, e, hc 0 _ rfl, by rw [← add_field _ _ 1 (by omega)]; exact hc 1 _ rfl, by rw [← add_field _ _ 2 (by omega)]; exact hc 2 _ rfl, by rw [← add_field _ _ 3 (by omega)]; exact hc 3 _ rfl, by rw [← add_field _ _ 4 (by omega)]; exact hc 4 _ rfl⟩
end Go.Proofs.Ytkfebceainedfaa.P
namespace Go.Proofs.Ytkfebceainedfaa.P
open Go.RowKit Go.Proofs.YtkfebceainedfaaW.PrintWords Go.Proofs.YtkfebceainedfaaW.PrintLast Go.Proofs.YtkfebceainedfaaW.PrintMore
attribute [local go_sem] max2_int min2_int max_two min_two max_three min_three max_four min_four   -- for this text's walks alone
set_option linter.unusedVariables false
set_option linter.unusedSimpArgs false
def IsS83 (w0 W : World) (g : Nat) (f0 : Int) (f1 : Int) : Prop := W.heap[g]? = some (.cells #[.int .u64 f0, .int .u64 f1] 83 (0, 0)) ∧ w0.heap.size ≤ g
theorem IsS83.grown {w0 W : World} {g : Nat} {f0 : Int} {f1 : Int} {W1 : World} {row : Option Nat} (h : IsS83 w0 W g f0 f1) (hw : W.grownBy W1 row) (hne : some g ≠ row) : IsS83 w0 W1 g f0 f1 := by
 obtain ⟨hb, hg⟩ := h
 exact ⟨blk_grown hb hw hne, hg⟩
theorem IsS83.kept {w0 W : World} {g : Nat} {f0 : Int} {f1 : Int} {W1 : World} {S : Nat → Prop} (h : IsS83 w0 W g f0 f1) (hk : Kept W W1 S) (hne : ¬ S g) : IsS83 w0 W1 g f0 f1 := by
 obtain ⟨hb, hg⟩ := h
 exact ⟨blk_kept hb hk hne, hg⟩
theorem IsS83.below {w0 W : World} {g : Nat} {f0 : Int} {f1 : Int} {W1 : World} (h : IsS83 w0 W g f0 f1) (hw : Below W.heap.size W W1) : IsS83 w0 W1 g f0 f1 := h.grown (grown_of_below hw none) (by simp)
theorem IsS83.alloc {w0 W : World} {g : Nat} {f0 : Int} {f1 : Int} (h : IsS83 w0 W g f0 f1) (o : Obj) : IsS83 w0 (W.alloc o) g f0 f1 := h.below (below_alloc (Below.refl _ _) o)
theorem IsS83.drewN {w0 W : World} {g : Nat} {f0 : Int} {f1 : Int} (h : IsS83 w0 W g f0 f1) (m : Nat) : IsS83 w0 (W.drewN m) g f0 f1 := h
theorem IsS83.drew {w0 W : World} {g : Nat} {f0 : Int} {f1 : Int} (h : IsS83 w0 W g f0 f1) : IsS83 w0 W.drew g f0 f1 := h
theorem IsS83.at_ {w0 W : World} {g : Nat} {f0 : Int} {f1 : Int} {w' : World} {m : Nat} (hq : W.drewN m = w') (h : IsS83 w0 W g f0 f1) : IsS83 w0 w' g f0 f1 := by subst hq; exact IsS83.drewN h m
theorem IsS83.apart {w0 W : World} {g : Nat} {f0 : Int} {f1 : Int} {α : Type} {d : Kd α} {e : Nat} {base : Nat} {ok : Nat → Prop} {v : Value} {xs : List α} (h : IsS83 w0 W g f0 f1) (ho : d.R e W base ok v xs) (ht : ∀ q, q ∈ e :: d.E → q ≠ 83) : d.R e W base (fun k => ok k ∧ k ≠ g) v xs := by
 obtain ⟨hb, hg⟩ := h
 exact Kd.R_types ho hb ht
theorem IsS83.own_ne {w0 W : World} {g : Nat} {f0 : Int} {f1 : Int} {α : Type} {d : Kd α} {e : Nat} {base : Nat} {ok : Nat → Prop} {v : Value} {xs : List α} (h : IsS83 w0 W g f0 f1) (ho : d.R e W base ok v xs) (ht : e ≠ 83) : some g ≠ v.ownBlock := by
 obtain ⟨hb, hg⟩ := h
 exact Kd.R_ne ho hb ht
theorem IsS83.lt {w0 W : World} {g : Nat} {f0 : Int} {f1 : Int} (h : IsS83 w0 W g f0 f1) : g < W.heap.size := by
 obtain ⟨hb, hg⟩ := h
 exact blk_lt hb
theorem IsS83.ge {w0 W : World} {g : Nat} {f0 : Int} {f1 : Int} (h : IsS83 w0 W g f0 f1) : w0.heap.size ≤ g := by
 obtain ⟨hb, hg⟩ := h
 exact hg
theorem IsS83.far {w0 W : World} {g : Nat} {f0 : Int} {f1 : Int} {p : Addr} (h : IsS83 w0 W g f0 f1) (hne : g ≠ p.block) (u : Value) : IsS83 w0 (W.setCell p u) g f0 f1 := by
 obtain ⟨hb, hg⟩ := h
 exact ⟨blk_far hb hne u, hg⟩
theorem cellS83_0 {W : World} {g : Nat} {f0 : Int} {f1 : Int} (h : W.heap[g]? = some (.cells #[.int .u64 f0, .int .u64 f1] 83 (0, 0))) : W.cell? ⟨g, 0, none⟩ = some (.int .u64 f0) := (blk_cell h 0).trans rfl
theorem IsS83.set_0 {w0 W : World} {g : Nat} {f0 : Int} {f1 : Int} (h : IsS83 w0 W g f0 f1) (x : Int) : IsS83 w0 (W.setCell ⟨g, 0, none⟩ (.int .u64 x)) g x f1 := by
 obtain ⟨hb, hg⟩ := h
 exact ⟨by simpa using blk_set hb 0 (.int .u64 x), hg⟩
theorem cellS83_1 {W : World} {g : Nat} {f0 : Int} {f1 : Int} (h : W.heap[g]? = some (.cells #[.int .u64 f0, .int .u64 f1] 83 (0, 0))) : W.cell? ⟨g, 1, none⟩ = some (.int .u64 f1) := (blk_cell h 1).trans rfl
theorem IsS83.set_1 {w0 W : World} {g : Nat} {f0 : Int} {f1 : Int} (h : IsS83 w0 W g f0 f1) (x : Int) : IsS83 w0 (W.setCell ⟨g, 1, none⟩ (.int .u64 x)) g f0 x := by
 obtain ⟨hb, hg⟩ := h
 exact ⟨by simpa using blk_set hb 1 (.int .u64 x), hg⟩
theorem IsS83.new (w0 W : World) (f0 : Int) (f1 : Int) (hB : Below w0.heap.size w0 W) : IsS83 w0 (W.alloc (.cells #[.int .u64 f0, .int .u64 f1] 83)) W.heap.size f0 f1 := ⟨by simpa using heap_alloc_new W _, hB.size⟩
def cippuskit_Urn_turn.f (s0_0 : Int) (s0_1 : Int) : Option (Int × Int × Int) := if (Go.bits .or .u64 s0_1 (Go.bits .xor .u64 (Go.bits .xor .u64 (Go.bits .xor .u64 (Go.bits .xor .u64 s0_0 (IntKind.u64.wrap (s0_0 * 8388608))) s0_1) ((Go.bits .xor .u64 s0_0 (IntKind.u64.wrap (s0_0 * 8388608))) / 131072)) (s0_1 / 67108864))) = 0 then (some (IntKind.u64.wrap (1 + s0_1), s0_1, 1)) else (some (IntKind.u64.wrap ((Go.bits .xor .u64 (Go.bits .xor .u64 (Go.bits .xor .u64 (Go.bits .xor .u64 s0_0 (IntKind.u64.wrap (s0_0 * 8388608))) s0_1) ((Go.bits .xor .u64 s0_0 (IntKind.u64.wrap (s0_0 * 8388608))) / 131072)) (s0_1 / 67108864)) + s0_1), s0_1, Go.bits .xor .u64 (Go.bits .xor .u64 (Go.bits .xor .u64 (Go.bits .xor .u64 s0_0 (IntKind.u64.wrap (s0_0 * 8388608))) s0_1) ((Go.bits .xor .u64 s0_0 (IntKind.u64.wrap (s0_0 * 8388608))) / 131072)) (s0_1 / 67108864)))
set_option maxHeartbeats 8000000 in
set_option maxRecDepth 100000 in
theorem cippuskit_Urn_turn.calls (g : Nat) (s0_0 : Int) (s0_1 : Int) (r1 : Int) (r2 : Int) (r3 : Int) (w0 w : World) (hI : IsS83 w0 w g s0_0 s0_1) (hB : Below w0.heap.size w0 w) (h : cippuskit_Urn_turn.f s0_0 s0_1 = some (r1, r2, r3)) :
  Calls Try.prog 41 #[.pointer (some ⟨g, 0, none⟩)] w fun e w' => e = .returned (.int .u64 r1) ∧ IsS83 w0 w' g r2 r3 ∧ Below w0.heap.size w0 w' ∧ KeepBut w w' g none := by
 have HI0 := Aside0.mk hI
 have HK := Aside0.mk (KeepBut.refl w g none)
 have HL := Aside0.mk hB.size
 clear hI
 have HW0 := Aside0.mk hB.size
 have HB := Aside0.mk hB
 clear hB
 have H : (if (Go.bits .or .u64 s0_1 (Go.bits .xor .u64 (Go.bits .xor .u64 (Go.bits .xor .u64 (Go.bits .xor .u64 s0_0 (IntKind.u64.wrap (s0_0 * 8388608))) s0_1) ((Go.bits .xor .u64 s0_0 (IntKind.u64.wrap (s0_0 * 8388608))) / 131072)) (s0_1 / 67108864))) = 0 then (some (IntKind.u64.wrap (1 + s0_1), s0_1, 1)) else (some (IntKind.u64.wrap ((Go.bits .xor .u64 (Go.bits .xor .u64 (Go.bits .xor .u64 (Go.bits .xor .u64 s0_0 (IntKind.u64.wrap (s0_0 * 8388608))) s0_1) ((Go.bits .xor .u64 s0_0 (IntKind.u64.wrap (s0_0 * 8388608))) / 131072)) (s0_1 / 67108864)) + s0_1), s0_1, Go.bits .xor .u64 (Go.bits .xor .u64 (Go.bits .xor .u64 (Go.bits .xor .u64 s0_0 (IntKind.u64.wrap (s0_0 * 8388608))) s0_1) ((Go.bits .xor .u64 s0_0 (IntKind.u64.wrap (s0_0 * 8388608))) / 131072)) (s0_1 / 67108864)))) = some (r1, r2, r3) := h
 clear h
 by_cases c2 : (Go.bits .or .u64 s0_1 (Go.bits .xor .u64 (Go.bits .xor .u64 (Go.bits .xor .u64 (Go.bits .xor .u64 s0_0 (IntKind.u64.wrap (s0_0 * 8388608))) s0_1) ((Go.bits .xor .u64 s0_0 (IntKind.u64.wrap (s0_0 * 8388608))) / 131072)) (s0_1 / 67108864))) = 0
 ·rw [if_pos c2] at H
  have c2b0 : ((Go.bits .or .u64 s0_1 (Go.bits .xor .u64 (Go.bits .xor .u64 (Go.bits .xor .u64 (Go.bits .xor .u64 s0_0 (IntKind.u64.wrap (s0_0 * 8388608))) s0_1) ((Go.bits .xor .u64 s0_0 (IntKind.u64.wrap (s0_0 * 8388608))) / 131072)) (s0_1 / 67108864))) == 0) = true := beq_iff_eq.mpr c2
  have c2b1 : ((Go.bits .or .u64 s0_1 (Go.bits .xor .u64 (Go.bits .xor .u64 (Go.bits .xor .u64 (Go.bits .xor .u64 s0_0 (IntKind.u64.wrap (s0_0 * 8388608))) s0_1) ((Go.bits .xor .u64 s0_0 (IntKind.u64.wrap (s0_0 * 8388608))) / 131072)) (s0_1 / 67108864))) != 0) = false := bne_eq_false_iff_eq.mpr c2
  clear c2
  simp only [Option.some.injEq, Prod.mk.injEq] at H
  obtain ⟨rfl, rfl, rfl⟩ := H
  obtain ⟨HGz3, hgz3⟩ := HI0.out
  have hcz3_0 := cellS83_0 HGz3
  have hcz3_1 := cellS83_1 HGz3
  have hfz3_0 := blk_frozen HGz3 0
  have hfz3_1 := blk_frozen HGz3 1
  clear HGz3 hgz3
  go_enter Try.func41, Try.ntmps41
  go_wp2
  repeat (go_quiet (fail); try go_wp2)
  go_ret
  exact ⟨by first | rfl | (simp [errW_none, errW_some] <;> rfl) | (simp [*, errW_none, errW_some] <;> rfl), by repeat (first | (with_reducible first | exact HI0.out | apply IsS83.alloc | apply IsS83.drewN | apply IsS83.drew | apply IsS83.set_0 | apply IsS83.set_1) | exact HI0.out), by repeat (first | (with_reducible first | exact HB.out | apply below_alloc | apply pw_below_drewN | apply below_drew1 | refine below_set ?_ (IsS83.ge HI0.out)) | exact HB.out), by repeat (first | (with_reducible first | exact HK.out | apply KeepBut.set_ | apply keep_drewN | apply keep_drew | apply keep_alloc) | exact HK.out)⟩
 ·rw [if_neg c2] at H
  have c2b0 : ((Go.bits .or .u64 s0_1 (Go.bits .xor .u64 (Go.bits .xor .u64 (Go.bits .xor .u64 (Go.bits .xor .u64 s0_0 (IntKind.u64.wrap (s0_0 * 8388608))) s0_1) ((Go.bits .xor .u64 s0_0 (IntKind.u64.wrap (s0_0 * 8388608))) / 131072)) (s0_1 / 67108864))) == 0) = false := beq_eq_false_iff_ne.mpr c2
  have c2b1 : ((Go.bits .or .u64 s0_1 (Go.bits .xor .u64 (Go.bits .xor .u64 (Go.bits .xor .u64 (Go.bits .xor .u64 s0_0 (IntKind.u64.wrap (s0_0 * 8388608))) s0_1) ((Go.bits .xor .u64 s0_0 (IntKind.u64.wrap (s0_0 * 8388608))) / 131072)) (s0_1 / 67108864))) != 0) = true := bne_iff_ne.mpr c2
  simp only [Option.some.injEq, Prod.mk.injEq] at H
  obtain ⟨rfl, rfl, rfl⟩ := H
  obtain ⟨HGz4, hgz4⟩ := HI0.out
  have hcz4_0 := cellS83_0 HGz4
  have hcz4_1 := cellS83_1 HGz4
  have hfz4_0 := blk_frozen HGz4 0
  have hfz4_1 := blk_frozen HGz4 1
  clear HGz4 hgz4
  go_enter Try.func41, Try.ntmps41
  go_wp2
  repeat (go_quiet (fail); try go_wp2)
  go_ret
  exact ⟨by first | rfl | (simp [errW_none, errW_some] <;> rfl) | (simp [*, errW_none, errW_some] <;> rfl), by repeat (first | (with_reducible first | exact HI0.out | apply IsS83.alloc | apply IsS83.drewN | apply IsS83.drew | apply IsS83.set_0 | apply IsS83.set_1) | exact HI0.out), by repeat (first | (with_reducible first | exact HB.out | apply below_alloc | apply pw_below_drewN | apply below_drew1 | refine below_set ?_ (IsS83.ge HI0.out)) | exact HB.out), by repeat (first | (with_reducible first | exact HK.out | apply KeepBut.set_ | apply keep_drewN | apply keep_drew | apply keep_alloc) | exact HK.out)⟩
end Go.Proofs.Ytkfebceainedfaa.P
namespace Go.Proofs.Ytkfebceainedfaa.P
open Go.RowKit Go.Proofs.YtkfebceainedfaaW.PrintWords Go.Proofs.YtkfebceainedfaaW.PrintLast Go.Proofs.YtkfebceainedfaaW.PrintMore
theorem uk {W W' : World} {g : Nat} {o : Obj} (h : Aside0 (W.heap[g]? = some o)) (t : Aside0 (W.heap[g]? = some o) → W'.heap[g]? = some o := by intro z; (with_reducible repeat (first | refine blk_drewN ?_ _ | refine blk_drew ?_ | refine blk_alloc ?_ _)); exact z.out) : W'.heap[g]? = some o := t h
theorem uR {A P : Prop} (h : A) (t : A → P := by intro z; (with_reducible repeat (first | apply Kd.R_alloc | apply Kd.R_drewN | apply Kd.R_drew)); exact z.out) : P := t h
theorem uB {n : Nat} {w W W' : World} (h : Aside0 (Below n w W)) (t : Aside0 (Below n w W) → Below n w W' := by intro z; repeat (first | (with_reducible first | exact z.out | apply below_alloc | apply pw_below_drewN | apply below_drew1 | refine below_set ?_ (Aside0.out (by assumption)) | refine below_set ?_ (IsS83.ge (Aside0.out (by assumption)))) | exact z.out)) : Below n w W' := t h
theorem uK {w W W' : World} {g : Nat} {row : Option Nat} (h : Aside0 (KeepBut w W g row)) (t : Aside0 (KeepBut w W g row) → KeepBut w W' g row := by intro z; repeat (first | (with_reducible first | exact z.out | apply KeepBut.set_ | apply keep_drewN | apply keep_drew | apply keep_alloc | refine keep_far ?_ (Aside0.out (by assumption)) _) | exact z.out)) : KeepBut w W' g row := t h
theorem uI {w0 W W' : World} {g : Nat} {f0 f1 x0 x1 : Int} (h : Aside0 (IsS83 w0 W g f0 f1)) (t : Aside0 (IsS83 w0 W g f0 f1) → IsS83 w0 W' g x0 x1 := by intro z; repeat (first | (with_reducible first | exact z.out | apply IsS83.alloc | apply IsS83.drewN | apply IsS83.drew | apply IsS83.set_0 | apply IsS83.set_1 | refine IsS83.far ?_ (Aside0.out (by assumption)) _) | exact z.out)) : IsS83 w0 W' g x0 x1 := t h
theorem uD {A P : Prop} (h : A) (t : A → P := by intro z; repeat (first | exact z | (with_reducible refine Kd.C_alloc ?_ _) | (with_reducible refine Kd.C_drewN ?_ _) | (with_reducible refine Kd.C_drew ?_))) : P := t h
theorem uc {w : World} {g t : Nat} {cs : Array Value} {v : Value} (h : Aside0 (w.heap[g]? = some (.cells cs t (0, 0)))) (i : Nat) (e : cs[i]? = some v := by rfl) : w.cell? ⟨g, i, none⟩ = some v := (blk_cell h.out i).trans e
theorem uA {P : Prop} (h : P := by (try simp only [List.map_toArray, List.map_cons, List.map_nil]); first | done | rfl | (simp only [List.length_drop, List.length_take]; rfl)) : P := h
theorem uS {P : Prop} (h : P := by first | rfl | (simp; done) | (simp [*]; done)) : P := h
theorem uE {P : Prop} (h : P := by first | rfl | (simp [errW_none, errW_some] <;> rfl) | (simp [*, errW_none, errW_some] <;> rfl)) : P := h
abbrev tt : Bool := true
abbrev ff : Bool := false
theorem uP {P : Prop} (h : P := by simp only [Act.put, List.setIfInBounds_toArray, List.set_cons_zero, List.set_cons_succ, i64_w, i32_w]; rfl) : P := h
theorem ua {P : Prop} (h : P := by first | (with_reducible assumption) | assumption) : P := h
end Go.Proofs.Ytkfebceainedfaa.P
namespace Go.Proofs.Ytkfebceainedfaa.P
open Go.RowKit Go.Proofs.YtkfebceainedfaaW.PrintWords Go.Proofs.YtkfebceainedfaaW.PrintLast Go.Proofs.YtkfebceainedfaaW.PrintMore
attribute [local go_sem] max2_int min2_int max_two min_two max_three min_three max_four min_four   -- for this text's walks alone
set_option linter.unusedVariables false
set_option linter.unusedSimpArgs false
def gap_letters_with.f (a0 : Int) (a1 : Int) : Option (Int) := some (Go.bits .or .u32 a0 (shl .u32 1 ((a1 - 65) % 256)))
set_option maxHeartbeats 8000000 in
set_option maxRecDepth 100000 in
theorem gap_letters_with.calls (a0 : Int) (a1 : Int) (r : Int) (w : World) (h : gap_letters_with.f a0 a1 = some r) :
  Calls Try.prog 58 #[.int .u32 a0, .int .u8 a1] w fun e w' => e = .returned (.int .u32 r) ∧ Drawn0 w w' := by
 have H : (some (Go.bits .or .u32 a0 (shl .u32 1 ((a1 - 65) % 256)))) = some r := h
 clear h
 obtain ⟨ji3, hji3⟩ : ∃ j_ : Int, (shl .u32 1 ((a1 - 65) % 256)) = j_ := ⟨_, rfl⟩
 replace H : (some (Go.bits .or .u32 a0 (ji3))) = some r := by first | (rw [hji3] at H; exact H) | (simp only [hji3] at H ⊢; exact H)
 have hji3_ : (IntKind.u32.wrap (1 * 2 ^ min ((a1 - 65) % 256).toNat 32)) = ji3 := hji3
 have hji3z : ((a1 - 65) % 256) ≤ 32 → (IntKind.u32.wrap (1 * 2 ^ ((a1 - 65) % 256).toNat)) = ji3 := shl_small hji3
 have hji3u : (IntKind.u32.wrap (2 ^ min ((a1 - 65) % 256).toNat 32)) = ji3 := by have h_ := hji3_; rw [Int.one_mul] at h_; exact h_
 have hji3v : ((a1 - 65) % 256) ≤ 32 → (IntKind.u32.wrap (2 ^ ((a1 - 65) % 256).toNat)) = ji3 := fun hle_ => by have h_ := hji3z hle_; rw [Int.one_mul] at h_; exact h_
 obtain rfl := Option.some.inj H
 go_enter Try.func58, Try.ntmps58
 go_wp2
 go_ret
 exact ⟨by first | rfl | (simp; done) | (simp only [OFix.ne_nil_b]; done) | (simp only [← hji3, OFix.ne_nil_b]; done) | (simp only [← hji3] <;> (first | rfl | simp)) | (simp [*]; done), by repeat (first | exact Drawn0.refl _ | apply Drawn0.step)⟩
end Go.Proofs.Ytkfebceainedfaa.P
namespace Go.Proofs.Ytkfebceainedfaa.P
open Go.RowKit Go.Proofs.YtkfebceainedfaaW.PrintWords Go.Proofs.YtkfebceainedfaaW.PrintLast Go.Proofs.YtkfebceainedfaaW.PrintMore
attribute [local go_sem] max2_int min2_int max_two min_two max_three min_three max_four min_four   -- for this text's walks alone
set_option linter.unusedVariables false
set_option linter.unusedSimpArgs false
def gap_of.l0 : Nat → Int → Int → Int → ByteArray → Bool → Int → Int → Option (Int)
 | 0, _, _, _, _, _, _, _ => none
 | k + 1, x3, x10, x11, x338000, x338001, x338002, x338003 => if x11 < x10 then (if 0 ≤ x11 then (if x11 < (x338000.size : Int) then ((gap_letters_with.f x3 (bt x338000 x11)).bind fun t338 => (gap_of.l0 k t338 x10 (wrap64 (x11 + 1)) x338000 x338001 x338002 x338003)) else (none)) else (none)) else (some x3)
def gap_of.f (k : Nat) (a0_0 : ByteArray) (a0_1 : Bool) (a0_2 : Int) (a0_3 : Int) : Option (Int) := if a0_0.toList = ([] : List UInt8) then (some 67108863) else (gap_of.l0 k 0 (a0_0.size : Int) 0 a0_0 a0_1 a0_2 a0_3)
set_option maxHeartbeats 8000000 in
set_option maxRecDepth 100000 in
theorem gap_of.calls (k : Nat) (a0_0 : ByteArray) (a0_1 : Bool) (a0_2 : Int) (a0_3 : Int) (r : Int) (w : World) (h : gap_of.f k a0_0 a0_1 a0_2 a0_3 = some r) :
  Calls Try.prog 77 #[.agg #[.string a0_0, .bool a0_1, .int .i64 a0_2, .int .i64 a0_3]] w fun e w' => e = .returned (.int .u32 r) ∧ Below w.heap.size w w' := by
 have hu49 := Try.underlying49
 have HB := Aside0.mk (Below.refl w.heap.size w)
 have H : (if a0_0.toList = ([] : List UInt8) then (some 67108863) else (gap_of.l0 k 0 (a0_0.size : Int) 0 a0_0 a0_1 a0_2 a0_3)) = some r := h
 clear h
 by_cases c2 : a0_0.toList = ([] : List UInt8)
 ·rw [if_pos c2] at H
  have c2b0 : (a0_0.toList == ([] : List UInt8)) = true := beq_iff_eq.mpr c2
  have c2b1 : (a0_0.toList != ([] : List UInt8)) = false := bne_eq_false_iff_eq.mpr c2
  clear c2
  obtain rfl := Option.some.inj H
  go_enter Try.func77, Try.ntmps77
  go_wp2_with (first | ((with_reducible refine gate_dst (N := 1) rfl ?_); refine box_event ?hg (N := 1) ?hd (cs := #[.string a0_0, .bool a0_1, .int .i64 a0_2, .int .i64 a0_3]) (t := 49) ?hr ?_; (case hd => rfl); (case hg => rfl); (case hr => first | (go_simp; done) | (go_simp; rfl)); intro gb337 hg w3 hbox hb; have BK337 := Aside0.mk (hbox); have GW337 := Aside0.mk ((by rw [hg]; exact (below_size (uB HB)) : w.heap.size ≤ gb337)); have GE337 := Aside0.mk ((by rw [hg]; exact (below_size (uB HB)) : w.heap.size ≤ gb337)); replace HB := Aside0.mk (below_step (uB HB) hb); clear hb hbox hg; have hcz4_0 := uc (w := w3) BK337 0; have hcz4_1 := uc (w := w3) BK337 1; have hcz4_2 := uc (w := w3) BK337 2; have hcz4_3 := uc (w := w3) BK337 3; have hfz4_0 := blk_frozen BK337.out 0; have hfz4_1 := blk_frozen BK337.out 1; have hfz4_2 := blk_frozen BK337.out 2; have hfz4_3 := blk_frozen BK337.out 3))
  go_ret
  exact ⟨uE, uB HB⟩
 ·rw [if_neg c2] at H
  have c2b0 : (a0_0.toList == ([] : List UInt8)) = false := beq_eq_false_iff_ne.mpr c2
  have c2b1 : (a0_0.toList != ([] : List UInt8)) = true := bne_iff_ne.mpr c2
  have H' := Aside0.mk H
  clear H
  go_enter Try.func77, Try.ntmps77
  go_wp2_with (first | ((with_reducible refine gate_dst (N := 1) rfl ?_); refine box_event ?hg (N := 1) ?hd (cs := #[.string a0_0, .bool a0_1, .int .i64 a0_2, .int .i64 a0_3]) (t := 49) ?hr ?_; (case hd => rfl); (case hg => rfl); (case hr => first | (go_simp; done) | (go_simp; rfl)); intro gb337 hg w5 hbox hb; have BK337 := Aside0.mk (hbox); have GW337 := Aside0.mk ((by rw [hg]; exact (below_size (uB HB)) : w.heap.size ≤ gb337)); have GE337 := Aside0.mk ((by rw [hg]; exact (below_size (uB HB)) : w.heap.size ≤ gb337)); replace HB := Aside0.mk (below_step (uB HB) hb); clear hb hbox hg; have hcz6_0 := uc (w := w5) BK337 0; have hcz6_1 := uc (w := w5) BK337 1; have hcz6_2 := uc (w := w5) BK337 2; have hcz6_3 := uc (w := w5) BK337 3; have hfz6_0 := blk_frozen BK337.out 0; have hfz6_1 := blk_frozen BK337.out 1; have hfz6_2 := blk_frozen BK337.out 2; have hfz6_3 := blk_frozen BK337.out 3))
  go_loopg [3, 11] k (fun kq v3 v11 w' => ∃ (x3_1 : Int) (x11_1 : Int), v3 = .int .u32 x3_1 ∧ v11 = .int .i64 x11_1 ∧ Aside0 (gap_of.l0 kq x3_1 (a0_0.size : Int) x11_1 a0_0 a0_1 a0_2 a0_3 = some r) ∧ Aside0 (kq ≤ k) ∧ Aside0 (w'.heap[gb337]? = some (.cells #[.string a0_0, .bool a0_1, .int .i64 a0_2, .int .i64 a0_3] 49 (0, 0))) ∧ Aside0 (Below w.heap.size w w'))
  case atStart => exact ⟨(0), (0), uS, uS, H', ⟨Nat.le_refl _⟩, ⟨uk BK337⟩, ⟨uB HB⟩⟩
  case round =>
   clear H'
   try clear c2
   try clear c2b0
   try clear c2b1
   try clear p2
   try clear hcz4_0
   try clear hcz4_1
   try clear hcz4_2
   try clear hcz4_3
   try clear hcz6_0
   try clear hcz6_1
   try clear hcz6_2
   try clear hcz6_3
   try clear hfz4_0
   try clear hfz4_1
   try clear hfz4_2
   try clear hfz4_3
   try clear hfz6_0
   try clear hfz6_1
   try clear hfz6_2
   try clear hfz6_3
   obtain ⟨x3_1, x11_1, rfl, rfl, HA, HK1, BK337, HB⟩ := hrel
   cases gk with
   | zero => exact absurd HA.out (by simp [gap_of.l0])
   | succ k1 =>
    have H := HA.out
    clear HA
    simp only [gap_of.l0] at H
    by_cases c7 : x11_1 < (a0_0.size : Int)
    ·rw [if_pos c7] at H
     have c7b0 : decide (x11_1 < (a0_0.size : Int)) = true := decide_eq_true c7
     clear c7
     by_cases c8 : 0 ≤ x11_1
     ·rw [if_pos c8] at H
      have c8b0 : decide (0 ≤ x11_1) = true := decide_eq_true c8
      clear c8
      by_cases c9 : x11_1 < (a0_0.size : Int)
      ·rw [if_pos c9] at H
       have c9b0 : decide (x11_1 < (a0_0.size : Int)) = true := decide_eq_true c9
       clear c9
       replace H := Option.bind_eq_some_iff.mp H
       obtain ⟨t338, A110, H⟩ := H
       replace H : (gap_of.l0 k1 t338 (a0_0.size : Int) (wrap64 (x11_1 + 1)) a0_0 a0_1 a0_2 a0_3) = some r := H
       have A11 := Aside0.mk A110
       clear A110
       have H' := Aside0.mk H
       clear H
       have hcz12_0 := uc (w := wr) BK337 0
       have hcz12_1 := uc (w := wr) BK337 1
       have hcz12_2 := uc (w := wr) BK337 2
       have hcz12_3 := uc (w := wr) BK337 3
       have hfz12_0 := blk_frozen BK337.out 0
       have hfz12_1 := blk_frozen BK337.out 1
       have hfz12_2 := blk_frozen BK337.out 2
       have hfz12_3 := blk_frozen BK337.out 3
       have p10 : 0 ≤ (x11_1 : Int) := of_decide_eq_true ua
       have q10 : x11_1 < (a0_0.size : Int) := of_decide_eq_true ua
       have hx10 := bt_at a0_0 x11_1
       replace p10 := eq_true p10
       replace q10 := eq_true q10
       go_wp2_with (first | ((with_reducible refine gate_callee (f := 58) rfl ?_); refine goesL_ (some 19) rfl rfl Try.func58 (by kernel_rfl) rfl #[.int .u32 x3_1, .int .u8 (bt a0_0 x11_1)] rfl uA ?_; (with_reducible refine (gap_letters_with.calls x3_1 (bt a0_0 x11_1) t338 _ A11.out).mono ?_); rintro e w' ⟨rfl, ⟨nd, rfl⟩⟩; refine ⟨_, rfl, ?_⟩))
       go_roundg k1
       case measure => have := HK1.out; omega
       case rel => exact ⟨(t338), (wrap64 (x11_1 + 1)), uS, uS, H', ⟨by have := HK1.out; omega⟩, ⟨uk BK337⟩, ⟨uB HB⟩⟩
      ·rw [if_neg c9] at H
       exact absurd H (by simp)
     ·rw [if_neg c8] at H
      exact absurd H (by simp)
    ·rw [if_neg c7] at H
     have c7b0 : decide (x11_1 < (a0_0.size : Int)) = false := decide_eq_false c7
     clear c7
     obtain rfl := Option.some.inj H
     go_wp2
     go_ret
     exact ⟨uE, uB HB⟩
end Go.Proofs.Ytkfebceainedfaa.P
namespace Go.Proofs.Ytkfebceainedfaa.P
open Go.RowKit Go.Proofs.YtkfebceainedfaaW.PrintWords Go.Proofs.YtkfebceainedfaaW.PrintLast Go.Proofs.YtkfebceainedfaaW.PrintMore
attribute [local go_sem] max2_int min2_int max_two min_two max_three min_three max_four min_four   -- for this text's walks alone
set_option linter.unusedVariables false
set_option linter.unusedSimpArgs false
def gap_letters_has.f (a0 : Int) (a1 : Int) : Option (Bool) := some ((Go.bits .and .u32 (shr .u32 a0 ((a1 - 65) % 256)) 1) == 1)
set_option maxHeartbeats 8000000 in
set_option maxRecDepth 100000 in
theorem gap_letters_has.calls (a0 : Int) (a1 : Int) (r : Bool) (w : World) (h : gap_letters_has.f a0 a1 = some r) :
  Calls Try.prog 81 #[.int .u32 a0, .int .u8 a1] w fun e w' => e = .returned (.bool r) ∧ Drawn0 w w' := by
 have H : (some ((Go.bits .and .u32 (shr .u32 a0 ((a1 - 65) % 256)) 1) == 1)) = some r := h
 clear h
 obtain ⟨ji3, hji3⟩ : ∃ j_ : Int, (shr .u32 a0 ((a1 - 65) % 256)) = j_ := ⟨_, rfl⟩
 replace H : (some ((Go.bits .and .u32 (ji3) 1) == 1)) = some r := by first | (rw [hji3] at H; exact H) | (simp only [hji3] at H ⊢; exact H)
 have hji3_ : (a0 / 2 ^ min ((a1 - 65) % 256).toNat 32) = ji3 := hji3
 have hji3z : ((a1 - 65) % 256) ≤ 32 → (a0 / 2 ^ ((a1 - 65) % 256).toNat) = ji3 := shr_small hji3
 obtain rfl := Option.some.inj H
 go_enter Try.func81, Try.ntmps81
 go_wp2
 go_ret
 exact ⟨by first | rfl | (simp; done) | (simp only [OFix.ne_nil_b]; done) | (simp only [← hji3, OFix.ne_nil_b]; done) | (simp only [← hji3] <;> (first | rfl | simp)) | (simp [*]; done), by repeat (first | exact Drawn0.refl _ | apply Drawn0.step)⟩
end Go.Proofs.Ytkfebceainedfaa.P
namespace Go.Proofs.Ytkfebceainedfaa.OwnGap
set_option linter.unusedVariables false
set_option linter.unusedSimpArgs false
theorem flatMap_eq {α β : Type} {f g : α → List β} : ∀ {l : List α}, (∀ x ∈ l, f x = g x) → l.flatMap f = l.flatMap g
 | [], _ => rfl
 | a :: l, h => by rw [List.flatMap_cons, List.flatMap_cons, h a (by simp), flatMap_eq (fun x hx => h x (by simp [hx]))]
theorem filterMap_flat {α β : Type} (f : α → Option β) : ∀ l : List α, l.filterMap f = l.flatMap fun x => (f x).toList
 | [] => rfl
 | a :: l => by
  rw [List.filterMap_cons, List.flatMap_cons, ← filterMap_flat f l]
  cases f a <;> rfl
structure Rw where
 n : Nat
 gap : Nat → Bool
 fit : Nat → Int → Bool
 lo : Nat → Int
 hi : Nat → Int
 wl : Int → Int
 wh : Int → Int
def okW (R : Rw) (i : Nat) (l h : Int) : Bool := decide (l ≤ R.hi i ∧ R.lo i ≤ h)
def gapF (R : Rw) (next : List Int → List (List Int)) (i : Nat) : Nat → Int → Int → List Int → List (List Int)
 | m, l, h, [] => if okW R i l h = true then (next []).map ((m : Int) :: ·) else []
 | m, l, h, a :: t => (if okW R i l h = true then (next (a :: t)).map ((m : Int) :: ·) else []) ++ (if m + 1 ≤ 10 then gapF R next i (m + 1) (l + R.wl a) (h + R.wh a) t else [])
def fillsF (R : Rw) : Nat → Nat → List Int → List (List Int)
 | 0, _, t => if t = [] then [[]] else []
 | rem + 1, i, t => if R.gap i = false then (match t with | [] => [] | a :: t' => if R.fit i a = true then fillsF R rem (i + 1) t' else [])
   else gapF R (fillsF R rem (i + 1)) i 0 0 0 t
def compF (R : Rw) : Nat → Nat → Nat → Int → Int → List Int → List (List Int)
 | 0, i, _, _, _, t => fillsF R 0 i t
 | rem + 1, i, m, l, h, t => if R.gap i = false then fillsF R (rem + 1) i t else gapF R (fillsF R rem (i + 1)) i m l h t
theorem compF_succ (R : Rw) (rem i m : Nat) (l h : Int) (t : List Int) : compF R (rem + 1) i m l h t = if R.gap i = false then fillsF R (rem + 1) i t else gapF R (fillsF R rem (i + 1)) i m l h t := rfl
theorem fillsF_succ (R : Rw) (rem i : Nat) (t : List Int) : fillsF R (rem + 1) i t = if R.gap i = false then (match t with | [] => [] | a :: t' => if R.fit i a = true then fillsF R rem (i + 1) t' else []) else gapF R (fillsF R rem (i + 1)) i 0 0 0 t := rfl
theorem gapF_nil (R : Rw) (next : List Int → List (List Int)) (i m : Nat) (l h : Int) : gapF R next i m l h [] = if okW R i l h = true then (next []).map ((m : Int) :: ·) else [] := by rw [gapF]
theorem gapF_cons (R : Rw) (next : List Int → List (List Int)) (i m : Nat) (l h a : Int) (t : List Int) : gapF R next i m l h (a :: t) = (if okW R i l h = true then (next (a :: t)).map ((m : Int) :: ·) else []) ++ (if m + 1 ≤ 10 then gapF R next i (m + 1) (l + R.wl a) (h + R.wh a) t else []) := by rw [gapF]
theorem compF_start (R : Rw) (rem i : Nat) (t : List Int) : compF R rem i 0 0 0 t = fillsF R rem i t := by
 cases rem with
 | zero => rfl
 | succ rem =>
  rw [compF_succ]
  split
  ·rfl
  ·rename_i h
   rw [fillsF_succ, if_neg h]
structure Pth where
 i : Nat
 m : Nat
 l : Int
 h : Int
 fs : List Int
def letterF (R : Rw) : Nat → Nat → Nat → Int → Int → List Int → Int → List Pth
 | 0, _, _, _, _, _, _ => []
 | rem + 1, i, m, l, h, fs, a => if R.gap i = false then (if R.fit i a = true then [⟨i + 1, 0, 0, 0, fs⟩] else [])
   else (if okW R i l h = true then letterF R rem (i + 1) 0 0 0 (fs ++ [(m : Int)]) a else []) ++ (if m + 1 ≤ 10 ∧ l + R.wl a ≤ R.hi i then [⟨i, m + 1, l + R.wl a, h + R.wh a, fs⟩] else [])
theorem letterF_succ (R : Rw) (rem i m : Nat) (l h : Int) (fs : List Int) (a : Int) : letterF R (rem + 1) i m l h fs a = if R.gap i = false then (if R.fit i a = true then [⟨i + 1, 0, 0, 0, fs⟩] else [])
   else (if okW R i l h = true then letterF R rem (i + 1) 0 0 0 (fs ++ [(m : Int)]) a else []) ++ (if m + 1 ≤ 10 ∧ l + R.wl a ≤ R.hi i then [⟨i, m + 1, l + R.wl a, h + R.wh a, fs⟩] else []) := rfl
def compP (R : Rw) (p : Pth) (t : List Int) : List (List Int) := (compF R (R.n - p.i) p.i p.m p.l p.h t).map (p.fs ++ ·)
def letterP (R : Rw) (p : Pth) (a : Int) : List Pth := letterF R (R.n - p.i) p.i p.m p.l p.h p.fs a
theorem gapF_wide (R : Rw) (next : List Int → List (List Int)) (i : Nat) : ∀ (t : List Int) (m : Nat) (l h : Int), R.hi i < l → (∀ a ∈ t, 0 ≤ R.wl a) → gapF R next i m l h t = []
 | [], m, l, h, hl, _ => by
  rw [gapF_nil, if_neg]
  simp [okW]
  omega
 | a :: t, m, l, h, hl, hw => by
  rw [gapF_cons, if_neg (by simp [okW]; omega)]
  rw [gapF_wide R next i t (m + 1) (l + R.wl a) (h + R.wh a) (by have := hw a (by simp); omega) (fun b hb => hw b (by simp [hb]))]
  split <;> rfl
theorem letter_step (R : Rw) (a : Int) (t : List Int) (hw : ∀ b ∈ t, 0 ≤ R.wl b) : ∀ (rem i m : Nat) (l h : Int) (fs : List Int), i + rem = R.n →
  (compF R rem i m l h (a :: t)).map (fs ++ ·) = (letterF R rem i m l h fs a).flatMap (compP R · t) := by
 intro rem
 induction rem with
 | zero => intro i m l h fs hi; simp [compF, fillsF, letterF]
 | succ rem ih =>
  intro i m l h fs hi
  have e1 : ∀ q : Pth, q.i = i + 1 → R.n - q.i = rem := fun q hq => by omega
  by_cases hg : R.gap i = false
  ·rw [compF_succ, letterF_succ, fillsF_succ, if_pos hg, if_pos hg, if_pos hg]
   by_cases hf : R.fit i a = true
   ·simp only [hf, if_true, List.flatMap_cons, List.flatMap_nil, List.append_nil]
    unfold compP
    rw [show R.n - (i + 1) = rem by omega, compF_start]
   ·simp [hf]
  ·rw [compF_succ, letterF_succ, if_neg hg, if_neg hg, gapF_cons, List.map_append, List.flatMap_append]
   congr 1
   ·by_cases hk : okW R i l h = true
    ·rw [if_pos hk, if_pos hk, ← ih (i + 1) 0 0 0 (fs ++ [(m : Int)]) (by omega), compF_start, List.map_map]
     apply List.map_congr_left
     intro x _
     simp
    ·rw [if_neg hk, if_neg hk]; rfl
   ·by_cases hm : m + 1 ≤ 10
    ·rw [if_pos hm]
     by_cases hl : l + R.wl a ≤ R.hi i
     ·rw [if_pos ⟨hm, hl⟩]
      simp only [List.flatMap_cons, List.flatMap_nil, List.append_nil]
      unfold compP
      rw [show R.n - i = rem + 1 by omega]
      rw [compF_succ, if_neg hg]
     ·rw [if_neg (fun h => hl h.2), gapF_wide R _ i t _ _ _ (by omega) hw]
      rfl
    ·rw [if_neg hm, if_neg (fun h => hm h.1)]
     rfl
theorem letterP_step (R : Rw) (p : Pth) (a : Int) (t : List Int) (hp : p.i ≤ R.n) (hw : ∀ b ∈ t, 0 ≤ R.wl b) : compP R p (a :: t) = (letterP R p a).flatMap (compP R · t) :=
 letter_step R a t hw (R.n - p.i) p.i p.m p.l p.h p.fs (by omega)
theorem letterF_le (R : Rw) (a : Int) : ∀ (rem i m : Nat) (l h : Int) (fs : List Int), i + rem = R.n → ∀ q ∈ letterF R rem i m l h fs a, q.i ≤ R.n := by
 intro rem
 induction rem with
 | zero => intro i m l h fs hi q hq; simp [letterF] at hq
 | succ rem ih =>
  intro i m l h fs hi q hq
  unfold letterF at hq
  split at hq
  ·split at hq
   ·simp at hq; subst hq; show i + 1 ≤ R.n; omega
   ·simp at hq
  ·rw [List.mem_append] at hq
   rcases hq with hq | hq
   ·split at hq
    ·exact ih (i + 1) 0 0 0 _ (by omega) q hq
    ·simp at hq
   ·split at hq
    ·simp at hq; subst hq; show i ≤ R.n; omega
    ·simp at hq
def wordF (R : Rw) : List Pth → List Int → List Pth
 | l, [] => l
 | l, a :: t => wordF R (l.flatMap (letterP R · a)) t
theorem wordF_le (R : Rw) : ∀ (t : List Int) (l : List Pth), (∀ q ∈ l, q.i ≤ R.n) → ∀ q ∈ wordF R l t, q.i ≤ R.n
 | [], l, hl, q, hq => hl q hq
 | a :: t, l, hl, q, hq => by
  unfold wordF at hq
  refine wordF_le R t _ ?_ q hq
  intro x hx
  obtain ⟨p, hp, hx⟩ := List.mem_flatMap.1 hx
  have := hl p hp
  exact letterF_le R a _ _ _ _ _ _ (by omega) x hx
theorem wordF_nil (R : Rw) (t : List Int) : wordF R [] t = [] := by
 induction t with
 | nil => rfl
 | cons a t ih => unfold wordF; simpa using ih
theorem wordF_append (R : Rw) : ∀ (t u : List Int) (l : List Pth), wordF R l (t ++ u) = wordF R (wordF R l t) u
 | [], u, l => rfl
 | a :: t, u, l => by
  show wordF R (l.flatMap (letterP R · a)) (t ++ u) = wordF R (wordF R (l.flatMap (letterP R · a)) t) u
  exact wordF_append R t u _
theorem word_step (R : Rw) (u : List Int) (hu : ∀ b ∈ u, 0 ≤ R.wl b) : ∀ (t : List Int) (l : List Pth), (∀ q ∈ l, q.i ≤ R.n) → (∀ b ∈ t, 0 ≤ R.wl b) →
  l.flatMap (compP R · (t ++ u)) = (wordF R l t).flatMap (compP R · u)
 | [], l, _, _ => rfl
 | a :: t, l, hl, ht => by
  unfold wordF
  rw [← word_step R u hu t _ (fun q hq => by
   obtain ⟨p, hp, hx⟩ := List.mem_flatMap.1 hq
   have := hl p hp
   exact letterF_le R a _ _ _ _ _ _ (by omega) q hx) (fun b hb => ht b (by simp [hb])), List.flatMap_assoc]
  refine flatMap_eq fun p hp => ?_
  refine letterP_step R p a (t ++ u) (hl p hp) (fun b hb => ?_)
  rcases List.mem_append.1 hb with hb | hb
  ·exact ht b (by simp [hb])
  ·exact hu b hb
def doneF (R : Rw) : Nat → Nat → Nat → Int → Int → List Int → Option (List Int)
 | 0, _, _, _, _, fs => some fs
 | rem + 1, i, m, l, h, fs => if R.gap i = true ∧ okW R i l h = true then doneF R rem (i + 1) 0 0 0 (fs ++ [(m : Int)]) else none
theorem done_comp (R : Rw) : ∀ (rem i m : Nat) (l h : Int) (fs : List Int), (compF R rem i m l h []).map (fs ++ ·) = (doneF R rem i m l h fs).toList := by
 intro rem
 induction rem with
 | zero => intro i m l h fs; simp [compF, fillsF, doneF]
 | succ rem ih =>
  intro i m l h fs
  rw [compF_succ, doneF]
  by_cases hg : R.gap i = false
  ·rw [if_pos hg, if_neg (by simp [hg])]
   rw [fillsF_succ, if_pos hg]
   rfl
  ·have hg' : R.gap i = true := by simpa using hg
   rw [if_neg hg]
   rw [gapF_nil]
   by_cases hk : okW R i l h = true
   ·rw [if_pos hk, if_pos ⟨hg', hk⟩, ← ih (i + 1) 0 0 0, compF_start, List.map_map]
    apply List.map_congr_left
    intro x _
    simp
   ·rw [if_neg hk, if_neg (fun h => hk h.2)]
    rfl
def doneP (R : Rw) (p : Pth) : Option (List Int) := doneF R (R.n - p.i) p.i p.m p.l p.h p.fs
theorem doneP_comp (R : Rw) (p : Pth) : compP R p [] = (doneP R p).toList := done_comp R _ _ _ _ _ _
def p0 : Pth := ⟨0, 0, 0, 0, []⟩
theorem fills_paths (R : Rw) (t : List Int) (ht : ∀ b ∈ t, 0 ≤ R.wl b) : fillsF R R.n 0 t = (wordF R [p0] t).filterMap (doneP R) := by
 have h := word_step R [] (by simp) t [p0] (by intro q hq; simp at hq; subst hq; exact Nat.zero_le _) ht
 rw [List.append_nil] at h
 have e : [p0].flatMap (compP R · t) = fillsF R R.n 0 t := by
  simp only [List.flatMap_cons, List.flatMap_nil, List.append_nil]
  show (compF R (R.n - 0) 0 0 0 0 t).map ([] ++ ·) = _
  rw [compF_start]
  simp
 rw [← e, h]
 rw [filterMap_flat]
 exact flatMap_eq fun p _ => doneP_comp R p
end Go.Proofs.Ytkfebceainedfaa.OwnGap
namespace Go.Proofs.Ytkfebceainedfaa.P.OwnGap
open Go.RowKit Go.Proofs.YtkfebceainedfaaW.PrintWords Go.Proofs.YtkfebceainedfaaW.PrintLast Go.Proofs.YtkfebceainedfaaW.PrintMore
open Go.Proofs.Ytkfebceainedfaa.OwnGap
set_option linter.unusedVariables false
set_option linter.unusedSimpArgs false
structure Lx where
 l0 : List S53
 l1 : List Bool
 l2 : List Bool
 l3 : List (List Bool)
 l4 : List S47
 r : List S49
structure SV where
 b : Nat
 cs : Array Value
 mb : Nat
 A0 : Option Addr
 c0 : Nat
 A1 : Option Addr
 c1 : Nat
 A2 : Option Addr
 c2 : Nat
 A3 : Option Addr
 c3 : Nat
 Ar : Option Addr
 cr : Nat
 Af : Option Addr
 cf : Nat
def fitB (s : ByteArray) (a : Int) : Bool := s.size == 0 || (bytesOf s).contains a
def rwOf (X : Lx) : Rw := ⟨X.r.length, fun i => (rd_T49 X.r (i : Int)).f1, fun i a => fitB (rd_T49 X.r (i : Int)).f0 a, fun i => (rd_T49 X.r (i : Int)).f2.f0, fun i => (rd_T49 X.r (i : Int)).f2.f1, fun a => (rd_T47 X.l4 (a - 65)).f0, fun a => (rd_T47 X.l4 (a - 65)).f1⟩
structure SrW (X : Lx) (S : SV) (fits : List Int) (W : World) : Prop where
 blk : W.heap[S.b]? = some (.cells S.cs 130 (0, 0))
 e0 : S.cs[0]? = some (.slice S.A0 X.l0.length S.c0)
 e1 : S.cs[1]? = some (.slice S.A1 X.l1.length S.c1)
 e2 : S.cs[2]? = some (.slice S.A2 X.l2.length S.c2)
 e3 : S.cs[3]? = some (.slice S.A3 X.l3.length S.c3)
 e5 : S.cs[5]? = some (.slice S.Ar X.r.length S.cr)
 e6 : S.cs[6]? = some (.slice S.Af X.r.length S.cf)
 ew : ∀ k : Nat, k < 26 → S.cs[7 + k * 2]? = some (.int .i64 (rd_T47 X.l4 (k : Int)).f0) ∧ S.cs[7 + k * 2 + 1]? = some (.int .i64 (rd_T47 X.l4 (k : Int)).f1)
 em : S.cs[59]? = some (.map (some S.mb))
 h0 : Kd.C k53 W S.A0 X.l0.length X.l0
 h1 : Kd.C Kd.bool W S.A1 X.l1.length X.l1
 h2 : Kd.C Kd.bool W S.A2 X.l2.length X.l2
 h3 : Kd.C (Kd.slice 4 Kd.bool) W S.A3 X.l3.length X.l3
 hr : Kd.C k49 W S.Ar X.r.length X.r
 hf : Kd.C (Kd.int .u32) W S.Af X.r.length fits
 g0 : X.l0.length ≤ S.c0
 gr : X.r.length ≤ S.cr
theorem SrW.below {X : Lx} {S : SV} {fits : List Int} {W W' : World} (h : SrW X S fits W) (hb : Below W.heap.size W W') : SrW X S fits W' :=
 { h with blk := blk_below h.blk hb, h0 := Kd.C_below h.h0 hb, h1 := Kd.C_below h.h1 hb, h2 := Kd.C_below h.h2 hb, h3 := Kd.C_below h.h3 hb, hr := Kd.C_below h.hr hb, hf := Kd.C_below h.hf hb }
theorem SrW.cell {X : Lx} {S : SV} {fits : List Int} {W : World} (h : SrW X S fits W) (k : Nat) {v : Value} (hv : S.cs[k]? = some v) : W.cell? ⟨S.b, k, none⟩ = some v := (blk_cell h.blk k).trans hv
def fG (fs : List Int) (k : Nat) : Int := fs.getD k 0
def pC (p : Pth) : Array Value := #[.int .i64 (p.i : Int), .int .i64 (p.m : Int), .int .i64 p.l, .int .i64 p.h, .int .i64 (fG p.fs 0), .int .i64 (fG p.fs 1), .int .i64 (fG p.fs 2), .int .i64 (p.fs.length : Int)]
def PAt (W : World) (b : Nat) (p : Pth) : Prop := W.heap[b]? = some (.cells (pC p) 154 (0, 0))
theorem PAt.cells {W : World} {b : Nat} {p : Pth} (h : PAt W b p) : W.cell? ⟨b, 0, none⟩ = some (.int .i64 (p.i : Int)) ∧ W.cell? ⟨b, 1, none⟩ = some (.int .i64 (p.m : Int)) ∧ W.cell? ⟨b, 2, none⟩ = some (.int .i64 p.l) ∧ W.cell? ⟨b, 3, none⟩ = some (.int .i64 p.h) ∧ W.cell? ⟨b, 4, none⟩ = some (.int .i64 (fG p.fs 0)) ∧ W.cell? ⟨b, 5, none⟩ = some (.int .i64 (fG p.fs 1)) ∧ W.cell? ⟨b, 6, none⟩ = some (.int .i64 (fG p.fs 2)) ∧ W.cell? ⟨b, 7, none⟩ = some (.int .i64 (p.fs.length : Int)) :=
 ⟨(blk_cell h 0).trans rfl, (blk_cell h 1).trans rfl, (blk_cell h 2).trans rfl, (blk_cell h 3).trans rfl, (blk_cell h 4).trans rfl, (blk_cell h 5).trans rfl, (blk_cell h 6).trans rfl, (blk_cell h 7).trans rfl⟩
def shutB (R : Rw) (p : Pth) : Bool := decide (p.i < R.n) && (R.gap p.i && okW R p.i p.l p.h)
def shutP (R : Rw) (p : Pth) : Pth := if shutB R p = true then ⟨p.i + 1, 0, 0, 0, p.fs ++ [(p.m : Int)]⟩ else p
theorem wp_gen {P : Program} {c : Code} {K : Exit → Act → World → Prop} {a : Act} {w : World} (I : World → Prop) (h : I w) (k : ∀ wx, I wx → Code.wp P c K a wx) : Code.wp P c K a w := k w h
structure PB (w wx : World) (p : Pth) : Prop where
 below : Below w.heap.size w wx
 pat : PAt wx w.heap.size p
 res : ∃ q : Nat → Int, wx.heap[w.heap.size + 1]? = some (.cells #[.int .i64 (q 0), .int .i64 (q 1), .int .i64 (q 2), .int .i64 (q 3), .int .i64 (q 4), .int .i64 (q 5), .int .i64 (q 6), .int .i64 (q 7)] 154 (0, 0))
theorem PB.start (w : World) (p : Pth) : PB w ((w.alloc (.cells (pC p) 154)).alloc (.cells #[.int .i64 0, .int .i64 0, .int .i64 0, .int .i64 0, .int .i64 0, .int .i64 0, .int .i64 0, .int .i64 0] 154)) p :=
 ⟨((Below.refl _ _).alloc (Nat.le_refl _) _).alloc (by simp) _, blk_alloc (blk_new w _) _, fun _ => 0, by simpa using blk_new (w.alloc (.cells (pC p) 154)) _⟩
theorem res_cells {wx : World} {b : Nat} {q : Nat → Int} (hq : wx.heap[b]? = some (.cells #[.int .i64 (q 0), .int .i64 (q 1), .int .i64 (q 2), .int .i64 (q 3), .int .i64 (q 4), .int .i64 (q 5), .int .i64 (q 6), .int .i64 (q 7)] 154 (0, 0))) :
  (wx.cell? ⟨b, 0, none⟩ = some (.int .i64 (q 0)) ∧ wx.cell? ⟨b, 1, none⟩ = some (.int .i64 (q 1)) ∧ wx.cell? ⟨b, 2, none⟩ = some (.int .i64 (q 2)) ∧ wx.cell? ⟨b, 3, none⟩ = some (.int .i64 (q 3)) ∧ wx.cell? ⟨b, 4, none⟩ = some (.int .i64 (q 4)) ∧ wx.cell? ⟨b, 5, none⟩ = some (.int .i64 (q 5)) ∧ wx.cell? ⟨b, 6, none⟩ = some (.int .i64 (q 6)) ∧ wx.cell? ⟨b, 7, none⟩ = some (.int .i64 (q 7))) ∧
  wx.frozen? ⟨b, 0, none⟩ = false ∧ wx.frozen? ⟨b, 1, none⟩ = false ∧ wx.frozen? ⟨b, 2, none⟩ = false ∧ wx.frozen? ⟨b, 3, none⟩ = false ∧ wx.frozen? ⟨b, 4, none⟩ = false ∧ wx.frozen? ⟨b, 5, none⟩ = false ∧ wx.frozen? ⟨b, 6, none⟩ = false ∧ wx.frozen? ⟨b, 7, none⟩ = false :=
 ⟨⟨(blk_cell hq 0).trans rfl, (blk_cell hq 1).trans rfl, (blk_cell hq 2).trans rfl, (blk_cell hq 3).trans rfl, (blk_cell hq 4).trans rfl, (blk_cell hq 5).trans rfl, (blk_cell hq 6).trans rfl, (blk_cell hq 7).trans rfl⟩, blk_frozen hq 0, blk_frozen hq 1, blk_frozen hq 2, blk_frozen hq 3, blk_frozen hq 4, blk_frozen hq 5, blk_frozen hq 6, blk_frozen hq 7⟩
theorem cells8 {wx : World} {b t : Nat} {v0 v1 v2 v3 v4 v5 v6 v7 : Value} (hq : wx.heap[b]? = some (.cells #[v0, v1, v2, v3, v4, v5, v6, v7] t (0, 0))) :
  (wx.cell? ⟨b, 0, none⟩ = some v0 ∧ wx.cell? ⟨b, 1, none⟩ = some v1 ∧ wx.cell? ⟨b, 2, none⟩ = some v2 ∧ wx.cell? ⟨b, 3, none⟩ = some v3 ∧ wx.cell? ⟨b, 4, none⟩ = some v4 ∧ wx.cell? ⟨b, 5, none⟩ = some v5 ∧ wx.cell? ⟨b, 6, none⟩ = some v6 ∧ wx.cell? ⟨b, 7, none⟩ = some v7) ∧
  wx.frozen? ⟨b, 0, none⟩ = false ∧ wx.frozen? ⟨b, 1, none⟩ = false ∧ wx.frozen? ⟨b, 2, none⟩ = false ∧ wx.frozen? ⟨b, 3, none⟩ = false ∧ wx.frozen? ⟨b, 4, none⟩ = false ∧ wx.frozen? ⟨b, 5, none⟩ = false ∧ wx.frozen? ⟨b, 6, none⟩ = false ∧ wx.frozen? ⟨b, 7, none⟩ = false :=
 ⟨⟨(blk_cell hq 0).trans rfl, (blk_cell hq 1).trans rfl, (blk_cell hq 2).trans rfl, (blk_cell hq 3).trans rfl, (blk_cell hq 4).trans rfl, (blk_cell hq 5).trans rfl, (blk_cell hq 6).trans rfl, (blk_cell hq 7).trans rfl⟩, blk_frozen hq 0, blk_frozen hq 1, blk_frozen hq 2, blk_frozen hq 3, blk_frozen hq 4, blk_frozen hq 5, blk_frozen hq 6, blk_frozen hq 7⟩
def pD (p : Pth) : Array Value := #[.int .i64 (p.i : Int), .int .i64 (p.m : Int), .int .i64 p.l, .int .i64 p.h, .int .i64 (fG (p.fs ++ [(p.m : Int)]) 0), .int .i64 (fG (p.fs ++ [(p.m : Int)]) 1), .int .i64 (fG (p.fs ++ [(p.m : Int)]) 2), .int .i64 (p.fs.length : Int)]
theorem PAt.fill {W : World} {b : Nat} {p : Pth} (h : PAt W b p) (hl : p.fs.length < 3) : (W.setCell ⟨b, 4 + p.fs.length, none⟩ (.int .i64 (p.m : Int))).heap[b]? = some (.cells (pD p) 154 (0, 0)) := by
 have h1 := blk_set h (4 + p.fs.length) (.int .i64 (p.m : Int))
 rw [h1]
 unfold pC pD fG
 obtain ⟨i, m, l, h0, fs⟩ := p
 match fs, hl with
 | [], _ => rfl
 | [a], _ => rfl
 | [a, b], _ => rfl
theorem PB.drewN {w wx : World} {p : Pth} (h : PB w wx p) (n : Nat) : PB w (wx.drewN n) p := ⟨pw_below_drewN h.below n, h.pat, h.res⟩
theorem PB.alloc {w wx : World} {p : Pth} (h : PB w wx p) (o : Obj) : PB w (wx.alloc o) p := ⟨h.below.alloc (by have := h.below.size; omega) _, blk_alloc h.pat _, let ⟨q, hq⟩ := h.res; ⟨q, blk_alloc hq _⟩⟩
theorem PB.drew {w wx : World} {p : Pth} (h : PB w wx p) : PB w wx.drew p := ⟨h.below.drew, h.pat, h.res⟩
theorem wp_gen' {K : Exit → Act → World → Prop} {a : Act} {w : World} {e : Exit} (I : World → Prop) (h : I w) (k : ∀ wx, I wx → K e a wx) : K e a w := k w h
theorem set8_blk {W : World} {b t : Nat} {v0 v1 v2 v3 v4 v5 v6 v7 : Value} (h : W.heap[b]? = some (.cells #[v0, v1, v2, v3, v4, v5, v6, v7] t (0, 0))) (u0 u1 u2 u3 u4 u5 u6 u7 : Value) : ((((((((W.setCell ⟨b, 0, none⟩ u0).setCell ⟨b, 1, none⟩ u1).setCell ⟨b, 2, none⟩ u2).setCell ⟨b, 3, none⟩ u3).setCell ⟨b, 4, none⟩ u4).setCell ⟨b, 5, none⟩ u5).setCell ⟨b, 6, none⟩ u6).setCell ⟨b, 7, none⟩ u7).heap[b]? = some (.cells #[u0, u1, u2, u3, u4, u5, u6, u7] t (0, 0)) := by
 have s0 := blk_set h 0 u0
 have s1 := blk_set s0 1 u1
 have s2 := blk_set s1 2 u2
 have s3 := blk_set s2 3 u3
 have s4 := blk_set s3 4 u4
 have s5 := blk_set s4 5 u5
 have s6 := blk_set s5 6 u6
 have s7 := blk_set s6 7 u7
 simpa using s7
theorem set8_below {n : Nat} {w0 W : World} {b : Nat} (h : Below n w0 W) (hb : n ≤ b) (u0 u1 u2 u3 u4 u5 u6 u7 : Value) : Below n w0 ((((((((W.setCell ⟨b, 0, none⟩ u0).setCell ⟨b, 1, none⟩ u1).setCell ⟨b, 2, none⟩ u2).setCell ⟨b, 3, none⟩ u3).setCell ⟨b, 4, none⟩ u4).setCell ⟨b, 5, none⟩ u5).setCell ⟨b, 6, none⟩ u6).setCell ⟨b, 7, none⟩ u7) :=
 (((((((h.setCell hb _).setCell hb _).setCell hb _).setCell hb _).setCell hb _).setCell hb _).setCell hb _).setCell hb _
theorem set5_far {W : World} {b g t : Nat} {cs : Array Value} (h : W.heap[b]? = some (.cells cs t (0, 0))) (hb : b ≠ g) (u0 u1 u2 u3 u4 : Value) : (((((W.setCell ⟨g, 7, none⟩ u0).setCell ⟨g, 0, none⟩ u1).setCell ⟨g, 1, none⟩ u2).setCell ⟨g, 2, none⟩ u3).setCell ⟨g, 3, none⟩ u4).heap[b]? = some (.cells cs t (0, 0)) :=
 blk_far (blk_far (blk_far (blk_far (blk_far h hb _) hb _) hb _) hb _) hb _
theorem set5_below {n : Nat} {w0 W : World} {b : Nat} (h : Below n w0 W) (hb : n ≤ b) (u0 u1 u2 u3 u4 : Value) : Below n w0 (((((W.setCell ⟨b, 7, none⟩ u0).setCell ⟨b, 0, none⟩ u1).setCell ⟨b, 1, none⟩ u2).setCell ⟨b, 2, none⟩ u3).setCell ⟨b, 3, none⟩ u4) :=
 ((((h.setCell hb _).setCell hb _).setCell hb _).setCell hb _).setCell hb _
set_option maxHeartbeats 1000000 in
set_option maxRecDepth 100000 in
theorem shut_calls (X : Lx) (S : SV) (fits : List Int) (p : Pth) (w : World) (hS : SrW X S fits w) (hi : p.i ≤ X.r.length) (hn : X.r.length ≤ 1000) (hm : p.m ≤ 1000) (hfs : p.i < X.r.length → (rd_T49 X.r (p.i : Int)).f1 = true → p.fs.length < 3) :
  Calls Try.prog 90 #[.pointer (some ⟨S.b, 0, none⟩), .agg (pC p)] w fun e w' => e = .returned (.tuple #[.agg (pC (shutP (rwOf X) p)), .bool (shutB (rwOf X) p)]) ∧ Below w.heap.size w w' := by
 have HS := Aside0.mk hS
 have HP := Aside0.mk (show PAt (w.alloc (.cells (pC p) 154)) w.heap.size p from blk_new w _)
 have hc5 := hS.cell 5 hS.e5
 have hbl := blk_lt hS.blk
 by_cases hlt : p.i < X.r.length
 ·obtain ⟨ad, eA, -⟩ := at_T49 hS.hr (p.i : Int) (by omega) (by omega)
  have h1 : ((p.i : Int) == (X.r.length : Int)) = false := by simp; omega
  have hil : (p.i : Int) < (X.r.length : Int) := by omega
  have hl0 : p.i < X.r.length := hlt
  have HX := Aside0.mk (fun (W : World) (h : SrW X S fits W) => show W.cell? ⟨S.b, 5, none⟩ = some (.slice (some ad) X.r.length S.cr) ∧ W.cell? (ad.add (p.i * 4)) = some (.string (rd_T49 X.r (p.i : Int)).f0) ∧ W.cell? ⟨(ad.add (p.i * 4)).block, (ad.add (p.i * 4)).off + 1, none⟩ = some (.bool (rd_T49 X.r (p.i : Int)).f1) ∧ W.cell? ⟨(ad.add (p.i * 4)).block, (ad.add (p.i * 4)).off + 2, none⟩ = some (.int .i64 (rd_T49 X.r (p.i : Int)).f2.f0) ∧ W.cell? ⟨(ad.add (p.i * 4)).block, (ad.add (p.i * 4)).off + 3, none⟩ = some (.int .i64 (rd_T49 X.r (p.i : Int)).f2.f1) by
   obtain ⟨ad', eA', y0, y1, y2, y3⟩ := at_T49 h.hr (p.i : Int) (by omega) (by omega)
   rw [eA] at eA'
   injection eA' with eA'
   subst eA'
   simp only [Int.toNat_natCast] at y0 y1 y2 y3
   exact ⟨by rw [h.cell 5 h.e5, eA], y0, y1, y2, y3⟩)
  obtain ⟨c, hc⟩ : ∃ c, c = rd_T49 X.r (p.i : Int) := ⟨_, rfl⟩
  rw [← hc] at HX hfs
  have HC := Aside0.mk hc
  have HFS := Aside0.mk hfs
  have HLT := Aside0.mk hlt
  clear hS hc hfs hlt hi eA hc5
  unfold pC
  go_enter Try.func90, Try.ntmps90
  go_upto_region 1 with fail
  refine wp_gen (fun wx => Aside0 (PB w wx p)) ⟨PB.start w p⟩ ?_
  clear HP hbl
  rintro wx HB
  obtain ⟨e0, -⟩ := HB.out.pat.cells
  have hS2 := HS.out.below HB.out.below
  obtain ⟨hc5, y0, y1, y2, y3⟩ := HX.out wx hS2
  have hbl := blk_lt hS2.blk
  clear hS2
  rcases hg : c.f1 with _ | _
  ·rw [hg] at y1
   go_upto_region 2 with first | go_quiet (fail) | fail
   refine wp_gen (fun wx => Aside0 (PB w wx p)) ⟨HB.out.drewN _⟩ ?_
   clear HB e0 hc5 y0 y1 y2 y3 hbl
   rintro wx HB
   obtain ⟨e0, e1, e2, e3, e4, e5, e6, e7⟩ := HB.out.pat.cells
   obtain ⟨q, hq⟩ := HB.out.res
   obtain ⟨⟨q0, q1, q2, q3, q4, q5, q6, q7⟩, f0, f1, f2, f3, f4, f5, f6, f7⟩ := res_cells hq
   have hql := blk_lt hq
   have HQ := Aside0.mk hq
   clear hq
   go_wp2_with fail
   have hsf : shutB (rwOf X) p = false := by
    unfold shutB
    rw [show (rwOf X).gap p.i = false by show (rd_T49 X.r (p.i : Int)).f1 = false; rw [← HC.out]; exact hg]
    simp
   have hsp : shutP (rwOf X) p = p := if_neg (by rw [hsf]; decide)
   refine bodyPost_ret (results_ct rfl _ _ (w.heap.size + 1) 154 _ (0, 0) _ rfl (set8_blk HQ.out _ _ _ _ _ _ _ _) Try.underlying154 rfl (by kernel_rfl)) rfl ⟨?_, set8_below HB.out.below (by omega) _ _ _ _ _ _ _ _⟩
   rw [hsf, hsp]
   rfl
  ·rw [hg] at y1
   go_upto_region 3 with first | go_quiet (fail) | fail
   refine wp_gen (fun wx => Aside0 (PB w wx p)) ⟨HB.out.drewN _⟩ ?_
   clear HB e0 hc5 y0 y1 y2 y3 hbl
   rintro wx HB
   obtain ⟨e0, -⟩ := HB.out.pat.cells
   have hS2 := HS.out.below HB.out.below
   obtain ⟨hc5, y0, y1, y2, y3⟩ := HX.out wx hS2
   have hbl := blk_lt hS2.blk
   clear hS2
   have hpl := blk_lt HB.out.pat
   have hadl := World.block_lt_of_cell? wx _ y0
   go_region
   obtain ⟨bw, hbw⟩ : ∃ b, b = wx.heap.size := ⟨_, rfl⟩
   have hbw2 : w.heap.size + 2 ≤ bw := by
    obtain ⟨q, hq⟩ := HB.out.res
    have := blk_lt hq
    omega
   refine wp_gen' (fun wy => Aside0 (PB w wy p) ∧ Aside0 (wy.heap[bw]? = some (.cells #[.int .i64 c.f2.f0, .int .i64 c.f2.f1] 47 (0, 0)))) ⟨⟨(HB.out.alloc _).drew⟩, ⟨by rw [hbw]; exact blk_new wx _⟩⟩ ?_
   rw [← hbw]
   clear hbw HB e0 hc5 y0 y1 y2 y3 hbl hpl hadl
   rintro wy ⟨HB, HW⟩
   clear wx
   obtain ⟨e0, e1, e2, e3, e4, e5, e6, e7⟩ := HB.out.pat.cells
   have w0 := (blk_cell HW.out 0).trans (show (#[Value.int .i64 c.f2.f0, Value.int .i64 c.f2.f1] : Array Value)[0]? = some (Value.int .i64 c.f2.f0) from rfl)
   have w1 := (blk_cell HW.out 1).trans (show (#[Value.int .i64 c.f2.f0, Value.int .i64 c.f2.f1] : Array Value)[1]? = some (Value.int .i64 c.f2.f1) from rfl)
   have hpl := blk_lt HB.out.pat
   have hok : okW (rwOf X) p.i p.l p.h = decide (p.l ≤ c.f2.f1 ∧ c.f2.f0 ≤ p.h) := by rw [HC.out]; rfl
   have hgp : (rwOf X).gap p.i = true := by show (rd_T49 X.r (p.i : Int)).f1 = true; rw [← HC.out]; exact hg
   have hin : decide (p.i < (rwOf X).n) = true := decide_eq_true HLT.out
   have HSB := Aside0.mk (show shutB (rwOf X) p = decide (p.l ≤ c.f2.f1 ∧ c.f2.f0 ≤ p.h) by unfold shutB; rw [hin, hgp, hok]; rfl)
   clear hok hgp hin
   by_cases hk : p.l ≤ c.f2.f1 ∧ c.f2.f0 ≤ p.h
   ·have HK := Aside0.mk (show shutB (rwOf X) p = true by rw [HSB.out]; exact decide_eq_true hk)
    have hk1 : decide (c.f2.f1 < p.l) = false := decide_eq_false (by omega)
    have hk2 : decide (p.h < c.f2.f0) = false := decide_eq_false (by omega)
    have hfl : p.fs.length < 3 := HFS.out HLT.out hg
    have hfl3 : (p.fs.length : Int) < 3 := by omega
    have hcf : wy.cell? ⟨w.heap.size, 4 + p.fs.length, none⟩ = some (.int .i64 (fG p.fs p.fs.length)) := by
     rw [blk_cell HB.out.pat]
     match p.fs.length, hfl with
     | 0, _ => rfl
     | 1, _ => rfl
     | 2, _ => rfl
    have hff := blk_frozen HB.out.pat (4 + p.fs.length)
    clear hk
    go_upto_region 7 with fail
    refine wp_gen (fun wz => Aside0 (Below w.heap.size w wz) ∧ Aside0 (wz.heap[w.heap.size]? = some (.cells (pD p) 154 (0, 0))) ∧ Aside0 (∃ q : Nat → Int, wz.heap[w.heap.size + 1]? = some (.cells #[.int .i64 (q 0), .int .i64 (q 1), .int .i64 (q 2), .int .i64 (q 3), .int .i64 (q 4), .int .i64 (q 5), .int .i64 (q 6), .int .i64 (q 7)] 154 (0, 0)))) ⟨⟨HB.out.below.setCell (Nat.le_refl _) _⟩, ⟨HB.out.pat.fill hfl⟩, ⟨by
     obtain ⟨q, hq⟩ := HB.out.res
     exact ⟨q, blk_far hq (by simp) _⟩⟩⟩ ?_
    clear HB HW e0 e1 e2 e3 e4 e5 e6 e7 w0 w1 hpl hcf hff
    rintro wz ⟨HB, HP, HR⟩
    obtain ⟨q, hq⟩ := HR.out
    obtain ⟨⟨q0, q1, q2, q3, q4, q5, q6, q7⟩, f0, f1, f2, f3, f4, f5, f6, f7⟩ := res_cells hq
    have hql := blk_lt hq
    have HQ := Aside0.mk hq
    clear hq
    obtain ⟨⟨e0, e1, e2, e3, e4, e5, e6, e7⟩, g0, g1, g2, g3, g4, g5, g6, g7⟩ := cells8 (show wz.heap[w.heap.size]? = some (.cells #[_, _, _, _, _, _, _, _] 154 (0, 0)) from HP.out)
    have hpl := blk_lt HP.out
    go_wp2_with fail
    have hsp : shutP (rwOf X) p = ⟨p.i + 1, 0, 0, 0, p.fs ++ [(p.m : Int)]⟩ := if_pos HK.out
    refine bodyPost_ret (results_ct rfl _ _ (w.heap.size + 1) 154 _ (0, 0) _ rfl (set8_blk (set5_far HQ.out (by simp) _ _ _ _ _) _ _ _ _ _ _ _ _) Try.underlying154 rfl (by kernel_rfl)) rfl ⟨?_, set8_below (set5_below HB.out (Nat.le_refl _) _ _ _ _ _) (by omega) _ _ _ _ _ _ _ _⟩
    rw [HK.out, hsp]
    simp only [List.length_append, List.length_cons, List.length_nil]
    rfl
   ·have HK := Aside0.mk (show shutB (rwOf X) p = false by rw [HSB.out]; exact decide_eq_false hk)
    have hkd : decide (c.f2.f1 < p.l) = true ∨ (decide (c.f2.f1 < p.l) = false ∧ decide (p.h < c.f2.f0) = true) := by
     by_cases h : c.f2.f1 < p.l
     ·exact .inl (decide_eq_true h)
     ·exact .inr ⟨decide_eq_false h, decide_eq_true (by omega)⟩
    clear hk
    obtain ⟨q, hq⟩ := HB.out.res
    obtain ⟨⟨q0, q1, q2, q3, q4, q5, q6, q7⟩, f0, f1, f2, f3, f4, f5, f6, f7⟩ := res_cells hq
    have hql := blk_lt hq
    have HQ := Aside0.mk hq
    clear hq
    have hsp : shutP (rwOf X) p = p := if_neg (by rw [HK.out]; decide)
    have HSP := Aside0.mk hsp
    clear hsp
    rcases hkd with hk1 | ⟨hk1, hk2⟩
    all_goals
     go_wp2_with fail
     refine bodyPost_ret (results_ct rfl _ _ (w.heap.size + 1) 154 _ (0, 0) _ rfl (set8_blk HQ.out _ _ _ _ _ _ _ _) Try.underlying154 rfl (by kernel_rfl)) rfl ⟨?_, set8_below HB.out.below (by omega) _ _ _ _ _ _ _ _⟩
     rw [HK.out, HSP.out]
     rfl
 ·have hpi : p.i = X.r.length := by omega
  have h1 : ((p.i : Int) == (X.r.length : Int)) = true := by rw [hpi]; simp
  have HPI := Aside0.mk hpi
  clear hS hpi hlt hi
  unfold pC
  go_enter Try.func90, Try.ntmps90
  go_upto_region 1 with fail
  refine wp_gen (fun wx => Aside0 (PB w wx p)) ⟨PB.start w p⟩ ?_
  clear HP hc5 hbl
  rintro wx HB
  obtain ⟨e0, -⟩ := HB.out.pat.cells
  have hS2 := HS.out.below HB.out.below
  have hc5 := hS2.cell 5 hS2.e5
  have hbl := blk_lt hS2.blk
  clear hS2
  go_upto_region 2 with first | go_quiet (fail) | fail
  refine wp_gen (fun wx => Aside0 (PB w wx p)) ⟨HB.out.drewN _⟩ ?_
  clear HB e0 hc5 hbl
  rintro wx HB
  obtain ⟨e0, e1, e2, e3, e4, e5, e6, e7⟩ := HB.out.pat.cells
  obtain ⟨q, hq⟩ := HB.out.res
  obtain ⟨⟨q0, q1, q2, q3, q4, q5, q6, q7⟩, f0, f1, f2, f3, f4, f5, f6, f7⟩ := res_cells hq
  have hql := blk_lt hq
  have HQ := Aside0.mk hq
  clear hq
  go_wp2_with fail
  have hsf : shutB (rwOf X) p = false := by
   unfold shutB
   rw [show decide (p.i < (rwOf X).n) = false from decide_eq_false (by show ¬ p.i < X.r.length; have := HPI.out; omega)]
   rfl
  have hsp : shutP (rwOf X) p = p := if_neg (by rw [hsf]; decide)
  refine bodyPost_ret (results_ct rfl _ _ (w.heap.size + 1) 154 _ (0, 0) _ rfl (set8_blk HQ.out _ _ _ _ _ _ _ _) Try.underlying154 rfl (by kernel_rfl)) rfl ⟨?_, set8_below HB.out.below (by omega) _ _ _ _ _ _ _ _⟩
  rw [hsf, hsp]
  rfl
end Go.Proofs.Ytkfebceainedfaa.P.OwnGap
namespace Go.Proofs.Ytkfebceainedfaa.P.OwnGap
open Go.RowKit Go.Proofs.YtkfebceainedfaaW.PrintWords Go.Proofs.YtkfebceainedfaaW.PrintLast Go.Proofs.YtkfebceainedfaaW.PrintMore
open Go.Proofs.Ytkfebceainedfaa.OwnGap
set_option linter.unusedVariables false
set_option linter.unusedSimpArgs false
abbrev kI : Kd Int := Kd.int .i64
def kP : Kd Pth := Kd.iso (Kd.pair kI (Kd.pair kI (Kd.pair kI (Kd.pair kI (Kd.pair kI (Kd.pair kI (Kd.pair kI kI))))))) (fun p : Pth => ((p.i : Int), (p.m : Int), p.l, p.h, fG p.fs 0, fG p.fs 1, fG p.fs 2, (p.fs.length : Int)))
def pL (p : Pth) : List Value := [.int .i64 (p.i : Int), .int .i64 (p.m : Int), .int .i64 p.l, .int .i64 p.h, .int .i64 (fG p.fs 0), .int .i64 (fG p.fs 1), .int .i64 (fG p.fs 2), .int .i64 (p.fs.length : Int)]
theorem kP_mkM (w : World) (base : Nat) (ok : Nat → Prop) (p : Pth) : kP.M w base ok p (pL p) :=
 ⟨[_], _, rfl, rfl, [_], _, rfl, rfl, [_], _, rfl, rfl, [_], _, rfl, rfl, [_], _, rfl, rfl, [_], _, rfl, rfl, [_], [_], rfl, rfl, rfl⟩
theorem kP_openM {w : World} {base : Nat} {ok : Nat → Prop} {p : Pth} {cs : List Value} (h : kP.M w base ok p cs) : cs = pL p := by
 obtain ⟨_, _, rfl, rfl, _, _, rfl, rfl, _, _, rfl, rfl, _, _, rfl, rfl, _, _, rfl, rfl, _, _, rfl, rfl, _, _, rfl, rfl, rfl⟩ := h
 rfl
theorem kP_open {w : World} {p : Pth} {cs : List Value} (h : kP.K w p cs) : cs = pL p := by
 obtain ⟨_, _, rfl, rfl, _, _, rfl, rfl, _, _, rfl, rfl, _, _, rfl, rfl, _, _, rfl, rfl, _, _, rfl, rfl, _, _, rfl, rfl, rfl⟩ := h
 rfl
structure OkP (X : Lx) (p : Pth) : Prop where
 i : p.i ≤ X.r.length
 m : p.m ≤ 10
 l0 : 0 ≤ p.l
 l1 : p.l ≤ p.m * 1000
 h0 : 0 ≤ p.h
 h1 : p.h ≤ p.m * 1000
 g : p.fs.length + ((List.range' p.i (X.r.length - p.i)).filter (rwOf X).gap).length ≤ 3
structure OkX (X : Lx) (fits : List Int) : Prop where
 n : X.r.length ≤ 1000
 w : ∀ a : Int, 65 ≤ a → a ≤ 90 → 0 ≤ (rd_T47 X.l4 (a - 65)).f0 ∧ (rd_T47 X.l4 (a - 65)).f0 ≤ 1000 ∧ 0 ≤ (rd_T47 X.l4 (a - 65)).f1 ∧ (rd_T47 X.l4 (a - 65)).f1 ≤ 1000
 f : ∀ i : Nat, i < X.r.length → ∀ a : Int, 65 ≤ a → a ≤ 90 → gap_letters_has.f (rd fits (i : Int)) a = some (fitB (rd_T49 X.r (i : Int)).f0 a)
structure PL (w wx : World) (p : Pth) : Prop where
 below : Below w.heap.size w wx
 pat : PAt wx w.heap.size p
theorem PL.start (w : World) (p : Pth) : PL w (w.alloc (.cells (pC p) 154)) p := ⟨(Below.refl _ _).alloc (Nat.le_refl _) _, blk_new w _⟩
theorem PL.drewN {w wx : World} {p : Pth} (h : PL w wx p) (n : Nat) : PL w (wx.drewN n) p := ⟨pw_below_drewN h.below n, h.pat⟩
theorem PL.alloc {w wx : World} {p : Pth} (h : PL w wx p) (o : Obj) : PL w (wx.alloc o) p := ⟨h.below.alloc (by have := h.below.size; omega) _, blk_alloc h.pat _⟩
theorem PL.drew {w wx : World} {p : Pth} (h : PL w wx p) : PL w wx.drew p := ⟨h.below.drew, h.pat⟩
theorem PL.next {w wx wy : World} {p : Pth} (h : PL w wx p) (hb : Below wx.heap.size wx wy) : PL w wy p := ⟨h.below.trans (hb.mono h.below.size), blk_below h.pat hb⟩
theorem set4 {W : World} {b : Nat} {p : Pth} (h : PAt W b p) (u0 u1 u2 u3 : Value) : ((((W.setCell ⟨b, 0, none⟩ u0).setCell ⟨b, 1, none⟩ u1).setCell ⟨b, 2, none⟩ u2).setCell ⟨b, 3, none⟩ u3).heap[b]? = some (.cells #[u0, u1, u2, u3, .int .i64 (fG p.fs 0), .int .i64 (fG p.fs 1), .int .i64 (fG p.fs 2), .int .i64 (p.fs.length : Int)] 154 (0, 0)) := by
 have s0 := blk_set h 0 u0
 have s1 := blk_set s0 1 u1
 have s2 := blk_set s1 2 u2
 have s3 := blk_set s2 3 u3
 rw [s3]
 rfl
theorem set4_below {n : Nat} {w0 W : World} {b : Nat} (h : Below n w0 W) (hb : n ≤ b) (u0 u1 u2 u3 : Value) : Below n w0 ((((W.setCell ⟨b, 0, none⟩ u0).setCell ⟨b, 1, none⟩ u1).setCell ⟨b, 2, none⟩ u2).setCell ⟨b, 3, none⟩ u3) :=
 (((h.setCell hb _).setCell hb _).setCell hb _).setCell hb _
def PR (w wx : World) (v : Value) (l : List Pth) : Prop := kP.R 154 wx w.heap.size (fun _ => True) v l
theorem set3 {W : World} {b : Nat} {p : Pth} (h : PAt W b p) (u1 u2 u3 : Value) : (((W.setCell ⟨b, 1, none⟩ u1).setCell ⟨b, 2, none⟩ u2).setCell ⟨b, 3, none⟩ u3).heap[b]? = some (.cells #[.int .i64 (p.i : Int), u1, u2, u3, .int .i64 (fG p.fs 0), .int .i64 (fG p.fs 1), .int .i64 (fG p.fs 2), .int .i64 (p.fs.length : Int)] 154 (0, 0)) := by
 have s1 := blk_set h 1 u1
 have s2 := blk_set s1 2 u2
 have s3 := blk_set s2 3 u3
 rw [s3]
 rfl
theorem set3_below {n : Nat} {w0 W : World} {b : Nat} (h : Below n w0 W) (hb : n ≤ b) (u1 u2 u3 : Value) : Below n w0 (((W.setCell ⟨b, 1, none⟩ u1).setCell ⟨b, 2, none⟩ u2).setCell ⟨b, 3, none⟩ u3) :=
 ((h.setCell hb _).setCell hb _).setCell hb _
theorem R_low {W : World} {n : Nat} {v : Value} {l : List Pth} (h : kP.R 154 W (n + 1) (fun _ => True) v l) (u1 u2 u3 : Value) : kP.R 154 (((W.setCell ⟨n, 1, none⟩ u1).setCell ⟨n, 2, none⟩ u2).setCell ⟨n, 3, none⟩ u3) (n + 1) (fun _ => True) v l := by
 have hk : ∀ k, (True ∧ n + 1 ≤ k ∧ k < W.heap.size ∧ ∃ q, q ∈ 154 :: kP.E ∧ ∃ cells, W.heap[k]? = some (.cells cells q (0, 0))) → k ≠ n := fun k h => by have := h.2.1; omega
 exact Kd.R_mono (Kd.R_far (Kd.R_far (Kd.R_far (Kd.R_bound h) hk u1) hk u2) hk u3) (fun _ _ => trivial)
theorem letterF_length (R : Rw) (a : Int) : ∀ (rem i m : Nat) (l h : Int) (fs : List Int), (letterF R rem i m l h fs a).length ≤ rem
 | 0, _, _, _, _, _ => by rw [letterF]; exact Nat.le_refl _
 | rem + 1, i, m, l, h, fs => by
  have ih := letterF_length R a rem (i + 1) 0 0 0 (fs ++ [(m : Int)])
  rw [letterF_succ]
  split
  ·split
   ·simp
   ·simp
  ·rw [List.length_append]
   have h1 : (if okW R i l h = true then letterF R rem (i + 1) 0 0 0 (fs ++ [(m : Int)]) a else []).length ≤ rem := by
    split
    ·exact ih
    ·exact Nat.zero_le _
   have h2 : (if m + 1 ≤ 10 ∧ l + R.wl a ≤ R.hi i then [(⟨i, m + 1, l + R.wl a, h + R.wh a, fs⟩ : Pth)] else []).length ≤ 1 := by
    split <;> simp
   omega
end Go.Proofs.Ytkfebceainedfaa.P.OwnGap
namespace Go.Proofs.Ytkfebceainedfaa.P.OwnGap
open Go.RowKit Go.Proofs.YtkfebceainedfaaW.PrintWords Go.Proofs.YtkfebceainedfaaW.PrintLast Go.Proofs.YtkfebceainedfaaW.PrintMore
open Go.Proofs.Ytkfebceainedfaa.OwnGap
set_option linter.unusedVariables false
set_option linter.unusedSimpArgs false
def zP : Pth := ⟨0, 0, 0, 0, []⟩
theorem at_P {w : World} {A : Option Addr} {n : Nat} {xs : List Pth} (h : Kd.C kP w A n xs) (j : Nat) (h1 : j < n) : ∃ ad, A = some ad ∧ w.cell? (ad.add (j * 8)) = some (.int .i64 ((xs.getD j zP).i : Int)) ∧ w.cell? ⟨(ad.add (j * 8)).block, (ad.add (j * 8)).off + 1, none⟩ = some (.int .i64 ((xs.getD j zP).m : Int)) ∧ w.cell? ⟨(ad.add (j * 8)).block, (ad.add (j * 8)).off + 2, none⟩ = some (.int .i64 (xs.getD j zP).l) ∧ w.cell? ⟨(ad.add (j * 8)).block, (ad.add (j * 8)).off + 3, none⟩ = some (.int .i64 (xs.getD j zP).h) ∧ w.cell? ⟨(ad.add (j * 8)).block, (ad.add (j * 8)).off + 4, none⟩ = some (.int .i64 (fG (xs.getD j zP).fs 0)) ∧ w.cell? ⟨(ad.add (j * 8)).block, (ad.add (j * 8)).off + 5, none⟩ = some (.int .i64 (fG (xs.getD j zP).fs 1)) ∧ w.cell? ⟨(ad.add (j * 8)).block, (ad.add (j * 8)).off + 6, none⟩ = some (.int .i64 (fG (xs.getD j zP).fs 2)) ∧ w.cell? ⟨(ad.add (j * 8)).block, (ad.add (j * 8)).off + 7, none⟩ = some (.int .i64 ((xs.getD j zP).fs.length : Int)) := by
  obtain ⟨ad, c, e, _, hK, hc0⟩ := Kd.C_get h zP (j : Int) (by omega) (by omega)
  have hc : ∀ t u, c[t]? = some u → w.cell? (ad.add (j * 8 + t)) = some u := hc0
  obtain rfl := kP_open hK
  exact ⟨ad, e, hc 0 _ rfl, by rw [← add_field _ _ 1 (by omega)]; exact hc 1 _ rfl, by rw [← add_field _ _ 2 (by omega)]; exact hc 2 _ rfl, by rw [← add_field _ _ 3 (by omega)]; exact hc 3 _ rfl, by rw [← add_field _ _ 4 (by omega)]; exact hc 4 _ rfl, by rw [← add_field _ _ 5 (by omega)]; exact hc 5 _ rfl, by rw [← add_field _ _ 6 (by omega)]; exact hc 6 _ rfl, by rw [← add_field _ _ 7 (by omega)]; exact hc 7 _ rfl⟩
def wk (X : Lx) (l : List Pth) (text : ByteArray) (k : Nat) : List Pth := wordF (rwOf X) l ((bytesOf text).take k)
theorem wk_succ (X : Lx) (l : List Pth) (text : ByteArray) (k : Nat) (hk : k < text.size) : wk X l text (k + 1) = (wk X l text k).flatMap (letterP (rwOf X) · (bt text (k : Int))) := by
  have h1 : (bytesOf text)[k]? = some (bt text (k : Int)) := by
    unfold bytesOf
    rw [List.getElem?_map]
    have h2 : text.data.toList[k]? = some (text[k]'hk) := by
      rw [Array.getElem?_toList]
      exact Array.getElem?_eq_getElem hk
    rw [h2]
    show some (((text[k]'hk).toNat : Nat) : Int) = _
    have := bt_at text (k : Int) (by simpa using hk)
    simp only [Int.toNat_natCast] at this
    rw [this]
  unfold wk
  rw [List.take_add_one, h1, wordF_append]
  rfl
theorem wk_all (X : Lx) (l : List Pth) (text : ByteArray) : wk X l text text.size = wordF (rwOf X) l (bytesOf text) := by
  unfold wk
  rw [← bytesOf_length, List.take_length]
theorem R_next {W W' : World} {n : Nat} {v : Value} {l : List Pth} (h : kP.R 154 W n (fun _ => True) v l) (hb : Below W.heap.size W W') : kP.R 154 W' n (fun _ => True) v l := Kd.R_step h (fun k _ hk => hb.block k hk)
structure RelW (X : Lx) (w wr : World) (l : List Pth) (text : ByteArray) (k : Nat) (v : Value) : Prop where
  row : ∃ A c, v = .slice A (wk X l text k).length c ∧ (wk X l text k).length ≤ c ∧ Kd.C kP wr A (wk X l text k).length (wk X l text k)
  own : 0 < k → PR w wr v (wk X l text k)
  below : Below w.heap.size w wr
structure RelV (X : Lx) (wi wr : World) (lk : List Pth) (a : Int) (j : Nat) (v : Value) : Prop where
  own : PR wi wr v ((lk.take j).flatMap (letterP (rwOf X) · a))
  below : Below wi.heap.size wi wr
set_option maxHeartbeats 4000000 in
set_option maxRecDepth 100000 in
theorem word_calls (X : Lx) (S : SV) (fits : List Int) (hn : X.r.length ≤ 1000)
    (HLET : Aside0 (∀ (a : Int), 65 ≤ a → a ≤ 90 → ∀ (p : Pth) (w : World), SrW X S fits w → OkP X p → Calls Try.prog 91 #[.pointer (some ⟨S.b, 0, none⟩), .agg (pC p), .int .u8 a] w fun e w' => ∃ v, e = .returned v ∧ PR w w' v (letterP (rwOf X) p a) ∧ Below w.heap.size w w'))
    (text : ByteArray) (hpos : 0 < text.size) (h64 : text.size ≤ 1000) (HT : Aside0 (∀ k : Nat, k < text.size → 65 ≤ bt text (k : Int) ∧ bt text (k : Int) ≤ 90))
    (A : Option Addr) (c : Nat) (l : List Pth) (hlc : l.length ≤ c) (w : World) (hS : SrW X S fits w) (hrow : Kd.C kP w A l.length l)
    (HOK : Aside0 (∀ k, k ≤ text.size → (wk X l text k).length ≤ 1000000000 ∧ ∀ q ∈ wk X l text k, OkP X q)) :
    Calls Try.prog 99 #[.pointer (some ⟨S.b, 0, none⟩), .slice A l.length c, .string text] w fun e w' => ∃ v, e = .returned v ∧ PR w w' v (wordF (rwOf X) l (bytesOf text)) ∧ Below w.heap.size w w' := by
  have HS := Aside0.mk hS
  have HROW := Aside0.mk hrow
  clear hS hrow
  go_enter Try.func99, Try.ntmps99
  go_wp2
  go_loopw [1, 13] (fun v1 v13 wr => ∃ k : Nat, v13 = .int .i64 k ∧ k ≤ text.size ∧ Aside0 (RelW X w wr l text k v1)) (fun v1 v13 wr => text.size - (intOf v13).toNat)
  case atStart => exact ⟨0, rfl, by omega, ⟨⟨⟨A, c, rfl, hlc, HROW.out⟩, fun h => absurd h (Nat.lt_irrefl _), Below.refl _ _⟩⟩⟩
  case round =>
    obtain ⟨k, rfl, hk, HR⟩ := hrel
    by_cases hlt : k < text.size
    · obtain ⟨A1, c1, rfl, hc1, hr1⟩ := HR.out.row
      have HB := Aside0.mk HR.out.below
      have HK := Aside0.mk (HOK.out k hk)
      have HK1 := Aside0.mk (HOK.out (k + 1) hlt)
      obtain ⟨a, ha⟩ : ∃ a, a = bt text (k : Int) := ⟨_, rfl⟩
      have HA := Aside0.mk (show 65 ≤ a ∧ a ≤ 90 by rw [ha]; exact HT.out k hlt)
      obtain ⟨lk, hlk⟩ : ∃ lk, lk = wk X l text k := ⟨_, rfl⟩
      have HK2 := Aside0.mk (show wk X l text (k + 1) = lk.flatMap (letterP (rwOf X) · a) by rw [hlk, ha]; exact wk_succ X l text k hlt)
      rw [← hlk] at hr1 hc1 HK
      rw [← hlk]
      have HR1 := Aside0.mk hr1
      have HBT := Aside0.mk ha
      have hlk3 := HK.out.1
      clear HR hlk hr1 ha
      rename World => wo
      go_wp2
      go_loopw [8, 18] (fun v8 v18 wi => ∃ j : Nat, v18 = .int .i64 j ∧ j ≤ lk.length ∧ Aside0 (RelV X wo wi lk a j v8)) (fun v8 v18 wi => lk.length - (intOf v18).toNat)
      case atStart => exact ⟨0, rfl, by omega, ⟨⟨Kd.R_nil _ _ _ _ _, Below.refl _ _⟩⟩⟩
      case round =>
        obtain ⟨j, rfl, hj, HV⟩ := hrel
        by_cases hjl : j < lk.length
        · obtain ⟨ad, rfl, e0, e1, e2, e3, e4, e5, e6, e7⟩ := at_P (Kd.C_below HR1.out HV.out.below) j hjl
          obtain ⟨q, hq⟩ : ∃ q, q = lk.getD j zP := ⟨_, rfl⟩
          rw [← hq] at e0 e1 e2 e3 e4 e5 e6 e7
          have hqm : q ∈ lk := by
            rw [hq, List.getD_eq_getElem?_getD, List.getElem?_eq_getElem hjl]
            exact List.getElem_mem hjl
          have HQ := Aside0.mk (show OkP X q from HK.out.2 q hqm)
          have HTK := Aside0.mk (show (lk.take (j + 1)).flatMap (letterP (rwOf X) · a) = (lk.take j).flatMap (letterP (rwOf X) · a) ++ letterP (rwOf X) q a by
            rw [List.take_add_one, List.flatMap_append, hq, List.getD_eq_getElem?_getD, List.getElem?_eq_getElem hjl]
            simp)
          have HLEN := Aside0.mk (show ((lk.take j).flatMap (letterP (rwOf X) · a)).length + (letterP (rwOf X) q a).length ≤ 1000000000 by
            have h1 := HK1.out.1
            rw [HK2.out, ← List.take_append_drop (j + 1) lk, List.flatMap_append, HTK.out] at h1
            simp only [List.length_append] at h1
            omega)
          clear hq hqm
          have hpl := World.block_lt_of_cell? wr _ e0
          have hjl2 : (j : Int) < (lk.length : Int) := by omega
          go_upto_region 8 with fail
          refine wp_gen (fun wx => Aside0 (PR wo wx u8 ((lk.take j).flatMap (letterP (rwOf X) · a))) ∧ Aside0 (Below wo.heap.size wo wx) ∧ Aside0 (wx.heap[wr.heap.size]? = some (.cells (pC q) 154 (0, 0)))) ⟨⟨Kd.R_alloc HV.out.own _⟩, ⟨HV.out.below.alloc HV.out.below.size _⟩, ⟨blk_new wr _⟩⟩ ?_
          obtain ⟨b10, hb10⟩ : ∃ b, b = wr.heap.size := ⟨_, rfl⟩
          rw [← hb10]
          clear e0 e1 e2 e3 e4 e5 e6 e7 hpl HV
          rintro wx ⟨HO, HBX, H10⟩
          obtain ⟨⟨e0, e1, e2, e3, e4, e5, e6, e7⟩, -⟩ := cells8 (show wx.heap[b10]? = some (.cells #[_, _, _, _, _, _, _, _] 154 (0, 0)) from H10.out)
          have hpl := blk_lt H10.out
          have hbtr : ((text[k]'hlt).toNat : Int) = a := by
            have := bt_at text (k : Int) (by simpa using hlt)
            simp only [Int.toNat_natCast] at this
            rw [this, HBT.out]
          have HLC := Aside0.mk (fun (W : World) (h : SrW X S fits W) => HLET.out a HA.out.1 HA.out.2 q W h HQ.out)
          clear hb10
          go_region_law (first
            | (rw [if_pos (by rfl)]; go_simp; go_at_call 91; refine (HLC.out _ (HS.out.below ((HB.out.trans (HBX.out.mono HB.out.size)).drew))).mono ?_; rintro e w3 ⟨v, rfl, hv, hB3⟩; obtain ⟨Av, cv, rfl, -, hrv⟩ := Kd.R_reads hv; have HRV := Aside0.mk hrv; have HOV := Aside0.mk (R_next (Kd.R_drew HO.out) hB3); have HBV := Aside0.mk (HBX.out.drew.trans (hB3.mono HBX.out.drew.size)); clear hv hB3 hrv)
            | (refine Kd.R_append_rows_step kP (w0 := wo) (Rr := fun x cs => cs = pL x) wo.heap.size rfl (.tmp 22) (.tmp 28) 157 154 (.agg #[(.int .i64 0), (.int .i64 0), (.int .i64 0), (.int .i64 0), (.int .i64 0), (.int .i64 0), (.int .i64 0), (.int .i64 0)]) 64 rfl Try.underlying157 (by kernel_rfl) rfl (by decide) (by omega) u8 ((lk.take j).flatMap (letterP (rwOf X) · a)) (letterP (rwOf X) q a) Av (letterP (rwOf X) q a).length cv (fun _ => True) (fun _ => False) rfl rfl ?_ ?_ (fun x cs h => h ▸ kP_mkM _ _ _ _) (fun _ h => h.elim) (fun _ _ => trivial) ?_ ?_ ?_ ?_
               · exact HOV.out
               · exact HRV.out.imp_ (Below.refl _ _) (fun _ _ hp => kP_open hp)
               · exact HBV.out
               · exact HBV.out.size
               · have := HLEN.out; omega
               intro vv wv hov hbv hgv hav
               have HO4 := Aside0.mk hov
               have HB4 := Aside0.mk hbv
               clear hov hbv hgv hav))
          all_goals
            go_wp2_with fail
            refine ⟨⟨j + 1, by go_num, hjl, ⟨⟨by rw [HTK.out]; exact HO4.out, HB4.out⟩⟩⟩, ?_⟩
            simp [intOf]
            omega
        · have hje : j = lk.length := by omega
          have hjl2 : ¬ (j : Int) < (lk.length : Int) := by omega
          go_wp2_with fail
          have hall : (lk.take j).flatMap (letterP (rwOf X) · a) = wk X l text (k + 1) := by rw [hje, List.take_length, HK2.out]
          have hown := HV.out.own
          rw [hall] at hown
          obtain ⟨A2, c2, e2, hl2, hr2⟩ := Kd.R_reads hown
          refine ⟨⟨k + 1, by go_num, hlt, ⟨⟨⟨A2, c2, e2, hl2, hr2⟩, fun _ => Kd.R_lower hown HB.out.size, HB.out.trans (HV.out.below.mono HB.out.size)⟩⟩⟩, ?_⟩
          simp [intOf]
          omega
    · have hke : k = text.size := by omega
      have HRR := Aside0.mk (HR.out.own (by omega))
      have HB := Aside0.mk HR.out.below
      rw [hke, wk_all] at HRR
      clear HR
      go_wp2_with fail
      go_ret
      exact ⟨_, rfl, HRR.out, HB.out⟩
end Go.Proofs.Ytkfebceainedfaa.P.OwnGap
namespace Go.Proofs.Ytkfebceainedfaa.P.OwnGap
open Go.RowKit Go.Shelf Go.Proofs.YtkfebceainedfaaW.PrintWords Go.Proofs.YtkfebceainedfaaW.PrintLast Go.Proofs.YtkfebceainedfaaW.PrintMore
open Go.Proofs.Ytkfebceainedfaa.OwnGap
set_option linter.unusedVariables false
set_option linter.unusedSimpArgs false
def idxV (V : Pth → Bool) : List Pth → Int
 | [] => -1
 | p :: l => if V p = true then 0 else if idxV V l = -1 then -1 else idxV V l + 1
theorem idxV_none {V : Pth → Bool} : ∀ {l : List Pth}, (∀ p ∈ l, V p = false) → idxV V l = -1
 | [], _ => rfl
 | p :: l, h => by
  rw [idxV, if_neg (by rw [h p (by simp)]; decide), if_pos (idxV_none (fun q hq => h q (by simp [hq])))]
theorem idxV_first {V : Pth → Bool} : ∀ {l : List Pth} (k : Nat), k < l.length → V (l.getD k zP) = true → (∀ j, j < k → V (l.getD j zP) = false) → idxV V l = (k : Int)
 | [], k, hk, _, _ => absurd hk (Nat.not_lt_zero _)
 | p :: l, 0, _, h, _ => by rw [idxV, if_pos (by simpa using h)]; rfl
 | p :: l, k + 1, hk, h, h0 => by
  have h1 : V p = false := by simpa using h0 0 (by omega)
  have ih := idxV_first (l := l) k (by simpa using hk) (by simpa using h) (fun j hj => by simpa using h0 (j + 1) (by omega))
  rw [idxV, if_neg (by rw [h1]; decide), ih, if_neg (by omega)]
  omega
theorem idxV_cases (V : Pth → Bool) : ∀ l : List Pth, (idxV V l = -1 ∧ ∀ p ∈ l, V p = false) ∨ (∃ k : Nat, idxV V l = (k : Int) ∧ k < l.length ∧ V (l.getD k zP) = true ∧ ∀ j, j < k → V (l.getD j zP) = false)
 | [] => .inl ⟨rfl, by simp⟩
 | p :: l => by
  by_cases hp : V p = true
  ·exact .inr ⟨0, by rw [idxV, if_pos hp]; rfl, by simp, by simpa using hp, fun j hj => absurd hj (Nat.not_lt_zero _)⟩
  ·have hp' : V p = false := by simpa using hp
   rcases idxV_cases V l with ⟨e, h⟩ | ⟨k, e, hk, h, h0⟩
   ·refine .inl ⟨by rw [idxV, if_neg hp, if_pos e], fun q hq => ?_⟩
    rcases List.mem_cons.1 hq with rfl | hq
    ·exact hp'
    ·exact h q hq
   ·refine .inr ⟨k + 1, by rw [idxV, if_neg hp, if_neg (by omega), e]; omega, by simpa using hk, by simpa using h, fun j hj => ?_⟩
    cases j with
    | zero => simpa using hp'
    | succ j => simpa using h0 j (by omega)
theorem idxV_any (V : Pth → Bool) (l : List Pth) : decide (0 ≤ idxV V l) = l.any V := by
 rcases idxV_cases V l with ⟨e, h⟩ | ⟨k, e, hk, h, _⟩
 ·rw [e, show l.any V = false by rw [List.any_eq_false]; intro q hq; rw [h q hq]; decide]
  rfl
 ·rw [e, show l.any V = true by
   rw [List.any_eq_true]
   refine ⟨l.getD k zP, ?_, h⟩
   rw [List.getD_eq_getElem?_getD, List.getElem?_eq_getElem hk]
   exact List.getElem_mem hk]
  exact decide_eq_true (by omega)
def PredP (g : Nat) (lb : Array Value) (V : Pth → Bool) (I : World → Prop) (l : List Pth) : Prop :=
 ∀ q ∈ l, ∀ W, I W → Calls Try.prog g (#[.agg (pC q)] ++ lb) W fun e W' => e = .returned (.bool (V q)) ∧ I W'
set_option maxHeartbeats 2000000 in
set_option maxRecDepth 100000 in
theorem index_calls (g : Nat) (lb : Array Value) (eg : ∀ args w, (callFunc g args).run Try.prog w = .ok (.enter g args) w) (V : Pth → Bool) (I : World → Prop) (A : Option Addr) (c : Nat) (l : List Pth) (hl : l.length ≤ 1000000000) (w : World) (hI : I w) (hrow : ∀ W, I W → Kd.C kP W A l.length l) (hp : PredP g lb V I l) :
  Calls Try.prog 107 #[.slice A l.length c, .func (.func g) #[] lb] w fun e w' => e = .returned (.int .i64 (idxV V l)) ∧ I w' := by
 have HI := Aside0.mk hI
 have HROW := Aside0.mk hrow
 have HP := Aside0.mk hp
 clear hI hrow hp
 go_enter Try.func107, Try.ntmps107
 go_wp2
 go_loopg [5, 8] l.length (fun k _ s8 wr => ∃ kk : Nat, kk + k = l.length ∧ s8 = .int .i64 kk ∧ Aside0 (I wr) ∧ Aside0 (∀ j, j < kk → V (l.getD j zP) = false))
 case atStart => exact ⟨0, by omega, rfl, HI, ⟨fun j hj => absurd hj (Nat.not_lt_zero _)⟩⟩
 case round =>
  obtain ⟨kk, hkk, rfl, HW, HV⟩ := hrel
  have HKK := Aside0.mk hkk
  clear HI
  by_cases hlt : kk < l.length
  ·have hltz : (kk : Int) < (l.length : Int) := by omega
   obtain ⟨ad, rfl, e0, e1, e2, e3, e4, e5, e6, e7⟩ := at_P (HROW.out wr HW.out) kk hlt
   obtain ⟨q, hq⟩ : ∃ q, q = l.getD kk zP := ⟨_, rfl⟩
   rw [← hq] at e0 e1 e2 e3 e4 e5 e6 e7
   have hqm : q ∈ l := by
    rw [hq, List.getD_eq_getElem?_getD, List.getElem?_eq_getElem hlt]
    exact List.getElem_mem hlt
   have HC := Aside0.mk (HP.out q hqm wr HW.out)
   have HQ := Aside0.mk hq
   have hadl := World.block_lt_of_cell? wr _ e0
   clear hq hqm hkk
   obtain ⟨v, hv⟩ : ∃ v, v = V q := ⟨_, rfl⟩
   have HV1 := Aside0.mk hv
   rw [← hv] at HC
   clear hv
   cases v with
   | true =>
    go_wp2_with (go_at_fn g; refine HC.out.mono ?_; rintro e w' ⟨rfl, hw'⟩; have HW' := Aside0.mk hw'; clear hw')
    go_ret
    refine ⟨?_, HW'.out⟩
    rw [idxV_first kk hlt (by rw [← HQ.out]; exact HV1.out.symm) HV.out]
    rfl
   | false =>
    go_wp2_with (go_at_fn g; refine HC.out.mono ?_; rintro e w' ⟨rfl, hw'⟩; have HW' := Aside0.mk hw'; clear hw')
    go_roundg (gk - 1)
    case measure => have := HKK.out; omega
    case rel =>
     refine ⟨kk + 1, by have := HKK.out; omega, by go_num, HW', ⟨fun j hj => ?_⟩⟩
     by_cases e : j = kk
     ·subst e
      rw [← HQ.out]
      exact HV1.out.symm
     ·exact HV.out j (by omega)
  ·have hltz : ¬ (kk : Int) < (l.length : Int) := by omega
   go_wp2_with fail
   go_ret
   refine ⟨?_, HW.out⟩
   rw [idxV_none (fun p hpm => by
    obtain ⟨j, hj, rfl⟩ := List.mem_iff_getElem.1 hpm
    have := HV.out j (by omega)
    rwa [List.getD_eq_getElem?_getD, List.getElem?_eq_getElem hj] at this)]
   rfl
set_option maxHeartbeats 2000000 in
theorem contains_calls (g : Nat) (lb : Array Value) (eg : ∀ args w, (callFunc g args).run Try.prog w = .ok (.enter g args) w) (V : Pth → Bool) (I : World → Prop) (A : Option Addr) (c : Nat) (l : List Pth) (hl : l.length ≤ 1000000000) (w : World) (hI : I w) (hrow : ∀ W, I W → Kd.C kP W A l.length l) (hp : PredP g lb V I l) :
  Calls Try.prog 108 #[.slice A l.length c, .func (.func g) #[] lb] w fun e w' => e = .returned (.bool (l.any V)) ∧ I w' := by
 have HC := Aside0.mk (index_calls g lb eg V I A c l hl w hI hrow hp)
 clear hI hrow hp
 obtain ⟨x, hx⟩ : ∃ x, x = idxV V l := ⟨_, rfl⟩
 obtain ⟨b, hb⟩ : ∃ b, b = l.any V := ⟨_, rfl⟩
 have HB := Aside0.mk (show decide (0 ≤ x) = b by rw [hx, hb]; exact idxV_any V l)
 rw [← hb]
 rw [← hx] at HC
 clear hb hx
 go_enter Try.func108, Try.ntmps108
 go_wp2_with (go_at_call 107; refine HC.out.mono ?_; rintro e w' ⟨rfl, hw'⟩; have HW' := Aside0.mk hw'; clear hw')
 go_ret
 refine ⟨?_, HW'.out⟩
 rw [← HB.out]
 rfl
end Go.Proofs.Ytkfebceainedfaa.P.OwnGap
namespace Go.Proofs.Ytkfebceainedfaa.P.OwnGap
open Go.RowKit Go.Maps Go.Proofs.YtkfebceainedfaaW.PrintWords Go.Proofs.YtkfebceainedfaaW.PrintLast Go.Proofs.YtkfebceainedfaaW.PrintMore
set_option linter.unusedVariables false
set_option linter.unusedSimpArgs false
theorem laidOut : laidOutB Try.prog = true := by kernel_rfl
theorem law139 : Keyed Try.prog 139 := Keyed.of_law (deep_law_laid laidOut (m := 20) (by decide) (of_decide_eq_true (by kernel_rfl)) (by kernel_rfl) (by kernel_rfl))
theorem law151 : Keyed Try.prog 151 := Keyed.of_law (deep_law_laid laidOut (m := 20) (by decide) (of_decide_eq_true (by kernel_rfl)) (by kernel_rfl) (by kernel_rfl))
def stV (i m l h k f : Int) : Value := .agg #[.int .i64 i, .int .i64 m, .int .i64 l, .int .i64 h, .int .i64 k, .int .i64 f]
def ptV (i m l h k f w a : Int) : Value := .agg #[.int .i64 i, .int .i64 m, .int .i64 l, .int .i64 h, .int .i64 k, .int .i64 f, .int .i64 w, .int .i64 a]
def w64 (n : Int) : Prop := -9223372036854775808 ≤ n ∧ n ≤ 9223372036854775807
theorem w64_wf {n : Int} (h : w64 n) : (Lit.int .i64 n).wf = true := by
 unfold w64 at h
 simp [Lit.wf, show IntKind.min .i64 = -9223372036854775808 from rfl, show IntKind.max .i64 = 9223372036854775807 from rfl]
 omega
theorem keyLits_int (P : Program) (h3 : P.underlying 3 = some (.int .i64)) (d : Nat) (n : Int) (hn : w64 n) : P.keyLits (d + 1) 3 [.int .i64 n] = some [.int .i64 n] := by
 unfold Program.keyLits
 rw [h3]
 simp only [w64_wf hn, and_self, if_true]
theorem keyLits_spot (P : Program) (h3 : P.underlying 3 = some (.int .i64)) (c3 : P.cellsOf 3 = 1) (c137 : P.cellsOf 137 = 4) (g1 g2 g3 g4 : Field) (hu : P.underlying 137 = some (.struct #[g1, g2, g3, g4]))
  (k1 : g1.name = "cell" ∧ g1.type = 3 ∧ g1.offset = 0) (k2 : g2.name = "many" ∧ g2.type = 3 ∧ g2.offset = 1) (k3 : g3.name = "low" ∧ g3.type = 3 ∧ g3.offset = 2) (k4 : g4.name = "high" ∧ g4.type = 3 ∧ g4.offset = 3)
  (d : Nat) (i m l h : Int) (hi : w64 i) (hm : w64 m) (hl : w64 l) (hh : w64 h) : P.keyLits (d + 1 + 1) 137 [.int .i64 i, .int .i64 m, .int .i64 l, .int .i64 h] = some [.int .i64 i, .int .i64 m, .int .i64 l, .int .i64 h] := by
 have q := keyLits_int P h3
 unfold Program.keyLits
 rw [hu]
 obtain ⟨n1, t1, o1⟩ := k1
 obtain ⟨n2, t2, o2⟩ := k2
 obtain ⟨n3, t3, o3⟩ := k3
 obtain ⟨n4, t4, o4⟩ := k4
 simp only [c137, List.length_cons, List.length_nil, List.mapM_cons, List.mapM_nil, t1, t2, t3, t4, o1, o2, o3, o4, c3, List.drop_zero, List.drop_succ_cons, List.take_succ_cons, List.take_zero, q _ _ hi, q _ _ hm, q _ _ hl, q _ _ hh]
 rw [if_pos (by refine ⟨trivial, ?_⟩; simp [n1, n2, n3, n4])]
 rfl
theorem keyLits_state (P : Program) (h3 : P.underlying 3 = some (.int .i64)) (c3 : P.cellsOf 3 = 1) (c137 : P.cellsOf 137 = 4) (g1 g2 g3 g4 : Field) (hu : P.underlying 137 = some (.struct #[g1, g2, g3, g4]))
  (k1 : g1.name = "cell" ∧ g1.type = 3 ∧ g1.offset = 0) (k2 : g2.name = "many" ∧ g2.type = 3 ∧ g2.offset = 1) (k3 : g3.name = "low" ∧ g3.type = 3 ∧ g3.offset = 2) (k4 : g4.name = "high" ∧ g4.type = 3 ∧ g4.offset = 3)
  (c139 : P.cellsOf 139 = 6) (f1 f2 f3 : Field) (hs : P.underlying 139 = some (.struct #[f1, f2, f3])) (j1 : f1.name = "spot" ∧ f1.type = 137 ∧ f1.offset = 0) (j2 : f2.name = "words" ∧ f2.type = 3 ∧ f2.offset = 4) (j3 : f3.name = "form" ∧ f3.type = 3 ∧ f3.offset = 5)
  (d : Nat) (i m l h k f : Int) (hi : w64 i) (hm : w64 m) (hl : w64 l) (hh : w64 h) (hk : w64 k) (hf : w64 f) : P.keyLits (d + 1 + 1 + 1) 139 [.int .i64 i, .int .i64 m, .int .i64 l, .int .i64 h, .int .i64 k, .int .i64 f] = some [.int .i64 i, .int .i64 m, .int .i64 l, .int .i64 h, .int .i64 k, .int .i64 f] := by
 have q := keyLits_int P h3
 have r := keyLits_spot P h3 c3 c137 g1 g2 g3 g4 hu k1 k2 k3 k4 d i m l h hi hm hl hh
 unfold Program.keyLits
 rw [hs]
 obtain ⟨n1, t1, o1⟩ := j1
 obtain ⟨n2, t2, o2⟩ := j2
 obtain ⟨n3, t3, o3⟩ := j3
 simp only [c139, c137, List.length_cons, List.length_nil, List.mapM_cons, List.mapM_nil, t1, t2, t3, o1, o2, o3, c3, List.drop_zero, List.drop_succ_cons, List.take_succ_cons, List.take_zero, r, q _ _ hk, q _ _ hf]
 rw [if_pos (by refine ⟨trivial, ?_⟩; simp [n1, n2, n3])]
 rfl
theorem keyOf_state (i m l h k f : Int) (hi : w64 i) (hm : w64 m) (hl : w64 l) (hh : w64 h) (hk : w64 k) (hf : w64 f) : ∃ t, keyOf Try.prog 139 (stV i m l h k f) = some t := by
 have hs : Try.prog.types.size + 1 = Try.prog.types.size - 2 + 1 + 1 + 1 := by kernel_rfl
 have h3 := keyLits_state Try.prog Try.underlying3 (by kernel_rfl) (by kernel_rfl) _ _ _ _ Try.underlying137 ⟨rfl, rfl, rfl⟩ ⟨rfl, rfl, rfl⟩ ⟨rfl, rfl, rfl⟩ ⟨rfl, rfl, rfl⟩ (by kernel_rfl) _ _ _ Try.underlying139 ⟨rfl, rfl, rfl⟩ ⟨rfl, rfl, rfl⟩ ⟨rfl, rfl, rfl⟩ (Try.prog.types.size - 2) i m l h k f hi hm hl hh hk hf
 rw [← hs] at h3
 have h1 : Try.prog.keyType 139 = true := by kernel_rfl
 have h2 : (stV i m l h k f).formed Try.prog 139 = true := by kernel_rfl
 refine ⟨.string (keyBytes [.int .i64 i, .int .i64 m, .int .i64 l, .int .i64 h, .int .i64 k, .int .i64 f]), ?_⟩
 unfold keyOf
 rw [Try.underlying139]
 simp only [h1, h2, Bool.and_self, if_true]
 rw [show (stV i m l h k f).cells.toList = [.int .i64 i, .int .i64 m, .int .i64 l, .int .i64 h, .int .i64 k, .int .i64 f] from rfl, h3]
 rfl
theorem keyLits_point (P : Program) (h3 : P.underlying 3 = some (.int .i64)) (c3 : P.cellsOf 3 = 1) (c139 : P.cellsOf 139 = 6) (c151 : P.cellsOf 151 = 8) (f1 f2 f3 : Field) (hs : P.underlying 151 = some (.struct #[f1, f2, f3])) (j1 : f1.name = "state" ∧ f1.type = 139 ∧ f1.offset = 0) (j2 : f2.name = "word" ∧ f2.type = 3 ∧ f2.offset = 6) (j3 : f3.name = "at" ∧ f3.type = 3 ∧ f3.offset = 7)
  (d : Nat) (i m l h k f w a : Int) (hw : w64 w) (ha : w64 a) (r : P.keyLits (d + 1 + 1 + 1) 139 [.int .i64 i, .int .i64 m, .int .i64 l, .int .i64 h, .int .i64 k, .int .i64 f] = some [.int .i64 i, .int .i64 m, .int .i64 l, .int .i64 h, .int .i64 k, .int .i64 f]) :
  P.keyLits (d + 1 + 1 + 1 + 1) 151 [.int .i64 i, .int .i64 m, .int .i64 l, .int .i64 h, .int .i64 k, .int .i64 f, .int .i64 w, .int .i64 a] = some [.int .i64 i, .int .i64 m, .int .i64 l, .int .i64 h, .int .i64 k, .int .i64 f, .int .i64 w, .int .i64 a] := by
 have q := keyLits_int P h3
 unfold Program.keyLits
 rw [hs]
 obtain ⟨n1, t1, o1⟩ := j1
 obtain ⟨n2, t2, o2⟩ := j2
 obtain ⟨n3, t3, o3⟩ := j3
 simp only [c151, c139, List.length_cons, List.length_nil, List.mapM_cons, List.mapM_nil, t1, t2, t3, o1, o2, o3, c3, List.drop_zero, List.drop_succ_cons, List.take_succ_cons, List.take_zero, r, q _ _ hw, q _ _ ha]
 rw [if_pos (by refine ⟨trivial, ?_⟩; simp [n1, n2, n3])]
 rfl
theorem keyOf_point (i m l h k f w a : Int) (hi : w64 i) (hm : w64 m) (hl : w64 l) (hh : w64 h) (hk : w64 k) (hf : w64 f) (hw : w64 w) (ha : w64 a) : ∃ t, keyOf Try.prog 151 (ptV i m l h k f w a) = some t := by
 have hs : Try.prog.types.size + 1 = Try.prog.types.size - 3 + 1 + 1 + 1 + 1 := by kernel_rfl
 have h4 := keyLits_state Try.prog Try.underlying3 (by kernel_rfl) (by kernel_rfl) _ _ _ _ Try.underlying137 ⟨rfl, rfl, rfl⟩ ⟨rfl, rfl, rfl⟩ ⟨rfl, rfl, rfl⟩ ⟨rfl, rfl, rfl⟩ (by kernel_rfl) _ _ _ Try.underlying139 ⟨rfl, rfl, rfl⟩ ⟨rfl, rfl, rfl⟩ ⟨rfl, rfl, rfl⟩ (Try.prog.types.size - 3) i m l h k f hi hm hl hh hk hf
 have h3 := keyLits_point Try.prog Try.underlying3 (by kernel_rfl) (by kernel_rfl) (by kernel_rfl) _ _ _ Try.underlying151 ⟨rfl, rfl, rfl⟩ ⟨rfl, rfl, rfl⟩ ⟨rfl, rfl, rfl⟩ (Try.prog.types.size - 3) i m l h k f w a hw ha h4
 rw [← hs] at h3
 have h1 : Try.prog.keyType 151 = true := by kernel_rfl
 have h2 : (ptV i m l h k f w a).formed Try.prog 151 = true := by kernel_rfl
 refine ⟨.string (keyBytes [.int .i64 i, .int .i64 m, .int .i64 l, .int .i64 h, .int .i64 k, .int .i64 f, .int .i64 w, .int .i64 a]), ?_⟩
 unfold keyOf
 rw [Try.underlying151]
 simp only [h1, h2, Bool.and_self, if_true]
 rw [show (ptV i m l h k f w a).cells.toList = [.int .i64 i, .int .i64 m, .int .i64 l, .int .i64 h, .int .i64 k, .int .i64 f, .int .i64 w, .int .i64 a] from rfl, h3]
 rfl
section
variable {P : Program}
def MemoAt (P : Program) (K : TypeId) (Φ : Value → Value → Prop) (W : World) (mb : Nat) : Prop :=
 ∃ es clock, W.heap[mb]? = some (.map es clock) ∧ ∀ e ∈ es.toList, (∃ l, keyOf P K e.key = some l) ∧ Φ e.key e.val
def MemoHas (W : World) (mb : Nat) (key : Value) : Prop := ∃ es clock, W.heap[mb]? = some (.map es clock) ∧ ∃ e ∈ es.toList, e.key = key
theorem MemoAt.new (K : TypeId) (Φ : Value → Value → Prop) (W : World) : MemoAt P K Φ (W.alloc (.map #[] 0)) W.heap.size := ⟨#[], 0, blk_new W _, by simp⟩
theorem MemoAt.keep {K : TypeId} {Φ : Value → Value → Prop} {W W' : World} {mb : Nat} (h : MemoAt P K Φ W mb) (hb : W'.heap[mb]? = W.heap[mb]?) : MemoAt P K Φ W' mb := by
 obtain ⟨es, c, h1, h2⟩ := h
 exact ⟨es, c, hb.trans h1, h2⟩
theorem MemoAt.look {K T E : TypeId} {Φ : Value → Value → Prop} {W : World} {mb : Nat} (h : MemoAt P K Φ W mb) (law : Keyed P K) (hT : P.underlying T = some (.map K E)) {z : Value} (hz : (zeroValue E).run P W = .ok z W) {key : Value} {l : Lit} (hk : keyOf P K key = some l) :
  ∃ v b, (∀ c : Bool, (Instr.lookup T (.map (some mb)) key c).run P W = .ok (if c = true then .tuple #[v, .bool b] else v) W) ∧ ((b = true ∧ Φ key v ∧ MemoHas W mb key) ∨ (b = false ∧ v = z ∧ ¬ MemoHas W mb key)) := by
 obtain ⟨es, ck, hb, hes⟩ := h
 have hchk := fun em => law.check W em hk
 have hg : (getObj mb).run P W = .ok (.map es ck) W := by simp [getObj, Sem.run, hb]
 rcases law.find W hk es.toList (fun e he => (hes e he).1) with ⟨hf, hno⟩ | ⟨j, e, hf, hj, hek⟩
 ·refine ⟨z, false, fun c => ?_, .inr ⟨rfl, rfl, ?_⟩⟩
  ·simp [Instr.lookup, run_underlying hT, Sem.run_bind, hg, hchk, hf, hz, Result.andThen]
  ·rintro ⟨es', c', hb', e, he, hke⟩
   rw [hb] at hb'
   cases hb'
   exact hno e he hke
 ·have hmem : e ∈ es.toList := List.mem_of_getElem? hj
  refine ⟨e.val, true, fun c => ?_, .inl ⟨rfl, hek ▸ (hes e hmem).2, ⟨es, ck, hb, e, hmem, hek⟩⟩⟩
  simp [Instr.lookup, run_underlying hT, Sem.run_bind, hg, hchk, hf, Result.andThen]
theorem MemoAt.update {K T E : TypeId} {Φ : Value → Value → Prop} {W : World} {mb : Nat} (h : MemoAt P K Φ W mb) (law : Keyed P K) (hT : P.underlying T = some (.map K E)) {key val : Value} {l : Lit} (hk : keyOf P K key = some l) (hv : Φ key val) :
  ∃ o, (Instr.mapUpdate T (.map (some mb)) key val).run P W = .ok () (W.putObj mb o) ∧ MemoAt P K Φ (W.putObj mb o) mb ∧ MemoHas (W.putObj mb o) mb key ∧ (∀ k', MemoHas W mb k' → MemoHas (W.putObj mb o) mb k') := by
 obtain ⟨es, ck, hb, hes⟩ := h
 have hchk := law.check W false hk
 have hg : (getObj mb).run P W = .ok (.map es ck) W := by simp [getObj, Sem.run, hb]
 have hlt : mb < W.heap.size := (Array.getElem?_eq_some_iff.1 hb).1
 have hset : ∀ o, (setObj mb o).run P W = .ok () (W.putObj mb o) := fun o => by simp [setObj, Sem.run, hb, World.putObj]
 rcases law.find W hk es.toList (fun e he => (hes e he).1) with ⟨hf, hno⟩ | ⟨j, e, hf, hj, hek⟩
 ·refine ⟨.map (es.push { key, val, born := ck }) (ck + 1), ?_, ⟨_, _, World.putObj_heap_same hlt, ?_⟩, ⟨_, _, World.putObj_heap_same hlt, { key, val, born := ck }, by simp, rfl⟩, ?_⟩
  ·simp [Instr.mapUpdate, run_underlying hT, Sem.run_bind, hg, hchk, hf, hset, Result.andThen]
  ·intro e he
   simp only [Array.toList_push, List.mem_append, List.mem_singleton] at he
   rcases he with he | rfl
   ·exact hes e he
   ·exact ⟨⟨l, hk⟩, hv⟩
  ·rintro k' ⟨es', c', hb', e, he, hke⟩
   rw [hb] at hb'
   cases hb'
   exact ⟨_, _, World.putObj_heap_same hlt, e, by simp only [Array.toList_push, List.mem_append]; exact .inl he, hke⟩
 ·have hst : (Instr.keyThatStays e.key key).run P W = .ok key W := by rw [hek]; exact law.stays W hk
  have hj' : es[j]? = some e := by simpa using hj
  have hjl : j < es.size := (Array.getElem?_eq_some_iff.1 hj').1
  refine ⟨.map (es.modify j fun e => { e with key, val }) ck, ?_, ⟨_, _, World.putObj_heap_same hlt, ?_⟩, ⟨_, _, World.putObj_heap_same hlt, { e with key, val }, ?_, rfl⟩, ?_⟩
  ·simp [Instr.mapUpdate, run_underlying hT, Sem.run_bind, hg, hchk, hf, hj', hst, hset, Result.andThen]
  ·intro x hx
   obtain ⟨i, hi⟩ := List.getElem?_of_mem hx
   rw [Array.getElem?_toList, Array.getElem?_modify] at hi
   split at hi
   ·rw [Option.map_eq_some_iff] at hi
    obtain ⟨y, _, rfl⟩ := hi
    exact ⟨⟨l, hk⟩, hv⟩
   ·exact hes x (List.mem_of_getElem? (by rw [Array.getElem?_toList]; exact hi))
  ·refine List.mem_of_getElem? (i := j) ?_
   rw [Array.getElem?_toList, Array.getElem?_modify, if_pos rfl, hj']
   rfl
  ·rintro k' ⟨es', c', hb', x, hx, hke⟩
   rw [hb] at hb'
   cases hb'
   obtain ⟨i, hi⟩ := List.getElem?_of_mem hx
   rw [Array.getElem?_toList] at hi
   by_cases hij : j = i
   ·subst hij
    rw [hj'] at hi
    cases hi
    refine ⟨_, _, World.putObj_heap_same hlt, { e with key, val }, List.mem_of_getElem? (i := j) ?_, ?_⟩
    ·rw [Array.getElem?_toList, Array.getElem?_modify, if_pos rfl, hj']
     rfl
    ·show key = k'
     rw [← hke, hek]
   ·refine ⟨_, _, World.putObj_heap_same hlt, x, List.mem_of_getElem? (i := i) ?_, hke⟩
    rw [Array.getElem?_toList, Array.getElem?_modify, if_neg hij]
    exact hi
end
end Go.Proofs.Ytkfebceainedfaa.P.OwnGap
namespace Go.Proofs.Ytkfebceainedfaa.P.OwnGap
open Go.RowKit Go.Proofs.YtkfebceainedfaaW.PrintWords Go.Proofs.YtkfebceainedfaaW.PrintLast Go.Proofs.YtkfebceainedfaaW.PrintMore
open Go.Proofs.Ytkfebceainedfaa.OwnGap
set_option linter.unusedVariables false
set_option linter.unusedSimpArgs false
def gapsFrom (R : Rw) (i rem : Nat) : Nat := ((List.range' i rem).filter R.gap).length
theorem gapsFrom_gap {R : Rw} {i rem : Nat} (h : R.gap i = true) : gapsFrom R i (rem + 1) = gapsFrom R (i + 1) rem + 1 := by
 unfold gapsFrom
 rw [List.range'_succ, List.filter_cons_of_pos h, List.length_cons]
theorem gapsFrom_cell {R : Rw} {i rem : Nat} (h : R.gap i = false) : gapsFrom R i (rem + 1) = gapsFrom R (i + 1) rem := by
 unfold gapsFrom
 rw [List.range'_succ, List.filter_cons_of_neg (by rw [h]; decide)]
set_option maxRecDepth 20000 in
theorem letterF_ok (X : Lx) (a : Int) (hw : 0 ≤ (rwOf X).wl a ∧ (rwOf X).wl a ≤ 1000 ∧ 0 ≤ (rwOf X).wh a ∧ (rwOf X).wh a ≤ 1000) : ∀ (rem i m : Nat) (l h : Int) (fs : List Int), i + rem = X.r.length → m ≤ 10 → 0 ≤ l → l ≤ m * 1000 → 0 ≤ h → h ≤ m * 1000 → fs.length + gapsFrom (rwOf X) i rem ≤ 3 →
  ∀ q ∈ letterF (rwOf X) rem i m l h fs a, OkP X q
 | 0, i, m, l, h, fs, hi, hm, h0, h1, h2, h3, hg, q, hq => by
  rw [letterF] at hq
  exact absurd hq (by simp)
 | rem + 1, i, m, l, h, fs, hi, hm, h0, h1, h2, h3, hg, q, hq => by
  rw [letterF_succ] at hq
  by_cases hgap : (rwOf X).gap i = false
  ·rw [if_pos hgap] at hq
   rw [gapsFrom_cell hgap] at hg
   by_cases hf : (rwOf X).fit i a = true
   ·rw [if_pos hf, List.mem_singleton] at hq
    subst hq
    refine ⟨by show i + 1 ≤ X.r.length; omega, by show 0 ≤ 10; omega, by show (0 : Int) ≤ 0; omega, by show (0 : Int) ≤ ((0 : Nat) : Int) * 1000; omega, by show (0 : Int) ≤ 0; omega, by show (0 : Int) ≤ ((0 : Nat) : Int) * 1000; omega, ?_⟩
    show fs.length + gapsFrom (rwOf X) (i + 1) (X.r.length - (i + 1)) ≤ 3
    rw [show X.r.length - (i + 1) = rem by omega]
    exact hg
   ·rw [if_neg hf] at hq
    exact absurd hq (by simp)
  ·have hgap' : (rwOf X).gap i = true := by simpa using hgap
   rw [if_neg hgap] at hq
   have hg0 := hg
   rw [gapsFrom_gap hgap'] at hg
   rcases List.mem_append.1 hq with hq | hq
   ·by_cases hk : okW (rwOf X) i l h = true
    ·rw [if_pos hk] at hq
     exact letterF_ok X a hw rem (i + 1) 0 0 0 (fs ++ [(m : Int)]) (by omega) (by omega) (by omega) (by omega) (by omega) (by omega) (by rw [List.length_append, List.length_singleton]; omega) q hq
    ·rw [if_neg hk] at hq
     exact absurd hq (by simp)
   ·by_cases hk : m + 1 ≤ 10 ∧ l + (rwOf X).wl a ≤ (rwOf X).hi i
    ·rw [if_pos hk, List.mem_singleton] at hq
     subst hq
     refine ⟨by show i ≤ X.r.length; omega, by show m + 1 ≤ 10; omega, by show 0 ≤ l + (rwOf X).wl a; omega, by show l + (rwOf X).wl a ≤ ((m + 1 : Nat) : Int) * 1000; omega, by show 0 ≤ h + (rwOf X).wh a; omega, by show h + (rwOf X).wh a ≤ ((m + 1 : Nat) : Int) * 1000; omega, ?_⟩
     show fs.length + gapsFrom (rwOf X) i (X.r.length - i) ≤ 3
     rw [show X.r.length - i = rem + 1 by omega]
     exact hg0
    ·rw [if_neg hk] at hq
     exact absurd hq (by simp)
theorem letterP_ok (X : Lx) (a : Int) (hw : 0 ≤ (rwOf X).wl a ∧ (rwOf X).wl a ≤ 1000 ∧ 0 ≤ (rwOf X).wh a ∧ (rwOf X).wh a ≤ 1000) (p : Pth) (hp : OkP X p) : ∀ q ∈ letterP (rwOf X) p a, OkP X q :=
 letterF_ok X a hw _ _ _ _ _ _ (by show p.i + (X.r.length - p.i) = _; have := hp.i; omega) hp.m hp.l0 hp.l1 hp.h0 hp.h1 hp.g
theorem wordF_ok (X : Lx) (hw : ∀ a : Int, 65 ≤ a → a ≤ 90 → 0 ≤ (rwOf X).wl a ∧ (rwOf X).wl a ≤ 1000 ∧ 0 ≤ (rwOf X).wh a ∧ (rwOf X).wh a ≤ 1000) : ∀ (t : List Int) (l : List Pth), (∀ a ∈ t, 65 ≤ a ∧ a ≤ 90) → (∀ q ∈ l, OkP X q) → ∀ q ∈ wordF (rwOf X) l t, OkP X q
 | [], l, ht, hl, q, hq => hl q hq
 | a :: t, l, ht, hl, q, hq => by
  unfold wordF at hq
  have ha := ht a (by simp)
  refine wordF_ok X hw t _ (fun b hb => ht b (by simp [hb])) ?_ q hq
  intro x hx
  obtain ⟨p, hp, hx⟩ := List.mem_flatMap.1 hx
  exact letterP_ok X a (hw a ha.1 ha.2) p (hl p hp) x hx
def cnt : Nat → Nat → Nat
 | _, 0 => 1
 | 0, _ + 1 => 1
 | g + 1, t + 1 => cnt g (t + 1) + cnt (g + 1) t
theorem cnt_zero (g : Nat) : cnt g 0 = 1 := by rw [cnt]
theorem cnt_none (t : Nat) : cnt 0 t = 1 := by
 cases t with
 | zero => rw [cnt]
 | succ t => rw [cnt]
theorem cnt_step (g t : Nat) : cnt (g + 1) (t + 1) = cnt g (t + 1) + cnt (g + 1) t := by rw [cnt]
theorem cnt_pos (g : Nat) : ∀ t : Nat, 1 ≤ cnt g t
 | 0 => by rw [cnt_zero]; exact Nat.le_refl _
 | t + 1 => by
  cases g with
  | zero => rw [cnt_none]; exact Nat.le_refl _
  | succ g =>
   rw [cnt_step]
   have := cnt_pos (g + 1) t
   omega
theorem cnt_mono (t g : Nat) : cnt g t ≤ cnt (g + 1) t := by
 cases t with
 | zero => rw [cnt_zero, cnt_zero]; exact Nat.le_refl _
 | succ t => rw [cnt_step]; omega
theorem cnt_up {t : Nat} : ∀ {g g' : Nat}, g ≤ g' → cnt g t ≤ cnt g' t := by
 intro g g' h
 induction h with
 | refl => exact Nat.le_refl _
 | step _ ih => exact Nat.le_trans ih (cnt_mono t _)
theorem cnt_le : ∀ g t : Nat, cnt g t ≤ (t + 1) ^ g
 | 0, t => by rw [cnt_none, Nat.pow_zero]; exact Nat.le_refl _
 | g + 1, 0 => by rw [cnt_zero]; simp
 | g + 1, t + 1 => by
  rw [cnt_step]
  have h1 := cnt_le g (t + 1)
  have h2 := cnt_le (g + 1) t
  have h3 : (t + 1) ^ (g + 1) ≤ (t + 1 + 1) ^ g * (t + 1) := by
   rw [Nat.pow_succ]
   exact Nat.mul_le_mul_right _ (Nat.pow_le_pow_left (Nat.le_succ _) _)
  have h4 : (t + 1 + 1) ^ (g + 1) = (t + 1 + 1) ^ g * (t + 1) + (t + 1 + 1) ^ g := by
   rw [Nat.pow_succ, Nat.mul_succ]
  omega
theorem letterF_cnt (R : Rw) (a : Int) (t : Nat) : ∀ (rem i m : Nat) (l h : Int) (fs : List Int), i + rem = R.n →
  ((letterF R rem i m l h fs a).map fun q => cnt (gapsFrom R q.i (R.n - q.i)) t).sum ≤ cnt (gapsFrom R i rem) (t + 1)
 | 0, i, m, l, h, fs, hi => by
  rw [letterF]
  simp
 | rem + 1, i, m, l, h, fs, hi => by
  rw [letterF_succ]
  by_cases hgap : R.gap i = false
  ·rw [if_pos hgap, gapsFrom_cell hgap]
   by_cases hf : R.fit i a = true
   ·rw [if_pos hf]
    simp only [List.map_cons, List.map_nil, List.sum_cons, List.sum_nil, Nat.add_zero]
    rw [show R.n - (i + 1) = rem by omega]
    cases gapsFrom R (i + 1) rem with
    | zero => rw [cnt_none, cnt_none]; exact Nat.le_refl _
    | succ g => rw [cnt_step]; omega
   ·rw [if_neg hf]
    simp
  ·have hgap' : R.gap i = true := by simpa using hgap
   rw [if_neg hgap, gapsFrom_gap hgap', List.map_append, List.sum_append, cnt_step]
   refine Nat.add_le_add ?_ ?_
   ·by_cases hk : okW R i l h = true
    ·rw [if_pos hk]
     exact letterF_cnt R a t rem (i + 1) 0 0 0 _ (by omega)
    ·rw [if_neg hk]
     simp
   ·by_cases hk : m + 1 ≤ 10 ∧ l + R.wl a ≤ R.hi i
    ·rw [if_pos hk]
     simp only [List.map_cons, List.map_nil, List.sum_cons, List.sum_nil, Nat.add_zero]
     rw [show R.n - i = rem + 1 by omega, gapsFrom_gap hgap']
     exact Nat.le_refl _
    ·rw [if_neg hk]
     simp
def cntL (R : Rw) (l : List Pth) (t : Nat) : Nat := (l.map fun q => cnt (gapsFrom R q.i (R.n - q.i)) t).sum
theorem cntL_flat (R : Rw) (a : Int) (t : Nat) : ∀ l : List Pth, (∀ q ∈ l, q.i ≤ R.n) → cntL R (l.flatMap (letterP R · a)) t ≤ cntL R l (t + 1)
 | [], _ => Nat.le_refl _
 | p :: l, hl => by
  unfold cntL
  rw [List.flatMap_cons, List.map_append, List.sum_append, List.map_cons, List.sum_cons]
  refine Nat.add_le_add ?_ (cntL_flat R a t l (fun q hq => hl q (by simp [hq])))
  have := hl p (by simp)
  exact letterF_cnt R a t _ _ _ _ _ _ (by omega)
theorem cntL_length (R : Rw) (l : List Pth) (t : Nat) : l.length ≤ cntL R l t := by
 induction l with
 | nil => exact Nat.zero_le _
 | cons p l ih =>
  unfold cntL at ih ⊢
  rw [List.map_cons, List.sum_cons, List.length_cons]
  have := cnt_pos (gapsFrom R p.i (R.n - p.i)) t
  omega
theorem wordF_cnt (R : Rw) : ∀ (u : List Int) (l : List Pth) (t : Nat), (∀ q ∈ l, q.i ≤ R.n) → cntL R (wordF R l u) t ≤ cntL R l (t + u.length)
 | [], l, t, _ => Nat.le_refl _
 | a :: u, l, t, hl => by
  unfold wordF
  refine Nat.le_trans (wordF_cnt R u _ t ?_) ?_
  ·intro q hq
   obtain ⟨p, hp, hq⟩ := List.mem_flatMap.1 hq
   have := hl p hp
   exact letterF_le R a _ _ _ _ _ _ (by omega) q hq
  ·have := cntL_flat R a (t + u.length) l hl
   rw [List.length_cons, show t + (u.length + 1) = t + u.length + 1 by omega]
   exact this
end Go.Proofs.Ytkfebceainedfaa.P.OwnGap
namespace Go.Proofs.Ytkfebceainedfaa.P.OwnGap
open Go.RowKit Go.Proofs.YtkfebceainedfaaW.PrintWords Go.Proofs.YtkfebceainedfaaW.PrintLast Go.Proofs.YtkfebceainedfaaW.PrintMore
open Go.Proofs.Ytkfebceainedfaa.OwnGap
set_option linter.unusedVariables false
set_option linter.unusedSimpArgs false
def mayV (X : Lx) (words : Nat) (form f : Int) : Bool := if words = 0 then rdOf false X.l1 f else if words < 8 then rdOf false (rd_L1 X.l3 form) f else false
theorem mayV_zero {X : Lx} {k : Nat} {form f : Int} (h : k = 0) : mayV X k form f = rdOf false X.l1 f := if_pos h
theorem mayV_next {X : Lx} {k : Nat} {form f : Int} (h : k ≠ 0) (h8 : k < 8) : mayV X k form f = rdOf false (rd_L1 X.l3 form) f := (if_neg h).trans (if_pos h8)
theorem mayV_full {X : Lx} {k : Nat} {form f : Int} (h8 : 8 ≤ k) : mayV X k form f = false := (if_neg (by omega)).trans (if_neg (by omega))
set_option maxHeartbeats 1000000 in
set_option maxRecDepth 100000 in
theorem may_calls (X : Lx) (S : SV) (fits : List Int) (i m : Int) (l h : Int) (k : Nat) (form f : Int) (w : World) (hS : SrW X S fits w)
  (hf0 : 0 ≤ f) (hf1 : f < X.l1.length) (hg0 : 0 ≤ form) (hg1 : form < X.l3.length) (hg2 : f < (rd_L1 X.l3 form).length) (hk : k ≤ 1000) :
  Calls Try.prog 80 #[.pointer (some ⟨S.b, 0, none⟩), .agg #[.int .i64 i, .int .i64 m, .int .i64 l, .int .i64 h, .int .i64 (k : Int), .int .i64 form], .int .i64 f] w fun e w' => e = .returned (.bool (mayV X k form f)) ∧ Below w.heap.size w w' := by
 have HB := Aside0.mk (show Below w.heap.size w (w.alloc (.cells #[.int .i64 i, .int .i64 m, .int .i64 l, .int .i64 h, .int .i64 (k : Int), .int .i64 form] 139)) from (Below.refl _ _).alloc (Nat.le_refl _) _)
 have hb := blk_new w (.cells #[.int .i64 i, .int .i64 m, .int .i64 l, .int .i64 h, .int .i64 (k : Int), .int .i64 form] 139)
 have hS2 := hS.below HB.out
 have hbl := blk_lt hS.blk
 have b4 := (blk_cell hb 4).trans rfl
 have b5 := (blk_cell hb 5).trans rfl
 obtain ⟨a1, eA1, y1⟩ := Kd.at_bool hS2.h1 f hf0 hf1
 have c1 := hS2.cell 1 hS2.e1
 rw [eA1] at c1
 obtain ⟨a3, A0, c0, eA3, y3, hc0, hrow⟩ := at_L1 hS2.h3 form hg0 hg1
 have c3 := hS2.cell 3 hS2.e3
 rw [eA3] at c3
 obtain ⟨a4, eA4, y4⟩ := Kd.at_bool hrow f hf0 hg2
 rw [eA4] at y3
 have hbl2 := blk_lt hS2.blk
 clear hS hS2 hb hrow
 by_cases hz : k = 0
 ·rw [mayV_zero hz]
  have h0 : ((k : Int) == 0) = true := by rw [hz]; rfl
  clear hz
  go_enter Try.func80, Try.ntmps80
  go_wp2_with fail
  go_ret
  exact ⟨rfl, HB.out⟩
 ·have h0 : ((k : Int) == 0) = false := by simp; omega
  by_cases h8 : k < 8
  ·rw [mayV_next hz h8]
   have h8' : (k : Int) < 8 := by omega
   have h8d : decide ((k : Int) < 8) = true := decide_eq_true h8'
   go_enter Try.func80, Try.ntmps80
   go_wp2_with first | go_quiet (fail) | fail
   go_ret
   exact ⟨rfl, by first | exact HB.out | exact pw_below_drewN HB.out _ | exact pw_below_drewN (pw_below_drewN HB.out _) _⟩
  ·rw [mayV_full (by omega)]
   have h8' : ¬ (k : Int) < 8 := by omega
   have h8d : decide ((k : Int) < 8) = false := decide_eq_false h8'
   go_enter Try.func80, Try.ntmps80
   go_wp2_with first | go_quiet (fail) | fail
   go_ret
   exact ⟨rfl, by first | exact HB.out | exact pw_below_drewN HB.out _ | exact pw_below_drewN (pw_below_drewN HB.out _) _⟩
end Go.Proofs.Ytkfebceainedfaa.P.OwnGap
namespace Go.Proofs.Ytkfebceainedfaa.P.OwnGap
open Go.RowKit Go.Proofs.YtkfebceainedfaaW.PrintWords Go.Proofs.YtkfebceainedfaaW.PrintLast Go.Proofs.YtkfebceainedfaaW.PrintMore
open Go.Proofs.Ytkfebceainedfaa.OwnGap
set_option linter.unusedVariables false
set_option linter.unusedSimpArgs false
def spotP (p : Pth) : Pth := ⟨p.i, p.m, p.l, p.h, []⟩
def addFs (fs : List Int) (p : Pth) : Pth := ⟨p.i, p.m, p.l, p.h, fs ++ p.fs⟩
theorem spotP_add (fs : List Int) (p : Pth) : spotP (addFs fs p) = spotP p := rfl
theorem addFs_spot (p : Pth) : addFs p.fs (spotP p) = p := by
 obtain ⟨i, m, l, h, fs⟩ := p
 show (⟨i, m, l, h, fs ++ []⟩ : Pth) = _
 rw [List.append_nil]
theorem letterF_add (R : Rw) (a : Int) (fs : List Int) : ∀ (rem i m : Nat) (l h : Int) (gs : List Int), letterF R rem i m l h (fs ++ gs) a = (letterF R rem i m l h gs a).map (addFs fs)
 | 0, i, m, l, h, gs => by rw [letterF, letterF]; rfl
 | rem + 1, i, m, l, h, gs => by
  rw [letterF_succ, letterF_succ]
  by_cases hg : R.gap i = false
  ·rw [if_pos hg, if_pos hg]
   by_cases hf : R.fit i a = true
   ·rw [if_pos hf, if_pos hf]; rfl
   ·rw [if_neg hf, if_neg hf]; rfl
  ·rw [if_neg hg, if_neg hg, List.map_append]
   congr 1
   ·by_cases hk : okW R i l h = true
    ·rw [if_pos hk, if_pos hk, List.append_assoc]
     exact letterF_add R a fs rem (i + 1) 0 0 0 (gs ++ [(m : Int)])
    ·rw [if_neg hk, if_neg hk]; rfl
   ·by_cases hk : m + 1 ≤ 10 ∧ l + R.wl a ≤ R.hi i
    ·rw [if_pos hk, if_pos hk]; rfl
    ·rw [if_neg hk, if_neg hk]; rfl
theorem letterP_add (R : Rw) (a : Int) (fs : List Int) (p : Pth) : letterP R (addFs fs p) a = (letterP R p a).map (addFs fs) := letterF_add R a fs _ _ _ _ _ _
theorem flat_add (R : Rw) (a : Int) (fs : List Int) : ∀ l : List Pth, (l.map (addFs fs)).flatMap (letterP R · a) = (l.flatMap (letterP R · a)).map (addFs fs)
 | [] => rfl
 | p :: l => by rw [List.map_cons, List.flatMap_cons, List.flatMap_cons, List.map_append, letterP_add, flat_add R a fs l]
theorem wordF_add (R : Rw) (fs : List Int) : ∀ (t : List Int) (l : List Pth), wordF R (l.map (addFs fs)) t = (wordF R l t).map (addFs fs)
 | [], l => rfl
 | a :: t, l => by
  show wordF R ((l.map (addFs fs)).flatMap (letterP R · a)) t = (wordF R (l.flatMap (letterP R · a)) t).map (addFs fs)
  rw [flat_add]
  exact wordF_add R fs t _
theorem wordF_flat (R : Rw) : ∀ (u : List Int) (l : List Pth), wordF R l u = l.flatMap fun q => wordF R [q] u
 | [], l => by
  show l = l.flatMap fun q => [q]
  induction l with
  | nil => rfl
  | cons p l ih => rw [List.flatMap_cons, ← ih]; rfl
 | a :: u, l => by
  show wordF R (l.flatMap (letterP R · a)) u = l.flatMap fun q => wordF R ([q].flatMap (letterP R · a)) u
  rw [wordF_flat R u, List.flatMap_assoc]
  apply flatMap_eq
  intro q _
  rw [List.flatMap_cons, List.flatMap_nil, List.append_nil]
  exact (wordF_flat R u _).symm
theorem doneF_add (R : Rw) (fs : List Int) : ∀ (rem i m : Nat) (l h : Int) (gs : List Int), doneF R rem i m l h (fs ++ gs) = (doneF R rem i m l h gs).map (fs ++ ·)
 | 0, i, m, l, h, gs => rfl
 | rem + 1, i, m, l, h, gs => by
  rw [doneF, doneF]
  by_cases hk : R.gap i = true ∧ okW R i l h = true
  ·rw [if_pos hk, if_pos hk, List.append_assoc]
   exact doneF_add R fs rem (i + 1) 0 0 0 (gs ++ [(m : Int)])
  ·rw [if_neg hk, if_neg hk]; rfl
theorem doneP_add (R : Rw) (fs : List Int) (p : Pth) : doneP R (addFs fs p) = (doneP R p).map (fs ++ ·) := doneF_add R fs _ _ _ _ _ _
theorem doneP_spot (R : Rw) (p : Pth) : (doneP R (spotP p)).isSome = (doneP R p).isSome := by
 conv => rhs; rw [← addFs_spot p, doneP_add]
 cases doneP R (spotP p) <;> rfl
def endV (X : Lx) (p : Pth) (k : Nat) (f : Int) : Bool := decide (0 < k) && (rdOf false X.l2 f && (doneP (rwOf X) (spotP p)).isSome)
def aliveF (X : Lx) : Nat → Pth → Nat → Int → Bool
 | 0, p, k, f => endV X p k f
 | n + 1, p, k, f => endV X p k f || X.l0.any fun w => mayV X k f w.f1 && (wordF (rwOf X) [spotP p] (bytesOf w.f0)).any fun q => aliveF X n q (k + 1) w.f1
def aliveV (X : Lx) (p : Pth) (k : Nat) (f : Int) : Bool := aliveF X (8 - k) p k f
theorem aliveV_step (X : Lx) (p : Pth) (k : Nat) (f : Int) : aliveV X p k f = (endV X p k f || X.l0.any fun w => mayV X k f w.f1 && (wordF (rwOf X) [spotP p] (bytesOf w.f0)).any fun q => aliveV X q (k + 1) w.f1) := by
 unfold aliveV
 by_cases hk : k < 8
 ·rw [show 8 - k = 8 - (k + 1) + 1 by omega, aliveF]
 ·rw [show 8 - k = 0 by omega, aliveF]
  have : (X.l0.any fun w => mayV X k f w.f1 && (wordF (rwOf X) [spotP p] (bytesOf w.f0)).any fun q => aliveF X (8 - (k + 1)) q (k + 1) w.f1) = false := by
   rw [List.any_eq_false]
   intro w _
   rw [mayV_full (by omega)]
   simp
  rw [this, Bool.or_false]
theorem aliveF_spot (X : Lx) : ∀ (n : Nat) (p q : Pth) (k : Nat) (f : Int), spotP p = spotP q → aliveF X n p k f = aliveF X n q k f
 | 0, p, q, k, f, h => by rw [aliveF, aliveF]; unfold endV; rw [h]
 | n + 1, p, q, k, f, h => by rw [aliveF, aliveF]; unfold endV; rw [h]
theorem aliveV_spot {X : Lx} {p q : Pth} {k : Nat} {f : Int} (h : spotP p = spotP q) : aliveV X p k f = aliveV X q k f := aliveF_spot X _ p q k f h
end Go.Proofs.Ytkfebceainedfaa.P.OwnGap
namespace Go.Proofs.Ytkfebceainedfaa.P.OwnGap
open Go.RowKit Go.Shelf Go.Proofs.YtkfebceainedfaaW.PrintWords Go.Proofs.YtkfebceainedfaaW.PrintLast Go.Proofs.YtkfebceainedfaaW.PrintMore
open Go.Proofs.Ytkfebceainedfaa.OwnGap
set_option linter.unusedVariables false
set_option linter.unusedSimpArgs false
def Same (W W' : World) : Prop := ∀ a v, W.cell? a = some v → W'.cell? a = some v
theorem same_grown {W W' : World} {mb : Nat} {es : Array MapEntry} {ck : Nat} (hm : W.heap[mb]? = some (.map es ck)) (hg : W.grownBy W' (some mb)) : Same W W' := by
 intro a v h
 by_cases e : a.block = mb
 ·exfalso
  subst e
  simp [World.cell?, hm] at h
 ·have hlt := World.block_lt_of_cell? W a h
  rw [World.cell?_of_block (hg.block a.block hlt (fun h2 => e (by injection h2)))]
  exact h
theorem C_same {α : Type} {d : Kd α} {W W' : World} (hK : ∀ x cs, d.K W x cs → d.K W' x cs) (hs : Same W W') {A : Option Addr} {n : Nat} {xs : List α} (h : d.C W A n xs) : d.C W' A n xs := by
 refine ⟨h.1, h.2.1, fun hn => ?_⟩
 obtain ⟨ad, he, hc⟩ := h.2.2 hn
 refine ⟨ad, he, fun j p hj => ?_⟩
 obtain ⟨cs, h1, h2, h3⟩ := hc j p hj
 exact ⟨cs, h1, hK _ _ h2, fun i u hu => hs _ _ (h3 i u hu)⟩
theorem C_same2 {α : Type} {d : Kd α} {e : Nat} {W W' : World} (hK : ∀ x cs, d.K W x cs → d.K W' x cs) (hs : Same W W') {A : Option Addr} {n : Nat} {xs : List (List α)} (h : (Kd.slice e d).C W A n xs) : (Kd.slice e d).C W' A n xs :=
 C_same (d := Kd.slice e d) (W := W) (fun x cs h => by
  obtain ⟨A, c, h1, h2, h3⟩ := h
  exact ⟨A, c, h1, h2, C_same hK hs h3⟩) hs h
theorem SrW.same {X : Lx} {S : SV} {fits : List Int} {W W' : World} (h : SrW X S fits W) (hs : Same W W') (hb : W'.heap[S.b]? = W.heap[S.b]?) : SrW X S fits W' :=
 { h with blk := hb.trans h.blk, h0 := C_same (W := W) (W' := W') (fun _ _ h => h) hs h.h0, h1 := C_same (W := W) (W' := W') (fun _ _ h => h) hs h.h1, h2 := C_same (W := W) (W' := W') (fun _ _ h => h) hs h.h2, h3 := C_same2 (W := W) (W' := W') (fun _ _ h => h) hs h.h3, hr := C_same (W := W) (W' := W') (fun _ _ h => h) hs h.hr, hf := C_same (W := W) (W' := W') (fun _ _ h => h) hs h.hf }
def AliveR (X : Lx) (key val : Value) : Prop := ∃ (p : Pth) (k : Nat) (f : Int), key = stV p.i p.m p.l p.h k f ∧ val = .bool (aliveV X p k f)
theorem AliveR.at_key {X : Lx} {p : Pth} {k : Nat} {f : Int} {val : Value} (h : AliveR X (stV p.i p.m p.l p.h k f) val) : val = .bool (aliveV X p k f) := by
 obtain ⟨q, k', f', hk, rfl⟩ := h
 simp only [stV, Value.agg.injEq, Array.mk.injEq, List.cons.injEq, Value.int.injEq, and_true, true_and] at hk
 obtain ⟨h1, h2, h3, h4, h5, rfl⟩ := hk
 obtain rfl : k = k' := by omega
 rw [aliveV_spot (show spotP q = spotP p by
  unfold spotP
  rw [show q.i = p.i by omega, show q.m = p.m by omega, h3, h4])]
structure AW (X : Lx) (S : SV) (fits : List Int) (W : World) : Prop where
 sr : SrW X S fits W
 memo : MemoAt Try.prog 139 (AliveR X) W S.mb
theorem AW.mlt {X : Lx} {S : SV} {fits : List Int} {W : World} (h : AW X S fits W) : S.mb < W.heap.size := by
 obtain ⟨es, ck, hb, _⟩ := h.memo
 exact blk_lt' hb
where
 blk_lt' {W : World} {b : Nat} {o : Obj} (h : W.heap[b]? = some o) : b < W.heap.size := (Array.getElem?_eq_some_iff.1 h).1
theorem AW.below {X : Lx} {S : SV} {fits : List Int} {W W' : World} (h : AW X S fits W) (hb : Below W.heap.size W W') : AW X S fits W' :=
 ⟨h.sr.below hb, h.memo.keep (hb.block S.mb h.mlt)⟩
theorem AW.map {X : Lx} {S : SV} {fits : List Int} {W : World} (h : AW X S fits W) : ∃ es ck, W.heap[S.mb]? = some (.map es ck) := by
 obtain ⟨es, ck, hb, _⟩ := h.memo
 exact ⟨es, ck, hb⟩
theorem AW.ne {X : Lx} {S : SV} {fits : List Int} {W : World} (h : AW X S fits W) {b : Nat} {cs : Array Value} {t : TypeId} {fr : Nat × Nat} (hb : W.heap[b]? = some (.cells cs t fr)) : b ≠ S.mb := by
 rintro rfl
 obtain ⟨es, ck, hm⟩ := h.map
 rw [hb] at hm
 simp at hm
theorem AW.keep {X : Lx} {S : SV} {fits : List Int} {W W' : World} (h : AW X S fits W) (hg : W.grownBy W' (some S.mb)) {b : Nat} {cs : Array Value} {t : TypeId} {fr : Nat × Nat} (hb : W.heap[b]? = some (.cells cs t fr)) : W'.heap[b]? = some (.cells cs t fr) :=
 (hg.block b (Array.getElem?_eq_some_iff.1 hb).1 (fun e => h.ne hb (by injection e))).trans hb
theorem AW.same {X : Lx} {S : SV} {fits : List Int} {W W' : World} (h : AW X S fits W) (hg : W.grownBy W' (some S.mb)) : Same W W' := by
 obtain ⟨es, ck, hm⟩ := h.map
 exact same_grown hm hg
theorem AW.put {X : Lx} {S : SV} {fits : List Int} {W : World} (h : AW X S fits W) (o : Obj) (hm : MemoAt Try.prog 139 (AliveR X) (W.putObj S.mb o) S.mb) : AW X S fits (W.putObj S.mb o) :=
 ⟨h.sr.same (h.same (grown_putObj W S.mb o)) (World.putObj_heap_other (h.ne h.sr.blk)), hm⟩
where
 grown_putObj (W : World) (k : Nat) (o : Obj) : W.grownBy (W.putObj k o) (some k) := ⟨rfl, rfl, rfl, by simp [World.putObj], fun i _ hi => World.putObj_heap_other (fun e => hi (by rw [e]))⟩
theorem grown_put (W : World) (k : Nat) (o : Obj) : W.grownBy (W.putObj k o) (some k) := ⟨rfl, rfl, rfl, by simp [World.putObj], fun i _ hi => World.putObj_heap_other (fun e => hi (by rw [e]))⟩
theorem grown_below {W W' : World} (h : Below W.heap.size W W') (m : Option Nat) : W.grownBy W' m := ⟨h.os, h.tape, h.output, h.size, fun k hk _ => h.block k hk⟩
theorem grown_trans {W W' W'' : World} {m : Option Nat} (h : W.grownBy W' m) (k : W'.grownBy W'' m) : W.grownBy W'' m := ⟨k.os.trans h.os, k.tape.trans h.tape, k.output.trans h.output, Nat.le_trans h.size k.size, fun i hi hne => (k.block i (Nat.lt_of_lt_of_le hi h.size) hne).trans (h.block i hi hne)⟩
structure OkL (X : Lx) : Prop where
 one : 1 ≤ X.l1.length
 f8 : X.l1.length ≤ 1000
 l2 : X.l2.length = X.l1.length
 l3 : X.l3.length = X.l1.length
 l3r : ∀ f : Int, 0 ≤ f → f < X.l1.length → (rd_L1 X.l3 f).length = X.l1.length
 n0 : X.l0.length ≤ 1000
 wd : ∀ j : Nat, j < X.l0.length → 0 < (rd_T53 X.l0 (j : Int)).f0.size ∧ (rd_T53 X.l0 (j : Int)).f0.size ≤ 8 ∧ 0 ≤ (rd_T53 X.l0 (j : Int)).f1 ∧ (rd_T53 X.l0 (j : Int)).f1 < X.l1.length
 lt : ∀ j : Nat, j < X.l0.length → ∀ k : Nat, k < (rd_T53 X.l0 (j : Int)).f0.size → 65 ≤ bt (rd_T53 X.l0 (j : Int)).f0 (k : Int) ∧ bt (rd_T53 X.l0 (j : Int)).f0 (k : Int) ≤ 90
theorem OkP.spot {X : Lx} {p : Pth} (h : OkP X p) : OkP X (spotP p) := ⟨h.i, h.m, h.l0, h.l1, h.h0, h.h1, Nat.le_trans (show 0 + ((List.range' p.i (X.r.length - p.i)).filter (rwOf X).gap).length ≤ p.fs.length + ((List.range' p.i (X.r.length - p.i)).filter (rwOf X).gap).length by omega) h.g⟩
theorem OkX.ww {X : Lx} {fits : List Int} (h : OkX X fits) : ∀ a : Int, 65 ≤ a → a ≤ 90 → 0 ≤ (rwOf X).wl a ∧ (rwOf X).wl a ≤ 1000 ∧ 0 ≤ (rwOf X).wh a ∧ (rwOf X).wh a ≤ 1000 := fun a h1 h2 => h.w a h1 h2
theorem take_bytes {s : ByteArray} (hs : ∀ k : Nat, k < s.size → 65 ≤ bt s (k : Int) ∧ bt s (k : Int) ≤ 90) : ∀ a ∈ bytesOf s, 65 ≤ a ∧ a ≤ 90 := by
 intro a ha
 obtain ⟨k, hk, rfl⟩ := List.mem_iff_getElem.1 ha
 rw [bytesOf_length] at hk
 have h := hs k hk
 have h2 := bt_at s (k : Int) (by simpa using hk)
 simp only [Int.toNat_natCast] at h2
 have h3 : (bytesOf s)[k]'(by rw [bytesOf_length]; exact hk) = bt s (k : Int) := by
  rw [← h2]
  simp [bytesOf]
  rfl
 rw [h3]
 exact h
theorem gapsFrom_le {X : Lx} {p : Pth} (h : OkP X p) : gapsFrom (rwOf X) p.i ((rwOf X).n - p.i) ≤ 3 := by
 have := h.g
 show ((List.range' p.i (X.r.length - p.i)).filter (rwOf X).gap).length ≤ 3
 omega
theorem wk_ok {X : Lx} {fits : List Int} (hX : OkX X fits) (l : List Pth) (hl : ∀ q ∈ l, OkP X q) (hn : cntL (rwOf X) l 8 ≤ 1000000000) (s : ByteArray) (h8 : s.size ≤ 8) (hs : ∀ k : Nat, k < s.size → 65 ≤ bt s (k : Int) ∧ bt s (k : Int) ≤ 90) :
  ∀ k, k ≤ s.size → (wk X l s k).length ≤ 1000000000 ∧ ∀ q ∈ wk X l s k, OkP X q := by
 intro k hk
 have ht : ∀ a ∈ (bytesOf s).take k, 65 ≤ a ∧ a ≤ 90 := fun a ha => take_bytes hs a (List.mem_of_mem_take ha)
 refine ⟨?_, wordF_ok X hX.ww _ l ht hl⟩
 have h1 := cntL_length (rwOf X) (wk X l s k) (8 - k)
 have h2 := wordF_cnt (rwOf X) ((bytesOf s).take k) l (8 - k) (fun q hq => (hl q hq).i)
 rw [List.length_take, bytesOf_length, Nat.min_eq_left hk, Nat.sub_add_cancel (by omega)] at h2
 exact Nat.le_trans h1 (Nat.le_trans h2 hn)
theorem cnt_one {X : Lx} {p : Pth} (h : OkP X p) (t : Nat) (ht : t ≤ 100) : cntL (rwOf X) [p] t ≤ 1030301 := by
 unfold cntL
 simp only [List.map_cons, List.map_nil, List.sum_cons, List.sum_nil, Nat.add_zero]
 refine Nat.le_trans (cnt_up (gapsFrom_le h)) (Nat.le_trans (cnt_le 3 t) ?_)
 exact Nat.pow_le_pow_left (show t + 1 ≤ 101 by omega) 3
theorem C_one {W : World} {b : Nat} {p : Pth} (h : PAt W b p) : Kd.C kP W (some ⟨b, 0, none⟩) 1 [p] := by
 refine ⟨rfl, by decide, fun _ => ⟨_, rfl, fun j q hj => ?_⟩⟩
 have hj0 : j = 0 := by
  have := (List.getElem?_eq_some_iff.1 hj).1
  simpa using this
 subst hj0
 simp only [List.getElem?_cons_zero, Option.some.injEq] at hj
 subst hj
 refine ⟨pL p, rfl, kP.K_of_M (kP_mkM W 0 (fun _ => True) p), fun i u hu => ?_⟩
 rw [show kP.sz = 8 from rfl, Nat.zero_mul, Nat.zero_add]
 have h1 : W.cell? ⟨b, i, none⟩ = (pC p)[i]? := blk_cell h i
 have h2 : ((⟨b, 0, none⟩ : Addr).add i) = ⟨b, i, none⟩ := by
  cases i with
  | zero => simp [Addr.add]
  | succ i => simp [Addr.add]
 rw [h2, h1]
 have h3 : (pL p)[i]? = (pC p)[i]? := by unfold pC pL; simp
 rw [← h3]
 exact hu
end Go.Proofs.Ytkfebceainedfaa.P.OwnGap
namespace Go.Proofs.Ytkfebceainedfaa.P.OwnGap
open Go.RowKit Go.Shelf Go.Proofs.YtkfebceainedfaaW.PrintWords Go.Proofs.YtkfebceainedfaaW.PrintLast Go.Proofs.YtkfebceainedfaaW.PrintMore
open Go.Proofs.Ytkfebceainedfaa.OwnGap
set_option linter.unusedVariables false
set_option linter.unusedSimpArgs false
def stC (p : Pth) (k f : Int) : Array Value := #[.int .i64 (p.i : Int), .int .i64 (p.m : Int), .int .i64 p.l, .int .i64 p.h, .int .i64 k, .int .i64 f]
def StAt (W : World) (b : Nat) (p : Pth) (k f : Int) : Prop := W.heap[b]? = some (.cells (stC p k f) 139 (0, 0))
theorem StAt.cells {W : World} {b : Nat} {p : Pth} {k f : Int} (h : StAt W b p k f) : W.cell? ⟨b, 0, none⟩ = some (.int .i64 (p.i : Int)) ∧ W.cell? ⟨b, 1, none⟩ = some (.int .i64 (p.m : Int)) ∧ W.cell? ⟨b, 2, none⟩ = some (.int .i64 p.l) ∧ W.cell? ⟨b, 3, none⟩ = some (.int .i64 p.h) ∧ W.cell? ⟨b, 4, none⟩ = some (.int .i64 k) ∧ W.cell? ⟨b, 5, none⟩ = some (.int .i64 f) :=
 ⟨(blk_cell h 0).trans rfl, (blk_cell h 1).trans rfl, (blk_cell h 2).trans rfl, (blk_cell h 3).trans rfl, (blk_cell h 4).trans rfl, (blk_cell h 5).trans rfl⟩
def SpAt (W : World) (b : Nat) (S : SV) : Prop := W.heap[b]? = some (.cells #[.pointer (some ⟨S.b, 0, none⟩)] 92 (0, 0))
theorem SpAt.cell {W : World} {b : Nat} {S : SV} (h : SpAt W b S) : W.cell? ⟨b, 0, none⟩ = some (.pointer (some ⟨S.b, 0, none⟩)) := (blk_cell h 0).trans rfl
def WdAt (W : World) (b : Nat) (x : S53) : Prop := W.heap[b]? = some (.cells #[.string x.f0, .int .i64 x.f1] 53 (0, 0))
theorem WdAt.cells {W : World} {b : Nat} {x : S53} (h : WdAt W b x) : W.cell? ⟨b, 0, none⟩ = some (.string x.f0) ∧ W.cell? ⟨b, 1, none⟩ = some (.int .i64 x.f1) := ⟨(blk_cell h 0).trans rfl, (blk_cell h 1).trans rfl⟩
structure C9 (X : Lx) (S : SV) (fits : List Int) (bs bx bw : Nat) (p : Pth) (k f : Int) (x : S53) (W : World) : Prop where
 aw : AW X S fits W
 hs : SpAt W bs S
 hx : StAt W bx p k f
 hw : WdAt W bw x
theorem C9.below {X : Lx} {S : SV} {fits : List Int} {bs bx bw : Nat} {p : Pth} {k f : Int} {x : S53} {W W' : World} (h : C9 X S fits bs bx bw p k f x W) (hb : Below W.heap.size W W') : C9 X S fits bs bx bw p k f x W' :=
 ⟨h.aw.below hb, blk_below h.hs hb, blk_below h.hx hb, blk_below h.hw hb⟩
theorem C9.grown {X : Lx} {S : SV} {fits : List Int} {bs bx bw : Nat} {p : Pth} {k f : Int} {x : S53} {W W' : World} (h : C9 X S fits bs bx bw p k f x W) (hg : W.grownBy W' (some S.mb)) (ha : AW X S fits W') : C9 X S fits bs bx bw p k f x W' :=
 ⟨ha, h.aw.keep hg h.hs, h.aw.keep hg h.hx, h.aw.keep hg h.hw⟩
def Rec (X : Lx) (S : SV) (fits : List Int) (k : Nat) (kz : Int) : Prop := ∀ (q : Pth) (f : Int), 0 ≤ f → f < X.l1.length → OkP X (spotP q) → ∀ W, AW X S fits W →
 Calls Try.prog 102 #[.pointer (some ⟨S.b, 0, none⟩), .agg (stC q kz f)] W fun e W' => e = .returned (.bool (aliveV X q k f)) ∧ AW X S fits W' ∧ W.grownBy W' (some S.mb)
set_option maxHeartbeats 1000000 in
set_option maxRecDepth 100000 in
theorem fun109_calls (X : Lx) (S : SV) (fits : List Int) (bs bx bw : Nat) (p : Pth) (k : Nat) (f : Int) (hk : k ≤ 8) (x : S53) (hx0 : 0 ≤ x.f1) (hx1 : x.f1 < X.l1.length) (hR : Rec X S fits (k + 1) ((k : Int) + 1)) (q : Pth) (hq : OkP X q) (W : World) (hW : C9 X S fits bs bx bw p k f x W) :
  Calls Try.prog 109 #[.agg (pC q), .pointer (some ⟨bs, 0, none⟩), .pointer (some ⟨bx, 0, none⟩), .pointer (some ⟨bw, 0, none⟩)] W fun e W' => e = .returned (.bool (aliveV X q (k + 1) x.f1)) ∧ AW X S fits W' ∧ W.grownBy W' (some S.mb) := by
 have HW := Aside0.mk hW
 have HP := Aside0.mk (PL.start W q)
 have HR := Aside0.mk (fun W h => hR q x.f1 hx0 hx1 hq.spot W h)
 obtain ⟨b, hb⟩ : ∃ b, b = aliveV X q (k + 1) x.f1 := ⟨_, rfl⟩
 rw [← hb] at HR ⊢
 clear hW hR hq hb
 unfold pC
 go_enter Try.func109, Try.ntmps109
 go_upto_region 1 with fail
 refine wp_gen (fun wx => Aside0 (PL W wx q)) HP ?_
 clear HP
 rintro wx HB
 have hf7 := blk_frozen HB.out.pat 7
 have he7 := HB.out.pat.cells.2.2.2.2.2.2.2
 have hpl := blk_lt HB.out.pat
 go_upto_region 2 with fail
 refine wp_gen (fun wy => Aside0 (Below W.heap.size W wy) ∧ Aside0 (wy.heap[W.heap.size]? = some (.cells #[.int .i64 (q.i : Int), .int .i64 (q.m : Int), .int .i64 q.l, .int .i64 q.h, .int .i64 (fG q.fs 0), .int .i64 (fG q.fs 1), .int .i64 (fG q.fs 2), .int .i64 0] 154 (0, 0)))) ⟨⟨HB.out.below.setCell (Nat.le_refl _) _⟩, ⟨blk_set HB.out.pat 7 (.int .i64 0)⟩⟩ ?_
 clear HB hf7 he7 hpl
 rintro wy ⟨HB, HP⟩
 have HC := Aside0.mk (HW.out.below HB.out)
 obtain ⟨⟨e0, e1, e2, e3, e4, e5, e6, e7⟩, -⟩ := cells8 HP.out
 have hs := HC.out.hs.cell
 obtain ⟨x0, x1, x2, x3, x4, x5⟩ := HC.out.hx.cells
 obtain ⟨w0, w1⟩ := HC.out.hw.cells
 have hpl := blk_lt HP.out
 have hl1 := blk_lt HC.out.hs
 have hl2 := blk_lt HC.out.hx
 have hl3 := blk_lt HC.out.hw
 have HC2 := Aside0.mk (HR.out wy HC.out.aw)
 simp only [stC] at HC2
 go_wp2_with (go_at_call 102; refine HC2.out.mono ?_; rintro e w2 ⟨rfl, hA, hG⟩; have HA := Aside0.mk hA; have HG := Aside0.mk hG; clear hA hG)
 go_ret
 exact ⟨rfl, HA.out, grown_trans (grown_below HB.out _) HG.out⟩
end Go.Proofs.Ytkfebceainedfaa.P.OwnGap
namespace Go.Proofs.Ytkfebceainedfaa.P.OwnGap
open Go.RowKit Go.Proofs.YtkfebceainedfaaW.PrintWords Go.Proofs.YtkfebceainedfaaW.PrintLast Go.Proofs.YtkfebceainedfaaW.PrintMore
open Go.Proofs.Ytkfebceainedfaa.OwnGap
set_option linter.unusedVariables false
set_option linter.unusedSimpArgs false
structure OkD (X : Lx) (p : Pth) : Prop where
 i : p.i ≤ X.r.length
 m : p.m ≤ 1000
 g : p.fs.length + ((List.range' p.i (X.r.length - p.i)).filter (rwOf X).gap).length ≤ 3
theorem OkD.room {X : Lx} {p : Pth} (h : OkD X p) (hl : p.i < X.r.length) (hg : (rwOf X).gap p.i = true) : p.fs.length < 3 := by
 have := h.g
 obtain ⟨d, hd⟩ : ∃ d, X.r.length - p.i = d + 1 := ⟨X.r.length - p.i - 1, by omega⟩
 rw [hd, List.range'_succ, List.filter_cons_of_pos hg, List.length_cons] at this
 omega
theorem OkD.next {X : Lx} {p : Pth} (h : OkD X p) (hs : shutB (rwOf X) p = true) : OkD X (shutP (rwOf X) p) := by
 have hp : shutP (rwOf X) p = ⟨p.i + 1, 0, 0, 0, p.fs ++ [(p.m : Int)]⟩ := if_pos hs
 have hs' : p.i < X.r.length ∧ (rwOf X).gap p.i = true := by
  unfold shutB at hs
  rw [Bool.and_eq_true, Bool.and_eq_true] at hs
  exact ⟨of_decide_eq_true hs.1, hs.2.1⟩
 rw [hp]
 refine ⟨by show p.i + 1 ≤ X.r.length; omega, by show 0 ≤ 1000; omega, ?_⟩
 have := h.g
 obtain ⟨d, hd⟩ : ∃ d, X.r.length - p.i = d + 1 := ⟨X.r.length - p.i - 1, by omega⟩
 show (p.fs ++ [(p.m : Int)]).length + ((List.range' (p.i + 1) (X.r.length - (p.i + 1))).filter (rwOf X).gap).length ≤ 3
 rw [hd, List.range'_succ, List.filter_cons_of_pos hs'.2, List.length_cons] at this
 rw [show X.r.length - (p.i + 1) = d by omega, List.length_append, List.length_singleton]
 omega
theorem doneP_shut {R : Rw} {p : Pth} (hl : p.i < R.n) : doneP R p = if shutB R p = true then doneP R (shutP R p) else none := by
 obtain ⟨d, hd⟩ : ∃ d, R.n - p.i = d + 1 := ⟨R.n - p.i - 1, by omega⟩
 have hb : shutB R p = (R.gap p.i && okW R p.i p.l p.h) := by
  unfold shutB
  rw [decide_eq_true hl]
  rfl
 by_cases hs : shutB R p = true
 ·have hp : shutP R p = ⟨p.i + 1, 0, 0, 0, p.fs ++ [(p.m : Int)]⟩ := if_pos hs
  rw [if_pos hs, hp]
  unfold doneP
  rw [hd, doneF]
  rw [hb, Bool.and_eq_true] at hs
  rw [if_pos hs, show R.n - (p.i + 1) = d by omega]
 ·rw [if_neg hs]
  unfold doneP
  rw [hd, doneF]
  rw [hb, Bool.and_eq_true] at hs
  rw [if_neg hs]
theorem doneP_end {R : Rw} {p : Pth} (hl : p.i = R.n) : doneP R p = some p.fs := by
 unfold doneP
 rw [hl, Nat.sub_self]
 rfl
theorem set8_far {W : World} {b g t : Nat} {cs : Array Value} (h : W.heap[b]? = some (.cells cs t (0, 0))) (hb : b ≠ g) (u0 u1 u2 u3 u4 u5 u6 u7 : Value) : ((((((((W.setCell ⟨g, 0, none⟩ u0).setCell ⟨g, 1, none⟩ u1).setCell ⟨g, 2, none⟩ u2).setCell ⟨g, 3, none⟩ u3).setCell ⟨g, 4, none⟩ u4).setCell ⟨g, 5, none⟩ u5).setCell ⟨g, 6, none⟩ u6).setCell ⟨g, 7, none⟩ u7).heap[b]? = some (.cells cs t (0, 0)) :=
 blk_far (blk_far (blk_far (blk_far (blk_far (blk_far (blk_far (blk_far h hb _) hb _) hb _) hb _) hb _) hb _) hb _) hb _
theorem PB.next {w wx wy : World} {p : Pth} (h : PB w wx p) (hb : Below wx.heap.size wx wy) : PB w wy p := ⟨h.below.trans (hb.mono h.below.size), blk_below h.pat hb, let ⟨q, hq⟩ := h.res; ⟨q, blk_below hq hb⟩⟩
theorem PB.put {w wx : World} {p q : Pth} (h : PB w wx p) {u0 u1 u2 u3 u4 u5 u6 u7 : Value} (hu : pC q = #[u0, u1, u2, u3, u4, u5, u6, u7]) : PB w ((((((((wx.setCell ⟨w.heap.size, 0, none⟩ u0).setCell ⟨w.heap.size, 1, none⟩ u1).setCell ⟨w.heap.size, 2, none⟩ u2).setCell ⟨w.heap.size, 3, none⟩ u3).setCell ⟨w.heap.size, 4, none⟩ u4).setCell ⟨w.heap.size, 5, none⟩ u5).setCell ⟨w.heap.size, 6, none⟩ u6).setCell ⟨w.heap.size, 7, none⟩ u7) q :=
 ⟨set8_below h.below (Nat.le_refl _) _ _ _ _ _ _ _ _, by unfold PAt; rw [hu]; exact set8_blk (show wx.heap[w.heap.size]? = some (.cells #[_, _, _, _, _, _, _, _] 154 (0, 0)) from h.pat) _ _ _ _ _ _ _ _, let ⟨z, hz⟩ := h.res; ⟨z, set8_far hz (by simp) _ _ _ _ _ _ _ _⟩⟩
structure RelD (X : Lx) (w wr : World) (p q : Pth) (b : Bool) : Prop where
 pb : PB w wr q
 ok : OkD X q
 h : doneP (rwOf X) p = if b = true then doneP (rwOf X) q else none
def DoneOut (X : Lx) (p : Pth) (w : World) (e : Ending) (w' : World) : Prop := ∃ (q : Pth) (b : Bool), e = .returned (.tuple #[.agg (pC q), .bool b]) ∧ (doneP (rwOf X) p = if b = true then some q.fs else none) ∧ (b = true → q.fs.length ≤ 3) ∧ Below w.heap.size w w'
def mD (n b : Nat) (v : Value) (wr : World) : Nat :=
 match v, wr.cell? ⟨b, 0, none⟩ with
 | .bool true, some (.int _ i) => 1 + (n - i.toNat)
 | _, _ => 0
theorem mD_true {n : Nat} {w wr : World} {q : Pth} (h : PB w wr q) : mD n w.heap.size (.bool true) wr = 1 + (n - q.i) := by
 unfold mD
 rw [h.pat.cells.1]
 simp
theorem mD_false {n b : Nat} {wr : World} : mD n b (.bool false) wr = 0 := by
 unfold mD
 rfl
set_option maxHeartbeats 1000000 in
set_option maxRecDepth 100000 in
theorem done_calls (X : Lx) (S : SV) (fits : List Int) (hn : X.r.length ≤ 1000) (p : Pth) (w : World) (hS : SrW X S fits w) (hO : OkD X p) :
  Calls Try.prog 97 #[.pointer (some ⟨S.b, 0, none⟩), .agg (pC p)] w (DoneOut X p w) := by
 have HS := Aside0.mk hS
 have HOP := Aside0.mk hO
 clear hS hO
 unfold pC
 go_enter Try.func97, Try.ntmps97
 go_wp2
 go_loopw [6] (fun v wr => ∃ (q : Pth) (b : Bool), v = .bool b ∧ Aside0 (RelD X w wr p q b)) (fun v wr => mD X.r.length w.heap.size v wr)
 case atStart => exact ⟨p, true, rfl, ⟨⟨PB.start w p, HOP.out, rfl⟩⟩⟩
 case round =>
  obtain ⟨q, b, rfl, HR⟩ := hrel
  have HB := Aside0.mk HR.out.pb
  have HO := Aside0.mk HR.out.ok
  have HD := Aside0.mk HR.out.h
  clear HR
  rcases b with _ | _
  ·have HFIN := Aside0.mk (show doneP (rwOf X) p = none from HD.out)
   have HLEN := Aside0.mk (show q.fs.length ≤ 3 ∨ True from .inr trivial)
   obtain ⟨e0, e1, e2, e3, e4, e5, e6, e7⟩ := HB.out.pat.cells
   have hpl := blk_lt HB.out.pat
   obtain ⟨z, hz⟩ := HB.out.res
   obtain ⟨⟨q0, q1, q2, q3, q4, q5, q6, q7⟩, f0, f1, f2, f3, f4, f5, f6, f7⟩ := res_cells hz
   have hql := blk_lt hz
   have HZ := Aside0.mk hz
   clear hz
   go_wp2_with (first | (go_quiet (fail); clear f0 f1 f2 f3 f4 f5 f6 f7 q0 q1 q2 q3 q4 q5 q6 q7; obtain ⟨⟨q0, q1, q2, q3, q4, q5, q6, q7⟩, f0, f1, f2, f3, f4, f5, f6, f7⟩ := res_cells (show (wr.drewN nq).heap[w.heap.size + 1]? = _ from HZ.out)) | fail)
   refine bodyPost_ret (results_ct rfl _ _ (w.heap.size + 1) 154 _ (0, 0) _ rfl (set8_blk HZ.out _ _ _ _ _ _ _ _) Try.underlying154 rfl (by kernel_rfl)) rfl ⟨q, false, rfl, HFIN.out.trans rfl, fun h => absurd h (by decide), set8_below (HB.out.drewN _).below (by omega) _ _ _ _ _ _ _ _⟩
  ·have hS2 := HS.out.below HB.out.below
   have hc5 := hS2.cell 5 hS2.e5
   have hbl := blk_lt hS2.blk
   clear hS2
   by_cases hlt : q.i < X.r.length
   ·have hl1 : decide ((q.i : Int) < (X.r.length : Int)) = true := decide_eq_true (by omega)
    have HLT := Aside0.mk hlt
    obtain ⟨e0, e1, e2, e3, e4, e5, e6, e7⟩ := HB.out.pat.cells
    have HSH := Aside0.mk (show ∀ (W : World) (h : SrW X S fits W), Calls Try.prog 90 #[.pointer (some ⟨S.b, 0, none⟩), .agg (pC q)] W fun e w' => e = .returned (.tuple #[.agg (pC (shutP (rwOf X) q)), .bool (shutB (rwOf X) q)]) ∧ Below W.heap.size W w' from
     fun W h => shut_calls X S fits q W h HO.out.i hn HO.out.m (fun hl hg => HO.out.room hl hg))
    obtain ⟨q2, hq2⟩ : ∃ q2, q2 = shutP (rwOf X) q := ⟨_, rfl⟩
    obtain ⟨b2, hb2⟩ : ∃ b2, b2 = shutB (rwOf X) q := ⟨_, rfl⟩
    rw [← hq2, ← hb2] at HSH
    have HQ2 := Aside0.mk hq2
    have HB2 := Aside0.mk hb2
    clear hq2 hb2
    have hpl := blk_lt HB.out.pat
    go_wp2_with (first | (go_at_call 90; refine (HSH.out _ (HS.out.below (HB.out.drewN _).below)).mono ?_; rintro e w2 ⟨rfl, hB2⟩; unfold pC; have HB3 := Aside0.mk ((HB.out.drewN _).next hB2); clear hB2 e0 e1 e2 e3 e4 e5 e6 e7 hpl; obtain ⟨⟨e0, e1, e2, e3, e4, e5, e6, e7⟩, g0, g1, g2, g3, g4, g5, g6, g7⟩ := cells8 (show w2.heap[w.heap.size]? = some (.cells #[_, _, _, _, _, _, _, _] 154 (0, 0)) from HB3.out.pat); have hpl := blk_lt HB3.out.pat) | go_quiet (fail) | fail)
    have HP := HB3.out.put (q := q2) rfl
    refine ⟨⟨q2, b2, rfl, ⟨⟨HP, ?_, ?_⟩⟩⟩, ?_⟩
    ·rcases hbb : b2 with _ | _
     ·have h2 : shutB (rwOf X) q = false := by rw [← HB2.out]; exact hbb
      rw [HQ2.out, show shutP (rwOf X) q = q from if_neg (by rw [h2]; decide)]
      exact HO.out
     ·rw [HQ2.out]
      exact HO.out.next (by rw [← HB2.out]; exact hbb)
    ·rw [HD.out]
     simp only [if_true]
     rw [doneP_shut (show q.i < (rwOf X).n from HLT.out), ← HB2.out, ← HQ2.out]
    ·rw [mD_true HB.out]
     rcases hbb : b2 with _ | _
     ·rw [mD_false]; omega
     ·rw [mD_true HP, HQ2.out, show shutP (rwOf X) q = ⟨q.i + 1, 0, 0, 0, q.fs ++ [(q.m : Int)]⟩ from if_pos (by rw [← HB2.out]; exact hbb)]
      have := HLT.out
      show 1 + (X.r.length - (q.i + 1)) < _
      omega
   ·have hl1 : decide ((q.i : Int) < (X.r.length : Int)) = false := decide_eq_false (by omega)
    have HFIN := Aside0.mk (show doneP (rwOf X) p = some q.fs by
     rw [HD.out, if_pos rfl]
     exact doneP_end (by have := HO.out.i; show q.i = X.r.length; omega))
    have HLEN := Aside0.mk (show q.fs.length ≤ 3 by have := HO.out.g; omega)
    obtain ⟨e0, e1, e2, e3, e4, e5, e6, e7⟩ := HB.out.pat.cells
    have hpl := blk_lt HB.out.pat
    obtain ⟨z, hz⟩ := HB.out.res
    obtain ⟨⟨q0, q1, q2, q3, q4, q5, q6, q7⟩, f0, f1, f2, f3, f4, f5, f6, f7⟩ := res_cells hz
    have hql := blk_lt hz
    have HZ := Aside0.mk hz
    clear hz
    go_wp2_with (first | (go_quiet (fail); clear f0 f1 f2 f3 f4 f5 f6 f7 q0 q1 q2 q3 q4 q5 q6 q7; obtain ⟨⟨q0, q1, q2, q3, q4, q5, q6, q7⟩, f0, f1, f2, f3, f4, f5, f6, f7⟩ := res_cells (show (wr.drewN nq).heap[w.heap.size + 1]? = _ from HZ.out)) | fail)
    refine bodyPost_ret (results_ct rfl _ _ (w.heap.size + 1) 154 _ (0, 0) _ rfl (set8_blk HZ.out _ _ _ _ _ _ _ _) Try.underlying154 rfl (by kernel_rfl)) rfl ⟨q, true, rfl, HFIN.out.trans rfl, fun _ => HLEN.out, set8_below (HB.out.drewN _).below (by omega) _ _ _ _ _ _ _ _⟩
end Go.Proofs.Ytkfebceainedfaa.P.OwnGap
namespace Go.Proofs.Ytkfebceainedfaa.P.OwnGap
open Go.RowKit Go.Maps Go.Proofs.YtkfebceainedfaaW.PrintWords Go.Proofs.YtkfebceainedfaaW.PrintLast Go.Proofs.YtkfebceainedfaaW.PrintMore
open Go.Proofs.Ytkfebceainedfaa.OwnGap
set_option linter.unusedVariables false
set_option linter.unusedSimpArgs false
def reachF (R : Rw) : Nat → Pth → Nat
 | 0, p => p.i
 | n + 1, p => if shutB R p = true then reachF R n (shutP R p) else p.i
def reachI (R : Rw) (p : Pth) : Nat := reachF R (R.n - p.i) p
theorem reachI_step (R : Rw) (p : Pth) : reachI R p = if shutB R p = true then reachI R (shutP R p) else p.i := by
 unfold reachI
 by_cases h : shutB R p = true
 ·rw [if_pos h]
  have hs : shutP R p = ⟨p.i + 1, 0, 0, 0, p.fs ++ [(p.m : Int)]⟩ := if_pos h
  have hl : p.i < R.n := by
   unfold shutB at h
   simp only [Bool.and_eq_true, decide_eq_true_eq] at h
   exact h.1
  rw [show R.n - p.i = (R.n - (p.i + 1)) + 1 by omega, reachF, if_pos h, hs]
 ·rw [if_neg h]
  cases R.n - p.i with
  | zero => rfl
  | succ n => rw [reachF, if_neg h]
theorem reachF_ge (R : Rw) : ∀ (n : Nat) (p : Pth), p.i ≤ reachF R n p
 | 0, p => Nat.le_refl _
 | n + 1, p => by
  rw [reachF]
  by_cases h : shutB R p = true
  ·rw [if_pos h]
   have h1 := reachF_ge R n (shutP R p)
   have hs : shutP R p = ⟨p.i + 1, 0, 0, 0, p.fs ++ [(p.m : Int)]⟩ := if_pos h
   rw [hs] at h1 ⊢
   have h2 : (⟨p.i + 1, 0, 0, 0, p.fs ++ [(p.m : Int)]⟩ : Pth).i = p.i + 1 := rfl
   omega
  ·rw [if_neg h]
   exact Nat.le_refl _
theorem reachI_ge (R : Rw) (p : Pth) : p.i ≤ reachI R p := reachF_ge R _ p
theorem reachF_le (R : Rw) : ∀ (n : Nat) (p : Pth), p.i + n ≤ R.n → reachF R n p ≤ R.n
 | 0, p, h => by rw [reachF]; omega
 | n + 1, p, h => by
  rw [reachF]
  by_cases hb : shutB R p = true
  ·rw [if_pos hb]
   have hs : shutP R p = ⟨p.i + 1, 0, 0, 0, p.fs ++ [(p.m : Int)]⟩ := if_pos hb
   exact reachF_le R n _ (by rw [hs]; show p.i + 1 + n ≤ R.n; omega)
  ·rw [if_neg hb]
   omega
theorem reachI_le (R : Rw) (p : Pth) (h : p.i ≤ R.n) : reachI R p ≤ R.n := reachF_le R _ p (by omega)
def supN : List Nat → Nat
 | [] => 0
 | a :: l => max a (supN l)
theorem supN_append : ∀ l m : List Nat, supN (l ++ m) = max (supN l) (supN m)
 | [], m => by simp [supN]
 | a :: l, m => by rw [List.cons_append, supN, supN, supN_append l m, Nat.max_assoc]
theorem supN_take {l : List Nat} {j : Nat} (h : j < l.length) : supN (l.take (j + 1)) = max (supN (l.take j)) l[j] := by
 rw [List.take_add_one, List.getElem?_eq_getElem h, supN_append]
 simp [supN]
theorem supN_zero {l : List Nat} (h : ∀ a ∈ l, a = 0) : supN l = 0 := by
 induction l with
 | nil => rfl
 | cons a l ih => rw [supN, ih (fun b hb => h b (by simp [hb])), h a (by simp)]; rfl
theorem supN_le {l : List Nat} {n : Nat} (h : ∀ a ∈ l, a ≤ n) : supN l ≤ n := by
 induction l with
 | nil => exact Nat.zero_le _
 | cons a l ih => rw [supN]; exact Nat.max_le.2 ⟨h a (by simp), ih (fun b hb => h b (by simp [hb]))⟩
def lettersN (X : Lx) (wi : Int) : Nat := (rd_T53 X.l0 wi).f0.size
def farF (X : Lx) : Nat → Pth → Nat → Int → Int → Nat → Nat
 | 0, p, _, _, _, _ => reachI (rwOf X) (spotP p)
 | n + 1, p, k, f, wi, a => max (reachI (rwOf X) (spotP p)) (supN (if 0 < k ∧ a < lettersN X wi then (letterP (rwOf X) (spotP p) (bt (rd_T53 X.l0 wi).f0 (a : Int))).map fun q => farF X n q k f wi (a + 1)
   else (X.l0.zipIdx).map fun x => if mayV X k f x.1.f1 = true then farF X n p (k + 1) x.1.f1 (x.2 : Int) 0 else 0))
def mu (k a : Nat) : Nat := (8 - k) * 9 + (8 - a)
theorem farF_up (X : Lx) (h8 : ∀ j : Int, lettersN X j ≤ 8) : ∀ (n : Nat) (p : Pth) (k : Nat) (f wi : Int) (a : Nat), mu k a ≤ n → farF X (n + 1) p k f wi a = farF X n p k f wi a := by
 intro n
 induction n with
 | zero =>
  intro p k f wi a hm
  unfold mu at hm
  rw [farF, farF]
  have h1 := h8 wi
  rw [if_neg (by omega), supN_zero, Nat.max_eq_left (Nat.zero_le _)]
  intro b hb
  obtain ⟨x, -, rfl⟩ := List.mem_map.1 hb
  rw [mayV_full (by omega)]
  rfl
 | succ n ih =>
  intro p k f wi a hm
  have e1 : farF X (n + 1 + 1) p k f wi a = max (reachI (rwOf X) (spotP p)) (supN (if 0 < k ∧ a < lettersN X wi then (letterP (rwOf X) (spotP p) (bt (rd_T53 X.l0 wi).f0 (a : Int))).map fun q => farF X (n + 1) q k f wi (a + 1) else (X.l0.zipIdx).map fun x => if mayV X k f x.1.f1 = true then farF X (n + 1) p (k + 1) x.1.f1 (x.2 : Int) 0 else 0)) := rfl
  have e2 : farF X (n + 1) p k f wi a = max (reachI (rwOf X) (spotP p)) (supN (if 0 < k ∧ a < lettersN X wi then (letterP (rwOf X) (spotP p) (bt (rd_T53 X.l0 wi).f0 (a : Int))).map fun q => farF X n q k f wi (a + 1) else (X.l0.zipIdx).map fun x => if mayV X k f x.1.f1 = true then farF X n p (k + 1) x.1.f1 (x.2 : Int) 0 else 0)) := rfl
  rw [e1, e2]
  unfold mu at hm
  have h1 := h8 wi
  congr 2
  by_cases hc : 0 < k ∧ a < lettersN X wi
  ·rw [if_pos hc, if_pos hc]
   refine List.map_congr_left fun q _ => ih q k f wi (a + 1) ?_
   unfold mu
   omega
  ·rw [if_neg hc, if_neg hc]
   refine List.map_congr_left fun x _ => ?_
   by_cases hm2 : mayV X k f x.1.f1 = true
   ·rw [if_pos hm2, if_pos hm2]
    refine ih _ _ _ _ _ ?_
    have hk : k < 8 := by
     by_cases h : k < 8
     ·exact h
     ·rw [mayV_full (by omega)] at hm2
      cases hm2
    unfold mu
    omega
   ·rw [if_neg hm2, if_neg hm2]
theorem farF_eq (X : Lx) (h8 : ∀ j : Int, lettersN X j ≤ 8) (p : Pth) (k : Nat) (f wi : Int) (a : Nat) : ∀ d : Nat, farF X (mu k a + d) p k f wi a = farF X (mu k a) p k f wi a
 | 0 => rfl
 | d + 1 => by rw [← Nat.add_assoc, farF_up X h8 _ _ _ _ _ _ (Nat.le_add_right _ _), farF_eq X h8 p k f wi a d]
def farV (X : Lx) (p : Pth) (k : Nat) (f wi : Int) (a : Nat) : Nat := farF X (mu k a) p k f wi a
def farL (X : Lx) (p : Pth) (k : Nat) (f wi : Int) (a : Nat) : List Nat := (letterP (rwOf X) (spotP p) (bt (rd_T53 X.l0 wi).f0 (a : Int))).map fun q => farV X q k f wi (a + 1)
def farW (X : Lx) (p : Pth) (k : Nat) (f : Int) : List Nat := (X.l0.zipIdx).map fun x => if mayV X k f x.1.f1 = true then farV X p (k + 1) x.1.f1 (x.2 : Int) 0 else 0
theorem farV_step (X : Lx) (h8 : ∀ j : Int, lettersN X j ≤ 8) (p : Pth) (k : Nat) (f wi : Int) (a : Nat) : farV X p k f wi a = max (reachI (rwOf X) (spotP p)) (supN (if 0 < k ∧ a < lettersN X wi then farL X p k f wi a else farW X p k f)) := by
 unfold farV
 rw [← farF_eq X h8 p k f wi a 1, farF]
 have h1 := h8 wi
 congr 2
 by_cases hc : 0 < k ∧ a < lettersN X wi
 ·rw [if_pos hc, if_pos hc]
  unfold farL
  refine List.map_congr_left fun q _ => ?_
  unfold farV
  rw [show mu k a = mu k (a + 1) + 1 by unfold mu; omega, farF_eq X h8]
 ·rw [if_neg hc, if_neg hc]
  unfold farW
  refine List.map_congr_left fun x _ => ?_
  by_cases hm2 : mayV X k f x.1.f1 = true
  ·rw [if_pos hm2, if_pos hm2]
   have hk : k < 8 := by
    by_cases h : k < 8
    ·exact h
    ·rw [mayV_full (by omega)] at hm2
     cases hm2
   unfold farV
   rw [show mu k a = mu (k + 1) 0 + (mu k a - mu (k + 1) 0) by unfold mu; omega, farF_eq X h8]
  ·rw [if_neg hm2, if_neg hm2]
theorem farF_spot (X : Lx) : ∀ (n : Nat) (p q : Pth) (k : Nat) (f wi : Int) (a : Nat), spotP p = spotP q → farF X n p k f wi a = farF X n q k f wi a
 | 0, p, q, k, f, wi, a, h => by rw [farF, farF, h]
 | n + 1, p, q, k, f, wi, a, h => by
  rw [farF, farF, h]
  congr 3
  refine List.map_congr_left fun x _ => ?_
  rw [farF_spot X n p q _ _ _ _ h]
theorem farV_spot {X : Lx} {p q : Pth} {k : Nat} {f wi : Int} {a : Nat} (h : spotP p = spotP q) : farV X p k f wi a = farV X q k f wi a := farF_spot X _ p q k f wi a h
theorem farF_le (X : Lx) : ∀ (n : Nat) (p : Pth) (k : Nat) (f wi : Int) (a : Nat), p.i ≤ (rwOf X).n → farF X n p k f wi a ≤ (rwOf X).n
 | 0, p, k, f, wi, a, h => by rw [farF]; exact reachI_le _ _ h
 | n + 1, p, k, f, wi, a, h => by
  rw [farF]
  refine Nat.max_le.2 ⟨reachI_le _ _ h, supN_le fun b hb => ?_⟩
  by_cases hc : 0 < k ∧ a < lettersN X wi
  ·rw [if_pos hc] at hb
   obtain ⟨q, hq, rfl⟩ := List.mem_map.1 hb
   exact farF_le X n q _ _ _ _ (letterF_le (rwOf X) _ _ _ _ _ _ _ (by show p.i + ((rwOf X).n - p.i) = _; omega) q hq)
  ·rw [if_neg hc] at hb
   obtain ⟨x, -, rfl⟩ := List.mem_map.1 hb
   by_cases hm2 : mayV X k f x.1.f1 = true
   ·rw [if_pos hm2]
    exact farF_le X n p _ _ _ _ h
   ·rw [if_neg hm2]
    exact Nat.zero_le _
theorem farV_le (X : Lx) (p : Pth) (k : Nat) (f wi : Int) (a : Nat) (h : p.i ≤ (rwOf X).n) : farV X p k f wi a ≤ (rwOf X).n := farF_le X _ p k f wi a h
end Go.Proofs.Ytkfebceainedfaa.P.OwnGap
namespace Go.Proofs.Ytkfebceainedfaa.P.OwnGap
open Go.RowKit Go.Proofs.YtkfebceainedfaaW.PrintWords Go.Proofs.YtkfebceainedfaaW.PrintLast Go.Proofs.YtkfebceainedfaaW.PrintMore
open Go.Proofs.Ytkfebceainedfaa.OwnGap
set_option linter.unusedVariables false
set_option linter.unusedSimpArgs false
def endsF (X : Lx) (ws : List Int) (f : Int) (l : List Pth) : List (List Int × List Int) :=
 if (decide (0 < ws.length) && rdOf false X.l2 f) = true then (l.filterMap (doneP (rwOf X))).map fun fs => (ws, fs) else []
def fillF (X : Lx) : Nat → List Int → Int → List Pth → List (List Int × List Int)
 | 0, ws, f, l => endsF X ws f l
 | n + 1, ws, f, l => endsF X ws f l ++ (X.l0.zipIdx).flatMap fun (x : S53 × Nat) =>
   if mayV X ws.length f x.1.f1 = true then fillF X n (ws ++ [(x.2 : Int)]) x.1.f1 ((wordF (rwOf X) l (bytesOf x.1.f0)).filter fun q => aliveF X n q (ws.length + 1) x.1.f1) else []
def fillG (X : Lx) : Nat → List Int → Int → List Pth → List (List Int × List Int)
 | 0, ws, f, l => endsF X ws f l
 | n + 1, ws, f, l => endsF X ws f l ++ (X.l0.zipIdx).flatMap fun (x : S53 × Nat) =>
   if mayV X ws.length f x.1.f1 = true then fillG X n (ws ++ [(x.2 : Int)]) x.1.f1 (wordF (rwOf X) l (bytesOf x.1.f0)) else []
theorem endsF_nil (X : Lx) (ws : List Int) (f : Int) : endsF X ws f [] = [] := by
 unfold endsF
 split <;> rfl
theorem fillF_nil (X : Lx) : ∀ (n : Nat) (ws : List Int) (f : Int), fillF X n ws f [] = []
 | 0, ws, f => endsF_nil X ws f
 | n + 1, ws, f => by
  rw [fillF, endsF_nil, List.nil_append, List.flatMap_eq_nil_iff]
  intro x _
  by_cases hm : mayV X ws.length f x.1.f1 = true
  ·rw [if_pos hm, wordF_nil]
   exact fillF_nil X n _ _
  ·rw [if_neg hm]
theorem endsF_alive (X : Lx) (ws : List Int) (f : Int) (A : Pth → Bool) : ∀ l : List Pth, (∀ q ∈ l, A q = false → endV X q ws.length f = false) → endsF X ws f (l.filter A) = endsF X ws f l := by
 intro l hl
 unfold endsF
 by_cases hc : (decide (0 < ws.length) && rdOf false X.l2 f) = true
 ·rw [if_pos hc, if_pos hc]
  congr 1
  induction l with
  | nil => rfl
  | cons p l ih =>
   have ih := ih (fun q hq => hl q (by simp [hq]))
   by_cases ha : A p = true
   ·rw [List.filter_cons_of_pos ha, List.filterMap_cons, List.filterMap_cons, ih]
   ·rw [List.filter_cons_of_neg ha, ih, List.filterMap_cons]
    have he := hl p (by simp) (by simpa using ha)
    unfold endV at he
    rw [Bool.and_eq_true] at hc
    rw [doneP_spot, hc.1, hc.2, Bool.true_and, Bool.true_and] at he
    cases hd : doneP (rwOf X) p with
    | none => rfl
    | some fs => rw [hd] at he; exact absurd he (by simp)
 ·rw [if_neg hc, if_neg hc]
theorem dead_word (X : Lx) (n k : Nat) (f : Int) (p : Pth) (hd : aliveF X (n + 1) p k f = false) (w : S53) (hw : w ∈ X.l0) (hm : mayV X k f w.f1 = true) : ∀ q ∈ wordF (rwOf X) [p] (bytesOf w.f0), aliveF X n q (k + 1) w.f1 = false := by
 intro q hq
 rw [aliveF, Bool.or_eq_false_iff, List.any_eq_false] at hd
 have h := hd.2 w hw
 rw [hm, Bool.true_and] at h
 rw [show [p] = [spotP p].map (addFs p.fs) by rw [List.map_cons, List.map_nil, addFs_spot], wordF_add] at hq
 obtain ⟨q0, hq0, rfl⟩ := List.mem_map.1 hq
 rw [aliveF_spot X n (addFs p.fs q0) q0 _ _ (spotP_add _ _)]
 cases hb : aliveF X n q0 (k + 1) w.f1 with
 | false => rfl
 | true => exact absurd (List.any_eq_true.2 ⟨q0, hq0, hb⟩) h
theorem filter_word (X : Lx) (A B : Pth → Bool) (t : List Int) : ∀ l : List Pth, (∀ p ∈ l, A p = false → ∀ q ∈ wordF (rwOf X) [p] t, B q = false) → (wordF (rwOf X) (l.filter A) t).filter B = (wordF (rwOf X) l t).filter B := by
 intro l hl
 rw [wordF_flat, wordF_flat _ t l]
 induction l with
 | nil => rfl
 | cons p l ih =>
  have ih := ih (fun q hq => hl q (by simp [hq]))
  by_cases ha : A p = true
  ·rw [List.filter_cons_of_pos ha, List.flatMap_cons, List.flatMap_cons, List.filter_append, List.filter_append, ih]
  ·rw [List.filter_cons_of_neg ha, ih, List.flatMap_cons, List.filter_append]
   have : (wordF (rwOf X) [p] t).filter B = [] := by
    rw [List.filter_eq_nil_iff]
    intro q hq
    rw [hl p (by simp) (by simpa using ha) q hq]
    decide
   rw [this, List.nil_append]
theorem fillG_alive (X : Lx) : ∀ (n : Nat) (ws : List Int) (f : Int) (l : List Pth), fillG X n ws f (l.filter fun q => aliveF X n q ws.length f) = fillG X n ws f l
 | 0, ws, f, l => by
  rw [fillG, fillG]
  exact endsF_alive X ws f _ l (fun q _ h => h)
 | n + 1, ws, f, l => by
  rw [fillG, fillG, endsF_alive X ws f _ l (fun q _ h => by rw [aliveF, Bool.or_eq_false_iff] at h; exact h.1)]
  congr 1
  apply flatMap_eq
  intro x hx
  by_cases hm : mayV X ws.length f x.1.f1 = true
  ·rw [if_pos hm, if_pos hm, ← fillG_alive X n _ _ (wordF (rwOf X) (l.filter _) _), ← fillG_alive X n _ _ (wordF (rwOf X) l _)]
   rw [List.length_append, List.length_singleton]
   rw [filter_word X _ _ _ l (fun p _ hd q hq => dead_word X n ws.length f p hd x.1 (List.fst_mem_of_mem_zipIdx hx) hm q hq)]
  ·rw [if_neg hm, if_neg hm]
theorem fillF_all (X : Lx) : ∀ (n : Nat) (ws : List Int) (f : Int) (l : List Pth), fillF X n ws f l = fillG X n ws f l
 | 0, ws, f, l => rfl
 | n + 1, ws, f, l => by
  rw [fillF, fillG]
  congr 1
  apply flatMap_eq
  intro x hx
  by_cases hm : mayV X ws.length f x.1.f1 = true
  ·rw [if_pos hm, if_pos hm, fillF_all X n]
   have := fillG_alive X n (ws ++ [(x.2 : Int)]) x.1.f1 (wordF (rwOf X) l (bytesOf x.1.f0))
   rw [List.length_append, List.length_singleton] at this
   exact this
  ·rw [if_neg hm, if_neg hm]
end Go.Proofs.Ytkfebceainedfaa.P.OwnGap
namespace Go.Proofs.Ytkfebceainedfaa.P.OwnGap
open Go.RowKit Go.Proofs.YtkfebceainedfaaW.PrintWords Go.Proofs.YtkfebceainedfaaW.PrintLast Go.Proofs.YtkfebceainedfaaW.PrintMore
open Go.Proofs.Ytkfebceainedfaa.OwnGap
set_option linter.unusedVariables false
set_option linter.unusedSimpArgs false
structure Pre (R R' : Rw) (k : Nat) : Prop where
 n : R'.n = k
 le : k ≤ R.n
 g : ∀ j, j < k → R'.gap j = R.gap j
 f : ∀ j, j < k → R'.fit j = R.fit j
 lo : ∀ j, j < k → R'.lo j = R.lo j
 hi : ∀ j, j < k → R'.hi j = R.hi j
 wl : R'.wl = R.wl
 wh : R'.wh = R.wh
theorem Pre.ok {R R' : Rw} {k : Nat} (h : Pre R R' k) {i : Nat} (hi : i < k) (l m : Int) : okW R' i l m = okW R i l m := by unfold okW; rw [h.lo i hi, h.hi i hi]
theorem Pre.shut {R R' : Rw} {k : Nat} (h : Pre R R' k) {p : Pth} (hi : p.i < k) : shutB R' p = shutB R p := by
 unfold shutB
 rw [h.g _ hi, h.ok hi, decide_eq_true (show p.i < R'.n by rw [h.n]; exact hi), decide_eq_true (show p.i < R.n from Nat.lt_of_lt_of_le hi h.le)]
theorem reach_pre {R R' : Rw} {k : Nat} (h : Pre R R' k) : ∀ (rem d : Nat) (p : Pth), p.i + rem = k → reachF R' rem p = min k (reachF R (rem + d) p)
 | 0, d, p, hp => by
  have := reachF_ge R (0 + d) p
  rw [reachF]
  omega
 | rem + 1, d, p, hp => by
  rw [show rem + 1 + d = (rem + d) + 1 by omega, reachF, reachF, h.shut (by omega)]
  by_cases hs : shutB R p = true
  ·rw [if_pos hs, if_pos hs]
   have e1 : shutP R' p = ⟨p.i + 1, 0, 0, 0, p.fs ++ [(p.m : Int)]⟩ := if_pos (by rw [h.shut (by omega)]; exact hs)
   have e2 : shutP R p = ⟨p.i + 1, 0, 0, 0, p.fs ++ [(p.m : Int)]⟩ := if_pos hs
   rw [e1, e2]
   exact reach_pre h rem d _ (by show p.i + 1 + rem = k; omega)
  ·rw [if_neg hs, if_neg hs]
   omega
theorem letter_pre {R R' : Rw} {k : Nat} (h : Pre R R' k) (a : Int) : ∀ (rem d i m : Nat) (l hh : Int) (fs : List Int), i + rem = k → reachF R' rem ⟨i, m, l, hh, fs⟩ < k → letterF R' rem i m l hh fs a = letterF R (rem + d) i m l hh fs a
 | 0, d, i, m, l, hh, fs, hi, hr => by
  rw [reachF] at hr
  exact absurd hr (by show ¬ i < k; omega)
 | rem + 1, d, i, m, l, hh, fs, hi, hr => by
  have hik : i < k := by omega
  rw [show rem + 1 + d = (rem + d) + 1 by omega, letterF_succ, letterF_succ, h.g i hik, h.f i hik, h.ok hik, h.hi i hik, h.wl, h.wh]
  by_cases hg : R.gap i = false
  ·rw [if_pos hg, if_pos hg]
  ·rw [if_neg hg, if_neg hg]
   congr 1
   by_cases hk : okW R i l hh = true
   ·rw [if_pos hk, if_pos hk]
    refine letter_pre h a rem d (i + 1) 0 0 0 (fs ++ [(m : Int)]) (by omega) ?_
    have hs : shutB R' ⟨i, m, l, hh, fs⟩ = true := by
     rw [h.shut hik]
     unfold shutB
     rw [decide_eq_true (show i < R.n from Nat.lt_of_lt_of_le hik h.le), show R.gap i = true by simpa using hg, hk]
     rfl
    rw [reachF, if_pos hs] at hr
    have e1 : shutP R' ⟨i, m, l, hh, fs⟩ = ⟨i + 1, 0, 0, 0, fs ++ [(m : Int)]⟩ := if_pos hs
    rw [e1] at hr
    exact hr
   ·rw [if_neg hk, if_neg hk]
theorem supN_min (k : Nat) {α : Type} {f g : α → Nat} : ∀ l : List α, (∀ x ∈ l, f x = min k (g x)) → supN (l.map f) = min k (supN (l.map g))
 | [], _ => by simp [supN]
 | x :: l, h => by
  rw [List.map_cons, List.map_cons, supN, supN, h x (by simp), supN_min k l (fun y hy => h y (by simp [hy]))]
  omega
theorem supN_mem {l : List Nat} {a : Nat} (h : a ∈ l) : a ≤ supN l := by
 induction l with
 | nil => cases h
 | cons b l ih =>
  rw [supN]
  rcases List.mem_cons.1 h with rfl | h
  ·exact Nat.le_max_left _ _
  ·exact Nat.le_trans (ih h) (Nat.le_max_right _ _)
def takeX (X : Lx) (k : Nat) : Lx := ⟨X.l0, X.l1, X.l2, X.l3, X.l4, X.r.take k⟩
theorem rd_take {r : List S49} {k j : Nat} (h : j < k) : rd_T49 (r.take k) (j : Int) = rd_T49 r (j : Int) := by
 simp [rd_T49, List.getD_eq_getElem?_getD, List.getElem?_take, h]
theorem takeX_pre (X : Lx) {k : Nat} (hk : k ≤ X.r.length) : Pre (rwOf X) (rwOf (takeX X k)) k := by
 refine ⟨by show (X.r.take k).length = k; rw [List.length_take]; omega, hk, fun j hj => ?_, fun j hj => ?_, fun j hj => ?_, fun j hj => ?_, rfl, rfl⟩
 ·show (rd_T49 (X.r.take k) (j : Int)).f1 = _
  rw [rd_take hj]; rfl
 ·show (fun a => fitB (rd_T49 (X.r.take k) (j : Int)).f0 a) = _
  rw [rd_take hj]; rfl
 ·show (rd_T49 (X.r.take k) (j : Int)).f2.f0 = _
  rw [rd_take hj]; rfl
 ·show (rd_T49 (X.r.take k) (j : Int)).f2.f1 = _
  rw [rd_take hj]; rfl
theorem farF_pre (X : Lx) {k : Nat} (hk : k ≤ X.r.length) : ∀ (n : Nat) (p : Pth) (c : Nat) (f wi : Int) (a : Nat), p.i ≤ k → farF (takeX X k) n p c f wi a = min k (farF X n p c f wi a) := by
 have hP := takeX_pre X hk
 have hr : ∀ p : Pth, p.i ≤ k → reachI (rwOf (takeX X k)) p = min k (reachI (rwOf X) p) := fun p hp => by
  unfold reachI
  rw [hP.n, show (rwOf X).n - p.i = (k - p.i) + (X.r.length - k) by show X.r.length - p.i = _; omega]
  exact reach_pre hP _ _ p (by omega)
 intro n
 induction n with
 | zero =>
  intro p c f wi a hp
  rw [farF, farF]
  exact hr (spotP p) hp
 | succ n ih =>
  intro p c f wi a hp
  have hle := farF_le (takeX X k) (n + 1) p c f wi a (by rw [hP.n]; exact hp)
  rw [hP.n] at hle
  rw [farF] at hle ⊢
  rw [farF]
  have h1 := hr (spotP p) hp
  by_cases hq : reachI (rwOf (takeX X k)) (spotP p) = k
  ·omega
  ·have h2 : reachI (rwOf (takeX X k)) (spotP p) < k := by omega
   have hs : supN (if 0 < c ∧ a < lettersN (takeX X k) wi then (letterP (rwOf (takeX X k)) (spotP p) (bt (rd_T53 (takeX X k).l0 wi).f0 (a : Int))).map fun q => farF (takeX X k) n q c f wi (a + 1) else ((takeX X k).l0.zipIdx).map fun x => if mayV (takeX X k) c f x.1.f1 = true then farF (takeX X k) n p (c + 1) x.1.f1 (x.2 : Int) 0 else 0)
     = min k (supN (if 0 < c ∧ a < lettersN X wi then (letterP (rwOf X) (spotP p) (bt (rd_T53 X.l0 wi).f0 (a : Int))).map fun q => farF X n q c f wi (a + 1) else (X.l0.zipIdx).map fun x => if mayV X c f x.1.f1 = true then farF X n p (c + 1) x.1.f1 (x.2 : Int) 0 else 0)) := by
    by_cases hc : 0 < c ∧ a < lettersN X wi
    ·rw [if_pos hc, if_pos (show 0 < c ∧ a < lettersN (takeX X k) wi from hc)]
     have e : letterP (rwOf (takeX X k)) (spotP p) (bt (rd_T53 (takeX X k).l0 wi).f0 (a : Int)) = letterP (rwOf X) (spotP p) (bt (rd_T53 X.l0 wi).f0 (a : Int)) := by
      unfold letterP
      rw [hP.n, show (rwOf X).n - (spotP p).i = (k - (spotP p).i) + (X.r.length - k) by show X.r.length - p.i = (k - p.i) + _; omega]
      refine letter_pre hP _ _ _ _ _ _ _ _ (by show p.i + (k - p.i) = k; omega) ?_
      have h3 := h2
      unfold reachI at h3
      rw [hP.n] at h3
      exact h3
     rw [← e]
     refine supN_min k _ (fun q hq2 => ih q c f wi (a + 1) ?_)
     have := letterF_le (rwOf (takeX X k)) _ _ _ _ _ _ _ (by show p.i + ((rwOf (takeX X k)).n - p.i) = _; rw [hP.n]; omega) q hq2
     rw [hP.n] at this
     exact this
    ·rw [if_neg hc, if_neg (show ¬ (0 < c ∧ a < lettersN (takeX X k) wi) from hc)]
     refine supN_min k _ (fun x hx => ?_)
     show (if mayV X c f x.1.f1 = true then _ else _) = _
     by_cases hm : mayV X c f x.1.f1 = true
     ·rw [if_pos hm, if_pos hm]
      exact ih p _ _ _ _ hp
     ·rw [if_neg hm, if_neg hm]
      omega
   rw [hs]
   omega
theorem farV_take (X : Lx) {k : Nat} (hk : k ≤ X.r.length) : farV (takeX X k) p0 0 0 0 0 = min k (farV X p0 0 0 0 0) := farF_pre X hk _ p0 0 0 0 0 (Nat.zero_le _)
theorem done_reach (R : Rw) : ∀ (rem i m : Nat) (l h : Int) (fs gs : List Int), i + rem = R.n → doneF R rem i m l h fs = some gs → reachF R rem ⟨i, m, l, h, []⟩ = R.n ∧ ∀ e, reachF R rem ⟨i, m, l, h, e⟩ = R.n
 | 0, i, m, l, h, fs, gs, hi, _ => by
  refine ⟨?_, fun e => ?_⟩ <;> (rw [reachF]; exact hi)
 | rem + 1, i, m, l, h, fs, gs, hi, hd => by
  rw [doneF] at hd
  by_cases hc : R.gap i = true ∧ okW R i l h = true
  ·rw [if_pos hc] at hd
   have key : ∀ e, reachF R (rem + 1) ⟨i, m, l, h, e⟩ = R.n := fun e => by
    have hs : shutB R ⟨i, m, l, h, e⟩ = true := by
     unfold shutB
     rw [decide_eq_true (show i < R.n by omega), hc.1, hc.2]
     rfl
    rw [reachF, if_pos hs]
    have e1 : shutP R ⟨i, m, l, h, e⟩ = ⟨i + 1, 0, 0, 0, e ++ [(m : Int)]⟩ := if_pos hs
    rw [e1]
    exact (done_reach R rem (i + 1) 0 0 0 _ gs (by omega) hd).2 _
   exact ⟨key _, key⟩
  ·rw [if_neg hc] at hd
   cases hd
theorem word_far (X : Lx) (h8 : ∀ j : Int, lettersN X j ≤ 8) (k : Nat) (f wi : Int) (hk : 0 < k) : ∀ (t : List Int) (a : Nat) (p q : Pth), (bytesOf (rd_T53 X.l0 wi).f0).drop a = t → q ∈ wordF (rwOf X) [p] t → farV X q k f wi (lettersN X wi) ≤ farV X p k f wi a
 | [], a, p, q, ht, hq => by
  obtain rfl : q = p := by simpa [wordF] using hq
  have ha : lettersN X wi ≤ a := by
   have := congrArg List.length ht
   rw [List.length_drop, bytesOf_length] at this
   show (rd_T53 X.l0 wi).f0.size ≤ a
   simp at this
   omega
  rw [farV_step X h8, farV_step X h8, if_neg (by omega), if_neg (by omega)]
  exact Nat.le_refl _
 | b :: t, a, p, q, ht, hq => by
  have hl : a < lettersN X wi := by
   have := congrArg List.length ht
   rw [List.length_drop, bytesOf_length] at this
   show a < (rd_T53 X.l0 wi).f0.size
   simp at this
   omega
  have hb : b = bt (rd_T53 X.l0 wi).f0 (a : Int) := by
   have h1 : (bytesOf (rd_T53 X.l0 wi).f0)[a]? = some b := by
    have := congrArg (fun l => l[0]?) ht
    simpa [List.getElem?_drop] using this
   rw [← rd_bytesOf]
   simp [rd, List.getD_eq_getElem?_getD, h1]
  have ht2 : (bytesOf (rd_T53 X.l0 wi).f0).drop (a + 1) = t := by
   have := congrArg List.tail ht
   simpa [List.tail_drop] using this
  have hq2 : q ∈ wordF (rwOf X) (letterP (rwOf X) p b) t := by simpa [wordF] using hq
  rw [wordF_flat] at hq2
  obtain ⟨q1, h1, h2⟩ := List.mem_flatMap.1 hq2
  refine Nat.le_trans (word_far X h8 k f wi hk t (a + 1) q1 q ht2 h2) ?_
  rw [farV_step X h8 p, if_pos ⟨hk, hl⟩]
  refine Nat.le_trans (supN_mem ?_) (Nat.le_max_right _ _)
  rw [show p = addFs p.fs (spotP p) from (addFs_spot p).symm, letterP_add] at h1
  obtain ⟨q0, h0, rfl⟩ := List.mem_map.1 h1
  rw [farV_spot (p := addFs p.fs q0) (q := q0) rfl, hb] at *
  exact List.mem_map.2 ⟨q0, h0, rfl⟩
theorem fill_far (X : Lx) (h8 : ∀ j : Int, lettersN X j ≤ 8) : ∀ (n : Nat) (ws : List Int) (f : Int) (l : List Pth) (x : List Int × List Int), (∀ p ∈ l, p.i ≤ (rwOf X).n) → x ∈ fillF X n ws f l → ∀ (wi : Int) (a : Nat), ¬ (0 < ws.length ∧ a < lettersN X wi) → ∃ p ∈ l, (rwOf X).n ≤ farV X p ws.length f wi a := by
 have hend : ∀ (ws : List Int) (f : Int) (l : List Pth) (x : List Int × List Int), (∀ p ∈ l, p.i ≤ (rwOf X).n) → x ∈ endsF X ws f l → ∀ (wi : Int) (a : Nat), ∃ p ∈ l, (rwOf X).n ≤ farV X p ws.length f wi a := by
  intro ws f l x hl hx wi a
  unfold endsF at hx
  by_cases hc : (decide (0 < ws.length) && rdOf false X.l2 f) = true
  ·rw [if_pos hc] at hx
   obtain ⟨fs, hf, -⟩ := List.mem_map.1 hx
   obtain ⟨p, hp, hd⟩ := List.mem_filterMap.1 hf
   refine ⟨p, hp, ?_⟩
   rw [farV_step X h8]
   have := (done_reach (rwOf X) _ _ _ _ _ _ _ (by have := hl p hp; omega) hd).1
   exact Nat.le_trans (Nat.le_of_eq this.symm) (Nat.le_max_left _ _)
  ·rw [if_neg hc] at hx
   cases hx
 intro n
 induction n with
 | zero =>
  intro ws f l x hl hx wi a ha
  exact hend ws f l x hl hx wi a
 | succ n ih =>
  intro ws f l x hl hx wi a ha
  rw [fillF] at hx
  rcases List.mem_append.1 hx with hx | hx
  ·exact hend ws f l x hl hx wi a
  ·obtain ⟨w, hw, hx⟩ := List.mem_flatMap.1 hx
   by_cases hm : mayV X ws.length f w.1.f1 = true
   ·rw [if_pos hm] at hx
    obtain ⟨q, hq, hn⟩ := ih (ws ++ [(w.2 : Int)]) _ _ x (fun q hq => by
     have h1 := (List.mem_filter.1 hq).1
     exact wordF_le (rwOf X) _ l hl q h1) hx (w.2 : Int) (lettersN X (w.2 : Int)) (by omega)
    have h1 := (List.mem_filter.1 hq).1
    rw [wordF_flat] at h1
    obtain ⟨p, hp, h2⟩ := List.mem_flatMap.1 h1
    refine ⟨p, hp, Nat.le_trans hn ?_⟩
    rw [List.length_append, List.length_singleton]
    have hwd : rd_T53 X.l0 (w.2 : Int) = w.1 := by
     obtain ⟨h3, h4, h5⟩ := List.mem_zipIdx hw
     rw [h5]
     simp [rd_T53, List.getD_eq_getElem?_getD, show w.2 < X.l0.length by omega]
    have h6 := word_far X h8 (ws.length + 1) w.1.f1 (w.2 : Int) (Nat.succ_pos _) _ 0 p q (by rw [List.drop_zero, hwd]) h2
    refine Nat.le_trans h6 ?_
    rw [farV_step X h8 p ws.length, if_neg ha]
    refine Nat.le_trans (supN_mem ?_) (Nat.le_max_right _ _)
    refine List.mem_map.2 ⟨w, hw, ?_⟩
    rw [if_pos hm]
   ·rw [if_neg hm] at hx
    cases hx
end Go.Proofs.Ytkfebceainedfaa.P.OwnGap
namespace Go.Proofs.Ytkfebceainedfaa.P.OwnUrn
open Go.RowKit Go.Proofs.YtkfebceainedfaaW.PrintWords Go.Proofs.YtkfebceainedfaaW.PrintLast Go.Proofs.YtkfebceainedfaaW.PrintMore
def urnGo : List Int → Int → Int → Option (Int × Int)
 | [], a, b => some (a, b)
 | x :: xs, a, b => (cippuskit_Urn_turn.f a (IntKind.u64.wrap (b + IntKind.u64.wrap x))).bind fun t => (cippuskit_Urn_turn.f t.2.1 t.2.2).bind fun t2 => urnGo xs t2.2.1 t2.2.2
def newUrn (l : List Int) : Option (Int × Int) := if l.length < 4611686018427387904 then urnGo l 11400714819323198485 14029467366897019727 else none
end Go.Proofs.Ytkfebceainedfaa.P.OwnUrn
namespace Go.Proofs.Ytkfebceainedfaa.P.OwnUrn
open Go.RowKit Go.Proofs.YtkfebceainedfaaW.PrintWords Go.Proofs.YtkfebceainedfaaW.PrintLast Go.Proofs.YtkfebceainedfaaW.PrintMore
set_option linter.unusedVariables false
theorem below_of_keep {w0 w W W' : World} {g : Nat} (h0 : Below w0.heap.size w0 w) (h1 : Below w0.heap.size w0 W') (hw : Below w.heap.size w W) (hk : KeepBut W W' g none) (hg : w.heap.size ≤ g) : Below w.heap.size w W' :=
 ⟨h1.os.trans h0.os.symm, h1.tape.trans h0.tape.symm, h1.output.trans h0.output.symm, Nat.le_trans hw.size hk.1, fun k hk' => (hk.2 k (Nat.lt_of_lt_of_le hk' hw.size) (by omega) (by simp)).trans (hw.block k hk')⟩
def RelNew (w0 w : World) (l0 : List Int) (r1 r2 : Int) (k : Nat) (wr : World) : Prop :=
 ∃ a b : Int, IsS83 w0 wr w.heap.size a b ∧ Below w0.heap.size w0 wr ∧ Below w.heap.size w wr ∧ urnGo (l0.drop k) a b = some (r1, r2)
set_option maxHeartbeats 4000000 in
set_option maxRecDepth 100000 in
theorem newUrn_calls (A0 : Option Addr) (c0 : Nat) (l0 : List Int) (r1 : Int) (r2 : Int) (w0 w : World) (hB : Below w0.heap.size w0 w) (hr0 : Kd.C (Kd.int .i64) w0 A0 l0.length l0) (hc0 : l0.length ≤ c0) (h : newUrn l0 = some (r1, r2)) :
  Calls Try.prog 12 #[.slice A0 l0.length c0] w fun e w' => ∃ g_ : Nat, e = .returned (.pointer (some ⟨g_, 0, none⟩)) ∧ IsS83 w0 w' g_ r1 r2 ∧ Below w0.heap.size w0 w' ∧ Below w.heap.size w w' := by
 have hlen : l0.length < 4611686018427387904 := by
  unfold newUrn at h
  split at h
  ·assumption
  ·cases h
 rw [newUrn, if_pos hlen] at h
 have H := Lib.hid h; clear h
 have HB := Aside0.mk hB; clear hB
 have HR := Aside0.mk hr0; clear hr0
 go_enter Try.func12, Try.ntmps12
 go_wp2
 go_loopw [4] (fun v wr => ∃ k : Nat, v = .int .i64 k ∧ k ≤ l0.length ∧ RelNew w0 w l0 r1 r2 k wr) (fun v _ => l0.length - (intOf v).toNat)
 case atStart =>
  refine ⟨0, rfl, Nat.zero_le _, _, _, IsS83.new w0 w _ _ HB.out, ?_, ?_, H.out⟩
  ·exact HB.out.alloc HB.out.size _
  ·exact (Below.refl _ _).alloc (Nat.le_refl _) _
 case round =>
  obtain ⟨k, rfl, hk, a, b, hI, hb0, hb1, hg⟩ := hrel
  by_cases hlt : k < l0.length
  ·obtain ⟨ad, e, hx⟩ := Kd.at_int HR.out (k : Int) (by omega) (by omega)
   subst e
   simp only [Int.toNat_natCast] at hx
   replace hx := (hb0.cell (World.block_lt_of_cell? w0 _ hx)).trans hx
   obtain ⟨HG, hg0⟩ := id hI
   have hc0 := cellS83_0 HG
   have hc1 := cellS83_1 HG
   have hf0 := blk_frozen HG 0
   have hf1 := blk_frozen HG 1
   have hlt' : (k : Int) < (l0.length : Int) := by omega
   have hd : l0.drop k = rd l0 k :: l0.drop (k + 1) := by rw [List.drop_eq_getElem_cons hlt]; simp [rd, List.getD_eq_getElem?_getD, hlt]
   rw [hd, urnGo, Option.bind_eq_some_iff] at hg
   obtain ⟨⟨t1, t2, t3⟩, ht, hg⟩ := hg
   rw [Option.bind_eq_some_iff] at hg
   obtain ⟨⟨u1, u2, u3⟩, hu, hg⟩ := hg
   dsimp only at hu hg
   have HT := Aside0.mk ht; clear ht
   have HU := Aside0.mk hu; clear hu
   have HG2 := Aside0.mk hg; clear hg hd
   go_wp2_with fail
   go_region
   go_wp2_with fail
   refine (cippuskit_Urn_turn.calls _ _ _ _ _ _ w0 _ ((hI.set_1 _).drew) (below_drew (below_set hb0 hg0)) HT.out).mono ?_
   rintro e w1 ⟨rfl, hI1, hB1, hK1⟩
   go_wp2_with fail
   refine (cippuskit_Urn_turn.calls _ _ _ _ _ _ w0 _ hI1 hB1 HU.out).mono ?_
   rintro e w2 ⟨rfl, hI2, hB2, hK2⟩
   go_wp2_with fail
   go_roundw
   case rel =>
    refine ⟨k + 1, by go_num, by omega, _, _, hI2, hB2, ?_, HG2.out⟩
    exact below_of_keep HB.out hB2 (below_of_keep HB.out hB1 (below_drew (below_set hb1 (Nat.le_refl _))) hK1 (Nat.le_refl _)) hK2 (Nat.le_refl _)
   case measure => simp [intOf]; omega
  ·go_wp2
   go_ret
   refine ⟨_, rfl, ?_, hb0, hb1⟩
   rw [List.drop_of_length_le (by omega)] at hg
   simp only [urnGo, Option.some.injEq, Prod.mk.injEq] at hg
   obtain ⟨rfl, rfl⟩ := hg
   exact hI
end Go.Proofs.Ytkfebceainedfaa.P.OwnUrn
namespace Go.Proofs.Ytkfebceainedfaa.P
open Go.RowKit Go.Proofs.YtkfebceainedfaaW.PrintWords Go.Proofs.YtkfebceainedfaaW.PrintLast Go.Proofs.YtkfebceainedfaaW.PrintMore
attribute [local go_sem] max2_int min2_int max_two min_two max_three min_three max_four min_four   -- for this text's walks alone
set_option linter.unusedVariables false
set_option linter.unusedSimpArgs false
def cippuskit_NewUrn.f (l0 : List Int) : Option (Int × Int) := OwnUrn.newUrn l0
theorem cippuskit_NewUrn.calls (A0 : Option Addr) (c0 : Nat) (l0 : List Int) (r1 : Int) (r2 : Int) (w0 w : World) (hB : Below w0.heap.size w0 w) (hr0 : Kd.C (Kd.int .i64) w0 A0 l0.length l0) (hc0 : l0.length ≤ c0) (h : cippuskit_NewUrn.f l0 = some (r1, r2)) :
  Calls Try.prog 12 #[.slice A0 l0.length c0] w fun e w' => ∃ g_ : Nat, e = .returned (.pointer (some ⟨g_, 0, none⟩)) ∧ IsS83 w0 w' g_ r1 r2 ∧ Below w0.heap.size w0 w' ∧ Below w.heap.size w w' := by
 exact OwnUrn.newUrn_calls A0 c0 l0 r1 r2 w0 w hB hr0 hc0 h
end Go.Proofs.Ytkfebceainedfaa.P
namespace Go.Proofs.Ytkfebceainedfaa.P
open Go.RowKit Go.Proofs.YtkfebceainedfaaW.PrintWords Go.Proofs.YtkfebceainedfaaW.PrintLast Go.Proofs.YtkfebceainedfaaW.PrintMore
attribute [local go_sem] max2_int min2_int max_two min_two max_three min_three max_four min_four   -- for this text's walks alone
set_option linter.unusedVariables false
set_option linter.unusedSimpArgs false
def cippuskit_SameInts.l0 : Nat → List Int → List Int → Bool → Int → Option (Bool)
 | 0, _, _, _, _ => none
 | k + 1, x0, x1, x5, x6 => if x5 = true then (if x6 < (x0.length : Int) then (if 0 ≤ x6 then (if x6 < (x1.length : Int) then (cippuskit_SameInts.l0 k x0 x1 ((rd x0 x6) == (rd x1 x6)) (wrap64 (x6 + 1))) else (none)) else (none)) else (some x5)) else (some x5)
def cippuskit_SameInts.f (k : Nat) (l0 : List Int) (l1 : List Int) : Option (Bool) := cippuskit_SameInts.l0 k l0 l1 ((l0.length : Int) == (l1.length : Int)) 0
set_option maxHeartbeats 8000000 in
set_option maxRecDepth 100000 in
theorem cippuskit_SameInts.calls (k : Nat) (A0 : Option Addr) (c0 : Nat) (l0 : List Int) (A1 : Option Addr) (c1 : Nat) (l1 : List Int) (r : Bool) (w : World) (hr0 : Kd.C (Kd.int .i64) w A0 l0.length l0) (hc0 : l0.length ≤ c0) (hr1 : Kd.C (Kd.int .i64) w A1 l1.length l1) (hc1 : l1.length ≤ c1) (h : cippuskit_SameInts.f k l0 l1 = some r) :
  Calls Try.prog 55 #[.slice A0 l0.length c0, .slice A1 l1.length c1] w fun e w' => e = .returned (.bool r) ∧ Drawn0 w w' := by
 have HR0 := Aside0.mk hr0
 have HC0 := Aside0.mk hc0
 clear hr0 hc0
 have HR1 := Aside0.mk hr1
 have HC1 := Aside0.mk hc1
 clear hr1 hc1
 have H : (cippuskit_SameInts.l0 k l0 l1 ((l0.length : Int) == (l1.length : Int)) 0) = some r := h
 clear h
 have H' := Aside0.mk H
 clear H
 go_enter Try.func55, Try.ntmps55
 go_wp2
 repeat (go_quiet (fail); try go_wp2)
 go_loopg [5, 6] k (fun kq v5 v6 w' => ∃ (x5_1 : Bool) (x6_1 : Int), v5 = .bool x5_1 ∧ v6 = .int .i64 x6_1 ∧ Aside0 (cippuskit_SameInts.l0 kq l0 l1 x5_1 x6_1 = some r) ∧ Aside0 (kq ≤ k) ∧ Drawn0 w w')
 case atStart => exact ⟨(((l0.length : Int) == (l1.length : Int))), (0), uS, uS, H', ⟨Nat.le_refl _⟩, by repeat (first | exact Drawn0.refl _ | apply Drawn0.step)⟩
 case round =>
  clear H'
  try clear c1
  try clear p2
  obtain ⟨x5_1, x6_1, rfl, rfl, HA, HK1, ⟨m1, rfl⟩⟩ := hrel
  cases gk with
  | zero => exact absurd HA.out (by simp [cippuskit_SameInts.l0])
  | succ k1 =>
   have H := HA.out
   clear HA
   simp only [cippuskit_SameInts.l0] at H
   by_cases c3 : x5_1 = true
   ·subst c3
    have H1 : (if x6_1 < (l0.length : Int) then (if 0 ≤ x6_1 then (if x6_1 < (l1.length : Int) then (cippuskit_SameInts.l0 k1 l0 l1 ((rd l0 x6_1) == (rd l1 x6_1)) (wrap64 (x6_1 + 1))) else (none)) else (none)) else (some true)) = some r := by rw [if_pos rfl] at H; exact H
    clear H
    have H := H1
    clear H1
    by_cases c4 : x6_1 < (l0.length : Int)
    ·rw [if_pos c4] at H
     have c4b0 : decide (x6_1 < (l0.length : Int)) = true := decide_eq_true c4
     clear c4
     by_cases c5 : 0 ≤ x6_1
     ·rw [if_pos c5] at H
      have c5b0 : decide (0 ≤ x6_1) = true := decide_eq_true c5
      clear c5
      by_cases c6 : x6_1 < (l1.length : Int)
      ·rw [if_pos c6] at H
       have c6b0 : decide (x6_1 < (l1.length : Int)) = true := decide_eq_true c6
       clear c6
       have H' := Aside0.mk H
       clear H
       have p339 : 0 ≤ (x6_1 : Int) := of_decide_eq_true ua
       have q339 : x6_1 < (l0.length : Int) := of_decide_eq_true ua
       obtain ⟨ad339, e339, hx339_0⟩ := Kd.at_int HR0.out x6_1 p339 q339
       cases e339
       replace p339 := eq_true p339
       replace q339 := eq_true q339
       have p340 : 0 ≤ (x6_1 : Int) := of_decide_eq_true ua
       have q340 : x6_1 < (l1.length : Int) := of_decide_eq_true ua
       obtain ⟨ad340, e340, hx340_0⟩ := Kd.at_int HR1.out x6_1 p340 q340
       cases e340
       replace p340 := eq_true p340
       replace q340 := eq_true q340
       go_wp2
       repeat (go_quiet (fail); try go_wp2)
       go_roundg k1
       case measure => have := HK1.out; omega
       case rel => exact ⟨(((rd l0 x6_1) == (rd l1 x6_1))), (wrap64 (x6_1 + 1)), uS, uS, H', ⟨by have := HK1.out; omega⟩, by repeat (first | exact Drawn0.refl _ | apply Drawn0.step)⟩
      ·rw [if_neg c6] at H
       exact absurd H (by simp)
     ·rw [if_neg c5] at H
      exact absurd H (by simp)
    ·rw [if_neg c4] at H
     have c4b0 : decide (x6_1 < (l0.length : Int)) = false := decide_eq_false c4
     clear c4
     obtain rfl := Option.some.inj H
     go_wp2
     repeat (go_quiet (fail); try go_wp2)
     go_ret
     exact ⟨by first | rfl | (simp; done) | (simp [*]; done), by repeat (first | exact Drawn0.refl _ | apply Drawn0.step)⟩
   ·replace c3 := Bool.eq_false_iff.mpr c3
    subst c3
    have H1 : (some false) = some r := by rw [if_neg (show ¬ (false = true) by decide)] at H; exact H
    clear H
    have H := H1
    clear H1
    obtain rfl := Option.some.inj H
    go_wp2
    repeat (go_quiet (fail); try go_wp2)
    go_ret
    exact ⟨by first | rfl | (simp; done) | (simp [*]; done), by repeat (first | exact Drawn0.refl _ | apply Drawn0.step)⟩
end Go.Proofs.Ytkfebceainedfaa.P
namespace Go.Proofs.Ytkfebceainedfaa.P
open Go.RowKit Go.Proofs.YtkfebceainedfaaW.PrintWords Go.Proofs.YtkfebceainedfaaW.PrintLast Go.Proofs.YtkfebceainedfaaW.PrintMore
attribute [local go_sem] max2_int min2_int max_two min_two max_three min_three max_four min_four   -- for this text's walks alone
set_option linter.unusedVariables false
set_option linter.unusedSimpArgs false
def cippuskit_SameFilling.f (k : Nat) (l0_0 : List Int) (l0_1 : List Int) (l1_0 : List Int) (l1_1 : List Int) : Option (Bool) := (cippuskit_SameInts.f k l0_0 l1_0).bind fun t343 => (if t343 = true then ((cippuskit_SameInts.f k l0_1 l1_1).bind fun t344 => (some t344)) else (some false))
set_option maxHeartbeats 8000000 in
set_option maxRecDepth 100000 in
theorem cippuskit_SameFilling.calls (k : Nat) (A0_0 : Option Addr) (c0_0 : Nat) (l0_0 : List Int) (A0_1 : Option Addr) (c0_1 : Nat) (l0_1 : List Int) (A1_0 : Option Addr) (c1_0 : Nat) (l1_0 : List Int) (A1_1 : Option Addr) (c1_1 : Nat) (l1_1 : List Int) (r : Bool) (w : World) (hr0_0 : Kd.C (Kd.int .i64) w A0_0 l0_0.length l0_0) (hc0_0 : l0_0.length ≤ c0_0) (hr0_1 : Kd.C (Kd.int .i64) w A0_1 l0_1.length l0_1) (hc0_1 : l0_1.length ≤ c0_1) (hr1_0 : Kd.C (Kd.int .i64) w A1_0 l1_0.length l1_0) (hc1_0 : l1_0.length ≤ c1_0) (hr1_1 : Kd.C (Kd.int .i64) w A1_1 l1_1.length l1_1) (hc1_1 : l1_1.length ≤ c1_1) (h : cippuskit_SameFilling.f k l0_0 l0_1 l1_0 l1_1 = some r) :
  Calls Try.prog 35 #[.agg #[.slice A0_0 l0_0.length c0_0, .slice A0_1 l0_1.length c0_1], .agg #[.slice A1_0 l1_0.length c1_0, .slice A1_1 l1_1.length c1_1]] w fun e w' => e = .returned (.bool r) ∧ Below w.heap.size w w' := by
 have hu31 := Try.underlying31
 have HR0_0 := Aside0.mk hr0_0
 have HC0_0 := Aside0.mk hc0_0
 clear hr0_0 hc0_0
 have HR0_1 := Aside0.mk hr0_1
 have HC0_1 := Aside0.mk hc0_1
 clear hr0_1 hc0_1
 have HR1_0 := Aside0.mk hr1_0
 have HC1_0 := Aside0.mk hc1_0
 clear hr1_0 hc1_0
 have HR1_1 := Aside0.mk hr1_1
 have HC1_1 := Aside0.mk hc1_1
 clear hr1_1 hc1_1
 have HB := Aside0.mk (Below.refl w.heap.size w)
 have H : ((cippuskit_SameInts.f k l0_0 l1_0).bind fun t343 => (if t343 = true then ((cippuskit_SameInts.f k l0_1 l1_1).bind fun t344 => (some t344)) else (some false))) = some r := h
 clear h
 replace H := Option.bind_eq_some_iff.mp H
 obtain ⟨t343, A30, H⟩ := H
 replace H : (if t343 = true then ((cippuskit_SameInts.f k l0_1 l1_1).bind fun t344 => (some t344)) else (some false)) = some r := H
 have A3 := Aside0.mk A30
 clear A30
 by_cases c4 : t343 = true
 ·subst c4
  have H1 : ((cippuskit_SameInts.f k l0_1 l1_1).bind fun t344 => (some t344)) = some r := by rw [if_pos rfl] at H; exact H
  clear H
  have H := H1
  clear H1
  replace H := Option.bind_eq_some_iff.mp H
  obtain ⟨t344, A50, H⟩ := H
  replace H : (some t344) = some r := H
  have A5 := Aside0.mk A50
  clear A50
  obtain rfl := Option.some.inj H
  go_enter Try.func35, Try.ntmps35
  go_wp2_with (first | ((with_reducible refine gate_dst (N := 2) rfl ?_); refine box_event ?hg (N := 2) ?hd (cs := #[.slice A0_0 l0_0.length c0_0, .slice A0_1 l0_1.length c0_1]) (t := 31) ?hr ?_; (case hd => rfl); (case hg => rfl); (case hr => first | (go_simp; done) | (go_simp; rfl)); intro gb341 hg w6 hbox hb; have BK341 := Aside0.mk (hbox); have GW341 := Aside0.mk ((by rw [hg]; exact (below_size (uB HB)) : w.heap.size ≤ gb341)); have GE341 := Aside0.mk ((by rw [hg]; exact (below_size (uB HB)) : w.heap.size ≤ gb341)); replace HB := Aside0.mk (below_step (uB HB) hb); clear hb hbox hg) | ((with_reducible refine gate_dst (N := 3) rfl ?_); refine box_event ?hg (N := 3) ?hd (cs := #[.slice A1_0 l1_0.length c1_0, .slice A1_1 l1_1.length c1_1]) (t := 31) ?hr ?_; (case hd => rfl); (case hg => rfl); (case hr => first | (go_simp; done) | (go_simp; rfl)); intro gb342 hg w7 hbox hb; have BK342 := Aside0.mk (hbox); have GW342 := Aside0.mk ((by rw [hg]; exact (below_size (uB HB)) : w.heap.size ≤ gb342)); have GE342 := Aside0.mk ((by rw [hg]; exact (below_size (uB HB)) : w.heap.size ≤ gb342)); have NB341_342 := Aside0.mk ((by rw [hg]; exact Nat.ne_of_lt (blk_lt (uk BK341)) : gb341 ≠ gb342)); have NB342_341 := Aside0.mk ((by rw [hg]; exact Nat.ne_of_gt (blk_lt (uk BK341)) : gb342 ≠ gb341)); replace BK341 := Aside0.mk (blk_below (uk BK341) hb); replace HB := Aside0.mk (below_step (uB HB) hb); clear hb hbox hg; have hnb8 := NB341_342.out; have hnc8 := NB342_341.out; have hcz9_0 := uc (w := w7) BK341 0; have hcz9_1 := uc (w := w7) BK341 1; have hfz9_0 := blk_frozen BK341.out 0; have hfz9_1 := blk_frozen BK341.out 1; have hcz10_0 := uc (w := w7) BK342 0; have hcz10_1 := uc (w := w7) BK342 1; have hfz10_0 := blk_frozen BK342.out 0; have hfz10_1 := blk_frozen BK342.out 1) | ((with_reducible refine gate_callee (f := 55) rfl ?_); refine goesL_ (some 9) rfl rfl Try.func55 (by kernel_rfl) rfl #[.slice A0_0 l0_0.length c0_0, .slice A1_0 l1_0.length c1_0] rfl uA ?_; (with_reducible refine (cippuskit_SameInts.calls k _ _ l0_0 _ _ l1_0 true _ ?side1 ?side2 ?side3 ?side4 A3.out).mono ?_); (case side1 => exact uD (Kd.C_below HR0_0.out HB.out)); (case side2 => exact HC0_0.out); (case side3 => exact uD (Kd.C_below HR1_0.out HB.out)); (case side4 => exact HC1_0.out); rintro e w' ⟨rfl, ⟨nd, rfl⟩⟩; refine ⟨_, rfl, ?_⟩) | (go_at_call 55; (with_reducible refine (cippuskit_SameInts.calls k _ _ l0_1 _ _ l1_1 t344 _ ?side1 ?side2 ?side3 ?side4 A5.out).mono ?_); (case side1 => exact uD (Kd.C_below HR0_1.out (uB HB))); (case side2 => exact HC0_1.out); (case side3 => exact uD (Kd.C_below HR1_1.out (uB HB))); (case side4 => exact HC1_1.out); rintro e w' ⟨rfl, ⟨nd, rfl⟩⟩))
  go_ret
  exact ⟨uE, uB HB⟩
 ·replace c4 := Bool.eq_false_iff.mpr c4
  subst c4
  have H1 : (some false) = some r := by rw [if_neg (show ¬ (false = true) by decide)] at H; exact H
  clear H
  have H := H1
  clear H1
  obtain rfl := Option.some.inj H
  go_enter Try.func35, Try.ntmps35
  go_wp2_with (first | ((with_reducible refine gate_dst (N := 2) rfl ?_); refine box_event ?hg (N := 2) ?hd (cs := #[.slice A0_0 l0_0.length c0_0, .slice A0_1 l0_1.length c0_1]) (t := 31) ?hr ?_; (case hd => rfl); (case hg => rfl); (case hr => first | (go_simp; done) | (go_simp; rfl)); intro gb341 hg w11 hbox hb; have BK341 := Aside0.mk (hbox); have GW341 := Aside0.mk ((by rw [hg]; exact (below_size (uB HB)) : w.heap.size ≤ gb341)); have GE341 := Aside0.mk ((by rw [hg]; exact (below_size (uB HB)) : w.heap.size ≤ gb341)); replace HB := Aside0.mk (below_step (uB HB) hb); clear hb hbox hg) | ((with_reducible refine gate_dst (N := 3) rfl ?_); refine box_event ?hg (N := 3) ?hd (cs := #[.slice A1_0 l1_0.length c1_0, .slice A1_1 l1_1.length c1_1]) (t := 31) ?hr ?_; (case hd => rfl); (case hg => rfl); (case hr => first | (go_simp; done) | (go_simp; rfl)); intro gb342 hg w12 hbox hb; have BK342 := Aside0.mk (hbox); have GW342 := Aside0.mk ((by rw [hg]; exact (below_size (uB HB)) : w.heap.size ≤ gb342)); have GE342 := Aside0.mk ((by rw [hg]; exact (below_size (uB HB)) : w.heap.size ≤ gb342)); have NB341_342 := Aside0.mk ((by rw [hg]; exact Nat.ne_of_lt (blk_lt (uk BK341)) : gb341 ≠ gb342)); have NB342_341 := Aside0.mk ((by rw [hg]; exact Nat.ne_of_gt (blk_lt (uk BK341)) : gb342 ≠ gb341)); replace BK341 := Aside0.mk (blk_below (uk BK341) hb); replace HB := Aside0.mk (below_step (uB HB) hb); clear hb hbox hg; have hnb13 := NB341_342.out; have hnc13 := NB342_341.out; have hcz14_0 := uc (w := w12) BK341 0; have hcz14_1 := uc (w := w12) BK341 1; have hfz14_0 := blk_frozen BK341.out 0; have hfz14_1 := blk_frozen BK341.out 1; have hcz15_0 := uc (w := w12) BK342 0; have hcz15_1 := uc (w := w12) BK342 1; have hfz15_0 := blk_frozen BK342.out 0; have hfz15_1 := blk_frozen BK342.out 1) | ((with_reducible refine gate_callee (f := 55) rfl ?_); refine goesL_ (some 9) rfl rfl Try.func55 (by kernel_rfl) rfl #[.slice A0_0 l0_0.length c0_0, .slice A1_0 l1_0.length c1_0] rfl uA ?_; (with_reducible refine (cippuskit_SameInts.calls k _ _ l0_0 _ _ l1_0 false _ ?side1 ?side2 ?side3 ?side4 A3.out).mono ?_); (case side1 => exact uD (Kd.C_below HR0_0.out HB.out)); (case side2 => exact HC0_0.out); (case side3 => exact uD (Kd.C_below HR1_0.out HB.out)); (case side4 => exact HC1_0.out); rintro e w' ⟨rfl, ⟨nd, rfl⟩⟩; refine ⟨_, rfl, ?_⟩))
  go_ret
  exact ⟨uE, uB HB⟩
end Go.Proofs.Ytkfebceainedfaa.P
namespace Go.Proofs.Ytkfebceainedfaa.P
open Go.RowKit Go.Proofs.YtkfebceainedfaaW.PrintWords Go.Proofs.YtkfebceainedfaaW.PrintLast Go.Proofs.YtkfebceainedfaaW.PrintMore
attribute [local go_sem] max2_int min2_int max_two min_two max_three min_three max_four min_four   -- for this text's walks alone
set_option linter.unusedVariables false
set_option linter.unusedSimpArgs false
end Go.Proofs.Ytkfebceainedfaa.P
namespace Go.Proofs.Ytkfebceainedfaa.P
open Go.RowKit Go.Proofs.YtkfebceainedfaaW.PrintWords Go.Proofs.YtkfebceainedfaaW.PrintLast Go.Proofs.YtkfebceainedfaaW.PrintMore
attribute [local go_sem] max2_int min2_int max_two min_two max_three min_three max_four min_four   -- for this text's walks alone
set_option linter.unusedVariables false
set_option linter.unusedSimpArgs false
def cippuskit_Urn_Up.f (s0_0 : Int) (s0_1 : Int) (a1 : Int) : Option (Int × Int × Int) := if a1 < 2 then (some (0, s0_0, s0_1)) else ((cippuskit_Urn_turn.f s0_0 s0_1).bind fun bt133 => (if (IntKind.u64.wrap (a1)) = 0 then (none) else (some (wrap64 (Int.tmod (bt133.1 / 2048) (IntKind.u64.wrap (a1))), bt133.2.1, bt133.2.2))))
set_option maxHeartbeats 8000000 in
set_option maxRecDepth 100000 in
theorem cippuskit_Urn_Up.calls (g : Nat) (s0_0 : Int) (s0_1 : Int) (a1 : Int) (r1 : Int) (r2 : Int) (r3 : Int) (w0 w : World) (hI : IsS83 w0 w g s0_0 s0_1) (hB : Below w0.heap.size w0 w) (h : cippuskit_Urn_Up.f s0_0 s0_1 a1 = some (r1, r2, r3)) :
  Calls Try.prog 30 #[.pointer (some ⟨g, 0, none⟩), .int .i64 a1] w fun e w' => e = .returned (.int .i64 r1) ∧ IsS83 w0 w' g r2 r3 ∧ Below w0.heap.size w0 w' ∧ KeepBut w w' g none := by
 have HI0 := Aside0.mk hI
 have HK := Aside0.mk (KeepBut.refl w g none)
 have HL := Aside0.mk hB.size
 clear hI
 have HW0 := Aside0.mk hB.size
 have HB := Aside0.mk hB
 clear hB
 have H : (if a1 < 2 then (some (0, s0_0, s0_1)) else ((cippuskit_Urn_turn.f s0_0 s0_1).bind fun bt133 => (if (IntKind.u64.wrap (a1)) = 0 then (none) else (some (wrap64 (Int.tmod (bt133.1 / 2048) (IntKind.u64.wrap (a1))), bt133.2.1, bt133.2.2))))) = some (r1, r2, r3) := h
 clear h
 by_cases c3 : a1 < 2
 ·rw [if_pos c3] at H
  have c3b0 : decide (a1 < 2) = true := decide_eq_true c3
  clear c3
  simp only [Option.some.injEq, Prod.mk.injEq] at H
  obtain ⟨rfl, rfl, rfl⟩ := H
  go_enter Try.func30, Try.ntmps30
  go_wp2
  go_ret
  exact ⟨uE, uI HI0, uB HB, uK HK⟩
 ·rw [if_neg c3] at H
  have c3b0 : decide (a1 < 2) = false := decide_eq_false c3
  clear c3
  replace H := Option.bind_eq_some_iff.mp H
  obtain ⟨⟨t133, t134, t135⟩, A40, H⟩ := H
  replace H : (if (IntKind.u64.wrap (a1)) = 0 then (none) else (some (wrap64 (Int.tmod (t133 / 2048) (IntKind.u64.wrap (a1))), t134, t135))) = some (r1, r2, r3) := H
  have A4 := Aside0.mk A40
  clear A40
  by_cases c5 : (IntKind.u64.wrap (a1)) = 0
  ·rw [if_pos c5] at H
   exact absurd H (by simp)
  ·rw [if_neg c5] at H
   have c5b0 : ((IntKind.u64.wrap (a1)) == 0) = false := beq_eq_false_iff_ne.mpr c5
   have c5b1 : ((IntKind.u64.wrap (a1)) != 0) = true := bne_iff_ne.mpr c5
   simp only [Option.some.injEq, Prod.mk.injEq] at H
   obtain ⟨rfl, rfl, rfl⟩ := H
   go_enter Try.func30, Try.ntmps30
   go_wp2_with (first | ((with_reducible refine gate_callee (f := 41) rfl ?_); refine goesL_ (some 8) rfl rfl Try.func41 (by kernel_rfl) rfl #[.pointer (some ⟨g, 0, none⟩)] rfl uA ?_; (with_reducible refine (cippuskit_Urn_turn.calls g s0_0 s0_1 t133 t134 t135 w0 _ ?side1 ?side2 A4.out).mono ?_); (case side1 => exact uI HI0); (case side2 => exact uB HB); rintro e w6 ⟨rfl, hi, hb, hk⟩; refine ⟨_, rfl, ?_⟩; replace HK := Aside0.mk (KeepBut.trans (uK HK) hk (.inl rfl)); replace HB := Aside0.mk (hb); replace HI0 := Aside0.mk (hi); (try clear hb); (try clear hb2); (try clear hk); (try clear hi)))
   go_ret
   exact ⟨uE, uI HI0, uB HB, uK HK⟩
end Go.Proofs.Ytkfebceainedfaa.P
namespace Go.Proofs.Ytkfebceainedfaa.P
open Go.RowKit Go.Proofs.YtkfebceainedfaaW.PrintWords Go.Proofs.YtkfebceainedfaaW.PrintLast Go.Proofs.YtkfebceainedfaaW.PrintMore
attribute [local go_sem] max2_int min2_int max_two min_two max_three min_three max_four min_four   -- for this text's walks alone
set_option linter.unusedVariables false
set_option linter.unusedSimpArgs false
def cippuskit_Urn_Odds.f (s0_0 : Int) (s0_1 : Int) (a1 : Int) (a2 : Int) : Option (Bool × Int × Int) := (cippuskit_Urn_Up.f s0_0 s0_1 a2).bind fun bt139 => (some (decide (bt139.1 < a1), bt139.2.1, bt139.2.2))
set_option maxHeartbeats 8000000 in
set_option maxRecDepth 100000 in
theorem cippuskit_Urn_Odds.calls (g : Nat) (s0_0 : Int) (s0_1 : Int) (a1 : Int) (a2 : Int) (r1 : Bool) (r2 : Int) (r3 : Int) (w0 w : World) (hI : IsS83 w0 w g s0_0 s0_1) (hB : Below w0.heap.size w0 w) (h : cippuskit_Urn_Odds.f s0_0 s0_1 a1 a2 = some (r1, r2, r3)) :
  Calls Try.prog 31 #[.pointer (some ⟨g, 0, none⟩), .int .i64 a1, .int .i64 a2] w fun e w' => e = .returned (.bool r1) ∧ IsS83 w0 w' g r2 r3 ∧ Below w0.heap.size w0 w' ∧ KeepBut w w' g none := by
 have HI0 := Aside0.mk hI
 have HK := Aside0.mk (KeepBut.refl w g none)
 have HL := Aside0.mk hB.size
 clear hI
 have HW0 := Aside0.mk hB.size
 have HB := Aside0.mk hB
 clear hB
 have H : ((cippuskit_Urn_Up.f s0_0 s0_1 a2).bind fun bt139 => (some (decide (bt139.1 < a1), bt139.2.1, bt139.2.2))) = some (r1, r2, r3) := h
 clear h
 replace H := Option.bind_eq_some_iff.mp H
 obtain ⟨⟨t139, t140, t141⟩, A40, H⟩ := H
 replace H : (some (decide (t139 < a1), t140, t141)) = some (r1, r2, r3) := H
 have A4 := Aside0.mk A40
 clear A40
 simp only [Option.some.injEq, Prod.mk.injEq] at H
 obtain ⟨rfl, rfl, rfl⟩ := H
 go_enter Try.func31, Try.ntmps31
 go_wp2_with (first | ((with_reducible refine gate_callee (f := 30) rfl ?_); refine goesL_ (some 9) rfl rfl Try.func30 (by kernel_rfl) rfl #[.pointer (some ⟨g, 0, none⟩), .int .i64 a2] rfl uA ?_; (with_reducible refine (cippuskit_Urn_Up.calls g s0_0 s0_1 a2 t139 t140 t141 w0 _ ?side1 ?side2 A4.out).mono ?_); (case side1 => exact uI HI0); (case side2 => exact uB HB); rintro e w5 ⟨rfl, hi, hb, hk⟩; refine ⟨_, rfl, ?_⟩; replace HK := Aside0.mk (KeepBut.trans (uK HK) hk (.inl rfl)); replace HB := Aside0.mk (hb); replace HI0 := Aside0.mk (hi); (try clear hb); (try clear hb2); (try clear hk); (try clear hi)))
 go_ret
 exact ⟨uE, uI HI0, uB HB, uK HK⟩
end Go.Proofs.Ytkfebceainedfaa.P
namespace Go.Proofs.Ytkfebceainedfaa.P
open Go.RowKit Go.Proofs.YtkfebceainedfaaW.PrintWords Go.Proofs.YtkfebceainedfaaW.PrintLast Go.Proofs.YtkfebceainedfaaW.PrintMore
attribute [local go_sem] max2_int min2_int max_two min_two max_three min_three max_four min_four   -- for this text's walks alone
set_option linter.unusedVariables false
set_option linter.unusedSimpArgs false
theorem eqA53 (d : Nat) (w : World) (x0 y0 : ByteArray) (x1 y1 : Int) :
  (Op.equalIn (d + 2) 53 (.agg #[.string x0, .int .i64 x1]) (.agg #[.string y0, .int .i64 y1])).run Try.prog w = .ok (x0.toList == y0.toList && (x1 == y1)) w := by
 refine eqA_of Try.underlying53 (by kernel_rfl) ?_
 refine eqf_cons (by rfl) (by go_simp; rfl) (by go_simp; rfl) (by go_simp) ?_
 exact eqf_last (by rfl) (by go_simp; rfl) (by go_simp; rfl) (by go_simp)
end Go.Proofs.Ytkfebceainedfaa.P
namespace Go.Proofs.Ytkfebceainedfaa.P
open Go.RowKit Go.Proofs.YtkfebceainedfaaW.PrintWords Go.Proofs.YtkfebceainedfaaW.PrintLast Go.Proofs.YtkfebceainedfaaW.PrintMore
attribute [local go_sem] max2_int min2_int max_two min_two max_three min_three max_four min_four   -- for this text's walks alone
set_option linter.unusedVariables false
set_option linter.unusedSimpArgs false
def cippuskit_Urn_From.f (s0_0 : Int) (s0_1 : Int) (a1 : Int) (a2 : Int) : Option (Int × Int × Int) := (cippuskit_Urn_Up.f s0_0 s0_1 (wrap64 ((wrap64 (a2 - a1)) + 1))).bind fun bt136 => (some (wrap64 (a1 + bt136.1), bt136.2.1, bt136.2.2))
set_option maxHeartbeats 8000000 in
set_option maxRecDepth 100000 in
theorem cippuskit_Urn_From.calls (g : Nat) (s0_0 : Int) (s0_1 : Int) (a1 : Int) (a2 : Int) (r1 : Int) (r2 : Int) (r3 : Int) (w0 w : World) (hI : IsS83 w0 w g s0_0 s0_1) (hB : Below w0.heap.size w0 w) (h : cippuskit_Urn_From.f s0_0 s0_1 a1 a2 = some (r1, r2, r3)) :
  Calls Try.prog 18 #[.pointer (some ⟨g, 0, none⟩), .int .i64 a1, .int .i64 a2] w fun e w' => e = .returned (.int .i64 r1) ∧ IsS83 w0 w' g r2 r3 ∧ Below w0.heap.size w0 w' ∧ KeepBut w w' g none := by
 have HI0 := Aside0.mk hI
 have HK := Aside0.mk (KeepBut.refl w g none)
 have HL := Aside0.mk hB.size
 clear hI
 have HW0 := Aside0.mk hB.size
 have HB := Aside0.mk hB
 clear hB
 have H : ((cippuskit_Urn_Up.f s0_0 s0_1 (wrap64 ((wrap64 (a2 - a1)) + 1))).bind fun bt136 => (some (wrap64 (a1 + bt136.1), bt136.2.1, bt136.2.2))) = some (r1, r2, r3) := h
 clear h
 replace H := Option.bind_eq_some_iff.mp H
 obtain ⟨⟨t136, t137, t138⟩, A40, H⟩ := H
 replace H : (some (wrap64 (a1 + t136), t137, t138)) = some (r1, r2, r3) := H
 have A4 := Aside0.mk A40
 clear A40
 simp only [Option.some.injEq, Prod.mk.injEq] at H
 obtain ⟨rfl, rfl, rfl⟩ := H
 go_enter Try.func18, Try.ntmps18
 go_wp2_with (first | ((with_reducible refine gate_callee (f := 30) rfl ?_); refine goesL_ (some 13) rfl rfl Try.func30 (by kernel_rfl) rfl #[.pointer (some ⟨g, 0, none⟩), .int .i64 (wrap64 ((wrap64 (a2 - a1)) + 1))] rfl uA ?_; (with_reducible refine (cippuskit_Urn_Up.calls g s0_0 s0_1 (wrap64 ((wrap64 (a2 - a1)) + 1)) t136 t137 t138 w0 _ ?side1 ?side2 A4.out).mono ?_); (case side1 => exact uI HI0); (case side2 => exact uB HB); rintro e w5 ⟨rfl, hi, hb, hk⟩; refine ⟨_, rfl, ?_⟩; replace HK := Aside0.mk (KeepBut.trans (uK HK) hk (.inl rfl)); replace HB := Aside0.mk (hb); replace HI0 := Aside0.mk (hi); (try clear hb); (try clear hb2); (try clear hk); (try clear hi)))
 go_ret
 exact ⟨uE, uI HI0, uB HB, uK HK⟩
end Go.Proofs.Ytkfebceainedfaa.P
namespace Go.Proofs.Ytkfebceainedfaa.P
open Go.RowKit Go.Proofs.YtkfebceainedfaaW.PrintWords Go.Proofs.YtkfebceainedfaaW.PrintLast Go.Proofs.YtkfebceainedfaaW.PrintMore
attribute [local go_sem] max2_int min2_int max_two min_two max_three min_three max_four min_four   -- for this text's walks alone
set_option linter.unusedVariables false
set_option linter.unusedSimpArgs false
def cippuskit_Urn_Any.f (s0_0 : Int) (s0_1 : Int) (l1 : List Int) : Option (Int × Int × Int) := if (l1.length : Int) = 0 then (some (0, s0_0, s0_1)) else ((cippuskit_Urn_Up.f s0_0 s0_1 (l1.length : Int)).bind fun bt142 => (if 0 ≤ bt142.1 then (if bt142.1 < (l1.length : Int) then (some (rd l1 bt142.1, bt142.2.1, bt142.2.2)) else (none)) else (none)))
set_option maxHeartbeats 8000000 in
set_option maxRecDepth 100000 in
theorem cippuskit_Urn_Any.calls (g : Nat) (s0_0 : Int) (s0_1 : Int) (A1 : Option Addr) (c1 : Nat) (l1 : List Int) (r1 : Int) (r2 : Int) (r3 : Int) (w0 w : World) (hI : IsS83 w0 w g s0_0 s0_1) (hB : Below w0.heap.size w0 w) (hr1 : Kd.C (Kd.int .i64) w A1 l1.length l1) (hc1 : l1.length ≤ c1) (hf1 : ∀ ad, A1 = some ad → 0 < l1.length → ad.block ≠ g) (h : cippuskit_Urn_Any.f s0_0 s0_1 l1 = some (r1, r2, r3)) :
  Calls Try.prog 32 #[.pointer (some ⟨g, 0, none⟩), .slice A1 l1.length c1] w fun e w' => e = .returned (.int .i64 r1) ∧ IsS83 w0 w' g r2 r3 ∧ Below w0.heap.size w0 w' ∧ KeepBut w w' g none := by
 have HR1 := Aside0.mk hr1
 have HC1 := Aside0.mk hc1
 clear hr1 hc1
 have HI0 := Aside0.mk hI
 have HK := Aside0.mk (KeepBut.refl w g none)
 have HL := Aside0.mk hB.size
 clear hI
 have HW0 := Aside0.mk hB.size
 have HB := Aside0.mk hB
 clear hB
 have H : (if (l1.length : Int) = 0 then (some (0, s0_0, s0_1)) else ((cippuskit_Urn_Up.f s0_0 s0_1 (l1.length : Int)).bind fun bt142 => (if 0 ≤ bt142.1 then (if bt142.1 < (l1.length : Int) then (some (rd l1 bt142.1, bt142.2.1, bt142.2.2)) else (none)) else (none)))) = some (r1, r2, r3) := h
 clear h
 by_cases c3 : (l1.length : Int) = 0
 ·rw [if_pos c3] at H
  have c3b0 : ((l1.length : Int) == 0) = true := beq_iff_eq.mpr c3
  have c3b1 : ((l1.length : Int) != 0) = false := bne_eq_false_iff_eq.mpr c3
  clear c3
  simp only [Option.some.injEq, Prod.mk.injEq] at H
  obtain ⟨rfl, rfl, rfl⟩ := H
  go_enter Try.func32, Try.ntmps32
  go_wp2
  go_ret
  exact ⟨uE, uI HI0, uB HB, uK HK⟩
 ·rw [if_neg c3] at H
  have c3b0 : ((l1.length : Int) == 0) = false := beq_eq_false_iff_ne.mpr c3
  have c3b1 : ((l1.length : Int) != 0) = true := bne_iff_ne.mpr c3
  have c3b2 : ¬ (l1 = []) := fun h_ => c3 (by rw [h_]; rfl)
  replace H := Option.bind_eq_some_iff.mp H
  obtain ⟨⟨t142, t143, t144⟩, A40, H⟩ := H
  replace H : (if 0 ≤ t142 then (if t142 < (l1.length : Int) then (some (rd l1 t142, t143, t144)) else (none)) else (none)) = some (r1, r2, r3) := H
  have A4 := Aside0.mk A40
  clear A40
  by_cases c5 : 0 ≤ t142
  ·rw [if_pos c5] at H
   have c5b0 : decide (0 ≤ t142) = true := decide_eq_true c5
   clear c5
   by_cases c6 : t142 < (l1.length : Int)
   ·rw [if_pos c6] at H
    have c6b0 : decide (t142 < (l1.length : Int)) = true := decide_eq_true c6
    clear c6
    simp only [Option.some.injEq, Prod.mk.injEq] at H
    obtain ⟨rfl, rfl, rfl⟩ := H
    go_enter Try.func32, Try.ntmps32
    go_wp2_with (first | ((with_reducible refine gate_callee (f := 30) rfl ?_); refine goesL_ (some 12) rfl rfl Try.func30 (by kernel_rfl) rfl #[.pointer (some ⟨g, 0, none⟩), .int .i64 (l1.length : Int)] rfl uA ?_; (with_reducible refine (cippuskit_Urn_Up.calls g s0_0 s0_1 (l1.length : Int) t142 t143 t144 w0 _ ?side1 ?side2 A4.out).mono ?_); (case side1 => exact uI HI0); (case side2 => exact uB HB); rintro e w7 ⟨rfl, hi, hb, hk⟩; refine ⟨_, rfl, ?_⟩; replace HK := Aside0.mk (KeepBut.trans (uK HK) hk (.inl rfl)); replace HB := Aside0.mk (hb); replace HI0 := Aside0.mk (hi); (try clear hb); (try clear hb2); (try clear hk); (try clear hi); have p145 : 0 ≤ (t142 : Int) := of_decide_eq_true ua; have q145 : t142 < (l1.length : Int) := of_decide_eq_true ua; obtain ⟨ad145, e145, hx145_0⟩ := Kd.at_int HR1.out t142 p145 q145; cases e145; replace hx145_0 := keep_cell HK.out hx145_0 (by first | (rw [add_block]; exact hf1 _ rfl (by omega)) | exact hf1 _ rfl (by omega) | exact hf1 ad145 rfl (by omega)); replace p145 := eq_true p145; replace q145 := eq_true q145))
    go_ret
    exact ⟨uE, uI HI0, uB HB, uK HK⟩
   ·rw [if_neg c6] at H
    exact absurd H (by simp)
  ·rw [if_neg c5] at H
   exact absurd H (by simp)
end Go.Proofs.Ytkfebceainedfaa.P
namespace Go.Proofs.Ytkfebceainedfaa.P
open Go.RowKit Go.Proofs.YtkfebceainedfaaW.PrintWords Go.Proofs.YtkfebceainedfaaW.PrintLast Go.Proofs.YtkfebceainedfaaW.PrintMore
attribute [local go_sem] max2_int min2_int max_two min_two max_three min_three max_four min_four   -- for this text's walks alone
set_option linter.unusedVariables false
set_option linter.unusedSimpArgs false
def cippuskit_Urn_Span.f (s0_0 : Int) (s0_1 : Int) (a1 : Int) (a2 : Int) : Option (Int × Int × Int × Int) := (cippuskit_Urn_From.f s0_0 s0_1 a1 a2).bind fun bt147 => ((cippuskit_Urn_Up.f bt147.2.1 bt147.2.2 3).bind fun bt150 => ((cippuskit_Urn_Up.f bt150.2.1 bt150.2.2 6).bind fun bt153 => ((cippuskit_Urn_From.f bt153.2.1 bt153.2.2 bt147.1 a2).bind fun bt156 => ((cippuskit_Urn_Any.f bt156.2.1 bt156.2.2 (([bt147.1, mn a2 (wrap64 (bt147.1 + bt150.1)), mn a2 (wrap64 (bt147.1 + bt153.1)), bt156.1] : List Int))).bind fun bt162 => (some (bt147.1, bt162.1, bt162.2.1, bt162.2.2))))))
set_option maxHeartbeats 8000000 in
set_option maxRecDepth 100000 in
theorem cippuskit_Urn_Span.calls (g : Nat) (s0_0 : Int) (s0_1 : Int) (a1 : Int) (a2 : Int) (r1 : Int) (r2 : Int) (r3 : Int) (r4 : Int) (w0 w : World) (hI : IsS83 w0 w g s0_0 s0_1) (hB : Below w0.heap.size w0 w) (h : cippuskit_Urn_Span.f s0_0 s0_1 a1 a2 = some (r1, r2, r3, r4)) :
  Calls Try.prog 72 #[.pointer (some ⟨g, 0, none⟩), .int .i64 a1, .int .i64 a2] w fun e w' => e = .returned (.agg #[.int .i64 r1, .int .i64 r2]) ∧ IsS83 w0 w' g r3 r4 ∧ Below w0.heap.size w0 w' ∧ KeepBut w w' g none := by
 have hu47 := Try.underlying47
 have HI0 := Aside0.mk hI
 have HK := Aside0.mk (KeepBut.refl w g none)
 have HL := Aside0.mk hB.size
 clear hI
 have HW0 := Aside0.mk hB.size
 have HB := Aside0.mk hB
 clear hB
 have H : ((cippuskit_Urn_From.f s0_0 s0_1 a1 a2).bind fun bt147 => ((cippuskit_Urn_Up.f bt147.2.1 bt147.2.2 3).bind fun bt150 => ((cippuskit_Urn_Up.f bt150.2.1 bt150.2.2 6).bind fun bt153 => ((cippuskit_Urn_From.f bt153.2.1 bt153.2.2 bt147.1 a2).bind fun bt156 => ((cippuskit_Urn_Any.f bt156.2.1 bt156.2.2 (([bt147.1, mn a2 (wrap64 (bt147.1 + bt150.1)), mn a2 (wrap64 (bt147.1 + bt153.1)), bt156.1] : List Int))).bind fun bt162 => (some (bt147.1, bt162.1, bt162.2.1, bt162.2.2))))))) = some (r1, r2, r3, r4) := h
 clear h
 replace H := Option.bind_eq_some_iff.mp H
 obtain ⟨⟨t147, t148, t149⟩, A40, H⟩ := H
 replace H : ((cippuskit_Urn_Up.f t148 t149 3).bind fun bt150 => ((cippuskit_Urn_Up.f bt150.2.1 bt150.2.2 6).bind fun bt153 => ((cippuskit_Urn_From.f bt153.2.1 bt153.2.2 t147 a2).bind fun bt156 => ((cippuskit_Urn_Any.f bt156.2.1 bt156.2.2 (([t147, mn a2 (wrap64 (t147 + bt150.1)), mn a2 (wrap64 (t147 + bt153.1)), bt156.1] : List Int))).bind fun bt162 => (some (t147, bt162.1, bt162.2.1, bt162.2.2)))))) = some (r1, r2, r3, r4) := H
 have A4 := Aside0.mk A40
 clear A40
 replace H := Option.bind_eq_some_iff.mp H
 obtain ⟨⟨t150, t151, t152⟩, A50, H⟩ := H
 replace H : ((cippuskit_Urn_Up.f t151 t152 6).bind fun bt153 => ((cippuskit_Urn_From.f bt153.2.1 bt153.2.2 t147 a2).bind fun bt156 => ((cippuskit_Urn_Any.f bt156.2.1 bt156.2.2 (([t147, mn a2 (wrap64 (t147 + t150)), mn a2 (wrap64 (t147 + bt153.1)), bt156.1] : List Int))).bind fun bt162 => (some (t147, bt162.1, bt162.2.1, bt162.2.2))))) = some (r1, r2, r3, r4) := H
 have A5 := Aside0.mk A50
 clear A50
 obtain ⟨ji6, hji6⟩ : ∃ j_ : Int, (mn a2 (wrap64 (t147 + t150))) = j_ := ⟨_, rfl⟩
 replace H : ((cippuskit_Urn_Up.f t151 t152 6).bind fun bt153 => ((cippuskit_Urn_From.f bt153.2.1 bt153.2.2 t147 a2).bind fun bt156 => ((cippuskit_Urn_Any.f bt156.2.1 bt156.2.2 (([t147, ji6, mn a2 (wrap64 (t147 + bt153.1)), bt156.1] : List Int))).bind fun bt162 => (some (t147, bt162.1, bt162.2.1, bt162.2.2))))) = some (r1, r2, r3, r4) := by first | (rw [hji6] at H; exact H) | (simp only [hji6] at H ⊢; exact H)
 (try rw [hji6] at A4)
 (try rw [hji6] at A5)
 have hji6_ : (if (wrap64 (t147 + t150)) < a2 then (wrap64 (t147 + t150)) else a2) = ji6 := hji6
 replace H := Option.bind_eq_some_iff.mp H
 obtain ⟨⟨t153, t154, t155⟩, A70, H⟩ := H
 replace H : ((cippuskit_Urn_From.f t154 t155 t147 a2).bind fun bt156 => ((cippuskit_Urn_Any.f bt156.2.1 bt156.2.2 (([t147, ji6, mn a2 (wrap64 (t147 + t153)), bt156.1] : List Int))).bind fun bt162 => (some (t147, bt162.1, bt162.2.1, bt162.2.2)))) = some (r1, r2, r3, r4) := H
 have A7 := Aside0.mk A70
 clear A70
 obtain ⟨ji8, hji8⟩ : ∃ j_ : Int, (mn a2 (wrap64 (t147 + t153))) = j_ := ⟨_, rfl⟩
 replace H : ((cippuskit_Urn_From.f t154 t155 t147 a2).bind fun bt156 => ((cippuskit_Urn_Any.f bt156.2.1 bt156.2.2 (([t147, ji6, ji8, bt156.1] : List Int))).bind fun bt162 => (some (t147, bt162.1, bt162.2.1, bt162.2.2)))) = some (r1, r2, r3, r4) := by first | (rw [hji8] at H; exact H) | (simp only [hji8] at H ⊢; exact H)
 (try rw [hji8] at A4)
 (try rw [hji8] at A5)
 (try rw [hji8] at A7)
 have hji8_ : (if (wrap64 (t147 + t153)) < a2 then (wrap64 (t147 + t153)) else a2) = ji8 := hji8
 replace H := Option.bind_eq_some_iff.mp H
 obtain ⟨⟨t156, t157, t158⟩, A90, H⟩ := H
 replace H : ((cippuskit_Urn_Any.f t157 t158 (([t147, ji6, ji8, t156] : List Int))).bind fun bt162 => (some (t147, bt162.1, bt162.2.1, bt162.2.2))) = some (r1, r2, r3, r4) := H
 have A9 := Aside0.mk A90
 clear A90
 obtain ⟨y159, hy159⟩ : ∃ y_ : List Int, y_ = (([t147, ji6, ji8, t156] : List Int)) := ⟨_, rfl⟩
 replace H : ((cippuskit_Urn_Any.f t157 t158 y159).bind fun bt162 => (some (t147, bt162.1, bt162.2.1, bt162.2.2))) = some (r1, r2, r3, r4) := by first | (rw [hy159]; with_reducible exact H) | (have H2_ := (Option.bind_some _ _).symm.trans H; rw [hy159]; with_reducible exact H2_) | (have H2_ := (Option.bind_some _ _).symm.trans H; with_reducible exact H2_) | with_reducible exact H | (rw [hy159]; exact H) | exact H
 have Ny159 := Aside0.mk hy159
 clear hy159
 replace H := Option.bind_eq_some_iff.mp H
 obtain ⟨⟨t162, t163, t164⟩, A100, H⟩ := H
 replace H : (some (t147, t162, t163, t164)) = some (r1, r2, r3, r4) := H
 have A10 := Aside0.mk A100
 clear A100
 simp only [Option.some.injEq, Prod.mk.injEq] at H
 obtain ⟨rfl, rfl, rfl, rfl⟩ := H
 go_enter Try.func72, Try.ntmps72
 go_wp2_with (first | ((with_reducible refine gate_dst (N := 6) rfl ?_); refine box_event ?hg (N := 6) ?hd (cs := #[.int .i64 0, .int .i64 0]) (t := 47) ?hr ?_; (case hd => rfl); (case hg => rfl); (case hr => first | (go_simp; done) | (go_simp; rfl)); intro gb146 hg w11 hbox hb; replace HB := Aside0.mk (below_step (uB HB) hb); have BK146 := Aside0.mk (hbox); have GW146 := Aside0.mk ((by rw [hg]; exact (keep_size (w := w) (g := g) (row := none) (uK HK)) : w.heap.size ≤ gb146)); have GE146 := Aside0.mk ((Nat.le_trans HW0.out (by rw [hg]; exact (keep_size (w := w) (g := g) (row := none) (uK HK)) : w.heap.size ≤ gb146) : w0.heap.size ≤ gb146)); have NB0_146 := Aside0.mk ((by rw [hg]; exact Nat.ne_of_lt (IsS83.lt (show IsS83 w0 _ g s0_0 s0_1 from uI HI0)) : g ≠ gb146)); have NB146_0 := Aside0.mk ((by rw [hg]; exact Nat.ne_of_gt (IsS83.lt (show IsS83 w0 _ g s0_0 s0_1 from uI HI0)) : gb146 ≠ g)); replace HI0 := Aside0.mk (IsS83.below (uI HI0) hb); replace HK := Aside0.mk (KeepBut.trans (uK HK) (KeepBut.of_below hb g none) (.inl rfl)); clear hb hbox hg) | ((with_reducible refine gate_callee (f := 18) rfl ?_); refine goesL_ (some 11) rfl rfl Try.func18 (by kernel_rfl) rfl #[.pointer (some ⟨g, 0, none⟩), .int .i64 a1, .int .i64 a2] rfl uA ?_; (with_reducible refine (cippuskit_Urn_From.calls g s0_0 s0_1 a1 a2 t147 t148 t149 w0 _ ?side1 ?side2 A4.out).mono ?_); (case side1 => exact uI HI0); (case side2 => exact uB HB); rintro e w12 ⟨rfl, hi, hb, hk⟩; refine ⟨_, rfl, ?_⟩; replace BK146 := Aside0.mk (KeepBut.blk hk (uk BK146) NB146_0.out (by simp)); replace HK := Aside0.mk (KeepBut.trans (uK HK) hk (.inl rfl)); replace HB := Aside0.mk (hb); replace HI0 := Aside0.mk (hi); (try clear hb); (try clear hb2); (try clear hk); (try clear hi)) | ((with_reducible refine gate_callee (f := 30) rfl ?_); refine goesL_ (some 18) rfl rfl Try.func30 (by kernel_rfl) rfl #[.pointer (some ⟨g, 0, none⟩), .int .i64 3] rfl uA ?_; (with_reducible refine (cippuskit_Urn_Up.calls g t148 t149 3 t150 t151 t152 w0 _ ?side1 ?side2 A5.out).mono ?_); (case side1 => exact uI HI0); (case side2 => exact uB HB); rintro e w13 ⟨rfl, hi, hb, hk⟩; refine ⟨_, rfl, ?_⟩; replace BK146 := Aside0.mk (KeepBut.blk hk (uk BK146) NB146_0.out (by simp)); replace HK := Aside0.mk (KeepBut.trans (uK HK) hk (.inl rfl)); replace HB := Aside0.mk (hb); replace HI0 := Aside0.mk (hi); (try clear hb); (try clear hb2); (try clear hk); (try clear hi)) | ((with_reducible refine gate_callee (f := 30) rfl ?_); refine goesL_ (some 24) rfl rfl Try.func30 (by kernel_rfl) rfl #[.pointer (some ⟨g, 0, none⟩), .int .i64 6] rfl uA ?_; (with_reducible refine (cippuskit_Urn_Up.calls g t151 t152 6 t153 t154 t155 w0 _ ?side1 ?side2 A7.out).mono ?_); (case side1 => exact uI HI0); (case side2 => exact uB HB); rintro e w14 ⟨rfl, hi, hb, hk⟩; refine ⟨_, rfl, ?_⟩; replace BK146 := Aside0.mk (KeepBut.blk hk (uk BK146) NB146_0.out (by simp)); replace HK := Aside0.mk (KeepBut.trans (uK HK) hk (.inl rfl)); replace HB := Aside0.mk (hb); replace HI0 := Aside0.mk (hi); (try clear hb); (try clear hb2); (try clear hk); (try clear hi)) | ((with_reducible refine gate_callee (f := 18) rfl ?_); refine goesL_ (some 30) rfl rfl Try.func18 (by kernel_rfl) rfl #[.pointer (some ⟨g, 0, none⟩), .int .i64 t147, .int .i64 a2] rfl uA ?_; (with_reducible refine (cippuskit_Urn_From.calls g t154 t155 t147 a2 t156 t157 t158 w0 _ ?side1 ?side2 A9.out).mono ?_); (case side1 => exact uI HI0); (case side2 => exact uB HB); rintro e w15 ⟨rfl, hi, hb, hk⟩; refine ⟨_, rfl, ?_⟩; replace BK146 := Aside0.mk (KeepBut.blk hk (uk BK146) NB146_0.out (by simp)); replace HK := Aside0.mk (KeepBut.trans (uK HK) hk (.inl rfl)); replace HB := Aside0.mk (hb); replace HI0 := Aside0.mk (hi); (try clear hb); (try clear hb2); (try clear hk); (try clear hi)) | ((with_reducible refine gate_dst (N := 31) rfl ?_); refine Kd.R_lit (Kd.int .i64) _ 3 ?hg (N := 31) ?hd (xs := ([t147, ji6, ji8, t156] : List Int)) (inner := [.int .i64 t147, .int .i64 ji6, .int .i64 ji8, .int .i64 t156]) (ok := fun _ => True) (okp := fun _ => True) ?hr ?hp (fun _ hk => hk) trivial (Below.refl _ _) (Nat.le_refl _) (by simp) ?_; (case hd => rfl); (case hg => rfl); (case hr => first | (go_simp; done) | (go_simp; rfl)); (case hp => exact (Reps.one (show Kd.M (Kd.int .i64) _ _ _ t147 [.int .i64 t147] from rfl) (Reps.one (show Kd.M (Kd.int .i64) _ _ _ ji6 [.int .i64 ji6] from rfl) (Reps.one (show Kd.M (Kd.int .i64) _ _ _ ji8 [.int .i64 ji8] from rfl) (Reps.one (show Kd.M (Kd.int .i64) _ _ _ t156 [.int .i64 t156] from rfl) (Reps.none _ _)))))); intro v160 w16 ho17 hb hg_ hnew_; clear hg_ hnew_; (first | rw [← Ny159.out] at ho17 | (simp only [Int.reduceToNat] at ho17; rw [← Ny159.out] at ho17)); have HO161 := Aside0.mk (Kd.R_lower ho17 (keep_size (w := w) (g := g) (row := none) (uK HK))); replace BK146 := Aside0.mk (blk_below (uk BK146) hb); replace HB := Aside0.mk (below_step (uB HB) hb); replace HI0 := Aside0.mk (IsS83.below (uI HI0) hb); replace HK := Aside0.mk (KeepBut.trans (uK HK) (KeepBut.of_below hb g none) (.inl rfl)); clear hb ho17; obtain ⟨Ao18, co18, eo18⟩ := Kd.R_slice HO161.out; subst eo18) | ((with_reducible refine gate_callee (f := 32) rfl ?_); refine goesL_ (some 32) rfl rfl Try.func32 (by kernel_rfl) rfl #[.pointer (some ⟨g, 0, none⟩), .slice Ao18 y159.length co18] rfl uA ?_; (with_reducible refine (cippuskit_Urn_Any.calls g t157 t158 _ _ y159 t162 t163 t164 w0 _ ?side1 ?side2 ?side3 ?side4 ?side5 A10.out).mono ?_); (case side1 => exact uI HI0); (case side2 => exact uB HB); (case side3 => exact uD (Kd.R_reads' HO161.out).2.2); (case side4 => exact (Kd.R_reads' HO161.out).2.1); (case side5 => exact far_slice (IsS83.own_ne HI0.out HO161.out (by decide))); rintro e w19 ⟨rfl, hi, hb, hk⟩; refine ⟨_, rfl, ?_⟩; replace BK146 := Aside0.mk (KeepBut.blk hk (uk BK146) NB146_0.out (by simp)); replace HO161 := Aside0.mk (Kd.R_mono (Kd.R_keep (IsS83.apart (show IsS83 w0 _ g t157 t158 from uI HI0) (uR HO161) (by decide)) hk (fun _ h => h.2)) (fun _ h => h.1)); replace HK := Aside0.mk (KeepBut.trans (uK HK) hk (.inl rfl)); replace HB := Aside0.mk (hb); replace HI0 := Aside0.mk (hi); (try clear hb); (try clear hb2); (try clear hk); (try clear hi); have hnb20 := NB146_0.out; have hnc20 := NB0_146.out; have hcz21_0 := uc (w := w19) BK146 0; have hcz21_1 := uc (w := w19) BK146 1; have hfz21_0 := blk_frozen BK146.out 0; have hfz21_1 := blk_frozen BK146.out 1))
 refine bodyPost_ret (results_cell_row rfl _ _ gb146 47 #[.int .i64 t147, .int .i64 t162] (0, 0) _ rfl (by (with_reducible repeat (first | refine blk_drewN ?_ _ | refine blk_drew ?_ | refine blk_alloc ?_ _)); refine blk_put (cs := #[.int .i64 t147, .int .i64 0]) ?_ 1 _ rfl; (with_reducible repeat (first | refine blk_drewN ?_ _ | refine blk_drew ?_ | refine blk_alloc ?_ _)); refine blk_put (cs := #[.int .i64 0, .int .i64 0]) ?_ 0 _ rfl; (with_reducible repeat (first | refine blk_drewN ?_ _ | refine blk_drew ?_ | refine blk_alloc ?_ _)); exact BK146.out) Try.underlying47 rfl (by kernel_rfl)) rfl ?_
 exact ⟨by first | rfl | (simp [errW_none, errW_some] <;> rfl) | (simp only [← hji6, ← hji8]; first | rfl | (simp [errW_none, errW_some] <;> rfl)) | (simp [*, errW_none, errW_some] <;> rfl), uI HI0, uB HB, uK HK⟩
end Go.Proofs.Ytkfebceainedfaa.P
namespace Go.Proofs.Ytkfebceainedfaa.P.OwnGap
open Go.RowKit Go.Proofs.YtkfebceainedfaaW.PrintWords Go.Proofs.YtkfebceainedfaaW.PrintLast Go.Proofs.YtkfebceainedfaaW.PrintMore
open Go.Proofs.Ytkfebceainedfaa.OwnGap
set_option linter.unusedVariables false
set_option linter.unusedSimpArgs false
theorem Ev.if_pos' {α : Type} {c : Prop} [Decidable c] {g f : Nat → Option α} {r : α} (hc : c) (h : Ev g r) : Ev (fun k => if c then g k else f k) r := by simpa [hc] using h
theorem Ev.if_neg' {α : Type} {c : Prop} [Decidable c] {g f : Nat → Option α} {r : α} (hc : ¬ c) (h : Ev f r) : Ev (fun k => if c then g k else f k) r := by simpa [hc] using h
theorem wrap64_small {x : Int} (h0 : 0 ≤ x) (h1 : x < 4611686018427387904) : wrap64 x = x := by simp [wrap64]; omega
theorem wraps_u32 (n : Int) (h₀ : 0 ≤ n) (h₁ : n < 2 ^ 32) : IntKind.u32.wrap n = n := by rw [IntKind.wrap_u32]; omega
theorem has_mask (n j : Nat) (hn : n < 2 ^ 26) (hj : j < 26) : gap_letters_has.f (n : Int) (65 + (j : Int)) = some (n.testBit j) := by
 unfold gap_letters_has.f shr
 rw [show (65 + (j : Int) - 65) % 256 = (j : Int) by omega, Int.toNat_natCast, Nat.min_eq_left (by simp [IntKind.bits]; omega)]
 have e1 : ((n : Int) / 2 ^ j) = ((n >>> j : Nat) : Int) := by rw [Nat.shiftRight_eq_div_pow]; simp
 have hlt : n >>> j < 2 ^ 26 := by rw [Nat.shiftRight_eq_div_pow]; exact Nat.lt_of_le_of_lt (Nat.div_le_self _ _) hn
 rw [e1]
 have e2 := (bits_nat .u32 32 (by decide) wraps_u32 (n >>> j) 1 (by omega) (by decide)).1
 rw [show ((1 : Int)) = ((1 : Nat) : Int) from rfl, e2]
 unfold Nat.testBit
 congr 1
 have h4 : (n >>> j) &&& 1 = 0 ∨ (n >>> j) &&& 1 = 1 := by
  rw [Nat.and_one_is_mod]
  omega
 rw [Nat.and_comm 1]
 rcases h4 with h4 | h4 <;> rw [h4] <;> rfl
theorem with_mask (n j : Nat) (hn : n < 2 ^ 26) (hj : j < 26) : gap_letters_with.f (n : Int) (65 + (j : Int)) = some ((n ||| 2 ^ j : Nat) : Int) := by
 unfold gap_letters_with.f shl
 rw [show (65 + (j : Int) - 65) % 256 = (j : Int) by omega, Int.toNat_natCast, Nat.min_eq_left (by simp [IntKind.bits]; omega)]
 have hp : (2 : Nat) ^ j < 2 ^ 26 := Nat.pow_lt_pow_right (by decide) hj
 have e1 : (1 : Int) * 2 ^ j = ((2 ^ j : Nat) : Int) := by simp
 have hp2 : ((2 ^ j : Nat) : Int) < 2 ^ 32 := by
  have : ((2 ^ j : Nat) : Int) < ((2 ^ 26 : Nat) : Int) := by exact_mod_cast hp
  omega
 rw [e1, wraps_u32 _ (Int.natCast_nonneg _) hp2]
 have e2 := (bits_nat .u32 32 (by decide) wraps_u32 n (2 ^ j) (by omega) (by omega)).2
 rw [e2]
def maskF : Nat → List Int → Nat
 | n, [] => n
 | n, a :: l => maskF (n ||| 2 ^ (a - 65).toNat) l
def maskN (l : List Int) : Nat := maskF 0 l
theorem maskF_append : ∀ (l m : List Int) (n : Nat), maskF n (l ++ m) = maskF (maskF n l) m
 | [], _, _ => rfl
 | a :: l, m, n => maskF_append l m (n ||| 2 ^ (a - 65).toNat)
theorem maskF_lt : ∀ (l : List Int) (n : Nat), (∀ a ∈ l, 65 ≤ a ∧ a ≤ 90) → n < 2 ^ 26 → maskF n l < 2 ^ 26
 | [], _, _, h => h
 | a :: l, n, hl, h => maskF_lt l _ (fun b hb => hl b (List.mem_cons_of_mem _ hb)) (Nat.or_lt_two_pow h (by
   have := hl a (List.mem_cons_self ..)
   exact Nat.pow_lt_pow_right (by decide) (by omega)))
theorem maskF_bit : ∀ (l : List Int) (n j : Nat), (∀ a ∈ l, 65 ≤ a ∧ a ≤ 90) → (maskF n l).testBit j = (n.testBit j || l.contains (65 + (j : Int)))
 | [], n, j, _ => by simp [maskF]
 | a :: l, n, j, hl => by
  have ha := hl a (List.mem_cons_self ..)
  rw [maskF, maskF_bit l _ j (fun b hb => hl b (List.mem_cons_of_mem _ hb)), Nat.testBit_or, Nat.testBit_two_pow, List.contains_cons, Bool.or_assoc]
  congr 2
  rw [Bool.eq_iff_iff]
  simp only [decide_eq_true_eq, beq_iff_eq]
  omega
def ofV (s : ByteArray) : Int := if s.size = 0 then 67108863 else (maskN (bytesOf s) : Int)
def LetS (s : ByteArray) : Prop := ∀ k : Nat, k < s.size → 65 ≤ bt s (k : Int) ∧ bt s (k : Int) ≤ 90
theorem LetS.all {s : ByteArray} (hs : LetS s) : ∀ a ∈ bytesOf s, 65 ≤ a ∧ a ≤ 90 := by
 intro a ha
 obtain ⟨k, hk, rfl⟩ := List.mem_iff_getElem.1 ha
 have h1 := hs k (by rw [bytesOf_length] at hk; exact hk)
 rw [← rd_bytesOf] at h1
 simpa [rd, List.getD_eq_getElem?_getD, List.getElem?_eq_getElem hk] using h1
theorem ofV_has {s : ByteArray} (hs : LetS s) (a : Int) (h0 : 65 ≤ a) (h1 : a ≤ 90) : gap_letters_has.f (ofV s) a = some (fitB s a) := by
 obtain ⟨j, hj, rfl⟩ : ∃ j : Nat, j < 26 ∧ a = 65 + (j : Int) := ⟨(a - 65).toNat, by omega, by omega⟩
 unfold ofV fitB
 by_cases h : s.size = 0
 ·rw [if_pos h, h]
  have hb : ∀ j, j < 26 → (67108863 : Nat).testBit j = true := by decide
  rw [show (67108863 : Int) = ((67108863 : Nat) : Int) from rfl, has_mask _ j (by decide) hj, hb j hj]
  rfl
 ·rw [if_neg h, maskN, has_mask _ j (maskF_lt _ _ hs.all (by decide)) hj, maskF_bit _ _ _ hs.all, Nat.zero_testBit, Bool.false_or]
  rw [show (s.size == 0) = false from beq_eq_false_iff_ne.2 h, Bool.false_or]
theorem of_l0 (s : ByteArray) (hs : LetS s) (hz : s.size < 4611686018427387903) (g : Bool) (lo hi : Int) : ∀ (rem i : Nat), i + rem = s.size → Ev (fun k => gap_of.l0 k (maskF 0 ((bytesOf s).take i) : Nat) (s.size : Int) (i : Int) s g lo hi) ((maskN (bytesOf s) : Nat) : Int) := by
 intro rem
 induction rem with
 | zero =>
  intro i hi
  refine Ev.step (fun k => by rw [gap_of.l0]) ?_
  rw [List.take_of_length_le (by rw [bytesOf_length]; omega)]
  exact Ev.if_neg' (by omega) (Ev.now _)
 | succ rem ih =>
  intro i hi
  have hik : i < s.size := by omega
  refine Ev.step (fun k => by rw [gap_of.l0]) ?_
  refine Ev.if_pos' (by omega) (Ev.if_pos' (by omega) (Ev.if_pos' (by omega) ?_))
  obtain ⟨j, hj, ej⟩ : ∃ j : Nat, j < 26 ∧ bt s (i : Int) = 65 + (j : Int) := ⟨(bt s (i : Int) - 65).toNat, by have := hs i hik; omega, by have := hs i hik; omega⟩
  rw [ej, with_mask _ j (maskF_lt _ _ (fun a ha => hs.all a (List.mem_of_mem_take ha)) (by decide)) hj]
  simp only [Option.bind_some]
  have h2 := ih (i + 1) (by omega)
  have e2 : maskF 0 ((bytesOf s).take (i + 1)) = maskF 0 ((bytesOf s).take i) ||| 2 ^ j := by
   have hl : i < (bytesOf s).length := by rw [bytesOf_length]; exact hik
   rw [List.take_add_one, List.getElem?_eq_getElem hl, maskF_append]
   show maskF 0 ((bytesOf s).take i) ||| 2 ^ ((bytesOf s)[i] - 65).toNat = _
   have : (bytesOf s)[i] = 65 + (j : Int) := by
    rw [← ej, ← rd_bytesOf]
    simp [rd, List.getD_eq_getElem?_getD, List.getElem?_eq_getElem hl]
   rw [this]
   congr 2
   omega
  rw [e2] at h2
  rw [show wrap64 ((i : Int) + 1) = ((i + 1 : Nat) : Int) by rw [wrap64_small (by omega) (by omega)]; omega]
  exact h2
theorem nil_size (s : ByteArray) : s.toList = ([] : List UInt8) ↔ s.size = 0 := by
 rw [Go.ByteArray.toList_eq, ← List.length_eq_zero_iff]
 rfl
theorem of_ev (s : ByteArray) (hs : LetS s) (hz : s.size < 4611686018427387903) (g : Bool) (lo hi : Int) : Ev (fun k => gap_of.f k s g lo hi) (ofV s) := by
 unfold gap_of.f ofV
 by_cases h : s.size = 0
 ·rw [if_pos h]
  exact Ev.if_pos' ((nil_size s).2 h) (Ev.now _)
 ·rw [if_neg h]
  exact Ev.if_neg' (fun e => h ((nil_size s).1 e)) (of_l0 s hs hz g lo hi s.size 0 (by omega))
end Go.Proofs.Ytkfebceainedfaa.P.OwnGap
namespace Go.Proofs.Ytkfebceainedfaa.P
open Go.RowKit Go.Proofs.YtkfebceainedfaaW.PrintWords Go.Proofs.YtkfebceainedfaaW.PrintLast Go.Proofs.YtkfebceainedfaaW.PrintMore
attribute [local go_sem] max2_int min2_int max_two min_two max_three min_three max_four min_four   -- for this text's walks alone
set_option linter.unusedVariables false
set_option linter.unusedSimpArgs false
def gap_in.f (a0 : Int) (a1 : Int) (a2 : Int) : Option (Bool) := if a1 ≤ a0 then (some (decide (a0 ≤ a2))) else (some false)
set_option maxHeartbeats 8000000 in
set_option maxRecDepth 100000 in
theorem gap_in.calls (a0 : Int) (a1 : Int) (a2 : Int) (r : Bool) (w : World) (h : gap_in.f a0 a1 a2 = some r) :
  Calls Try.prog 49 #[.int .i64 a0, .int .i64 a1, .int .i64 a2] w fun e w' => e = .returned (.bool r) ∧ Drawn0 w w' := by
 have H : (if a1 ≤ a0 then (some (decide (a0 ≤ a2))) else (some false)) = some r := h
 clear h
 by_cases c4 : a1 ≤ a0
 ·rw [if_pos c4] at H
  have c4b0 : decide (a1 ≤ a0) = true := decide_eq_true c4
  clear c4
  obtain rfl := Option.some.inj H
  go_enter Try.func49, Try.ntmps49
  go_wp2
  go_ret
  exact ⟨by first | rfl | (simp; done) | (simp [*]; done), by repeat (first | exact Drawn0.refl _ | apply Drawn0.step)⟩
 ·rw [if_neg c4] at H
  have c4b0 : decide (a1 ≤ a0) = false := decide_eq_false c4
  clear c4
  obtain rfl := Option.some.inj H
  go_enter Try.func49, Try.ntmps49
  go_wp2
  go_ret
  exact ⟨by first | rfl | (simp; done) | (simp [*]; done), by repeat (first | exact Drawn0.refl _ | apply Drawn0.step)⟩
end Go.Proofs.Ytkfebceainedfaa.P
namespace Go.Proofs.Ytkfebceainedfaa.P
open Go.RowKit Go.Proofs.YtkfebceainedfaaW.PrintWords Go.Proofs.YtkfebceainedfaaW.PrintLast Go.Proofs.YtkfebceainedfaaW.PrintMore
attribute [local go_sem] max2_int min2_int max_two min_two max_three min_three max_four min_four   -- for this text's walks alone
set_option linter.unusedVariables false
set_option linter.unusedSimpArgs false
def gap_capital.f (a0 : Int) : Option (Bool) := if a0 ≥ 65 then (some (decide (a0 ≤ 90))) else (some false)
set_option maxHeartbeats 8000000 in
set_option maxRecDepth 100000 in
theorem gap_capital.calls (a0 : Int) (r : Bool) (w : World) (h : gap_capital.f a0 = some r) :
  Calls Try.prog 105 #[.int .u8 a0] w fun e w' => e = .returned (.bool r) ∧ Drawn0 w w' := by
 have H : (if a0 ≥ 65 then (some (decide (a0 ≤ 90))) else (some false)) = some r := h
 clear h
 by_cases c2 : a0 ≥ 65
 ·rw [if_pos c2] at H
  have c2b0 : decide (65 ≤ a0) = true := decide_eq_true c2
  clear c2
  obtain rfl := Option.some.inj H
  go_enter Try.func105, Try.ntmps105
  go_wp2
  go_ret
  exact ⟨by first | rfl | (simp; done) | (simp [*]; done), by repeat (first | exact Drawn0.refl _ | apply Drawn0.step)⟩
 ·rw [if_neg c2] at H
  have c2b0 : decide (65 ≤ a0) = false := decide_eq_false c2
  clear c2
  obtain rfl := Option.some.inj H
  go_enter Try.func105, Try.ntmps105
  go_wp2
  go_ret
  exact ⟨by first | rfl | (simp; done) | (simp [*]; done), by repeat (first | exact Drawn0.refl _ | apply Drawn0.step)⟩
end Go.Proofs.Ytkfebceainedfaa.P
namespace Go.Proofs.Ytkfebceainedfaa.P
open Go.RowKit Go.Proofs.YtkfebceainedfaaW.PrintWords Go.Proofs.YtkfebceainedfaaW.PrintLast Go.Proofs.YtkfebceainedfaaW.PrintMore
attribute [local go_sem] max2_int min2_int max_two min_two max_three min_three max_four min_four   -- for this text's walks alone
set_option linter.unusedVariables false
set_option linter.unusedSimpArgs false
def cippusref02_between.f (a0 : Int) (a1 : Int) (a2 : Int) : Option (Bool) := if a0 ≥ a1 then (some (decide (a0 ≤ a2))) else (some false)
set_option maxHeartbeats 8000000 in
set_option maxRecDepth 100000 in
theorem cippusref02_between.calls (a0 : Int) (a1 : Int) (a2 : Int) (r : Bool) (w : World) (h : cippusref02_between.f a0 a1 a2 = some r) :
  Calls Try.prog 87 #[.int .i64 a0, .int .i64 a1, .int .i64 a2] w fun e w' => e = .returned (.bool r) ∧ Drawn0 w w' := by
 have H : (if a0 ≥ a1 then (some (decide (a0 ≤ a2))) else (some false)) = some r := h
 clear h
 by_cases c4 : a0 ≥ a1
 ·rw [if_pos c4] at H
  have c4b0 : decide (a1 ≤ a0) = true := decide_eq_true c4
  clear c4
  obtain rfl := Option.some.inj H
  go_enter Try.func87, Try.ntmps87
  go_wp2
  go_ret
  exact ⟨by first | rfl | (simp; done) | (simp [*]; done), by repeat (first | exact Drawn0.refl _ | apply Drawn0.step)⟩
 ·rw [if_neg c4] at H
  have c4b0 : decide (a1 ≤ a0) = false := decide_eq_false c4
  clear c4
  obtain rfl := Option.some.inj H
  go_enter Try.func87, Try.ntmps87
  go_wp2
  go_ret
  exact ⟨by first | rfl | (simp; done) | (simp [*]; done), by repeat (first | exact Drawn0.refl _ | apply Drawn0.step)⟩
end Go.Proofs.Ytkfebceainedfaa.P
namespace Go.Proofs.Ytkfebceainedfaa.P
open Go.RowKit Go.Proofs.YtkfebceainedfaaW.PrintWords Go.Proofs.YtkfebceainedfaaW.PrintLast Go.Proofs.YtkfebceainedfaaW.PrintMore
attribute [local go_sem] max2_int min2_int max_two min_two max_three min_three max_four min_four   -- for this text's walks alone
set_option linter.unusedVariables false
set_option linter.unusedSimpArgs false
def cippusref02_capital.f (a0 : Int) : Option (Bool) := if a0 ≥ 65 then (some (decide (a0 ≤ 90))) else (some false)
set_option maxHeartbeats 8000000 in
set_option maxRecDepth 100000 in
theorem cippusref02_capital.calls (a0 : Int) (r : Bool) (w : World) (h : cippusref02_capital.f a0 = some r) :
  Calls Try.prog 104 #[.int .u8 a0] w fun e w' => e = .returned (.bool r) ∧ Drawn0 w w' := by
 have H : (if a0 ≥ 65 then (some (decide (a0 ≤ 90))) else (some false)) = some r := h
 clear h
 by_cases c2 : a0 ≥ 65
 ·rw [if_pos c2] at H
  have c2b0 : decide (65 ≤ a0) = true := decide_eq_true c2
  clear c2
  obtain rfl := Option.some.inj H
  go_enter Try.func104, Try.ntmps104
  go_wp2
  go_ret
  exact ⟨by first | rfl | (simp; done) | (simp [*]; done), by repeat (first | exact Drawn0.refl _ | apply Drawn0.step)⟩
 ·rw [if_neg c2] at H
  have c2b0 : decide (65 ≤ a0) = false := decide_eq_false c2
  clear c2
  obtain rfl := Option.some.inj H
  go_enter Try.func104, Try.ntmps104
  go_wp2
  go_ret
  exact ⟨by first | rfl | (simp; done) | (simp [*]; done), by repeat (first | exact Drawn0.refl _ | apply Drawn0.step)⟩
end Go.Proofs.Ytkfebceainedfaa.P
namespace Go.Proofs.Ytkfebceainedfaa.P.OwnGap
open Go.RowKit Go.Proofs.YtkfebceainedfaaW.PrintWords Go.Proofs.YtkfebceainedfaaW.PrintLast Go.Proofs.YtkfebceainedfaaW.PrintMore
open Go.Proofs.Ytkfebceainedfaa.OwnGap
set_option linter.unusedVariables false
set_option linter.unusedSimpArgs false
def inB (a lo hi : Int) : Bool := decide (lo ≤ a) && decide (a ≤ hi)
def capB (a : Int) : Bool := inB a 65 90
theorem cap_p (a : Int) : gap_capital.f a = some (capB a) := by
 unfold gap_capital.f capB inB
 by_cases h : 65 ≤ a <;> simp [h]
theorem cap_r (a : Int) : cippusref02_capital.f a = some (capB a) := by
 unfold cippusref02_capital.f capB inB
 by_cases h : 65 ≤ a <;> simp [h]
theorem in_p (a lo hi : Int) : gap_in.f a lo hi = some (inB a lo hi) := by
 unfold gap_in.f inB
 by_cases h : lo ≤ a <;> simp [h]
theorem in_r (a lo hi : Int) : cippusref02_between.f a lo hi = some (inB a lo hi) := by
 unfold cippusref02_between.f inB
 by_cases h : lo ≤ a <;> simp [h]
theorem wrap_nat {i n : Nat} (h : i < n) (hn : n < 4611686018427387903) : wrap64 ((i : Int) + 1) = ((i + 1 : Nat) : Int) := by rw [wrap64_small (by omega) (by omega)]; omega
theorem inB_true {a lo hi : Int} : inB a lo hi = true ↔ lo ≤ a ∧ a ≤ hi := by simp [inB]
def textB (s : ByteArray) : Bool := (List.range s.size).all fun i => capB (bt s (i : Int))
theorem range_all {n : Nat} {f : Nat → Bool} : (List.range n).all f = true ↔ ∀ i, i < n → f i = true := by
 rw [List.all_eq_true]
 exact ⟨fun h i hi => h i (List.mem_range.2 hi), fun h i hi => h i (List.mem_range.1 hi)⟩
def sameW (a b : S53) : Bool := a.f0.toList == b.f0.toList && (a.f1 == b.f1)
def wordV (l0 : List S53) (nf : Nat) (i : Nat) : Int :=
 if inB (rd_T53 l0 (i : Int)).f0.size 1 8 = false then 2 else if textB (rd_T53 l0 (i : Int)).f0 = false then 2 else if inB (rd_T53 l0 (i : Int)).f1 0 ((nf : Int) - 1) = false then 3
 else if (l0.take i).any (sameW (rd_T53 l0 (i : Int))) = true then 4 else 0
theorem ifF {α : Type} {b : Bool} {x y : α} (h : b = true) : (if b = false then x else y) = y := by rw [h]; rfl
theorem ifT {α : Type} {b : Bool} {x y : α} (h : b = false) : (if b = false then x else y) = x := by rw [h]; rfl
def spanV (a b lo hi : Int) : Int := if (inB a lo hi && inB b lo hi) = false then 1 else if b < a then 5 else 0
def firstF (f : Nat → Int) (R : Int) : Nat → Nat → Int
 | 0, _ => R
 | rem + 1, i => if f i = 0 then firstF f R rem (i + 1) else f i
theorem firstF_zero {f : Nat → Int} {R : Int} : ∀ (rem i : Nat), firstF f R rem i = 0 → R = 0 ∧ ∀ j, i ≤ j → j < i + rem → f j = 0
 | 0, i, h => ⟨h, fun j h1 h2 => by omega⟩
 | rem + 1, i, h => by
  unfold firstF at h
  by_cases h0 : f i = 0
  ·rw [if_pos h0] at h
   obtain ⟨h1, h2⟩ := firstF_zero rem (i + 1) h
   refine ⟨h1, fun j h3 h4 => ?_⟩
   rcases Nat.lt_or_ge i j with h5 | h5
   ·exact h2 j (by omega) (by omega)
   ·rw [show j = i by omega]; exact h0
  ·rw [if_neg h0] at h
   exact absurd h h0
def spanAt (l4 : List S47) (i : Nat) : Int := spanV (rd_T47 l4 (i : Int)).f0 (rd_T47 l4 (i : Int)).f1 1 100
def formAt (l3 : List (List Bool)) (nf : Nat) (i : Nat) : Int := if (rd_L1 l3 (i : Int)).length = nf then 0 else 2
def checkV (l0 : List S53) (l1 l2 : List Bool) (l3 : List (List Bool)) (l4 : List S47) : Int :=
 if l1.length = 0 then 7 else if 5 < l1.length then 6 else if l2.length ≠ l1.length then 2 else if l3.length ≠ l1.length then 2 else
  firstF (formAt l3 l1.length) (if l0.length = 0 then 7 else if 12 < l0.length then 6 else firstF (wordV l0 l1.length) (if l4.length ≠ 26 then 2 else firstF (spanAt l4) 0 26 0) l0.length 0) l1.length 0
def ascAt (s : ByteArray) (i : Nat) : Bool := capB (bt s (i : Int)) && (decide (i = 0) || decide (bt s ((i : Int) - 1) < bt s (i : Int)))
def ascB (s : ByteArray) : Bool := (List.range s.size).all (ascAt s)
theorem asc_ge {s : ByteArray} {j : Nat} (h : ∀ q, q < j → ascAt s q = true) : ∀ q, q < j → 65 + (q : Int) ≤ bt s (q : Int) ∧ bt s (q : Int) ≤ 90 := by
 intro q
 induction q with
 | zero =>
  intro hq
  have h1 := h 0 hq
  simp only [ascAt, capB, Bool.and_eq_true, inB_true] at h1
  exact ⟨by simpa using h1.1.1, h1.1.2⟩
 | succ q ih =>
  intro hq
  have h1 := h (q + 1) hq
  have h2 := (ih (by omega)).1
  simp only [ascAt, capB, Bool.and_eq_true, inB_true, Bool.or_eq_true, decide_eq_true_eq] at h1
  obtain ⟨h3, h4⟩ := h1
  rcases h4 with h4 | h4
  ·omega
  ·rw [show ((q + 1 : Nat) : Int) - 1 = (q : Int) by omega] at h4
   exact ⟨by omega, h3.2⟩
theorem asc_le {s : ByteArray} {j : Nat} (h : ∀ q, q < j → ascAt s q = true) : j ≤ 26 := by
 rcases Nat.eq_zero_or_pos j with h0 | h0
 ·omega
 ·have := asc_ge h (j - 1) (by omega)
  omega
theorem ascB_let {s : ByteArray} (h : ascB s = true) : LetS s ∧ s.size ≤ 26 := by
 have h1 := range_all.1 h
 exact ⟨fun k hk => by have := asc_ge h1 k hk; omega, asc_le h1⟩
def cellV (c : S49) : Int := if c.f1 = true then (if c.f0.size = 0 then spanV c.f2.f0 c.f2.f1 0 1000 else 2) else if ascB c.f0 = false then 2 else if c.f2.f0 = 0 ∧ c.f2.f1 = 0 then 0 else 2
def rowF (l : List S49) : Nat → Nat → Nat → Int
 | 0, _, _ => 0
 | rem + 1, i, n => if cellV (rd_T49 l (i : Int)) = 0 then (if (rd_T49 l (i : Int)).f1 = true then (if 3 < n + 1 then 6 else rowF l rem (i + 1) (n + 1)) else rowF l rem (i + 1) n) else cellV (rd_T49 l (i : Int))
def rowV (l : List S49) : Int := if l.length = 0 then 7 else if 24 < l.length then 6 else rowF l l.length 0 0
def bothV (l0 : List S53) (l1 l2 : List Bool) (l3 : List (List Bool)) (l4 : List S47) (r : List S49) : Int := if checkV l0 l1 l2 l3 l4 = 0 then rowV r else checkV l0 l1 l2 l3 l4
theorem sameW_comm (a b : S53) : sameW a b = sameW b a := by
 unfold sameW
 rw [Bool.eq_iff_iff]
 simp only [Bool.and_eq_true, beq_iff_eq]
 exact ⟨fun h => ⟨h.1.symm, h.2.symm⟩, fun h => ⟨h.1.symm, h.2.symm⟩⟩
end Go.Proofs.Ytkfebceainedfaa.P.OwnGap
namespace Go.Proofs.Ytkfebceainedfaa.P.OwnUrn
open Go.RowKit Go.Proofs.YtkfebceainedfaaW.PrintWords Go.Proofs.YtkfebceainedfaaW.PrintLast Go.Proofs.YtkfebceainedfaaW.PrintMore
open Go.Proofs.Ytkfebceainedfaa.P.OwnGap
set_option linter.unusedVariables false
set_option linter.unusedSimpArgs false
theorem wrap_u64_range (n : Int) : 0 ≤ IntKind.u64.wrap n ∧ IntKind.u64.wrap n < 18446744073709551616 := by
 have h : IntKind.u64.wrap n = n % 18446744073709551616 := by simp [IntKind.wrap, IntKind.bits, IntKind.signed]
 rw [h]
 omega
theorem wrap_u64_small {n : Int} (h0 : 0 ≤ n) (h1 : n < 18446744073709551616) : IntKind.u64.wrap n = n := by
 have h : IntKind.u64.wrap n = n % 18446744073709551616 := by simp [IntKind.wrap, IntKind.bits, IntKind.signed]
 rw [h]
 omega
theorem turn_ok (a b : Int) : ∃ v a' b', cippuskit_Urn_turn.f a b = some (v, a', b') ∧ 0 ≤ v ∧ v < 18446744073709551616 := by
 unfold cippuskit_Urn_turn.f
 split
 ·exact ⟨_, _, _, rfl, wrap_u64_range _⟩
 ·exact ⟨_, _, _, rfl, wrap_u64_range _⟩
theorem up_ok (a b n : Int) (hn : n ≤ 1000) : ∃ v a' b', cippuskit_Urn_Up.f a b n = some (v, a', b') ∧ 0 ≤ v ∧ (v < n ∨ v = 0) := by
 unfold cippuskit_Urn_Up.f
 by_cases h : n < 2
 ·rw [if_pos h]
  exact ⟨0, a, b, rfl, Int.le_refl _, .inr rfl⟩
 ·rw [if_neg h]
  obtain ⟨v, a', b', e, h0, h1⟩ := turn_ok a b
  rw [e, Option.bind_some, wrap_u64_small (by omega) (by omega), if_neg (by omega)]
  have h2 : 0 ≤ v / 2048 := by omega
  have h3 : Int.tmod (v / 2048) n = (v / 2048) % n := Int.tmod_eq_emod_of_nonneg h2
  have h4 := Int.emod_nonneg (v / 2048) (show n ≠ 0 by omega)
  have h5 := Int.emod_lt_of_pos (v / 2048) (show 0 < n by omega)
  refine ⟨_, _, _, rfl, ?_⟩
  show 0 ≤ wrap64 (Int.tmod (v / 2048) n) ∧ (wrap64 (Int.tmod (v / 2048) n) < n ∨ _)
  rw [h3, wrap64_small h4 (by omega)]
  exact ⟨h4, .inl h5⟩
theorem from_ok (a b lo hi : Int) (h0 : -1000 ≤ lo) (h1 : lo ≤ 1000) (h2 : -1000 ≤ hi) (h3 : hi ≤ 900 + lo) : ∃ v a' b', cippuskit_Urn_From.f a b lo hi = some (v, a', b') ∧ lo ≤ v ∧ (v ≤ hi ∨ v = lo) := by
 unfold cippuskit_Urn_From.f
 have e1 : wrap64 (hi - lo) = hi - lo := by simp [wrap64]; omega
 have e2 : wrap64 (hi - lo + 1) = hi - lo + 1 := by simp [wrap64]; omega
 rw [e1, e2]
 obtain ⟨v, a', b', e, h4, h5⟩ := up_ok a b (hi - lo + 1) (by omega)
 rw [e, Option.bind_some]
 refine ⟨_, _, _, rfl, ?_⟩
 have e3 : wrap64 (lo + v) = lo + v := by simp [wrap64]; omega
 show lo ≤ wrap64 (lo + v) ∧ (wrap64 (lo + v) ≤ hi ∨ wrap64 (lo + v) = lo)
 rw [e3]
 omega
theorem odds_ok (a b n m : Int) (hm : m ≤ 1000) : ∃ v a' b', cippuskit_Urn_Odds.f a b n m = some (v, a', b') := by
 unfold cippuskit_Urn_Odds.f
 obtain ⟨v, a', b', e, _⟩ := up_ok a b m hm
 rw [e, Option.bind_some]
 exact ⟨_, _, _, rfl⟩
theorem any_ok (a b : Int) (l : List Int) (h0 : l ≠ []) (hl : l.length ≤ 1000) : ∃ v a' b', cippuskit_Urn_Any.f a b l = some (v, a', b') ∧ v ∈ l := by
 have h1 : 0 < l.length := List.length_pos_iff.2 h0
 unfold cippuskit_Urn_Any.f
 rw [if_neg (by omega)]
 obtain ⟨v, a', b', e, h4, h5⟩ := up_ok a b (l.length : Int) (by omega)
 rw [e, Option.bind_some]
 have h6 : v < (l.length : Int) := by omega
 rw [if_pos h4, if_pos h6]
 refine ⟨_, _, _, rfl, ?_⟩
 show rd l v ∈ l
 unfold rd
 rw [List.getD_eq_getElem?_getD, List.getElem?_eq_getElem (by omega)]
 exact List.getElem_mem _
abbrev St := Int × Int
def rowGo : Nat → List Bool → St → Option (List Bool × St)
 | 0, l, s => some (l, s)
 | n + 1, l, s => (cippuskit_Urn_Odds.f s.1 s.2 1 2).bind fun a => rowGo n (l ++ [a.1]) a.2
def formsGo (f : Nat) : Nat → List Bool → List Bool → List (List Bool) → St → Option (List Bool × List Bool × List (List Bool) × St)
 | 0, F, L, N, s => some (F, L, N, s)
 | n + 1, F, L, N, s => (cippuskit_Urn_Odds.f s.1 s.2 2 3).bind fun a => (cippuskit_Urn_Odds.f a.2.1 a.2.2 2 3).bind fun b => (rowGo f [] b.2).bind fun c => formsGo f n (F ++ [a.1]) (L ++ [b.1]) (N ++ [c.1]) c.2
def textGo : Nat → ByteArray → St → Option (ByteArray × St)
 | 0, t, s => some (t, s)
 | n + 1, t, s => (cippuskit_Urn_Any.f s.1 s.2 [65, 66, 66, 73]).bind fun a => textGo n (t ++ strOfNums [IntKind.u8.wrap a.1]) a.2
def wordsGo (forms letters : Int) : Nat → List S53 → St → Option (List S53 × St)
 | 0, l, s => some (l, s)
 | n + 1, l, s => (cippuskit_Urn_Up.f s.1 s.2 forms).bind fun f => (cippuskit_Urn_From.f f.2.1 f.2.2 1 letters).bind fun k => (textGo k.1.toNat ⟨#[]⟩ k.2).bind fun t =>
   wordsGo forms letters n (if l.any (fun x => sameW x ⟨t.1, f.1⟩) = true then l else l ++ [⟨t.1, f.1⟩]) t.2
def widGo : Nat → List S47 → St → Option (List S47 × St)
 | 0, l, s => some (l, s)
 | n + 1, l, s => (cippuskit_Urn_Any.f s.1 s.2 [2, 6]).bind fun a => (cippuskit_Urn_Span.f a.2.1 a.2.2 1 a.1).bind fun b => widGo n (l ++ [⟨b.1, b.2.1⟩]) b.2.2
def lexiconOf (s0 s1 a1 a2 : Int) : Option (List S53 × List Bool × List Bool × List (List Bool) × List S47 × Int × Int) :=
 if (0 ≤ a1 ∧ a1 ≤ 800) ∧ (0 ≤ a2 ∧ a2 ≤ 800) then
  (cippuskit_Urn_From.f s0 s1 1 3).bind fun f => (formsGo f.1.toNat f.1.toNat [] [] [] f.2).bind fun x => (cippuskit_Urn_From.f x.2.2.2.1 x.2.2.2.2 1 a1).bind fun i =>
   (wordsGo f.1 a2 i.1.toNat [] i.2).bind fun w => (widGo 26 [] w.2).bind fun d => some (w.1, x.1.set 0 true, x.2.1.set (f.1.toNat - 1) true, x.2.2.1, d.1, d.2.1, d.2.2)
 else none
end Go.Proofs.Ytkfebceainedfaa.P.OwnUrn
