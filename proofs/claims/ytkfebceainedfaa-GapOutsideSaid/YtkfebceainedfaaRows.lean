/-
  No cell of these rows narrows 'for every input' (looked for: loops, veiled, ifaces, maps, wideKeys, modest, calm, conditions, laid).
  DERIVED. THE GIVEN ROWS OF THIS SEAT. 8 by the template 'for every input the law returns true; each argument reads behind the call as it read before'; 0 by the template 'total and deterministic' (their statements: YtkfebceainedfaaTotals.lean).
  GIVEN WITH THE SEED: the statements are not yours to turn. If you find one false, say at which input.
  Laid BY PROGRAM, IN A SANDBOX (cutbox-rows.mjs): the forced cells as the released guide's own fill.sh prints them over the translation 0c37ecd72dc0d42a… (all of the seat's roots in one cut). By AI agents, Wed Nov 11 2026. No macro, syntax, notation, axiom, sorry.
-/
import Derived.Test.YtkfebceainedfaaChecked
import GoSem.Claim
import GoSem.ClaimJoined
import GoSem.ClaimMapViews
import Derived.JoinedTies
import Derived.KernelRfl
namespace Go.Proofs.Ytkfebceainedfaa
/- THE CELL 'sum', in the pinned program and in every row, IS THE sha256 OF THE DUMP (.gsa) THAT YtkfebceainedfaaProg.lean LOADS. Nothing in Lean hashes anything: it is a label: what it is worth is what the hold of that sum in a sandbox is worth. -/
noncomputable def Try.pinned : Pinned := { name := "ytkfebceainedfaa", sum := "0c37ecd72dc0d42ab06aaff623e01a3db10f42cdf3fb9238f05cef3d0f4fe7e8", checked := Try.checked }
namespace Rows
def none {H : Type} : Left H := { results := [], args := [] }

/-- 'cippuslaw02.GapTrue': WHATEVER THE INPUT: true; the input reads as it did. -/
def gapTrueSpec : ChangeSpec := { name := "gapTrue", fn := fun _ => fun
  | [d] => { results := [.lit (.bool true)], args := [d] }
  | _ => none }
def gapTrueRow : OpenClaim := { program := "ytkfebceainedfaa", sum := "0c37ecd72dc0d42ab06aaff623e01a3db10f42cdf3fb9238f05cef3d0f4fe7e8", func := "cippus/cippuslaw02.GapTrue", spec := "gapTrue", inPlace := ["internal/abi.NoEscape"], unfollowed := true, recurses := true, plainKeys := false, apart := false }
def GapTrueSaid : Prop := gapTrueRow.holds Try.pinned (OpenSpec.ofChange gapTrueSpec)

/-- ITS FALSE NEIGHBOUR: 'it returns false'. Refute it at one input. -/
def gapTrueWrong : ChangeSpec := { name := "gapTrue", fn := fun _ => fun
  | [d] => { results := [.lit (.bool false)], args := [d] }
  | _ => none }
def GapTrueWrongFalsely : Prop := gapTrueRow.holds Try.pinned (OpenSpec.ofChange gapTrueWrong)

/-- 'cippuslaw02.GapAll': WHATEVER THE INPUT: true; the input reads as it did. -/
def gapAllSpec : ChangeSpec := { name := "gapAll", fn := fun _ => fun
  | [d] => { results := [.lit (.bool true)], args := [d] }
  | _ => none }
def gapAllRow : OpenClaim := { program := "ytkfebceainedfaa", sum := "0c37ecd72dc0d42ab06aaff623e01a3db10f42cdf3fb9238f05cef3d0f4fe7e8", func := "cippus/cippuslaw02.GapAll", spec := "gapAll", inPlace := ["internal/abi.NoEscape"], unfollowed := true, recurses := true, plainKeys := false, apart := false }
def GapAllSaid : Prop := gapAllRow.holds Try.pinned (OpenSpec.ofChange gapAllSpec)

/-- ITS FALSE NEIGHBOUR: 'it returns false'. Refute it at one input. -/
def gapAllWrong : ChangeSpec := { name := "gapAll", fn := fun _ => fun
  | [d] => { results := [.lit (.bool false)], args := [d] }
  | _ => none }
def GapAllWrongFalsely : Prop := gapAllRow.holds Try.pinned (OpenSpec.ofChange gapAllWrong)

/-- 'cippuslaw02.GapShared': WHATEVER THE INPUT: true; the input reads as it did. -/
def gapSharedSpec : ChangeSpec := { name := "gapShared", fn := fun _ => fun
  | [d] => { results := [.lit (.bool true)], args := [d] }
  | _ => none }
def gapSharedRow : OpenClaim := { program := "ytkfebceainedfaa", sum := "0c37ecd72dc0d42ab06aaff623e01a3db10f42cdf3fb9238f05cef3d0f4fe7e8", func := "cippus/cippuslaw02.GapShared", spec := "gapShared", inPlace := ["internal/abi.NoEscape"], unfollowed := true, recurses := true, plainKeys := false, apart := false }
def GapSharedSaid : Prop := gapSharedRow.holds Try.pinned (OpenSpec.ofChange gapSharedSpec)

/-- ITS FALSE NEIGHBOUR: 'it returns false'. Refute it at one input. -/
def gapSharedWrong : ChangeSpec := { name := "gapShared", fn := fun _ => fun
  | [d] => { results := [.lit (.bool false)], args := [d] }
  | _ => none }
def GapSharedWrongFalsely : Prop := gapSharedRow.holds Try.pinned (OpenSpec.ofChange gapSharedWrong)

/-- 'cippuslaw02.GapOutside': WHATEVER THE INPUT: true; the input reads as it did. -/
def gapOutsideSpec : ChangeSpec := { name := "gapOutside", fn := fun _ => fun
  | [d] => { results := [.lit (.bool true)], args := [d] }
  | _ => none }
def gapOutsideRow : OpenClaim := { program := "ytkfebceainedfaa", sum := "0c37ecd72dc0d42ab06aaff623e01a3db10f42cdf3fb9238f05cef3d0f4fe7e8", func := "cippus/cippuslaw02.GapOutside", spec := "gapOutside", inPlace := ["internal/abi.NoEscape"], unfollowed := true, recurses := true, plainKeys := false, apart := false }
def GapOutsideSaid : Prop := gapOutsideRow.holds Try.pinned (OpenSpec.ofChange gapOutsideSpec)

/-- ITS FALSE NEIGHBOUR: 'it returns false'. Refute it at one input. -/
def gapOutsideWrong : ChangeSpec := { name := "gapOutside", fn := fun _ => fun
  | [d] => { results := [.lit (.bool false)], args := [d] }
  | _ => none }
def GapOutsideWrongFalsely : Prop := gapOutsideRow.holds Try.pinned (OpenSpec.ofChange gapOutsideWrong)

/-- 'cippuslaw02.GapDamage': WHATEVER THE INPUT: true; the input reads as it did. -/
def gapDamageSpec : ChangeSpec := { name := "gapDamage", fn := fun _ => fun
  | [d] => { results := [.lit (.bool true)], args := [d] }
  | _ => none }
def gapDamageRow : OpenClaim := { program := "ytkfebceainedfaa", sum := "0c37ecd72dc0d42ab06aaff623e01a3db10f42cdf3fb9238f05cef3d0f4fe7e8", func := "cippus/cippuslaw02.GapDamage", spec := "gapDamage", inPlace := ["internal/abi.NoEscape"], unfollowed := true, recurses := true, plainKeys := false, apart := false }
def GapDamageSaid : Prop := gapDamageRow.holds Try.pinned (OpenSpec.ofChange gapDamageSpec)

/-- ITS FALSE NEIGHBOUR: 'it returns false'. Refute it at one input. -/
def gapDamageWrong : ChangeSpec := { name := "gapDamage", fn := fun _ => fun
  | [d] => { results := [.lit (.bool false)], args := [d] }
  | _ => none }
def GapDamageWrongFalsely : Prop := gapDamageRow.holds Try.pinned (OpenSpec.ofChange gapDamageWrong)

/-- 'cippuslaw02.GapWords': WHATEVER THE INPUT: true; the input reads as it did. -/
def gapWordsSpec : ChangeSpec := { name := "gapWords", fn := fun _ => fun
  | [d] => { results := [.lit (.bool true)], args := [d] }
  | _ => none }
def gapWordsRow : OpenClaim := { program := "ytkfebceainedfaa", sum := "0c37ecd72dc0d42ab06aaff623e01a3db10f42cdf3fb9238f05cef3d0f4fe7e8", func := "cippus/cippuslaw02.GapWords", spec := "gapWords", inPlace := ["internal/abi.NoEscape"], unfollowed := true, recurses := true, plainKeys := false, apart := false }
def GapWordsSaid : Prop := gapWordsRow.holds Try.pinned (OpenSpec.ofChange gapWordsSpec)

/-- ITS FALSE NEIGHBOUR: 'it returns false'. Refute it at one input. -/
def gapWordsWrong : ChangeSpec := { name := "gapWords", fn := fun _ => fun
  | [d] => { results := [.lit (.bool false)], args := [d] }
  | _ => none }
def GapWordsWrongFalsely : Prop := gapWordsRow.holds Try.pinned (OpenSpec.ofChange gapWordsWrong)

/-- 'cippuslaw02.GapStuck': WHATEVER THE INPUT: true; the input reads as it did. -/
def gapStuckSpec : ChangeSpec := { name := "gapStuck", fn := fun _ => fun
  | [d] => { results := [.lit (.bool true)], args := [d] }
  | _ => none }
def gapStuckRow : OpenClaim := { program := "ytkfebceainedfaa", sum := "0c37ecd72dc0d42ab06aaff623e01a3db10f42cdf3fb9238f05cef3d0f4fe7e8", func := "cippus/cippuslaw02.GapStuck", spec := "gapStuck", inPlace := ["internal/abi.NoEscape"], unfollowed := true, recurses := true, plainKeys := false, apart := false }
def GapStuckSaid : Prop := gapStuckRow.holds Try.pinned (OpenSpec.ofChange gapStuckSpec)

/-- ITS FALSE NEIGHBOUR: 'it returns false'. Refute it at one input. -/
def gapStuckWrong : ChangeSpec := { name := "gapStuck", fn := fun _ => fun
  | [d] => { results := [.lit (.bool false)], args := [d] }
  | _ => none }
def GapStuckWrongFalsely : Prop := gapStuckRow.holds Try.pinned (OpenSpec.ofChange gapStuckWrong)

/-- 'cippuslaw02.GapWindows': WHATEVER THE INPUT: true; the input reads as it did. -/
def gapWindowsSpec : ChangeSpec := { name := "gapWindows", fn := fun _ => fun
  | [d] => { results := [.lit (.bool true)], args := [d] }
  | _ => none }
def gapWindowsRow : OpenClaim := { program := "ytkfebceainedfaa", sum := "0c37ecd72dc0d42ab06aaff623e01a3db10f42cdf3fb9238f05cef3d0f4fe7e8", func := "cippus/cippuslaw02.GapWindows", spec := "gapWindows", inPlace := ["internal/abi.NoEscape"], unfollowed := true, recurses := true, plainKeys := false, apart := false }
def GapWindowsSaid : Prop := gapWindowsRow.holds Try.pinned (OpenSpec.ofChange gapWindowsSpec)

/-- ITS FALSE NEIGHBOUR: 'it returns false'. Refute it at one input. -/
def gapWindowsWrong : ChangeSpec := { name := "gapWindows", fn := fun _ => fun
  | [d] => { results := [.lit (.bool false)], args := [d] }
  | _ => none }
def GapWindowsWrongFalsely : Prop := gapWindowsRow.holds Try.pinned (OpenSpec.ofChange gapWindowsWrong)

/- THE SECOND FORM. 'bulk': how many values and letters a reading holds, each counted each time it is reached (what is shared counts as often as it is met; a slice's spare places count too). A statement '..UptoSaid' is the law's where the arguments, and the package variables that the reading takes, are together of bulk at most 1048576: NARROWER than '..Said'. Prove '..Said' where nothing that the law and all that it calls make is longer than what came in: it says more and counts as full. Else prove '..UptoSaid'. A law counts once. -/
mutual
def uptoBulk {H : Type} : DataW H → Nat
  | .lit (.string bytes) => bytes.length + 1
  | .lit _ => 1
  | .nil => 1
  | .ptr d => uptoBulk d + 1
  | .slice elems spare => uptoBulkAll elems + uptoBulkAll spare + 1
  | .agg parts => uptoBulkAll parts + 1
  | .iface _ d => uptoBulk d + 1
  | .map entries => uptoBulkEntries entries + 1
  | .held _ => 1
def uptoBulkAll {H : Type} : List (DataW H) → Nat
  | [] => 0
  | d :: r => uptoBulk d + uptoBulkAll r
def uptoBulkEntries {H : Type} : List (Lit × DataW H) → Nat
  | [] => 0
  | x :: r => uptoBulkEntry x + uptoBulkEntries r
def uptoBulkEntry {H : Type} : Lit × DataW H → Nat
  | (.string bytes, d) => bytes.length + uptoBulk d + 1
  | (_, d) => uptoBulk d + 1
 end
def uptoSmall : (H : Type) → List (DataW H) → Bool := fun _ ds => decide (uptoBulkAll ds ≤ 1048576)
def OpenSpec.upto (s : _root_.Go.ChangeSpec) : _root_.Go.OpenSpec := { _root_.Go.OpenSpec.ofChange s with cond := some uptoSmall }

/-- 'cippuslaw02.GapTrue', WHERE WHAT IT READS IS OF BULK AT MOST 1048576: true; the input reads as it did. -/
def gapTrueUptoRow : OpenClaim := { program := "ytkfebceainedfaa", sum := "0c37ecd72dc0d42ab06aaff623e01a3db10f42cdf3fb9238f05cef3d0f4fe7e8", func := "cippus/cippuslaw02.GapTrue", spec := "gapTrue", inPlace := ["internal/abi.NoEscape"], unfollowed := true, recurses := true, plainKeys := false, apart := false, narrowed := true }
def GapTrueUptoSaid : Prop := gapTrueUptoRow.holds Try.pinned (OpenSpec.upto gapTrueSpec)

/-- 'cippuslaw02.GapAll', WHERE WHAT IT READS IS OF BULK AT MOST 1048576: true; the input reads as it did. -/
def gapAllUptoRow : OpenClaim := { program := "ytkfebceainedfaa", sum := "0c37ecd72dc0d42ab06aaff623e01a3db10f42cdf3fb9238f05cef3d0f4fe7e8", func := "cippus/cippuslaw02.GapAll", spec := "gapAll", inPlace := ["internal/abi.NoEscape"], unfollowed := true, recurses := true, plainKeys := false, apart := false, narrowed := true }
def GapAllUptoSaid : Prop := gapAllUptoRow.holds Try.pinned (OpenSpec.upto gapAllSpec)

/-- 'cippuslaw02.GapShared', WHERE WHAT IT READS IS OF BULK AT MOST 1048576: true; the input reads as it did. -/
def gapSharedUptoRow : OpenClaim := { program := "ytkfebceainedfaa", sum := "0c37ecd72dc0d42ab06aaff623e01a3db10f42cdf3fb9238f05cef3d0f4fe7e8", func := "cippus/cippuslaw02.GapShared", spec := "gapShared", inPlace := ["internal/abi.NoEscape"], unfollowed := true, recurses := true, plainKeys := false, apart := false, narrowed := true }
def GapSharedUptoSaid : Prop := gapSharedUptoRow.holds Try.pinned (OpenSpec.upto gapSharedSpec)

/-- 'cippuslaw02.GapOutside', WHERE WHAT IT READS IS OF BULK AT MOST 1048576: true; the input reads as it did. -/
def gapOutsideUptoRow : OpenClaim := { program := "ytkfebceainedfaa", sum := "0c37ecd72dc0d42ab06aaff623e01a3db10f42cdf3fb9238f05cef3d0f4fe7e8", func := "cippus/cippuslaw02.GapOutside", spec := "gapOutside", inPlace := ["internal/abi.NoEscape"], unfollowed := true, recurses := true, plainKeys := false, apart := false, narrowed := true }
def GapOutsideUptoSaid : Prop := gapOutsideUptoRow.holds Try.pinned (OpenSpec.upto gapOutsideSpec)

/-- 'cippuslaw02.GapDamage', WHERE WHAT IT READS IS OF BULK AT MOST 1048576: true; the input reads as it did. -/
def gapDamageUptoRow : OpenClaim := { program := "ytkfebceainedfaa", sum := "0c37ecd72dc0d42ab06aaff623e01a3db10f42cdf3fb9238f05cef3d0f4fe7e8", func := "cippus/cippuslaw02.GapDamage", spec := "gapDamage", inPlace := ["internal/abi.NoEscape"], unfollowed := true, recurses := true, plainKeys := false, apart := false, narrowed := true }
def GapDamageUptoSaid : Prop := gapDamageUptoRow.holds Try.pinned (OpenSpec.upto gapDamageSpec)

/-- 'cippuslaw02.GapWords', WHERE WHAT IT READS IS OF BULK AT MOST 1048576: true; the input reads as it did. -/
def gapWordsUptoRow : OpenClaim := { program := "ytkfebceainedfaa", sum := "0c37ecd72dc0d42ab06aaff623e01a3db10f42cdf3fb9238f05cef3d0f4fe7e8", func := "cippus/cippuslaw02.GapWords", spec := "gapWords", inPlace := ["internal/abi.NoEscape"], unfollowed := true, recurses := true, plainKeys := false, apart := false, narrowed := true }
def GapWordsUptoSaid : Prop := gapWordsUptoRow.holds Try.pinned (OpenSpec.upto gapWordsSpec)

/-- 'cippuslaw02.GapStuck', WHERE WHAT IT READS IS OF BULK AT MOST 1048576: true; the input reads as it did. -/
def gapStuckUptoRow : OpenClaim := { program := "ytkfebceainedfaa", sum := "0c37ecd72dc0d42ab06aaff623e01a3db10f42cdf3fb9238f05cef3d0f4fe7e8", func := "cippus/cippuslaw02.GapStuck", spec := "gapStuck", inPlace := ["internal/abi.NoEscape"], unfollowed := true, recurses := true, plainKeys := false, apart := false, narrowed := true }
def GapStuckUptoSaid : Prop := gapStuckUptoRow.holds Try.pinned (OpenSpec.upto gapStuckSpec)

/-- 'cippuslaw02.GapWindows', WHERE WHAT IT READS IS OF BULK AT MOST 1048576: true; the input reads as it did. -/
def gapWindowsUptoRow : OpenClaim := { program := "ytkfebceainedfaa", sum := "0c37ecd72dc0d42ab06aaff623e01a3db10f42cdf3fb9238f05cef3d0f4fe7e8", func := "cippus/cippuslaw02.GapWindows", spec := "gapWindows", inPlace := ["internal/abi.NoEscape"], unfollowed := true, recurses := true, plainKeys := false, apart := false, narrowed := true }
def GapWindowsUptoSaid : Prop := gapWindowsUptoRow.holds Try.pinned (OpenSpec.upto gapWindowsSpec)

end Rows
end Go.Proofs.Ytkfebceainedfaa
