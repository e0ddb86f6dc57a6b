/-
  No cell of these rows narrows 'for every input' (looked for: loops, veiled, ifaces, maps, wideKeys, modest, calm, conditions, laid).
  DERIVED. THE GIVEN ROWS OF THIS SEAT. 10 by the template 'for every input the law returns true; each argument reads behind the call as it read before'; 0 by the template 'total and deterministic' (their statements: YtegjollhajgcdaaTotals.lean).
  GIVEN WITH THE SEED: the statements are not yours to turn. If you find one false, say at which input.
  Laid BY PROGRAM, IN A SANDBOX (cutbox-rows.mjs): the forced cells as the released guide's own fill.sh prints them over the translation 08efccca9b28f51f… (all of the seat's roots in one cut). By AI agents, Wed Nov 11 2026. No macro, syntax, notation, axiom, sorry.
-/
import Derived.Test.YtegjollhajgcdaaChecked
import GoSem.Claim
import GoSem.ClaimJoined
import GoSem.ClaimMapViews
import Derived.JoinedTies
import Derived.KernelRfl
namespace Go.Proofs.Ytegjollhajgcdaa
/- THE CELL 'sum', in the pinned program and in every row, IS THE sha256 OF THE DUMP (.gsa) THAT YtegjollhajgcdaaProg.lean LOADS. Nothing in Lean hashes anything: it is a label: what it is worth is what the hold of that sum in a sandbox is worth. -/
noncomputable def Try.pinned : Pinned := { name := "ytegjollhajgcdaa", sum := "08efccca9b28f51f2a0b2ce8ffb80d31caf8d6229a4bf82c64fdcae1085b2066", checked := Try.checked }
namespace Rows
def none {H : Type} : Left H := { results := [], args := [] }

/-- 'cippuslaw07.StemmaLetters': WHATEVER THE INPUT: true; the input reads as it did. -/
def stemmaLettersSpec : ChangeSpec := { name := "stemmaLetters", fn := fun _ => fun
  | [d1, d2, d3] => { results := [.lit (.bool true)], args := [d1, d2, d3] }
  | _ => none }
def stemmaLettersRow : OpenClaim := { program := "ytegjollhajgcdaa", sum := "08efccca9b28f51f2a0b2ce8ffb80d31caf8d6229a4bf82c64fdcae1085b2066", func := "cippus/cippuslaw07.StemmaLetters", spec := "stemmaLetters", unfollowed := true, recurses := true, plainKeys := false, apart := false }
def StemmaLettersSaid : Prop := stemmaLettersRow.holds Try.pinned (OpenSpec.ofChange stemmaLettersSpec)

/-- ITS FALSE NEIGHBOUR: 'it returns false'. Refute it at one input. -/
def stemmaLettersWrong : ChangeSpec := { name := "stemmaLetters", fn := fun _ => fun
  | [d1, d2, d3] => { results := [.lit (.bool false)], args := [d1, d2, d3] }
  | _ => none }
def StemmaLettersWrongFalsely : Prop := stemmaLettersRow.holds Try.pinned (OpenSpec.ofChange stemmaLettersWrong)

/-- 'cippuslaw07.StemmaFewest': WHATEVER THE INPUT: true; the input reads as it did. -/
def stemmaFewestSpec : ChangeSpec := { name := "stemmaFewest", fn := fun _ => fun
  | [d1, d2, d3] => { results := [.lit (.bool true)], args := [d1, d2, d3] }
  | _ => none }
def stemmaFewestRow : OpenClaim := { program := "ytegjollhajgcdaa", sum := "08efccca9b28f51f2a0b2ce8ffb80d31caf8d6229a4bf82c64fdcae1085b2066", func := "cippus/cippuslaw07.StemmaFewest", spec := "stemmaFewest", unfollowed := true, recurses := true, plainKeys := false, apart := false }
def StemmaFewestSaid : Prop := stemmaFewestRow.holds Try.pinned (OpenSpec.ofChange stemmaFewestSpec)

/-- ITS FALSE NEIGHBOUR: 'it returns false'. Refute it at one input. -/
def stemmaFewestWrong : ChangeSpec := { name := "stemmaFewest", fn := fun _ => fun
  | [d1, d2, d3] => { results := [.lit (.bool false)], args := [d1, d2, d3] }
  | _ => none }
def StemmaFewestWrongFalsely : Prop := stemmaFewestRow.holds Try.pinned (OpenSpec.ofChange stemmaFewestWrong)

/-- 'cippuslaw07.StemmaAll': WHATEVER THE INPUT: true; the input reads as it did. -/
def stemmaAllSpec : ChangeSpec := { name := "stemmaAll", fn := fun _ => fun
  | [d] => { results := [.lit (.bool true)], args := [d] }
  | _ => none }
def stemmaAllRow : OpenClaim := { program := "ytegjollhajgcdaa", sum := "08efccca9b28f51f2a0b2ce8ffb80d31caf8d6229a4bf82c64fdcae1085b2066", func := "cippus/cippuslaw07.StemmaAll", spec := "stemmaAll", unfollowed := true, recurses := true, plainKeys := false, apart := false }
def StemmaAllSaid : Prop := stemmaAllRow.holds Try.pinned (OpenSpec.ofChange stemmaAllSpec)

/-- ITS FALSE NEIGHBOUR: 'it returns false'. Refute it at one input. -/
def stemmaAllWrong : ChangeSpec := { name := "stemmaAll", fn := fun _ => fun
  | [d] => { results := [.lit (.bool false)], args := [d] }
  | _ => none }
def StemmaAllWrongFalsely : Prop := stemmaAllRow.holds Try.pinned (OpenSpec.ofChange stemmaAllWrong)

/-- 'cippuslaw07.StemmaAgreed': WHATEVER THE INPUT: true; the input reads as it did. -/
def stemmaAgreedSpec : ChangeSpec := { name := "stemmaAgreed", fn := fun _ => fun
  | [d] => { results := [.lit (.bool true)], args := [d] }
  | _ => none }
def stemmaAgreedRow : OpenClaim := { program := "ytegjollhajgcdaa", sum := "08efccca9b28f51f2a0b2ce8ffb80d31caf8d6229a4bf82c64fdcae1085b2066", func := "cippus/cippuslaw07.StemmaAgreed", spec := "stemmaAgreed", unfollowed := true, recurses := true, plainKeys := false, apart := false }
def StemmaAgreedSaid : Prop := stemmaAgreedRow.holds Try.pinned (OpenSpec.ofChange stemmaAgreedSpec)

/-- ITS FALSE NEIGHBOUR: 'it returns false'. Refute it at one input. -/
def stemmaAgreedWrong : ChangeSpec := { name := "stemmaAgreed", fn := fun _ => fun
  | [d] => { results := [.lit (.bool false)], args := [d] }
  | _ => none }
def StemmaAgreedWrongFalsely : Prop := stemmaAgreedRow.holds Try.pinned (OpenSpec.ofChange stemmaAgreedWrong)

/-- 'cippuslaw07.StemmaMore': WHATEVER THE INPUT: true; the input reads as it did. -/
def stemmaMoreSpec : ChangeSpec := { name := "stemmaMore", fn := fun _ => fun
  | [d] => { results := [.lit (.bool true)], args := [d] }
  | _ => none }
def stemmaMoreRow : OpenClaim := { program := "ytegjollhajgcdaa", sum := "08efccca9b28f51f2a0b2ce8ffb80d31caf8d6229a4bf82c64fdcae1085b2066", func := "cippus/cippuslaw07.StemmaMore", spec := "stemmaMore", unfollowed := true, recurses := true, plainKeys := false, apart := false }
def StemmaMoreSaid : Prop := stemmaMoreRow.holds Try.pinned (OpenSpec.ofChange stemmaMoreSpec)

/-- ITS FALSE NEIGHBOUR: 'it returns false'. Refute it at one input. -/
def stemmaMoreWrong : ChangeSpec := { name := "stemmaMore", fn := fun _ => fun
  | [d] => { results := [.lit (.bool false)], args := [d] }
  | _ => none }
def StemmaMoreWrongFalsely : Prop := stemmaMoreRow.holds Try.pinned (OpenSpec.ofChange stemmaMoreWrong)

/-- 'cippuslaw07.StemmaTurned': WHATEVER THE INPUT: true; the input reads as it did. -/
def stemmaTurnedSpec : ChangeSpec := { name := "stemmaTurned", fn := fun _ => fun
  | [d] => { results := [.lit (.bool true)], args := [d] }
  | _ => none }
def stemmaTurnedRow : OpenClaim := { program := "ytegjollhajgcdaa", sum := "08efccca9b28f51f2a0b2ce8ffb80d31caf8d6229a4bf82c64fdcae1085b2066", func := "cippus/cippuslaw07.StemmaTurned", spec := "stemmaTurned", unfollowed := true, recurses := true, plainKeys := false, apart := false }
def StemmaTurnedSaid : Prop := stemmaTurnedRow.holds Try.pinned (OpenSpec.ofChange stemmaTurnedSpec)

/-- ITS FALSE NEIGHBOUR: 'it returns false'. Refute it at one input. -/
def stemmaTurnedWrong : ChangeSpec := { name := "stemmaTurned", fn := fun _ => fun
  | [d] => { results := [.lit (.bool false)], args := [d] }
  | _ => none }
def StemmaTurnedWrongFalsely : Prop := stemmaTurnedRow.holds Try.pinned (OpenSpec.ofChange stemmaTurnedWrong)

/-- 'cippuslaw07.StemmaLater': WHATEVER THE INPUT: true; the input reads as it did. -/
def stemmaLaterSpec : ChangeSpec := { name := "stemmaLater", fn := fun _ => fun
  | [d] => { results := [.lit (.bool true)], args := [d] }
  | _ => none }
def stemmaLaterRow : OpenClaim := { program := "ytegjollhajgcdaa", sum := "08efccca9b28f51f2a0b2ce8ffb80d31caf8d6229a4bf82c64fdcae1085b2066", func := "cippus/cippuslaw07.StemmaLater", spec := "stemmaLater", unfollowed := true, recurses := true, plainKeys := false, apart := false }
def StemmaLaterSaid : Prop := stemmaLaterRow.holds Try.pinned (OpenSpec.ofChange stemmaLaterSpec)

/-- ITS FALSE NEIGHBOUR: 'it returns false'. Refute it at one input. -/
def stemmaLaterWrong : ChangeSpec := { name := "stemmaLater", fn := fun _ => fun
  | [d] => { results := [.lit (.bool false)], args := [d] }
  | _ => none }
def StemmaLaterWrongFalsely : Prop := stemmaLaterRow.holds Try.pinned (OpenSpec.ofChange stemmaLaterWrong)

/-- 'cippuslaw07.StemmaSources': WHATEVER THE INPUT: true; the input reads as it did. -/
def stemmaSourcesSpec : ChangeSpec := { name := "stemmaSources", fn := fun _ => fun
  | [d1, d2, d3, d4, d5] => { results := [.lit (.bool true)], args := [d1, d2, d3, d4, d5] }
  | _ => none }
def stemmaSourcesRow : OpenClaim := { program := "ytegjollhajgcdaa", sum := "08efccca9b28f51f2a0b2ce8ffb80d31caf8d6229a4bf82c64fdcae1085b2066", func := "cippus/cippuslaw07.StemmaSources", spec := "stemmaSources", unfollowed := true, recurses := true, plainKeys := false, apart := false }
def StemmaSourcesSaid : Prop := stemmaSourcesRow.holds Try.pinned (OpenSpec.ofChange stemmaSourcesSpec)

/-- ITS FALSE NEIGHBOUR: 'it returns false'. Refute it at one input. -/
def stemmaSourcesWrong : ChangeSpec := { name := "stemmaSources", fn := fun _ => fun
  | [d1, d2, d3, d4, d5] => { results := [.lit (.bool false)], args := [d1, d2, d3, d4, d5] }
  | _ => none }
def StemmaSourcesWrongFalsely : Prop := stemmaSourcesRow.holds Try.pinned (OpenSpec.ofChange stemmaSourcesWrong)

/-- 'cippuslaw07.StemmaTrue': WHATEVER THE INPUT: true; the input reads as it did. -/
def stemmaTrueSpec : ChangeSpec := { name := "stemmaTrue", fn := fun _ => fun
  | [d] => { results := [.lit (.bool true)], args := [d] }
  | _ => none }
def stemmaTrueRow : OpenClaim := { program := "ytegjollhajgcdaa", sum := "08efccca9b28f51f2a0b2ce8ffb80d31caf8d6229a4bf82c64fdcae1085b2066", func := "cippus/cippuslaw07.StemmaTrue", spec := "stemmaTrue", unfollowed := true, recurses := true, plainKeys := false, apart := false }
def StemmaTrueSaid : Prop := stemmaTrueRow.holds Try.pinned (OpenSpec.ofChange stemmaTrueSpec)

/-- ITS FALSE NEIGHBOUR: 'it returns false'. Refute it at one input. -/
def stemmaTrueWrong : ChangeSpec := { name := "stemmaTrue", fn := fun _ => fun
  | [d] => { results := [.lit (.bool false)], args := [d] }
  | _ => none }
def StemmaTrueWrongFalsely : Prop := stemmaTrueRow.holds Try.pinned (OpenSpec.ofChange stemmaTrueWrong)

/-- 'cippuslaw07.StemmaProved': WHATEVER THE INPUT: true; the input reads as it did. -/
def stemmaProvedSpec : ChangeSpec := { name := "stemmaProved", fn := fun _ => fun
  | [d] => { results := [.lit (.bool true)], args := [d] }
  | _ => none }
def stemmaProvedRow : OpenClaim := { program := "ytegjollhajgcdaa", sum := "08efccca9b28f51f2a0b2ce8ffb80d31caf8d6229a4bf82c64fdcae1085b2066", func := "cippus/cippuslaw07.StemmaProved", spec := "stemmaProved", unfollowed := true, recurses := true, plainKeys := false, apart := false }
def StemmaProvedSaid : Prop := stemmaProvedRow.holds Try.pinned (OpenSpec.ofChange stemmaProvedSpec)

/-- ITS FALSE NEIGHBOUR: 'it returns false'. Refute it at one input. -/
def stemmaProvedWrong : ChangeSpec := { name := "stemmaProved", fn := fun _ => fun
  | [d] => { results := [.lit (.bool false)], args := [d] }
  | _ => none }
def StemmaProvedWrongFalsely : Prop := stemmaProvedRow.holds Try.pinned (OpenSpec.ofChange stemmaProvedWrong)

/- THE SECOND FORM. 'bulk': how many values and letters a reading holds, each counted each time it is reached (what is shared counts as often as it is met; a slice's spare places count too). A statement '..UptoSaid' is the law's where the arguments, and the package variables that the reading takes, are together of bulk at most 1048576: NARROWER than '..Said'. Prove '..Said' where nothing that the law and all that it calls make is longer than what came in: it says more and counts as full. Else prove '..UptoSaid'. A law counts once. -/
mutual
def uptoBulk {H : Type} : DataW H → Nat
  | .lit (.string bytes) => bytes.length + 1
  | .lit _ => 1
  | .nil => 1
  | .ptr d => uptoBulk d + 1
  | .slice elems spare => uptoBulkAll elems + uptoBulkAll spare + 1
  | .agg parts => uptoBulkAll parts + 1
  | .iface _ d => uptoBulk d + 1
  | .map entries => uptoBulkEntries entries + 1
  | .held _ => 1
def uptoBulkAll {H : Type} : List (DataW H) → Nat
  | [] => 0
  | d :: r => uptoBulk d + uptoBulkAll r
def uptoBulkEntries {H : Type} : List (Lit × DataW H) → Nat
  | [] => 0
  | x :: r => uptoBulkEntry x + uptoBulkEntries r
def uptoBulkEntry {H : Type} : Lit × DataW H → Nat
  | (.string bytes, d) => bytes.length + uptoBulk d + 1
  | (_, d) => uptoBulk d + 1
 end
def uptoSmall : (H : Type) → List (DataW H) → Bool := fun _ ds => decide (uptoBulkAll ds ≤ 1048576)
def OpenSpec.upto (s : _root_.Go.ChangeSpec) : _root_.Go.OpenSpec := { _root_.Go.OpenSpec.ofChange s with cond := some uptoSmall }

/-- 'cippuslaw07.StemmaLetters', WHERE WHAT IT READS IS OF BULK AT MOST 1048576: true; the input reads as it did. -/
def stemmaLettersUptoRow : OpenClaim := { program := "ytegjollhajgcdaa", sum := "08efccca9b28f51f2a0b2ce8ffb80d31caf8d6229a4bf82c64fdcae1085b2066", func := "cippus/cippuslaw07.StemmaLetters", spec := "stemmaLetters", unfollowed := true, recurses := true, plainKeys := false, apart := false, narrowed := true }
def StemmaLettersUptoSaid : Prop := stemmaLettersUptoRow.holds Try.pinned (OpenSpec.upto stemmaLettersSpec)

/-- 'cippuslaw07.StemmaFewest', WHERE WHAT IT READS IS OF BULK AT MOST 1048576: true; the input reads as it did. -/
def stemmaFewestUptoRow : OpenClaim := { program := "ytegjollhajgcdaa", sum := "08efccca9b28f51f2a0b2ce8ffb80d31caf8d6229a4bf82c64fdcae1085b2066", func := "cippus/cippuslaw07.StemmaFewest", spec := "stemmaFewest", unfollowed := true, recurses := true, plainKeys := false, apart := false, narrowed := true }
def StemmaFewestUptoSaid : Prop := stemmaFewestUptoRow.holds Try.pinned (OpenSpec.upto stemmaFewestSpec)

/-- 'cippuslaw07.StemmaAll', WHERE WHAT IT READS IS OF BULK AT MOST 1048576: true; the input reads as it did. -/
def stemmaAllUptoRow : OpenClaim := { program := "ytegjollhajgcdaa", sum := "08efccca9b28f51f2a0b2ce8ffb80d31caf8d6229a4bf82c64fdcae1085b2066", func := "cippus/cippuslaw07.StemmaAll", spec := "stemmaAll", unfollowed := true, recurses := true, plainKeys := false, apart := false, narrowed := true }
def StemmaAllUptoSaid : Prop := stemmaAllUptoRow.holds Try.pinned (OpenSpec.upto stemmaAllSpec)

/-- 'cippuslaw07.StemmaAgreed', WHERE WHAT IT READS IS OF BULK AT MOST 1048576: true; the input reads as it did. -/
def stemmaAgreedUptoRow : OpenClaim := { program := "ytegjollhajgcdaa", sum := "08efccca9b28f51f2a0b2ce8ffb80d31caf8d6229a4bf82c64fdcae1085b2066", func := "cippus/cippuslaw07.StemmaAgreed", spec := "stemmaAgreed", unfollowed := true, recurses := true, plainKeys := false, apart := false, narrowed := true }
def StemmaAgreedUptoSaid : Prop := stemmaAgreedUptoRow.holds Try.pinned (OpenSpec.upto stemmaAgreedSpec)

/-- 'cippuslaw07.StemmaMore', WHERE WHAT IT READS IS OF BULK AT MOST 1048576: true; the input reads as it did. -/
def stemmaMoreUptoRow : OpenClaim := { program := "ytegjollhajgcdaa", sum := "08efccca9b28f51f2a0b2ce8ffb80d31caf8d6229a4bf82c64fdcae1085b2066", func := "cippus/cippuslaw07.StemmaMore", spec := "stemmaMore", unfollowed := true, recurses := true, plainKeys := false, apart := false, narrowed := true }
def StemmaMoreUptoSaid : Prop := stemmaMoreUptoRow.holds Try.pinned (OpenSpec.upto stemmaMoreSpec)

/-- 'cippuslaw07.StemmaTurned', WHERE WHAT IT READS IS OF BULK AT MOST 1048576: true; the input reads as it did. -/
def stemmaTurnedUptoRow : OpenClaim := { program := "ytegjollhajgcdaa", sum := "08efccca9b28f51f2a0b2ce8ffb80d31caf8d6229a4bf82c64fdcae1085b2066", func := "cippus/cippuslaw07.StemmaTurned", spec := "stemmaTurned", unfollowed := true, recurses := true, plainKeys := false, apart := false, narrowed := true }
def StemmaTurnedUptoSaid : Prop := stemmaTurnedUptoRow.holds Try.pinned (OpenSpec.upto stemmaTurnedSpec)

/-- 'cippuslaw07.StemmaLater', WHERE WHAT IT READS IS OF BULK AT MOST 1048576: true; the input reads as it did. -/
def stemmaLaterUptoRow : OpenClaim := { program := "ytegjollhajgcdaa", sum := "08efccca9b28f51f2a0b2ce8ffb80d31caf8d6229a4bf82c64fdcae1085b2066", func := "cippus/cippuslaw07.StemmaLater", spec := "stemmaLater", unfollowed := true, recurses := true, plainKeys := false, apart := false, narrowed := true }
def StemmaLaterUptoSaid : Prop := stemmaLaterUptoRow.holds Try.pinned (OpenSpec.upto stemmaLaterSpec)

/-- 'cippuslaw07.StemmaSources', WHERE WHAT IT READS IS OF BULK AT MOST 1048576: true; the input reads as it did. -/
def stemmaSourcesUptoRow : OpenClaim := { program := "ytegjollhajgcdaa", sum := "08efccca9b28f51f2a0b2ce8ffb80d31caf8d6229a4bf82c64fdcae1085b2066", func := "cippus/cippuslaw07.StemmaSources", spec := "stemmaSources", unfollowed := true, recurses := true, plainKeys := false, apart := false, narrowed := true }
def StemmaSourcesUptoSaid : Prop := stemmaSourcesUptoRow.holds Try.pinned (OpenSpec.upto stemmaSourcesSpec)

/-- 'cippuslaw07.StemmaTrue', WHERE WHAT IT READS IS OF BULK AT MOST 1048576: true; the input reads as it did. -/
def stemmaTrueUptoRow : OpenClaim := { program := "ytegjollhajgcdaa", sum := "08efccca9b28f51f2a0b2ce8ffb80d31caf8d6229a4bf82c64fdcae1085b2066", func := "cippus/cippuslaw07.StemmaTrue", spec := "stemmaTrue", unfollowed := true, recurses := true, plainKeys := false, apart := false, narrowed := true }
def StemmaTrueUptoSaid : Prop := stemmaTrueUptoRow.holds Try.pinned (OpenSpec.upto stemmaTrueSpec)

/-- 'cippuslaw07.StemmaProved', WHERE WHAT IT READS IS OF BULK AT MOST 1048576: true; the input reads as it did. -/
def stemmaProvedUptoRow : OpenClaim := { program := "ytegjollhajgcdaa", sum := "08efccca9b28f51f2a0b2ce8ffb80d31caf8d6229a4bf82c64fdcae1085b2066", func := "cippus/cippuslaw07.StemmaProved", spec := "stemmaProved", unfollowed := true, recurses := true, plainKeys := false, apart := false, narrowed := true }
def StemmaProvedUptoSaid : Prop := stemmaProvedUptoRow.holds Try.pinned (OpenSpec.upto stemmaProvedSpec)

end Rows
end Go.Proofs.Ytegjollhajgcdaa
