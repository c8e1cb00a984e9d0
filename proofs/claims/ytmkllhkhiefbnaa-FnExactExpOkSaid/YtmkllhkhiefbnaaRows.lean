/-
  NARROWER THAN 'FOR EVERY INPUT', by the rows' own cells (each row's printed sentence says how): FnExactExpOk: loops · FnExactAndAll: loops.
  DERIVED. THE GIVEN ROWS OF THIS SEAT. 10 by the template 'for every input the law returns true; each argument reads behind the call as it read before'; 0 by the template 'total and deterministic' (their statements: YtmkllhkhiefbnaaTotals.lean).
  GIVEN WITH THE SEED: the statements are not yours to turn. If you find one false, say at which input.
  Laid BY PROGRAM, IN A SANDBOX (cutbox-rows.mjs): the forced cells as the released guide's own fill.sh prints them over the translation 5e957d1c876eb72e… (all of the seat's roots in one cut). By AI agents, Wed Nov 11 2026. No macro, syntax, notation, axiom, sorry.
-/
import Derived.Test.YtmkllhkhiefbnaaChecked
import GoSem.Claim
import GoSem.ClaimJoined
import GoSem.ClaimMapViews
import Derived.JoinedTies
import Derived.KernelRfl
namespace Go.Proofs.Ytmkllhkhiefbnaa
/- THE CELL 'sum', in the pinned program and in every row, IS THE sha256 OF THE DUMP (.gsa) THAT YtmkllhkhiefbnaaProg.lean LOADS. Nothing in Lean hashes anything: it is a label: what it is worth is what the hold of that sum in a sandbox is worth. -/
noncomputable def Try.pinned : Pinned := { name := "ytmkllhkhiefbnaa", sum := "5e957d1c876eb72edba66c645a35fb798c054358a14d842e574bbbfb172d474b", checked := Try.checked }
namespace Rows
def none {H : Type} : Left H := { results := [], args := [] }

/-- 'laws.FnExactExpOk': WHATEVER THE INPUT: true; the input reads as it did. -/
def fnExactExpOkSpec : ChangeSpec := { name := "fnExactExpOk", fn := fun _ => fun
  | [d] => { results := [.lit (.bool true)], args := [d] }
  | _ => none }
def fnExactExpOkRow : OpenClaim := { program := "ytmkllhkhiefbnaa", sum := "5e957d1c876eb72edba66c645a35fb798c054358a14d842e574bbbfb172d474b", func := "loop.example/g00312/laws.FnExactExpOk", spec := "fnExactExpOk", unfollowed := true, recurses := true, loops := true, apart := false }
def FnExactExpOkSaid : Prop := fnExactExpOkRow.holds Try.pinned (OpenSpec.ofChange fnExactExpOkSpec)

/-- ITS FALSE NEIGHBOUR: 'it returns false'. Refute it at one input. -/
def fnExactExpOkWrong : ChangeSpec := { name := "fnExactExpOk", fn := fun _ => fun
  | [d] => { results := [.lit (.bool false)], args := [d] }
  | _ => none }
def FnExactExpOkWrongFalsely : Prop := fnExactExpOkRow.holds Try.pinned (OpenSpec.ofChange fnExactExpOkWrong)

/-- 'laws.FnExactCountOf': WHATEVER THE INPUT: true; the input reads as it did. -/
def fnExactCountOfSpec : ChangeSpec := { name := "fnExactCountOf", fn := fun _ => fun
  | [d1, d2] => { results := [.lit (.bool true)], args := [d1, d2] }
  | _ => none }
def fnExactCountOfRow : OpenClaim := { program := "ytmkllhkhiefbnaa", sum := "5e957d1c876eb72edba66c645a35fb798c054358a14d842e574bbbfb172d474b", func := "loop.example/g00312/laws.FnExactCountOf", spec := "fnExactCountOf", inPlace := ["internal/bytealg.abigen_runtime_cmpstring"], unfollowed := true, recurses := true, apart := false }
def FnExactCountOfSaid : Prop := fnExactCountOfRow.holds Try.pinned (OpenSpec.ofChange fnExactCountOfSpec)

/-- ITS FALSE NEIGHBOUR: 'it returns false'. Refute it at one input. -/
def fnExactCountOfWrong : ChangeSpec := { name := "fnExactCountOf", fn := fun _ => fun
  | [d1, d2] => { results := [.lit (.bool false)], args := [d1, d2] }
  | _ => none }
def FnExactCountOfWrongFalsely : Prop := fnExactCountOfRow.holds Try.pinned (OpenSpec.ofChange fnExactCountOfWrong)

/-- 'laws.FnExactBagOk': WHATEVER THE INPUT: true; the input reads as it did. -/
def fnExactBagOkSpec : ChangeSpec := { name := "fnExactBagOk", fn := fun _ => fun
  | [d] => { results := [.lit (.bool true)], args := [d] }
  | _ => none }
def fnExactBagOkRow : OpenClaim := { program := "ytmkllhkhiefbnaa", sum := "5e957d1c876eb72edba66c645a35fb798c054358a14d842e574bbbfb172d474b", func := "loop.example/g00312/laws.FnExactBagOk", spec := "fnExactBagOk", inPlace := ["internal/bytealg.abigen_runtime_cmpstring"], unfollowed := true, recurses := true, apart := false }
def FnExactBagOkSaid : Prop := fnExactBagOkRow.holds Try.pinned (OpenSpec.ofChange fnExactBagOkSpec)

/-- ITS FALSE NEIGHBOUR: 'it returns false'. Refute it at one input. -/
def fnExactBagOkWrong : ChangeSpec := { name := "fnExactBagOk", fn := fun _ => fun
  | [d] => { results := [.lit (.bool false)], args := [d] }
  | _ => none }
def FnExactBagOkWrongFalsely : Prop := fnExactBagOkRow.holds Try.pinned (OpenSpec.ofChange fnExactBagOkWrong)

/-- 'laws.FnExactPlain': WHATEVER THE INPUT: true; the input reads as it did. -/
def fnExactPlainSpec : ChangeSpec := { name := "fnExactPlain", fn := fun _ => fun
  | [d] => { results := [.lit (.bool true)], args := [d] }
  | _ => none }
def fnExactPlainRow : OpenClaim := { program := "ytmkllhkhiefbnaa", sum := "5e957d1c876eb72edba66c645a35fb798c054358a14d842e574bbbfb172d474b", func := "loop.example/g00312/laws.FnExactPlain", spec := "fnExactPlain", inPlace := ["internal/bytealg.abigen_runtime_cmpstring"], unfollowed := true, recurses := true, apart := false }
def FnExactPlainSaid : Prop := fnExactPlainRow.holds Try.pinned (OpenSpec.ofChange fnExactPlainSpec)

/-- ITS FALSE NEIGHBOUR: 'it returns false'. Refute it at one input. -/
def fnExactPlainWrong : ChangeSpec := { name := "fnExactPlain", fn := fun _ => fun
  | [d] => { results := [.lit (.bool false)], args := [d] }
  | _ => none }
def FnExactPlainWrongFalsely : Prop := fnExactPlainRow.holds Try.pinned (OpenSpec.ofChange fnExactPlainWrong)

/-- 'laws.FnExactTypesOf': WHATEVER THE INPUT: true; the input reads as it did. -/
def fnExactTypesOfSpec : ChangeSpec := { name := "fnExactTypesOf", fn := fun _ => fun
  | [d1, d2] => { results := [.lit (.bool true)], args := [d1, d2] }
  | _ => none }
def fnExactTypesOfRow : OpenClaim := { program := "ytmkllhkhiefbnaa", sum := "5e957d1c876eb72edba66c645a35fb798c054358a14d842e574bbbfb172d474b", func := "loop.example/g00312/laws.FnExactTypesOf", spec := "fnExactTypesOf", unfollowed := true, recurses := true, apart := false }
def FnExactTypesOfSaid : Prop := fnExactTypesOfRow.holds Try.pinned (OpenSpec.ofChange fnExactTypesOfSpec)

/-- ITS FALSE NEIGHBOUR: 'it returns false'. Refute it at one input. -/
def fnExactTypesOfWrong : ChangeSpec := { name := "fnExactTypesOf", fn := fun _ => fun
  | [d1, d2] => { results := [.lit (.bool false)], args := [d1, d2] }
  | _ => none }
def FnExactTypesOfWrongFalsely : Prop := fnExactTypesOfRow.holds Try.pinned (OpenSpec.ofChange fnExactTypesOfWrong)

/-- 'laws.FnExactReckon': WHATEVER THE INPUT: true; the input reads as it did. -/
def fnExactReckonSpec : ChangeSpec := { name := "fnExactReckon", fn := fun _ => fun
  | [d1, d2, d3] => { results := [.lit (.bool true)], args := [d1, d2, d3] }
  | _ => none }
def fnExactReckonRow : OpenClaim := { program := "ytmkllhkhiefbnaa", sum := "5e957d1c876eb72edba66c645a35fb798c054358a14d842e574bbbfb172d474b", func := "loop.example/g00312/laws.FnExactReckon", spec := "fnExactReckon", inPlace := ["internal/bytealg.abigen_runtime_cmpstring", "internal/bytealg.IndexByteString", "internal/bytealg.IndexString"], named := ["internal/bytealg.MaxLen"], apart := false }
def FnExactReckonSaid : Prop := fnExactReckonRow.holds Try.pinned (OpenSpec.ofChange fnExactReckonSpec)

/-- ITS FALSE NEIGHBOUR: 'it returns false'. Refute it at one input. -/
def fnExactReckonWrong : ChangeSpec := { name := "fnExactReckon", fn := fun _ => fun
  | [d1, d2, d3] => { results := [.lit (.bool false)], args := [d1, d2, d3] }
  | _ => none }
def FnExactReckonWrongFalsely : Prop := fnExactReckonRow.holds Try.pinned (OpenSpec.ofChange fnExactReckonWrong)

/-- 'laws.FnExactAndAll': WHATEVER THE INPUT: true; the input reads as it did. -/
def fnExactAndAllSpec : ChangeSpec := { name := "fnExactAndAll", fn := fun _ => fun
  | [d] => { results := [.lit (.bool true)], args := [d] }
  | _ => none }
def fnExactAndAllRow : OpenClaim := { program := "ytmkllhkhiefbnaa", sum := "5e957d1c876eb72edba66c645a35fb798c054358a14d842e574bbbfb172d474b", func := "loop.example/g00312/laws.FnExactAndAll", spec := "fnExactAndAll", unfollowed := true, recurses := true, loops := true, apart := false }
def FnExactAndAllSaid : Prop := fnExactAndAllRow.holds Try.pinned (OpenSpec.ofChange fnExactAndAllSpec)

/-- ITS FALSE NEIGHBOUR: 'it returns false'. Refute it at one input. -/
def fnExactAndAllWrong : ChangeSpec := { name := "fnExactAndAll", fn := fun _ => fun
  | [d] => { results := [.lit (.bool false)], args := [d] }
  | _ => none }
def FnExactAndAllWrongFalsely : Prop := fnExactAndAllRow.holds Try.pinned (OpenSpec.ofChange fnExactAndAllWrong)

/-- 'laws.FnExactPutBag': WHATEVER THE INPUT: true; the input reads as it did. -/
def fnExactPutBagSpec : ChangeSpec := { name := "fnExactPutBag", fn := fun _ => fun
  | [d] => { results := [.lit (.bool true)], args := [d] }
  | _ => none }
def fnExactPutBagRow : OpenClaim := { program := "ytmkllhkhiefbnaa", sum := "5e957d1c876eb72edba66c645a35fb798c054358a14d842e574bbbfb172d474b", func := "loop.example/g00312/laws.FnExactPutBag", spec := "fnExactPutBag", inPlace := ["internal/bytealg.abigen_runtime_cmpstring", "internal/abi.NoEscape"], unfollowed := true, recurses := true, apart := false }
def FnExactPutBagSaid : Prop := fnExactPutBagRow.holds Try.pinned (OpenSpec.ofChange fnExactPutBagSpec)

/-- ITS FALSE NEIGHBOUR: 'it returns false'. Refute it at one input. -/
def fnExactPutBagWrong : ChangeSpec := { name := "fnExactPutBag", fn := fun _ => fun
  | [d] => { results := [.lit (.bool false)], args := [d] }
  | _ => none }
def FnExactPutBagWrongFalsely : Prop := fnExactPutBagRow.holds Try.pinned (OpenSpec.ofChange fnExactPutBagWrong)

/-- 'laws.FnExactDbOk': WHATEVER THE INPUT: true; the input reads as it did. -/
def fnExactDbOkSpec : ChangeSpec := { name := "fnExactDbOk", fn := fun _ => fun
  | [d] => { results := [.lit (.bool true)], args := [d] }
  | _ => none }
def fnExactDbOkRow : OpenClaim := { program := "ytmkllhkhiefbnaa", sum := "5e957d1c876eb72edba66c645a35fb798c054358a14d842e574bbbfb172d474b", func := "loop.example/g00312/laws.FnExactDbOk", spec := "fnExactDbOk", inPlace := ["internal/bytealg.abigen_runtime_cmpstring"], unfollowed := true, recurses := true, apart := false }
def FnExactDbOkSaid : Prop := fnExactDbOkRow.holds Try.pinned (OpenSpec.ofChange fnExactDbOkSpec)

/-- ITS FALSE NEIGHBOUR: 'it returns false'. Refute it at one input. -/
def fnExactDbOkWrong : ChangeSpec := { name := "fnExactDbOk", fn := fun _ => fun
  | [d] => { results := [.lit (.bool false)], args := [d] }
  | _ => none }
def FnExactDbOkWrongFalsely : Prop := fnExactDbOkRow.holds Try.pinned (OpenSpec.ofChange fnExactDbOkWrong)

/-- 'laws.FnExactGetBag': WHATEVER THE INPUT: true; the input reads as it did. -/
def fnExactGetBagSpec : ChangeSpec := { name := "fnExactGetBag", fn := fun _ => fun
  | [d] => { results := [.lit (.bool true)], args := [d] }
  | _ => none }
def fnExactGetBagRow : OpenClaim := { program := "ytmkllhkhiefbnaa", sum := "5e957d1c876eb72edba66c645a35fb798c054358a14d842e574bbbfb172d474b", func := "loop.example/g00312/laws.FnExactGetBag", spec := "fnExactGetBag", inPlace := ["internal/bytealg.abigen_runtime_cmpstring"], unfollowed := true, recurses := true, apart := false }
def FnExactGetBagSaid : Prop := fnExactGetBagRow.holds Try.pinned (OpenSpec.ofChange fnExactGetBagSpec)

/-- ITS FALSE NEIGHBOUR: 'it returns false'. Refute it at one input. -/
def fnExactGetBagWrong : ChangeSpec := { name := "fnExactGetBag", fn := fun _ => fun
  | [d] => { results := [.lit (.bool false)], args := [d] }
  | _ => none }
def FnExactGetBagWrongFalsely : Prop := fnExactGetBagRow.holds Try.pinned (OpenSpec.ofChange fnExactGetBagWrong)

/- THE SECOND FORM. 'bulk': how many values and letters a reading holds, each counted each time it is reached (what is shared counts as often as it is met; a slice's spare places count too). A statement '..UptoSaid' is the law's where the arguments, and the package variables that the reading takes, are together of bulk at most 1048576: NARROWER than '..Said'. Prove '..Said' where nothing that the law and all that it calls make is longer than what came in: it says more and counts as full. Else prove '..UptoSaid'. A law counts once. -/
mutual
def uptoBulk {H : Type} : DataW H → Nat
  | .lit (.string bytes) => bytes.length + 1
  | .lit _ => 1
  | .nil => 1
  | .ptr d => uptoBulk d + 1
  | .slice elems spare => uptoBulkAll elems + uptoBulkAll spare + 1
  | .agg parts => uptoBulkAll parts + 1
  | .iface _ d => uptoBulk d + 1
  | .map entries => uptoBulkEntries entries + 1
  | .held _ => 1
def uptoBulkAll {H : Type} : List (DataW H) → Nat
  | [] => 0
  | d :: r => uptoBulk d + uptoBulkAll r
def uptoBulkEntries {H : Type} : List (Lit × DataW H) → Nat
  | [] => 0
  | x :: r => uptoBulkEntry x + uptoBulkEntries r
def uptoBulkEntry {H : Type} : Lit × DataW H → Nat
  | (.string bytes, d) => bytes.length + uptoBulk d + 1
  | (_, d) => uptoBulk d + 1
 end
def uptoSmall : (H : Type) → List (DataW H) → Bool := fun _ ds => decide (uptoBulkAll ds ≤ 1048576)
def OpenSpec.upto (s : _root_.Go.ChangeSpec) : _root_.Go.OpenSpec := { _root_.Go.OpenSpec.ofChange s with cond := some uptoSmall }

/-- 'laws.FnExactExpOk', WHERE WHAT IT READS IS OF BULK AT MOST 1048576: true; the input reads as it did. -/
def fnExactExpOkUptoRow : OpenClaim := { program := "ytmkllhkhiefbnaa", sum := "5e957d1c876eb72edba66c645a35fb798c054358a14d842e574bbbfb172d474b", func := "loop.example/g00312/laws.FnExactExpOk", spec := "fnExactExpOk", unfollowed := true, recurses := true, loops := true, apart := false, narrowed := true }
def FnExactExpOkUptoSaid : Prop := fnExactExpOkUptoRow.holds Try.pinned (OpenSpec.upto fnExactExpOkSpec)

/-- 'laws.FnExactCountOf', WHERE WHAT IT READS IS OF BULK AT MOST 1048576: true; the input reads as it did. -/
def fnExactCountOfUptoRow : OpenClaim := { program := "ytmkllhkhiefbnaa", sum := "5e957d1c876eb72edba66c645a35fb798c054358a14d842e574bbbfb172d474b", func := "loop.example/g00312/laws.FnExactCountOf", spec := "fnExactCountOf", inPlace := ["internal/bytealg.abigen_runtime_cmpstring"], unfollowed := true, recurses := true, apart := false, narrowed := true }
def FnExactCountOfUptoSaid : Prop := fnExactCountOfUptoRow.holds Try.pinned (OpenSpec.upto fnExactCountOfSpec)

/-- 'laws.FnExactBagOk', WHERE WHAT IT READS IS OF BULK AT MOST 1048576: true; the input reads as it did. -/
def fnExactBagOkUptoRow : OpenClaim := { program := "ytmkllhkhiefbnaa", sum := "5e957d1c876eb72edba66c645a35fb798c054358a14d842e574bbbfb172d474b", func := "loop.example/g00312/laws.FnExactBagOk", spec := "fnExactBagOk", inPlace := ["internal/bytealg.abigen_runtime_cmpstring"], unfollowed := true, recurses := true, apart := false, narrowed := true }
def FnExactBagOkUptoSaid : Prop := fnExactBagOkUptoRow.holds Try.pinned (OpenSpec.upto fnExactBagOkSpec)

/-- 'laws.FnExactPlain', WHERE WHAT IT READS IS OF BULK AT MOST 1048576: true; the input reads as it did. -/
def fnExactPlainUptoRow : OpenClaim := { program := "ytmkllhkhiefbnaa", sum := "5e957d1c876eb72edba66c645a35fb798c054358a14d842e574bbbfb172d474b", func := "loop.example/g00312/laws.FnExactPlain", spec := "fnExactPlain", inPlace := ["internal/bytealg.abigen_runtime_cmpstring"], unfollowed := true, recurses := true, apart := false, narrowed := true }
def FnExactPlainUptoSaid : Prop := fnExactPlainUptoRow.holds Try.pinned (OpenSpec.upto fnExactPlainSpec)

/-- 'laws.FnExactTypesOf', WHERE WHAT IT READS IS OF BULK AT MOST 1048576: true; the input reads as it did. -/
def fnExactTypesOfUptoRow : OpenClaim := { program := "ytmkllhkhiefbnaa", sum := "5e957d1c876eb72edba66c645a35fb798c054358a14d842e574bbbfb172d474b", func := "loop.example/g00312/laws.FnExactTypesOf", spec := "fnExactTypesOf", unfollowed := true, recurses := true, apart := false, narrowed := true }
def FnExactTypesOfUptoSaid : Prop := fnExactTypesOfUptoRow.holds Try.pinned (OpenSpec.upto fnExactTypesOfSpec)

/-- 'laws.FnExactReckon', WHERE WHAT IT READS IS OF BULK AT MOST 1048576: true; the input reads as it did. -/
def fnExactReckonUptoRow : OpenClaim := { program := "ytmkllhkhiefbnaa", sum := "5e957d1c876eb72edba66c645a35fb798c054358a14d842e574bbbfb172d474b", func := "loop.example/g00312/laws.FnExactReckon", spec := "fnExactReckon", inPlace := ["internal/bytealg.abigen_runtime_cmpstring", "internal/bytealg.IndexByteString", "internal/bytealg.IndexString"], named := ["internal/bytealg.MaxLen"], apart := false, narrowed := true }
def FnExactReckonUptoSaid : Prop := fnExactReckonUptoRow.holds Try.pinned (OpenSpec.upto fnExactReckonSpec)

/-- 'laws.FnExactAndAll', WHERE WHAT IT READS IS OF BULK AT MOST 1048576: true; the input reads as it did. -/
def fnExactAndAllUptoRow : OpenClaim := { program := "ytmkllhkhiefbnaa", sum := "5e957d1c876eb72edba66c645a35fb798c054358a14d842e574bbbfb172d474b", func := "loop.example/g00312/laws.FnExactAndAll", spec := "fnExactAndAll", unfollowed := true, recurses := true, loops := true, apart := false, narrowed := true }
def FnExactAndAllUptoSaid : Prop := fnExactAndAllUptoRow.holds Try.pinned (OpenSpec.upto fnExactAndAllSpec)

/-- 'laws.FnExactPutBag', WHERE WHAT IT READS IS OF BULK AT MOST 1048576: true; the input reads as it did. -/
def fnExactPutBagUptoRow : OpenClaim := { program := "ytmkllhkhiefbnaa", sum := "5e957d1c876eb72edba66c645a35fb798c054358a14d842e574bbbfb172d474b", func := "loop.example/g00312/laws.FnExactPutBag", spec := "fnExactPutBag", inPlace := ["internal/bytealg.abigen_runtime_cmpstring", "internal/abi.NoEscape"], unfollowed := true, recurses := true, apart := false, narrowed := true }
def FnExactPutBagUptoSaid : Prop := fnExactPutBagUptoRow.holds Try.pinned (OpenSpec.upto fnExactPutBagSpec)

/-- 'laws.FnExactDbOk', WHERE WHAT IT READS IS OF BULK AT MOST 1048576: true; the input reads as it did. -/
def fnExactDbOkUptoRow : OpenClaim := { program := "ytmkllhkhiefbnaa", sum := "5e957d1c876eb72edba66c645a35fb798c054358a14d842e574bbbfb172d474b", func := "loop.example/g00312/laws.FnExactDbOk", spec := "fnExactDbOk", inPlace := ["internal/bytealg.abigen_runtime_cmpstring"], unfollowed := true, recurses := true, apart := false, narrowed := true }
def FnExactDbOkUptoSaid : Prop := fnExactDbOkUptoRow.holds Try.pinned (OpenSpec.upto fnExactDbOkSpec)

/-- 'laws.FnExactGetBag', WHERE WHAT IT READS IS OF BULK AT MOST 1048576: true; the input reads as it did. -/
def fnExactGetBagUptoRow : OpenClaim := { program := "ytmkllhkhiefbnaa", sum := "5e957d1c876eb72edba66c645a35fb798c054358a14d842e574bbbfb172d474b", func := "loop.example/g00312/laws.FnExactGetBag", spec := "fnExactGetBag", inPlace := ["internal/bytealg.abigen_runtime_cmpstring"], unfollowed := true, recurses := true, apart := false, narrowed := true }
def FnExactGetBagUptoSaid : Prop := fnExactGetBagUptoRow.holds Try.pinned (OpenSpec.upto fnExactGetBagSpec)

end Rows
end Go.Proofs.Ytmkllhkhiefbnaa
