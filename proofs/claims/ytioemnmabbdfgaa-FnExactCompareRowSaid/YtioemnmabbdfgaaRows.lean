/-
  No cell of these rows narrows 'for every input' (looked for: loops, veiled, ifaces, maps, wideKeys, modest, calm, conditions, laid).
  DERIVED. THE GIVEN ROWS OF THIS SEAT. 12 by the template 'for every input the law returns true; each argument reads behind the call as it read before'; 0 by the template 'total and deterministic' (their statements: YtioemnmabbdfgaaTotals.lean).
  GIVEN WITH THE SEED: the statements are not yours to turn. If you find one false, say at which input.
  Laid BY PROGRAM, IN A SANDBOX (cutbox-rows.mjs): the forced cells as the released guide's own fill.sh prints them over the translation d72853c15f182afa… (all of the seat's roots in one cut). By AI agents, Wed Nov 11 2026. No macro, syntax, notation, axiom, sorry.
-/
import Derived.Test.YtioemnmabbdfgaaChecked
import GoSem.Claim
import GoSem.ClaimJoined
import GoSem.ClaimMapViews
import Derived.JoinedTies
import Derived.KernelRfl
namespace Go.Proofs.Ytioemnmabbdfgaa
/- THE CELL 'sum', in the pinned program and in every row, IS THE sha256 OF THE DUMP (.gsa) THAT YtioemnmabbdfgaaProg.lean LOADS. Nothing in Lean hashes anything: it is a label: what it is worth is what the hold of that sum in a sandbox is worth. -/
noncomputable def Try.pinned : Pinned := { name := "ytioemnmabbdfgaa", sum := "d72853c15f182afa2033075a286708ad735a95bc23fa201094eb0f311f4590ca", checked := Try.checked }
namespace Rows
def none {H : Type} : Left H := { results := [], args := [] }

/-- 'laws.FnExactConstants': WHATEVER THE INPUT: true; the input reads as it did. -/
def fnExactConstantsSpec : ChangeSpec := { name := "fnExactConstants", fn := fun _ => fun
  | [] => { results := [.lit (.bool true)], args := [] }
  | _ => none }
def fnExactConstantsRow : OpenClaim := { program := "ytioemnmabbdfgaa", sum := "d72853c15f182afa2033075a286708ad735a95bc23fa201094eb0f311f4590ca", func := "loop.example/g00312/laws.FnExactConstants", spec := "fnExactConstants", apart := false }
def FnExactConstantsSaid : Prop := fnExactConstantsRow.holds Try.pinned (OpenSpec.ofChange fnExactConstantsSpec)

/-- ITS FALSE NEIGHBOUR: 'it returns false'. Refute it at one input. -/
def fnExactConstantsWrong : ChangeSpec := { name := "fnExactConstants", fn := fun _ => fun
  | [] => { results := [.lit (.bool false)], args := [] }
  | _ => none }
def FnExactConstantsWrongFalsely : Prop := fnExactConstantsRow.holds Try.pinned (OpenSpec.ofChange fnExactConstantsWrong)

/-- 'laws.FnExactCodeText': WHATEVER THE INPUT: true; the input reads as it did. -/
def fnExactCodeTextSpec : ChangeSpec := { name := "fnExactCodeText", fn := fun _ => fun
  | [d] => { results := [.lit (.bool true)], args := [d] }
  | _ => none }
def fnExactCodeTextRow : OpenClaim := { program := "ytioemnmabbdfgaa", sum := "d72853c15f182afa2033075a286708ad735a95bc23fa201094eb0f311f4590ca", func := "loop.example/g00312/laws.FnExactCodeText", spec := "fnExactCodeText", apart := false }
def FnExactCodeTextSaid : Prop := fnExactCodeTextRow.holds Try.pinned (OpenSpec.ofChange fnExactCodeTextSpec)

/-- ITS FALSE NEIGHBOUR: 'it returns false'. Refute it at one input. -/
def fnExactCodeTextWrong : ChangeSpec := { name := "fnExactCodeText", fn := fun _ => fun
  | [d] => { results := [.lit (.bool false)], args := [d] }
  | _ => none }
def FnExactCodeTextWrongFalsely : Prop := fnExactCodeTextRow.holds Try.pinned (OpenSpec.ofChange fnExactCodeTextWrong)

/-- 'laws.FnExactIsTrue': WHATEVER THE INPUT: true; the input reads as it did. -/
def fnExactIsTrueSpec : ChangeSpec := { name := "fnExactIsTrue", fn := fun _ => fun
  | [d] => { results := [.lit (.bool true)], args := [d] }
  | _ => none }
def fnExactIsTrueRow : OpenClaim := { program := "ytioemnmabbdfgaa", sum := "d72853c15f182afa2033075a286708ad735a95bc23fa201094eb0f311f4590ca", func := "loop.example/g00312/laws.FnExactIsTrue", spec := "fnExactIsTrue", apart := false }
def FnExactIsTrueSaid : Prop := fnExactIsTrueRow.holds Try.pinned (OpenSpec.ofChange fnExactIsTrueSpec)

/-- ITS FALSE NEIGHBOUR: 'it returns false'. Refute it at one input. -/
def fnExactIsTrueWrong : ChangeSpec := { name := "fnExactIsTrue", fn := fun _ => fun
  | [d] => { results := [.lit (.bool false)], args := [d] }
  | _ => none }
def FnExactIsTrueWrongFalsely : Prop := fnExactIsTrueRow.holds Try.pinned (OpenSpec.ofChange fnExactIsTrueWrong)

/-- 'laws.FnExactNameOk': WHATEVER THE INPUT: true; the input reads as it did. -/
def fnExactNameOkSpec : ChangeSpec := { name := "fnExactNameOk", fn := fun _ => fun
  | [d] => { results := [.lit (.bool true)], args := [d] }
  | _ => none }
def fnExactNameOkRow : OpenClaim := { program := "ytioemnmabbdfgaa", sum := "d72853c15f182afa2033075a286708ad735a95bc23fa201094eb0f311f4590ca", func := "loop.example/g00312/laws.FnExactNameOk", spec := "fnExactNameOk", unfollowed := true, recurses := true, apart := false }
def FnExactNameOkSaid : Prop := fnExactNameOkRow.holds Try.pinned (OpenSpec.ofChange fnExactNameOkSpec)

/-- ITS FALSE NEIGHBOUR: 'it returns false'. Refute it at one input. -/
def fnExactNameOkWrong : ChangeSpec := { name := "fnExactNameOk", fn := fun _ => fun
  | [d] => { results := [.lit (.bool false)], args := [d] }
  | _ => none }
def FnExactNameOkWrongFalsely : Prop := fnExactNameOkRow.holds Try.pinned (OpenSpec.ofChange fnExactNameOkWrong)

/-- 'laws.FnExactIsNull': WHATEVER THE INPUT: true; the input reads as it did. -/
def fnExactIsNullSpec : ChangeSpec := { name := "fnExactIsNull", fn := fun _ => fun
  | [d] => { results := [.lit (.bool true)], args := [d] }
  | _ => none }
def fnExactIsNullRow : OpenClaim := { program := "ytioemnmabbdfgaa", sum := "d72853c15f182afa2033075a286708ad735a95bc23fa201094eb0f311f4590ca", func := "loop.example/g00312/laws.FnExactIsNull", spec := "fnExactIsNull", apart := false }
def FnExactIsNullSaid : Prop := fnExactIsNullRow.holds Try.pinned (OpenSpec.ofChange fnExactIsNullSpec)

/-- ITS FALSE NEIGHBOUR: 'it returns false'. Refute it at one input. -/
def fnExactIsNullWrong : ChangeSpec := { name := "fnExactIsNull", fn := fun _ => fun
  | [d] => { results := [.lit (.bool false)], args := [d] }
  | _ => none }
def FnExactIsNullWrongFalsely : Prop := fnExactIsNullRow.holds Try.pinned (OpenSpec.ofChange fnExactIsNullWrong)

/-- 'laws.FnExactValueOk': WHATEVER THE INPUT: true; the input reads as it did. -/
def fnExactValueOkSpec : ChangeSpec := { name := "fnExactValueOk", fn := fun _ => fun
  | [d] => { results := [.lit (.bool true)], args := [d] }
  | _ => none }
def fnExactValueOkRow : OpenClaim := { program := "ytioemnmabbdfgaa", sum := "d72853c15f182afa2033075a286708ad735a95bc23fa201094eb0f311f4590ca", func := "loop.example/g00312/laws.FnExactValueOk", spec := "fnExactValueOk", apart := false }
def FnExactValueOkSaid : Prop := fnExactValueOkRow.holds Try.pinned (OpenSpec.ofChange fnExactValueOkSpec)

/-- ITS FALSE NEIGHBOUR: 'it returns false'. Refute it at one input. -/
def fnExactValueOkWrong : ChangeSpec := { name := "fnExactValueOk", fn := fun _ => fun
  | [d] => { results := [.lit (.bool false)], args := [d] }
  | _ => none }
def FnExactValueOkWrongFalsely : Prop := fnExactValueOkRow.holds Try.pinned (OpenSpec.ofChange fnExactValueOkWrong)

/-- 'laws.FnExactNot': WHATEVER THE INPUT: true; the input reads as it did. -/
def fnExactNotSpec : ChangeSpec := { name := "fnExactNot", fn := fun _ => fun
  | [d] => { results := [.lit (.bool true)], args := [d] }
  | _ => none }
def fnExactNotRow : OpenClaim := { program := "ytioemnmabbdfgaa", sum := "d72853c15f182afa2033075a286708ad735a95bc23fa201094eb0f311f4590ca", func := "loop.example/g00312/laws.FnExactNot", spec := "fnExactNot", apart := false }
def FnExactNotSaid : Prop := fnExactNotRow.holds Try.pinned (OpenSpec.ofChange fnExactNotSpec)

/-- ITS FALSE NEIGHBOUR: 'it returns false'. Refute it at one input. -/
def fnExactNotWrong : ChangeSpec := { name := "fnExactNot", fn := fun _ => fun
  | [d] => { results := [.lit (.bool false)], args := [d] }
  | _ => none }
def FnExactNotWrongFalsely : Prop := fnExactNotRow.holds Try.pinned (OpenSpec.ofChange fnExactNotWrong)

/-- 'laws.FnExactCompareValue': WHATEVER THE INPUT: true; the input reads as it did. -/
def fnExactCompareValueSpec : ChangeSpec := { name := "fnExactCompareValue", fn := fun _ => fun
  | [d1, d2] => { results := [.lit (.bool true)], args := [d1, d2] }
  | _ => none }
def fnExactCompareValueRow : OpenClaim := { program := "ytioemnmabbdfgaa", sum := "d72853c15f182afa2033075a286708ad735a95bc23fa201094eb0f311f4590ca", func := "loop.example/g00312/laws.FnExactCompareValue", spec := "fnExactCompareValue", inPlace := ["internal/bytealg.abigen_runtime_cmpstring"], apart := false }
def FnExactCompareValueSaid : Prop := fnExactCompareValueRow.holds Try.pinned (OpenSpec.ofChange fnExactCompareValueSpec)

/-- ITS FALSE NEIGHBOUR: 'it returns false'. Refute it at one input. -/
def fnExactCompareValueWrong : ChangeSpec := { name := "fnExactCompareValue", fn := fun _ => fun
  | [d1, d2] => { results := [.lit (.bool false)], args := [d1, d2] }
  | _ => none }
def FnExactCompareValueWrongFalsely : Prop := fnExactCompareValueRow.holds Try.pinned (OpenSpec.ofChange fnExactCompareValueWrong)

/-- 'laws.FnExactPutValue': WHATEVER THE INPUT: true; the input reads as it did. -/
def fnExactPutValueSpec : ChangeSpec := { name := "fnExactPutValue", fn := fun _ => fun
  | [d] => { results := [.lit (.bool true)], args := [d] }
  | _ => none }
def fnExactPutValueRow : OpenClaim := { program := "ytioemnmabbdfgaa", sum := "d72853c15f182afa2033075a286708ad735a95bc23fa201094eb0f311f4590ca", func := "loop.example/g00312/laws.FnExactPutValue", spec := "fnExactPutValue", apart := false }
def FnExactPutValueSaid : Prop := fnExactPutValueRow.holds Try.pinned (OpenSpec.ofChange fnExactPutValueSpec)

/-- ITS FALSE NEIGHBOUR: 'it returns false'. Refute it at one input. -/
def fnExactPutValueWrong : ChangeSpec := { name := "fnExactPutValue", fn := fun _ => fun
  | [d] => { results := [.lit (.bool false)], args := [d] }
  | _ => none }
def FnExactPutValueWrongFalsely : Prop := fnExactPutValueRow.holds Try.pinned (OpenSpec.ofChange fnExactPutValueWrong)

/-- 'laws.FnExactGetValue': WHATEVER THE INPUT: true; the input reads as it did. -/
def fnExactGetValueSpec : ChangeSpec := { name := "fnExactGetValue", fn := fun _ => fun
  | [d1, d2] => { results := [.lit (.bool true)], args := [d1, d2] }
  | _ => none }
def fnExactGetValueRow : OpenClaim := { program := "ytioemnmabbdfgaa", sum := "d72853c15f182afa2033075a286708ad735a95bc23fa201094eb0f311f4590ca", func := "loop.example/g00312/laws.FnExactGetValue", spec := "fnExactGetValue", apart := false }
def FnExactGetValueSaid : Prop := fnExactGetValueRow.holds Try.pinned (OpenSpec.ofChange fnExactGetValueSpec)

/-- ITS FALSE NEIGHBOUR: 'it returns false'. Refute it at one input. -/
def fnExactGetValueWrong : ChangeSpec := { name := "fnExactGetValue", fn := fun _ => fun
  | [d1, d2] => { results := [.lit (.bool false)], args := [d1, d2] }
  | _ => none }
def FnExactGetValueWrongFalsely : Prop := fnExactGetValueRow.holds Try.pinned (OpenSpec.ofChange fnExactGetValueWrong)

/-- 'laws.FnExactCompareRow': WHATEVER THE INPUT: true; the input reads as it did. -/
def fnExactCompareRowSpec : ChangeSpec := { name := "fnExactCompareRow", fn := fun _ => fun
  | [d1, d2] => { results := [.lit (.bool true)], args := [d1, d2] }
  | _ => none }
def fnExactCompareRowRow : OpenClaim := { program := "ytioemnmabbdfgaa", sum := "d72853c15f182afa2033075a286708ad735a95bc23fa201094eb0f311f4590ca", func := "loop.example/g00312/laws.FnExactCompareRow", spec := "fnExactCompareRow", inPlace := ["internal/bytealg.abigen_runtime_cmpstring"], unfollowed := true, recurses := true, apart := false }
def FnExactCompareRowSaid : Prop := fnExactCompareRowRow.holds Try.pinned (OpenSpec.ofChange fnExactCompareRowSpec)

/-- ITS FALSE NEIGHBOUR: 'it returns false'. Refute it at one input. -/
def fnExactCompareRowWrong : ChangeSpec := { name := "fnExactCompareRow", fn := fun _ => fun
  | [d1, d2] => { results := [.lit (.bool false)], args := [d1, d2] }
  | _ => none }
def FnExactCompareRowWrongFalsely : Prop := fnExactCompareRowRow.holds Try.pinned (OpenSpec.ofChange fnExactCompareRowWrong)

/-- 'laws.FnExactSizeOf': WHATEVER THE INPUT: true; the input reads as it did. -/
def fnExactSizeOfSpec : ChangeSpec := { name := "fnExactSizeOf", fn := fun _ => fun
  | [d] => { results := [.lit (.bool true)], args := [d] }
  | _ => none }
def fnExactSizeOfRow : OpenClaim := { program := "ytioemnmabbdfgaa", sum := "d72853c15f182afa2033075a286708ad735a95bc23fa201094eb0f311f4590ca", func := "loop.example/g00312/laws.FnExactSizeOf", spec := "fnExactSizeOf", apart := false }
def FnExactSizeOfSaid : Prop := fnExactSizeOfRow.holds Try.pinned (OpenSpec.ofChange fnExactSizeOfSpec)

/-- ITS FALSE NEIGHBOUR: 'it returns false'. Refute it at one input. -/
def fnExactSizeOfWrong : ChangeSpec := { name := "fnExactSizeOf", fn := fun _ => fun
  | [d] => { results := [.lit (.bool false)], args := [d] }
  | _ => none }
def FnExactSizeOfWrongFalsely : Prop := fnExactSizeOfRow.holds Try.pinned (OpenSpec.ofChange fnExactSizeOfWrong)

/- THE SECOND FORM. 'bulk': how many values and letters a reading holds, each counted each time it is reached (what is shared counts as often as it is met; a slice's spare places count too). A statement '..UptoSaid' is the law's where the arguments, and the package variables that the reading takes, are together of bulk at most 1048576: NARROWER than '..Said'. Prove '..Said' where nothing that the law and all that it calls make is longer than what came in: it says more and counts as full. Else prove '..UptoSaid'. A law counts once. -/
mutual
def uptoBulk {H : Type} : DataW H → Nat
  | .lit (.string bytes) => bytes.length + 1
  | .lit _ => 1
  | .nil => 1
  | .ptr d => uptoBulk d + 1
  | .slice elems spare => uptoBulkAll elems + uptoBulkAll spare + 1
  | .agg parts => uptoBulkAll parts + 1
  | .iface _ d => uptoBulk d + 1
  | .map entries => uptoBulkEntries entries + 1
  | .held _ => 1
def uptoBulkAll {H : Type} : List (DataW H) → Nat
  | [] => 0
  | d :: r => uptoBulk d + uptoBulkAll r
def uptoBulkEntries {H : Type} : List (Lit × DataW H) → Nat
  | [] => 0
  | x :: r => uptoBulkEntry x + uptoBulkEntries r
def uptoBulkEntry {H : Type} : Lit × DataW H → Nat
  | (.string bytes, d) => bytes.length + uptoBulk d + 1
  | (_, d) => uptoBulk d + 1
 end
def uptoSmall : (H : Type) → List (DataW H) → Bool := fun _ ds => decide (uptoBulkAll ds ≤ 1048576)
def OpenSpec.upto (s : _root_.Go.ChangeSpec) : _root_.Go.OpenSpec := { _root_.Go.OpenSpec.ofChange s with cond := some uptoSmall }

/-- 'laws.FnExactConstants', WHERE WHAT IT READS IS OF BULK AT MOST 1048576: true; the input reads as it did. -/
def fnExactConstantsUptoRow : OpenClaim := { program := "ytioemnmabbdfgaa", sum := "d72853c15f182afa2033075a286708ad735a95bc23fa201094eb0f311f4590ca", func := "loop.example/g00312/laws.FnExactConstants", spec := "fnExactConstants", apart := false, narrowed := true }
def FnExactConstantsUptoSaid : Prop := fnExactConstantsUptoRow.holds Try.pinned (OpenSpec.upto fnExactConstantsSpec)

/-- 'laws.FnExactCodeText', WHERE WHAT IT READS IS OF BULK AT MOST 1048576: true; the input reads as it did. -/
def fnExactCodeTextUptoRow : OpenClaim := { program := "ytioemnmabbdfgaa", sum := "d72853c15f182afa2033075a286708ad735a95bc23fa201094eb0f311f4590ca", func := "loop.example/g00312/laws.FnExactCodeText", spec := "fnExactCodeText", apart := false, narrowed := true }
def FnExactCodeTextUptoSaid : Prop := fnExactCodeTextUptoRow.holds Try.pinned (OpenSpec.upto fnExactCodeTextSpec)

/-- 'laws.FnExactIsTrue', WHERE WHAT IT READS IS OF BULK AT MOST 1048576: true; the input reads as it did. -/
def fnExactIsTrueUptoRow : OpenClaim := { program := "ytioemnmabbdfgaa", sum := "d72853c15f182afa2033075a286708ad735a95bc23fa201094eb0f311f4590ca", func := "loop.example/g00312/laws.FnExactIsTrue", spec := "fnExactIsTrue", apart := false, narrowed := true }
def FnExactIsTrueUptoSaid : Prop := fnExactIsTrueUptoRow.holds Try.pinned (OpenSpec.upto fnExactIsTrueSpec)

/-- 'laws.FnExactNameOk', WHERE WHAT IT READS IS OF BULK AT MOST 1048576: true; the input reads as it did. -/
def fnExactNameOkUptoRow : OpenClaim := { program := "ytioemnmabbdfgaa", sum := "d72853c15f182afa2033075a286708ad735a95bc23fa201094eb0f311f4590ca", func := "loop.example/g00312/laws.FnExactNameOk", spec := "fnExactNameOk", unfollowed := true, recurses := true, apart := false, narrowed := true }
def FnExactNameOkUptoSaid : Prop := fnExactNameOkUptoRow.holds Try.pinned (OpenSpec.upto fnExactNameOkSpec)

/-- 'laws.FnExactIsNull', WHERE WHAT IT READS IS OF BULK AT MOST 1048576: true; the input reads as it did. -/
def fnExactIsNullUptoRow : OpenClaim := { program := "ytioemnmabbdfgaa", sum := "d72853c15f182afa2033075a286708ad735a95bc23fa201094eb0f311f4590ca", func := "loop.example/g00312/laws.FnExactIsNull", spec := "fnExactIsNull", apart := false, narrowed := true }
def FnExactIsNullUptoSaid : Prop := fnExactIsNullUptoRow.holds Try.pinned (OpenSpec.upto fnExactIsNullSpec)

/-- 'laws.FnExactValueOk', WHERE WHAT IT READS IS OF BULK AT MOST 1048576: true; the input reads as it did. -/
def fnExactValueOkUptoRow : OpenClaim := { program := "ytioemnmabbdfgaa", sum := "d72853c15f182afa2033075a286708ad735a95bc23fa201094eb0f311f4590ca", func := "loop.example/g00312/laws.FnExactValueOk", spec := "fnExactValueOk", apart := false, narrowed := true }
def FnExactValueOkUptoSaid : Prop := fnExactValueOkUptoRow.holds Try.pinned (OpenSpec.upto fnExactValueOkSpec)

/-- 'laws.FnExactNot', WHERE WHAT IT READS IS OF BULK AT MOST 1048576: true; the input reads as it did. -/
def fnExactNotUptoRow : OpenClaim := { program := "ytioemnmabbdfgaa", sum := "d72853c15f182afa2033075a286708ad735a95bc23fa201094eb0f311f4590ca", func := "loop.example/g00312/laws.FnExactNot", spec := "fnExactNot", apart := false, narrowed := true }
def FnExactNotUptoSaid : Prop := fnExactNotUptoRow.holds Try.pinned (OpenSpec.upto fnExactNotSpec)

/-- 'laws.FnExactCompareValue', WHERE WHAT IT READS IS OF BULK AT MOST 1048576: true; the input reads as it did. -/
def fnExactCompareValueUptoRow : OpenClaim := { program := "ytioemnmabbdfgaa", sum := "d72853c15f182afa2033075a286708ad735a95bc23fa201094eb0f311f4590ca", func := "loop.example/g00312/laws.FnExactCompareValue", spec := "fnExactCompareValue", inPlace := ["internal/bytealg.abigen_runtime_cmpstring"], apart := false, narrowed := true }
def FnExactCompareValueUptoSaid : Prop := fnExactCompareValueUptoRow.holds Try.pinned (OpenSpec.upto fnExactCompareValueSpec)

/-- 'laws.FnExactPutValue', WHERE WHAT IT READS IS OF BULK AT MOST 1048576: true; the input reads as it did. -/
def fnExactPutValueUptoRow : OpenClaim := { program := "ytioemnmabbdfgaa", sum := "d72853c15f182afa2033075a286708ad735a95bc23fa201094eb0f311f4590ca", func := "loop.example/g00312/laws.FnExactPutValue", spec := "fnExactPutValue", apart := false, narrowed := true }
def FnExactPutValueUptoSaid : Prop := fnExactPutValueUptoRow.holds Try.pinned (OpenSpec.upto fnExactPutValueSpec)

/-- 'laws.FnExactGetValue', WHERE WHAT IT READS IS OF BULK AT MOST 1048576: true; the input reads as it did. -/
def fnExactGetValueUptoRow : OpenClaim := { program := "ytioemnmabbdfgaa", sum := "d72853c15f182afa2033075a286708ad735a95bc23fa201094eb0f311f4590ca", func := "loop.example/g00312/laws.FnExactGetValue", spec := "fnExactGetValue", apart := false, narrowed := true }
def FnExactGetValueUptoSaid : Prop := fnExactGetValueUptoRow.holds Try.pinned (OpenSpec.upto fnExactGetValueSpec)

/-- 'laws.FnExactCompareRow', WHERE WHAT IT READS IS OF BULK AT MOST 1048576: true; the input reads as it did. -/
def fnExactCompareRowUptoRow : OpenClaim := { program := "ytioemnmabbdfgaa", sum := "d72853c15f182afa2033075a286708ad735a95bc23fa201094eb0f311f4590ca", func := "loop.example/g00312/laws.FnExactCompareRow", spec := "fnExactCompareRow", inPlace := ["internal/bytealg.abigen_runtime_cmpstring"], unfollowed := true, recurses := true, apart := false, narrowed := true }
def FnExactCompareRowUptoSaid : Prop := fnExactCompareRowUptoRow.holds Try.pinned (OpenSpec.upto fnExactCompareRowSpec)

/-- 'laws.FnExactSizeOf', WHERE WHAT IT READS IS OF BULK AT MOST 1048576: true; the input reads as it did. -/
def fnExactSizeOfUptoRow : OpenClaim := { program := "ytioemnmabbdfgaa", sum := "d72853c15f182afa2033075a286708ad735a95bc23fa201094eb0f311f4590ca", func := "loop.example/g00312/laws.FnExactSizeOf", spec := "fnExactSizeOf", apart := false, narrowed := true }
def FnExactSizeOfUptoSaid : Prop := fnExactSizeOfUptoRow.holds Try.pinned (OpenSpec.upto fnExactSizeOfSpec)

end Rows
end Go.Proofs.Ytioemnmabbdfgaa
