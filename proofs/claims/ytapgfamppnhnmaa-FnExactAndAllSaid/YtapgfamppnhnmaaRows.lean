/-
  NARROWER THAN 'FOR EVERY INPUT', by the rows' own cells (each row's printed sentence says how): FnExactAndAll: loops.
  DERIVED. THE GIVEN ROWS OF THIS SEAT. 3 by the template 'for every input the law returns true; each argument reads behind the call as it read before'; 0 by the template 'total and deterministic' (their statements: YtapgfamppnhnmaaTotals.lean).
  GIVEN WITH THE SEED: the statements are not yours to turn. If you find one false, say at which input.
  Laid BY PROGRAM, IN A SANDBOX (cutbox-rows.mjs): the forced cells as the released guide's own fill.sh prints them over the translation aa2af9dc9f6c9421… (all of the seat's roots in one cut). By AI agents, Wed Nov 11 2026. No macro, syntax, notation, axiom, sorry.
-/
import Derived.Test.YtapgfamppnhnmaaChecked
import GoSem.Claim
import GoSem.ClaimJoined
import GoSem.ClaimMapViews
import Derived.JoinedTies
import Derived.KernelRfl
namespace Go.Proofs.Ytapgfamppnhnmaa
/- THE CELL 'sum', in the pinned program and in every row, IS THE sha256 OF THE DUMP (.gsa) THAT YtapgfamppnhnmaaProg.lean LOADS. Nothing in Lean hashes anything: it is a label: what it is worth is what the hold of that sum in a sandbox is worth. -/
noncomputable def Try.pinned : Pinned := { name := "ytapgfamppnhnmaa", sum := "aa2af9dc9f6c9421151ecd90cbb37bdbe29651b8f1c919d3eb918eae4495063b", checked := Try.checked }
namespace Rows
def none {H : Type} : Left H := { results := [], args := [] }

/-- 'laws.FnExactAndAll': WHATEVER THE INPUT: true; the input reads as it did. -/
def fnExactAndAllSpec : ChangeSpec := { name := "fnExactAndAll", fn := fun _ => fun
  | [d] => { results := [.lit (.bool true)], args := [d] }
  | _ => none }
def fnExactAndAllRow : OpenClaim := { program := "ytapgfamppnhnmaa", sum := "aa2af9dc9f6c9421151ecd90cbb37bdbe29651b8f1c919d3eb918eae4495063b", func := "loop.example/g00312/laws.FnExactAndAll", spec := "fnExactAndAll", unfollowed := true, recurses := true, loops := true, apart := false }
def FnExactAndAllSaid : Prop := fnExactAndAllRow.holds Try.pinned (OpenSpec.ofChange fnExactAndAllSpec)

/-- ITS FALSE NEIGHBOUR: 'it returns false'. Refute it at one input. -/
def fnExactAndAllWrong : ChangeSpec := { name := "fnExactAndAll", fn := fun _ => fun
  | [d] => { results := [.lit (.bool false)], args := [d] }
  | _ => none }
def FnExactAndAllWrongFalsely : Prop := fnExactAndAllRow.holds Try.pinned (OpenSpec.ofChange fnExactAndAllWrong)

/-- 'laws.FnExactBagOf': WHATEVER THE INPUT: true; the input reads as it did. -/
def fnExactBagOfSpec : ChangeSpec := { name := "fnExactBagOf", fn := fun _ => fun
  | [d1, d2] => { results := [.lit (.bool true)], args := [d1, d2] }
  | _ => none }
def fnExactBagOfRow : OpenClaim := { program := "ytapgfamppnhnmaa", sum := "aa2af9dc9f6c9421151ecd90cbb37bdbe29651b8f1c919d3eb918eae4495063b", func := "loop.example/g00312/laws.FnExactBagOf", spec := "fnExactBagOf", inPlace := ["internal/bytealg.abigen_runtime_cmpstring"], unfollowed := true, recurses := true, apart := false }
def FnExactBagOfSaid : Prop := fnExactBagOfRow.holds Try.pinned (OpenSpec.ofChange fnExactBagOfSpec)

/-- ITS FALSE NEIGHBOUR: 'it returns false'. Refute it at one input. -/
def fnExactBagOfWrong : ChangeSpec := { name := "fnExactBagOf", fn := fun _ => fun
  | [d1, d2] => { results := [.lit (.bool false)], args := [d1, d2] }
  | _ => none }
def FnExactBagOfWrongFalsely : Prop := fnExactBagOfRow.holds Try.pinned (OpenSpec.ofChange fnExactBagOfWrong)

/-- 'laws.FnExactChangeOk': WHATEVER THE INPUT: true; the input reads as it did. -/
def fnExactChangeOkSpec : ChangeSpec := { name := "fnExactChangeOk", fn := fun _ => fun
  | [d1, d2] => { results := [.lit (.bool true)], args := [d1, d2] }
  | _ => none }
def fnExactChangeOkRow : OpenClaim := { program := "ytapgfamppnhnmaa", sum := "aa2af9dc9f6c9421151ecd90cbb37bdbe29651b8f1c919d3eb918eae4495063b", func := "loop.example/g00312/laws.FnExactChangeOk", spec := "fnExactChangeOk", inPlace := ["internal/bytealg.abigen_runtime_cmpstring"], unfollowed := true, recurses := true, apart := false }
def FnExactChangeOkSaid : Prop := fnExactChangeOkRow.holds Try.pinned (OpenSpec.ofChange fnExactChangeOkSpec)

/-- ITS FALSE NEIGHBOUR: 'it returns false'. Refute it at one input. -/
def fnExactChangeOkWrong : ChangeSpec := { name := "fnExactChangeOk", fn := fun _ => fun
  | [d1, d2] => { results := [.lit (.bool false)], args := [d1, d2] }
  | _ => none }
def FnExactChangeOkWrongFalsely : Prop := fnExactChangeOkRow.holds Try.pinned (OpenSpec.ofChange fnExactChangeOkWrong)

/- THE SECOND FORM. 'bulk': how many values and letters a reading holds, each counted each time it is reached (what is shared counts as often as it is met; a slice's spare places count too). A statement '..UptoSaid' is the law's where the arguments, and the package variables that the reading takes, are together of bulk at most 1048576: NARROWER than '..Said'. Prove '..Said' where nothing that the law and all that it calls make is longer than what came in: it says more and counts as full. Else prove '..UptoSaid'. A law counts once. -/
mutual
def uptoBulk {H : Type} : DataW H → Nat
  | .lit (.string bytes) => bytes.length + 1
  | .lit _ => 1
  | .nil => 1
  | .ptr d => uptoBulk d + 1
  | .slice elems spare => uptoBulkAll elems + uptoBulkAll spare + 1
  | .agg parts => uptoBulkAll parts + 1
  | .iface _ d => uptoBulk d + 1
  | .map entries => uptoBulkEntries entries + 1
  | .held _ => 1
def uptoBulkAll {H : Type} : List (DataW H) → Nat
  | [] => 0
  | d :: r => uptoBulk d + uptoBulkAll r
def uptoBulkEntries {H : Type} : List (Lit × DataW H) → Nat
  | [] => 0
  | x :: r => uptoBulkEntry x + uptoBulkEntries r
def uptoBulkEntry {H : Type} : Lit × DataW H → Nat
  | (.string bytes, d) => bytes.length + uptoBulk d + 1
  | (_, d) => uptoBulk d + 1
 end
def uptoSmall : (H : Type) → List (DataW H) → Bool := fun _ ds => decide (uptoBulkAll ds ≤ 1048576)
def OpenSpec.upto (s : _root_.Go.ChangeSpec) : _root_.Go.OpenSpec := { _root_.Go.OpenSpec.ofChange s with cond := some uptoSmall }

/-- 'laws.FnExactAndAll', WHERE WHAT IT READS IS OF BULK AT MOST 1048576: true; the input reads as it did. -/
def fnExactAndAllUptoRow : OpenClaim := { program := "ytapgfamppnhnmaa", sum := "aa2af9dc9f6c9421151ecd90cbb37bdbe29651b8f1c919d3eb918eae4495063b", func := "loop.example/g00312/laws.FnExactAndAll", spec := "fnExactAndAll", unfollowed := true, recurses := true, loops := true, apart := false, narrowed := true }
def FnExactAndAllUptoSaid : Prop := fnExactAndAllUptoRow.holds Try.pinned (OpenSpec.upto fnExactAndAllSpec)

/-- 'laws.FnExactBagOf', WHERE WHAT IT READS IS OF BULK AT MOST 1048576: true; the input reads as it did. -/
def fnExactBagOfUptoRow : OpenClaim := { program := "ytapgfamppnhnmaa", sum := "aa2af9dc9f6c9421151ecd90cbb37bdbe29651b8f1c919d3eb918eae4495063b", func := "loop.example/g00312/laws.FnExactBagOf", spec := "fnExactBagOf", inPlace := ["internal/bytealg.abigen_runtime_cmpstring"], unfollowed := true, recurses := true, apart := false, narrowed := true }
def FnExactBagOfUptoSaid : Prop := fnExactBagOfUptoRow.holds Try.pinned (OpenSpec.upto fnExactBagOfSpec)

/-- 'laws.FnExactChangeOk', WHERE WHAT IT READS IS OF BULK AT MOST 1048576: true; the input reads as it did. -/
def fnExactChangeOkUptoRow : OpenClaim := { program := "ytapgfamppnhnmaa", sum := "aa2af9dc9f6c9421151ecd90cbb37bdbe29651b8f1c919d3eb918eae4495063b", func := "loop.example/g00312/laws.FnExactChangeOk", spec := "fnExactChangeOk", inPlace := ["internal/bytealg.abigen_runtime_cmpstring"], unfollowed := true, recurses := true, apart := false, narrowed := true }
def FnExactChangeOkUptoSaid : Prop := fnExactChangeOkUptoRow.holds Try.pinned (OpenSpec.upto fnExactChangeOkSpec)

end Rows
end Go.Proofs.Ytapgfamppnhnmaa
