/-
  NARROWER THAN 'FOR EVERY INPUT', by the rows' own cells (each row's printed sentence says how): FnExactWidth: loops · FnExactViewsOk: loops.
  DERIVED. THE GIVEN ROWS OF THIS SEAT. 2 by the template 'for every input the law returns true; each argument reads behind the call as it read before'; 0 by the template 'total and deterministic' (their statements: YtnobhkmpkichdaaGreatTotals.lean).
  GIVEN WITH THE SEED: the statements are not yours to turn. If you find one false, say at which input.
  Laid BY PROGRAM, IN A SANDBOX (cutbox-rows.mjs): the forced cells as the released guide's own fill.sh prints them over the translation 87e2489059c6b75f… (all of the seat's roots in one cut). By AI agents, Wed Nov 11 2026. No macro, syntax, notation, axiom, sorry.
-/
import Derived.Test.YtnobhkmpkichdaaGreatChecked
import GoSem.Claim
import GoSem.ClaimJoined
import GoSem.ClaimMapViews
import Derived.JoinedTies
import Derived.KernelRfl
namespace Go.Proofs.YtnobhkmpkichdaaGreat
/- THE CELL 'sum', in the pinned program and in every row, IS THE sha256 OF THE DUMP (.gsa) THAT YtnobhkmpkichdaaGreatProg.lean LOADS. Nothing in Lean hashes anything: it is a label: what it is worth is what the hold of that sum in a sandbox is worth. -/
noncomputable def Tryz.pinned : Pinned := { name := "ytnobhkmpkichdaagreat", sum := "87e2489059c6b75f5d08b14547aedcd3a94feecb8a3ec93f33f52eb13d863e6b", checked := Tryz.checked }
namespace Rows
def none {H : Type} : Left H := { results := [], args := [] }

/-- 'laws.FnExactWidth': WHATEVER THE INPUT: true; the input reads as it did. -/
def fnExactWidthSpec : ChangeSpec := { name := "fnExactWidth", fn := fun _ => fun
  | [d1, d2] => { results := [.lit (.bool true)], args := [d1, d2] }
  | _ => none }
def fnExactWidthRow : OpenClaim := { program := "ytnobhkmpkichdaagreat", sum := "87e2489059c6b75f5d08b14547aedcd3a94feecb8a3ec93f33f52eb13d863e6b", func := "loop.example/g00312/laws.FnExactWidth", spec := "fnExactWidth", unfollowed := true, recurses := true, loops := true, apart := false }
def FnExactWidthSaid : Prop := fnExactWidthRow.holds Tryz.pinned (OpenSpec.ofChange fnExactWidthSpec)

/-- ITS FALSE NEIGHBOUR: 'it returns false'. Refute it at one input. -/
def fnExactWidthWrong : ChangeSpec := { name := "fnExactWidth", fn := fun _ => fun
  | [d1, d2] => { results := [.lit (.bool false)], args := [d1, d2] }
  | _ => none }
def FnExactWidthWrongFalsely : Prop := fnExactWidthRow.holds Tryz.pinned (OpenSpec.ofChange fnExactWidthWrong)

/-- 'laws.FnExactViewsOk': WHATEVER THE INPUT: true; the input reads as it did. -/
def fnExactViewsOkSpec : ChangeSpec := { name := "fnExactViewsOk", fn := fun _ => fun
  | [d1, d2] => { results := [.lit (.bool true)], args := [d1, d2] }
  | _ => none }
def fnExactViewsOkRow : OpenClaim := { program := "ytnobhkmpkichdaagreat", sum := "87e2489059c6b75f5d08b14547aedcd3a94feecb8a3ec93f33f52eb13d863e6b", func := "loop.example/g00312/laws.FnExactViewsOk", spec := "fnExactViewsOk", inPlace := ["internal/bytealg.abigen_runtime_cmpstring"], unfollowed := true, recurses := true, loops := true, apart := false }
def FnExactViewsOkSaid : Prop := fnExactViewsOkRow.holds Tryz.pinned (OpenSpec.ofChange fnExactViewsOkSpec)

/-- ITS FALSE NEIGHBOUR: 'it returns false'. Refute it at one input. -/
def fnExactViewsOkWrong : ChangeSpec := { name := "fnExactViewsOk", fn := fun _ => fun
  | [d1, d2] => { results := [.lit (.bool false)], args := [d1, d2] }
  | _ => none }
def FnExactViewsOkWrongFalsely : Prop := fnExactViewsOkRow.holds Tryz.pinned (OpenSpec.ofChange fnExactViewsOkWrong)

/- THE SECOND FORM. 'bulk': how many values and letters a reading holds, each counted each time it is reached (what is shared counts as often as it is met; a slice's spare places count too). A statement '..UptoSaid' is the law's where the arguments, and the package variables that the reading takes, are together of bulk at most 1048576: NARROWER than '..Said'. Prove '..Said' where nothing that the law and all that it calls make is longer than what came in: it says more and counts as full. Else prove '..UptoSaid'. A law counts once. -/
mutual
def uptoBulk {H : Type} : DataW H → Nat
  | .lit (.string bytes) => bytes.length + 1
  | .lit _ => 1
  | .nil => 1
  | .ptr d => uptoBulk d + 1
  | .slice elems spare => uptoBulkAll elems + uptoBulkAll spare + 1
  | .agg parts => uptoBulkAll parts + 1
  | .iface _ d => uptoBulk d + 1
  | .map entries => uptoBulkEntries entries + 1
  | .held _ => 1
def uptoBulkAll {H : Type} : List (DataW H) → Nat
  | [] => 0
  | d :: r => uptoBulk d + uptoBulkAll r
def uptoBulkEntries {H : Type} : List (Lit × DataW H) → Nat
  | [] => 0
  | x :: r => uptoBulkEntry x + uptoBulkEntries r
def uptoBulkEntry {H : Type} : Lit × DataW H → Nat
  | (.string bytes, d) => bytes.length + uptoBulk d + 1
  | (_, d) => uptoBulk d + 1
 end
def uptoSmall : (H : Type) → List (DataW H) → Bool := fun _ ds => decide (uptoBulkAll ds ≤ 1048576)
def OpenSpec.upto (s : _root_.Go.ChangeSpec) : _root_.Go.OpenSpec := { _root_.Go.OpenSpec.ofChange s with cond := some uptoSmall }

/-- 'laws.FnExactWidth', WHERE WHAT IT READS IS OF BULK AT MOST 1048576: true; the input reads as it did. -/
def fnExactWidthUptoRow : OpenClaim := { program := "ytnobhkmpkichdaagreat", sum := "87e2489059c6b75f5d08b14547aedcd3a94feecb8a3ec93f33f52eb13d863e6b", func := "loop.example/g00312/laws.FnExactWidth", spec := "fnExactWidth", unfollowed := true, recurses := true, loops := true, apart := false, narrowed := true }
def FnExactWidthUptoSaid : Prop := fnExactWidthUptoRow.holds Tryz.pinned (OpenSpec.upto fnExactWidthSpec)

/-- 'laws.FnExactViewsOk', WHERE WHAT IT READS IS OF BULK AT MOST 1048576: true; the input reads as it did. -/
def fnExactViewsOkUptoRow : OpenClaim := { program := "ytnobhkmpkichdaagreat", sum := "87e2489059c6b75f5d08b14547aedcd3a94feecb8a3ec93f33f52eb13d863e6b", func := "loop.example/g00312/laws.FnExactViewsOk", spec := "fnExactViewsOk", inPlace := ["internal/bytealg.abigen_runtime_cmpstring"], unfollowed := true, recurses := true, loops := true, apart := false, narrowed := true }
def FnExactViewsOkUptoSaid : Prop := fnExactViewsOkUptoRow.holds Tryz.pinned (OpenSpec.upto fnExactViewsOkSpec)

end Rows
end Go.Proofs.YtnobhkmpkichdaaGreat
