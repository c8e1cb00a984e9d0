/- The row of 'FnExactDbOk' out of one statement over numbers and lists: every argument that can be read is of the kind that the printed function takes. -/
import Derived.Test.YtmkllhkhiefbnaaRows
import Derived.Test.YtmkllhkhiefbnaaPFnExactDbOkx12
import Derived.Test.YtmkllhkhiefbnaaOpen
import Derived.WalkKit
import Derived.ProofKit
import Derived.OpenShut
import Derived.ShutString
import Derived.ChangeOld
import Derived.Below
import Derived.SizedLaws
import Derived.Carry
namespace Go.Proofs.Ytmkllhkhiefbnaa.RFnExactDbOk
open Go.ChangeShapes Go.WideShapes Go.ChangeAt Go.RowKit
open Go.ChangeMaps (open_string shut_string)
open Go.Proofs.Ytmkllhkhiefbnaa.PFnExactDbOk Go.Proofs.YtmkllhkhiefbnaaW.PrintWords Go.Proofs.YtmkllhkhiefbnaaOpen
set_option linter.unusedVariables false

instance : Inhabited S23 := ⟨z23⟩
def B23 (x : S23) : Prop := I64 x.f0 ∧ I64 x.f1 ∧ Len (x.f2).size
theorem opens23 (n : Nat) : Opens Try.prog n 23 k23 B23 :=
  (opens_struct (fun x : S23 => (x.f0, x.f1, x.f2)) (fun y => ⟨y.1, y.2.1, y.2.2⟩) (fun _ => rfl) Try.underlying23 (by kernel_rfl) (fields_cons ((fun n => opens_i64 Try.underlying3) n) rfl (by kernel_rfl) (fields_cons ((fun n => opens_i64 Try.underlying3) n) rfl (by kernel_rfl) (fields_one ((fun n => opens_string Try.underlying9) n) rfl (by kernel_rfl))))).le (Nat.le_succ n)
instance : Inhabited S153 := ⟨z153⟩
def B153 (x : S153) : Prop := (Len (x.f0).length ∧ ∀ y ∈ x.f0, B23 y) ∧ I64 x.f1
theorem opens153 (n : Nat) : Opens Try.prog n 153 k153 B153 :=
  (opens_struct (fun x : S153 => (x.f0, x.f1)) (fun y => ⟨y.1, y.2⟩) (fun _ => rfl) Try.underlying153 (by kernel_rfl) (fields_cons ((fun n => (opens_slice Try.underlying39 (by kernel_rfl) (opens23 n)).le (Nat.le_succ n)) n) rfl (by kernel_rfl) (fields_one ((fun n => opens_i64 Try.underlying3) n) rfl (by kernel_rfl)))).le (Nat.le_succ n)
instance : Inhabited S38 := ⟨z38⟩
def B38 (x : S38) : Prop := I64 x.f0 ∧ (Len (x.f1).length ∧ ∀ y ∈ x.f1, B153 y)
theorem opens38 (n : Nat) : Opens Try.prog n 38 k38 B38 :=
  (opens_struct (fun x : S38 => (x.f0, x.f1)) (fun y => ⟨y.1, y.2⟩) (fun _ => rfl) Try.underlying38 (by kernel_rfl) (fields_cons ((fun n => opens_i64 Try.underlying3) n) rfl (by kernel_rfl) (fields_one ((fun n => (opens_slice Try.underlying36 (by kernel_rfl) (opens153 n)).le (Nat.le_succ n)) n) rfl (by kernel_rfl)))).le (Nat.le_succ n)
instance : Inhabited S99 := ⟨z99⟩
def B99 (x : S99) : Prop := Len (x.f0).size ∧ B38 x.f1
theorem opens99 (n : Nat) : Opens Try.prog n 99 k99 B99 :=
  (opens_struct (fun x : S99 => (x.f0, x.f1)) (fun y => ⟨y.1, y.2⟩) (fun _ => rfl) Try.underlying99 (by kernel_rfl) (fields_cons ((fun n => opens_string Try.underlying9) n) rfl (by kernel_rfl) (fields_one (opens38 n) rfl (by kernel_rfl)))).le (Nat.le_succ n)
/-- THE ONE PURE STATEMENT. -/
def Pure : Prop := ∀ (x0 : List (S99)), (Len (x0).length ∧ ∀ y ∈ x0, B99 y) → ∃ k, laws_FnExactDbOk.f k x0 = some true
theorem own : ownKnob Try.prog.godebug = none := by kernel_rfl
theorem laid : laidOutB Try.prog = true := by kernel_rfl
set_option maxRecDepth 100000 in
theorem lifted (P : Pure) (os : Os) (started : os.Started) (H : Type) (enc : TypeId × Value → H) :
    ReturnsInHanded {} Try.checked os 11 .any (Rows.fnExactDbOkSpec.pre6 enc Try.prog Try.f11 Rows.fnExactDbOkRow.domain false) (Rows.fnExactDbOkSpec.post enc Try.prog Try.f11 false true false false) := by
  refine returnsInHanded_of_change_sized (C := Try.checked) own started (by kernel_rfl) Try.func11
    (ChangeSpec.witness6 (enc := enc) (C := Try.checked) false ⟨#[], #[.slice none 0 0], []⟩ 8 (by kernel_rfl) (by kernel_rfl) (by kernel_rfl) (by kernel_rfl)) ?_
  intro W base args ds gs before hval0 hW hcnd hsz0 _
  have hval : ∀ (j : Nat) t v, Try.f11.params[j]? = some t → args[j]? = some v → Value.okWide Try.prog W .any base t v := hval0
  have hW' := hW
  obtain ⟨p, q, hA0, hV, rfl, hfz, hnd⟩ := hW
  have hA : DataW.TrodAll enc Try.prog W 0 (fun _ => true) true Try.f11.params.toList args.toList ds p := hA0
  rw [Try.params11] at hA hval
  obtain ⟨v0, vs0, d0, ds0, p0, q0, hargs, rfl, rfl, h0, r0⟩ := trodAll_cons hA
  obtain ⟨rfl, rfl, rfl⟩ := trodAll_nil r0
  obtain rfl : args = #[v0] := by cases args; simp_all
  obtain ⟨rfl, rfl⟩ := trodVars_none hV
  have hlt0 : ∀ x ∈ p0, x.block < W.heap.size := fun x hx => hW'.lt x (by simp [hx])
  obtain ⟨a0_, n0_, m0_, rfl⟩ := okWide_slice Try.underlying54 (hval 0 54 v0 rfl rfl)
  obtain ⟨x0, hk0, b0⟩ := Opens.at_ (fun n => (opens_slice Try.underlying54 (by kernel_rfl) (opens99 n)).le (Nat.le_succ n)) h0
  obtain ⟨A0, c0, e0, l0, g0⟩ := (show Kd.K (Kd.slice 99 k99) W x0 [.slice a0_ n0_ m0_] from hk0)
  obtain ⟨rfl, rfl, rfl⟩ : A0 = a0_ ∧ n0_ = x0.length ∧ c0 = m0_ := by simp at e0; exact ⟨e0.1.symm, e0.2.1, e0.2.2.symm⟩
  clear hA0 hval0 hsz0
  obtain ⟨k, h⟩ := P x0 b0
  refine (laws_FnExactDbOk.calls k A0 c0 x0 true W g0 l0 h).mono fun e W' ⟨he, bel⟩ => ?_
  subst he
  exact ⟨_, rfl, _, _, _, [], _, [], hW', trodAll_mk1 (shut_bool Try.underlying4 _), (trodAll_cons_mk (Below.trod laid (by kernel_rfl) (of_decide_eq_true (by kernel_rfl)) h0 bel hlt0) trodAll_mk0), rfl, bel.frame _, fun h => by cases h⟩
theorem of_pure (P : Pure) : Rows.FnExactDbOkSaid :=
  OpenClaim.holds_of_wide 11 Try.f11 rfl rfl rfl rfl rfl rfl rfl ⟨rfl, rfl, rfl, rfl, rfl⟩ rfl rfl rfl rfl rfl (by kernel_rfl) Try.func11 (by kernel_rfl)
    (of_decide_eq_true (by kernel_rfl)) (by unfold Func.isWrapper; first | (rw [if_pos (by decide +kernel)]; kernel_rfl) | (rw [if_neg (by decide +kernel)]; exact ⟨rfl, rfl⟩))
    (fun os started H enc _ => lifted P os started H enc)
end Go.Proofs.Ytmkllhkhiefbnaa.RFnExactDbOk
