/- The row of 'FnExactCompareRow' out of one statement over numbers and lists: every argument that can be read is of the kind that the printed function takes. -/
import Derived.Test.YtioemnmabbdfgaaRows
import Derived.Test.YtioemnmabbdfgaaPFnExactCompareRowx3
import Derived.Test.YtioemnmabbdfgaaOpen
import Derived.WalkKit
import Derived.ProofKit
import Derived.OpenShut
import Derived.ShutString
import Derived.ChangeOld
import Derived.Below
import Derived.SizedLaws
import Derived.Carry
namespace Go.Proofs.Ytioemnmabbdfgaa.RFnExactCompareRow
open Go.ChangeShapes Go.WideShapes Go.ChangeAt Go.RowKit
open Go.ChangeMaps (open_string shut_string)
open Go.Proofs.Ytioemnmabbdfgaa.PFnExactCompareRow Go.Proofs.YtioemnmabbdfgaaW.PrintWords Go.Proofs.YtioemnmabbdfgaaOpen
set_option linter.unusedVariables false

instance : Inhabited S26 := ⟨z26⟩
def B26 (x : S26) : Prop := I64 x.f0 ∧ I64 x.f1 ∧ Len (x.f2).size
theorem opens26 (n : Nat) : Opens Try.prog n 26 k26 B26 :=
  (opens_struct (fun x : S26 => (x.f0, x.f1, x.f2)) (fun y => ⟨y.1, y.2.1, y.2.2⟩) (fun _ => rfl) Try.underlying26 (by kernel_rfl) (fields_cons ((fun n => opens_i64 Try.underlying3) n) rfl (by kernel_rfl) (fields_cons ((fun n => opens_i64 Try.underlying3) n) rfl (by kernel_rfl) (fields_one ((fun n => opens_string Try.underlying9) n) rfl (by kernel_rfl))))).le (Nat.le_succ n)
/-- THE ONE PURE STATEMENT. -/
def Pure : Prop := ∀ (x0 : List (S26)) (x1 : List (S26)), (Len (x0).length ∧ ∀ y ∈ x0, B26 y) → (Len (x1).length ∧ ∀ y ∈ x1, B26 y) → ∃ k, laws_FnExactCompareRow.f k x0 x1 = some true
theorem own : ownKnob Try.prog.godebug = none := by kernel_rfl
theorem laid : laidOutB Try.prog = true := by kernel_rfl
set_option maxRecDepth 100000 in
theorem lifted (P : Pure) (os : Os) (started : os.Started) (H : Type) (enc : TypeId × Value → H) :
    ReturnsInHanded {} Try.checked os 13 .any (Rows.fnExactCompareRowSpec.pre6 enc Try.prog Try.f13 Rows.fnExactCompareRowRow.domain false) (Rows.fnExactCompareRowSpec.post enc Try.prog Try.f13 false true false false) := by
  refine returnsInHanded_of_change_sized (C := Try.checked) own started (by kernel_rfl) Try.func13
    (ChangeSpec.witness6 (enc := enc) (C := Try.checked) false ⟨#[], #[.slice none 0 0, .slice none 0 0], []⟩ 8 (by kernel_rfl) (by kernel_rfl) (by kernel_rfl) (by kernel_rfl)) ?_
  intro W base args ds gs before hval0 hW hcnd hsz0 _
  have hval : ∀ (j : Nat) t v, Try.f13.params[j]? = some t → args[j]? = some v → Value.okWide Try.prog W .any base t v := hval0
  have hW' := hW
  obtain ⟨p, q, hA0, hV, rfl, hfz, hnd⟩ := hW
  have hA : DataW.TrodAll enc Try.prog W 0 (fun _ => true) true Try.f13.params.toList args.toList ds p := hA0
  rw [Try.params13] at hA hval
  obtain ⟨v0, vs0, d0, ds0, p0, q0, hargs, rfl, rfl, h0, r0⟩ := trodAll_cons hA
  obtain ⟨v1, vs1, d1, ds1, p1, q1, rfl, rfl, rfl, h1, r1⟩ := trodAll_cons r0
  obtain ⟨rfl, rfl, rfl⟩ := trodAll_nil r1
  obtain rfl : args = #[v0, v1] := by cases args; simp_all
  obtain ⟨rfl, rfl⟩ := trodVars_none hV
  have hlt0 : ∀ x ∈ p0, x.block < W.heap.size := fun x hx => hW'.lt x (by simp [hx])
  obtain ⟨a0_, n0_, m0_, rfl⟩ := okWide_slice Try.underlying41 (hval 0 41 v0 rfl rfl)
  obtain ⟨x0, hk0, b0⟩ := Opens.at_ (fun n => (opens_slice Try.underlying41 (by kernel_rfl) (opens26 n)).le (Nat.le_succ n)) h0
  obtain ⟨A0, c0, e0, l0, g0⟩ := (show Kd.K (Kd.slice 26 k26) W x0 [.slice a0_ n0_ m0_] from hk0)
  obtain ⟨rfl, rfl, rfl⟩ : A0 = a0_ ∧ n0_ = x0.length ∧ c0 = m0_ := by simp at e0; exact ⟨e0.1.symm, e0.2.1, e0.2.2.symm⟩
  have hlt1 : ∀ x ∈ p1, x.block < W.heap.size := fun x hx => hW'.lt x (by simp [hx])
  obtain ⟨a1_, n1_, m1_, rfl⟩ := okWide_slice Try.underlying41 (hval 1 41 v1 rfl rfl)
  obtain ⟨x1, hk1, b1⟩ := Opens.at_ (fun n => (opens_slice Try.underlying41 (by kernel_rfl) (opens26 n)).le (Nat.le_succ n)) h1
  obtain ⟨A1, c1, e1, l1, g1⟩ := (show Kd.K (Kd.slice 26 k26) W x1 [.slice a1_ n1_ m1_] from hk1)
  obtain ⟨rfl, rfl, rfl⟩ : A1 = a1_ ∧ n1_ = x1.length ∧ c1 = m1_ := by simp at e1; exact ⟨e1.1.symm, e1.2.1, e1.2.2.symm⟩
  clear hA0 hval0 hsz0
  obtain ⟨k, h⟩ := P x0 x1 b0 b1
  refine (laws_FnExactCompareRow.calls k A0 c0 x0 A1 c1 x1 true W g0 l0 g1 l1 h).mono fun e W' ⟨he, bel⟩ => ?_
  subst he
  exact ⟨_, rfl, _, _, _, [], _, [], hW', trodAll_mk1 (shut_bool Try.underlying4 _), (trodAll_cons_mk (Below.trod laid (by kernel_rfl) (of_decide_eq_true (by kernel_rfl)) h0 bel hlt0) (trodAll_cons_mk (Below.trod laid (by kernel_rfl) (of_decide_eq_true (by kernel_rfl)) h1 bel hlt1) trodAll_mk0)), rfl, bel.frame _, fun h => by cases h⟩
theorem of_pure (P : Pure) : Rows.FnExactCompareRowSaid :=
  OpenClaim.holds_of_wide 13 Try.f13 rfl rfl rfl rfl rfl rfl rfl ⟨rfl, rfl, rfl, rfl, rfl⟩ rfl rfl rfl rfl rfl (by kernel_rfl) Try.func13 (by kernel_rfl)
    (of_decide_eq_true (by kernel_rfl)) (by unfold Func.isWrapper; first | (rw [if_pos (by decide +kernel)]; kernel_rfl) | (rw [if_neg (by decide +kernel)]; exact ⟨rfl, rfl⟩))
    (fun os started H enc _ => lifted P os started H enc)
end Go.Proofs.Ytioemnmabbdfgaa.RFnExactCompareRow
