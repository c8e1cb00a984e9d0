/- The row of 'FnExactExpOk' out of one statement over numbers and lists: every argument that can be read is of the kind that the printed function takes. -/
import Derived.Test.YtmkllhkhiefbnaaRows
import Derived.Test.YtmkllhkhiefbnaaPFnExactExpOkx6
import Derived.Test.YtmkllhkhiefbnaaOpen
import Derived.WalkKit
import Derived.ProofKit
import Derived.OpenShut
import Derived.ShutString
import Derived.ChangeOld
import Derived.Below
import Derived.SizedLaws
import Derived.Carry
namespace Go.Proofs.Ytmkllhkhiefbnaa.RFnExactExpOk
open Go.ChangeShapes Go.WideShapes Go.ChangeAt Go.RowKit
open Go.ChangeMaps (open_string shut_string)
open Go.Proofs.Ytmkllhkhiefbnaa.PFnExactExpOk Go.Proofs.YtmkllhkhiefbnaaW.PrintWords Go.Proofs.YtmkllhkhiefbnaaOpen
set_option linter.unusedVariables false

instance : Inhabited S23 := ⟨z23⟩
def B23 (x : S23) : Prop := I64 x.f0 ∧ I64 x.f1 ∧ Len (x.f2).size
theorem opens23 (n : Nat) : Opens Try.prog n 23 k23 B23 :=
  (opens_struct (fun x : S23 => (x.f0, x.f1, x.f2)) (fun y => ⟨y.1, y.2.1, y.2.2⟩) (fun _ => rfl) Try.underlying23 (by kernel_rfl) (fields_cons ((fun n => opens_i64 Try.underlying3) n) rfl (by kernel_rfl) (fields_cons ((fun n => opens_i64 Try.underlying3) n) rfl (by kernel_rfl) (fields_one ((fun n => opens_string Try.underlying9) n) rfl (by kernel_rfl))))).le (Nat.le_succ n)
instance : Inhabited S26 := ⟨z26⟩
def BN26 : Nat → S26 → Prop
  | 0, _ => False
  | n + 1, x => I64 x.f0 ∧ I64 x.f1 ∧ B23 x.f2 ∧ Len (x.f3).size ∧ (Len x.f4.length ∧ ∀ y ∈ x.f4, BN26 n y)
def B26 (x : S26) : Prop := ∃ n, BN26 n x
theorem opensN26 : ∀ n, Opens Try.prog n 26 (Kd.upto F26 7 [26] n) (BN26 n)
  | 0 => ⟨fun H enc w base spare held fuel cs x hf hx => by
    obtain rfl : fuel = 0 := by omega
    simp [DataW.trod] at hx⟩
  | n + 1 => opens_struct (fun x : S26 => (x.f0, x.f1, x.f2, x.f3, x.f4)) (fun y => ⟨y.1, y.2.1, y.2.2.1, y.2.2.2.1, y.2.2.2.2⟩) (fun _ => rfl) Try.underlying26 (by kernel_rfl) (fields_cons ((fun n => opens_i64 Try.underlying3) n) rfl (by kernel_rfl) (fields_cons ((fun n => opens_i64 Try.underlying3) n) rfl (by kernel_rfl) (fields_cons (opens23 n) rfl (by kernel_rfl) (fields_cons ((fun n => opens_string Try.underlying9) n) rfl (by kernel_rfl) (fields_one ((opens_slice Try.underlying24 ((show Try.prog.cellsOf 26 = 7 by kernel_rfl).trans (sz26 n).symm) (opensN26 n)).le (Nat.le_succ _)) rfl (by kernel_rfl))))))
theorem opens26 (n : Nat) : Opens Try.prog n 26 k26 B26 := ⟨fun H enc w base spare held fuel cs x hf hx => by
  obtain ⟨y, hk, hb⟩ := (opensN26 n).out H enc w base spare held fuel cs x hf hx
  exact ⟨y, ⟨n, hk⟩, n, hb⟩⟩
/-- THE ONE PURE STATEMENT. -/
def Pure : Prop := ∀ (x0 : S26), B26 x0 → ∃ k, laws_FnExactExpOk.f k x0.f0 x0.f1 x0.f2.f0 x0.f2.f1 x0.f2.f2 x0.f3 x0.f4 = some true
theorem own : ownKnob Try.prog.godebug = none := by kernel_rfl
theorem laid : laidOutB Try.prog = true := by kernel_rfl
set_option maxRecDepth 100000 in
theorem lifted (P : Pure) (os : Os) (started : os.Started) (H : Type) (enc : TypeId × Value → H) :
    ReturnsInHanded {} Try.checked os 3 .any (Rows.fnExactExpOkSpec.pre6 enc Try.prog Try.f3 Rows.fnExactExpOkRow.domain false) (Rows.fnExactExpOkSpec.post enc Try.prog Try.f3 false true false false) := by
  refine returnsInHanded_of_change_sized (C := Try.checked) own started (by kernel_rfl) Try.func3
    (ChangeSpec.witness6 (enc := enc) (C := Try.checked) false ⟨#[], #[.agg #[.int .i64 0, .int .i64 0, .int .i64 0, .int .i64 0, .string ⟨#[]⟩, .string ⟨#[]⟩, .slice none 0 0]], []⟩ 8 (by kernel_rfl) (by kernel_rfl) (by kernel_rfl) (by kernel_rfl)) ?_
  intro W base args ds gs before hval0 hW hcnd hsz0 _
  have hval : ∀ (j : Nat) t v, Try.f3.params[j]? = some t → args[j]? = some v → Value.okWide Try.prog W .any base t v := hval0
  have hW' := hW
  obtain ⟨p, q, hA0, hV, rfl, hfz, hnd⟩ := hW
  have hA : DataW.TrodAll enc Try.prog W 0 (fun _ => true) true Try.f3.params.toList args.toList ds p := hA0
  rw [Try.params3] at hA hval
  obtain ⟨v0, vs0, d0, ds0, p0, q0, hargs, rfl, rfl, h0, r0⟩ := trodAll_cons hA
  obtain ⟨rfl, rfl, rfl⟩ := trodAll_nil r0
  obtain rfl : args = #[v0] := by cases args; simp_all
  obtain ⟨rfl, rfl⟩ := trodVars_none hV
  have hlt0 : ∀ x ∈ p0, x.block < W.heap.size := fun x hx => hW'.lt x (by simp [hx])
  obtain ⟨cs0, rfl⟩ := agg_of_okWide Try.underlying26 (hval 0 26 v0 rfl rfl)
  obtain ⟨x0, hk0, b0⟩ := Opens.at_ opens26 h0
  obtain ⟨A0_6, c0_6, e0, l0_6, g0_6⟩ := k26_open (show k26.K W x0 cs0.toList from hk0)
  obtain rfl : cs0 = #[.int .i64 x0.f0, .int .i64 x0.f1, .int .i64 x0.f2.f0, .int .i64 x0.f2.f1, .string x0.f2.f2, .string x0.f3, .slice A0_6 x0.f4.length c0_6] := Array.ext' e0
  clear hA0 hval0 hsz0
  obtain ⟨k, h⟩ := P x0 b0
  refine (laws_FnExactExpOk.calls k x0.f0 x0.f1 x0.f2.f0 x0.f2.f1 x0.f2.f2 x0.f3 A0_6 c0_6 x0.f4 true W g0_6 l0_6 h).mono fun e W' ⟨he, bel⟩ => ?_
  subst he
  exact ⟨_, rfl, _, _, _, [], _, [], hW', trodAll_mk1 (shut_bool Try.underlying4 _), (trodAll_cons_mk (Below.trod laid (by kernel_rfl) (of_decide_eq_true (by kernel_rfl)) h0 bel hlt0) trodAll_mk0), rfl, bel.frame _, fun h => by cases h⟩
theorem of_pure (P : Pure) : Rows.FnExactExpOkSaid :=
  OpenClaim.holds_of_wide 3 Try.f3 rfl rfl rfl rfl rfl rfl rfl ⟨rfl, rfl, rfl, rfl, rfl⟩ rfl rfl rfl rfl rfl (by kernel_rfl) Try.func3 (by kernel_rfl)
    (of_decide_eq_true (by kernel_rfl)) (by unfold Func.isWrapper; first | (rw [if_pos (by decide +kernel)]; kernel_rfl) | (rw [if_neg (by decide +kernel)]; exact ⟨rfl, rfl⟩))
    (fun os started H enc _ => lifted P os started H enc)
end Go.Proofs.Ytmkllhkhiefbnaa.RFnExactExpOk
