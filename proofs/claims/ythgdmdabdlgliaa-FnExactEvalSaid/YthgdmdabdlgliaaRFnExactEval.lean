/- The row of 'FnExactEval' out of one statement over numbers and lists: every argument that can be read is of the kind that the printed function takes. -/
import Derived.Test.YthgdmdabdlgliaaRows
import Derived.Test.YthgdmdabdlgliaaPFnExactEvalx16
import Derived.Test.YthgdmdabdlgliaaOpen
import Derived.WalkKit
import Derived.ProofKit
import Derived.OpenShut
import Derived.ShutString
import Derived.ChangeOld
import Derived.Below
import Derived.SizedLaws
import Derived.Carry
import Derived.HandedShaped
namespace Go.Proofs.Ythgdmdabdlgliaa.RFnExactEval
open Go.ChangeShapes Go.WideShapes Go.ChangeAt Go.RowKit
open Go.ChangeMaps (open_string shut_string)
open Go.Proofs.Ythgdmdabdlgliaa.PFnExactEval Go.Proofs.YthgdmdabdlgliaaW.PrintWords Go.Proofs.YthgdmdabdlgliaaOpen
set_option linter.unusedVariables false

instance : Inhabited S45 := ⟨z45⟩
def B45 (x : S45) : Prop := I64 x.f0 ∧ I64 x.f1 ∧ Len (x.f2).size
theorem opens45 (n : Nat) : Opens Try.prog n 45 k45 B45 :=
  (opens_struct (fun x : S45 => (x.f0, x.f1, x.f2)) (fun y => ⟨y.1, y.2.1, y.2.2⟩) (fun _ => rfl) Try.underlying45 (by kernel_rfl) (fields_cons ((fun n => opens_i64 Try.underlying3) n) rfl (by kernel_rfl) (fields_cons ((fun n => opens_i64 Try.underlying3) n) rfl (by kernel_rfl) (fields_one ((fun n => opens_string Try.underlying9) n) rfl (by kernel_rfl))))).le (Nat.le_succ n)
instance : Inhabited S48 := ⟨z48⟩
def BN48 : Nat → S48 → Prop
  | 0, _ => False
  | n + 1, x => I64 x.f0 ∧ I64 x.f1 ∧ B45 x.f2 ∧ Len (x.f3).size ∧ (Len x.f4.length ∧ ∀ y ∈ x.f4, BN48 n y)
def B48 (x : S48) : Prop := ∃ n, BN48 n x
theorem opensN48 : ∀ n, Opens Try.prog n 48 (Kd.upto F48 7 [48] n) (BN48 n)
  | 0 => ⟨fun H enc w base spare held fuel cs x hf hx => by
    obtain rfl : fuel = 0 := by omega
    simp [DataW.trod] at hx⟩
  | n + 1 => opens_struct (fun x : S48 => (x.f0, x.f1, x.f2, x.f3, x.f4)) (fun y => ⟨y.1, y.2.1, y.2.2.1, y.2.2.2.1, y.2.2.2.2⟩) (fun _ => rfl) Try.underlying48 (by kernel_rfl) (fields_cons ((fun n => opens_i64 Try.underlying3) n) rfl (by kernel_rfl) (fields_cons ((fun n => opens_i64 Try.underlying3) n) rfl (by kernel_rfl) (fields_cons (opens45 n) rfl (by kernel_rfl) (fields_cons ((fun n => opens_string Try.underlying9) n) rfl (by kernel_rfl) (fields_one ((opens_slice Try.underlying46 ((show Try.prog.cellsOf 48 = 7 by kernel_rfl).trans (sz48 n).symm) (opensN48 n)).le (Nat.le_succ _)) rfl (by kernel_rfl))))))
theorem opens48 (n : Nat) : Opens Try.prog n 48 k48 B48 := ⟨fun H enc w base spare held fuel cs x hf hx => by
  obtain ⟨y, hk, hb⟩ := (opensN48 n).out H enc w base spare held fuel cs x hf hx
  exact ⟨y, ⟨n, hk⟩, n, hb⟩⟩
/-- THE ONE PURE STATEMENT. -/
def Pure : Prop := ∀ (x0 : S48) (x1 : List (S45)), B48 x0 → (Len (x1).length ∧ ∀ y ∈ x1, B45 y) → ∃ k, laws_FnExactEval.f k x0.f0 x0.f1 x0.f2.f0 x0.f2.f1 x0.f2.f2 x0.f3 x0.f4 x1 = some true
theorem own : ownKnob Try.prog.godebug = none := by kernel_rfl
theorem laid : laidOutB Try.prog = true := by kernel_rfl
set_option maxRecDepth 100000 in
theorem lifted (P : Pure) (os : Os) (started : os.Started) (H : Type) (enc : TypeId × Value → H) :
    ReturnsInHanded {} Try.checked os 5 .any (Rows.fnExactEvalSpec.pre6 enc Try.prog Try.f5 Rows.fnExactEvalRow.domain false) (Rows.fnExactEvalSpec.post enc Try.prog Try.f5 false true false false) := by
  refine returnsInHanded_of_change_shaped (C := Try.checked) own started (by kernel_rfl) Try.func5
    (ChangeSpec.witness6 (enc := enc) (C := Try.checked) false ⟨#[], #[.agg #[.int .i64 0, .int .i64 0, .int .i64 0, .int .i64 0, .string ⟨#[]⟩, .string ⟨#[]⟩, .slice none 0 0], .slice none 0 0], []⟩ 8 (by kernel_rfl) (by kernel_rfl) (by kernel_rfl) (by kernel_rfl)) ?_
  intro W base args ds gs before hval0 hW hcnd hsz0 hsh _
  have hval : ∀ (j : Nat) t v, Try.f5.params[j]? = some t → args[j]? = some v → Value.okWide Try.prog W .any base t v := hval0
  have hW' := hW
  obtain ⟨p, q, hA0, hV, rfl, hfz, hnd⟩ := hW
  have hA : DataW.TrodAll enc Try.prog W 0 (fun _ => true) true Try.f5.params.toList args.toList ds p := hA0
  rw [Try.params5] at hA hval
  obtain ⟨v0, vs0, d0, ds0, p0, q0, hargs, rfl, rfl, h0, r0⟩ := trodAll_cons hA
  obtain ⟨v1, vs1, d1, ds1, p1, q1, rfl, rfl, rfl, h1, r1⟩ := trodAll_cons r0
  obtain ⟨rfl, rfl, rfl⟩ := trodAll_nil r1
  obtain rfl : args = #[v0, v1] := by cases args; simp_all
  obtain ⟨rfl, rfl⟩ := trodVars_none hV
  have hlt0 : ∀ x ∈ p0, x.block < W.heap.size := fun x hx => hW'.lt x (by simp [hx])
  obtain ⟨cs0, rfl⟩ := agg_of_okWide Try.underlying48 (hval 0 48 v0 rfl rfl)
  obtain ⟨x0, hk0, b0⟩ := Opens.at_ opens48 h0
  obtain ⟨A0_6, c0_6, e0, l0_6, g0_6⟩ := k48_open (show k48.K W x0 cs0.toList from hk0)
  obtain rfl : cs0 = #[.int .i64 x0.f0, .int .i64 x0.f1, .int .i64 x0.f2.f0, .int .i64 x0.f2.f1, .string x0.f2.f2, .string x0.f3, .slice A0_6 x0.f4.length c0_6] := Array.ext' e0
  have hlt1 : ∀ x ∈ p1, x.block < W.heap.size := fun x hx => hW'.lt x (by simp [hx])
  obtain ⟨a1_, n1_, m1_, rfl⟩ := okWide_slice Try.underlying49 (hval 1 49 v1 rfl rfl)
  obtain ⟨x1, hk1, b1⟩ := Opens.at_ (fun n => (opens_slice Try.underlying49 (by kernel_rfl) (opens45 n)).le (Nat.le_succ n)) h1
  obtain ⟨A1, c1, e1, l1, g1⟩ := (show Kd.K (Kd.slice 45 k45) W x1 [.slice a1_ n1_ m1_] from hk1)
  obtain ⟨rfl, rfl, rfl⟩ : A1 = a1_ ∧ n1_ = x1.length ∧ c1 = m1_ := by simp at e1; exact ⟨e1.1.symm, e1.2.1, e1.2.2.symm⟩
  clear hA0 hval0 hsz0
  have hM : MaxLenIn W := Try.laysM144.s1_3 W hsh
  obtain ⟨k, h⟩ := P x0 x1 b0 b1
  refine (laws_FnExactEval.calls k x0.f0 x0.f1 x0.f2.f0 x0.f2.f1 x0.f2.f2 x0.f3 A0_6 c0_6 x0.f4 A1 c1 x1 true W g0_6 l0_6 g1 l1 h hM).mono fun e W' ⟨he, bel⟩ => ?_
  subst he
  exact ⟨_, rfl, _, _, _, [], _, [], hW', trodAll_mk1 (shut_bool Try.underlying4 _), (trodAll_cons_mk (Below.trod laid (by kernel_rfl) (of_decide_eq_true (by kernel_rfl)) h0 bel hlt0) (trodAll_cons_mk (Below.trod laid (by kernel_rfl) (of_decide_eq_true (by kernel_rfl)) h1 bel hlt1) trodAll_mk0)), rfl, bel.frame _, fun h => by cases h⟩
theorem of_pure (P : Pure) : Rows.FnExactEvalSaid :=
  OpenClaim.holds_of_wide 5 Try.f5 rfl rfl rfl rfl rfl rfl rfl ⟨rfl, rfl, rfl, rfl, rfl⟩ rfl rfl rfl rfl rfl (by kernel_rfl) Try.func5 (by kernel_rfl)
    (of_decide_eq_true (by kernel_rfl)) (by unfold Func.isWrapper; first | (rw [if_pos (by decide +kernel)]; kernel_rfl) | (rw [if_neg (by decide +kernel)]; exact ⟨rfl, rfl⟩))
    (fun os started H enc _ => lifted P os started H enc)
end Go.Proofs.Ythgdmdabdlgliaa.RFnExactEval
