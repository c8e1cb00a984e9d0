/- The row of 'FnExactSizeOf' out of one statement over numbers and lists: every argument that can be read is of the kind that the printed function takes. -/
import Derived.Test.YtioemnmabbdfgaaRows
import Derived.Test.YtioemnmabbdfgaaPFnExactSizeOfx3
import Derived.Test.YtioemnmabbdfgaaOpen
import Derived.WalkKit
import Derived.ProofKit
import Derived.OpenShut
import Derived.ShutString
import Derived.ChangeOld
import Derived.Below
import Derived.SizedLaws
import Derived.Carry
namespace Go.Proofs.Ytioemnmabbdfgaa.RFnExactSizeOf
open Go.ChangeShapes Go.WideShapes Go.ChangeAt Go.RowKit
open Go.ChangeMaps (open_string shut_string)
open Go.Proofs.Ytioemnmabbdfgaa.PFnExactSizeOf Go.Proofs.YtioemnmabbdfgaaW.PrintWords Go.Proofs.YtioemnmabbdfgaaOpen
set_option linter.unusedVariables false

instance : Inhabited S26 := ⟨z26⟩
def B26 (x : S26) : Prop := I64 x.f0 ∧ I64 x.f1 ∧ Len (x.f2).size
theorem opens26 (n : Nat) : Opens Try.prog n 26 k26 B26 :=
  (opens_struct (fun x : S26 => (x.f0, x.f1, x.f2)) (fun y => ⟨y.1, y.2.1, y.2.2⟩) (fun _ => rfl) Try.underlying26 (by kernel_rfl) (fields_cons ((fun n => opens_i64 Try.underlying3) n) rfl (by kernel_rfl) (fields_cons ((fun n => opens_i64 Try.underlying3) n) rfl (by kernel_rfl) (fields_one ((fun n => opens_string Try.underlying9) n) rfl (by kernel_rfl))))).le (Nat.le_succ n)
instance : Inhabited S84 := ⟨z84⟩
def B84 (x : S84) : Prop := (Len (x.f0).length ∧ ∀ y ∈ x.f0, B26 y) ∧ I64 x.f1
theorem opens84 (n : Nat) : Opens Try.prog n 84 k84 B84 :=
  (opens_struct (fun x : S84 => (x.f0, x.f1)) (fun y => ⟨y.1, y.2⟩) (fun _ => rfl) Try.underlying84 (by kernel_rfl) (fields_cons ((fun n => (opens_slice Try.underlying41 (by kernel_rfl) (opens26 n)).le (Nat.le_succ n)) n) rfl (by kernel_rfl) (fields_one ((fun n => opens_i64 Try.underlying3) n) rfl (by kernel_rfl)))).le (Nat.le_succ n)
/-! #### struct type 50 -/
structure S50 where
  f0 : Int
  f1 : (List S84)
def z50 : S50 := ⟨(0 : Int), ([] : List S84)⟩
def k50 : Kd S50 := Kd.iso (Kd.pair (Kd.int .i64) (Kd.slice 84 k84)) (fun x : S50 => (x.f0, x.f1))
theorem k50_open {w : World} {x : S50} {cs : List Value} (h : k50.K w x cs) : ∃ A1 c1, cs = [.int .i64 x.f0, .slice A1 x.f1.length c1] ∧ x.f1.length ≤ c1 ∧ k84.C w A1 x.f1.length x.f1 := by
  obtain ⟨_, _, rfl, rfl, ⟨A1, c1, rfl, l1, g1⟩⟩ := h
  exact ⟨A1, c1, rfl, l1, g1⟩
theorem k50_openM {w : World} {base : Nat} {ok : Nat → Prop} {x : S50} {cs : List Value} (h : k50.M w base ok x cs) : ∃ v1, cs = [.int .i64 x.f0, v1] ∧ k84.R 84 w base ok v1 x.f1 := by
  obtain ⟨_, _, rfl, rfl, ⟨v1, rfl, g1⟩⟩ := h
  exact ⟨v1, rfl, g1⟩
theorem k50_mk (w : World) (x : S50) {A1 : Option Addr} {c1 : Nat} (l1 : x.f1.length ≤ c1) (g1 : k84.C w A1 x.f1.length x.f1) : k50.K w x [.int .i64 x.f0, .slice A1 x.f1.length c1] := ⟨[.int .i64 x.f0], [.slice A1 x.f1.length c1], rfl, rfl, ⟨A1, c1, rfl, l1, g1⟩⟩
theorem k50_mkM (w : World) (base : Nat) (ok : Nat → Prop) (x : S50) {v1 : Value} (g1 : k84.R 84 w base ok v1 x.f1) : k50.M w base ok x [.int .i64 x.f0, v1] := ⟨[.int .i64 x.f0], [v1], rfl, rfl, ⟨v1, rfl, g1⟩⟩
instance : Inhabited S50 := ⟨z50⟩
def B50 (x : S50) : Prop := I64 x.f0 ∧ (Len (x.f1).length ∧ ∀ y ∈ x.f1, B84 y)
theorem opens50 (n : Nat) : Opens Try.prog n 50 k50 B50 :=
  (opens_struct (fun x : S50 => (x.f0, x.f1)) (fun y => ⟨y.1, y.2⟩) (fun _ => rfl) Try.underlying50 (by kernel_rfl) (fields_cons ((fun n => opens_i64 Try.underlying3) n) rfl (by kernel_rfl) (fields_one ((fun n => (opens_slice Try.underlying48 (by kernel_rfl) (opens84 n)).le (Nat.le_succ n)) n) rfl (by kernel_rfl)))).le (Nat.le_succ n)
/-- THE ONE PURE STATEMENT. -/
def Pure : Prop := ∀ (x0 : S50), B50 x0 → ∃ k, laws_FnExactSizeOf.f k x0.f0 x0.f1 = some true
theorem own : ownKnob Try.prog.godebug = none := by kernel_rfl
theorem laid : laidOutB Try.prog = true := by kernel_rfl
set_option maxRecDepth 100000 in
theorem lifted (P : Pure) (os : Os) (started : os.Started) (H : Type) (enc : TypeId × Value → H) :
    ReturnsInHanded {} Try.checked os 14 .any (Rows.fnExactSizeOfSpec.pre6 enc Try.prog Try.f14 Rows.fnExactSizeOfRow.domain false) (Rows.fnExactSizeOfSpec.post enc Try.prog Try.f14 false true false false) := by
  refine returnsInHanded_of_change_sized (C := Try.checked) own started (by kernel_rfl) Try.func14
    (ChangeSpec.witness6 (enc := enc) (C := Try.checked) false ⟨#[], #[.agg #[.int .i64 0, .slice none 0 0]], []⟩ 8 (by kernel_rfl) (by kernel_rfl) (by kernel_rfl) (by kernel_rfl)) ?_
  intro W base args ds gs before hval0 hW hcnd hsz0 _
  have hval : ∀ (j : Nat) t v, Try.f14.params[j]? = some t → args[j]? = some v → Value.okWide Try.prog W .any base t v := hval0
  have hW' := hW
  obtain ⟨p, q, hA0, hV, rfl, hfz, hnd⟩ := hW
  have hA : DataW.TrodAll enc Try.prog W 0 (fun _ => true) true Try.f14.params.toList args.toList ds p := hA0
  rw [Try.params14] at hA hval
  obtain ⟨v0, vs0, d0, ds0, p0, q0, hargs, rfl, rfl, h0, r0⟩ := trodAll_cons hA
  obtain ⟨rfl, rfl, rfl⟩ := trodAll_nil r0
  obtain rfl : args = #[v0] := by cases args; simp_all
  obtain ⟨rfl, rfl⟩ := trodVars_none hV
  have hlt0 : ∀ x ∈ p0, x.block < W.heap.size := fun x hx => hW'.lt x (by simp [hx])
  obtain ⟨cs0, rfl⟩ := agg_of_okWide Try.underlying50 (hval 0 50 v0 rfl rfl)
  obtain ⟨x0, hk0, b0⟩ := Opens.at_ opens50 h0
  obtain ⟨A0_1, c0_1, e0, l0_1, g0_1⟩ := k50_open (show k50.K W x0 cs0.toList from hk0)
  obtain rfl : cs0 = #[.int .i64 x0.f0, .slice A0_1 x0.f1.length c0_1] := Array.ext' e0
  clear hA0 hval0 hsz0
  obtain ⟨k, h⟩ := P x0 b0
  refine (laws_FnExactSizeOf.calls k x0.f0 A0_1 c0_1 x0.f1 true W g0_1 l0_1 h).mono fun e W' ⟨he, bel⟩ => ?_
  subst he
  exact ⟨_, rfl, _, _, _, [], _, [], hW', trodAll_mk1 (shut_bool Try.underlying4 _), (trodAll_cons_mk (Below.trod laid (by kernel_rfl) (of_decide_eq_true (by kernel_rfl)) h0 bel hlt0) trodAll_mk0), rfl, bel.frame _, fun h => by cases h⟩
theorem of_pure (P : Pure) : Rows.FnExactSizeOfSaid :=
  OpenClaim.holds_of_wide 14 Try.f14 rfl rfl rfl rfl rfl rfl rfl ⟨rfl, rfl, rfl, rfl, rfl⟩ rfl rfl rfl rfl rfl (by kernel_rfl) Try.func14 (by kernel_rfl)
    (of_decide_eq_true (by kernel_rfl)) (by unfold Func.isWrapper; first | (rw [if_pos (by decide +kernel)]; kernel_rfl) | (rw [if_neg (by decide +kernel)]; exact ⟨rfl, rfl⟩))
    (fun os started H enc _ => lifted P os started H enc)
end Go.Proofs.Ytioemnmabbdfgaa.RFnExactSizeOf
