/- The row of 'FnExactPlain' out of one statement over numbers and lists: every argument that can be read is of the kind that the printed function takes. -/
import Derived.Test.YtmkllhkhiefbnaaRows
import Derived.Test.YtmkllhkhiefbnaaPFnExactPlainx8
import Derived.Test.YtmkllhkhiefbnaaOpen
import Derived.WalkKit
import Derived.ProofKit
import Derived.OpenShut
import Derived.ShutString
import Derived.ChangeOld
import Derived.Below
import Derived.SizedLaws
import Derived.Carry
namespace Go.Proofs.Ytmkllhkhiefbnaa.RFnExactPlain
open Go.ChangeShapes Go.WideShapes Go.ChangeAt Go.RowKit
open Go.ChangeMaps (open_string shut_string)
open Go.Proofs.Ytmkllhkhiefbnaa.PFnExactPlain Go.Proofs.YtmkllhkhiefbnaaW.PrintWords Go.Proofs.YtmkllhkhiefbnaaOpen
set_option linter.unusedVariables false

instance : Inhabited S23 := ⟨z23⟩
def B23 (x : S23) : Prop := I64 x.f0 ∧ I64 x.f1 ∧ Len (x.f2).size
theorem opens23 (n : Nat) : Opens Try.prog n 23 k23 B23 :=
  (opens_struct (fun x : S23 => (x.f0, x.f1, x.f2)) (fun y => ⟨y.1, y.2.1, y.2.2⟩) (fun _ => rfl) Try.underlying23 (by kernel_rfl) (fields_cons ((fun n => opens_i64 Try.underlying3) n) rfl (by kernel_rfl) (fields_cons ((fun n => opens_i64 Try.underlying3) n) rfl (by kernel_rfl) (fields_one ((fun n => opens_string Try.underlying9) n) rfl (by kernel_rfl))))).le (Nat.le_succ n)
instance : Inhabited S153 := ⟨z153⟩
def B153 (x : S153) : Prop := (Len (x.f0).length ∧ ∀ y ∈ x.f0, B23 y) ∧ I64 x.f1
theorem opens153 (n : Nat) : Opens Try.prog n 153 k153 B153 :=
  (opens_struct (fun x : S153 => (x.f0, x.f1)) (fun y => ⟨y.1, y.2⟩) (fun _ => rfl) Try.underlying153 (by kernel_rfl) (fields_cons ((fun n => (opens_slice Try.underlying39 (by kernel_rfl) (opens23 n)).le (Nat.le_succ n)) n) rfl (by kernel_rfl) (fields_one ((fun n => opens_i64 Try.underlying3) n) rfl (by kernel_rfl)))).le (Nat.le_succ n)
/-! #### struct type 38 -/
structure S38 where
  f0 : Int
  f1 : (List S153)
def z38 : S38 := ⟨(0 : Int), ([] : List S153)⟩
def k38 : Kd S38 := Kd.iso (Kd.pair (Kd.int .i64) (Kd.slice 153 k153)) (fun x : S38 => (x.f0, x.f1))
theorem k38_open {w : World} {x : S38} {cs : List Value} (h : k38.K w x cs) : ∃ A1 c1, cs = [.int .i64 x.f0, .slice A1 x.f1.length c1] ∧ x.f1.length ≤ c1 ∧ k153.C w A1 x.f1.length x.f1 := by
  obtain ⟨_, _, rfl, rfl, ⟨A1, c1, rfl, l1, g1⟩⟩ := h
  exact ⟨A1, c1, rfl, l1, g1⟩
theorem k38_openM {w : World} {base : Nat} {ok : Nat → Prop} {x : S38} {cs : List Value} (h : k38.M w base ok x cs) : ∃ v1, cs = [.int .i64 x.f0, v1] ∧ k153.R 153 w base ok v1 x.f1 := by
  obtain ⟨_, _, rfl, rfl, ⟨v1, rfl, g1⟩⟩ := h
  exact ⟨v1, rfl, g1⟩
theorem k38_mk (w : World) (x : S38) {A1 : Option Addr} {c1 : Nat} (l1 : x.f1.length ≤ c1) (g1 : k153.C w A1 x.f1.length x.f1) : k38.K w x [.int .i64 x.f0, .slice A1 x.f1.length c1] := ⟨[.int .i64 x.f0], [.slice A1 x.f1.length c1], rfl, rfl, ⟨A1, c1, rfl, l1, g1⟩⟩
theorem k38_mkM (w : World) (base : Nat) (ok : Nat → Prop) (x : S38) {v1 : Value} (g1 : k153.R 153 w base ok v1 x.f1) : k38.M w base ok x [.int .i64 x.f0, v1] := ⟨[.int .i64 x.f0], [v1], rfl, rfl, ⟨v1, rfl, g1⟩⟩
instance : Inhabited S38 := ⟨z38⟩
def B38 (x : S38) : Prop := I64 x.f0 ∧ (Len (x.f1).length ∧ ∀ y ∈ x.f1, B153 y)
theorem opens38 (n : Nat) : Opens Try.prog n 38 k38 B38 :=
  (opens_struct (fun x : S38 => (x.f0, x.f1)) (fun y => ⟨y.1, y.2⟩) (fun _ => rfl) Try.underlying38 (by kernel_rfl) (fields_cons ((fun n => opens_i64 Try.underlying3) n) rfl (by kernel_rfl) (fields_one ((fun n => (opens_slice Try.underlying36 (by kernel_rfl) (opens153 n)).le (Nat.le_succ n)) n) rfl (by kernel_rfl)))).le (Nat.le_succ n)
/-- THE ONE PURE STATEMENT. -/
def Pure : Prop := ∀ (x0 : S38), B38 x0 → ∃ k, laws_FnExactPlain.f k x0.f0 x0.f1 = some true
theorem own : ownKnob Try.prog.godebug = none := by kernel_rfl
theorem laid : laidOutB Try.prog = true := by kernel_rfl
set_option maxRecDepth 100000 in
theorem lifted (P : Pure) (os : Os) (started : os.Started) (H : Type) (enc : TypeId × Value → H) :
    ReturnsInHanded {} Try.checked os 6 .any (Rows.fnExactPlainSpec.pre6 enc Try.prog Try.f6 Rows.fnExactPlainRow.domain false) (Rows.fnExactPlainSpec.post enc Try.prog Try.f6 false true false false) := by
  refine returnsInHanded_of_change_sized (C := Try.checked) own started (by kernel_rfl) Try.func6
    (ChangeSpec.witness6 (enc := enc) (C := Try.checked) false ⟨#[], #[.agg #[.int .i64 0, .slice none 0 0]], []⟩ 8 (by kernel_rfl) (by kernel_rfl) (by kernel_rfl) (by kernel_rfl)) ?_
  intro W base args ds gs before hval0 hW hcnd hsz0 _
  have hval : ∀ (j : Nat) t v, Try.f6.params[j]? = some t → args[j]? = some v → Value.okWide Try.prog W .any base t v := hval0
  have hW' := hW
  obtain ⟨p, q, hA0, hV, rfl, hfz, hnd⟩ := hW
  have hA : DataW.TrodAll enc Try.prog W 0 (fun _ => true) true Try.f6.params.toList args.toList ds p := hA0
  rw [Try.params6] at hA hval
  obtain ⟨v0, vs0, d0, ds0, p0, q0, hargs, rfl, rfl, h0, r0⟩ := trodAll_cons hA
  obtain ⟨rfl, rfl, rfl⟩ := trodAll_nil r0
  obtain rfl : args = #[v0] := by cases args; simp_all
  obtain ⟨rfl, rfl⟩ := trodVars_none hV
  have hlt0 : ∀ x ∈ p0, x.block < W.heap.size := fun x hx => hW'.lt x (by simp [hx])
  obtain ⟨cs0, rfl⟩ := agg_of_okWide Try.underlying38 (hval 0 38 v0 rfl rfl)
  obtain ⟨x0, hk0, b0⟩ := Opens.at_ opens38 h0
  obtain ⟨A0_1, c0_1, e0, l0_1, g0_1⟩ := k38_open (show k38.K W x0 cs0.toList from hk0)
  obtain rfl : cs0 = #[.int .i64 x0.f0, .slice A0_1 x0.f1.length c0_1] := Array.ext' e0
  clear hA0 hval0 hsz0
  obtain ⟨k, h⟩ := P x0 b0
  refine (laws_FnExactPlain.calls k x0.f0 A0_1 c0_1 x0.f1 true W g0_1 l0_1 h).mono fun e W' ⟨he, bel⟩ => ?_
  subst he
  exact ⟨_, rfl, _, _, _, [], _, [], hW', trodAll_mk1 (shut_bool Try.underlying4 _), (trodAll_cons_mk (Below.trod laid (by kernel_rfl) (of_decide_eq_true (by kernel_rfl)) h0 bel hlt0) trodAll_mk0), rfl, bel.frame _, fun h => by cases h⟩
theorem of_pure (P : Pure) : Rows.FnExactPlainSaid :=
  OpenClaim.holds_of_wide 6 Try.f6 rfl rfl rfl rfl rfl rfl rfl ⟨rfl, rfl, rfl, rfl, rfl⟩ rfl rfl rfl rfl rfl (by kernel_rfl) Try.func6 (by kernel_rfl)
    (of_decide_eq_true (by kernel_rfl)) (by unfold Func.isWrapper; first | (rw [if_pos (by decide +kernel)]; kernel_rfl) | (rw [if_neg (by decide +kernel)]; exact ⟨rfl, rfl⟩))
    (fun os started H enc _ => lifted P os started H enc)
end Go.Proofs.Ytmkllhkhiefbnaa.RFnExactPlain
