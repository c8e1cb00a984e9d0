/- The row of 'FnExactPutBag' out of one statement over numbers and lists: every argument that can be read is of the kind that the printed function takes. -/
import Derived.Test.YtnibegacjmnhoaaRows
import Derived.Test.YtnibegacjmnhoaaPFnExactPutBagx10
import Derived.Test.YtnibegacjmnhoaaOpen
import Derived.WalkKit
import Derived.ProofKit
import Derived.OpenShut
import Derived.ShutString
import Derived.ChangeOld
import Derived.Below
import Derived.SizedLaws
import Derived.Carry
namespace Go.Proofs.Ytnibegacjmnhoaa.RFnExactPutBag
open Go.ChangeShapes Go.WideShapes Go.ChangeAt Go.RowKit
open Go.ChangeMaps (open_string shut_string)
open Go.Proofs.Ytnibegacjmnhoaa.PFnExactPutBag Go.Proofs.YtnibegacjmnhoaaW.PrintWords Go.Proofs.YtnibegacjmnhoaaOpen
set_option linter.unusedVariables false

instance : Inhabited S91 := ⟨z91⟩
def B91 (x : S91) : Prop := I64 x.f0 ∧ I64 x.f1 ∧ Len (x.f2).size
theorem opens91 (n : Nat) : Opens Try.prog n 91 k91 B91 :=
  (opens_struct (fun x : S91 => (x.f0, x.f1, x.f2)) (fun y => ⟨y.1, y.2.1, y.2.2⟩) (fun _ => rfl) Try.underlying91 (by kernel_rfl) (fields_cons ((fun n => opens_i64 Try.underlying3) n) rfl (by kernel_rfl) (fields_cons ((fun n => opens_i64 Try.underlying3) n) rfl (by kernel_rfl) (fields_one ((fun n => opens_string Try.underlying9) n) rfl (by kernel_rfl))))).le (Nat.le_succ n)
instance : Inhabited S69 := ⟨z69⟩
def B69 (x : S69) : Prop := (Len (x.f0).length ∧ ∀ y ∈ x.f0, B91 y) ∧ I64 x.f1
theorem opens69 (n : Nat) : Opens Try.prog n 69 k69 B69 :=
  (opens_struct (fun x : S69 => (x.f0, x.f1)) (fun y => ⟨y.1, y.2⟩) (fun _ => rfl) Try.underlying69 (by kernel_rfl) (fields_cons ((fun n => (opens_slice Try.underlying67 (by kernel_rfl) (opens91 n)).le (Nat.le_succ n)) n) rfl (by kernel_rfl) (fields_one ((fun n => opens_i64 Try.underlying3) n) rfl (by kernel_rfl)))).le (Nat.le_succ n)
/-! #### struct type 24 -/
structure S24 where
  f0 : Int
  f1 : (List S69)
def z24 : S24 := ⟨(0 : Int), ([] : List S69)⟩
def k24 : Kd S24 := Kd.iso (Kd.pair (Kd.int .i64) (Kd.slice 69 k69)) (fun x : S24 => (x.f0, x.f1))
theorem k24_open {w : World} {x : S24} {cs : List Value} (h : k24.K w x cs) : ∃ A1 c1, cs = [.int .i64 x.f0, .slice A1 x.f1.length c1] ∧ x.f1.length ≤ c1 ∧ k69.C w A1 x.f1.length x.f1 := by
  obtain ⟨_, _, rfl, rfl, ⟨A1, c1, rfl, l1, g1⟩⟩ := h
  exact ⟨A1, c1, rfl, l1, g1⟩
theorem k24_openM {w : World} {base : Nat} {ok : Nat → Prop} {x : S24} {cs : List Value} (h : k24.M w base ok x cs) : ∃ v1, cs = [.int .i64 x.f0, v1] ∧ k69.R 69 w base ok v1 x.f1 := by
  obtain ⟨_, _, rfl, rfl, ⟨v1, rfl, g1⟩⟩ := h
  exact ⟨v1, rfl, g1⟩
theorem k24_mk (w : World) (x : S24) {A1 : Option Addr} {c1 : Nat} (l1 : x.f1.length ≤ c1) (g1 : k69.C w A1 x.f1.length x.f1) : k24.K w x [.int .i64 x.f0, .slice A1 x.f1.length c1] := ⟨[.int .i64 x.f0], [.slice A1 x.f1.length c1], rfl, rfl, ⟨A1, c1, rfl, l1, g1⟩⟩
theorem k24_mkM (w : World) (base : Nat) (ok : Nat → Prop) (x : S24) {v1 : Value} (g1 : k69.R 69 w base ok v1 x.f1) : k24.M w base ok x [.int .i64 x.f0, v1] := ⟨[.int .i64 x.f0], [v1], rfl, rfl, ⟨v1, rfl, g1⟩⟩
instance : Inhabited S24 := ⟨z24⟩
def B24 (x : S24) : Prop := I64 x.f0 ∧ (Len (x.f1).length ∧ ∀ y ∈ x.f1, B69 y)
theorem opens24 (n : Nat) : Opens Try.prog n 24 k24 B24 :=
  (opens_struct (fun x : S24 => (x.f0, x.f1)) (fun y => ⟨y.1, y.2⟩) (fun _ => rfl) Try.underlying24 (by kernel_rfl) (fields_cons ((fun n => opens_i64 Try.underlying3) n) rfl (by kernel_rfl) (fields_one ((fun n => (opens_slice Try.underlying22 (by kernel_rfl) (opens69 n)).le (Nat.le_succ n)) n) rfl (by kernel_rfl)))).le (Nat.le_succ n)
/-- THE ONE PURE STATEMENT. -/
def Pure : Prop := ∀ (x0 : S24), B24 x0 → ∃ k, laws_FnExactPutBag.f k x0.f0 x0.f1 = some true
theorem own : ownKnob Try.prog.godebug = none := by kernel_rfl
theorem laid : laidOutB Try.prog = true := by kernel_rfl
set_option maxRecDepth 100000 in
theorem lifted (P : Pure) (os : Os) (started : os.Started) (H : Type) (enc : TypeId × Value → H) :
    ReturnsInHanded {} Try.checked os 3 .any (Rows.fnExactPutBagSpec.pre6 enc Try.prog Try.f3 Rows.fnExactPutBagRow.domain false) (Rows.fnExactPutBagSpec.post enc Try.prog Try.f3 false true false false) := by
  refine returnsInHanded_of_change_sized (C := Try.checked) own started (by kernel_rfl) Try.func3
    (ChangeSpec.witness6 (enc := enc) (C := Try.checked) false ⟨#[], #[.agg #[.int .i64 0, .slice none 0 0]], []⟩ 8 (by kernel_rfl) (by kernel_rfl) (by kernel_rfl) (by kernel_rfl)) ?_
  intro W base args ds gs before hval0 hW hcnd hsz0 _
  have hval : ∀ (j : Nat) t v, Try.f3.params[j]? = some t → args[j]? = some v → Value.okWide Try.prog W .any base t v := hval0
  have hW' := hW
  obtain ⟨p, q, hA0, hV, rfl, hfz, hnd⟩ := hW
  have hA : DataW.TrodAll enc Try.prog W 0 (fun _ => true) true Try.f3.params.toList args.toList ds p := hA0
  rw [Try.params3] at hA hval
  obtain ⟨v0, vs0, d0, ds0, p0, q0, hargs, rfl, rfl, h0, r0⟩ := trodAll_cons hA
  obtain ⟨rfl, rfl, rfl⟩ := trodAll_nil r0
  obtain rfl : args = #[v0] := by cases args; simp_all
  obtain ⟨rfl, rfl⟩ := trodVars_none hV
  have hlt0 : ∀ x ∈ p0, x.block < W.heap.size := fun x hx => hW'.lt x (by simp [hx])
  obtain ⟨cs0, rfl⟩ := agg_of_okWide Try.underlying24 (hval 0 24 v0 rfl rfl)
  obtain ⟨x0, hk0, b0⟩ := Opens.at_ opens24 h0
  obtain ⟨A0_1, c0_1, e0, l0_1, g0_1⟩ := k24_open (show k24.K W x0 cs0.toList from hk0)
  obtain rfl : cs0 = #[.int .i64 x0.f0, .slice A0_1 x0.f1.length c0_1] := Array.ext' e0
  clear hA0 hval0 hsz0
  obtain ⟨k, h⟩ := P x0 b0
  refine (laws_FnExactPutBag.calls k x0.f0 A0_1 c0_1 x0.f1 true W g0_1 l0_1 h).mono fun e W' ⟨he, bel⟩ => ?_
  subst he
  exact ⟨_, rfl, _, _, _, [], _, [], hW', trodAll_mk1 (shut_bool Try.underlying4 _), (trodAll_cons_mk (Below.trod laid (by kernel_rfl) (of_decide_eq_true (by kernel_rfl)) h0 bel hlt0) trodAll_mk0), rfl, bel.frame _, fun h => by cases h⟩
theorem of_pure (P : Pure) : Rows.FnExactPutBagSaid :=
  OpenClaim.holds_of_wide 3 Try.f3 rfl rfl rfl rfl rfl rfl rfl ⟨rfl, rfl, rfl, rfl, rfl⟩ rfl rfl rfl rfl rfl (by kernel_rfl) Try.func3 (by kernel_rfl)
    (of_decide_eq_true (by kernel_rfl)) (by unfold Func.isWrapper; first | (rw [if_pos (by decide +kernel)]; kernel_rfl) | (rw [if_neg (by decide +kernel)]; exact ⟨rfl, rfl⟩))
    (fun os started H enc _ => lifted P os started H enc)
end Go.Proofs.Ytnibegacjmnhoaa.RFnExactPutBag
