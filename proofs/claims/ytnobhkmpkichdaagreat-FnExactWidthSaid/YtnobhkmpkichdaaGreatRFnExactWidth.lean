/- The row of 'FnExactWidth' out of one statement over numbers and lists: every argument that can be read is of the kind that the printed function takes. -/
import Derived.Test.YtnobhkmpkichdaaGreatRows
import Derived.Test.YtnobhkmpkichdaaGreatPFnExactWidthx21
import Derived.Test.YtnobhkmpkichdaaGreatOpen
import Derived.WalkKit
import Derived.ProofKit
import Derived.OpenShut
import Derived.ShutString
import Derived.ChangeOld
import Derived.Below
import Derived.SizedLaws
import Derived.Carry
namespace Go.Proofs.YtnobhkmpkichdaaGreat.RFnExactWidth
open Go.ChangeShapes Go.WideShapes Go.ChangeAt Go.RowKit
open Go.ChangeMaps (open_string shut_string)
open Go.Proofs.YtnobhkmpkichdaaGreat.PFnExactWidth Go.Proofs.YtnobhkmpkichdaaGreatW.PrintWords Go.Proofs.YtnobhkmpkichdaaGreatOpen
set_option linter.unusedVariables false

instance : Inhabited S24 := ⟨z24⟩
def B24 (x : S24) : Prop := I64 x.f0 ∧ I64 x.f1 ∧ Len (x.f2).size
theorem opens24 (n : Nat) : Opens Tryz.prog n 24 k24 B24 :=
  (opens_struct (fun x : S24 => (x.f0, x.f1, x.f2)) (fun y => ⟨y.1, y.2.1, y.2.2⟩) (fun _ => rfl) Tryz.underlying24 (by kernel_rfl) (fields_cons ((fun n => opens_i64 Tryz.underlying3) n) rfl (by kernel_rfl) (fields_cons ((fun n => opens_i64 Tryz.underlying3) n) rfl (by kernel_rfl) (fields_one ((fun n => opens_string Tryz.underlying9) n) rfl (by kernel_rfl))))).le (Nat.le_succ n)
instance : Inhabited S136 := ⟨z136⟩
def B136 (x : S136) : Prop := (Len (x.f0).length ∧ ∀ y ∈ x.f0, B24 y) ∧ I64 x.f1
theorem opens136 (n : Nat) : Opens Tryz.prog n 136 k136 B136 :=
  (opens_struct (fun x : S136 => (x.f0, x.f1)) (fun y => ⟨y.1, y.2⟩) (fun _ => rfl) Tryz.underlying136 (by kernel_rfl) (fields_cons ((fun n => (opens_slice Tryz.underlying134 (by kernel_rfl) (opens24 n)).le (Nat.le_succ n)) n) rfl (by kernel_rfl) (fields_one ((fun n => opens_i64 Tryz.underlying3) n) rfl (by kernel_rfl)))).le (Nat.le_succ n)
instance : Inhabited S57 := ⟨z57⟩
def B57 (x : S57) : Prop := I64 x.f0 ∧ (Len (x.f1).length ∧ ∀ y ∈ x.f1, B136 y)
theorem opens57 (n : Nat) : Opens Tryz.prog n 57 k57 B57 :=
  (opens_struct (fun x : S57 => (x.f0, x.f1)) (fun y => ⟨y.1, y.2⟩) (fun _ => rfl) Tryz.underlying57 (by kernel_rfl) (fields_cons ((fun n => opens_i64 Tryz.underlying3) n) rfl (by kernel_rfl) (fields_one ((fun n => (opens_slice Tryz.underlying55 (by kernel_rfl) (opens136 n)).le (Nat.le_succ n)) n) rfl (by kernel_rfl)))).le (Nat.le_succ n)
instance : Inhabited S59 := ⟨z59⟩
def B59 (x : S59) : Prop := Len (x.f0).size ∧ B57 x.f1
theorem opens59 (n : Nat) : Opens Tryz.prog n 59 k59 B59 :=
  (opens_struct (fun x : S59 => (x.f0, x.f1)) (fun y => ⟨y.1, y.2⟩) (fun _ => rfl) Tryz.underlying59 (by kernel_rfl) (fields_cons ((fun n => opens_string Tryz.underlying9) n) rfl (by kernel_rfl) (fields_one (opens57 n) rfl (by kernel_rfl)))).le (Nat.le_succ n)
instance : Inhabited S27 := ⟨z27⟩
def BN27 : Nat → S27 → Prop
  | 0, _ => False
  | n + 1, x => I64 x.f0 ∧ I64 x.f1 ∧ B24 x.f2 ∧ Len (x.f3).size ∧ (Len x.f4.length ∧ ∀ y ∈ x.f4, BN27 n y)
def B27 (x : S27) : Prop := ∃ n, BN27 n x
theorem opensN27 : ∀ n, Opens Tryz.prog n 27 (Kd.upto F27 7 [27] n) (BN27 n)
  | 0 => ⟨fun H enc w base spare held fuel cs x hf hx => by
    obtain rfl : fuel = 0 := by omega
    simp [DataW.trod] at hx⟩
  | n + 1 => opens_struct (fun x : S27 => (x.f0, x.f1, x.f2, x.f3, x.f4)) (fun y => ⟨y.1, y.2.1, y.2.2.1, y.2.2.2.1, y.2.2.2.2⟩) (fun _ => rfl) Tryz.underlying27 (by kernel_rfl) (fields_cons ((fun n => opens_i64 Tryz.underlying3) n) rfl (by kernel_rfl) (fields_cons ((fun n => opens_i64 Tryz.underlying3) n) rfl (by kernel_rfl) (fields_cons (opens24 n) rfl (by kernel_rfl) (fields_cons ((fun n => opens_string Tryz.underlying9) n) rfl (by kernel_rfl) (fields_one ((opens_slice Tryz.underlying25 ((show Tryz.prog.cellsOf 27 = 7 by kernel_rfl).trans (sz27 n).symm) (opensN27 n)).le (Nat.le_succ _)) rfl (by kernel_rfl))))))
theorem opens27 (n : Nat) : Opens Tryz.prog n 27 k27 B27 := ⟨fun H enc w base spare held fuel cs x hf hx => by
  obtain ⟨y, hk, hb⟩ := (opensN27 n).out H enc w base spare held fuel cs x hf hx
  exact ⟨y, ⟨n, hk⟩, n, hb⟩⟩
instance : Inhabited S30 := ⟨z30⟩
def BN30 : Nat → S30 → Prop
  | 0, _ => False
  | n + 1, x => I64 x.f0 ∧ Len (x.f1).size ∧ B27 x.f2 ∧ (Len (x.f3).length ∧ ∀ y ∈ x.f3, B27 y) ∧ I64 x.f4 ∧ (Len x.f5.length ∧ ∀ y ∈ x.f5, BN30 n y)
def B30 (x : S30) : Prop := ∃ n, BN30 n x
theorem opensN30 : ∀ n, Opens Tryz.prog n 30 (Kd.upto F30 12 [27, 30] n) (BN30 n)
  | 0 => ⟨fun H enc w base spare held fuel cs x hf hx => by
    obtain rfl : fuel = 0 := by omega
    simp [DataW.trod] at hx⟩
  | n + 1 => opens_struct (fun x : S30 => (x.f0, x.f1, x.f2, x.f3, x.f4, x.f5)) (fun y => ⟨y.1, y.2.1, y.2.2.1, y.2.2.2.1, y.2.2.2.2.1, y.2.2.2.2.2⟩) (fun _ => rfl) Tryz.underlying30 (by kernel_rfl) (fields_cons ((fun n => opens_i64 Tryz.underlying3) n) rfl (by kernel_rfl) (fields_cons ((fun n => opens_string Tryz.underlying9) n) rfl (by kernel_rfl) (fields_cons (opens27 n) rfl (by kernel_rfl) (fields_cons ((fun n => (opens_slice Tryz.underlying25 (by kernel_rfl) (opens27 n)).le (Nat.le_succ n)) n) rfl (by kernel_rfl) (fields_cons ((fun n => opens_i64 Tryz.underlying3) n) rfl (by kernel_rfl) (fields_one ((opens_slice Tryz.underlying28 ((show Tryz.prog.cellsOf 30 = 12 by kernel_rfl).trans (sz30 n).symm) (opensN30 n)).le (Nat.le_succ _)) rfl (by kernel_rfl)))))))
theorem opens30 (n : Nat) : Opens Tryz.prog n 30 k30 B30 := ⟨fun H enc w base spare held fuel cs x hf hx => by
  obtain ⟨y, hk, hb⟩ := (opensN30 n).out H enc w base spare held fuel cs x hf hx
  exact ⟨y, ⟨n, hk⟩, n, hb⟩⟩
/-- THE ONE PURE STATEMENT. -/
def Pure : Prop := ∀ (x0 : List (S59)) (x1 : S30), (Len (x0).length ∧ ∀ y ∈ x0, B59 y) → B30 x1 → ∃ k, laws_FnExactWidth.f k x0 x1.f0 x1.f1 x1.f2.f0 x1.f2.f1 x1.f2.f2.f0 x1.f2.f2.f1 x1.f2.f2.f2 x1.f2.f3 x1.f2.f4 x1.f3 x1.f4 x1.f5 = some true
theorem own : ownKnob Tryz.prog.godebug = none := by kernel_rfl
theorem laid : laidOutB Tryz.prog = true := by kernel_rfl
set_option maxRecDepth 100000 in
theorem lifted (P : Pure) (os : Os) (started : os.Started) (H : Type) (enc : TypeId × Value → H) :
    ReturnsInHanded {} Tryz.checked os 3 .any (Rows.fnExactWidthSpec.pre6 enc Tryz.prog Tryz.f3 Rows.fnExactWidthRow.domain false) (Rows.fnExactWidthSpec.post enc Tryz.prog Tryz.f3 false true false false) := by
  refine returnsInHanded_of_change_sized (C := Tryz.checked) own started (by kernel_rfl) Tryz.func3
    (ChangeSpec.witness6 (enc := enc) (C := Tryz.checked) false ⟨#[], #[.slice none 0 0, .agg #[.int .i64 0, .string ⟨#[]⟩, .int .i64 0, .int .i64 0, .int .i64 0, .int .i64 0, .string ⟨#[]⟩, .string ⟨#[]⟩, .slice none 0 0, .slice none 0 0, .int .i64 0, .slice none 0 0]], []⟩ 8 (by kernel_rfl) (by kernel_rfl) (by kernel_rfl) (by kernel_rfl)) ?_
  intro W base args ds gs before hval0 hW hcnd hsz0 _
  have hval : ∀ (j : Nat) t v, Tryz.f3.params[j]? = some t → args[j]? = some v → Value.okWide Tryz.prog W .any base t v := hval0
  have hW' := hW
  obtain ⟨p, q, hA0, hV, rfl, hfz, hnd⟩ := hW
  have hA : DataW.TrodAll enc Tryz.prog W 0 (fun _ => true) true Tryz.f3.params.toList args.toList ds p := hA0
  rw [Tryz.params3] at hA hval
  obtain ⟨v0, vs0, d0, ds0, p0, q0, hargs, rfl, rfl, h0, r0⟩ := trodAll_cons hA
  obtain ⟨v1, vs1, d1, ds1, p1, q1, rfl, rfl, rfl, h1, r1⟩ := trodAll_cons r0
  obtain ⟨rfl, rfl, rfl⟩ := trodAll_nil r1
  obtain rfl : args = #[v0, v1] := by cases args; simp_all
  obtain ⟨rfl, rfl⟩ := trodVars_none hV
  have hlt0 : ∀ x ∈ p0, x.block < W.heap.size := fun x hx => hW'.lt x (by simp [hx])
  obtain ⟨a0_, n0_, m0_, rfl⟩ := okWide_slice Tryz.underlying22 (hval 0 22 v0 rfl rfl)
  obtain ⟨x0, hk0, b0⟩ := Opens.at_ (fun n => (opens_slice Tryz.underlying22 (by kernel_rfl) (opens59 n)).le (Nat.le_succ n)) h0
  obtain ⟨A0, c0, e0, l0, g0⟩ := (show Kd.K (Kd.slice 59 k59) W x0 [.slice a0_ n0_ m0_] from hk0)
  obtain ⟨rfl, rfl, rfl⟩ : A0 = a0_ ∧ n0_ = x0.length ∧ c0 = m0_ := by simp at e0; exact ⟨e0.1.symm, e0.2.1, e0.2.2.symm⟩
  have hlt1 : ∀ x ∈ p1, x.block < W.heap.size := fun x hx => hW'.lt x (by simp [hx])
  obtain ⟨cs1, rfl⟩ := agg_of_okWide Tryz.underlying30 (hval 1 30 v1 rfl rfl)
  obtain ⟨x1, hk1, b1⟩ := Opens.at_ opens30 h1
  obtain ⟨A1_8, c1_8, A1_9, c1_9, A1_11, c1_11, e1, l1_8, g1_8, l1_9, g1_9, l1_11, g1_11⟩ := k30_open (show k30.K W x1 cs1.toList from hk1)
  obtain rfl : cs1 = #[.int .i64 x1.f0, .string x1.f1, .int .i64 x1.f2.f0, .int .i64 x1.f2.f1, .int .i64 x1.f2.f2.f0, .int .i64 x1.f2.f2.f1, .string x1.f2.f2.f2, .string x1.f2.f3, .slice A1_8 x1.f2.f4.length c1_8, .slice A1_9 x1.f3.length c1_9, .int .i64 x1.f4, .slice A1_11 x1.f5.length c1_11] := Array.ext' e1
  clear hA0 hval0 hsz0
  obtain ⟨k, h⟩ := P x0 x1 b0 b1
  refine (laws_FnExactWidth.calls k A0 c0 x0 x1.f0 x1.f1 x1.f2.f0 x1.f2.f1 x1.f2.f2.f0 x1.f2.f2.f1 x1.f2.f2.f2 x1.f2.f3 A1_8 c1_8 x1.f2.f4 A1_9 c1_9 x1.f3 x1.f4 A1_11 c1_11 x1.f5 true W g0 l0 g1_8 l1_8 g1_9 l1_9 g1_11 l1_11 h).mono fun e W' ⟨he, bel⟩ => ?_
  subst he
  exact ⟨_, rfl, _, _, _, [], _, [], hW', trodAll_mk1 (shut_bool Tryz.underlying4 _), (trodAll_cons_mk (Below.trod laid (by kernel_rfl) (of_decide_eq_true (by kernel_rfl)) h0 bel hlt0) (trodAll_cons_mk (Below.trod laid (by kernel_rfl) (of_decide_eq_true (by kernel_rfl)) h1 bel hlt1) trodAll_mk0)), rfl, bel.frame _, fun h => by cases h⟩
theorem of_pure (P : Pure) : Rows.FnExactWidthSaid :=
  OpenClaim.holds_of_wide 3 Tryz.f3 rfl rfl rfl rfl rfl rfl rfl ⟨rfl, rfl, rfl, rfl, rfl⟩ rfl rfl rfl rfl rfl (by kernel_rfl) Tryz.func3 (by kernel_rfl)
    (of_decide_eq_true (by kernel_rfl)) (by unfold Func.isWrapper; first | (rw [if_pos (by decide +kernel)]; kernel_rfl) | (rw [if_neg (by decide +kernel)]; exact ⟨rfl, rfl⟩))
    (fun os started H enc _ => lifted P os started H enc)
end Go.Proofs.YtnobhkmpkichdaaGreat.RFnExactWidth
