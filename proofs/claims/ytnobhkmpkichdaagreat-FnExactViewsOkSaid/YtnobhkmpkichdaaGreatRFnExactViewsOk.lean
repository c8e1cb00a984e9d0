/- The row of 'FnExactViewsOk' out of one statement over numbers and lists: every argument that can be read is of the kind that the printed function takes. -/
import Derived.Test.YtnobhkmpkichdaaGreatRows
import Derived.Test.YtnobhkmpkichdaaGreatPFnExactViewsOkx11
import Derived.Test.YtnobhkmpkichdaaGreatOpen
import Derived.WalkKit
import Derived.ProofKit
import Derived.OpenShut
import Derived.ShutString
import Derived.ChangeOld
import Derived.Below
import Derived.SizedLaws
import Derived.Carry
namespace Go.Proofs.YtnobhkmpkichdaaGreat.RFnExactViewsOk
open Go.ChangeShapes Go.WideShapes Go.ChangeAt Go.RowKit
open Go.ChangeMaps (open_string shut_string)
open Go.Proofs.YtnobhkmpkichdaaGreat.PFnExactViewsOk Go.Proofs.YtnobhkmpkichdaaGreatW.PrintWords Go.Proofs.YtnobhkmpkichdaaGreatOpen
set_option linter.unusedVariables false

instance : Inhabited S24 := ⟨z24⟩
def B24 (x : S24) : Prop := I64 x.f0 ∧ I64 x.f1 ∧ Len (x.f2).size
theorem aQp (n : Nat) : aDu Tryz.prog n 24 k24 B24 :=
  (aDb (fun x : S24 => (x.f0, x.f1, x.f2)) (fun y => ⟨y.1, y.2.1, y.2.2⟩) (fun _ => rfl) Tryz.underlying24 (by kernel_rfl) (aBs ((fun n => aEd Tryz.underlying3) n) rfl (by kernel_rfl) (aBs ((fun n => aEd Tryz.underlying3) n) rfl (by kernel_rfl) (aDx ((fun n => aEb Tryz.underlying9) n) rfl (by kernel_rfl))))).le (Nat.le_succ n)
instance : Inhabited S136 := ⟨aXd⟩
def aYy (x : S136) : Prop := (Len (x.f0).length ∧ ∀ y ∈ x.f0, B24 y) ∧ I64 x.f1
theorem aTn (n : Nat) : aDu Tryz.prog n 136 aNa aYy :=
  (aDb (fun x : S136 => (x.f0, x.f1)) (fun y => ⟨y.1, y.2⟩) (fun _ => rfl) Tryz.underlying136 (by kernel_rfl) (aBs ((fun n => (aDm Tryz.underlying134 (by kernel_rfl) (aQp n)).le (Nat.le_succ n)) n) rfl (by kernel_rfl) (aDx ((fun n => aEd Tryz.underlying3) n) rfl (by kernel_rfl)))).le (Nat.le_succ n)
instance : Inhabited S57 := ⟨z57⟩
def B57 (x : S57) : Prop := I64 x.f0 ∧ (Len (x.f1).length ∧ ∀ y ∈ x.f1, aYy y)
theorem aSd (n : Nat) : aDu Tryz.prog n 57 k57 B57 :=
  (aDb (fun x : S57 => (x.f0, x.f1)) (fun y => ⟨y.1, y.2⟩) (fun _ => rfl) Tryz.underlying57 (by kernel_rfl) (aBs ((fun n => aEd Tryz.underlying3) n) rfl (by kernel_rfl) (aDx ((fun n => (aDm Tryz.underlying55 (by kernel_rfl) (aTn n)).le (Nat.le_succ n)) n) rfl (by kernel_rfl)))).le (Nat.le_succ n)
instance : Inhabited S59 := ⟨z59⟩
def B59 (x : S59) : Prop := Len (x.f0).size ∧ B57 x.f1
theorem aVn (n : Nat) : aDu Tryz.prog n 59 k59 B59 :=
  (aDb (fun x : S59 => (x.f0, x.f1)) (fun y => ⟨y.1, y.2⟩) (fun _ => rfl) Tryz.underlying59 (by kernel_rfl) (aBs ((fun n => aEb Tryz.underlying9) n) rfl (by kernel_rfl) (aDx (aSd n) rfl (by kernel_rfl)))).le (Nat.le_succ n)
instance : Inhabited S27 := ⟨z27⟩
def aWz : Nat → S27 → Prop
  | 0, _ => False
  | n + 1, x => I64 x.f0 ∧ I64 x.f1 ∧ B24 x.f2 ∧ Len (x.f3).size ∧ (Len x.f4.length ∧ ∀ y ∈ x.f4, aWz n y)
def B27 (x : S27) : Prop := ∃ n, aWz n x
theorem aPc : ∀ n, aDu Tryz.prog n 27 (Kd.upto F27 7 [27] n) (aWz n)
  | 0 => ⟨fun H enc w base spare held fuel cs x hf hx => by
    obtain rfl : fuel = 0 := by omega
    simp [DataW.trod] at hx⟩
  | n + 1 => aDb (fun x : S27 => (x.f0, x.f1, x.f2, x.f3, x.f4)) (fun y => ⟨y.1, y.2.1, y.2.2.1, y.2.2.2.1, y.2.2.2.2⟩) (fun _ => rfl) Tryz.underlying27 (by kernel_rfl) (aBs ((fun n => aEd Tryz.underlying3) n) rfl (by kernel_rfl) (aBs ((fun n => aEd Tryz.underlying3) n) rfl (by kernel_rfl) (aBs (aQp n) rfl (by kernel_rfl) (aBs ((fun n => aEb Tryz.underlying9) n) rfl (by kernel_rfl) (aDx ((aDm Tryz.underlying25 ((show Tryz.prog.cellsOf 27 = 7 by kernel_rfl).trans (aYt n).symm) (aPc n)).le (Nat.le_succ _)) rfl (by kernel_rfl))))))
theorem aRz (n : Nat) : aDu Tryz.prog n 27 k27 B27 := ⟨fun H enc w base spare held fuel cs x hf hx => by
  obtain ⟨y, hk, hb⟩ := (aPc n).out H enc w base spare held fuel cs x hf hx
  exact ⟨y, ⟨n, hk⟩, n, hb⟩⟩
instance : Inhabited S30 := ⟨z30⟩
def aUx : Nat → S30 → Prop
  | 0, _ => False
  | n + 1, x => I64 x.f0 ∧ Len (x.f1).size ∧ B27 x.f2 ∧ (Len (x.f3).length ∧ ∀ y ∈ x.f3, B27 y) ∧ I64 x.f4 ∧ (Len x.f5.length ∧ ∀ y ∈ x.f5, aUx n y)
def B30 (x : S30) : Prop := ∃ n, aUx n x
theorem aOw : ∀ n, aDu Tryz.prog n 30 (Kd.upto F30 12 [27, 30] n) (aUx n)
  | 0 => ⟨fun H enc w base spare held fuel cs x hf hx => by
    obtain rfl : fuel = 0 := by omega
    simp [DataW.trod] at hx⟩
  | n + 1 => aDb (fun x : S30 => (x.f0, x.f1, x.f2, x.f3, x.f4, x.f5)) (fun y => ⟨y.1, y.2.1, y.2.2.1, y.2.2.2.1, y.2.2.2.2.1, y.2.2.2.2.2⟩) (fun _ => rfl) Tryz.underlying30 (by kernel_rfl) (aBs ((fun n => aEd Tryz.underlying3) n) rfl (by kernel_rfl) (aBs ((fun n => aEb Tryz.underlying9) n) rfl (by kernel_rfl) (aBs (aRz n) rfl (by kernel_rfl) (aBs ((fun n => (aDm Tryz.underlying25 (by kernel_rfl) (aRz n)).le (Nat.le_succ n)) n) rfl (by kernel_rfl) (aBs ((fun n => aEd Tryz.underlying3) n) rfl (by kernel_rfl) (aDx ((aDm Tryz.underlying28 ((show Tryz.prog.cellsOf 30 = 12 by kernel_rfl).trans (aYv n).symm) (aOw n)).le (Nat.le_succ _)) rfl (by kernel_rfl)))))))
theorem aUw (n : Nat) : aDu Tryz.prog n 30 k30 B30 := ⟨fun H enc w base spare held fuel cs x hf hx => by
  obtain ⟨y, hk, hb⟩ := (aOw n).out H enc w base spare held fuel cs x hf hx
  exact ⟨y, ⟨n, hk⟩, n, hb⟩⟩
instance : Inhabited S79 := ⟨z79⟩
def B79 (x : S79) : Prop := Len (x.f0).size ∧ B30 x.f1 ∧ B57 x.f2
theorem aUs (n : Nat) : aDu Tryz.prog n 79 k79 B79 :=
  (aDb (fun x : S79 => (x.f0, x.f1, x.f2)) (fun y => ⟨y.1, y.2.1, y.2.2⟩) (fun _ => rfl) Tryz.underlying79 (by kernel_rfl) (aBs ((fun n => aEb Tryz.underlying9) n) rfl (by kernel_rfl) (aBs (aUw n) rfl (by kernel_rfl) (aDx (aSd n) rfl (by kernel_rfl))))).le (Nat.le_succ n)
/-- THE ONE PURE STATEMENT. -/
def Pure : Prop := ∀ (x0 : List (S59)) (x1 : List (S79)), (Len (x0).length ∧ ∀ y ∈ x0, B59 y) → (Len (x1).length ∧ ∀ y ∈ x1, B79 y) → ∃ k, aCq.f k x0 x1 = some true
theorem own : ownKnob Tryz.prog.godebug = none := by kernel_rfl
theorem laid : laidOutB Tryz.prog = true := by kernel_rfl
set_option maxRecDepth 100000 in
theorem lifted (P : Pure) (os : Os) (started : os.Started) (H : Type) (enc : TypeId × Value → H) :
    ReturnsInHanded {} Tryz.checked os 4 .any (Rows.fnExactViewsOkSpec.pre6 enc Tryz.prog Tryz.f4 Rows.fnExactViewsOkRow.domain false) (Rows.fnExactViewsOkSpec.post enc Tryz.prog Tryz.f4 false true false false) := by
  refine returnsInHanded_of_change_sized (C := Tryz.checked) own started (by kernel_rfl) Tryz.func4
    (ChangeSpec.witness6 (enc := enc) (C := Tryz.checked) false ⟨#[], #[.slice none 0 0, .slice none 0 0], []⟩ 8 (by kernel_rfl) (by kernel_rfl) (by kernel_rfl) (by kernel_rfl)) ?_
  intro W base args ds gs before hval0 hW hcnd hsz0 _
  have hval : ∀ (j : Nat) t v, Tryz.f4.params[j]? = some t → args[j]? = some v → Value.okWide Tryz.prog W .any base t v := hval0
  have hW' := hW
  obtain ⟨p, q, hA0, hV, rfl, hfz, hnd⟩ := hW
  have hA : DataW.TrodAll enc Tryz.prog W 0 (fun _ => true) true Tryz.f4.params.toList args.toList ds p := hA0
  rw [Tryz.params4] at hA hval
  obtain ⟨v0, vs0, d0, ds0, p0, q0, hargs, rfl, rfl, h0, r0⟩ := trodAll_cons hA
  obtain ⟨v1, vs1, d1, ds1, p1, q1, rfl, rfl, rfl, h1, r1⟩ := trodAll_cons r0
  obtain ⟨rfl, rfl, rfl⟩ := trodAll_nil r1
  obtain rfl : args = #[v0, v1] := by cases args; simp_all
  obtain ⟨rfl, rfl⟩ := trodVars_none hV
  have hlt0 : ∀ x ∈ p0, x.block < W.heap.size := fun x hx => hW'.lt x (by simp [hx])
  obtain ⟨a0_, n0_, m0_, rfl⟩ := okWide_slice Tryz.underlying22 (hval 0 22 v0 rfl rfl)
  obtain ⟨x0, hk0, b0⟩ := aDu.at_ (fun n => (aDm Tryz.underlying22 (by kernel_rfl) (aVn n)).le (Nat.le_succ n)) h0
  obtain ⟨A0, c0, e0, l0, g0⟩ := (show Kd.K (Kd.slice 59 k59) W x0 [.slice a0_ n0_ m0_] from hk0)
  obtain ⟨rfl, rfl, rfl⟩ : A0 = a0_ ∧ n0_ = x0.length ∧ c0 = m0_ := by simp at e0; exact ⟨e0.1.symm, e0.2.1, e0.2.2.symm⟩
  have hlt1 : ∀ x ∈ p1, x.block < W.heap.size := fun x hx => hW'.lt x (by simp [hx])
  obtain ⟨a1_, n1_, m1_, rfl⟩ := okWide_slice Tryz.underlying47 (hval 1 47 v1 rfl rfl)
  obtain ⟨x1, hk1, b1⟩ := aDu.at_ (fun n => (aDm Tryz.underlying47 (by kernel_rfl) (aUs n)).le (Nat.le_succ n)) h1
  obtain ⟨A1, c1, e1, l1, g1⟩ := (show Kd.K (Kd.slice 79 k79) W x1 [.slice a1_ n1_ m1_] from hk1)
  obtain ⟨rfl, rfl, rfl⟩ : A1 = a1_ ∧ n1_ = x1.length ∧ c1 = m1_ := by simp at e1; exact ⟨e1.1.symm, e1.2.1, e1.2.2.symm⟩
  clear hA0 hval0 hsz0
  obtain ⟨k, h⟩ := P x0 x1 b0 b1
  refine (aCq.calls k A0 c0 x0 A1 c1 x1 true W g0 l0 g1 l1 h).mono fun e W' ⟨he, bel⟩ => ?_
  subst he
  exact ⟨_, rfl, _, _, _, [], _, [], hW', trodAll_mk1 (shut_bool Tryz.underlying4 _), (trodAll_cons_mk (Below.trod laid (by kernel_rfl) (of_decide_eq_true (by kernel_rfl)) h0 bel hlt0) (trodAll_cons_mk (Below.trod laid (by kernel_rfl) (of_decide_eq_true (by kernel_rfl)) h1 bel hlt1) trodAll_mk0)), rfl, bel.frame _, fun h => by cases h⟩
theorem aVe (P : Pure) : Rows.FnExactViewsOkSaid :=
  OpenClaim.holds_of_wide 4 Tryz.f4 rfl rfl rfl rfl rfl rfl rfl ⟨rfl, rfl, rfl, rfl, rfl⟩ rfl rfl rfl rfl rfl (by kernel_rfl) Tryz.func4 (by kernel_rfl)
    (of_decide_eq_true (by kernel_rfl)) (by unfold Func.isWrapper; first | (rw [if_pos (by decide +kernel)]; kernel_rfl) | (rw [if_neg (by decide +kernel)]; exact ⟨rfl, rfl⟩))
    (fun os started H enc _ => lifted P os started H enc)
end Go.Proofs.YtnobhkmpkichdaaGreat.RFnExactViewsOk
