/- The row of 'FnExactPlanText' out of one statement over numbers and lists: every argument that can be read is of the kind that the printed function takes. -/
import Derived.Test.YthgdmdabdlgliaaDoorRows
import Derived.Test.YthgdmdabdlgliaaDoorPFnExactPlanTextx13
import Derived.Test.YthgdmdabdlgliaaDoorOpen
import Derived.WalkKit
import Derived.ProofKit
import Derived.OpenShut
import Derived.ShutString
import Derived.ChangeOld
import Derived.Below
import Derived.SizedLaws
import Derived.Carry
import Derived.HandedShaped
import Derived.Stop.Joined
import Derived.Stop.LaidErr
import Derived.LaidMore
import Derived.Lib.LaidTab
import Derived.Lay
namespace Go.Proofs.YthgdmdabdlgliaaDoor.RFnExactPlanText
open Go.ChangeShapes Go.WideShapes Go.ChangeAt Go.RowKit
open Go.ChangeMaps (open_string shut_string)
open Go.Proofs.YthgdmdabdlgliaaDoor.PFnExactPlanText Go.Proofs.YthgdmdabdlgliaaDoorW.PrintWords Go.Proofs.YthgdmdabdlgliaaDoorOpen
set_option linter.unusedVariables false

instance : Inhabited S23 := ⟨z23⟩
def B23 (x : S23) : Prop := I64 x.f0 ∧ I64 x.f1 ∧ Len (x.f2).size
theorem opens23 (n : Nat) : Opens Tryd.prog n 23 k23 B23 :=
  (opens_struct (fun x : S23 => (x.f0, x.f1, x.f2)) (fun y => ⟨y.1, y.2.1, y.2.2⟩) (fun _ => rfl) Tryd.underlying23 (by kernel_rfl) (fields_cons ((fun n => opens_i64 Tryd.underlying3) n) rfl (by kernel_rfl) (fields_cons ((fun n => opens_i64 Tryd.underlying3) n) rfl (by kernel_rfl) (fields_one ((fun n => opens_string Tryd.underlying9) n) rfl (by kernel_rfl))))).le (Nat.le_succ n)
instance : Inhabited S26 := ⟨z26⟩
def BN26 : Nat → S26 → Prop
  | 0, _ => False
  | n + 1, x => I64 x.f0 ∧ I64 x.f1 ∧ B23 x.f2 ∧ Len (x.f3).size ∧ (Len x.f4.length ∧ ∀ y ∈ x.f4, BN26 n y)
def B26 (x : S26) : Prop := ∃ n, BN26 n x
theorem opensN26 : ∀ n, Opens Tryd.prog n 26 (Kd.upto F26 7 [26] n) (BN26 n)
  | 0 => ⟨fun H enc w base spare held fuel cs x hf hx => by
    obtain rfl : fuel = 0 := by omega
    simp [DataW.trod] at hx⟩
  | n + 1 => opens_struct (fun x : S26 => (x.f0, x.f1, x.f2, x.f3, x.f4)) (fun y => ⟨y.1, y.2.1, y.2.2.1, y.2.2.2.1, y.2.2.2.2⟩) (fun _ => rfl) Tryd.underlying26 (by kernel_rfl) (fields_cons ((fun n => opens_i64 Tryd.underlying3) n) rfl (by kernel_rfl) (fields_cons ((fun n => opens_i64 Tryd.underlying3) n) rfl (by kernel_rfl) (fields_cons (opens23 n) rfl (by kernel_rfl) (fields_cons ((fun n => opens_string Tryd.underlying9) n) rfl (by kernel_rfl) (fields_one ((opens_slice Tryd.underlying24 ((show Tryd.prog.cellsOf 26 = 7 by kernel_rfl).trans (sz26 n).symm) (opensN26 n)).le (Nat.le_succ _)) rfl (by kernel_rfl))))))
theorem opens26 (n : Nat) : Opens Tryd.prog n 26 k26 B26 := ⟨fun H enc w base spare held fuel cs x hf hx => by
  obtain ⟨y, hk, hb⟩ := (opensN26 n).out H enc w base spare held fuel cs x hf hx
  exact ⟨y, ⟨n, hk⟩, n, hb⟩⟩
instance : Inhabited S65 := ⟨z65⟩
def BN65 : Nat → S65 → Prop
  | 0, _ => False
  | n + 1, x => I64 x.f0 ∧ Len (x.f1).size ∧ B26 x.f2 ∧ (Len (x.f3).length ∧ ∀ y ∈ x.f3, B26 y) ∧ I64 x.f4 ∧ (Len x.f5.length ∧ ∀ y ∈ x.f5, BN65 n y)
def B65 (x : S65) : Prop := ∃ n, BN65 n x
theorem opensN65 : ∀ n, Opens Tryd.prog n 65 (Kd.upto F65 12 [26, 65] n) (BN65 n)
  | 0 => ⟨fun H enc w base spare held fuel cs x hf hx => by
    obtain rfl : fuel = 0 := by omega
    simp [DataW.trod] at hx⟩
  | n + 1 => opens_struct (fun x : S65 => (x.f0, x.f1, x.f2, x.f3, x.f4, x.f5)) (fun y => ⟨y.1, y.2.1, y.2.2.1, y.2.2.2.1, y.2.2.2.2.1, y.2.2.2.2.2⟩) (fun _ => rfl) Tryd.underlying65 (by kernel_rfl) (fields_cons ((fun n => opens_i64 Tryd.underlying3) n) rfl (by kernel_rfl) (fields_cons ((fun n => opens_string Tryd.underlying9) n) rfl (by kernel_rfl) (fields_cons (opens26 n) rfl (by kernel_rfl) (fields_cons ((fun n => (opens_slice Tryd.underlying24 (by kernel_rfl) (opens26 n)).le (Nat.le_succ n)) n) rfl (by kernel_rfl) (fields_cons ((fun n => opens_i64 Tryd.underlying3) n) rfl (by kernel_rfl) (fields_one ((opens_slice Tryd.underlying63 ((show Tryd.prog.cellsOf 65 = 12 by kernel_rfl).trans (sz65 n).symm) (opensN65 n)).le (Nat.le_succ _)) rfl (by kernel_rfl)))))))
theorem opens65 (n : Nat) : Opens Tryd.prog n 65 k65 B65 := ⟨fun H enc w base spare held fuel cs x hf hx => by
  obtain ⟨y, hk, hb⟩ := (opensN65 n).out H enc w base spare held fuel cs x hf hx
  exact ⟨y, ⟨n, hk⟩, n, hb⟩⟩
/-- THE ONE PURE STATEMENT. -/
def Pure : Prop := ∀ (x0 : S65), B65 x0 → ∃ k, laws_FnExactPlanText.f k x0.f0 x0.f1 x0.f2.f0 x0.f2.f1 x0.f2.f2.f0 x0.f2.f2.f1 x0.f2.f2.f2 x0.f2.f3 x0.f2.f4 x0.f3 x0.f4 x0.f5 = some true
theorem own : ownKnob Tryd.prog.godebug = none := by kernel_rfl
theorem laid : laidOutB Tryd.prog = true := by kernel_rfl
def laidL : List (String × DataW Unit) := [("math/bits.deBruijn32tab", Rows.laid_math_bits_deBruijn32tab), ("math/bits.deBruijn64tab", Rows.laid_math_bits_deBruijn64tab), ("internal/strconv.uint64pow10", Rows.laid_internal_strconv_uint64pow10), ("unicode/utf8.acceptRanges", Rows.laid_unicode_utf8_acceptRanges), ("unicode/utf8.first", Rows.laid_unicode_utf8_first)]
theorem tab_of {W : World} (h : laidMetH Tryd.prog laidL W) : TabIn W := by
  rw [MakeChecks.laidMetH_plain _ _ _ (by kernel_rfl)] at h
  exact Lib.tabIs_of_head (g := 3) (t := 174) (e := 97) (n := 20) (by kernel_rfl) (by kernel_rfl) Tryd.underlying174 Tryd.underlying97 (by kernel_rfl) (by kernel_rfl) ((h.tail).tail)
set_option maxRecDepth 100000 in
theorem lifted (P : Pure) (os : Os) (started : os.Started) (H : Type) (enc : TypeId × Value → H) :
    ReturnsInHanded {} Tryd.checked os 6 .any (fun w args => (Rows.fnExactPlanTextSpec.pre enc Tryd.prog Tryd.f6 [] false w args ∧ laidMetH Tryd.prog laidL w) ∧ sizedMet enc Tryd.prog Tryd.f6 (OpenSpec.ofChange Rows.fnExactPlanTextSpec) false w args) (Rows.fnExactPlanTextSpec.post enc Tryd.prog Tryd.f6 false true false false) := by
  refine returns_both (C := Tryd.checked) (X := fun w _ => laidMetH Tryd.prog laidL w) (fun _ _ _ hh h => h.of_heap hh) own started (by kernel_rfl) Tryd.func6
    (ChangeSpec.witness_shaped (enc := enc) (C := Tryd.checked) (os := os) (X := fun w _ => laidMetH Tryd.prog laidL w) false (World.laidAll Tryd.prog os laidL) #[.agg #[.int .i64 0, .string ⟨#[]⟩, .int .i64 0, .int .i64 0, .int .i64 0, .int .i64 0, .string ⟨#[]⟩, .string ⟨#[]⟩, .slice none 0 0, .slice none 0 0, .int .i64 0, .slice none 0 0]] 8 (World.laidAll_os _ _ _) (World.shaped_of_ZipB (by kernel_rfl) (by kernel_rfl)) (by kernel_rfl) (by kernel_rfl) (by kernel_rfl) (by rw [MakeChecks.laidMetH_plain _ _ _ (by kernel_rfl)]; exact laidMet_laidAll _ (by kernel_rfl) (by kernel_rfl))) ?_
  intro W base args ds gs before hval0 hW hcnd hsz0 hsh hL _
  have hval : ∀ (j : Nat) t v, Tryd.f6.params[j]? = some t → args[j]? = some v → Value.okWide Tryd.prog W .any base t v := hval0
  have hW' := hW
  obtain ⟨p, q, hA0, hV, rfl, hfz, hnd⟩ := hW
  have hA : DataW.TrodAll enc Tryd.prog W 0 (fun _ => true) true Tryd.f6.params.toList args.toList ds p := hA0
  rw [Tryd.params6] at hA hval
  obtain ⟨v0, vs0, d0, ds0, p0, q0, hargs, rfl, rfl, h0, r0⟩ := trodAll_cons hA
  obtain ⟨rfl, rfl, rfl⟩ := trodAll_nil r0
  obtain rfl : args = #[v0] := by cases args; simp_all
  obtain ⟨rfl, rfl⟩ := trodVars_none hV
  have hlt0 : ∀ x ∈ p0, x.block < W.heap.size := fun x hx => hW'.lt x (by simp [hx])
  obtain ⟨cs0, rfl⟩ := agg_of_okWide Tryd.underlying65 (hval 0 65 v0 rfl rfl)
  obtain ⟨x0, hk0, b0⟩ := Opens.at_ opens65 h0
  obtain ⟨A0_8, c0_8, A0_9, c0_9, A0_11, c0_11, e0, l0_8, g0_8, l0_9, g0_9, l0_11, g0_11⟩ := k65_open (show k65.K W x0 cs0.toList from hk0)
  obtain rfl : cs0 = #[.int .i64 x0.f0, .string x0.f1, .int .i64 x0.f2.f0, .int .i64 x0.f2.f1, .int .i64 x0.f2.f2.f0, .int .i64 x0.f2.f2.f1, .string x0.f2.f2.f2, .string x0.f2.f3, .slice A0_8 x0.f2.f4.length c0_8, .slice A0_9 x0.f3.length c0_9, .int .i64 x0.f4, .slice A0_11 x0.f5.length c0_11] := Array.ext' e0
  clear hA0 hval0 hsz0
  have hM : MaxLenIn W := ⟨(by first | exact Tryd.laysM171.s1_3 W hsh | exact Tryd.laysM143.s1_3 W hsh), tab_of hL⟩
  obtain ⟨k, h⟩ := P x0 b0
  refine (laws_FnExactPlanText.calls k x0.f0 x0.f1 x0.f2.f0 x0.f2.f1 x0.f2.f2.f0 x0.f2.f2.f1 x0.f2.f2.f2 x0.f2.f3 A0_8 c0_8 x0.f2.f4 A0_9 c0_9 x0.f3 x0.f4 A0_11 c0_11 x0.f5 true W g0_8 l0_8 g0_9 l0_9 g0_11 l0_11 h hM).mono fun e W' ⟨he, bel⟩ => ?_
  subst he
  exact ⟨_, rfl, _, _, _, [], _, [], hW', trodAll_mk1 (shut_bool Tryd.underlying4 _), (trodAll_cons_mk (Below.trod laid (by kernel_rfl) (of_decide_eq_true (by kernel_rfl)) h0 bel hlt0) trodAll_mk0), rfl, bel.frame _, fun h => by cases h⟩
theorem of_pure (P : Pure) : Rows.FnExactPlanTextSaid :=
  OpenClaim.holds_of_wide 6 Tryd.f6 rfl rfl rfl rfl rfl rfl rfl ⟨rfl, rfl, rfl, rfl, rfl⟩ rfl rfl rfl rfl rfl (by kernel_rfl) Tryd.func6 (by kernel_rfl)
    (of_decide_eq_true (by kernel_rfl)) (by unfold Func.isWrapper; first | (rw [if_pos (by decide +kernel)]; kernel_rfl) | (rw [if_neg (by decide +kernel)]; exact ⟨rfl, rfl⟩))
    (fun os started H enc _ => lifted P os started H enc)
end Go.Proofs.YthgdmdabdlgliaaDoor.RFnExactPlanText
