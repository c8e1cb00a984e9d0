/- 'FnExactEval' returns true at every input that can be read: the program's Eval and the reference's agree, and the expression and the row are left as they were. No condition. -/
import Derived.Test.YthgdmdabdlgliaaRFnExactEval
import Derived.Test.YthgdmdabdlgliaaLFnExactEval
namespace Go.Proofs.Ythgdmdabdlgliaa
open Go.RowKit Go.Proofs.Ythgdmdabdlgliaa.PFnExactEval Go.Proofs.YthgdmdabdlgliaaW.PrintWords Go.Proofs.Ythgdmdabdlgliaa.ZFnExactEval
theorem okE_of : ∀ (n : Nat) (x : S48), RFnExactEval.BN48 n x → okEN n x
  | 0, _, h => h.elim
  | n + 1, _, h => ⟨h.2.2.1.2.2, h.2.2.2.1, h.2.2.2.2.1, fun y hy => okE_of n y (h.2.2.2.2.2 y hy)⟩
theorem i64_of : ∀ (n : Nat) (x : S48), RFnExactEval.BN48 n x → i64EN n x
  | 0, _, h => h.elim
  | n + 1, _, h => ⟨h.2.2.1.2.1.1, h.2.2.1.2.1.2, fun y hy => i64_of n y (h.2.2.2.2.2 y hy)⟩
theorem eqValue_self (a b : Int) (s : ByteArray) : laws_eqValue.f a b s a b s = some true := by simp [laws_eqValue.f]
theorem fnExactEval_pure : RFnExactEval.Pure := by
  intro x row hx hrow
  obtain ⟨n, hn⟩ := hx
  have ho := okE_of n x hn
  obtain ⟨K1, h1⟩ := szExp_is n x ho
  have e1 : Ev (fun k => laws_szExp.f k x.f0 x.f1 x.f2.f0 x.f2.f1 x.f2.f2 x.f3 x.f4 1048576) (lft 1048576 (wtEN n x)) := ⟨K1, fun k hk => h1 k hk _ (by omega) (by omega)⟩
  by_cases hw : (wtEN n x : Int) ≤ 1048576
  case neg => exact Ev.rounds (Ev.bind e1 (ev_if_pos (by rw [lft_of_gt hw]; omega) (ev_some fun _ => rfl)))
  have hw' : wtEN n x ≤ 1048576 := by omega
  refine Ev.rounds (Ev.bind e1 (ev_if_neg (by rw [lft_of_le hw]; omega) ?_))
  rw [lft_of_le hw]
  refine Ev.bind (szValueS_is row hrow.1 (fun v hv => (hrow.2 v hv).2.2) (1048576 - (wtEN n x : Int)) (by omega) (by omega)) ?_
  by_cases hv : (wtVS row : Int) ≤ 1048576 - (wtEN n x : Int)
  case neg => exact ev_if_pos (by rw [lft_of_gt hv]; omega) (ev_some fun _ => rfl)
  refine ev_if_neg (by rw [lft_of_le hv]; omega) ?_
  have hvl : row.length ≤ 1048576 := by unfold wtVS at hv; omega
  have e2 : Ev (fun k => laws_toExp.f k x.f0 x.f1 x.f2.f0 x.f2.f1 x.f2.f2 x.f3 x.f4) _ := toExp_is n x ho hw'
  have e3 : Ev (fun k => laws_toValueS.f k row) (row.map toV) := toValueS_is row (by omega)
  have e4 := eqExp_refl n x ho hw'
  have e5 := eqValueS_refl (row.map toV) (by rw [List.length_map]; omega)
  have hs := toE_short n 13 x hw'
  have hg := toE_good n 13 x hw' (i64_of n x hn)
  have hr : okRow (row.map toV) := by
    intro v hv'
    obtain ⟨u, hu, rfl⟩ := List.mem_map.1 hv'
    have a := hrow.2 u hu
    have b := sum_le_of_mem0 wtV hu
    refine ⟨a.2.1.1, a.2.1.2, ?_⟩
    show u.f2.size ≤ 1048576
    unfold wtVS at hv
    have e : wtV u = u.f2.size := rfl
    omega
  have hl : (row.map toV).length ≤ 9223372036854775807 := by rw [List.length_map]; omega
  refine Ev.bind e2 (Ev.bind e3 (Ev.bind (specEval_is hr hl _ hs hg) (Ev.bind e2 (Ev.bind e3 (Ev.bind (implEval_is hr hl _ hs hg) (ev_bind0 (eqValue_self _ _ _) (ev_if_pos rfl (Ev.bind e2 (Ev.bind e4 (ev_if_pos rfl (Ev.bind e3 (Ev.bind e5 (ev_some fun _ => by simp)))))))))))))
theorem fnExactEval_holds : Rows.FnExactEvalSaid := RFnExactEval.of_pure fnExactEval_pure
#print axioms fnExactEval_holds
end Go.Proofs.Ythgdmdabdlgliaa
