-- WRITTEN BY xprint.py, a program of this session over the kit's printer: by nobody's hand
-- PRESSED
import Derived.Test.YtnibegacjmnhoaaPress
import Derived.Test.YtnibegacjmnhoaaWKept
import Derived.Test.YtnibegacjmnhoaaPFnExactGetBagx0
import Derived.Test.YtnibegacjmnhoaaPFnExactGetBagx11
namespace Go.Proofs.Ytnibegacjmnhoaa.PFnExactGetBag
open Go.RowKit Go.Proofs.YtnibegacjmnhoaaW.PrintWords Go.Proofs.YtnibegacjmnhoaaW.PrintLast Go.Proofs.YtnibegacjmnhoaaW.PrintMore
set_option linter.unusedVariables false
set_option linter.unusedSimpArgs false

/-! ### laws_markValueS: function 45 -/
def laws_markValueS.l0 : Nat → List (S42) → Int → Int → Option (Int × (List (S42)))
 | 0, _, _, _ => none
 | k + 1, x0, x1, x5 => if x5 < (x0.length : Int) then (if 0 ≤ x5 then ((some (x0.set (x5 : Int).toNat (⟨x1, (rd_T42 x0 x5).f1, (rd_T42 x0 x5).f2⟩ : S42) : List (S42))).bind fun y232 => ((some (y232.set (x5 : Int).toNat (⟨(rd_T42 y232 x5).f0, wrap64 (x1 + 1), (rd_T42 y232 x5).f2⟩ : S42) : List (S42))).bind fun y233 => ((laws_markText.f k (wrap64 ((wrap64 (x1 + 1)) + 1))).bind fun t234 => (laws_markValueS.l0 k (y233.set (x5 : Int).toNat (⟨(rd_T42 y233 x5).f0, (rd_T42 y233 x5).f1, t234⟩ : S42)) (wrap64 ((wrap64 ((wrap64 (x1 + 1)) + 1)) + 1)) (wrap64 (x5 + 1)))))) else (none)) else (some (x1, x0))
def laws_markValueS.f (k : Nat) (l0 : List (S42)) (a1 : Int) : Option (Int × (List (S42))) := laws_markValueS.l0 k l0 a1 0
set_option maxHeartbeats 8000000 in
set_option maxRecDepth 100000 in
theorem laws_markValueS.calls (k : Nat) (P0_ : Nat → Prop) (u9000_ : Value) (l0 : List (S42)) (a1 : Int) (r1 : Int) (r2 : List (S42)) (w0 w : World) (hB : Below w0.heap.size w0 w) (ho0 : Kd.R k42 42 w w0.heap.size P0_ u9000_ l0) (h : laws_markValueS.f k l0 a1 = some (r1, r2)) :
  Calls Try.prog 45 #[u9000_, .int .i64 a1] w fun e w' => e = .returned (.int .i64 r1) ∧ Kd.R k42 42 w' w0.heap.size (fun k_ => (P0_ k_ ∨ w.heap.size ≤ k_)) u9000_ r2 ∧ Below w0.heap.size w0 w' ∧ Kept w w' (fun k_ => P0_ k_) := by
 have HO0 := Aside0.mk (show Kd.R k42 42 w w0.heap.size (fun k_ => (P0_ k_ ∨ w.heap.size ≤ k_)) u9000_ l0 from Kd.R_mono ho0 (fun k_ hk => (.inl hk)))
 have HK := Aside0.mk (Kept.refl w (fun k_ => P0_ k_))
 have HW0 := Aside0.mk hB.size
 have HB := Aside0.mk hB
 clear hB
 have H : (laws_markValueS.l0 k l0 a1 0) = some (r1, r2) := h
 clear h
 have H' := Aside0.mk H
 clear H
 go_enter Try.func45, Try.ntmps45
 go_wp2
 go_loopg [1, 5] k (fun kq v1 v5 w' => ∃ (x0_1 : List (S42)) (x1_1 : Int) (x5_1 : Int), v1 = .int .i64 x1_1 ∧ v5 = .int .i64 x5_1 ∧ Aside0 (laws_markValueS.l0 kq x0_1 x1_1 x5_1 = some (r1, r2)) ∧ Aside0 (kq ≤ k) ∧ Aside0 (Kd.R k42 42 w' w0.heap.size (fun k_ => (P0_ k_ ∨ w.heap.size ≤ k_)) u9000_ x0_1) ∧ Aside0 (Kept w w' (fun k_ => P0_ k_)) ∧ Aside0 (Below w0.heap.size w0 w'))
 case atStart => exact ⟨(l0), (a1), (0), rs_, rs_, H', ⟨Nat.le_refl _⟩, ⟨by (with_reducible repeat (first | apply Kd.R_alloc | apply Kd.R_drewN | apply Kd.R_drew)); exact HO0.out⟩, ⟨by repeat (first | (with_reducible first | exact HK.out | apply Kept.alloc | apply Kept.drewN | apply Kept.drew) | exact HK.out)⟩, ⟨bb_⟩⟩
 case round =>
  clear H'
  try clear p2
  obtain ⟨x0_1, x1_1, x5_1, rfl, rfl, HA, HK1, HO_0, HK, HB⟩ := hrel
  cases gk with
  | zero => exact absurd HA.out (by simp [laws_markValueS.l0])
  | succ k1 =>
   have H := HA.out
   clear HA
   simp only [laws_markValueS.l0] at H
   by_cases c3 : x5_1 < (x0_1.length : Int)
   ·rw [if_pos c3] at H
    have c3b0 : decide (x5_1 < (x0_1.length : Int)) = true := decide_eq_true c3
    clear c3
    by_cases c4 : 0 ≤ x5_1
    ·rw [if_pos c4] at H
     have c4b0 : decide (0 ≤ x5_1) = true := decide_eq_true c4
     clear c4
     obtain ⟨y232, hy232⟩ : ∃ y_ : List (S42), y_ = (x0_1.set (x5_1 : Int).toNat (⟨x1_1, (rd_T42 x0_1 x5_1).f1, (rd_T42 x0_1 x5_1).f2⟩ : S42)) := ⟨_, rfl⟩
     replace H : ((some (y232.set (x5_1 : Int).toNat (⟨(rd_T42 y232 x5_1).f0, wrap64 (x1_1 + 1), (rd_T42 y232 x5_1).f2⟩ : S42) : List (S42))).bind fun y233 => ((laws_markText.f k1 (wrap64 ((wrap64 (x1_1 + 1)) + 1))).bind fun t234 => (laws_markValueS.l0 k1 (y233.set (x5_1 : Int).toNat (⟨(rd_T42 y233 x5_1).f0, (rd_T42 y233 x5_1).f1, t234⟩ : S42)) (wrap64 ((wrap64 ((wrap64 (x1_1 + 1)) + 1)) + 1)) (wrap64 (x5_1 + 1))))) = some (r1, r2) := by first | (rw [hy232]; with_reducible exact H) | (have H2_ := (Option.bind_some _ _).symm.trans H; rw [hy232]; with_reducible exact H2_) | (have H2_ := (Option.bind_some _ _).symm.trans H; with_reducible exact H2_) | with_reducible exact H | (rw [hy232]; exact H) | exact H
     have Ny232 := Aside0.mk hy232
     clear hy232
     obtain ⟨y233, hy233⟩ : ∃ y_ : List (S42), y_ = (y232.set (x5_1 : Int).toNat (⟨(rd_T42 y232 x5_1).f0, wrap64 (x1_1 + 1), (rd_T42 y232 x5_1).f2⟩ : S42)) := ⟨_, rfl⟩
     replace H : ((laws_markText.f k1 (wrap64 ((wrap64 (x1_1 + 1)) + 1))).bind fun t234 => (laws_markValueS.l0 k1 (y233.set (x5_1 : Int).toNat (⟨(rd_T42 y233 x5_1).f0, (rd_T42 y233 x5_1).f1, t234⟩ : S42)) (wrap64 ((wrap64 ((wrap64 (x1_1 + 1)) + 1)) + 1)) (wrap64 (x5_1 + 1)))) = some (r1, r2) := by first | (rw [hy233]; with_reducible exact H) | (have H2_ := (Option.bind_some _ _).symm.trans H; rw [hy233]; with_reducible exact H2_) | (have H2_ := (Option.bind_some _ _).symm.trans H; with_reducible exact H2_) | with_reducible exact H | (rw [hy233]; exact H) | exact H
     have Ny233 := Aside0.mk hy233
     clear hy233
     replace H := Option.bind_eq_some_iff.mp H
     obtain ⟨t234, A70, H⟩ := H
     replace H : (laws_markValueS.l0 k1 (y233.set (x5_1 : Int).toNat (⟨(rd_T42 y233 x5_1).f0, (rd_T42 y233 x5_1).f1, t234⟩ : S42)) (wrap64 ((wrap64 ((wrap64 (x1_1 + 1)) + 1)) + 1)) (wrap64 (x5_1 + 1))) = some (r1, r2) := H
     have A7 := Aside0.mk A70
     clear A70
     obtain ⟨y235, hy235⟩ : ∃ y_ : List (S42), y_ = (y233.set (x5_1 : Int).toNat (⟨(rd_T42 y233 x5_1).f0, (rd_T42 y233 x5_1).f1, t234⟩ : S42)) := ⟨_, rfl⟩
     replace H : (laws_markValueS.l0 k1 y235 (wrap64 ((wrap64 ((wrap64 (x1_1 + 1)) + 1)) + 1)) (wrap64 (x5_1 + 1))) = some (r1, r2) := by first | (rw [hy235]; with_reducible exact H) | (have H2_ := (Option.bind_some _ _).symm.trans H; rw [hy235]; with_reducible exact H2_) | (have H2_ := (Option.bind_some _ _).symm.trans H; with_reducible exact H2_) | with_reducible exact H | (rw [hy235]; exact H) | exact H
     have Ny235 := Aside0.mk hy235
     clear hy235
     have H' := Aside0.mk H
     clear H
     obtain ⟨Ao9, co9, eo9⟩ := Kd.R_slice HO_0.out
     subst eo9
     have p5 : 0 ≤ (x5_1 : Int) := of_decide_eq_true (by first | (with_reducible assumption) | assumption)
     have q5 : (x5_1 : Int) < ((x0_1.length : Int) : Int) := of_decide_eq_true (by first | (with_reducible assumption) | assumption)
     obtain ⟨go5, co5, eo5, gb5, gl5, cl5, HG5⟩ := Kd.R_form HO_0.out (by omega)
     (first | cases eo5 | (injection eo5 with ea_ en_ ec_; (first | subst ea_ | (injection ea_ with ea_; subst ea_)); subst ec_; clear en_))
     have GB5 := Aside0.mk gb5
     have GG5 := Aside0.mk HG5
     clear gb5 gl5 HG5
     have HMgo5 := Aside0.mk (show (P0_ go5 ∨ w.heap.size ≤ go5) from (HO_0.out.1 _ rfl))
     obtain ⟨ce5, hcl5, hM5, hcc5, hfr5⟩ := Kd.R_elem HO_0.out z42 (x5_1 : Int) p5 q5
     obtain rfl := k42_openM hM5
     have hx5_0 : wr.cell? ⟨go5, (x5_1 : Int).toNat * 3, none⟩ = some (.int .i64 ((rd_T42 x0_1 x5_1).f0)) := hcc5 0 _ rfl
     have hx5_1 : wr.cell? ⟨go5, (x5_1 : Int).toNat * 3 + 1, none⟩ = some (.int .i64 ((rd_T42 x0_1 x5_1).f1)) := hcc5 1 _ rfl
     have hx5_2 : wr.cell? ⟨go5, (x5_1 : Int).toNat * 3 + 2, none⟩ = some (.string ((rd_T42 x0_1 x5_1).f2)) := hcc5 2 _ rfl
     have hf5_0 : wr.frozen? ⟨go5, (x5_1 : Int).toNat * 3, none⟩ = false := hfr5 0
     have hf5_1 : wr.frozen? ⟨go5, (x5_1 : Int).toNat * 3 + 1, none⟩ = false := hfr5 1
     have hf5_2 : wr.frozen? ⟨go5, (x5_1 : Int).toNat * 3 + 2, none⟩ = false := hfr5 2
     clear hcl5 hcc5 hfr5 hM5
     replace p5 := eq_true p5
     replace q5 := eq_true q5
     have HX10 := Aside0.mk (show Kd.R k42 42 wr w0.heap.size (fun k_ => (P0_ k_ ∨ w.heap.size ≤ k_)) (.slice (some ⟨go5, 0, none⟩) x0_1.length co9) x0_1 from (rk_ HO_0.out))
     obtain ⟨ce10, hcl10, hM10, hcc10, hfr10⟩ := Kd.R_elem HX10.out z42 (x5_1 : Int) (of_decide_eq_true (by first | (with_reducible assumption) | assumption)) (by have h_ : (x5_1 : Int) < ((x0_1.length : Int) : Int) := of_decide_eq_true (by first | (with_reducible assumption) | assumption); first | exact h_ | (have e_ := (Kd.R_reads' HO_0.out).1; omega) | simpa using h_)
     obtain rfl := k42_openM hM10
     have HP10 := Kd.R_seg HX10.out (x5_1 : Int) (of_decide_eq_true (by first | (with_reducible assumption) | assumption)) (by have h_ : (x5_1 : Int) < ((x0_1.length : Int) : Int) := of_decide_eq_true (by first | (with_reducible assumption) | assumption); first | exact h_ | (have e_ := (Kd.R_reads' HO_0.out).1; omega) | simpa using h_) (seg := [.int .i64 x1_1]) (j := 0) hcl10 hcc10 (show 1 ≤ 3 from by decide) (x' := (⟨x1_1, (rd_T42 x0_1 x5_1).f1, (rd_T42 x0_1 x5_1).f2⟩ : S42)) (k42_mkM _ _ _ (⟨x1_1, (rd_T42 x0_1 x5_1).f1, (rd_T42 x0_1 x5_1).f2⟩ : S42) ) (fun _ hk => hk)
     have hx10_0 := hcc10 0 _ rfl
     (try simp only [show (k42).sz = 3 from rfl, Nat.mul_one, Nat.add_zero] at hx10_0)
     have hf10_0 := hfr10 0
     (try simp only [show (k42).sz = 3 from rfl, Nat.mul_one, Nat.add_zero] at hf10_0)
     clear hcl10 hcc10 hfr10 hM10
     go_wp2_with (first | ((with_reducible refine gate_store (t := 3) (p := 16) rfl ?_); refine store_event (t := 3) (p := 16) (v := ?vo_w11) (w1 := (wr.setCell ⟨go5, (x5_1 : Int).toNat * 3, none⟩ (.int .i64 x1_1))) ?hg ?ho ?hn ?hr ?_; (case ho => rfl); (case hg => rfl); (case hn => rfl); (case hr => first | (go_simp; done) | (go_simp; rfl)); intro w11 hw; have hg : wr.grownBy w11 (some go5) := (by rw [hw]; exact HP10.2); have hp_ : Kd.R k42 42 w11 w0.heap.size (fun k_ => (P0_ k_ ∨ w.heap.size ≤ k_)) (.slice (some ⟨go5, 0, none⟩) x0_1.length co9) y232 := (by rw [hw, Ny232.out]; exact HP10.1); clear HP10; have n0_ := Aside0.mk (hp_); have n1_ := Aside0.mk ((by rw [hw]; exact below_set (HB.out) GB5.out : Below w0.heap.size w0 w11)); have n2_ := Aside0.mk (Kept.of_grown (S := (fun k_ => P0_ k_)) hg (by repeat (first | (with_reducible first | exact HK.out | apply Kept.alloc | apply Kept.drewN | apply Kept.drew) | exact HK.out)) (fun k_ e_ => (HO_0.out.1 k_ e_))); clear HO_0; clear HB; clear HK; have HO_0 := n0_; have HB := n1_; have HK := n2_; clear n0_ n1_ n2_; clear hg hw hp_; have p6 : 0 ≤ (x5_1 : Int) := of_decide_eq_true (by first | (with_reducible assumption) | assumption); have q6 : (x5_1 : Int) < ((x0_1.length : Int) : Int) := of_decide_eq_true (by first | (with_reducible assumption) | assumption); obtain ⟨ce6, hcl6, hM6, hcc6, hfr6⟩ := Kd.R_elem HO_0.out z42 (x5_1 : Int) p6 q6; obtain rfl := k42_openM hM6; have hx6_0 : w11.cell? ⟨go5, (x5_1 : Int).toNat * 3, none⟩ = some (.int .i64 ((rd_T42 y232 x5_1).f0)) := hcc6 0 _ rfl; have hx6_1 : w11.cell? ⟨go5, (x5_1 : Int).toNat * 3 + 1, none⟩ = some (.int .i64 ((rd_T42 y232 x5_1).f1)) := hcc6 1 _ rfl; have hx6_2 : w11.cell? ⟨go5, (x5_1 : Int).toNat * 3 + 2, none⟩ = some (.string ((rd_T42 y232 x5_1).f2)) := hcc6 2 _ rfl; have hf6_0 : w11.frozen? ⟨go5, (x5_1 : Int).toNat * 3, none⟩ = false := hfr6 0; have hf6_1 : w11.frozen? ⟨go5, (x5_1 : Int).toNat * 3 + 1, none⟩ = false := hfr6 1; have hf6_2 : w11.frozen? ⟨go5, (x5_1 : Int).toNat * 3 + 2, none⟩ = false := hfr6 2; clear hcl6 hcc6 hfr6 hM6; replace p6 := eq_true p6; replace q6 := eq_true q6; have HX12 := Aside0.mk (show Kd.R k42 42 w11 w0.heap.size (fun k_ => (P0_ k_ ∨ w.heap.size ≤ k_)) (.slice (some ⟨go5, 0, none⟩) x0_1.length co9) y232 from (rk_ HO_0.out)); obtain ⟨ce12, hcl12, hM12, hcc12, hfr12⟩ := Kd.R_elem HX12.out z42 (x5_1 : Int) (of_decide_eq_true (by first | (with_reducible assumption) | assumption)) (by have h_ : (x5_1 : Int) < ((x0_1.length : Int) : Int) := of_decide_eq_true (by first | (with_reducible assumption) | assumption); first | exact h_ | (have e_ := (Kd.R_reads' HO_0.out).1; omega) | simpa using h_); obtain rfl := k42_openM hM12; have HP12 := Kd.R_seg HX12.out (x5_1 : Int) (of_decide_eq_true (by first | (with_reducible assumption) | assumption)) (by have h_ : (x5_1 : Int) < ((x0_1.length : Int) : Int) := of_decide_eq_true (by first | (with_reducible assumption) | assumption); first | exact h_ | (have e_ := (Kd.R_reads' HO_0.out).1; omega) | simpa using h_) (seg := [.int .i64 (wrap64 (x1_1 + 1))]) (j := 1) hcl12 hcc12 (show 2 ≤ 3 from by decide) (x' := (⟨(rd_T42 y232 x5_1).f0, wrap64 (x1_1 + 1), (rd_T42 y232 x5_1).f2⟩ : S42)) (k42_mkM _ _ _ (⟨(rd_T42 y232 x5_1).f0, wrap64 (x1_1 + 1), (rd_T42 y232 x5_1).f2⟩ : S42) ) (fun _ hk => hk); have hx12_1 := hcc12 1 _ rfl; (try simp only [show (k42).sz = 3 from rfl, Nat.mul_one, Nat.add_zero] at hx12_1); have hf12_1 := hfr12 1; (try simp only [show (k42).sz = 3 from rfl, Nat.mul_one, Nat.add_zero] at hf12_1); clear hcl12 hcc12 hfr12 hM12) | ((with_reducible refine gate_store (t := 3) (p := 23) rfl ?_); refine store_event (t := 3) (p := 23) (v := ?vo_w13) (w1 := (w11.setCell ⟨go5, (x5_1 : Int).toNat * 3 + 1, none⟩ (.int .i64 (wrap64 (x1_1 + 1))))) ?hg ?ho ?hn ?hr ?_; (case ho => rfl); (case hg => rfl); (case hn => rfl); (case hr => first | (go_simp; done) | (go_simp; rfl)); intro w13 hw; have hg : w11.grownBy w13 (some go5) := (by rw [hw]; exact HP12.2); have hp_ : Kd.R k42 42 w13 w0.heap.size (fun k_ => (P0_ k_ ∨ w.heap.size ≤ k_)) (.slice (some ⟨go5, 0, none⟩) x0_1.length co9) y233 := (by rw [hw, Ny233.out]; exact HP12.1); clear HP12; have n0_ := Aside0.mk (hp_); have n1_ := Aside0.mk ((by rw [hw]; exact below_set (HB.out) GB5.out : Below w0.heap.size w0 w13)); have n2_ := Aside0.mk (Kept.of_grown (S := (fun k_ => P0_ k_)) hg (by repeat (first | (with_reducible first | exact HK.out | apply Kept.alloc | apply Kept.drewN | apply Kept.drew) | exact HK.out)) (fun k_ e_ => (HO_0.out.1 k_ e_))); clear HO_0; clear HB; clear HK; have HO_0 := n0_; have HB := n1_; have HK := n2_; clear n0_ n1_ n2_; clear hg hw hp_) | ((with_reducible refine gate_callee (f := 55) rfl ?_); refine gsL_ (some 29) Try.func55 #[.int .i64 (wrap64 ((wrap64 (x1_1 + 1)) + 1))] ?_; (with_reducible refine (laws_markText.calls k1 (wrap64 ((wrap64 (x1_1 + 1)) + 1)) t234 _ A7.out).mono ?_); rintro e w14 ⟨rfl, hb⟩; refine ⟨_, rfl, ?_⟩; replace HO_0 := Aside0.mk (Kd.R_below (rk_ HO_0.out) hb); replace HK := Aside0.mk (Kept.below (S := (fun k_ => P0_ k_)) (by repeat (first | (with_reducible first | exact HK.out | apply Kept.alloc | apply Kept.drewN | apply Kept.drew) | exact HK.out)) hb); replace HB := bs_ hb; (try clear hb); (try clear hb2); (try clear hk); (try clear hi); have p8 : 0 ≤ (x5_1 : Int) := of_decide_eq_true (by first | (with_reducible assumption) | assumption); have q8 : (x5_1 : Int) < ((x0_1.length : Int) : Int) := of_decide_eq_true (by first | (with_reducible assumption) | assumption); obtain ⟨ce8, hcl8, hM8, hcc8, hfr8⟩ := Kd.R_elem HO_0.out z42 (x5_1 : Int) p8 q8; obtain rfl := k42_openM hM8; have hx8_0 : w14.cell? ⟨go5, (x5_1 : Int).toNat * 3, none⟩ = some (.int .i64 ((rd_T42 y233 x5_1).f0)) := hcc8 0 _ rfl; have hx8_1 : w14.cell? ⟨go5, (x5_1 : Int).toNat * 3 + 1, none⟩ = some (.int .i64 ((rd_T42 y233 x5_1).f1)) := hcc8 1 _ rfl; have hx8_2 : w14.cell? ⟨go5, (x5_1 : Int).toNat * 3 + 2, none⟩ = some (.string ((rd_T42 y233 x5_1).f2)) := hcc8 2 _ rfl; have hf8_0 : w14.frozen? ⟨go5, (x5_1 : Int).toNat * 3, none⟩ = false := hfr8 0; have hf8_1 : w14.frozen? ⟨go5, (x5_1 : Int).toNat * 3 + 1, none⟩ = false := hfr8 1; have hf8_2 : w14.frozen? ⟨go5, (x5_1 : Int).toNat * 3 + 2, none⟩ = false := hfr8 2; clear hcl8 hcc8 hfr8 hM8; replace p8 := eq_true p8; replace q8 := eq_true q8; have HX15 := Aside0.mk (show Kd.R k42 42 w14 w0.heap.size (fun k_ => (P0_ k_ ∨ w.heap.size ≤ k_)) (.slice (some ⟨go5, 0, none⟩) x0_1.length co9) y233 from (rk_ HO_0.out)); obtain ⟨ce15, hcl15, hM15, hcc15, hfr15⟩ := Kd.R_elem HX15.out z42 (x5_1 : Int) (of_decide_eq_true (by first | (with_reducible assumption) | assumption)) (by have h_ : (x5_1 : Int) < ((x0_1.length : Int) : Int) := of_decide_eq_true (by first | (with_reducible assumption) | assumption); first | exact h_ | (have e_ := (Kd.R_reads' HO_0.out).1; omega) | simpa using h_); obtain rfl := k42_openM hM15; have HP15 := Kd.R_seg HX15.out (x5_1 : Int) (of_decide_eq_true (by first | (with_reducible assumption) | assumption)) (by have h_ : (x5_1 : Int) < ((x0_1.length : Int) : Int) := of_decide_eq_true (by first | (with_reducible assumption) | assumption); first | exact h_ | (have e_ := (Kd.R_reads' HO_0.out).1; omega) | simpa using h_) (seg := [.string t234]) (j := 2) hcl15 hcc15 (show 3 ≤ 3 from by decide) (x' := (⟨(rd_T42 y233 x5_1).f0, (rd_T42 y233 x5_1).f1, t234⟩ : S42)) (k42_mkM _ _ _ (⟨(rd_T42 y233 x5_1).f0, (rd_T42 y233 x5_1).f1, t234⟩ : S42) ) (fun _ hk => hk); have hx15_2 := hcc15 2 _ rfl; (try simp only [show (k42).sz = 3 from rfl, Nat.mul_one, Nat.add_zero] at hx15_2); have hf15_2 := hfr15 2; (try simp only [show (k42).sz = 3 from rfl, Nat.mul_one, Nat.add_zero] at hf15_2); clear hcl15 hcc15 hfr15 hM15) | ((with_reducible refine gate_store (t := 9) (p := 31) rfl ?_); refine store_event (t := 9) (p := 31) (v := ?vo_w16) (w1 := (w14.setCell ⟨go5, (x5_1 : Int).toNat * 3 + 2, none⟩ (.string t234))) ?hg ?ho ?hn ?hr ?_; (case ho => rfl); (case hg => rfl); (case hn => rfl); (case hr => first | (go_simp; done) | (go_simp; rfl)); intro w16 hw; have hg : w14.grownBy w16 (some go5) := (by rw [hw]; exact HP15.2); have hp_ : Kd.R k42 42 w16 w0.heap.size (fun k_ => (P0_ k_ ∨ w.heap.size ≤ k_)) (.slice (some ⟨go5, 0, none⟩) x0_1.length co9) y235 := (by rw [hw, Ny235.out]; exact HP15.1); clear HP15; have n0_ := Aside0.mk (hp_); have n1_ := Aside0.mk ((by rw [hw]; exact below_set (HB.out) GB5.out : Below w0.heap.size w0 w16)); have n2_ := Aside0.mk (Kept.of_grown (S := (fun k_ => P0_ k_)) hg (by repeat (first | (with_reducible first | exact HK.out | apply Kept.alloc | apply Kept.drewN | apply Kept.drew) | exact HK.out)) (fun k_ e_ => (HO_0.out.1 k_ e_))); clear HO_0; clear HB; clear HK; have HO_0 := n0_; have HB := n1_; have HK := n2_; clear n0_ n1_ n2_; clear hg hw hp_))
     go_roundg k1
     case measure => have := HK1.out; omega
     case rel => exact ⟨(y235), (wrap64 ((wrap64 ((wrap64 (x1_1 + 1)) + 1)) + 1)), (wrap64 (x5_1 + 1)), rs_, rs_, H', ⟨by have := HK1.out; omega⟩, ⟨by (with_reducible repeat (first | apply Kd.R_alloc | apply Kd.R_drewN | apply Kd.R_drew)); exact HO_0.out⟩, ⟨by repeat (first | (with_reducible first | exact HK.out | apply Kept.alloc | apply Kept.drewN | apply Kept.drew) | exact HK.out)⟩, ⟨bb_⟩⟩
    ·rw [if_neg c4] at H
     exact absurd H (by simp)
   ·rw [if_neg c3] at H
    have c3b0 : decide (x5_1 < (x0_1.length : Int)) = false := decide_eq_false c3
    clear c3
    simp only [Option.some.injEq, Prod.mk.injEq] at H
    obtain ⟨rfl, rfl⟩ := H
    obtain ⟨Ao17, co17, eo17⟩ := Kd.R_slice HO_0.out
    subst eo17
    go_wp2
    go_ret
    exact ⟨by first | rfl | (simp [errW_none, errW_some] <;> rfl) | (simp [*, errW_none, errW_some] <;> rfl), by (with_reducible repeat (first | apply Kd.R_alloc | apply Kd.R_drewN | apply Kd.R_drew)); exact HO_0.out, by repeat (first | (with_reducible first | exact HB.out | apply below_alloc | apply pw_below_drewN | apply below_drew1) | exact HB.out), by repeat (first | (with_reducible first | exact HK.out | apply Kept.alloc | apply Kept.drewN | apply Kept.drew) | exact HK.out)⟩

/-! ### laws_markCountedS: function 29 -/
-- by hand
def laws_markCountedS.l0 : Nat → List (S46) → Int → Int → Option (Int × (List (S46)))
 | 0, _, _, _ => none
 | k + 1, x0, x1, x5 => if x5 < (x0.length : Int) then (if 0 ≤ x5 then ((laws_markValueS.f k (rd_T46 x0 x5).f0 x1).bind fun bt => (laws_markCountedS.l0 k (x0.set (x5 : Int).toNat (⟨bt.2, bt.1⟩ : S46)) (wrap64 (bt.1 + 1)) (wrap64 (x5 + 1)))) else (none)) else (some (x1, x0))
def laws_markCountedS.f (k : Nat) (l0 : List (S46)) (a1 : Int) : Option (Int × (List (S46))) := laws_markCountedS.l0 k l0 a1 0
set_option maxHeartbeats 8000000 in
set_option maxRecDepth 100000 in
theorem laws_markCountedS.calls (k : Nat) (P0_ : Nat → Prop) (u9000_ : Value) (l0 : List (S46)) (a1 : Int) (r1 : Int) (r2 : List (S46)) (w0 w : World) (hB : Below w0.heap.size w0 w) (ho0 : Kd.S k46 46 w w0.heap.size P0_ u9000_ l0) (h : laws_markCountedS.f k l0 a1 = some (r1, r2)) :
  Calls Try.prog 29 #[u9000_, .int .i64 a1] w fun e w' => e = .returned (.int .i64 r1) ∧ Kd.S k46 46 w' w0.heap.size (fun k_ => (P0_ k_ ∨ w.heap.size ≤ k_)) u9000_ r2 ∧ Below w0.heap.size w0 w' ∧ Kept w w' (fun k_ => P0_ k_) := by
 have HO0 := Aside0.mk (show Kd.S k46 46 w w0.heap.size (fun k_ => (P0_ k_ ∨ w.heap.size ≤ k_)) u9000_ l0 from Kd.S_mono ho0 (fun k_ hk => (.inl hk)))
 have HK := Aside0.mk (Kept.refl w (fun k_ => P0_ k_))
 have HB := Aside0.mk hB
 clear hB
 have H' := Aside0.mk (show laws_markCountedS.l0 k l0 a1 0 = some (r1, r2) from h)
 clear h
 go_enter Try.func29, Try.ntmps29
 go_wp2
 go_loopg [1, 5] k (fun kq v1 v5 w' => ∃ (x0_1 : List (S46)) (x1_1 : Int) (x5_1 : Int), v1 = .int .i64 x1_1 ∧ v5 = .int .i64 x5_1 ∧ Aside0 (laws_markCountedS.l0 kq x0_1 x1_1 x5_1 = some (r1, r2)) ∧ Aside0 (kq ≤ k) ∧ Aside0 (Kd.S k46 46 w' w0.heap.size (fun k_ => (P0_ k_ ∨ w.heap.size ≤ k_)) u9000_ x0_1) ∧ Aside0 (Kept w w' (fun k_ => P0_ k_)) ∧ Aside0 (Below w0.heap.size w0 w'))
 case atStart => exact ⟨(l0), (a1), (0), rs_, rs_, H', ⟨Nat.le_refl _⟩, ⟨by (with_reducible repeat (first | apply Kd.S_alloc | apply Kd.S_drewN | apply Kd.S_drew)); exact HO0.out⟩, ⟨by repeat (first | (with_reducible first | exact HK.out | apply Kept.alloc | apply Kept.drewN | apply Kept.drew) | exact HK.out)⟩, ⟨bb_⟩⟩
 case round =>
  clear H'
  try clear p2
  obtain ⟨x0_1, x1_1, x5_1, rfl, rfl, HA, HK1, HO_0, HK, HB⟩ := hrel
  cases gk with
  | zero => exact absurd HA.out (by simp [laws_markCountedS.l0])
  | succ k1 =>
   have H := HA.out
   clear HA
   simp only [laws_markCountedS.l0] at H
   by_cases c3 : x5_1 < (x0_1.length : Int)
   ·rw [if_pos c3] at H
    have c3b0 : decide (x5_1 < (x0_1.length : Int)) = true := decide_eq_true c3
    by_cases c4 : 0 ≤ x5_1
    ·rw [if_pos c4] at H
     have c4b0 : decide (0 ≤ x5_1) = true := decide_eq_true c4
     replace H := Option.bind_eq_some_iff.mp H
     obtain ⟨⟨t1, m1⟩, A10, H⟩ := H
     replace H : laws_markCountedS.l0 k1 (x0_1.set (x5_1 : Int).toNat (⟨m1, t1⟩ : S46)) (wrap64 (t1 + 1)) (wrap64 (x5_1 + 1)) = some (r1, r2) := H
     have A1 := Aside0.mk A10
     clear A10
     have H' := Aside0.mk H
     clear H
     obtain ⟨Ao9, co9, eo9⟩ := Kd.S_slice HO_0.out
     subst eo9
     obtain ⟨go5, co5, eo5, gb5, gl5, cl5, HG5⟩ := Kd.S_form HO_0.out (by omega)
     (first | cases eo5 | (injection eo5 with ea_ en_ ec_; (first | subst ea_ | (injection ea_ with ea_; subst ea_)); subst ec_; clear en_))
     have HW0 := Aside0.mk gl5
     obtain ⟨oki, ce, hcl, hM, hcc, hfr, hoki, HH⟩ := Kd.S_elem HO_0.out z46 (x5_1 : Int) c4 c3
     obtain ⟨v0, rfl, hR⟩ := k46_openM hM
     obtain ⟨Av, cv, rfl⟩ := Kd.R_slice hR
     have hx5_0 : wr.cell? ⟨go5, (x5_1 : Int).toNat * 2, none⟩ = some (.slice Av (rd_T46 x0_1 x5_1).f0.length cv) := hcc 0 _ rfl
     have hx5_1 : wr.cell? ⟨go5, (x5_1 : Int).toNat * 2 + 1, none⟩ = some (.int .i64 (rd_T46 x0_1 x5_1).f1) := hcc 1 _ rfl
     have hf5_0 : wr.frozen? ⟨go5, (x5_1 : Int).toNat * 2, none⟩ = false := hfr 0
     have hf5_1 : wr.frozen? ⟨go5, (x5_1 : Int).toNat * 2 + 1, none⟩ = false := hfr 1
     have HHA := Aside0.mk HH
     have HR := Aside0.mk (show Kd.R k42 42 wr w0.heap.size oki (.slice Av (rd_T46 x0_1 x5_1).f0.length cv) (rd_T46 x0_1 x5_1).f0 from hR)
     have HOK := Aside0.mk hoki
     clear hM hcc hfr hoki HH hR hcl
     go_wp2_with (first | ((with_reducible refine gate_callee (f := 45) rfl ?_); refine gsL_ (some 18) Try.func45 #[.slice Av (rd_T46 x0_1 x5_1).f0.length cv, .int .i64 x1_1] ?_; (with_reducible refine (laws_markValueS.calls k1 oki _ (rd_T46 x0_1 x5_1).f0 x1_1 t1 m1 w0 _ bb_ (rk_ HR.out) A1.out).mono ?_); rintro e w7 ⟨rfl, hR2, hB2, hK2⟩; refine ⟨_, rfl, ?_⟩; have hH2 := Kd.H_kept (by (with_reducible repeat (first | apply Kd.H_alloc | apply Kd.H_drewN | apply Kd.H_drew)); exact HHA.out) hK2 (fun k_ _ hn hk => hn hk); have hl2 := (Kd.R_reads' hR2).1; have hM2 : k46.M w7 w0.heap.size oki (⟨m1, t1⟩ : S46) [.slice Av (rd_T46 x0_1 x5_1).f0.length cv, .int .i64 t1] := (k46_mkM w7 w0.heap.size oki (⟨m1, t1⟩ : S46) (Kd.R_mono (Kd.R_tight rfl hR2) (fun k_ hk => HR.out.1 k_ hk.symm))); have HP := Kd.S_seg (okg := fun _ => False) (seg := [.int .i64 t1]) (j := 1) (Kd.H_mono hH2 (fun _ hk => ⟨hk, fun h => h⟩)) c4 c3 (show 1 + 1 ≤ 2 from by decide) hM2 (fun k_ hk => .inl hk) (fun _ hk => hk.elim); obtain ⟨_, _, hraw, _, _, hcc2, _⟩ := Kd.H_raw hH2 c4 c3; obtain ⟨_, _, _, _, hfr2⟩ := Kd.R_elem hraw [] (x5_1 : Int) c4 c3; have hx7_1 : w7.cell? ⟨go5, (x5_1 : Int).toNat * 2 + 1, none⟩ = some (.int .i64 (rd_T46 x0_1 x5_1).f1) := hcc2 1 _ rfl; have hf7_1 : w7.frozen? ⟨go5, (x5_1 : Int).toNat * 2 + 1, none⟩ = false := hfr2 1; clear hcc2 hfr2 hraw hM2; have n0_ := Aside0.mk hB2; have n1_ := Aside0.mk (Kept.then_ (by repeat (first | (with_reducible first | exact HK.out | apply Kept.alloc | apply Kept.drewN | apply Kept.drew) | exact HK.out)) hK2 (fun k_ hk => (HOK.out k_ hk).1) : Kept w w7 (fun k_ => P0_ k_)); clear HB HK; have HB := n0_; have HK := n1_; clear n0_ n1_ hB2 hK2 hH2) | ((with_reducible refine gate_store (t := 3) (p := 23) rfl ?_); refine store_event (t := 3) (p := 23) (v := ?vo_w11) (w1 := (w7.setCell ⟨go5, (x5_1 : Int).toNat * 2 + 1, none⟩ (.int .i64 t1))) ?hg ?ho ?hn ?hr ?_; (case ho => rfl); (case hg => rfl); (case hn => rfl); (case hr => first | (go_simp; done) | (go_simp; rfl)); intro w11 hw; have hg : w7.grownBy w11 (some go5) := (by rw [hw]; exact HP.2); have hp_ : Kd.S k46 46 w11 w0.heap.size (fun k_ => (P0_ k_ ∨ w.heap.size ≤ k_)) (.slice (some ⟨go5, 0, none⟩) x0_1.length co9) (x0_1.set (x5_1 : Int).toNat (⟨m1, t1⟩ : S46)) := (by rw [hw]; exact HP.1); clear HP; have n0_ := Aside0.mk (hp_); have n1_ := Aside0.mk ((by rw [hw]; exact below_set (HB.out) gb5 : Below w0.heap.size w0 w11)); have n2_ := Aside0.mk (Kept.of_grown (S := (fun k_ => P0_ k_)) hg (by repeat (first | (with_reducible first | exact HK.out | apply Kept.alloc | apply Kept.drewN | apply Kept.drew) | exact HK.out)) (fun k_ e_ => ((Kd.S_R HO_0.out).1 k_ e_))); clear HO_0; clear HB; clear HK; have HO_0 := n0_; have HB := n1_; have HK := n2_; clear n0_ n1_ n2_; clear hg hw hp_))
     go_roundg k1
     case measure => have := HK1.out; omega
     case rel => exact ⟨(x0_1.set (x5_1 : Int).toNat (⟨m1, t1⟩ : S46)), (wrap64 (t1 + 1)), (wrap64 (x5_1 + 1)), rs_, rs_, H', ⟨by have := HK1.out; omega⟩, ⟨by (with_reducible repeat (first | apply Kd.S_alloc | apply Kd.S_drewN | apply Kd.S_drew)); exact HO_0.out⟩, ⟨by repeat (first | (with_reducible first | exact HK.out | apply Kept.alloc | apply Kept.drewN | apply Kept.drew) | exact HK.out)⟩, ⟨bb_⟩⟩
    ·rw [if_neg c4] at H
     exact absurd H (by simp)
   ·rw [if_neg c3] at H
    have c3b0 : decide (x5_1 < (x0_1.length : Int)) = false := decide_eq_false c3
    clear c3
    simp only [Option.some.injEq, Prod.mk.injEq] at H
    obtain ⟨rfl, rfl⟩ := H
    obtain ⟨Ao17, co17, eo17⟩ := Kd.S_slice HO_0.out
    subst eo17
    go_wp2
    go_ret
    exact ⟨by first | rfl | (simp [errW_none, errW_some] <;> rfl) | (simp [*, errW_none, errW_some] <;> rfl), by (with_reducible repeat (first | apply Kd.S_alloc | apply Kd.S_drewN | apply Kd.S_drew)); exact HO_0.out, by repeat (first | (with_reducible first | exact HB.out | apply below_alloc | apply pw_below_drewN | apply below_drew1) | exact HB.out), by repeat (first | (with_reducible first | exact HK.out | apply Kept.alloc | apply Kept.drewN | apply Kept.drew) | exact HK.out)⟩


/-! ### laws_markBag: function 12 -/
-- by hand
def laws_markBag.f (k : Nat) (a0_0 : Int) (l0 : List (S46)) (a1 : Int) : Option (Int × (List (S46))) := laws_markCountedS.f k l0 a1
set_option maxHeartbeats 8000000 in
set_option maxRecDepth 100000 in
theorem laws_markBag.calls (k : Nat) (P0_ : Nat → Prop) (a0_0 : Int) (A0_1 : Option Addr) (n0_1 c0_1 : Nat) (l0 : List (S46)) (a1 : Int) (r1 : Int) (r2 : List (S46)) (w0 w : World) (hB : Below w0.heap.size w0 w) (ho0 : Kd.S k46 46 w w0.heap.size P0_ (.slice A0_1 n0_1 c0_1) l0) (h : laws_markBag.f k a0_0 l0 a1 = some (r1, r2)) :
  Calls Try.prog 12 #[.agg #[.int .i64 a0_0, .slice A0_1 n0_1 c0_1], .int .i64 a1] w fun e w' => e = .returned (.int .i64 r1) ∧ Kd.S k46 46 w' w0.heap.size (fun k_ => (P0_ k_ ∨ w.heap.size ≤ k_)) (.slice A0_1 n0_1 c0_1) r2 ∧ Below w0.heap.size w0 w' ∧ Kept w w' (fun k_ => P0_ k_) := by
 have HO := Aside0.mk ho0
 have HB := Aside0.mk hB
 have HK := Aside0.mk (Kept.refl w (fun k_ => P0_ k_))
 clear hB ho0
 have A1 := Aside0.mk (show laws_markCountedS.f k l0 a1 = some (r1, r2) from h)
 clear h
 have hu29 := Try.underlying29
 go_enter Try.func12, Try.ntmps12
 go_wp2_with (first | ((with_reducible refine gate_callee (f := 29) rfl ?_); refine gsL_ (some 8) Try.func29 #[.slice A0_1 n0_1 c0_1, .int .i64 a1] ?_; (with_reducible refine (laws_markCountedS.calls k P0_ _ l0 a1 r1 r2 w0 _ bb_ (sk_ HO.out) A1.out).mono ?_); rintro e w7 ⟨rfl, hS2, hB2, hK2⟩; refine ⟨_, rfl, ?_⟩; have n0_ := Aside0.mk hB2; have n1_ := Aside0.mk (Kept.then_ (by repeat (first | (with_reducible first | exact HK.out | apply Kept.alloc | apply Kept.drewN | apply Kept.drew) | exact HK.out)) hK2 (fun k_ hk => .inl hk) : Kept w w7 (fun k_ => P0_ k_)); clear HB HK HO; have HB := n0_; have HK := n1_; have HO := Aside0.mk hS2; clear n0_ n1_ hB2 hK2 hS2))
 go_ret
 refine ⟨by first | rfl | (simp [errW_none, errW_some] <;> rfl), ?_, by repeat (first | (with_reducible first | exact HB.out | apply below_alloc | apply pw_below_drewN | apply below_drew1) | exact HB.out), by repeat (first | (with_reducible first | exact HK.out | apply Kept.alloc | apply Kept.drewN | apply Kept.drew) | exact HK.out)⟩
 (with_reducible repeat (first | apply Kd.S_alloc | apply Kd.S_drewN | apply Kd.S_drew))
 refine Kd.S_mono HO.out (fun k_ hk => ?_)
 rcases hk with hk | hk
 · exact .inl hk
 · exact .inr (by simp at hk ⊢; omega)


/-! ### laws_heldValueS: function 46 -/
def laws_heldValueS.l0 : Nat → List (S42) → Int → Int → Option (Int)
 | 0, _, _, _ => none
 | k + 1, x0, x1, x5 => if x5 < (x0.length : Int) then (if 0 ≤ x5 then (if ((rd_T42 x0 x5).f0) = x1 then (if ((rd_T42 x0 x5).f1) = (wrap64 (x1 + 1)) then ((laws_markText.f k (wrap64 ((wrap64 (x1 + 1)) + 1))).bind fun t239 => (if ((rd_T42 x0 x5).f2).toList = t239.toList then (laws_heldValueS.l0 k x0 (wrap64 ((wrap64 ((wrap64 (x1 + 1)) + 1)) + 1)) (wrap64 (x5 + 1))) else (some (-1)))) else (some (-1))) else (some (-1))) else (none)) else (some x1)
def laws_heldValueS.f (k : Nat) (l0 : List (S42)) (a1 : Int) : Option (Int) := laws_heldValueS.l0 k l0 a1 0
def laws_heldValueS.T10 : Bool × List (List Nat × List Nat) := (true, [([], []), ([], []), ([0, 1], [0, 1]), ([2], [2]), ([3], [3]), ([], []), ([5], [5]), ([4, 6], [4, 6])])
def laws_heldValueS.B10 : List Nat := [0, 0, 3, 7, 15, 0, 32, 127]
theorem laws_heldValueS.tab10 : rtab .any (opsOf Try.f46 10) = laws_heldValueS.T10 := by kernel_rfl
theorem laws_heldValueS.bits10 : waitsOk laws_heldValueS.T10.2 laws_heldValueS.B10 = true := by kernel_rfl
set_option maxHeartbeats 8000000 in
set_option maxRecDepth 100000 in
theorem laws_heldValueS.calls (k : Nat) (A0 : Option Addr) (c0 : Nat) (l0 : List (S42)) (a1 : Int) (r : Int) (w : World) (hr0 : Kd.C k42 w A0 l0.length l0) (hc0 : l0.length ≤ c0) (h : laws_heldValueS.f k l0 a1 = some r) :
  Calls Try.prog 46 #[.slice A0 l0.length c0, .int .i64 a1] w fun e w' => e = .returned (.int .i64 r) ∧ Below w.heap.size w w' := by
 have HR0 := Aside0.mk hr0
 have HC0 := Aside0.mk hc0
 clear hr0 hc0
 have HB := Aside0.mk (Below.refl w.heap.size w)
 have H : (laws_heldValueS.l0 k l0 a1 0) = some r := h
 clear h
 have H' := Aside0.mk H
 clear H
 go_enter Try.func46, Try.ntmps46
 go_wp2
 go_loopg [1, 5] k (fun kq v1 v5 w' => ∃ (x1_1 : Int) (x5_1 : Int), v1 = .int .i64 x1_1 ∧ v5 = .int .i64 x5_1 ∧ Aside0 (laws_heldValueS.l0 kq l0 x1_1 x5_1 = some r) ∧ Aside0 (kq ≤ k) ∧ Aside0 (Below w.heap.size w w'))
 case atStart => exact ⟨(a1), (0), rs_, rs_, H', ⟨Nat.le_refl _⟩, ⟨bb_⟩⟩
 case round =>
  clear H'
  try clear p2
  obtain ⟨x1_1, x5_1, rfl, rfl, HA, HK1, HB⟩ := hrel
  cases gk with
  | zero => exact absurd HA.out (by simp [laws_heldValueS.l0])
  | succ k1 =>
   have H := HA.out
   clear HA
   simp only [laws_heldValueS.l0] at H
   by_cases c3 : x5_1 < (l0.length : Int)
   ·rw [if_pos c3] at H
    have c3b0 : decide (x5_1 < (l0.length : Int)) = true := decide_eq_true c3
    clear c3
    by_cases c4 : 0 ≤ x5_1
    ·rw [if_pos c4] at H
     have c4b0 : decide (0 ≤ x5_1) = true := decide_eq_true c4
     clear c4
     by_cases c5 : ((rd_T42 l0 x5_1).f0) = x1_1
     ·rw [if_pos c5] at H
      have c5b0 : (((rd_T42 l0 x5_1).f0) == x1_1) = true := beq_iff_eq.mpr c5
      have c5b1 : (((rd_T42 l0 x5_1).f0) != x1_1) = false := bne_eq_false_iff_eq.mpr c5
      clear c5
      by_cases c6 : ((rd_T42 l0 x5_1).f1) = (wrap64 (x1_1 + 1))
      ·rw [if_pos c6] at H
       have c6b0 : (((rd_T42 l0 x5_1).f1) == (wrap64 (x1_1 + 1))) = true := beq_iff_eq.mpr c6
       have c6b1 : (((rd_T42 l0 x5_1).f1) != (wrap64 (x1_1 + 1))) = false := bne_eq_false_iff_eq.mpr c6
       clear c6
       replace H := Option.bind_eq_some_iff.mp H
       obtain ⟨t239, A70, H⟩ := H
       replace H : (if ((rd_T42 l0 x5_1).f2).toList = t239.toList then (laws_heldValueS.l0 k1 l0 (wrap64 ((wrap64 ((wrap64 (x1_1 + 1)) + 1)) + 1)) (wrap64 (x5_1 + 1))) else (some (-1))) = some r := H
       have A7 := Aside0.mk A70
       clear A70
       by_cases c8 : ((rd_T42 l0 x5_1).f2).toList = t239.toList
       ·rw [if_pos c8] at H
        have c8b0 : (((rd_T42 l0 x5_1).f2).toList == t239.toList) = true := beq_iff_eq.mpr c8
        have c8b1 : (((rd_T42 l0 x5_1).f2).toList != t239.toList) = false := bne_eq_false_iff_eq.mpr c8
        clear c8
        have H' := Aside0.mk H
        clear H
        have p236 : 0 ≤ (x5_1 : Int) := of_decide_eq_true (by first | (with_reducible assumption) | assumption)
        have q236 : x5_1 < (l0.length : Int) := of_decide_eq_true (by first | (with_reducible assumption) | assumption)
        obtain ⟨ad236, e236, hx236_0, hx236_1, hx236_2⟩ := at_T42 HR0.out x5_1 p236 q236
        cases e236
        replace hx236_0 := hb_ HB hx236_0
        replace hx236_1 := hb_ HB hx236_1
        replace hx236_2 := hb_ HB hx236_2
        replace p236 := eq_true p236
        replace q236 := eq_true q236
        have p237 : 0 ≤ (x5_1 : Int) := of_decide_eq_true (by first | (with_reducible assumption) | assumption)
        have q237 : x5_1 < (l0.length : Int) := of_decide_eq_true (by first | (with_reducible assumption) | assumption)
        obtain ⟨ad237, e237, hx237_0, hx237_1, hx237_2⟩ := at_T42 HR0.out x5_1 p237 q237
        obtain rfl : ad236 = ad237 := (by injection e237)
        replace hx237_0 := hb_ HB hx237_0
        replace hx237_1 := hb_ HB hx237_1
        replace hx237_2 := hb_ HB hx237_2
        replace p237 := eq_true p237
        replace q237 := eq_true q237
        try go_wp2
        replace HB := Aside0.mk (below_drew1 HB.out)
        have p238 : 0 ≤ (x5_1 : Int) := of_decide_eq_true (by first | (with_reducible assumption) | assumption)
        have q238 : x5_1 < (l0.length : Int) := of_decide_eq_true (by first | (with_reducible assumption) | assumption)
        obtain ⟨ad238, e238, hx238_0, hx238_1, hx238_2⟩ := at_T42 HR0.out x5_1 p238 q238
        have hw238_2 := hx238_2
        have hw238_1 := hx238_1
        have hw238_0 := hx238_0
        obtain rfl : ad236 = ad238 := (by injection e238)
        replace hx238_0 := hb_ HB hx238_0
        replace hx238_1 := hb_ HB hx238_1
        replace hx238_2 := hb_ HB hx238_2
        replace p238 := eq_true p238
        replace q238 := eq_true q238
        refine start_ (n := 8) (S := fun w' => w'.cell? (ad236.add ((x5_1).toNat * 3)) = some (.int .i64 ((rd_T42 l0 x5_1).f0)) ∧ w'.cell? ⟨(ad236.add ((x5_1).toNat * 3)).block, (ad236.add ((x5_1).toNat * 3)).off + 1, none⟩ = some (.int .i64 ((rd_T42 l0 x5_1).f1)) ∧ w'.cell? ⟨(ad236.add ((x5_1).toNat * 3)).block, (ad236.add ((x5_1).toNat * 3)).off + 2, none⟩ = some (.string ((rd_T42 l0 x5_1).f2))) (ds := []) (tf 0 8) (by kernel_rfl) rfl rfl ⟨(hb_ HB hw238_0), (hb_ HB hw238_1), (hb_ HB hw238_2)⟩ (fun hHeld => ?_); refine with_tabW laws_heldValueS.tab10 laws_heldValueS.bits10 (fun HT_ HW_ => ?_)
        generalize wr.drew = w9 at HB hx238_0 hx238_1 hx238_2 hHeld ⊢
        iterate 4 (refine pl_ ?_)
        refine plx_ 5 #[true, true, true, true, false, true, false, false] ?_
        refine tlx_ 4 (tf 6 2) ?_
        refine one_ (i := 6) (N := some 36) (tf 7 1) rfl rfl (one_of HT_.out (by kernel_rfl)) (by decide) (fun K hK => ?_)
        refine gs_ Try.func55 #[.int .i64 (wrap64 ((wrap64 (x1_1 + 1)) + 1))] ?_
        with_reducible refine (laws_markText.calls k1 (wrap64 ((wrap64 (x1_1 + 1)) + 1)) t239 _ A7.out).mono ?_
        rintro e w10 ⟨rfl, hb⟩
        refine ⟨_, rfl, ?_⟩
        replace HB := bs_ hb
        (try clear hb)
        (try clear hb2)
        (try clear hk)
        (try clear hi)
        refine hK.out _ _ ⟨(have h_ := hb_ HB hw238_0; h_), (have h_ := hb_ HB hw238_1; h_), (have h_ := hb_ HB hw238_2; h_)⟩ (fun hHeld => ?_)
        clear hK K
        refine nm_ ?_
        refine plx_ 7 (tf 8 0) ?_
        refine done_ (done_of HT_.out (by kernel_rfl)) ?_
        try go_wp2
        go_roundg k1
        case measure => have := HK1.out; omega
        case rel => exact ⟨(wrap64 ((wrap64 ((wrap64 (x1_1 + 1)) + 1)) + 1)), (wrap64 (x5_1 + 1)), rs_, rs_, H', ⟨by have := HK1.out; omega⟩, ⟨bb_⟩⟩
       ·rw [if_neg c8] at H
        have c8b0 : (((rd_T42 l0 x5_1).f2).toList == t239.toList) = false := beq_eq_false_iff_ne.mpr c8
        have c8b1 : (((rd_T42 l0 x5_1).f2).toList != t239.toList) = true := bne_iff_ne.mpr c8
        obtain rfl := Option.some.inj H
        have p236 : 0 ≤ (x5_1 : Int) := of_decide_eq_true (by first | (with_reducible assumption) | assumption)
        have q236 : x5_1 < (l0.length : Int) := of_decide_eq_true (by first | (with_reducible assumption) | assumption)
        obtain ⟨ad236, e236, hx236_0, hx236_1, hx236_2⟩ := at_T42 HR0.out x5_1 p236 q236
        cases e236
        replace hx236_0 := hb_ HB hx236_0
        replace hx236_1 := hb_ HB hx236_1
        replace hx236_2 := hb_ HB hx236_2
        replace p236 := eq_true p236
        replace q236 := eq_true q236
        have p237 : 0 ≤ (x5_1 : Int) := of_decide_eq_true (by first | (with_reducible assumption) | assumption)
        have q237 : x5_1 < (l0.length : Int) := of_decide_eq_true (by first | (with_reducible assumption) | assumption)
        obtain ⟨ad237, e237, hx237_0, hx237_1, hx237_2⟩ := at_T42 HR0.out x5_1 p237 q237
        obtain rfl : ad236 = ad237 := (by injection e237)
        replace hx237_0 := hb_ HB hx237_0
        replace hx237_1 := hb_ HB hx237_1
        replace hx237_2 := hb_ HB hx237_2
        replace p237 := eq_true p237
        replace q237 := eq_true q237
        try go_wp2
        replace HB := Aside0.mk (below_drew1 HB.out)
        have p238 : 0 ≤ (x5_1 : Int) := of_decide_eq_true (by first | (with_reducible assumption) | assumption)
        have q238 : x5_1 < (l0.length : Int) := of_decide_eq_true (by first | (with_reducible assumption) | assumption)
        obtain ⟨ad238, e238, hx238_0, hx238_1, hx238_2⟩ := at_T42 HR0.out x5_1 p238 q238
        have hw238_2 := hx238_2
        have hw238_1 := hx238_1
        have hw238_0 := hx238_0
        obtain rfl : ad236 = ad238 := (by injection e238)
        replace hx238_0 := hb_ HB hx238_0
        replace hx238_1 := hb_ HB hx238_1
        replace hx238_2 := hb_ HB hx238_2
        replace p238 := eq_true p238
        replace q238 := eq_true q238
        refine start_ (n := 8) (S := fun w' => w'.cell? (ad236.add ((x5_1).toNat * 3)) = some (.int .i64 ((rd_T42 l0 x5_1).f0)) ∧ w'.cell? ⟨(ad236.add ((x5_1).toNat * 3)).block, (ad236.add ((x5_1).toNat * 3)).off + 1, none⟩ = some (.int .i64 ((rd_T42 l0 x5_1).f1)) ∧ w'.cell? ⟨(ad236.add ((x5_1).toNat * 3)).block, (ad236.add ((x5_1).toNat * 3)).off + 2, none⟩ = some (.string ((rd_T42 l0 x5_1).f2))) (ds := []) (tf 0 8) (by kernel_rfl) rfl rfl ⟨(hb_ HB hw238_0), (hb_ HB hw238_1), (hb_ HB hw238_2)⟩ (fun hHeld => ?_); refine with_tabW laws_heldValueS.tab10 laws_heldValueS.bits10 (fun HT_ HW_ => ?_)
        generalize wr.drew = w11 at HB hx238_0 hx238_1 hx238_2 hHeld ⊢
        iterate 4 (refine pl_ ?_)
        refine plx_ 5 #[true, true, true, true, false, true, false, false] ?_
        refine tlx_ 4 (tf 6 2) ?_
        refine one_ (i := 6) (N := some 36) (tf 7 1) rfl rfl (one_of HT_.out (by kernel_rfl)) (by decide) (fun K hK => ?_)
        refine gs_ Try.func55 #[.int .i64 (wrap64 ((wrap64 (x1_1 + 1)) + 1))] ?_
        with_reducible refine (laws_markText.calls k1 (wrap64 ((wrap64 (x1_1 + 1)) + 1)) t239 _ A7.out).mono ?_
        rintro e w12 ⟨rfl, hb⟩
        refine ⟨_, rfl, ?_⟩
        replace HB := bs_ hb
        (try clear hb)
        (try clear hb2)
        (try clear hk)
        (try clear hi)
        refine hK.out _ _ ⟨(have h_ := hb_ HB hw238_0; h_), (have h_ := hb_ HB hw238_1; h_), (have h_ := hb_ HB hw238_2; h_)⟩ (fun hHeld => ?_)
        clear hK K
        refine nm_ ?_
        refine plx_ 7 (tf 8 0) ?_
        refine done_ (done_of HT_.out (by kernel_rfl)) ?_
        try go_wp2
        go_ret
        exact ⟨er_, bb_⟩
      ·rw [if_neg c6] at H
       have c6b0 : (((rd_T42 l0 x5_1).f1) == (wrap64 (x1_1 + 1))) = false := beq_eq_false_iff_ne.mpr c6
       have c6b1 : (((rd_T42 l0 x5_1).f1) != (wrap64 (x1_1 + 1))) = true := bne_iff_ne.mpr c6
       obtain rfl := Option.some.inj H
       have p236 : 0 ≤ (x5_1 : Int) := of_decide_eq_true (by first | (with_reducible assumption) | assumption)
       have q236 : x5_1 < (l0.length : Int) := of_decide_eq_true (by first | (with_reducible assumption) | assumption)
       obtain ⟨ad236, e236, hx236_0, hx236_1, hx236_2⟩ := at_T42 HR0.out x5_1 p236 q236
       cases e236
       replace hx236_0 := hb_ HB hx236_0
       replace hx236_1 := hb_ HB hx236_1
       replace hx236_2 := hb_ HB hx236_2
       replace p236 := eq_true p236
       replace q236 := eq_true q236
       have p237 : 0 ≤ (x5_1 : Int) := of_decide_eq_true (by first | (with_reducible assumption) | assumption)
       have q237 : x5_1 < (l0.length : Int) := of_decide_eq_true (by first | (with_reducible assumption) | assumption)
       obtain ⟨ad237, e237, hx237_0, hx237_1, hx237_2⟩ := at_T42 HR0.out x5_1 p237 q237
       obtain rfl : ad236 = ad237 := (by injection e237)
       replace hx237_0 := hb_ HB hx237_0
       replace hx237_1 := hb_ HB hx237_1
       replace hx237_2 := hb_ HB hx237_2
       replace p237 := eq_true p237
       replace q237 := eq_true q237
       go_wp2
       go_ret
       exact ⟨er_, bb_⟩
     ·rw [if_neg c5] at H
      have c5b0 : (((rd_T42 l0 x5_1).f0) == x1_1) = false := beq_eq_false_iff_ne.mpr c5
      have c5b1 : (((rd_T42 l0 x5_1).f0) != x1_1) = true := bne_iff_ne.mpr c5
      obtain rfl := Option.some.inj H
      have p236 : 0 ≤ (x5_1 : Int) := of_decide_eq_true (by first | (with_reducible assumption) | assumption)
      have q236 : x5_1 < (l0.length : Int) := of_decide_eq_true (by first | (with_reducible assumption) | assumption)
      obtain ⟨ad236, e236, hx236_0, hx236_1, hx236_2⟩ := at_T42 HR0.out x5_1 p236 q236
      cases e236
      replace hx236_0 := hb_ HB hx236_0
      replace hx236_1 := hb_ HB hx236_1
      replace hx236_2 := hb_ HB hx236_2
      replace p236 := eq_true p236
      replace q236 := eq_true q236
      go_wp2
      go_ret
      exact ⟨er_, bb_⟩
    ·rw [if_neg c4] at H
     exact absurd H (by simp)
   ·rw [if_neg c3] at H
    have c3b0 : decide (x5_1 < (l0.length : Int)) = false := decide_eq_false c3
    clear c3
    obtain rfl := Option.some.inj H
    go_wp2
    go_ret
    exact ⟨er_, bb_⟩

/-! ### laws_heldCountedS: function 30 -/
def laws_heldCountedS.l0 : Nat → List (S46) → Int → Int → Option (Int)
 | 0, _, _, _ => none
 | k + 1, x0, x1, x5 => if x5 < (x0.length : Int) then (if 0 ≤ x5 then ((laws_heldValueS.f k ((rd_T46 x0 x5).f0) x1).bind fun t241 => (if t241 < 0 then (some (-1)) else (if ((rd_T46 x0 x5).f1) = t241 then (laws_heldCountedS.l0 k x0 (wrap64 (t241 + 1)) (wrap64 (x5 + 1))) else (some (-1))))) else (none)) else (some x1)
def laws_heldCountedS.f (k : Nat) (l0 : List (S46)) (a1 : Int) : Option (Int) := laws_heldCountedS.l0 k l0 a1 0
set_option maxHeartbeats 8000000 in
set_option maxRecDepth 100000 in
theorem laws_heldCountedS.calls (k : Nat) (A0 : Option Addr) (c0 : Nat) (l0 : List (S46)) (a1 : Int) (r : Int) (w : World) (hr0 : Kd.C k46 w A0 l0.length l0) (hc0 : l0.length ≤ c0) (h : laws_heldCountedS.f k l0 a1 = some r) :
  Calls Try.prog 30 #[.slice A0 l0.length c0, .int .i64 a1] w fun e w' => e = .returned (.int .i64 r) ∧ Below w.heap.size w w' := by
 have HR0 := Aside0.mk hr0
 have HC0 := Aside0.mk hc0
 clear hr0 hc0
 have HB := Aside0.mk (Below.refl w.heap.size w)
 have H : (laws_heldCountedS.l0 k l0 a1 0) = some r := h
 clear h
 have H' := Aside0.mk H
 clear H
 go_enter Try.func30, Try.ntmps30
 go_wp2
 go_loopg [1, 5] k (fun kq v1 v5 w' => ∃ (x1_1 : Int) (x5_1 : Int), v1 = .int .i64 x1_1 ∧ v5 = .int .i64 x5_1 ∧ Aside0 (laws_heldCountedS.l0 kq l0 x1_1 x5_1 = some r) ∧ Aside0 (kq ≤ k) ∧ Aside0 (Below w.heap.size w w'))
 case atStart => exact ⟨(a1), (0), rs_, rs_, H', ⟨Nat.le_refl _⟩, ⟨bb_⟩⟩
 case round =>
  clear H'
  try clear p2
  obtain ⟨x1_1, x5_1, rfl, rfl, HA, HK1, HB⟩ := hrel
  cases gk with
  | zero => exact absurd HA.out (by simp [laws_heldCountedS.l0])
  | succ k1 =>
   have H := HA.out
   clear HA
   simp only [laws_heldCountedS.l0] at H
   by_cases c3 : x5_1 < (l0.length : Int)
   ·rw [if_pos c3] at H
    have c3b0 : decide (x5_1 < (l0.length : Int)) = true := decide_eq_true c3
    clear c3
    by_cases c4 : 0 ≤ x5_1
    ·rw [if_pos c4] at H
     have c4b0 : decide (0 ≤ x5_1) = true := decide_eq_true c4
     clear c4
     replace H := Option.bind_eq_some_iff.mp H
     obtain ⟨t241, A50, H⟩ := H
     replace H : (if t241 < 0 then (some (-1)) else (if ((rd_T46 l0 x5_1).f1) = t241 then (laws_heldCountedS.l0 k1 l0 (wrap64 (t241 + 1)) (wrap64 (x5_1 + 1))) else (some (-1)))) = some r := H
     have A5 := Aside0.mk A50
     clear A50
     by_cases c6 : t241 < 0
     ·rw [if_pos c6] at H
      have c6b0 : decide (t241 < 0) = true := decide_eq_true c6
      clear c6
      obtain rfl := Option.some.inj H
      have p240 : 0 ≤ (x5_1 : Int) := of_decide_eq_true (by first | (with_reducible assumption) | assumption)
      have q240 : x5_1 < (l0.length : Int) := of_decide_eq_true (by first | (with_reducible assumption) | assumption)
      obtain ⟨ad240, A240_0, c240_0, e240, hx240_0, hx240_1, hl240_0, hi240_0⟩ := at_T46 HR0.out x5_1 p240 q240
      cases e240
      replace hx240_0 := hb_ HB hx240_0
      replace hx240_1 := hb_ HB hx240_1
      have HR240_0 := Aside0.mk hi240_0
      have HC240_0 := Aside0.mk hl240_0
      clear hi240_0 hl240_0
      replace p240 := eq_true p240
      replace q240 := eq_true q240
      go_wp2_with (first | ((with_reducible refine gate_callee (f := 46) rfl ?_); refine gsL_ (some 18) Try.func46 #[.slice A240_0 ((rd_T46 l0 x5_1).f0).length c240_0, .int .i64 x1_1] ?_; (with_reducible refine (laws_heldValueS.calls k1 _ _ ((rd_T46 l0 x5_1).f0) x1_1 t241 _ ?side1 ?side2 A5.out).mono ?_); (case side1 => exact ck_ (Kd.C_below HR240_0.out HB.out)); (case side2 => exact HC240_0.out); rintro e w7 ⟨rfl, hb⟩; refine ⟨_, rfl, ?_⟩; replace HB := bs_ hb; (try clear hb); (try clear hb2); (try clear hk); (try clear hi)))
      go_ret
      exact ⟨er_, bb_⟩
     ·rw [if_neg c6] at H
      have c6b0 : decide (t241 < 0) = false := decide_eq_false c6
      clear c6
      by_cases c8 : ((rd_T46 l0 x5_1).f1) = t241
      ·rw [if_pos c8] at H
       have c8b0 : (((rd_T46 l0 x5_1).f1) == t241) = true := beq_iff_eq.mpr c8
       have c8b1 : (((rd_T46 l0 x5_1).f1) != t241) = false := bne_eq_false_iff_eq.mpr c8
       clear c8
       have H' := Aside0.mk H
       clear H
       have p240 : 0 ≤ (x5_1 : Int) := of_decide_eq_true (by first | (with_reducible assumption) | assumption)
       have q240 : x5_1 < (l0.length : Int) := of_decide_eq_true (by first | (with_reducible assumption) | assumption)
       obtain ⟨ad240, A240_0, c240_0, e240, hx240_0, hx240_1, hl240_0, hi240_0⟩ := at_T46 HR0.out x5_1 p240 q240
       cases e240
       replace hx240_0 := hb_ HB hx240_0
       replace hx240_1 := hb_ HB hx240_1
       have HR240_0 := Aside0.mk hi240_0
       have HC240_0 := Aside0.mk hl240_0
       clear hi240_0 hl240_0
       replace p240 := eq_true p240
       replace q240 := eq_true q240
       go_wp2_with (first | ((with_reducible refine gate_callee (f := 46) rfl ?_); refine gsL_ (some 18) Try.func46 #[.slice A240_0 ((rd_T46 l0 x5_1).f0).length c240_0, .int .i64 x1_1] ?_; (with_reducible refine (laws_heldValueS.calls k1 _ _ ((rd_T46 l0 x5_1).f0) x1_1 t241 _ ?side1 ?side2 A5.out).mono ?_); (case side1 => exact ck_ (Kd.C_below HR240_0.out HB.out)); (case side2 => exact HC240_0.out); rintro e w9 ⟨rfl, hb⟩; refine ⟨_, rfl, ?_⟩; replace HB := bs_ hb; (try clear hb); (try clear hb2); (try clear hk); (try clear hi); have p242 : 0 ≤ (x5_1 : Int) := of_decide_eq_true (by first | (with_reducible assumption) | assumption); have q242 : x5_1 < (l0.length : Int) := of_decide_eq_true (by first | (with_reducible assumption) | assumption); obtain ⟨ad242, A242_0, c242_0, e242, hx242_0, hx242_1, hl242_0, hi242_0⟩ := at_T46 HR0.out x5_1 p242 q242; obtain rfl : ad240 = ad242 := (by injection e242); replace hx242_0 := hb_ HB hx242_0; replace hx242_1 := hb_ HB hx242_1; have HR242_0 := Aside0.mk hi242_0; have HC242_0 := Aside0.mk hl242_0; clear hi242_0 hl242_0; replace p242 := eq_true p242; replace q242 := eq_true q242))
       go_roundg k1
       case measure => have := HK1.out; omega
       case rel => exact ⟨(wrap64 (t241 + 1)), (wrap64 (x5_1 + 1)), rs_, rs_, H', ⟨by have := HK1.out; omega⟩, ⟨bb_⟩⟩
      ·rw [if_neg c8] at H
       have c8b0 : (((rd_T46 l0 x5_1).f1) == t241) = false := beq_eq_false_iff_ne.mpr c8
       have c8b1 : (((rd_T46 l0 x5_1).f1) != t241) = true := bne_iff_ne.mpr c8
       obtain rfl := Option.some.inj H
       have p240 : 0 ≤ (x5_1 : Int) := of_decide_eq_true (by first | (with_reducible assumption) | assumption)
       have q240 : x5_1 < (l0.length : Int) := of_decide_eq_true (by first | (with_reducible assumption) | assumption)
       obtain ⟨ad240, A240_0, c240_0, e240, hx240_0, hx240_1, hl240_0, hi240_0⟩ := at_T46 HR0.out x5_1 p240 q240
       cases e240
       replace hx240_0 := hb_ HB hx240_0
       replace hx240_1 := hb_ HB hx240_1
       have HR240_0 := Aside0.mk hi240_0
       have HC240_0 := Aside0.mk hl240_0
       clear hi240_0 hl240_0
       replace p240 := eq_true p240
       replace q240 := eq_true q240
       go_wp2_with (first | ((with_reducible refine gate_callee (f := 46) rfl ?_); refine gsL_ (some 18) Try.func46 #[.slice A240_0 ((rd_T46 l0 x5_1).f0).length c240_0, .int .i64 x1_1] ?_; (with_reducible refine (laws_heldValueS.calls k1 _ _ ((rd_T46 l0 x5_1).f0) x1_1 t241 _ ?side1 ?side2 A5.out).mono ?_); (case side1 => exact ck_ (Kd.C_below HR240_0.out HB.out)); (case side2 => exact HC240_0.out); rintro e w10 ⟨rfl, hb⟩; refine ⟨_, rfl, ?_⟩; replace HB := bs_ hb; (try clear hb); (try clear hb2); (try clear hk); (try clear hi); have p242 : 0 ≤ (x5_1 : Int) := of_decide_eq_true (by first | (with_reducible assumption) | assumption); have q242 : x5_1 < (l0.length : Int) := of_decide_eq_true (by first | (with_reducible assumption) | assumption); obtain ⟨ad242, A242_0, c242_0, e242, hx242_0, hx242_1, hl242_0, hi242_0⟩ := at_T46 HR0.out x5_1 p242 q242; obtain rfl : ad240 = ad242 := (by injection e242); replace hx242_0 := hb_ HB hx242_0; replace hx242_1 := hb_ HB hx242_1; have HR242_0 := Aside0.mk hi242_0; have HC242_0 := Aside0.mk hl242_0; clear hi242_0 hl242_0; replace p242 := eq_true p242; replace q242 := eq_true q242))
       go_ret
       exact ⟨er_, bb_⟩
    ·rw [if_neg c4] at H
     exact absurd H (by simp)
   ·rw [if_neg c3] at H
    have c3b0 : decide (x5_1 < (l0.length : Int)) = false := decide_eq_false c3
    clear c3
    obtain rfl := Option.some.inj H
    go_wp2
    go_ret
    exact ⟨er_, bb_⟩

/-! ### laws_heldBag: function 13 -/
def laws_heldBag.f (k : Nat) (a0_0 : Int) (l0_1 : List (S46)) (a1 : Int) : Option (Int) := (laws_heldCountedS.f k l0_1 a1).bind fun t244 => (if t244 < 0 then (some (-1)) else (some t244))
set_option maxHeartbeats 8000000 in
set_option maxRecDepth 100000 in
theorem laws_heldBag.calls (k : Nat) (a0_0 : Int) (A0_1 : Option Addr) (c0_1 : Nat) (l0_1 : List (S46)) (a1 : Int) (r : Int) (w : World) (hr0_1 : Kd.C k46 w A0_1 l0_1.length l0_1) (hc0_1 : l0_1.length ≤ c0_1) (h : laws_heldBag.f k a0_0 l0_1 a1 = some r) :
  Calls Try.prog 13 #[.agg #[.int .i64 a0_0, .slice A0_1 l0_1.length c0_1], .int .i64 a1] w fun e w' => e = .returned (.int .i64 r) ∧ Below w.heap.size w w' := by
 have hu29 := Try.underlying29
 have HR0_1 := Aside0.mk hr0_1
 have HC0_1 := Aside0.mk hc0_1
 clear hr0_1 hc0_1
 have HB := Aside0.mk (Below.refl w.heap.size w)
 have H : ((laws_heldCountedS.f k l0_1 a1).bind fun t244 => (if t244 < 0 then (some (-1)) else (some t244))) = some r := h
 clear h
 replace H := Option.bind_eq_some_iff.mp H
 obtain ⟨t244, A30, H⟩ := H
 replace H : (if t244 < 0 then (some (-1)) else (some t244)) = some r := H
 have A3 := Aside0.mk A30
 clear A30
 by_cases c4 : t244 < 0
 ·rw [if_pos c4] at H
  have c4b0 : decide (t244 < 0) = true := decide_eq_true c4
  clear c4
  obtain rfl := Option.some.inj H
  go_enter Try.func13, Try.ntmps13
  go_wp2_with (first | ((with_reducible refine gate_dst (N := 2) rfl ?_); refine bx_ 2 #[.int .i64 a0_0, .slice A0_1 l0_1.length c0_1] 29 ?_; intro gb243 hg w5 hbox hb; have BK243 := Aside0.mk (hbox); have GW243 := gw_ hg; have GE243 := gw_ hg; replace HB := bs_ hb; clear hb hbox hg; obtain ⟨hcz6_0, hcz6_1, hfz6_0, hfz6_1⟩ := b2_ BK243) | ((with_reducible refine gate_callee (f := 30) rfl ?_); refine gsL_ (some 8) Try.func30 #[.slice A0_1 l0_1.length c0_1, .int .i64 a1] ?_; (with_reducible refine (laws_heldCountedS.calls k _ _ l0_1 a1 t244 _ ?side1 ?side2 A3.out).mono ?_); (case side1 => exact ck_ (Kd.C_below HR0_1.out HB.out)); (case side2 => exact HC0_1.out); rintro e w7 ⟨rfl, hb⟩; refine ⟨_, rfl, ?_⟩; replace BK243 := bkb_ BK243 hb; replace HB := bs_ hb; (try clear hb); (try clear hb2); (try clear hk); (try clear hi)))
  go_ret
  exact ⟨er_, bb_⟩
 ·rw [if_neg c4] at H
  have c4b0 : decide (t244 < 0) = false := decide_eq_false c4
  clear c4
  obtain rfl := Option.some.inj H
  go_enter Try.func13, Try.ntmps13
  go_wp2_with (first | ((with_reducible refine gate_dst (N := 2) rfl ?_); refine bx_ 2 #[.int .i64 a0_0, .slice A0_1 l0_1.length c0_1] 29 ?_; intro gb243 hg w8 hbox hb; have BK243 := Aside0.mk (hbox); have GW243 := gw_ hg; have GE243 := gw_ hg; replace HB := bs_ hb; clear hb hbox hg; obtain ⟨hcz9_0, hcz9_1, hfz9_0, hfz9_1⟩ := b2_ BK243) | ((with_reducible refine gate_callee (f := 30) rfl ?_); refine gsL_ (some 8) Try.func30 #[.slice A0_1 l0_1.length c0_1, .int .i64 a1] ?_; (with_reducible refine (laws_heldCountedS.calls k _ _ l0_1 a1 t244 _ ?side1 ?side2 A3.out).mono ?_); (case side1 => exact ck_ (Kd.C_below HR0_1.out HB.out)); (case side2 => exact HC0_1.out); rintro e w10 ⟨rfl, hb⟩; refine ⟨_, rfl, ?_⟩; replace BK243 := bkb_ BK243 hb; replace HB := bs_ hb; (try clear hb); (try clear hb2); (try clear hk); (try clear hi)))
  go_ret
  exact ⟨er_, bb_⟩

end Go.Proofs.Ytnibegacjmnhoaa.PFnExactGetBag
