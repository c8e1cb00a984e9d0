-- WRITTEN BY xprint.py, a program of this session over the kit's printer: by nobody's hand
-- PRESSED
import Derived.Test.YtapgfamppnhnmaaPress
import Derived.Test.YtapgfamppnhnmaaPFnExactChangeOkx0
import Derived.Test.YtapgfamppnhnmaaPFnExactChangeOkx4
namespace Go.Proofs.Ytapgfamppnhnmaa.PFnExactChangeOk
open Go.RowKit Go.Proofs.YtapgfamppnhnmaaW.PrintWords Go.Proofs.YtapgfamppnhnmaaW.PrintLast Go.Proofs.YtapgfamppnhnmaaW.PrintMore
attribute [local go_sem] max2_int min2_int max_two min_two max_three min_three max_four min_four   -- for this text's walks alone
set_option linter.unusedVariables false
set_option linter.unusedSimpArgs false
attribute [local go_sem] leq_str geq_str

/-! ### spec_DbOk: function 54 -/
def spec_DbOk.l0 : Nat → List (S91) → Int → Option (Bool)
 | 0, _, _ => none
 | k + 1, x0, x3 => if x3 < (x0.length : Int) then (if 0 ≤ x3 then ((spec_NameOk.f k ((rd_T91 x0 x3).f0)).bind fun t136 => (if t136 = true then ((spec_Plain.f k ((rd_T91 x0 x3).f1.f0) ((rd_T91 x0 x3).f1.f1)).bind fun t138 => (if t138 = true then (if x3 > 0 then (if 0 ≤ (wrap64 (x3 - 1)) then (if (wrap64 (x3 - 1)) < (x0.length : Int) then (if ((Op.bytesLess (((rd_T91 x0 (wrap64 (x3 - 1))).f0).toList) (((rd_T91 x0 x3).f0).toList)) = true) then (spec_DbOk.l0 k x0 (wrap64 (x3 + 1))) else (some false)) else (none)) else (none)) else (spec_DbOk.l0 k x0 (wrap64 (x3 + 1)))) else (some false))) else (some false))) else (none)) else (some (decide ((x0.length : Int) ≤ 20)))
def spec_DbOk.f (k : Nat) (l0 : List (S91)) : Option (Bool) := spec_DbOk.l0 k l0 0
def spec_DbOk.T4 : Bool × List (List Nat × List Nat) := (true, [([], []), ([], []), ([0, 1], [0, 1]), ([2], [2]), ([3], [3]), ([4], [4]), ([5], [5]), ([6, 5], [6]), ([7], [7]), ([7], [7]), ([8, 9, 7], [7, 8, 9]), ([10, 7], [7, 10]), ([11, 7], [7, 11]), ([12, 7, 7], [7, 12]), ([13, 7], [7, 13]), ([7, 14], [7, 14]), ([15, 13], [15]), ([16], [16]), ([17, 16], [16, 17]), ([18, 16, 16], [16, 18]), ([19], [19]), ([19], [19]), ([20, 21, 19], [19, 20, 21]), ([22, 19], [19, 22]), ([23, 19], [19, 23]), ([19], [19]), ([19], [19]), ([26, 19], [19, 26]), ([25, 27, 19], [19, 25, 27]), ([28, 19], [19, 28]), ([29, 19], [19, 29]), ([24, 30, 19], [19, 24, 30]), ([19, 31, 16], [16, 19, 31]), ([16, 32], [16, 32])])
def spec_DbOk.B4 : List Nat := [0, 0, 3, 7, 15, 31, 63, 127, 255, 255, 1023, 2047, 4095, 8191, 16383, 32767, 65535, 131071, 262143, 524287, 1048575, 1048575, 4194303, 8388607, 16777215, 1048575, 1048575, 68157439, 235929599, 504365055, 1041235967, 2147483647, 4294967295, 8589934591]
theorem spec_DbOk.tab4 : rtab .any (opsOf Try.f54 4) = spec_DbOk.T4 := by kernel_rfl
theorem spec_DbOk.bits4 : waitsOk spec_DbOk.T4.2 spec_DbOk.B4 = true := by kernel_rfl
set_option maxHeartbeats 8000000 in
set_option maxRecDepth 100000 in
theorem spec_DbOk.calls (k : Nat) (A0 : Option Addr) (c0 : Nat) (l0 : List (S91)) (r : Bool) (w : World) (hr0 : Kd.C k91 w A0 l0.length l0) (hc0 : l0.length ≤ c0) (h : spec_DbOk.f k l0 = some r) :
  Calls Try.prog 54 #[.slice A0 l0.length c0] w fun e w' => e = .returned (.bool r) ∧ Below w.heap.size w w' := by
 have hu40 := Try.underlying40
 have HR0 := Aside0.mk hr0
 have HC0 := Aside0.mk hc0
 clear hr0 hc0
 have HB := Aside0.mk (Below.refl w.heap.size w)
 have H : (spec_DbOk.l0 k l0 0) = some r := h
 clear h
 have H' := Aside0.mk H
 clear H
 go_enter Try.func54, Try.ntmps54
 go_wp2
 go_loopg [3] k (fun kq v3 w' => ∃ (x3_1 : Int), v3 = .int .i64 x3_1 ∧ Aside0 (spec_DbOk.l0 kq l0 x3_1 = some r) ∧ Aside0 (kq ≤ k) ∧ Aside0 (Below w.heap.size w w'))
 case atStart => exact ⟨(0), rs_, H', ⟨Nat.le_refl _⟩, ⟨bb_⟩⟩
 case round =>
  clear H'
  obtain ⟨x3_1, rfl, HA, HK1, HB⟩ := hrel
  cases gk with
  | zero => exact absurd HA.out (by simp [spec_DbOk.l0])
  | succ k1 =>
   have H := HA.out
   clear HA
   simp only [spec_DbOk.l0] at H
   by_cases c2 : x3_1 < (l0.length : Int)
   ·rw [if_pos c2] at H
    have c2b0 : decide (x3_1 < (l0.length : Int)) = true := decide_eq_true c2
    clear c2
    by_cases c3 : 0 ≤ x3_1
    ·rw [if_pos c3] at H
     have c3b0 : decide (0 ≤ x3_1) = true := decide_eq_true c3
     clear c3
     replace H := Option.bind_eq_some_iff.mp H
     obtain ⟨t136, A40, H⟩ := H
     replace H : (if t136 = true then ((spec_Plain.f k1 ((rd_T91 l0 x3_1).f1.f0) ((rd_T91 l0 x3_1).f1.f1)).bind fun t138 => (if t138 = true then (if x3_1 > 0 then (if 0 ≤ (wrap64 (x3_1 - 1)) then (if (wrap64 (x3_1 - 1)) < (l0.length : Int) then (if ((Op.bytesLess (((rd_T91 l0 (wrap64 (x3_1 - 1))).f0).toList) (((rd_T91 l0 x3_1).f0).toList)) = true) then (spec_DbOk.l0 k1 l0 (wrap64 (x3_1 + 1))) else (some false)) else (none)) else (none)) else (spec_DbOk.l0 k1 l0 (wrap64 (x3_1 + 1)))) else (some false))) else (some false)) = some r := H
     have A4 := Aside0.mk A40
     clear A40
     by_cases c5 : t136 = true
     ·subst c5
      have H1 : ((spec_Plain.f k1 ((rd_T91 l0 x3_1).f1.f0) ((rd_T91 l0 x3_1).f1.f1)).bind fun t138 => (if t138 = true then (if x3_1 > 0 then (if 0 ≤ (wrap64 (x3_1 - 1)) then (if (wrap64 (x3_1 - 1)) < (l0.length : Int) then (if ((Op.bytesLess (((rd_T91 l0 (wrap64 (x3_1 - 1))).f0).toList) (((rd_T91 l0 x3_1).f0).toList)) = true) then (spec_DbOk.l0 k1 l0 (wrap64 (x3_1 + 1))) else (some false)) else (none)) else (none)) else (spec_DbOk.l0 k1 l0 (wrap64 (x3_1 + 1)))) else (some false))) = some r := by rw [if_pos rfl] at H; exact H
      clear H
      have H := H1
      clear H1
      replace H := Option.bind_eq_some_iff.mp H
      obtain ⟨t138, A60, H⟩ := H
      replace H : (if t138 = true then (if x3_1 > 0 then (if 0 ≤ (wrap64 (x3_1 - 1)) then (if (wrap64 (x3_1 - 1)) < (l0.length : Int) then (if ((Op.bytesLess (((rd_T91 l0 (wrap64 (x3_1 - 1))).f0).toList) (((rd_T91 l0 x3_1).f0).toList)) = true) then (spec_DbOk.l0 k1 l0 (wrap64 (x3_1 + 1))) else (some false)) else (none)) else (none)) else (spec_DbOk.l0 k1 l0 (wrap64 (x3_1 + 1)))) else (some false)) = some r := H
      have A6 := Aside0.mk A60
      clear A60
      by_cases c7 : t138 = true
      ·subst c7
       have H1 : (if x3_1 > 0 then (if 0 ≤ (wrap64 (x3_1 - 1)) then (if (wrap64 (x3_1 - 1)) < (l0.length : Int) then (if ((Op.bytesLess (((rd_T91 l0 (wrap64 (x3_1 - 1))).f0).toList) (((rd_T91 l0 x3_1).f0).toList)) = true) then (spec_DbOk.l0 k1 l0 (wrap64 (x3_1 + 1))) else (some false)) else (none)) else (none)) else (spec_DbOk.l0 k1 l0 (wrap64 (x3_1 + 1)))) = some r := by rw [if_pos rfl] at H; exact H
       clear H
       have H := H1
       clear H1
       by_cases c8 : x3_1 > 0
       ·rw [if_pos c8] at H
        have c8b0 : decide (0 < x3_1) = true := decide_eq_true c8
        clear c8
        obtain ⟨ji9, hji9⟩ : ∃ j_ : Int, (wrap64 (x3_1 - 1)) = j_ := ⟨_, rfl⟩
        replace H : (if 0 ≤ (ji9) then (if (ji9) < (l0.length : Int) then (if ((Op.bytesLess (((rd_T91 l0 (ji9)).f0).toList) (((rd_T91 l0 x3_1).f0).toList)) = true) then (spec_DbOk.l0 k1 l0 (wrap64 (x3_1 + 1))) else (some false)) else (none)) else (none)) = some r := by first | (rw [hji9] at H; exact H) | (simp only [hji9] at H ⊢; exact H)
        (try rw [hji9] at A4)
        (try rw [hji9] at A6)
        have hji9w : (IntKind.i64.wrap (x3_1 - 1)) = ji9 := (i64_w _).trans hji9
        by_cases c10 : 0 ≤ (ji9)
        ·rw [if_pos c10] at H
         have c10b0 : decide (0 ≤ (ji9)) = true := decide_eq_true c10
         clear c10
         by_cases c11 : (ji9) < (l0.length : Int)
         ·rw [if_pos c11] at H
          have c11b0 : decide ((ji9) < (l0.length : Int)) = true := decide_eq_true c11
          clear c11
          by_cases c12 : ((Op.bytesLess (((rd_T91 l0 (ji9)).f0).toList) (((rd_T91 l0 x3_1).f0).toList)) = true)
          ·rw [if_pos c12] at H
           have c12b0 : (Op.bytesLess (((rd_T91 l0 (ji9)).f0).toList) (((rd_T91 l0 x3_1).f0).toList)) = true := c12
           clear c12
           have H' := Aside0.mk H
           clear H
           try go_wp2
           replace HB := Aside0.mk (below_drew1 HB.out)
           have p135 : 0 ≤ (x3_1 : Int) := od_
           have q135 : x3_1 < (l0.length : Int) := od_
           obtain ⟨ad135, A135_2, c135_2, e135, hx135_0, hx135_1, hx135_2, hl135_2, hi135_2⟩ := at_T91 HR0.out x3_1 p135 q135
           have hw135_2 := hx135_2
           have hw135_1 := hx135_1
           have hw135_0 := hx135_0
           cases e135
           replace hx135_0 := hb_ HB hx135_0
           replace hx135_1 := hb_ HB hx135_1
           replace hx135_2 := hb_ HB hx135_2
           have HR135_2 := Aside0.mk hi135_2
           have HC135_2 := Aside0.mk hl135_2
           clear hi135_2 hl135_2
           replace p135 := eq_true p135
           replace q135 := eq_true q135
           have p137 : 0 ≤ (x3_1 : Int) := od_
           have q137 : x3_1 < (l0.length : Int) := od_
           obtain ⟨ad137, A137_2, c137_2, e137, hx137_0, hx137_1, hx137_2, hl137_2, hi137_2⟩ := at_T91 HR0.out x3_1 p137 q137
           have hw137_2 := hx137_2
           have hw137_1 := hx137_1
           have hw137_0 := hx137_0
           obtain rfl : ad135 = ad137 := (by injection e137)
           replace hx137_0 := hb_ HB hx137_0
           replace hx137_1 := hb_ HB hx137_1
           replace hx137_2 := hb_ HB hx137_2
           have HR137_2 := Aside0.mk hi137_2
           have HC137_2 := Aside0.mk hl137_2
           clear hi137_2 hl137_2
           replace p137 := eq_true p137
           replace q137 := eq_true q137
           have ea_ := Option.some.inj (hx135_2.symm.trans hx137_2)
           injection ea_ with ea_ en_ ec_
           subst ea_
           subst ec_
           clear en_
           have p139 : 0 ≤ (x3_1 : Int) := od_
           have q139 : x3_1 < (l0.length : Int) := od_
           obtain ⟨ad139, A139_2, c139_2, e139, hx139_0, hx139_1, hx139_2, hl139_2, hi139_2⟩ := at_T91 HR0.out x3_1 p139 q139
           have hw139_2 := hx139_2
           have hw139_1 := hx139_1
           have hw139_0 := hx139_0
           obtain rfl : ad135 = ad139 := (by injection e139)
           replace hx139_0 := hb_ HB hx139_0
           replace hx139_1 := hb_ HB hx139_1
           replace hx139_2 := hb_ HB hx139_2
           have HR139_2 := Aside0.mk hi139_2
           have HC139_2 := Aside0.mk hl139_2
           clear hi139_2 hl139_2
           replace p139 := eq_true p139
           replace q139 := eq_true q139
           have p140 : 0 ≤ ((ji9) : Int) := od_
           have q140 : (ji9) < (l0.length : Int) := od_
           obtain ⟨ad140, A140_2, c140_2, e140, hx140_0, hx140_1, hx140_2, hl140_2, hi140_2⟩ := at_T91 HR0.out (ji9) p140 q140
           have hw140_2 := hx140_2
           have hw140_1 := hx140_1
           have hw140_0 := hx140_0
           obtain rfl : ad135 = ad140 := (by injection e140)
           replace hx140_0 := hb_ HB hx140_0
           replace hx140_1 := hb_ HB hx140_1
           replace hx140_2 := hb_ HB hx140_2
           have HR140_2 := Aside0.mk hi140_2
           have HC140_2 := Aside0.mk hl140_2
           clear hi140_2 hl140_2
           replace p140 := eq_true p140
           replace q140 := eq_true q140
           refine start_ (n := 34) (S := fun w' => w'.cell? (ad135.add ((x3_1).toNat * 3)) = some (.string ((rd_T91 l0 x3_1).f0)) ∧ w'.cell? ⟨(ad135.add ((x3_1).toNat * 3)).block, (ad135.add ((x3_1).toNat * 3)).off + 1, none⟩ = some (.int .i64 ((rd_T91 l0 x3_1).f1.f0)) ∧ w'.cell? ⟨(ad135.add ((x3_1).toNat * 3)).block, (ad135.add ((x3_1).toNat * 3)).off + 2, none⟩ = some (.slice A135_2 ((rd_T91 l0 x3_1).f1.f1).length c135_2) ∧ w'.cell? (ad135.add ((x3_1).toNat * 3)) = some (.string ((rd_T91 l0 x3_1).f0)) ∧ w'.cell? ⟨(ad135.add ((x3_1).toNat * 3)).block, (ad135.add ((x3_1).toNat * 3)).off + 1, none⟩ = some (.int .i64 ((rd_T91 l0 x3_1).f1.f0)) ∧ w'.cell? ⟨(ad135.add ((x3_1).toNat * 3)).block, (ad135.add ((x3_1).toNat * 3)).off + 2, none⟩ = some (.slice A135_2 ((rd_T91 l0 x3_1).f1.f1).length c135_2) ∧ w'.cell? (ad135.add ((x3_1).toNat * 3)) = some (.string ((rd_T91 l0 x3_1).f0)) ∧ w'.cell? ⟨(ad135.add ((x3_1).toNat * 3)).block, (ad135.add ((x3_1).toNat * 3)).off + 1, none⟩ = some (.int .i64 ((rd_T91 l0 x3_1).f1.f0)) ∧ w'.cell? ⟨(ad135.add ((x3_1).toNat * 3)).block, (ad135.add ((x3_1).toNat * 3)).off + 2, none⟩ = some (.slice A139_2 ((rd_T91 l0 x3_1).f1.f1).length c139_2) ∧ w'.cell? (ad135.add (((ji9)).toNat * 3)) = some (.string ((rd_T91 l0 (ji9)).f0)) ∧ w'.cell? ⟨(ad135.add (((ji9)).toNat * 3)).block, (ad135.add (((ji9)).toNat * 3)).off + 1, none⟩ = some (.int .i64 ((rd_T91 l0 (ji9)).f1.f0)) ∧ w'.cell? ⟨(ad135.add (((ji9)).toNat * 3)).block, (ad135.add (((ji9)).toNat * 3)).off + 2, none⟩ = some (.slice A140_2 ((rd_T91 l0 (ji9)).f1.f1).length c140_2)) (ds := []) (tf 0 34) (by kernel_rfl) rfl rfl ⟨(hb_ HB hw135_0), (hb_ HB hw135_1), (hb_ HB hw135_2), (hb_ HB hw137_0), (hb_ HB hw137_1), (hb_ HB hw137_2), (hb_ HB hw139_0), (hb_ HB hw139_1), (hb_ HB hw139_2), (hb_ HB hw140_0), (hb_ HB hw140_1), (hb_ HB hw140_2)⟩ (fun hHeld => ?_); refine with_tabW spec_DbOk.tab4 spec_DbOk.bits4 (fun HT_ HW_ => ?_)
           generalize wr.drew = w13 at HB HR135_2 HR137_2 HR139_2 HR140_2 hx135_0 hx135_1 hx135_2 hx137_0 hx137_1 hx137_2 hx139_0 hx139_1 hx139_2 hx140_0 hx140_1 hx140_2 hHeld ⊢
           iterate 4 (refine pl_ ?_)
           refine tl_ ?_
           refine one_ (i := 5) (N := some 15) (tf 6 28) rfl rfl (one_of HT_.out (by kernel_rfl)) (by decide) (fun K hK => ?_)
           refine gs_ Try.func87 #[.string ((rd_T91 l0 x3_1).f0)] ?_
           with_reducible refine (spec_NameOk.calls k1 ((rd_T91 l0 x3_1).f0) true _ A4.out).mono ?_
           rintro e w' ⟨rfl, ⟨nd, rfl⟩⟩
           refine ⟨_, rfl, ?_⟩
           refine hK.out _ _ ⟨(have h_ := hb_ HB hw135_0; h_), (have h_ := hb_ HB hw135_1; h_), (have h_ := hb_ HB hw135_2; h_), (have h_ := hb_ HB hw137_0; h_), (have h_ := hb_ HB hw137_1; h_), (have h_ := hb_ HB hw137_2; h_), (have h_ := hb_ HB hw139_0; h_), (have h_ := hb_ HB hw139_1; h_), (have h_ := hb_ HB hw139_2; h_), (have h_ := hb_ HB hw140_0; h_), (have h_ := hb_ HB hw140_1; h_), (have h_ := hb_ HB hw140_2; h_)⟩ (fun hHeld => ?_)
           clear hK K
           refine nm_ ?_
           refine plx_ 6 (tf 7 27) ?_
           iterate 5 (refine pl_ ?_)
           refine tl_ ?_
           refine one_ (i := 13) (N := some 23) (tf 14 20) rfl rfl (one_of HT_.out (by kernel_rfl)) (by decide) (fun K hK => ?_)
           refine gs_ Try.func57 #[.agg #[.int .i64 ((rd_T91 l0 x3_1).f1.f0), .slice A135_2 ((rd_T91 l0 x3_1).f1.f1).length c135_2]] ?_
           with_reducible refine (spec_Plain.calls k1 ((rd_T91 l0 x3_1).f1.f0) _ _ ((rd_T91 l0 x3_1).f1.f1) true _ ?side1 ?side2 A6.out).mono ?_
           (case side1 => exact ck_ (Kd.C_below HR137_2.out bb_))
           (case side2 => exact HC137_2.out)
           rintro e w14 ⟨rfl, hb⟩
           refine ⟨_, rfl, ?_⟩
           replace HB := bs_ hb
           (try clear hb)
           (try clear hb2)
           (try clear hk)
           (try clear hi)
           refine hK.out _ _ ⟨(have h_ := hb_ HB hw135_0; h_), (have h_ := hb_ HB hw135_1; h_), (have h_ := hb_ HB hw135_2; h_), (have h_ := hb_ HB hw137_0; h_), (have h_ := hb_ HB hw137_1; h_), (have h_ := hb_ HB hw137_2; h_), (have h_ := hb_ HB hw139_0; h_), (have h_ := hb_ HB hw139_1; h_), (have h_ := hb_ HB hw139_2; h_), (have h_ := hb_ HB hw140_0; h_), (have h_ := hb_ HB hw140_1; h_), (have h_ := hb_ HB hw140_2; h_)⟩ (fun hHeld => ?_)
           clear hK K
           refine nm_ ?_
           refine plx_ 14 (tf 15 19) ?_
           iterate 9 (refine pl_ ?_)
           refine plx_ 25 #[true, true, true, true, true, true, true, true, true, true, true, true, true, true, true, true, true, true, true, true, true, true, true, true, false, true, false, false, false, false, false, false, false, false] ?_
           refine plx_ 26 #[true, true, true, true, true, true, true, true, true, true, true, true, true, true, true, true, true, true, true, true, true, true, true, true, false, true, true, false, false, false, false, false, false, false] ?_
           refine plx_ 27 #[true, true, true, true, true, true, true, true, true, true, true, true, true, true, true, true, true, true, true, true, true, true, true, true, false, true, true, true, false, false, false, false, false, false] ?_
           refine plx_ 28 #[true, true, true, true, true, true, true, true, true, true, true, true, true, true, true, true, true, true, true, true, true, true, true, true, false, true, true, true, true, false, false, false, false, false] ?_
           refine plx_ 29 #[true, true, true, true, true, true, true, true, true, true, true, true, true, true, true, true, true, true, true, true, true, true, true, true, false, true, true, true, true, true, false, false, false, false] ?_
           refine tlx_ 24 (tf 30 4) ?_
           refine tl_ ?_
           iterate 3 (refine pl_ ?_)
           refine done_ (done_of HT_.out (by kernel_rfl)) ?_
           try go_wp2
           go_roundg k1
           case measure => have := HK1.out; omega
           case rel => exact ⟨(wrap64 (x3_1 + 1)), rs_, H', ⟨by have := HK1.out; omega⟩, ⟨bb_⟩⟩
          ·rw [if_neg c12] at H
           have c12b0 : (Op.bytesLess (((rd_T91 l0 (ji9)).f0).toList) (((rd_T91 l0 x3_1).f0).toList)) = false := by simpa using c12
           clear c12
           obtain rfl := Option.some.inj H
           try go_wp2
           replace HB := Aside0.mk (below_drew1 HB.out)
           have p135 : 0 ≤ (x3_1 : Int) := od_
           have q135 : x3_1 < (l0.length : Int) := od_
           obtain ⟨ad135, A135_2, c135_2, e135, hx135_0, hx135_1, hx135_2, hl135_2, hi135_2⟩ := at_T91 HR0.out x3_1 p135 q135
           have hw135_2 := hx135_2
           have hw135_1 := hx135_1
           have hw135_0 := hx135_0
           cases e135
           replace hx135_0 := hb_ HB hx135_0
           replace hx135_1 := hb_ HB hx135_1
           replace hx135_2 := hb_ HB hx135_2
           have HR135_2 := Aside0.mk hi135_2
           have HC135_2 := Aside0.mk hl135_2
           clear hi135_2 hl135_2
           replace p135 := eq_true p135
           replace q135 := eq_true q135
           have p137 : 0 ≤ (x3_1 : Int) := od_
           have q137 : x3_1 < (l0.length : Int) := od_
           obtain ⟨ad137, A137_2, c137_2, e137, hx137_0, hx137_1, hx137_2, hl137_2, hi137_2⟩ := at_T91 HR0.out x3_1 p137 q137
           have hw137_2 := hx137_2
           have hw137_1 := hx137_1
           have hw137_0 := hx137_0
           obtain rfl : ad135 = ad137 := (by injection e137)
           replace hx137_0 := hb_ HB hx137_0
           replace hx137_1 := hb_ HB hx137_1
           replace hx137_2 := hb_ HB hx137_2
           have HR137_2 := Aside0.mk hi137_2
           have HC137_2 := Aside0.mk hl137_2
           clear hi137_2 hl137_2
           replace p137 := eq_true p137
           replace q137 := eq_true q137
           have ea_ := Option.some.inj (hx135_2.symm.trans hx137_2)
           injection ea_ with ea_ en_ ec_
           subst ea_
           subst ec_
           clear en_
           have p139 : 0 ≤ (x3_1 : Int) := od_
           have q139 : x3_1 < (l0.length : Int) := od_
           obtain ⟨ad139, A139_2, c139_2, e139, hx139_0, hx139_1, hx139_2, hl139_2, hi139_2⟩ := at_T91 HR0.out x3_1 p139 q139
           have hw139_2 := hx139_2
           have hw139_1 := hx139_1
           have hw139_0 := hx139_0
           obtain rfl : ad135 = ad139 := (by injection e139)
           replace hx139_0 := hb_ HB hx139_0
           replace hx139_1 := hb_ HB hx139_1
           replace hx139_2 := hb_ HB hx139_2
           have HR139_2 := Aside0.mk hi139_2
           have HC139_2 := Aside0.mk hl139_2
           clear hi139_2 hl139_2
           replace p139 := eq_true p139
           replace q139 := eq_true q139
           have p140 : 0 ≤ ((ji9) : Int) := od_
           have q140 : (ji9) < (l0.length : Int) := od_
           obtain ⟨ad140, A140_2, c140_2, e140, hx140_0, hx140_1, hx140_2, hl140_2, hi140_2⟩ := at_T91 HR0.out (ji9) p140 q140
           have hw140_2 := hx140_2
           have hw140_1 := hx140_1
           have hw140_0 := hx140_0
           obtain rfl : ad135 = ad140 := (by injection e140)
           replace hx140_0 := hb_ HB hx140_0
           replace hx140_1 := hb_ HB hx140_1
           replace hx140_2 := hb_ HB hx140_2
           have HR140_2 := Aside0.mk hi140_2
           have HC140_2 := Aside0.mk hl140_2
           clear hi140_2 hl140_2
           replace p140 := eq_true p140
           replace q140 := eq_true q140
           refine start_ (n := 34) (S := fun w' => w'.cell? (ad135.add ((x3_1).toNat * 3)) = some (.string ((rd_T91 l0 x3_1).f0)) ∧ w'.cell? ⟨(ad135.add ((x3_1).toNat * 3)).block, (ad135.add ((x3_1).toNat * 3)).off + 1, none⟩ = some (.int .i64 ((rd_T91 l0 x3_1).f1.f0)) ∧ w'.cell? ⟨(ad135.add ((x3_1).toNat * 3)).block, (ad135.add ((x3_1).toNat * 3)).off + 2, none⟩ = some (.slice A135_2 ((rd_T91 l0 x3_1).f1.f1).length c135_2) ∧ w'.cell? (ad135.add ((x3_1).toNat * 3)) = some (.string ((rd_T91 l0 x3_1).f0)) ∧ w'.cell? ⟨(ad135.add ((x3_1).toNat * 3)).block, (ad135.add ((x3_1).toNat * 3)).off + 1, none⟩ = some (.int .i64 ((rd_T91 l0 x3_1).f1.f0)) ∧ w'.cell? ⟨(ad135.add ((x3_1).toNat * 3)).block, (ad135.add ((x3_1).toNat * 3)).off + 2, none⟩ = some (.slice A135_2 ((rd_T91 l0 x3_1).f1.f1).length c135_2) ∧ w'.cell? (ad135.add ((x3_1).toNat * 3)) = some (.string ((rd_T91 l0 x3_1).f0)) ∧ w'.cell? ⟨(ad135.add ((x3_1).toNat * 3)).block, (ad135.add ((x3_1).toNat * 3)).off + 1, none⟩ = some (.int .i64 ((rd_T91 l0 x3_1).f1.f0)) ∧ w'.cell? ⟨(ad135.add ((x3_1).toNat * 3)).block, (ad135.add ((x3_1).toNat * 3)).off + 2, none⟩ = some (.slice A139_2 ((rd_T91 l0 x3_1).f1.f1).length c139_2) ∧ w'.cell? (ad135.add (((ji9)).toNat * 3)) = some (.string ((rd_T91 l0 (ji9)).f0)) ∧ w'.cell? ⟨(ad135.add (((ji9)).toNat * 3)).block, (ad135.add (((ji9)).toNat * 3)).off + 1, none⟩ = some (.int .i64 ((rd_T91 l0 (ji9)).f1.f0)) ∧ w'.cell? ⟨(ad135.add (((ji9)).toNat * 3)).block, (ad135.add (((ji9)).toNat * 3)).off + 2, none⟩ = some (.slice A140_2 ((rd_T91 l0 (ji9)).f1.f1).length c140_2)) (ds := []) (tf 0 34) (by kernel_rfl) rfl rfl ⟨(hb_ HB hw135_0), (hb_ HB hw135_1), (hb_ HB hw135_2), (hb_ HB hw137_0), (hb_ HB hw137_1), (hb_ HB hw137_2), (hb_ HB hw139_0), (hb_ HB hw139_1), (hb_ HB hw139_2), (hb_ HB hw140_0), (hb_ HB hw140_1), (hb_ HB hw140_2)⟩ (fun hHeld => ?_); refine with_tabW spec_DbOk.tab4 spec_DbOk.bits4 (fun HT_ HW_ => ?_)
           generalize wr.drew = w15 at HB HR135_2 HR137_2 HR139_2 HR140_2 hx135_0 hx135_1 hx135_2 hx137_0 hx137_1 hx137_2 hx139_0 hx139_1 hx139_2 hx140_0 hx140_1 hx140_2 hHeld ⊢
           iterate 4 (refine pl_ ?_)
           refine tl_ ?_
           refine one_ (i := 5) (N := some 15) (tf 6 28) rfl rfl (one_of HT_.out (by kernel_rfl)) (by decide) (fun K hK => ?_)
           refine gs_ Try.func87 #[.string ((rd_T91 l0 x3_1).f0)] ?_
           with_reducible refine (spec_NameOk.calls k1 ((rd_T91 l0 x3_1).f0) true _ A4.out).mono ?_
           rintro e w' ⟨rfl, ⟨nd, rfl⟩⟩
           refine ⟨_, rfl, ?_⟩
           refine hK.out _ _ ⟨(have h_ := hb_ HB hw135_0; h_), (have h_ := hb_ HB hw135_1; h_), (have h_ := hb_ HB hw135_2; h_), (have h_ := hb_ HB hw137_0; h_), (have h_ := hb_ HB hw137_1; h_), (have h_ := hb_ HB hw137_2; h_), (have h_ := hb_ HB hw139_0; h_), (have h_ := hb_ HB hw139_1; h_), (have h_ := hb_ HB hw139_2; h_), (have h_ := hb_ HB hw140_0; h_), (have h_ := hb_ HB hw140_1; h_), (have h_ := hb_ HB hw140_2; h_)⟩ (fun hHeld => ?_)
           clear hK K
           refine nm_ ?_
           refine plx_ 6 (tf 7 27) ?_
           iterate 5 (refine pl_ ?_)
           refine tl_ ?_
           refine one_ (i := 13) (N := some 23) (tf 14 20) rfl rfl (one_of HT_.out (by kernel_rfl)) (by decide) (fun K hK => ?_)
           refine gs_ Try.func57 #[.agg #[.int .i64 ((rd_T91 l0 x3_1).f1.f0), .slice A135_2 ((rd_T91 l0 x3_1).f1.f1).length c135_2]] ?_
           with_reducible refine (spec_Plain.calls k1 ((rd_T91 l0 x3_1).f1.f0) _ _ ((rd_T91 l0 x3_1).f1.f1) true _ ?side1 ?side2 A6.out).mono ?_
           (case side1 => exact ck_ (Kd.C_below HR137_2.out bb_))
           (case side2 => exact HC137_2.out)
           rintro e w16 ⟨rfl, hb⟩
           refine ⟨_, rfl, ?_⟩
           replace HB := bs_ hb
           (try clear hb)
           (try clear hb2)
           (try clear hk)
           (try clear hi)
           refine hK.out _ _ ⟨(have h_ := hb_ HB hw135_0; h_), (have h_ := hb_ HB hw135_1; h_), (have h_ := hb_ HB hw135_2; h_), (have h_ := hb_ HB hw137_0; h_), (have h_ := hb_ HB hw137_1; h_), (have h_ := hb_ HB hw137_2; h_), (have h_ := hb_ HB hw139_0; h_), (have h_ := hb_ HB hw139_1; h_), (have h_ := hb_ HB hw139_2; h_), (have h_ := hb_ HB hw140_0; h_), (have h_ := hb_ HB hw140_1; h_), (have h_ := hb_ HB hw140_2; h_)⟩ (fun hHeld => ?_)
           clear hK K
           refine nm_ ?_
           refine plx_ 14 (tf 15 19) ?_
           iterate 9 (refine pl_ ?_)
           refine plx_ 25 #[true, true, true, true, true, true, true, true, true, true, true, true, true, true, true, true, true, true, true, true, true, true, true, true, false, true, false, false, false, false, false, false, false, false] ?_
           refine plx_ 26 #[true, true, true, true, true, true, true, true, true, true, true, true, true, true, true, true, true, true, true, true, true, true, true, true, false, true, true, false, false, false, false, false, false, false] ?_
           refine plx_ 27 #[true, true, true, true, true, true, true, true, true, true, true, true, true, true, true, true, true, true, true, true, true, true, true, true, false, true, true, true, false, false, false, false, false, false] ?_
           refine plx_ 28 #[true, true, true, true, true, true, true, true, true, true, true, true, true, true, true, true, true, true, true, true, true, true, true, true, false, true, true, true, true, false, false, false, false, false] ?_
           refine plx_ 29 #[true, true, true, true, true, true, true, true, true, true, true, true, true, true, true, true, true, true, true, true, true, true, true, true, false, true, true, true, true, true, false, false, false, false] ?_
           refine tlx_ 24 (tf 30 4) ?_
           refine tl_ ?_
           iterate 3 (refine pl_ ?_)
           refine done_ (done_of HT_.out (by kernel_rfl)) ?_
           try go_wp2
           go_ret
           exact ⟨by first | rfl | (simp [errW_none, errW_some] <;> rfl) | (simp only [← hji9]; first | rfl | (simp [errW_none, errW_some] <;> rfl)) | (simp [*, errW_none, errW_some] <;> rfl), by repeat (first | (with_reducible first | exact HB.out | apply below_alloc | apply pw_below_drewN | apply below_drew1) | exact HB.out)⟩
         ·rw [if_neg c11] at H
          exact absurd H (by simp)
        ·rw [if_neg c10] at H
         exact absurd H (by simp)
       ·rw [if_neg c8] at H
        have c8b0 : decide (0 < x3_1) = false := decide_eq_false c8
        clear c8
        have H' := Aside0.mk H
        clear H
        try go_wp2
        replace HB := Aside0.mk (below_drew1 HB.out)
        have p135 : 0 ≤ (x3_1 : Int) := od_
        have q135 : x3_1 < (l0.length : Int) := od_
        obtain ⟨ad135, A135_2, c135_2, e135, hx135_0, hx135_1, hx135_2, hl135_2, hi135_2⟩ := at_T91 HR0.out x3_1 p135 q135
        have hw135_2 := hx135_2
        have hw135_1 := hx135_1
        have hw135_0 := hx135_0
        cases e135
        replace hx135_0 := hb_ HB hx135_0
        replace hx135_1 := hb_ HB hx135_1
        replace hx135_2 := hb_ HB hx135_2
        have HR135_2 := Aside0.mk hi135_2
        have HC135_2 := Aside0.mk hl135_2
        clear hi135_2 hl135_2
        replace p135 := eq_true p135
        replace q135 := eq_true q135
        have p137 : 0 ≤ (x3_1 : Int) := od_
        have q137 : x3_1 < (l0.length : Int) := od_
        obtain ⟨ad137, A137_2, c137_2, e137, hx137_0, hx137_1, hx137_2, hl137_2, hi137_2⟩ := at_T91 HR0.out x3_1 p137 q137
        have hw137_2 := hx137_2
        have hw137_1 := hx137_1
        have hw137_0 := hx137_0
        obtain rfl : ad135 = ad137 := (by injection e137)
        replace hx137_0 := hb_ HB hx137_0
        replace hx137_1 := hb_ HB hx137_1
        replace hx137_2 := hb_ HB hx137_2
        have HR137_2 := Aside0.mk hi137_2
        have HC137_2 := Aside0.mk hl137_2
        clear hi137_2 hl137_2
        replace p137 := eq_true p137
        replace q137 := eq_true q137
        have ea_ := Option.some.inj (hx135_2.symm.trans hx137_2)
        injection ea_ with ea_ en_ ec_
        subst ea_
        subst ec_
        clear en_
        refine start_ (n := 34) (S := fun w' => w'.cell? (ad135.add ((x3_1).toNat * 3)) = some (.string ((rd_T91 l0 x3_1).f0)) ∧ w'.cell? ⟨(ad135.add ((x3_1).toNat * 3)).block, (ad135.add ((x3_1).toNat * 3)).off + 1, none⟩ = some (.int .i64 ((rd_T91 l0 x3_1).f1.f0)) ∧ w'.cell? ⟨(ad135.add ((x3_1).toNat * 3)).block, (ad135.add ((x3_1).toNat * 3)).off + 2, none⟩ = some (.slice A135_2 ((rd_T91 l0 x3_1).f1.f1).length c135_2) ∧ w'.cell? (ad135.add ((x3_1).toNat * 3)) = some (.string ((rd_T91 l0 x3_1).f0)) ∧ w'.cell? ⟨(ad135.add ((x3_1).toNat * 3)).block, (ad135.add ((x3_1).toNat * 3)).off + 1, none⟩ = some (.int .i64 ((rd_T91 l0 x3_1).f1.f0)) ∧ w'.cell? ⟨(ad135.add ((x3_1).toNat * 3)).block, (ad135.add ((x3_1).toNat * 3)).off + 2, none⟩ = some (.slice A135_2 ((rd_T91 l0 x3_1).f1.f1).length c135_2)) (ds := []) (tf 0 34) (by kernel_rfl) rfl rfl ⟨(hb_ HB hw135_0), (hb_ HB hw135_1), (hb_ HB hw135_2), (hb_ HB hw137_0), (hb_ HB hw137_1), (hb_ HB hw137_2)⟩ (fun hHeld => ?_); refine with_tabW spec_DbOk.tab4 spec_DbOk.bits4 (fun HT_ HW_ => ?_)
        generalize wr.drew = w17 at HB HR135_2 HR137_2 hx135_0 hx135_1 hx135_2 hx137_0 hx137_1 hx137_2 hHeld ⊢
        iterate 4 (refine pl_ ?_)
        refine tl_ ?_
        refine one_ (i := 5) (N := some 15) (tf 6 28) rfl rfl (one_of HT_.out (by kernel_rfl)) (by decide) (fun K hK => ?_)
        refine gs_ Try.func87 #[.string ((rd_T91 l0 x3_1).f0)] ?_
        with_reducible refine (spec_NameOk.calls k1 ((rd_T91 l0 x3_1).f0) true _ A4.out).mono ?_
        rintro e w' ⟨rfl, ⟨nd, rfl⟩⟩
        refine ⟨_, rfl, ?_⟩
        refine hK.out _ _ ⟨(have h_ := hb_ HB hw135_0; h_), (have h_ := hb_ HB hw135_1; h_), (have h_ := hb_ HB hw135_2; h_), (have h_ := hb_ HB hw137_0; h_), (have h_ := hb_ HB hw137_1; h_), (have h_ := hb_ HB hw137_2; h_)⟩ (fun hHeld => ?_)
        clear hK K
        refine nm_ ?_
        refine plx_ 6 (tf 7 27) ?_
        iterate 5 (refine pl_ ?_)
        refine tl_ ?_
        refine one_ (i := 13) (N := some 23) (tf 14 20) rfl rfl (one_of HT_.out (by kernel_rfl)) (by decide) (fun K hK => ?_)
        refine gs_ Try.func57 #[.agg #[.int .i64 ((rd_T91 l0 x3_1).f1.f0), .slice A135_2 ((rd_T91 l0 x3_1).f1.f1).length c135_2]] ?_
        with_reducible refine (spec_Plain.calls k1 ((rd_T91 l0 x3_1).f1.f0) _ _ ((rd_T91 l0 x3_1).f1.f1) true _ ?side1 ?side2 A6.out).mono ?_
        (case side1 => exact ck_ (Kd.C_below HR137_2.out bb_))
        (case side2 => exact HC137_2.out)
        rintro e w18 ⟨rfl, hb⟩
        refine ⟨_, rfl, ?_⟩
        replace HB := bs_ hb
        (try clear hb)
        (try clear hb2)
        (try clear hk)
        (try clear hi)
        refine hK.out _ _ ⟨(have h_ := hb_ HB hw135_0; h_), (have h_ := hb_ HB hw135_1; h_), (have h_ := hb_ HB hw135_2; h_), (have h_ := hb_ HB hw137_0; h_), (have h_ := hb_ HB hw137_1; h_), (have h_ := hb_ HB hw137_2; h_)⟩ (fun hHeld => ?_)
        clear hK K
        refine nm_ ?_
        refine plx_ 14 (tf 15 19) ?_
        iterate 5 (refine pl_ ?_)
        iterate 12 (refine pd_ ?_)
        iterate 2 (refine pl_ ?_)
        refine done_ (done_of HT_.out (by kernel_rfl)) ?_
        try go_wp2
        go_roundg k1
        case measure => have := HK1.out; omega
        case rel => exact ⟨(wrap64 (x3_1 + 1)), rs_, H', ⟨by have := HK1.out; omega⟩, ⟨bb_⟩⟩
      ·replace c7 := Bool.eq_false_iff.mpr c7
       subst c7
       have H1 : (some false) = some r := by rw [if_neg (show ¬ (false = true) by decide)] at H; exact H
       clear H
       have H := H1
       clear H1
       obtain rfl := Option.some.inj H
       try go_wp2
       replace HB := Aside0.mk (below_drew1 HB.out)
       have p135 : 0 ≤ (x3_1 : Int) := od_
       have q135 : x3_1 < (l0.length : Int) := od_
       obtain ⟨ad135, A135_2, c135_2, e135, hx135_0, hx135_1, hx135_2, hl135_2, hi135_2⟩ := at_T91 HR0.out x3_1 p135 q135
       have hw135_2 := hx135_2
       have hw135_1 := hx135_1
       have hw135_0 := hx135_0
       cases e135
       replace hx135_0 := hb_ HB hx135_0
       replace hx135_1 := hb_ HB hx135_1
       replace hx135_2 := hb_ HB hx135_2
       have HR135_2 := Aside0.mk hi135_2
       have HC135_2 := Aside0.mk hl135_2
       clear hi135_2 hl135_2
       replace p135 := eq_true p135
       replace q135 := eq_true q135
       have p137 : 0 ≤ (x3_1 : Int) := od_
       have q137 : x3_1 < (l0.length : Int) := od_
       obtain ⟨ad137, A137_2, c137_2, e137, hx137_0, hx137_1, hx137_2, hl137_2, hi137_2⟩ := at_T91 HR0.out x3_1 p137 q137
       have hw137_2 := hx137_2
       have hw137_1 := hx137_1
       have hw137_0 := hx137_0
       obtain rfl : ad135 = ad137 := (by injection e137)
       replace hx137_0 := hb_ HB hx137_0
       replace hx137_1 := hb_ HB hx137_1
       replace hx137_2 := hb_ HB hx137_2
       have HR137_2 := Aside0.mk hi137_2
       have HC137_2 := Aside0.mk hl137_2
       clear hi137_2 hl137_2
       replace p137 := eq_true p137
       replace q137 := eq_true q137
       have ea_ := Option.some.inj (hx135_2.symm.trans hx137_2)
       injection ea_ with ea_ en_ ec_
       subst ea_
       subst ec_
       clear en_
       refine start_ (n := 34) (S := fun w' => w'.cell? (ad135.add ((x3_1).toNat * 3)) = some (.string ((rd_T91 l0 x3_1).f0)) ∧ w'.cell? ⟨(ad135.add ((x3_1).toNat * 3)).block, (ad135.add ((x3_1).toNat * 3)).off + 1, none⟩ = some (.int .i64 ((rd_T91 l0 x3_1).f1.f0)) ∧ w'.cell? ⟨(ad135.add ((x3_1).toNat * 3)).block, (ad135.add ((x3_1).toNat * 3)).off + 2, none⟩ = some (.slice A135_2 ((rd_T91 l0 x3_1).f1.f1).length c135_2) ∧ w'.cell? (ad135.add ((x3_1).toNat * 3)) = some (.string ((rd_T91 l0 x3_1).f0)) ∧ w'.cell? ⟨(ad135.add ((x3_1).toNat * 3)).block, (ad135.add ((x3_1).toNat * 3)).off + 1, none⟩ = some (.int .i64 ((rd_T91 l0 x3_1).f1.f0)) ∧ w'.cell? ⟨(ad135.add ((x3_1).toNat * 3)).block, (ad135.add ((x3_1).toNat * 3)).off + 2, none⟩ = some (.slice A135_2 ((rd_T91 l0 x3_1).f1.f1).length c135_2)) (ds := []) (tf 0 34) (by kernel_rfl) rfl rfl ⟨(hb_ HB hw135_0), (hb_ HB hw135_1), (hb_ HB hw135_2), (hb_ HB hw137_0), (hb_ HB hw137_1), (hb_ HB hw137_2)⟩ (fun hHeld => ?_); refine with_tabW spec_DbOk.tab4 spec_DbOk.bits4 (fun HT_ HW_ => ?_)
       generalize wr.drew = w19 at HB HR135_2 HR137_2 hx135_0 hx135_1 hx135_2 hx137_0 hx137_1 hx137_2 hHeld ⊢
       iterate 4 (refine pl_ ?_)
       refine tl_ ?_
       refine one_ (i := 5) (N := some 15) (tf 6 28) rfl rfl (one_of HT_.out (by kernel_rfl)) (by decide) (fun K hK => ?_)
       refine gs_ Try.func87 #[.string ((rd_T91 l0 x3_1).f0)] ?_
       with_reducible refine (spec_NameOk.calls k1 ((rd_T91 l0 x3_1).f0) true _ A4.out).mono ?_
       rintro e w' ⟨rfl, ⟨nd, rfl⟩⟩
       refine ⟨_, rfl, ?_⟩
       refine hK.out _ _ ⟨(have h_ := hb_ HB hw135_0; h_), (have h_ := hb_ HB hw135_1; h_), (have h_ := hb_ HB hw135_2; h_), (have h_ := hb_ HB hw137_0; h_), (have h_ := hb_ HB hw137_1; h_), (have h_ := hb_ HB hw137_2; h_)⟩ (fun hHeld => ?_)
       clear hK K
       refine nm_ ?_
       refine plx_ 6 (tf 7 27) ?_
       iterate 5 (refine pl_ ?_)
       refine tl_ ?_
       refine one_ (i := 13) (N := some 23) (tf 14 20) rfl rfl (one_of HT_.out (by kernel_rfl)) (by decide) (fun K hK => ?_)
       refine gs_ Try.func57 #[.agg #[.int .i64 ((rd_T91 l0 x3_1).f1.f0), .slice A135_2 ((rd_T91 l0 x3_1).f1.f1).length c135_2]] ?_
       with_reducible refine (spec_Plain.calls k1 ((rd_T91 l0 x3_1).f1.f0) _ _ ((rd_T91 l0 x3_1).f1.f1) false _ ?side1 ?side2 A6.out).mono ?_
       (case side1 => exact ck_ (Kd.C_below HR137_2.out bb_))
       (case side2 => exact HC137_2.out)
       rintro e w20 ⟨rfl, hb⟩
       refine ⟨_, rfl, ?_⟩
       replace HB := bs_ hb
       (try clear hb)
       (try clear hb2)
       (try clear hk)
       (try clear hi)
       refine hK.out _ _ ⟨(have h_ := hb_ HB hw135_0; h_), (have h_ := hb_ HB hw135_1; h_), (have h_ := hb_ HB hw135_2; h_), (have h_ := hb_ HB hw137_0; h_), (have h_ := hb_ HB hw137_1; h_), (have h_ := hb_ HB hw137_2; h_)⟩ (fun hHeld => ?_)
       clear hK K
       refine nm_ ?_
       refine plx_ 14 (tf 15 19) ?_
       iterate 2 (refine pl_ ?_)
       iterate 16 (refine pd_ ?_)
       refine pl_ ?_
       refine done_ (done_of HT_.out (by kernel_rfl)) ?_
       try go_wp2
       go_ret
       exact ⟨er_, bb_⟩
     ·replace c5 := Bool.eq_false_iff.mpr c5
      subst c5
      have H1 : (some false) = some r := by rw [if_neg (show ¬ (false = true) by decide)] at H; exact H
      clear H
      have H := H1
      clear H1
      obtain rfl := Option.some.inj H
      try go_wp2
      replace HB := Aside0.mk (below_drew1 HB.out)
      have p135 : 0 ≤ (x3_1 : Int) := od_
      have q135 : x3_1 < (l0.length : Int) := od_
      obtain ⟨ad135, A135_2, c135_2, e135, hx135_0, hx135_1, hx135_2, hl135_2, hi135_2⟩ := at_T91 HR0.out x3_1 p135 q135
      have hw135_2 := hx135_2
      have hw135_1 := hx135_1
      have hw135_0 := hx135_0
      cases e135
      replace hx135_0 := hb_ HB hx135_0
      replace hx135_1 := hb_ HB hx135_1
      replace hx135_2 := hb_ HB hx135_2
      have HR135_2 := Aside0.mk hi135_2
      have HC135_2 := Aside0.mk hl135_2
      clear hi135_2 hl135_2
      replace p135 := eq_true p135
      replace q135 := eq_true q135
      refine start_ (n := 34) (S := fun w' => w'.cell? (ad135.add ((x3_1).toNat * 3)) = some (.string ((rd_T91 l0 x3_1).f0)) ∧ w'.cell? ⟨(ad135.add ((x3_1).toNat * 3)).block, (ad135.add ((x3_1).toNat * 3)).off + 1, none⟩ = some (.int .i64 ((rd_T91 l0 x3_1).f1.f0)) ∧ w'.cell? ⟨(ad135.add ((x3_1).toNat * 3)).block, (ad135.add ((x3_1).toNat * 3)).off + 2, none⟩ = some (.slice A135_2 ((rd_T91 l0 x3_1).f1.f1).length c135_2)) (ds := []) (tf 0 34) (by kernel_rfl) rfl rfl ⟨(hb_ HB hw135_0), (hb_ HB hw135_1), (hb_ HB hw135_2)⟩ (fun hHeld => ?_); refine with_tabW spec_DbOk.tab4 spec_DbOk.bits4 (fun HT_ HW_ => ?_)
      generalize wr.drew = w21 at HB HR135_2 hx135_0 hx135_1 hx135_2 hHeld ⊢
      iterate 4 (refine pl_ ?_)
      refine tl_ ?_
      refine one_ (i := 5) (N := some 15) (tf 6 28) rfl rfl (one_of HT_.out (by kernel_rfl)) (by decide) (fun K hK => ?_)
      refine gs_ Try.func87 #[.string ((rd_T91 l0 x3_1).f0)] ?_
      with_reducible refine (spec_NameOk.calls k1 ((rd_T91 l0 x3_1).f0) false _ A4.out).mono ?_
      rintro e w' ⟨rfl, ⟨nd, rfl⟩⟩
      refine ⟨_, rfl, ?_⟩
      refine hK.out _ _ ⟨(have h_ := hb_ HB hw135_0; h_), (have h_ := hb_ HB hw135_1; h_), (have h_ := hb_ HB hw135_2; h_)⟩ (fun hHeld => ?_)
      clear hK K
      refine nm_ ?_
      refine plx_ 6 (tf 7 27) ?_
      refine pl_ ?_
      iterate 7 (refine pd_ ?_)
      iterate 2 (refine pl_ ?_)
      iterate 16 (refine pd_ ?_)
      refine pl_ ?_
      refine done_ (done_of HT_.out (by kernel_rfl)) ?_
      try go_wp2
      go_ret
      exact ⟨er_, bb_⟩
    ·rw [if_neg c3] at H
     exact absurd H (by simp)
   ·rw [if_neg c2] at H
    have c2b0 : decide (x3_1 < (l0.length : Int)) = false := decide_eq_false c2
    clear c2
    obtain rfl := Option.some.inj H
    go_wp2
    go_ret
    exact ⟨er_, bb_⟩

end Go.Proofs.Ytapgfamppnhnmaa.PFnExactChangeOk
