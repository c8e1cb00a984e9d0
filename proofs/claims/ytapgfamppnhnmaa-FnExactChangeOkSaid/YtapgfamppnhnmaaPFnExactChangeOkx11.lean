-- WRITTEN BY xprint.py, a program of this session over the kit's printer: by nobody's hand
-- PRESSED
import Derived.Test.YtapgfamppnhnmaaPress
import Derived.Test.YtapgfamppnhnmaaPFnExactChangeOkx0
import Derived.Test.YtapgfamppnhnmaaPFnExactChangeOkx10
namespace Go.Proofs.Ytapgfamppnhnmaa.PFnExactChangeOk
set_option maxRecDepth 100000
open Go.RowKit Go.Proofs.YtapgfamppnhnmaaW.PrintWords Go.Proofs.YtapgfamppnhnmaaW.PrintLast Go.Proofs.YtapgfamppnhnmaaW.PrintMore
attribute [local go_sem] max2_int min2_int max_two min_two max_three min_three max_four min_four   -- for this text's walks alone
set_option linter.unusedVariables false
set_option linter.unusedSimpArgs false
attribute [local go_sem] leq_str geq_str

/-! ### impl_isRising: function 61 -/
def impl_isRising.l0 : Nat → List ByteArray → List ByteArray → Int → Int → Option (Bool)
 | 0, _, _, _, _ => none
 | k + 1, x0, x5, x6, x7 => if x7 < x6 then (if 0 ≤ x7 then (if x7 < (x5.length : Int) then ((impl_NameOk.f (rdOf ByteArray.empty x5 x7)).bind fun t252 => (if t252 = true then (if x7 > 0 then (if 0 ≤ (wrap64 (x7 - 1)) then (if (wrap64 (x7 - 1)) < (x0.length : Int) then (if ((Op.bytesLess ((rdOf ByteArray.empty x0 (wrap64 (x7 - 1))).toList) ((rdOf ByteArray.empty x5 x7).toList)) = true) then (impl_isRising.l0 k x0 x5 x6 (wrap64 (x7 + 1))) else (some false)) else (none)) else (none)) else (impl_isRising.l0 k x0 x5 x6 (wrap64 (x7 + 1)))) else (some false))) else (none)) else (none)) else (some true)
def impl_isRising.f (k : Nat) (l0 : List ByteArray) : Option (Bool) := impl_isRising.l0 k l0 l0 (l0.length : Int) 0
set_option maxHeartbeats 8000000 in
theorem impl_isRising.calls (k : Nat) (A0 : Option Addr) (c0 : Nat) (l0 : List ByteArray) (r : Bool) (w : World) (hr0 : Kd.C Kd.string w A0 l0.length l0) (hc0 : l0.length ≤ c0) (h : impl_isRising.f k l0 = some r) :
  Calls Try.prog 61 #[.slice A0 l0.length c0] w fun e w' => e = .returned (.bool r) ∧ Below w.heap.size w w' := by
 have HR0 := Aside0.mk hr0
 have HC0 := Aside0.mk hc0
 clear hr0 hc0
 have HB := Aside0.mk (Below.refl w.heap.size w)
 have H : (impl_isRising.l0 k l0 l0 (l0.length : Int) 0) = some r := h
 clear h
 have H' := Aside0.mk H
 clear H
 go_enter Try.func61, Try.ntmps61
 go_wp2
 go_loopg [7] k (fun kq v7 w' => ∃ (x7_1 : Int), v7 = .int .i64 x7_1 ∧ Aside0 (impl_isRising.l0 kq l0 l0 (l0.length : Int) x7_1 = some r) ∧ Aside0 (kq ≤ k) ∧ Aside0 (Below w.heap.size w w'))
 case atStart => exact ⟨(0), rs_, H', ⟨Nat.le_refl _⟩, ⟨bb_⟩⟩
 case round =>
  clear H'
  obtain ⟨x7_1, rfl, HA, HK1, HB⟩ := hrel
  cases gk with
  | zero => exact absurd HA.out (by simp [impl_isRising.l0])
  | succ k1 =>
   have H := HA.out
   clear HA
   simp only [impl_isRising.l0] at H
   by_cases c2 : x7_1 < (l0.length : Int)
   ·rw [if_pos c2] at H
    have c2b0 : decide (x7_1 < (l0.length : Int)) = true := decide_eq_true c2
    clear c2
    by_cases c3 : 0 ≤ x7_1
    ·rw [if_pos c3] at H
     have c3b0 : decide (0 ≤ x7_1) = true := decide_eq_true c3
     clear c3
     by_cases c4 : x7_1 < (l0.length : Int)
     ·rw [if_pos c4] at H
      have c4b0 : decide (x7_1 < (l0.length : Int)) = true := decide_eq_true c4
      clear c4
      replace H := Option.bind_eq_some_iff.mp H
      obtain ⟨t252, A50, H⟩ := H
      replace H : (if t252 = true then (if x7_1 > 0 then (if 0 ≤ (wrap64 (x7_1 - 1)) then (if (wrap64 (x7_1 - 1)) < (l0.length : Int) then (if ((Op.bytesLess ((rdOf ByteArray.empty l0 (wrap64 (x7_1 - 1))).toList) ((rdOf ByteArray.empty l0 x7_1).toList)) = true) then (impl_isRising.l0 k1 l0 l0 (l0.length : Int) (wrap64 (x7_1 + 1))) else (some false)) else (none)) else (none)) else (impl_isRising.l0 k1 l0 l0 (l0.length : Int) (wrap64 (x7_1 + 1)))) else (some false)) = some r := H
      have A5 := Aside0.mk A50
      clear A50
      by_cases c6 : t252 = true
      ·subst c6
       have H1 : (if x7_1 > 0 then (if 0 ≤ (wrap64 (x7_1 - 1)) then (if (wrap64 (x7_1 - 1)) < (l0.length : Int) then (if ((Op.bytesLess ((rdOf ByteArray.empty l0 (wrap64 (x7_1 - 1))).toList) ((rdOf ByteArray.empty l0 x7_1).toList)) = true) then (impl_isRising.l0 k1 l0 l0 (l0.length : Int) (wrap64 (x7_1 + 1))) else (some false)) else (none)) else (none)) else (impl_isRising.l0 k1 l0 l0 (l0.length : Int) (wrap64 (x7_1 + 1)))) = some r := by rw [if_pos rfl] at H; exact H
       clear H
       have H := H1
       clear H1
       by_cases c7 : x7_1 > 0
       ·rw [if_pos c7] at H
        have c7b0 : decide (0 < x7_1) = true := decide_eq_true c7
        clear c7
        obtain ⟨ji8, hji8⟩ : ∃ j_ : Int, (wrap64 (x7_1 - 1)) = j_ := ⟨_, rfl⟩
        replace H : (if 0 ≤ (ji8) then (if (ji8) < (l0.length : Int) then (if ((Op.bytesLess ((rdOf ByteArray.empty l0 (ji8)).toList) ((rdOf ByteArray.empty l0 x7_1).toList)) = true) then (impl_isRising.l0 k1 l0 l0 (l0.length : Int) (wrap64 (x7_1 + 1))) else (some false)) else (none)) else (none)) = some r := by first | (rw [hji8] at H; exact H) | (simp only [hji8] at H ⊢; exact H)
        (try rw [hji8] at A5)
        have hji8w : (IntKind.i64.wrap (x7_1 - 1)) = ji8 := (i64_w _).trans hji8
        by_cases c9 : 0 ≤ (ji8)
        ·rw [if_pos c9] at H
         have c9b0 : decide (0 ≤ (ji8)) = true := decide_eq_true c9
         clear c9
         by_cases c10 : (ji8) < (l0.length : Int)
         ·rw [if_pos c10] at H
          have c10b0 : decide ((ji8) < (l0.length : Int)) = true := decide_eq_true c10
          clear c10
          by_cases c11 : ((Op.bytesLess ((rdOf ByteArray.empty l0 (ji8)).toList) ((rdOf ByteArray.empty l0 x7_1).toList)) = true)
          ·rw [if_pos c11] at H
           have c11b0 : (Op.bytesLess ((rdOf ByteArray.empty l0 (ji8)).toList) ((rdOf ByteArray.empty l0 x7_1).toList)) = true := c11
           clear c11
           have H' := Aside0.mk H
           clear H
           have p251 : 0 ≤ (x7_1 : Int) := od_
           have q251 : x7_1 < (l0.length : Int) := od_
           obtain ⟨ad251, e251, hx251_0⟩ := Kd.at_string HR0.out x7_1 p251 q251
           cases e251
           replace hx251_0 := hb_ HB hx251_0
           replace p251 := eq_true p251
           replace q251 := eq_true q251
           go_wp2_with (first | ((with_reducible refine gate_callee (f := 93) rfl ?_); refine gsL_ (some 13) Try.func93 #[.string (rdOf ByteArray.empty l0 x7_1)] ?_; (with_reducible refine (impl_NameOk.calls (rdOf ByteArray.empty l0 x7_1) true _ A5.out).mono ?_); rintro e w12 ⟨rfl, hb⟩; refine ⟨_, rfl, ?_⟩; replace HB := bs_ hb; (try clear hb); (try clear hb2); (try clear hk); (try clear hi); have p253 : 0 ≤ ((ji8) : Int) := od_; have q253 : (ji8) < (l0.length : Int) := od_; obtain ⟨ad253, e253, hx253_0⟩ := Kd.at_string HR0.out (ji8) p253 q253; obtain rfl : ad251 = ad253 := (by injection e253); replace hx253_0 := hb_ HB hx253_0; replace p253 := eq_true p253; replace q253 := eq_true q253))
           go_roundg k1
           case measure => have := HK1.out; omega
           case rel => exact ⟨(wrap64 (x7_1 + 1)), rs_, H', ⟨by have := HK1.out; omega⟩, ⟨bb_⟩⟩
          ·rw [if_neg c11] at H
           have c11b0 : (Op.bytesLess ((rdOf ByteArray.empty l0 (ji8)).toList) ((rdOf ByteArray.empty l0 x7_1).toList)) = false := by simpa using c11
           clear c11
           obtain rfl := Option.some.inj H
           have p251 : 0 ≤ (x7_1 : Int) := od_
           have q251 : x7_1 < (l0.length : Int) := od_
           obtain ⟨ad251, e251, hx251_0⟩ := Kd.at_string HR0.out x7_1 p251 q251
           cases e251
           replace hx251_0 := hb_ HB hx251_0
           replace p251 := eq_true p251
           replace q251 := eq_true q251
           go_wp2_with (first | ((with_reducible refine gate_callee (f := 93) rfl ?_); refine gsL_ (some 13) Try.func93 #[.string (rdOf ByteArray.empty l0 x7_1)] ?_; (with_reducible refine (impl_NameOk.calls (rdOf ByteArray.empty l0 x7_1) true _ A5.out).mono ?_); rintro e w13 ⟨rfl, hb⟩; refine ⟨_, rfl, ?_⟩; replace HB := bs_ hb; (try clear hb); (try clear hb2); (try clear hk); (try clear hi); have p253 : 0 ≤ ((ji8) : Int) := od_; have q253 : (ji8) < (l0.length : Int) := od_; obtain ⟨ad253, e253, hx253_0⟩ := Kd.at_string HR0.out (ji8) p253 q253; obtain rfl : ad251 = ad253 := (by injection e253); replace hx253_0 := hb_ HB hx253_0; replace p253 := eq_true p253; replace q253 := eq_true q253))
           go_ret
           exact ⟨by first | rfl | (simp [errW_none, errW_some] <;> rfl) | (simp only [← hji8]; first | rfl | (simp [errW_none, errW_some] <;> rfl)) | (simp [*, errW_none, errW_some] <;> rfl), by repeat (first | (with_reducible first | exact HB.out | apply below_alloc | apply pw_below_drewN | apply below_drew1) | exact HB.out)⟩
         ·rw [if_neg c10] at H
          exact absurd H (by simp)
        ·rw [if_neg c9] at H
         exact absurd H (by simp)
       ·rw [if_neg c7] at H
        have c7b0 : decide (0 < x7_1) = false := decide_eq_false c7
        clear c7
        have H' := Aside0.mk H
        clear H
        have p251 : 0 ≤ (x7_1 : Int) := od_
        have q251 : x7_1 < (l0.length : Int) := od_
        obtain ⟨ad251, e251, hx251_0⟩ := Kd.at_string HR0.out x7_1 p251 q251
        cases e251
        replace hx251_0 := hb_ HB hx251_0
        replace p251 := eq_true p251
        replace q251 := eq_true q251
        go_wp2_with (first | ((with_reducible refine gate_callee (f := 93) rfl ?_); refine gsL_ (some 13) Try.func93 #[.string (rdOf ByteArray.empty l0 x7_1)] ?_; (with_reducible refine (impl_NameOk.calls (rdOf ByteArray.empty l0 x7_1) true _ A5.out).mono ?_); rintro e w14 ⟨rfl, hb⟩; refine ⟨_, rfl, ?_⟩; replace HB := bs_ hb; (try clear hb); (try clear hb2); (try clear hk); (try clear hi)))
        go_roundg k1
        case measure => have := HK1.out; omega
        case rel => exact ⟨(wrap64 (x7_1 + 1)), rs_, H', ⟨by have := HK1.out; omega⟩, ⟨bb_⟩⟩
      ·replace c6 := Bool.eq_false_iff.mpr c6
       subst c6
       have H1 : (some false) = some r := by rw [if_neg (show ¬ (false = true) by decide)] at H; exact H
       clear H
       have H := H1
       clear H1
       obtain rfl := Option.some.inj H
       have p251 : 0 ≤ (x7_1 : Int) := od_
       have q251 : x7_1 < (l0.length : Int) := od_
       obtain ⟨ad251, e251, hx251_0⟩ := Kd.at_string HR0.out x7_1 p251 q251
       cases e251
       replace hx251_0 := hb_ HB hx251_0
       replace p251 := eq_true p251
       replace q251 := eq_true q251
       go_wp2_with (first | ((with_reducible refine gate_callee (f := 93) rfl ?_); refine gsL_ (some 13) Try.func93 #[.string (rdOf ByteArray.empty l0 x7_1)] ?_; (with_reducible refine (impl_NameOk.calls (rdOf ByteArray.empty l0 x7_1) false _ A5.out).mono ?_); rintro e w15 ⟨rfl, hb⟩; refine ⟨_, rfl, ?_⟩; replace HB := bs_ hb; (try clear hb); (try clear hb2); (try clear hk); (try clear hi)))
       go_ret
       exact ⟨er_, bb_⟩
     ·rw [if_neg c4] at H
      exact absurd H (by simp)
    ·rw [if_neg c3] at H
     exact absurd H (by simp)
   ·rw [if_neg c2] at H
    have c2b0 : decide (x7_1 < (l0.length : Int)) = false := decide_eq_false c2
    clear c2
    obtain rfl := Option.some.inj H
    go_wp2
    go_ret
    exact ⟨er_, bb_⟩

/-! ### impl_relNames: function 62 -/
def impl_relNames.l0 : Nat → List ByteArray → List (S91) → Int → Int → Option (List ByteArray)
 | 0, _, _, _, _ => none
 | k + 1, x3, x6, x7, x8 => if x8 < x7 then (if 0 ≤ x8 then (if x8 < (x6.length : Int) then (if x3.length < 8796093022208 then (impl_relNames.l0 k (x3 ++ [(rd_T91 x6 x8).f0]) x6 x7 (wrap64 (x8 + 1))) else (none)) else (none)) else (none)) else (some x3)
def impl_relNames.f (k : Nat) (l0 : List (S91)) : Option (List ByteArray) := impl_relNames.l0 k ([] : List ByteArray) l0 (l0.length : Int) 0
set_option maxHeartbeats 8000000 in
theorem impl_relNames.calls (k : Nat) (A0 : Option Addr) (c0 : Nat) (l0 : List (S91)) (r : List ByteArray) (w : World) (hr0 : Kd.C k91 w A0 l0.length l0) (hc0 : l0.length ≤ c0) (h : impl_relNames.f k l0 = some r) :
  Calls Try.prog 62 #[.slice A0 l0.length c0] w fun e w' => ∃ v0_ : Value, e = .returned (v0_) ∧ Kd.R Kd.string 9 w' w.heap.size (fun _ => True) v0_ r ∧ Below w.heap.size w w' := by
 have hu91 := Try.underlying91
 have HR0 := Aside0.mk hr0
 have HC0 := Aside0.mk hc0
 clear hr0 hc0
 have HB := Aside0.mk (Below.refl w.heap.size w)
 have H : (impl_relNames.l0 k ([] : List ByteArray) l0 (l0.length : Int) 0) = some r := h
 clear h
 have H' := Aside0.mk H
 clear H
 go_enter Try.func62, Try.ntmps62
 go_wp2
 go_loopg [3, 8] k (fun kq v3 v8 w' => ∃ (x3_1 : List ByteArray) (x8_1 : Int), v8 = .int .i64 x8_1 ∧ Aside0 (impl_relNames.l0 kq x3_1 l0 (l0.length : Int) x8_1 = some r) ∧ Aside0 (kq ≤ k) ∧ Aside0 (Kd.R Kd.string 9 w' w.heap.size (fun _ => True) v3 x3_1) ∧ Aside0 (Below w.heap.size w w'))
 case atStart => exact ⟨(([] : List ByteArray)), (0), rs_, H', ⟨Nat.le_refl _⟩, ⟨by first | exact Kd.R_nil _ _ _ _ _ | exact Kd.N_nil _ _ _ _ _ | exact Kd.V_nil _ _ _ _ _ | exact Kd.Q_nil _ _ _ _ _ | exact Kd.S_nil _ _ _ _ _⟩, ⟨bb_⟩⟩
 case round =>
  clear H'
  obtain ⟨x3_1, x8_1, rfl, HA, HK1, HO_3, HB⟩ := hrel
  cases gk with
  | zero => exact absurd HA.out (by simp [impl_relNames.l0])
  | succ k1 =>
   have H := HA.out
   clear HA
   simp only [impl_relNames.l0] at H
   by_cases c2 : x8_1 < (l0.length : Int)
   ·rw [if_pos c2] at H
    have c2b0 : decide (x8_1 < (l0.length : Int)) = true := decide_eq_true c2
    clear c2
    by_cases c3 : 0 ≤ x8_1
    ·rw [if_pos c3] at H
     have c3b0 : decide (0 ≤ x8_1) = true := decide_eq_true c3
     clear c3
     by_cases c4 : x8_1 < (l0.length : Int)
     ·rw [if_pos c4] at H
      have c4b0 : decide (x8_1 < (l0.length : Int)) = true := decide_eq_true c4
      clear c4
      by_cases c5 : x3_1.length < 8796093022208
      ·rw [if_pos c5] at H
       have LMc5 := Aside0.mk c5
       clear c5
       obtain ⟨y256, hy256⟩ : ∃ y_ : List ByteArray, y_ = (x3_1 ++ [(rd_T91 l0 x8_1).f0]) := ⟨_, rfl⟩
       replace H : (impl_relNames.l0 k1 y256 l0 (l0.length : Int) (wrap64 (x8_1 + 1))) = some r := by first | (rw [hy256]; with_reducible exact H) | (have H2_ := (Option.bind_some _ _).symm.trans H; rw [hy256]; with_reducible exact H2_) | (have H2_ := (Option.bind_some _ _).symm.trans H; with_reducible exact H2_) | with_reducible exact H | (rw [hy256]; exact H) | exact H
       have Ny256 := Aside0.mk hy256
       clear hy256
       have H' := Aside0.mk H
       clear H
       have p254 : 0 ≤ (x8_1 : Int) := od_
       have q254 : x8_1 < (l0.length : Int) := od_
       obtain ⟨ad254, A254_2, c254_2, e254, hx254_0, hx254_1, hx254_2, hl254_2, hi254_2⟩ := at_T91 HR0.out x8_1 p254 q254
       cases e254
       replace hx254_0 := hb_ HB hx254_0
       replace hx254_1 := hb_ HB hx254_1
       replace hx254_2 := hb_ HB hx254_2
       have HR254_2 := Aside0.mk hi254_2
       have HC254_2 := Aside0.mk hl254_2
       clear hi254_2 hl254_2
       replace p254 := eq_true p254
       replace q254 := eq_true q254
       go_wp2_with (first | ((with_reducible refine gate_dst (N := 5) rfl ?_); refine bx_ 5 #[.string (⟨#[]⟩ : ByteArray), .int .i64 0, .slice none 0 0] 91 ?_; intro gb255 hg w6 hbox hb; have BK255 := Aside0.mk (hbox); have GW255 := gw_ hg; have GE255 := gw_ hg; replace HO_3 := Aside0.mk (Kd.R_below (rk_ HO_3.out) hb); replace HB := bs_ hb; clear hb hbox hg; obtain ⟨hcz7_0, hcz7_1, hcz7_2, hfz7_0, hfz7_1, hfz7_2⟩ := b3_ BK255) | ((with_reducible refine gate_builtin (b := .append) (xs := #[.tmp 12, .tmp 15]) rfl ?_); at_builtin; refine Kd.R_append Kd.string (w0 := w) w.heap.size rfl (.tmp 12) (.tmp 15) 95 9 (.string ⟨#[]⟩) 16 rfl Try.underlying95 info9 rfl (by decide) (by omega) u3 x3_1 ((rd_T91 l0 x8_1).f0) [.string ((rd_T91 l0 x8_1).f0)] (fun _ => True) (fun _ => False) rfl (by first | (go_simp; done) | (go_simp; rfl)) ?aP (fun _ hk => hk.elim) ?aF ?aO ?aB ?aS ?aL ?_; (case aP => exact rfl); (case aB => exact bb_); (case aF => exact (fun _ _ => trivial)); (case aO => exact (rk_ (Kd.R_mono (Kd.R_far (p := ⟨gb255, 2, none⟩) (Kd.R_far (p := ⟨gb255, 1, none⟩) (Kd.R_far (p := ⟨gb255, 0, none⟩) (Kd.R_types HO_3.out BK255.out (by decide)) (fun _ hk => hk.2) (.string ((rd_T91 l0 x8_1).f0))) (fun _ hk => hk.2) (.int .i64 ((rd_T91 l0 x8_1).f1.f0))) (fun _ hk => hk.2) (.slice A254_2 ((rd_T91 l0 x8_1).f1.f1).length c254_2)) (fun _ hk => trivial)))); (case aS => exact (below_size bb_)); (case aL => have := LMc5.out; omega); intro v257 w8 ho hb hg hat; rw [← Ny256.out] at ho; have HO258 := Aside0.mk (ho); replace BK255 := Aside0.mk (blk_grown (g := gb255) (o := .cells #[.string ((rd_T91 l0 x8_1).f0), .int .i64 ((rd_T91 l0 x8_1).f1.f0), .slice A254_2 ((rd_T91 l0 x8_1).f1.f1).length c254_2] 91 (0, 0)) (bp3_ (bkx_ BK255.out)) hg (Kd.R_ne HO_3.out BK255.out (by decide))); replace HB := Aside0.mk (hb); clear HO_3; clear ho hb hg hat))
       go_roundg k1
       case measure => have := HK1.out; omega
       case rel => exact ⟨(y256), (wrap64 (x8_1 + 1)), rs_, H', ⟨by have := HK1.out; omega⟩, ⟨by (with_reducible repeat (first | apply Kd.R_alloc | apply Kd.R_drewN | apply Kd.R_drew)); exact HO258.out⟩, ⟨bb_⟩⟩
      ·rw [if_neg c5] at H
       exact absurd H (by simp)
     ·rw [if_neg c4] at H
      exact absurd H (by simp)
    ·rw [if_neg c3] at H
     exact absurd H (by simp)
   ·rw [if_neg c2] at H
    have c2b0 : decide (x8_1 < (l0.length : Int)) = false := decide_eq_false c2
    clear c2
    obtain rfl := Option.some.inj H
    go_wp2
    go_ret
    exact ⟨_, by first | rfl | (simp [errW_none, errW_some] <;> rfl) | (simp [*, errW_none, errW_some] <;> rfl), by (with_reducible repeat (first | apply Kd.R_alloc | apply Kd.R_drewN | apply Kd.R_drew)); exact HO_3.out, by repeat (first | (with_reducible first | exact HB.out | apply below_alloc | apply pw_below_drewN | apply below_drew1) | exact HB.out)⟩

/-! ### slices.IndexFunc[[]loop.example/g00312/impl.Rel,loop.example/g00312/impl.Rel]: function 96 -/
set_option maxHeartbeats 4000000 in
theorem IndexFunc_T91.calls (f : S91 → Option Bool) (g : Nat) (lb : Array Value) (eg : ∀ args w, (callFunc g args).run Try.prog w = .ok (.enter g args) w) (A : Option Addr) (c : Nat) (xs : List S91) (r : Int) (w : World) (hr : Kd.C k91 w A xs.length xs) (hp : CB Try.prog k91 (fun cs => Value.agg cs.toArray) g lb f xs w) (h : idxO f xs 0 = some r) :
  Calls Try.prog 96 #[.slice A xs.length c, .func (.func g) #[] lb] w fun e w' => e = .returned (.int .i64 r) ∧ Below w.heap.size w w' := by
 have hbig : xs.length ≤ 9223372036854775807 := hr.2.1
 have HR := Aside0.mk hr
 have HP := Aside0.mk hp
 have HX := Aside0.mk h
 clear hr hp h
 go_enter Try.func96, Try.ntmps96
 go_wp2
 go_loopg [5, 8] xs.length (fun gg _ s8 wr => ∃ x : Int, s8 = .int .i64 x ∧ Aside0 (0 ≤ x ∧ x ≤ xs.length ∧ xs.length - x.toNat ≤ gg ∧ idxO f (xs.drop x.toNat) x = some r ∧ Below w.heap.size w wr))
 case atStart => exact ⟨0, rfl, ⟨by omega, by omega, by simp, by simpa using HX.out, Below.refl _ _⟩⟩
 case round =>
  obtain ⟨x, rfl, HI⟩ := hrel
  obtain ⟨x0, x1, hg, hi, BW⟩ := HI.out
  by_cases hlt : x < (xs.length : Int)
  ·have c4 : decide (x < (xs.length : Int)) = true := decide_eq_true hlt
   have c5 : decide (0 ≤ x) = true := decide_eq_true x0
   obtain ⟨ad, cs, rfl, hl, hK, hcell⟩ := Kd.C_get (Kd.C_below HR.out BW) (z91 : S91) x x0 hlt
   obtain ⟨b, hb, hm, ht, hf⟩ := idxO_step (z91 : S91) x0 hlt hi
   generalize xs.getD x.toNat (z91 : S91) = p at hK hb hm
   have hK0 := hK
   obtain ⟨aA2, aC2, rfl, _, _⟩ := k91_open hK
   have hcell1 : ∀ j u, ([(.string p.f0), (.int .i64 p.f1.f0), (.slice aA2 p.f1.f1.length aC2)] : List Value)[j]? = some u → wr.cell? (ad.add (x.toNat * 3 + j)) = some u := hcell
   have hc0 : wr.cell? (ad.add (x.toNat * 3)) = some (.string p.f0) := hcell1 0 _ rfl
   have hc1 : wr.cell? ⟨(ad.add (x.toNat * 3)).block, (ad.add (x.toNat * 3)).off + 1, none⟩ = some (.int .i64 p.f1.f0) := by rw [← add_field _ _ 1 (by omega)]; exact hcell1 1 _ rfl
   have hc2 : wr.cell? ⟨(ad.add (x.toNat * 3)).block, (ad.add (x.toNat * 3)).off + 2, none⟩ = some (.slice aA2 p.f1.f1.length aC2) := by rw [← add_field _ _ 2 (by omega)]; exact hcell1 2 _ rfl
   have hcall : Calls Try.prog g (#[(.agg #[(.string p.f0), (.int .i64 p.f1.f0), (.slice aA2 p.f1.f1.length aC2)])] ++ lb) wr (fun e w' => e = .returned (.bool b) ∧ Below wr.heap.size wr w') := HP.out wr _ _ b BW hm hK0 hb
   cases b with
   | true =>
    have HJ := Aside0.mk (And.intro (ht rfl) BW)
    clear hcell hcell1 hK hb hm ht hf hi BW HI hg hl hK0
    go_wp2_with (go_at_fn g; refine hcall.mono ?_; rintro e w' ⟨rfl, hb'⟩)
    go_ret
    exact ⟨ret_int_eq HJ.out.1.symm, HJ.out.2.trans (hb'.mono HJ.out.2.size)⟩
   | false =>
    have HJ := Aside0.mk (And.intro hg (And.intro (hf rfl) BW))
    clear hcell hcell1 hK hb hm ht hf hi BW HI hg hl hK0
    go_wp2_with (go_at_fn g; refine hcall.mono ?_; rintro e w' ⟨rfl, hb'⟩)
    go_roundg (xs.length - (x.toNat + 1))
    case measure => have := HJ.out.1; omega
    case rel => exact ⟨x + 1, by go_num, ⟨by omega, by omega, by omega, HJ.out.2.1, HJ.out.2.2.trans (hb'.mono HJ.out.2.2.size)⟩⟩
  ·have c4 : decide (x < (xs.length : Int)) = false := decide_eq_false hlt
   have hr : r = -1 := idxO_end hlt hi
   clear hi HI
   subst hr
   go_wp2
   go_ret
   exact ⟨rfl, BW⟩

/-! ### slices.ContainsFunc[[]loop.example/g00312/impl.Rel,loop.example/g00312/impl.Rel]: function 94 -/
set_option maxHeartbeats 4000000 in
theorem ContainsFunc_T91.calls (f : S91 → Option Bool) (g : Nat) (lb : Array Value) (eg : ∀ args w, (callFunc g args).run Try.prog w = .ok (.enter g args) w) (A : Option Addr) (c : Nat) (xs : List S91) (r : Int) (w : World) (hr : Kd.C k91 w A xs.length xs) (hp : CB Try.prog k91 (fun cs => Value.agg cs.toArray) g lb f xs w) (h : idxO f xs 0 = some r) :
  Calls Try.prog 94 #[.slice A xs.length c, .func (.func g) #[] lb] w fun e w' => e = .returned (.bool (decide (r ≥ 0))) ∧ Below w.heap.size w w' := by
 have hcall := IndexFunc_T91.calls f g lb eg A c xs r w hr hp h
 clear hr hp h
 go_enter Try.func94, Try.ntmps94
 go_wp2_with (go_at_call 96; refine hcall.mono ?_; rintro e w' ⟨rfl, hb'⟩)
 go_ret
 exact ⟨rfl, hb'⟩

-- NOT PRINTED: function 95 (impl_Rel_1)

/-! ### loop.example/g00312/impl.areAll[loop.example/g00312/impl.Rel]: function 63 -/
set_option maxHeartbeats 4000000 in
theorem areAll_T91.not (f : S91 → Option Bool) (g : Nat) (lb : Array Value) (eg : ∀ args w, (callFunc g args).run Try.prog w = .ok (.enter g args) w) (B : Nat) (xs : List S91) (w : World) (hB : B < w.heap.size) (hp : CB Try.prog k91 (fun cs => Value.agg cs.toArray) g lb f xs w) (hc : w.cell? ⟨B, 0, none⟩ = some (.func (.func g) #[] lb)) :
  CB Try.prog k91 (fun cs => Value.agg cs.toArray) 95 #[.pointer (some ⟨B, 0, none⟩)] (fun x => (f x).map not) xs w := by
   intro W x cs b hb hm hK hf
   obtain ⟨t, ht, rfl⟩ := Option.map_eq_some_iff.1 hf
   have hK0 := hK
   have hc' : W.cell? ⟨B, 0, none⟩ = some (.func (.func g) #[] lb) := (hb.cell (p := ⟨B, 0, none⟩) hB).trans hc
   obtain ⟨aA2, aC2, rfl, _, _⟩ := k91_open hK
   have hcall : ∀ W1, Below W.heap.size W W1 → Calls Try.prog g (#[(.agg #[(.string x.f0), (.int .i64 x.f1.f0), (.slice aA2 x.f1.f1.length aC2)])] ++ lb) W1 (fun e w' => e = .returned (.bool t) ∧ Below W1.heap.size W1 w') := fun W1 h1 => hp W1 x _ t (hb.trans (h1.mono hb.size)) hm (Kd.K_below _ h1 hK0) ht
   have hcd := fun o : Obj => cell_alloc_old o hc'
   have HN := Aside0.mk (show B ≠ W.heap.size from fun e => by have := hb.size; omega)
   clear hp hf hK hK0 hm hb hc ht 
   have hBW := HN.out
   have hBW' := Ne.symm hBW
   show Calls Try.prog 95 #[(.agg #[(.string x.f0), (.int .i64 x.f1.f0), (.slice aA2 x.f1.f1.length aC2)]), .pointer (some ⟨B, 0, none⟩)] W _
   go_enter Try.func95, Try.ntmps95
   go_wp2_with (go_at_fn g; refine (hcall _ (by first | exact Below.refl _ _ | exact below_alloc (Below.refl _ _) _)).mono ?_; rintro e w' ⟨rfl, hb'⟩)
   go_ret
   exact ⟨rfl, by first | exact hb' | exact (below_alloc (Below.refl _ _) _ : Below W.heap.size W _).trans (hb'.mono (by simp))⟩
set_option maxHeartbeats 4000000 in
theorem areAll_T91.calls (f : S91 → Option Bool) (g : Nat) (lb : Array Value) (eg : ∀ args w, (callFunc g args).run Try.prog w = .ok (.enter g args) w) (A : Option Addr) (c : Nat) (xs : List S91) (r : Bool) (w : World) (hr : Kd.C k91 w A xs.length xs) (hp : CB Try.prog k91 (fun cs => Value.agg cs.toArray) g lb f xs w) (h : allO f xs = some r) :
  Calls Try.prog 63 #[.slice A xs.length c, .func (.func g) #[] lb] w fun e w' => e = .returned (.bool r) ∧ Below w.heap.size w w' := by
 obtain ⟨j, hj, hjr⟩ := idxO_not h 0 (Int.le_refl _)
 have e_l : ∀ args w, (callFunc 95 args).run Try.prog w = .ok (.enter 95 args) w := enters_of Try.func95 (by kernel_rfl) rfl
 have hB0 : Below w.heap.size w (w.alloc (.cells #[.func (.func g) #[] lb] 101)) := below_alloc (Below.refl _ _) _
 have hp1 := CB.later hB0 hp
 have hnot := areAll_T91.not f g lb eg w.heap.size xs _ (by simp) hp1 (by simp)
 have hcall := ContainsFunc_T91.calls _ 95 _ e_l A c xs j _ (Kd.C_below hr hB0) hnot hj
 have HJ := Aside0.mk hjr
 clear hr hp h hjr hj hp1 hnot hB0
 go_enter Try.func63, Try.ntmps63
 go_wp2_with (go_at_call 94; refine hcall.mono ?_; rintro e w' ⟨rfl, hb'⟩)
 go_ret
 exact ⟨ret_bool_eq (by rw [HJ.out]; cases r <;> rfl), (below_alloc (Below.refl _ _) _ : Below w.heap.size w _).trans (hb'.mono (by simp))⟩

/-! ### slices.CompareFunc[[]loop.example/g00312/impl.Value,[]loop.example/g00312/impl.Value,loop.example/g00312/impl.Value,loop.example/g00312/impl.Value]: function 111 -/
set_option maxHeartbeats 4000000 in
theorem CompareFunc_T25.calls (f : S25 → S25 → Option Int) (g : Nat) (lb : Array Value) (eg : ∀ args w, (callFunc g args).run Try.prog w = .ok (.enter g args) w) (A : Option Addr) (c : Nat) (xs : List S25) (B : Option Addr) (d : Nat) (ys : List S25) (r : Int) (w : World) (hr : Kd.C k25 w A xs.length xs) (hs : Kd.C k25 w B ys.length ys) (hp : CB2 Try.prog k25 (fun cs => Value.agg cs.toArray) g lb f xs ys w) (h : cmpO f xs ys = some r) :
  Calls Try.prog 111 #[.slice A xs.length c, .slice B ys.length d, .func (.func g) #[] lb] w fun e w' => e = .returned (.int .i64 r) ∧ Below w.heap.size w w' := by
 have hu := Try.underlying25
 have hbig : xs.length ≤ 9223372036854775807 := hr.2.1
 have HR := Aside0.mk hr
 have HS := Aside0.mk hs
 have HP := Aside0.mk hp
 have HX := Aside0.mk h
 clear hr hs hp h
 go_enter Try.func111, Try.ntmps111
 go_wp2
 go_loopg [13] xs.length (fun gg s13 wr => ∃ x : Int, s13 = .int .i64 x ∧ Aside0 (0 ≤ x ∧ x ≤ xs.length ∧ x ≤ ys.length ∧ xs.length - x.toNat ≤ gg ∧ cmpO f (xs.drop x.toNat) (ys.drop x.toNat) = some r ∧ Below w.heap.size w wr))
 case atStart => exact ⟨0, rfl, ⟨by omega, by omega, by omega, by simp, by simpa using HX.out, Below.refl _ _⟩⟩
 case round =>
  obtain ⟨x, rfl, HI⟩ := hrel
  obtain ⟨x0, x1, x2, hg, hi, BW⟩ := HI.out
  by_cases hlt : x < (xs.length : Int)
  ·have c4 : decide (x < (xs.length : Int)) = true := decide_eq_true hlt
   have c5 : decide (0 ≤ x) = true := decide_eq_true x0
   obtain ⟨ad, cs, rfl, hl, hK, hcella⟩ := Kd.C_get (Kd.C_below HR.out BW) (z25 : S25) x x0 hlt
   by_cases hlt2 : x < (ys.length : Int)
   ·have c6 : decide (x < (ys.length : Int)) = true := decide_eq_true hlt2
    have c7 : decide ((ys.length : Int) ≤ x) = false := decide_eq_false (by omega)
    obtain ⟨ae, ds, rfl, hm, hL, hcellb⟩ := Kd.C_get (Kd.C_below HS.out BW) (z25 : S25) x x0 hlt2
    obtain ⟨b, hb, hxm, hym, ht, hf⟩ := cmpO_step (z25 : S25) x0 hlt hlt2 hi
    generalize xs.getD x.toNat (z25 : S25) = p at hK hb hxm
    generalize ys.getD x.toNat (z25 : S25) = q at hL hb hym
    obtain rfl := k25_open hK
    obtain rfl := k25_open hL
    replace hcella : ∀ j u, ([(.int .i64 p.f0), (.int .i64 p.f1), (.string p.f2)] : List Value)[j]? = some u → wr.cell? (ad.add (x.toNat * 3 + j)) = some u := hcella
    have hca0 : wr.cell? (ad.add (x.toNat * 3)) = some (.int .i64 p.f0) := hcella 0 _ rfl
    have hca1 : wr.cell? ⟨(ad.add (x.toNat * 3)).block, (ad.add (x.toNat * 3)).off + 1, none⟩ = some (.int .i64 p.f1) := by rw [← add_field _ _ 1 (by omega)]; exact hcella 1 _ rfl
    have hca2 : wr.cell? ⟨(ad.add (x.toNat * 3)).block, (ad.add (x.toNat * 3)).off + 2, none⟩ = some (.string p.f2) := by rw [← add_field _ _ 2 (by omega)]; exact hcella 2 _ rfl
    replace hcellb : ∀ j u, ([(.int .i64 q.f0), (.int .i64 q.f1), (.string q.f2)] : List Value)[j]? = some u → wr.cell? (ae.add (x.toNat * 3 + j)) = some u := hcellb
    have hcb0 : wr.cell? (ae.add (x.toNat * 3)) = some (.int .i64 q.f0) := hcellb 0 _ rfl
    have hcb1 : wr.cell? ⟨(ae.add (x.toNat * 3)).block, (ae.add (x.toNat * 3)).off + 1, none⟩ = some (.int .i64 q.f1) := by rw [← add_field _ _ 1 (by omega)]; exact hcellb 1 _ rfl
    have hcb2 : wr.cell? ⟨(ae.add (x.toNat * 3)).block, (ae.add (x.toNat * 3)).off + 2, none⟩ = some (.string q.f2) := by rw [← add_field _ _ 2 (by omega)]; exact hcellb 2 _ rfl
    have hcall : ∀ W, Below wr.heap.size wr W → Calls Try.prog g (#[(.agg #[(.int .i64 p.f0), (.int .i64 p.f1), (.string p.f2)]), (.agg #[(.int .i64 q.f0), (.int .i64 q.f1), (.string q.f2)])] ++ lb) W fun e w' => e = .returned (.int .i64 b) ∧ Below W.heap.size W w' := fun W hW => HP.out W _ _ _ _ b (BW.trans (hW.mono BW.size)) hxm hym (Kd.K_below _ hW hK) (Kd.K_below _ hW hL) hb
    have HC := Aside0.mk hcall
    have hd0 := fun o : Obj => cell_alloc_old o hcb0
    have hd1 := fun o : Obj => cell_alloc_old o hcb1
    have hd2 := fun o : Obj => cell_alloc_old o hcb2
    have hz1 : wr.heap.size ≠ wr.heap.size + 1 := by omega
    have hz2 : wr.heap.size + 1 ≠ wr.heap.size := by omega
    have HA := Aside0.mk (Addr_lt hca0)
    have HB := Aside0.mk (Addr_lt hcb0)
    have hn1 : (ad.add (x.toNat * 3)).block ≠ wr.heap.size := Nat.ne_of_lt HA.out
    have hn2 : (ae.add (x.toNat * 3)).block ≠ wr.heap.size := Nat.ne_of_lt HB.out
    by_cases hb0 : b = 0
    ·subst hb0
     have HJ := Aside0.mk (And.intro hg (And.intro (hf rfl) BW))
     clear hcella hcellb hK hL hb hxm hym ht hf hi BW HI hg hl hm hcall
     go_wp2_with (go_at_fn g; refine (HC.out _ ?_).mono ?_; (repeat (first | exact Below.refl _ _ | apply below_alloc | (refine below_set ?_ (by simp)))); rintro e w' ⟨rfl, hb'⟩)
     go_roundg (xs.length - (x.toNat + 1))
     case measure => have := HJ.out.1; omega
     case rel => exact ⟨x + 1, by go_num, ⟨by omega, by omega, by omega, by omega, HJ.out.2.1, HJ.out.2.2.trans (((show Below wr.heap.size wr _ from by repeat (first | exact Below.refl _ _ | apply below_alloc | (refine below_set ?_ (by simp)))).trans (hb'.mono (by simp <;> omega))).mono HJ.out.2.2.size)⟩⟩
    ·have hb1 : (b == 0) = false := beq_eq_false_iff_ne.mpr hb0
     have hb2 : (b != 0) = true := bne_iff_ne.mpr hb0
     have HJ := Aside0.mk (And.intro (ht hb0) BW)
     clear hcella hcellb hK hL hb hxm hym ht hf hi BW HI hg hl hm hcall
     go_wp2_with (go_at_fn g; refine (HC.out _ ?_).mono ?_; (repeat (first | exact Below.refl _ _ | apply below_alloc | (refine below_set ?_ (by simp)))); rintro e w' ⟨rfl, hb'⟩)
     go_ret
     exact ⟨ret_int_eq HJ.out.1.symm, HJ.out.2.trans (((show Below wr.heap.size wr _ from by repeat (first | exact Below.refl _ _ | apply below_alloc | (refine below_set ?_ (by simp)))).trans (hb'.mono (by simp <;> omega))).mono HJ.out.2.size)⟩
   ·have c7 : decide ((ys.length : Int) ≤ x) = true := decide_eq_true (by omega)
    have hr1 : r = 1 := cmpO_right hlt hlt2 x0 hi
    subst hr1
    generalize xs.getD x.toNat (z25 : S25) = p at hK
    obtain rfl := k25_open hK
    replace hcella : ∀ j u, ([(.int .i64 p.f0), (.int .i64 p.f1), (.string p.f2)] : List Value)[j]? = some u → wr.cell? (ad.add (x.toNat * 3 + j)) = some u := hcella
    have hca0 : wr.cell? (ad.add (x.toNat * 3)) = some (.int .i64 p.f0) := hcella 0 _ rfl
    have hca1 : wr.cell? ⟨(ad.add (x.toNat * 3)).block, (ad.add (x.toNat * 3)).off + 1, none⟩ = some (.int .i64 p.f1) := by rw [← add_field _ _ 1 (by omega)]; exact hcella 1 _ rfl
    have hca2 : wr.cell? ⟨(ad.add (x.toNat * 3)).block, (ad.add (x.toNat * 3)).off + 2, none⟩ = some (.string p.f2) := by rw [← add_field _ _ 2 (by omega)]; exact hcella 2 _ rfl
    have HJ := Aside0.mk BW
    clear hcella hK hi BW HI hg hl
    go_wp2
    go_ret
    exact ⟨rfl, HJ.out.trans ((show Below wr.heap.size wr _ from by repeat (first | exact Below.refl _ _ | apply below_alloc | (refine below_set ?_ (by simp)))).mono HJ.out.size)⟩
  ·have c4 : decide (x < (xs.length : Int)) = false := decide_eq_false hlt
   by_cases hlt2 : x < (ys.length : Int)
   ·have c6 : decide ((xs.length : Int) < (ys.length : Int)) = true := decide_eq_true (by omega)
    have c8 : xs.length < ys.length := by omega
    have hr1 : r = -1 := cmpO_left hlt hlt2 x0 hi
    subst hr1
    clear hi HI
    go_wp2
    go_ret
    exact ⟨rfl, BW⟩
   ·have c6 : decide ((xs.length : Int) < (ys.length : Int)) = false := decide_eq_false (by omega)
    have c8 : ¬ xs.length < ys.length := by omega
    have hr1 : r = 0 := cmpO_end hlt hlt2 hi
    subst hr1
    clear hi HI
    go_wp2
    go_ret
    exact ⟨rfl, BW⟩

/-! ### cmp_Or_int: function 128 -/
def cmp_Or_int.l0 : Nat → Int → List Int → Int → Int → Option (Int)
 | 0, _, _, _, _ => none
 | k + 1, x3, x6, x7, x8 => if x8 < x7 then (if 0 ≤ x8 then (if x8 < (x6.length : Int) then (if (rd x6 x8) = x3 then (cmp_Or_int.l0 k x3 x6 x7 (wrap64 (x8 + 1))) else (some (rd x6 x8))) else (none)) else (none)) else (some x3)
def cmp_Or_int.f (k : Nat) (l0 : List Int) : Option (Int) := cmp_Or_int.l0 k 0 l0 (l0.length : Int) 0
set_option maxHeartbeats 8000000 in
theorem cmp_Or_int.calls (k : Nat) (A0 : Option Addr) (c0 : Nat) (l0 : List Int) (r : Int) (w : World) (hr0 : Kd.C (Kd.int .i64) w A0 l0.length l0) (hc0 : l0.length ≤ c0) (h : cmp_Or_int.f k l0 = some r) :
  Calls Try.prog 128 #[.slice A0 l0.length c0] w fun e w' => e = .returned (.int .i64 r) ∧ Drawn0 w w' := by
 have HR0 := Aside0.mk hr0
 have HC0 := Aside0.mk hc0
 clear hr0 hc0
 have H : (cmp_Or_int.l0 k 0 l0 (l0.length : Int) 0) = some r := h
 clear h
 have H' := Aside0.mk H
 clear H
 go_enter Try.func128, Try.ntmps128
 go_wp2
 go_loopg [8] k (fun kq v8 w' => ∃ (x8_1 : Int), v8 = .int .i64 x8_1 ∧ Aside0 (cmp_Or_int.l0 kq 0 l0 (l0.length : Int) x8_1 = some r) ∧ Aside0 (kq ≤ k) ∧ Drawn0 w w')
 case atStart => exact ⟨(0), rs_, H', ⟨Nat.le_refl _⟩, by repeat (first | exact Drawn0.refl _ | apply Drawn0.step)⟩
 case round =>
  clear H'
  try clear c1
  obtain ⟨x8_1, rfl, HA, HK1, ⟨m1, rfl⟩⟩ := hrel
  cases gk with
  | zero => exact absurd HA.out (by simp [cmp_Or_int.l0])
  | succ k1 =>
   have H := HA.out
   clear HA
   simp only [cmp_Or_int.l0] at H
   by_cases c2 : x8_1 < (l0.length : Int)
   ·rw [if_pos c2] at H
    have c2b0 : decide (x8_1 < (l0.length : Int)) = true := decide_eq_true c2
    clear c2
    by_cases c3 : 0 ≤ x8_1
    ·rw [if_pos c3] at H
     have c3b0 : decide (0 ≤ x8_1) = true := decide_eq_true c3
     clear c3
     by_cases c4 : x8_1 < (l0.length : Int)
     ·rw [if_pos c4] at H
      have c4b0 : decide (x8_1 < (l0.length : Int)) = true := decide_eq_true c4
      clear c4
      by_cases c5 : (rd l0 x8_1) = 0
      ·rw [if_pos c5] at H
       have c5b0 : ((rd l0 x8_1) == 0) = true := beq_iff_eq.mpr c5
       have c5b1 : ((rd l0 x8_1) != 0) = false := bne_eq_false_iff_eq.mpr c5
       clear c5
       have H' := Aside0.mk H
       clear H
       have p259 : 0 ≤ (x8_1 : Int) := od_
       have q259 : x8_1 < (l0.length : Int) := od_
       obtain ⟨ad259, e259, hx259_0⟩ := Kd.at_int HR0.out x8_1 p259 q259
       cases e259
       replace p259 := eq_true p259
       replace q259 := eq_true q259
       go_wp2
       go_roundg k1
       case measure => have := HK1.out; omega
       case rel => exact ⟨(wrap64 (x8_1 + 1)), rs_, H', ⟨by have := HK1.out; omega⟩, by repeat (first | exact Drawn0.refl _ | apply Drawn0.step)⟩
      ·rw [if_neg c5] at H
       have c5b0 : ((rd l0 x8_1) == 0) = false := beq_eq_false_iff_ne.mpr c5
       have c5b1 : ((rd l0 x8_1) != 0) = true := bne_iff_ne.mpr c5
       obtain rfl := Option.some.inj H
       have p259 : 0 ≤ (x8_1 : Int) := od_
       have q259 : x8_1 < (l0.length : Int) := od_
       obtain ⟨ad259, e259, hx259_0⟩ := Kd.at_int HR0.out x8_1 p259 q259
       cases e259
       replace p259 := eq_true p259
       replace q259 := eq_true q259
       go_wp2
       go_ret
       exact ⟨by first | rfl | (simp; done) | (simp [*]; done), by repeat (first | exact Drawn0.refl _ | apply Drawn0.step)⟩
     ·rw [if_neg c4] at H
      exact absurd H (by simp)
    ·rw [if_neg c3] at H
     exact absurd H (by simp)
   ·rw [if_neg c2] at H
    have c2b0 : decide (x8_1 < (l0.length : Int)) = false := decide_eq_false c2
    clear c2
    obtain rfl := Option.some.inj H
    go_wp2
    go_ret
    exact ⟨by first | rfl | (simp; done) | (simp [*]; done), by repeat (first | exact Drawn0.refl _ | apply Drawn0.step)⟩

/-! ### cmp_isNaN_int: function 141 -/
def cmp_isNaN_int.f (a0 : Int) : Option (Bool) := some (a0 != a0)
set_option maxHeartbeats 8000000 in
theorem cmp_isNaN_int.calls (a0 : Int) (r : Bool) (w : World) (h : cmp_isNaN_int.f a0 = some r) :
  Calls Try.prog 141 #[.int .i64 a0] w fun e w' => e = .returned (.bool r) ∧ Drawn0 w w' := by
 have H : (some (a0 != a0)) = some r := h
 clear h
 obtain rfl := Option.some.inj H
 go_enter Try.func141, Try.ntmps141
 go_wp2
 go_ret
 exact ⟨by first | rfl | (simp; done) | (simp [*]; done), by repeat (first | exact Drawn0.refl _ | apply Drawn0.step)⟩

/-! ### cmp_Compare_int: function 129 -/
def cmp_Compare_int.f (a0 : Int) (a1 : Int) : Option (Int) := (cmp_isNaN_int.f a0).bind fun t260 => ((cmp_isNaN_int.f a1).bind fun t261 => (if t260 = true then (if t261 = true then (some 0) else (some (-1))) else (if t261 = true then (some 1) else (if a0 < a1 then (some (-1)) else (if a0 > a1 then (some 1) else (some 0))))))
set_option maxHeartbeats 8000000 in
theorem cmp_Compare_int.calls (a0 : Int) (a1 : Int) (r : Int) (w : World) (h : cmp_Compare_int.f a0 a1 = some r) :
  Calls Try.prog 129 #[.int .i64 a0, .int .i64 a1] w fun e w' => e = .returned (.int .i64 r) ∧ Drawn0 w w' := by
 have H : ((cmp_isNaN_int.f a0).bind fun t260 => ((cmp_isNaN_int.f a1).bind fun t261 => (if t260 = true then (if t261 = true then (some 0) else (some (-1))) else (if t261 = true then (some 1) else (if a0 < a1 then (some (-1)) else (if a0 > a1 then (some 1) else (some 0))))))) = some r := h
 clear h
 replace H := Option.bind_eq_some_iff.mp H
 obtain ⟨t260, A30, H⟩ := H
 replace H : ((cmp_isNaN_int.f a1).bind fun t261 => (if t260 = true then (if t261 = true then (some 0) else (some (-1))) else (if t261 = true then (some 1) else (if a0 < a1 then (some (-1)) else (if a0 > a1 then (some 1) else (some 0)))))) = some r := H
 have A3 := Aside0.mk A30
 clear A30
 replace H := Option.bind_eq_some_iff.mp H
 obtain ⟨t261, A40, H⟩ := H
 replace H : (if t260 = true then (if t261 = true then (some 0) else (some (-1))) else (if t261 = true then (some 1) else (if a0 < a1 then (some (-1)) else (if a0 > a1 then (some 1) else (some 0))))) = some r := H
 have A4 := Aside0.mk A40
 clear A40
 by_cases c5 : t260 = true
 ·subst c5
  have H1 : (if t261 = true then (some 0) else (some (-1))) = some r := by rw [if_pos rfl] at H; exact H
  clear H
  have H := H1
  clear H1
  by_cases c6 : t261 = true
  ·subst c6
   have H1 : (some 0) = some r := by rw [if_pos rfl] at H; exact H
   clear H
   have H := H1
   clear H1
   obtain rfl := Option.some.inj H
   go_enter Try.func129, Try.ntmps129
   go_wp2_with (first | ((with_reducible refine gate_callee (f := 141) rfl ?_); refine gsL_ (some 8) Try.func141 #[.int .i64 a0] ?_; (with_reducible refine (cmp_isNaN_int.calls a0 true _ A3.out).mono ?_); rintro e w' ⟨rfl, ⟨nd, rfl⟩⟩; refine ⟨_, rfl, ?_⟩) | ((with_reducible refine gate_callee (f := 141) rfl ?_); refine gsL_ (some 10) Try.func141 #[.int .i64 a1] ?_; (with_reducible refine (cmp_isNaN_int.calls a1 true _ A4.out).mono ?_); rintro e w' ⟨rfl, ⟨nd, rfl⟩⟩; refine ⟨_, rfl, ?_⟩))
   go_ret
   exact ⟨by first | rfl | (simp; done) | (simp [*]; done), by repeat (first | exact Drawn0.refl _ | apply Drawn0.step)⟩
  ·replace c6 := Bool.eq_false_iff.mpr c6
   subst c6
   have H1 : (some (-1)) = some r := by rw [if_neg (show ¬ (false = true) by decide)] at H; exact H
   clear H
   have H := H1
   clear H1
   obtain rfl := Option.some.inj H
   go_enter Try.func129, Try.ntmps129
   go_wp2_with (first | ((with_reducible refine gate_callee (f := 141) rfl ?_); refine gsL_ (some 8) Try.func141 #[.int .i64 a0] ?_; (with_reducible refine (cmp_isNaN_int.calls a0 true _ A3.out).mono ?_); rintro e w' ⟨rfl, ⟨nd, rfl⟩⟩; refine ⟨_, rfl, ?_⟩) | ((with_reducible refine gate_callee (f := 141) rfl ?_); refine gsL_ (some 10) Try.func141 #[.int .i64 a1] ?_; (with_reducible refine (cmp_isNaN_int.calls a1 false _ A4.out).mono ?_); rintro e w' ⟨rfl, ⟨nd, rfl⟩⟩; refine ⟨_, rfl, ?_⟩))
   go_ret
   exact ⟨by first | rfl | (simp; done) | (simp [*]; done), by repeat (first | exact Drawn0.refl _ | apply Drawn0.step)⟩
 ·replace c5 := Bool.eq_false_iff.mpr c5
  subst c5
  have H1 : (if t261 = true then (some 1) else (if a0 < a1 then (some (-1)) else (if a0 > a1 then (some 1) else (some 0)))) = some r := by rw [if_neg (show ¬ (false = true) by decide)] at H; exact H
  clear H
  have H := H1
  clear H1
  by_cases c7 : t261 = true
  ·subst c7
   have H1 : (some 1) = some r := by rw [if_pos rfl] at H; exact H
   clear H
   have H := H1
   clear H1
   obtain rfl := Option.some.inj H
   go_enter Try.func129, Try.ntmps129
   go_wp2_with (first | ((with_reducible refine gate_callee (f := 141) rfl ?_); refine gsL_ (some 8) Try.func141 #[.int .i64 a0] ?_; (with_reducible refine (cmp_isNaN_int.calls a0 false _ A3.out).mono ?_); rintro e w' ⟨rfl, ⟨nd, rfl⟩⟩; refine ⟨_, rfl, ?_⟩) | ((with_reducible refine gate_callee (f := 141) rfl ?_); refine gsL_ (some 10) Try.func141 #[.int .i64 a1] ?_; (with_reducible refine (cmp_isNaN_int.calls a1 true _ A4.out).mono ?_); rintro e w' ⟨rfl, ⟨nd, rfl⟩⟩; refine ⟨_, rfl, ?_⟩))
   go_ret
   exact ⟨by first | rfl | (simp; done) | (simp [*]; done), by repeat (first | exact Drawn0.refl _ | apply Drawn0.step)⟩
  ·replace c7 := Bool.eq_false_iff.mpr c7
   subst c7
   have H1 : (if a0 < a1 then (some (-1)) else (if a0 > a1 then (some 1) else (some 0))) = some r := by rw [if_neg (show ¬ (false = true) by decide)] at H; exact H
   clear H
   have H := H1
   clear H1
   by_cases c8 : a0 < a1
   ·rw [if_pos c8] at H
    have c8b0 : decide (a0 < a1) = true := decide_eq_true c8
    clear c8
    obtain rfl := Option.some.inj H
    go_enter Try.func129, Try.ntmps129
    go_wp2_with (first | ((with_reducible refine gate_callee (f := 141) rfl ?_); refine gsL_ (some 8) Try.func141 #[.int .i64 a0] ?_; (with_reducible refine (cmp_isNaN_int.calls a0 false _ A3.out).mono ?_); rintro e w' ⟨rfl, ⟨nd, rfl⟩⟩; refine ⟨_, rfl, ?_⟩) | ((with_reducible refine gate_callee (f := 141) rfl ?_); refine gsL_ (some 10) Try.func141 #[.int .i64 a1] ?_; (with_reducible refine (cmp_isNaN_int.calls a1 false _ A4.out).mono ?_); rintro e w' ⟨rfl, ⟨nd, rfl⟩⟩; refine ⟨_, rfl, ?_⟩))
    go_ret
    exact ⟨by first | rfl | (simp; done) | (simp [*]; done), by repeat (first | exact Drawn0.refl _ | apply Drawn0.step)⟩
   ·rw [if_neg c8] at H
    have c8b0 : decide (a0 < a1) = false := decide_eq_false c8
    clear c8
    by_cases c9 : a0 > a1
    ·rw [if_pos c9] at H
     have c9b0 : decide (a1 < a0) = true := decide_eq_true c9
     clear c9
     obtain rfl := Option.some.inj H
     go_enter Try.func129, Try.ntmps129
     go_wp2_with (first | ((with_reducible refine gate_callee (f := 141) rfl ?_); refine gsL_ (some 8) Try.func141 #[.int .i64 a0] ?_; (with_reducible refine (cmp_isNaN_int.calls a0 false _ A3.out).mono ?_); rintro e w' ⟨rfl, ⟨nd, rfl⟩⟩; refine ⟨_, rfl, ?_⟩) | ((with_reducible refine gate_callee (f := 141) rfl ?_); refine gsL_ (some 10) Try.func141 #[.int .i64 a1] ?_; (with_reducible refine (cmp_isNaN_int.calls a1 false _ A4.out).mono ?_); rintro e w' ⟨rfl, ⟨nd, rfl⟩⟩; refine ⟨_, rfl, ?_⟩))
     go_ret
     exact ⟨by first | rfl | (simp; done) | (simp [*]; done), by repeat (first | exact Drawn0.refl _ | apply Drawn0.step)⟩
    ·rw [if_neg c9] at H
     have c9b0 : decide (a1 < a0) = false := decide_eq_false c9
     clear c9
     obtain rfl := Option.some.inj H
     go_enter Try.func129, Try.ntmps129
     go_wp2_with (first | ((with_reducible refine gate_callee (f := 141) rfl ?_); refine gsL_ (some 8) Try.func141 #[.int .i64 a0] ?_; (with_reducible refine (cmp_isNaN_int.calls a0 false _ A3.out).mono ?_); rintro e w' ⟨rfl, ⟨nd, rfl⟩⟩; refine ⟨_, rfl, ?_⟩) | ((with_reducible refine gate_callee (f := 141) rfl ?_); refine gsL_ (some 10) Try.func141 #[.int .i64 a1] ?_; (with_reducible refine (cmp_isNaN_int.calls a1 false _ A4.out).mono ?_); rintro e w' ⟨rfl, ⟨nd, rfl⟩⟩; refine ⟨_, rfl, ?_⟩))
     go_ret
     exact ⟨by first | rfl | (simp; done) | (simp [*]; done), by repeat (first | exact Drawn0.refl _ | apply Drawn0.step)⟩

-- NOT PRINTED: function 146 (bytealg_abigen_runtime_cmpstring)

/-! ### bytealg_CompareString: function 142 -/
-- by hand
def bytealg_CompareString.f (a0 : ByteArray) (a1 : ByteArray) : Option Int := some (Go.Lib.compareBytes a0.data.toList a1.data.toList)
theorem bytealg_CompareString.calls (a0 : ByteArray) (a1 : ByteArray) (r : Int) (w : World) (h : bytealg_CompareString.f a0 a1 = some r) :
    Calls Try.prog 142 #[.string a0, .string a1] w fun e w' => e = .returned (.int .i64 r) ∧ Drawn0 w w' := by
  obtain rfl := Option.some.inj h
  go_enter Try.func142, Try.ntmps142
  go_wp2
  rw [run_callFunc_extern Try.func146 (by kernel_rfl) (by kernel_rfl) (by kernel_rfl) (e := Extern.BytealgCompare.compare) (by kernel_rfl), Go.Lib.run_compareString]
  simp only [Result.andThen]
  rw [Oper.upon_value]
  go_wp2
  go_ret
  exact ⟨rfl, Drawn0.refl _⟩

/-! ### strings_Compare: function 130 -/
def strings_Compare.f (a0 : ByteArray) (a1 : ByteArray) : Option (Int) := (bytealg_CompareString.f a0 a1).bind fun t262 => (some t262)
set_option maxHeartbeats 8000000 in
theorem strings_Compare.calls (a0 : ByteArray) (a1 : ByteArray) (r : Int) (w : World) (h : strings_Compare.f a0 a1 = some r) :
  Calls Try.prog 130 #[.string a0, .string a1] w fun e w' => e = .returned (.int .i64 r) ∧ Drawn0 w w' := by
 have H : ((bytealg_CompareString.f a0 a1).bind fun t262 => (some t262)) = some r := h
 clear h
 replace H := Option.bind_eq_some_iff.mp H
 obtain ⟨t262, A30, H⟩ := H
 replace H : (some t262) = some r := H
 have A3 := Aside0.mk A30
 clear A30
 obtain rfl := Option.some.inj H
 go_enter Try.func130, Try.ntmps130
 go_wp2_with (first | ((with_reducible refine gate_callee (f := 142) rfl ?_); refine gsL_ (some 7) Try.func142 #[.string a0, .string a1] ?_; (with_reducible refine (bytealg_CompareString.calls a0 a1 t262 _ A3.out).mono ?_); rintro e w' ⟨rfl, ⟨nd, rfl⟩⟩; refine ⟨_, rfl, ?_⟩))
 go_ret
 exact ⟨by first | rfl | (simp; done) | (simp [*]; done), by repeat (first | exact Drawn0.refl _ | apply Drawn0.step)⟩

end Go.Proofs.Ytapgfamppnhnmaa.PFnExactChangeOk
