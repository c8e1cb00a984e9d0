-- WRITTEN BY xprint.py, a program of this session over the kit's printer: by nobody's hand
-- PRESSED
import Derived.Test.YthgdmdabdlgliaaDoorPress
import Derived.Test.YthgdmdabdlgliaaDoorPFnExactBagTextx0
import Derived.Test.YthgdmdabdlgliaaDoorPFnExactBagTextx5
import Derived.Test.YthgdmdabdlgliaaDoorPFnExactBagTextx7
namespace Go.Proofs.YthgdmdabdlgliaaDoor.PFnExactBagText
open Go.RowKit Go.Proofs.YthgdmdabdlgliaaDoorW.PrintWords Go.Proofs.YthgdmdabdlgliaaDoorW.PrintLast Go.Proofs.YthgdmdabdlgliaaDoorW.PrintMore
set_option linter.unusedVariables false
set_option linter.unusedSimpArgs false

-- NOT PRINTED: function 130 (abi_NoEscape)

-- NOT PRINTED: function 105 (strings_Builder_copyCheck)

-- NOT PRINTED: function 77 (strings_Builder_WriteString)

/-! ### strings_Join: function 78 -/
-- by hand
def strings_Join.f (l0 : List ByteArray) (a1 : ByteArray) : Option ByteArray := if (Lib.join (l0.map (·.data.toList)) a1.data.toList).length ≤ 140737488355328 ∧ l0.length ≤ 140737488355328 then some ⟨(Lib.join (l0.map (·.data.toList)) a1.data.toList).toArray⟩ else none
theorem strings_Join.calls (A0 : Option Addr) (c0 : Nat) (l0 : List ByteArray) (a1 : ByteArray) (r : ByteArray) (w : World) (hr0 : Kd.C Kd.string w A0 l0.length l0) (hc0 : l0.length ≤ c0) (h : strings_Join.f l0 a1 = some r) :
    Calls Tryd.prog 78 #[.slice A0 l0.length c0, .string a1] w fun e w' => e = .returned (.string r) ∧ Below w.heap.size w w' := by
  unfold strings_Join.f at h
  by_cases hc : (Lib.join (l0.map (·.data.toList)) a1.data.toList).length ≤ 140737488355328 ∧ l0.length ≤ 140737488355328
  case neg => rw [if_neg hc] at h; cases h
  rw [if_pos hc] at h
  obtain rfl := Option.some.inj h
  clear h
  cases l0 with
  | nil =>
    refine (Tryd.strings_Join_none A0 c0 a1 w).mono ?_
    rintro e w' ⟨rfl, rfl⟩
    exact ⟨rfl, Below.refl _ _⟩
  | cons x xs =>
    have hat : ∀ j : Nat, j < (x :: xs).length → ∃ ad, A0 = some ad ∧ w.cell? (ad.add j) = some (.string ((x :: xs).getD j ByteArray.empty)) := fun j hj => Kd.at_string hr0 (j : Int) (by omega) (by omega)
    obtain ⟨ad, rfl, h0⟩ := hat 0 (by simp)
    have hz : ad.add 0 = ad := by unfold Addr.add; exact if_pos rfl
    rw [hz] at h0
    obtain ⟨bk, o, sp⟩ := ad
    have hsp : sp = none := by
      cases sp with
      | none => rfl
      | some s =>
        exfalso
        unfold World.cell? at h0
        revert h0
        cases w.heap[bk]? with
        | none => simp
        | some ob => cases ob <;> simp
    subst hsp
    refine Tryd.strings_Join bk o c0 (x :: xs) a1 w ?_ (World.block_lt_of_cell? w _ h0) hc.2 hc0 hc.1
    intro j y hy
    have hj : j < (x :: xs).length := by
      rcases Nat.lt_or_ge j (x :: xs).length with g | g
      · exact g
      · rw [List.getElem?_eq_none g] at hy; cases hy
    obtain ⟨ad, e, hcell⟩ := hat j hj
    obtain rfl := Option.some.inj e
    have ha : (⟨bk, o, none⟩ : Addr).add j = ⟨bk, o + j, none⟩ := by
      unfold Addr.add
      by_cases g : j = 0
      · rw [if_pos g, g]
        rfl
      · rw [if_neg g]
    rw [ha, List.getD_eq_getElem?_getD, hy] at hcell
    exact hcell


-- NOT PRINTED: function 79 (strings_Builder_String)

/-! ### impl_BagText: function 35 -/
-- by hand
mutual
def impl_BagText.l0 : Nat → ByteArray → List (S109) → Int → Int → Option (ByteArray)
 | 0, _, _, _, _ => none
 | k + 1, x3, x13, x14, x15 => if x15 < x14 then (if 0 ≤ x15 then (if x15 < (x13.length : Int) then (impl_BagText.l1 k x3 ([] : List ByteArray) x13 x14 x15 ((rd_T109 x13 x15).f0) (((rd_T109 x13 x15).f0).length : Int) 0 ((rd_T109 x13 x15).f0) ((rd_T109 x13 x15).f1)) else (none)) else (none)) else (some x3)
def impl_BagText.l1 : Nat → ByteArray → List ByteArray → List (S109) → Int → Int → List (S29) → Int → Int → List (S29) → Int → Option (ByteArray)
 | 0, _, _, _, _, _, _, _, _, _, _ => none
 | k + 1, x3, x6, x13, x14, x15, x20, x21, x22, x206000, x206001 => if x22 < x21 then (if 0 ≤ x22 then (if x22 < (x20.length : Int) then ((impl_ValueText.f ((rd_T29 x20 x22).f0) ((rd_T29 x20 x22).f1) ((rd_T29 x20 x22).f2)).bind fun t208 => (if x6.length < 8796093022208 then (impl_BagText.l1 k x3 (x6 ++ [t208]) x13 x14 x15 x20 x21 (wrap64 (x22 + 1)) x206000 x206001) else (none))) else (none)) else (none)) else ((impl_DecText.f x206001).bind fun t212 => (if t212.size + 2 ≤ 9223372036854775807 then ((strings_Join.f x6 (⟨#[44]⟩ : ByteArray)).bind fun t213 => (if (t212 ++ (⟨#[120, 32]⟩ : ByteArray)).size + t213.size ≤ 9223372036854775807 then (if ((t212 ++ (⟨#[120, 32]⟩ : ByteArray)) ++ t213).size + 1 ≤ 9223372036854775807 then (if x3.size + (((t212 ++ (⟨#[120, 32]⟩ : ByteArray)) ++ t213) ++ (⟨#[10]⟩ : ByteArray)).size ≤ 140737488355328 then (impl_BagText.l0 k (x3 ++ (((t212 ++ (⟨#[120, 32]⟩ : ByteArray)) ++ t213) ++ (⟨#[10]⟩ : ByteArray))) x13 x14 (wrap64 (x15 + 1))) else (none)) else (none)) else (none))) else (none)))
end
def impl_BagText.f (k : Nat) (a0_0 : Int) (l0_1 : List (S109)) : Option (ByteArray) := (impl_BagOk.f k a0_0 l0_1).bind fun t203 => (if t203 = true then (impl_BagText.l0 k (⟨#[]⟩ : ByteArray) l0_1 (l0_1.length : Int) 0) else (some (⟨#[]⟩ : ByteArray)))
theorem isB_new {T e : TypeId} {b : Nat} {W : World} (h : W.heap[b]? = some (.cells #[.pointer none, .slice none 0 0] T (0, 0))) : Lib.IsBuilderF T e b b [] W :=
 Lib.IsBuilderF.of (Or.inl ⟨Nat.le_refl _, .slice none 0 0, h, World.ownsRow_nil _ _ _ _, by simp [Value.ownBlock]⟩)
theorem isB_below {T e : TypeId} {B b : Nat} {bs : List Value} {W W' : World} (h : Lib.IsBuilderF T e B b bs W) (hb : Below W.heap.size W W') : Lib.IsBuilderF T e B b bs W' := by
 have one : ∀ p, Lib.BuilderAtF T e B b p bs W → Lib.BuilderAtF T e B b p bs W' := fun p h => by
  have hlt := h.lt
  obtain ⟨hB, v, hv, hown, hne⟩ := h
  exact ⟨hB, v, (hb.block b hlt).trans hv, hown.kept (row := none) ⟨hb.os, hb.tape, hb.output, hb.size, fun k hk _ => hb.block k hk⟩ (Classical.em _), hne⟩
 exact h.elim (fun x => .inl (one _ x)) (fun x => .inr (one _ x))
theorem isB_lt {T e : TypeId} {B b : Nat} {bs : List Value} {W : World} (h : Lib.IsBuilderF T e B b bs W) : b < W.heap.size := h.elim (fun x => x.lt) (fun x => x.lt)
theorem isB_more {T e : TypeId} {B b : Nat} {x s : ByteArray} {W : World} (h : Lib.BuilderAtF T e B b (.pointer (some ⟨b, 0, none⟩)) (Lib.byteCells x.data.toList ++ Lib.strCells s) W) : Lib.IsBuilderF T e B b (Lib.byteCells (x ++ s).data.toList) W := by
 rw [ByteArray.data_append, Array.toList_append, Lib.byteCells_append, ← Lib.strCells_eq s]
 exact Or.inr h
set_option maxHeartbeats 8000000 in
set_option maxRecDepth 100000 in
theorem impl_BagText.calls (k : Nat) (a0_0 : Int) (A0_1 : Option Addr) (c0_1 : Nat) (l0_1 : List (S109)) (r : ByteArray) (w : World) (hr0_1 : Kd.C k109 w A0_1 l0_1.length l0_1) (hc0_1 : l0_1.length ≤ c0_1) (h : impl_BagText.f k a0_0 l0_1 = some r) (hM : MaxLenIn w := by first | assumption | exact MaxLenIn.drewN (by assumption) _ | exact MaxLenIn.later (by assumption) (by assumption) | exact MaxLenIn.drewN (MaxLenIn.later (by assumption) (by assumption)) _ | exact MaxLenIn.later (by assumption) ⟨by repeat (first | exact Aside0.out (by assumption) | apply below_alloc | apply pw_below_drewN | apply below_drew1 | refine below_set ?_ (Aside0.out (by assumption)))⟩) :
  Calls Tryd.prog 35 #[.agg #[.int .i64 a0_0, .slice A0_1 l0_1.length c0_1]] w fun e w' => e = .returned (.string r) ∧ Below w.heap.size w w' := by
 have hu59 := Tryd.underlying59
 have hu109 := Tryd.underlying109
 have hu29 := Tryd.underlying29
 have HR0_1 := Aside0.mk hr0_1
 have HC0_1 := Aside0.mk hc0_1
 clear hr0_1 hc0_1
 have HB := Aside0.mk (Below.refl w.heap.size w)
 have H : ((impl_BagOk.f k a0_0 l0_1).bind fun t203 => (if t203 = true then (impl_BagText.l0 k (⟨#[]⟩ : ByteArray) l0_1 (l0_1.length : Int) 0) else (some (⟨#[]⟩ : ByteArray)))) = some r := h
 clear h
 replace H := Option.bind_eq_some_iff.mp H
 obtain ⟨t203, A20, H⟩ := H
 replace H : (if t203 = true then (impl_BagText.l0 k (⟨#[]⟩ : ByteArray) l0_1 (l0_1.length : Int) 0) else (some (⟨#[]⟩ : ByteArray))) = some r := H
 have A2 := Aside0.mk A20
 clear A20
 by_cases c3 : t203 = true
 ·subst c3
  have H1 : (impl_BagText.l0 k (⟨#[]⟩ : ByteArray) l0_1 (l0_1.length : Int) 0) = some r := by rw [if_pos rfl] at H; exact H
  clear H
  have H := H1
  clear H1
  have H' := Aside0.mk H
  clear H
  go_enter Tryd.func35, Tryd.ntmps35
  go_wp2_with (first | ((with_reducible refine gate_dst (N := 1) rfl ?_); refine bx_ 1 #[.int .i64 a0_0, .slice A0_1 l0_1.length c0_1] 59 ?_; intro gb202 hg w4 hbox hb; have BK202 := Aside0.mk (hbox); have GW202 := gw_ hg; have GE202 := gw_ hg; replace HB := bs_ hb; clear hb hbox hg; obtain ⟨hcz5_0, hcz5_1, hfz5_0, hfz5_1⟩ := b2_ BK202) | ((with_reducible refine gate_callee (f := 76) rfl ?_); refine gsL_ (some 10) Tryd.func76 #[.agg #[.int .i64 a0_0, .slice A0_1 l0_1.length c0_1]] ?_; (with_reducible refine (impl_BagOk.calls k a0_0 _ _ l0_1 true _ ?side1 ?side2 A2.out).mono ?_); (case side1 => exact ck_ (Kd.C_below HR0_1.out HB.out)); (case side2 => exact HC0_1.out); rintro e w6 ⟨rfl, hb⟩; refine ⟨_, rfl, ?_⟩; replace BK202 := bkb_ BK202 hb; replace HB := bs_ hb; (try clear hb); (try clear hb2); (try clear hk); (try clear hi); obtain ⟨hcz7_0, hcz7_1, hfz7_0, hfz7_1⟩ := b2_ BK202) | ((with_reducible refine gate_dst (N := 3) rfl ?_); refine bx_ 3 #[.pointer none, .slice none 0 0] 113 ?_; intro gb3 hg w8 hbox hb; have LT202 := Aside0.mk (show gb202 < gb3 by rw [hg]; exact blk_lt (bkx_ BK202.out)); have LW6 := gw_ hg; have IB := Aside0.mk (isB_new (e := 5) hbox); replace BK202 := bkb_ BK202 hb; replace HB := bs_ hb; clear hb hbox hg; obtain ⟨hcz9_0, hcz9_1, hfz9_0, hfz9_1⟩ := b2_ BK202))
  go_loopg [15] k (fun kq v15 w' => ∃ (x3_1 : ByteArray) (x15_1 : Int), v15 = .int .i64 x15_1 ∧ Aside0 (impl_BagText.l0 kq x3_1 l0_1 (l0_1.length : Int) x15_1 = some r) ∧ Aside0 (kq ≤ k) ∧ Aside0 (w'.heap[gb202]? = some (.cells #[.int .i64 a0_0, (.slice A0_1 l0_1.length c0_1)] 59 (0, 0))) ∧ Aside0 (Lib.IsBuilderF 113 5 gb3 gb3 (Lib.byteCells x3_1.data.toList) w') ∧ Aside0 (Below w.heap.size w w'))
  case atStart => exact ⟨((⟨#[]⟩ : ByteArray)), (0), rs_, H', ⟨Nat.le_refl _⟩, ⟨bkx_ BK202.out⟩, IB, ⟨bb_⟩⟩
  case round =>
   clear H'
   try clear p2
   try clear c3
   try clear c7
   try clear hcz5_0
   try clear hcz5_1
   try clear hcz7_0
   try clear hcz9_0
   try clear hcz9_1
   try clear hfz9_0
   try clear hfz9_1
   try clear hcz7_1
   try clear hfz5_0
   try clear hfz5_1
   try clear hfz7_0
   try clear hfz7_1
   obtain ⟨x3_1, x15_1, rfl, HA, HK1, BK202, IB, HB⟩ := hrel
   obtain ⟨W1, hW1⟩ : ∃ W1, W1 = wr := ⟨wr, rfl⟩
   subst hW1
   cases gk with
   | zero => exact absurd HA.out (by simp [impl_BagText.l0])
   | succ k1 =>
    have H := HA.out
    clear HA
    simp only [impl_BagText.l0] at H
    by_cases c8 : x15_1 < (l0_1.length : Int)
    ·rw [if_pos c8] at H
     have c8b0 : decide (x15_1 < (l0_1.length : Int)) = true := decide_eq_true c8
     clear c8
     by_cases c9 : 0 ≤ x15_1
     ·rw [if_pos c9] at H
      have c9b0 : decide (0 ≤ x15_1) = true := decide_eq_true c9
      clear c9
      by_cases c10 : x15_1 < (l0_1.length : Int)
      ·rw [if_pos c10] at H
       have c10b0 : decide (x15_1 < (l0_1.length : Int)) = true := decide_eq_true c10
       clear c10
       have HBo := HB
       have hMo := hM
       replace hM : MaxLenIn W1 := MaxLenIn.later hMo HBo
       have HR0w := Aside0.mk (Kd.C_below HR0_1.out HB.out)
       clear hMo
       replace HB := Aside0.mk (Below.refl W1.heap.size W1)
       have H' := Aside0.mk H
       clear H
       have p204 : 0 ≤ (x15_1 : Int) := of_decide_eq_true (by first | (with_reducible assumption) | assumption)
       have q204 : x15_1 < (l0_1.length : Int) := of_decide_eq_true (by first | (with_reducible assumption) | assumption)
       obtain ⟨ad204, A204_0, c204_0, e204, hx204_0, hx204_1, hl204_0, hi204_0⟩ := at_T109 HR0w.out x15_1 p204 q204
       cases e204
       replace hx204_0 := hb_ HB hx204_0
       replace hx204_1 := hb_ HB hx204_1
       have HR204_0 := Aside0.mk hi204_0
       have HC204_0 := Aside0.mk hl204_0
       clear hi204_0 hl204_0
       replace p204 := eq_true p204
       replace q204 := eq_true q204
       go_wp2_with (first | ((with_reducible refine gate_dst (N := 5) rfl ?_); refine bx_ 5 #[.slice none 0 0, .int .i64 0] 109 ?_; intro gb205 hg w11 hbox hb; have BK205 := Aside0.mk (hbox); have GW205 := gw_ hg; have GE205 := gw_ hg; have NB202_205 := nl_ hg BK202; have NB205_202 := ng_ hg BK202; replace BK202 := bkb_ BK202 hb; replace HB := bs_ hb; clear hb hbox hg; have hnb12 := NB205_202.out; have hnc12 := NB202_205.out; obtain ⟨hcz13_0, hcz13_1, hfz13_0, hfz13_1⟩ := b2_ BK205))
       go_loopg [6, 22] k1 (fun kq v6 v22 w' => ∃ (x6_2 : List ByteArray) (x22_2 : Int), v22 = .int .i64 x22_2 ∧ Aside0 (impl_BagText.l1 kq x3_1 x6_2 l0_1 (l0_1.length : Int) x15_1 ((rd_T109 l0_1 x15_1).f0) (((rd_T109 l0_1 x15_1).f0).length : Int) x22_2 ((rd_T109 l0_1 x15_1).f0) ((rd_T109 l0_1 x15_1).f1) = some r) ∧ Aside0 (kq ≤ k1) ∧ Aside0 (Kd.R Kd.string 9 w' W1.heap.size (fun _ => True) v6 x6_2) ∧ Aside0 (w'.heap[gb202]? = some (.cells #[.int .i64 a0_0, (.slice (some ad204) l0_1.length c0_1)] 59 (0, 0))) ∧ Aside0 (w'.heap[gb205]? = some (.cells #[(.slice A204_0 ((rd_T109 l0_1 x15_1).f0).length c204_0), .int .i64 ((rd_T109 l0_1 x15_1).f1)] 109 (0, 0))) ∧ Aside0 (Below W1.heap.size W1 w'))
       case atStart => exact ⟨(([] : List ByteArray)), (0), rs_, H', ⟨Nat.le_refl _⟩, ⟨by first | exact Kd.R_nil _ _ _ _ _ | exact Kd.N_nil _ _ _ _ _ | exact Kd.V_nil _ _ _ _ _ | exact Kd.Q_nil _ _ _ _ _ | exact Kd.S_nil _ _ _ _ _⟩, ⟨(bf2_ NB202_205 (bkx_ BK202.out))⟩, ⟨(bp2_ (bkx_ BK205.out))⟩, ⟨bb_⟩⟩
       case round =>
        clear H'
        try clear c1
        try clear c2
        try clear p2
        try clear q2
        try clear hx2
        try clear c3
        try clear c7
        try clear c8
        try clear c8b0
        try clear c9
        try clear c9b0
        try clear c10
        try clear c10b0
        try clear c12
        try clear hcz13_0
        try clear hcz13_1
        try clear hcz5_0
        try clear hcz5_1
        try clear hcz7_0
        try clear hcz7_1
        try clear hfz13_0
        try clear hfz13_1
        try clear hfz5_0
        try clear hfz5_1
        try clear hfz7_0
        try clear hfz7_1
        try clear hx204_0
        try clear hx204_1
        try clear p2
        try clear p204
        try clear q204
        obtain ⟨x6_2, x22_2, rfl, HA, HK2, HO_6, BK202, BK205, HB⟩ := hrel
        cases gk with
        | zero => exact absurd HA.out (by simp [impl_BagText.l1])
        | succ k2 =>
         have H := HA.out
         clear HA
         simp only [impl_BagText.l1] at H
         by_cases c14 : x22_2 < (((rd_T109 l0_1 x15_1).f0).length : Int)
         ·rw [if_pos c14] at H
          have c14b0 : decide (x22_2 < (((rd_T109 l0_1 x15_1).f0).length : Int)) = true := decide_eq_true c14
          clear c14
          by_cases c15 : 0 ≤ x22_2
          ·rw [if_pos c15] at H
           have c15b0 : decide (0 ≤ x22_2) = true := decide_eq_true c15
           clear c15
           by_cases c16 : x22_2 < (((rd_T109 l0_1 x15_1).f0).length : Int)
           ·rw [if_pos c16] at H
            have c16b0 : decide (x22_2 < (((rd_T109 l0_1 x15_1).f0).length : Int)) = true := decide_eq_true c16
            clear c16
            replace H := Option.bind_eq_some_iff.mp H
            obtain ⟨t208, A170, H⟩ := H
            replace H : (if x6_2.length < 8796093022208 then (impl_BagText.l1 k2 x3_1 (x6_2 ++ [t208]) l0_1 (l0_1.length : Int) x15_1 ((rd_T109 l0_1 x15_1).f0) (((rd_T109 l0_1 x15_1).f0).length : Int) (wrap64 (x22_2 + 1)) ((rd_T109 l0_1 x15_1).f0) ((rd_T109 l0_1 x15_1).f1)) else (none)) = some r := H
            have A17 := Aside0.mk A170
            clear A170
            by_cases c18 : x6_2.length < 8796093022208
            ·rw [if_pos c18] at H
             have LMc18 := Aside0.mk c18
             clear c18
             obtain ⟨y209, hy209⟩ : ∃ y_ : List ByteArray, y_ = (x6_2 ++ [t208]) := ⟨_, rfl⟩
             replace H : (impl_BagText.l1 k2 x3_1 y209 l0_1 (l0_1.length : Int) x15_1 ((rd_T109 l0_1 x15_1).f0) (((rd_T109 l0_1 x15_1).f0).length : Int) (wrap64 (x22_2 + 1)) ((rd_T109 l0_1 x15_1).f0) ((rd_T109 l0_1 x15_1).f1)) = some r := by first | (rw [hy209]; with_reducible exact H) | (have H2_ := (Option.bind_some _ _).symm.trans H; rw [hy209]; with_reducible exact H2_) | (have H2_ := (Option.bind_some _ _).symm.trans H; with_reducible exact H2_) | with_reducible exact H | (rw [hy209]; exact H) | exact H
             have Ny209 := Aside0.mk hy209
             clear hy209
             have H' := Aside0.mk H
             clear H
             have p206 : 0 ≤ (x22_2 : Int) := of_decide_eq_true (by first | (with_reducible assumption) | assumption)
             have q206 : x22_2 < (((rd_T109 l0_1 x15_1).f0).length : Int) := of_decide_eq_true (by first | (with_reducible assumption) | assumption)
             obtain ⟨ad206, e206, hx206_0, hx206_1, hx206_2⟩ := at_T29 HR204_0.out x22_2 p206 q206
             cases e206
             replace hx206_0 := hb_ HB hx206_0
             replace hx206_1 := hb_ HB hx206_1
             replace hx206_2 := hb_ HB hx206_2
             replace p206 := eq_true p206
             replace q206 := eq_true q206
             go_wp2_with (first | ((with_reducible refine gate_dst (N := 8) rfl ?_); refine bx_ 8 #[.int .i64 0, .int .i64 0, .string (⟨#[]⟩ : ByteArray)] 29 ?_; intro gb207 hg w19 hbox hb; have BK207 := Aside0.mk (hbox); have GW207 := gw_ hg; have GE207 := gw_ hg; have NB202_207 := nl_ hg BK202; have NB207_202 := ng_ hg BK202; have NB205_207 := nl_ hg BK205; have NB207_205 := ng_ hg BK205; replace HO_6 := Aside0.mk (Kd.R_below (rk_ HO_6.out) hb); replace BK202 := bkb_ BK202 hb; replace BK205 := bkb_ BK205 hb; replace HB := bs_ hb; clear hb hbox hg; have hnb20 := NB207_202.out; have hnc20 := NB202_207.out; have hnb21 := NB207_205.out; have hnc21 := NB205_207.out; obtain ⟨hcz22_0, hcz22_1, hcz22_2, hfz22_0, hfz22_1, hfz22_2⟩ := b3_ BK207) | ((with_reducible refine gate_callee (f := 26) rfl ?_); refine gsL_ (some 28) Tryd.func26 #[.agg #[.int .i64 ((rd_T29 ((rd_T109 l0_1 x15_1).f0) x22_2).f0), .int .i64 ((rd_T29 ((rd_T109 l0_1 x15_1).f0) x22_2).f1), .string ((rd_T29 ((rd_T109 l0_1 x15_1).f0) x22_2).f2)]] ?_; (with_reducible refine (impl_ValueText.calls ((rd_T29 ((rd_T109 l0_1 x15_1).f0) x22_2).f0) ((rd_T29 ((rd_T109 l0_1 x15_1).f0) x22_2).f1) ((rd_T29 ((rd_T109 l0_1 x15_1).f0) x22_2).f2) t208 _ A17.out).mono ?_); rintro e w23 ⟨rfl, hb⟩; refine ⟨_, rfl, ?_⟩; have n0_ := Aside0.mk (Kd.R_below (rk_ (Kd.R_mono (Kd.R_far (p := ⟨gb207, 2, none⟩) (Kd.R_far (p := ⟨gb207, 1, none⟩) (Kd.R_far (p := ⟨gb207, 0, none⟩) (Kd.R_types HO_6.out BK207.out (by decide)) (fun _ hk => hk.2) (.int .i64 ((rd_T29 ((rd_T109 l0_1 x15_1).f0) x22_2).f0))) (fun _ hk => hk.2) (.int .i64 ((rd_T29 ((rd_T109 l0_1 x15_1).f0) x22_2).f1))) (fun _ hk => hk.2) (.string ((rd_T29 ((rd_T109 l0_1 x15_1).f0) x22_2).f2))) (fun _ h_ => h_.1))) hb); have n1_ := Aside0.mk (blk_below (g := gb202) (o := .cells #[.int .i64 a0_0, .slice (some ad204) l0_1.length c0_1] 59 (0, 0)) (bf3_ NB202_207 (bkx_ BK202.out)) hb); have n2_ := Aside0.mk (blk_below (g := gb205) (o := .cells #[.slice (some ad206) ((rd_T109 l0_1 x15_1).f0).length c204_0, .int .i64 ((rd_T109 l0_1 x15_1).f1)] 109 (0, 0)) (bf3_ NB205_207 (bkx_ BK205.out)) hb); have n3_ := Aside0.mk (blk_below (g := gb207) (o := .cells #[.int .i64 ((rd_T29 ((rd_T109 l0_1 x15_1).f0) x22_2).f0), .int .i64 ((rd_T29 ((rd_T109 l0_1 x15_1).f0) x22_2).f1), .string ((rd_T29 ((rd_T109 l0_1 x15_1).f0) x22_2).f2)] 29 (0, 0)) (bp3_ (bkx_ BK207.out)) hb); have n4_ := bs_ hb; clear HO_6; clear BK202; clear BK205; clear BK207; clear HB; have HO_6 := n0_; have BK202 := n1_; have BK205 := n2_; have BK207 := n3_; have HB := n4_; clear n0_ n1_ n2_ n3_ n4_; (try clear hb); (try clear hb2); (try clear hk); (try clear hi)) | ((with_reducible refine gate_builtin (b := .append) (xs := #[.tmp 26, .tmp 29]) rfl ?_); at_builtin; refine Kd.R_append Kd.string (w0 := W1) W1.heap.size rfl (.tmp 26) (.tmp 29) 99 9 (.string ⟨#[]⟩) 16 rfl Tryd.underlying99 info9 rfl (by decide) (by omega) u6 x6_2 t208 [.string t208] (fun _ => True) (fun _ => False) rfl rfl ?aP (fun _ hk => hk.elim) ?aF ?aO ?aB ?aS ?aL ?_; (case aP => exact rfl); (case aB => exact bb_); (case aF => exact (fun _ _ => trivial)); (case aO => exact (rk_ HO_6.out)); (case aS => exact (below_size bb_)); (case aL => have := LMc18.out; omega); intro v210 w24 ho hb hg hat; rw [← Ny209.out] at ho; have HO211 := Aside0.mk (ho); replace BK202 := Aside0.mk (blk_grown (g := gb202) (o := .cells #[.int .i64 a0_0, .slice (some ad204) l0_1.length c0_1] 59 (0, 0)) (bkx_ BK202.out) hg (Kd.R_ne HO_6.out BK202.out (by decide))); replace BK205 := Aside0.mk (blk_grown (g := gb205) (o := .cells #[.slice (some ad206) ((rd_T109 l0_1 x15_1).f0).length c204_0, .int .i64 ((rd_T109 l0_1 x15_1).f1)] 109 (0, 0)) (bkx_ BK205.out) hg (Kd.R_ne HO_6.out BK205.out (by decide))); replace BK207 := Aside0.mk (blk_grown (g := gb207) (o := .cells #[.int .i64 ((rd_T29 ((rd_T109 l0_1 x15_1).f0) x22_2).f0), .int .i64 ((rd_T29 ((rd_T109 l0_1 x15_1).f0) x22_2).f1), .string ((rd_T29 ((rd_T109 l0_1 x15_1).f0) x22_2).f2)] 29 (0, 0)) (bkx_ BK207.out) hg (Kd.R_ne HO_6.out BK207.out (by decide))); replace HB := Aside0.mk (hb); clear HO_6; clear ho hb hg hat))
             go_roundg k2
             case measure => have := HK1.out; have := HK2.out; omega
             case rel => exact ⟨(y209), (wrap64 (x22_2 + 1)), rs_, H', ⟨by have := HK1.out; have := HK2.out; omega⟩, ⟨by (with_reducible repeat (first | apply Kd.R_alloc | apply Kd.R_drewN | apply Kd.R_drew)); exact HO211.out⟩, ⟨bkx_ BK202.out⟩, ⟨bkx_ BK205.out⟩, ⟨bb_⟩⟩
            ·rw [if_neg c18] at H
             exact absurd H (by simp)
           ·rw [if_neg c16] at H
            exact absurd H (by simp)
          ·rw [if_neg c15] at H
           exact absurd H (by simp)
         ·rw [if_neg c14] at H
          have c14b0 : decide (x22_2 < (((rd_T109 l0_1 x15_1).f0).length : Int)) = false := decide_eq_false c14
          clear c14
          replace H := Option.bind_eq_some_iff.mp H
          obtain ⟨t212, A250, H⟩ := H
          replace H : (if t212.size + 2 ≤ 9223372036854775807 then ((strings_Join.f x6_2 (⟨#[44]⟩ : ByteArray)).bind fun t213 => (if (t212 ++ (⟨#[120, 32]⟩ : ByteArray)).size + t213.size ≤ 9223372036854775807 then (if ((t212 ++ (⟨#[120, 32]⟩ : ByteArray)) ++ t213).size + 1 ≤ 9223372036854775807 then (if x3_1.size + (((t212 ++ (⟨#[120, 32]⟩ : ByteArray)) ++ t213) ++ (⟨#[10]⟩ : ByteArray)).size ≤ 140737488355328 then (impl_BagText.l0 k2 (x3_1 ++ (((t212 ++ (⟨#[120, 32]⟩ : ByteArray)) ++ t213) ++ (⟨#[10]⟩ : ByteArray))) l0_1 (l0_1.length : Int) (wrap64 (x15_1 + 1))) else (none)) else (none)) else (none))) else (none)) = some r := H
          have A25 := Aside0.mk A250
          clear A250
          by_cases c26 : t212.size + 2 ≤ 9223372036854775807
          ·rw [if_pos c26] at H
           have c26b0 := eq_true c26
           have c26b1 : decide (t212.size + 2 ≤ 9223372036854775807) = true := decide_eq_true c26
           try have c26b2 : (9223372036854775807 < t212.size + 2) = False := eq_false (Nat.not_lt.2 c26)
           replace H := Option.bind_eq_some_iff.mp H
           obtain ⟨t213, A270, H⟩ := H
           replace H : (if (t212 ++ (⟨#[120, 32]⟩ : ByteArray)).size + t213.size ≤ 9223372036854775807 then (if ((t212 ++ (⟨#[120, 32]⟩ : ByteArray)) ++ t213).size + 1 ≤ 9223372036854775807 then (if x3_1.size + (((t212 ++ (⟨#[120, 32]⟩ : ByteArray)) ++ t213) ++ (⟨#[10]⟩ : ByteArray)).size ≤ 140737488355328 then (impl_BagText.l0 k2 (x3_1 ++ (((t212 ++ (⟨#[120, 32]⟩ : ByteArray)) ++ t213) ++ (⟨#[10]⟩ : ByteArray))) l0_1 (l0_1.length : Int) (wrap64 (x15_1 + 1))) else (none)) else (none)) else (none)) = some r := H
           have A27 := Aside0.mk A270
           clear A270
           by_cases c28 : (t212 ++ (⟨#[120, 32]⟩ : ByteArray)).size + t213.size ≤ 9223372036854775807
           ·rw [if_pos c28] at H
            have c28b0 := eq_true c28
            have c28b1 : decide ((t212 ++ (⟨#[120, 32]⟩ : ByteArray)).size + t213.size ≤ 9223372036854775807) = true := decide_eq_true c28
            try have c28b2 : (9223372036854775807 < (t212 ++ (⟨#[120, 32]⟩ : ByteArray)).size + t213.size) = False := eq_false (Nat.not_lt.2 c28)
            (try (have c28b0z := c28b0; simp only [ByteArray.size_append] at c28b0z))
            (try (have c28b1z := c28b1; simp only [ByteArray.size_append] at c28b1z))
            (try (have c28b2z := c28b2; simp only [ByteArray.size_append] at c28b2z))
            (try (have c28b2y : (9223372036854775807 < t212.size + 2 + t213.size) = False := by (apply eq_false; have hq_ := c28; simp only [ByteArray.size_append, ByteArray.size_extract] at hq_; have hl0_ : (⟨#[120, 32]⟩ : ByteArray).size = 2 := rfl; omega)))
            by_cases c29 : ((t212 ++ (⟨#[120, 32]⟩ : ByteArray)) ++ t213).size + 1 ≤ 9223372036854775807
            ·rw [if_pos c29] at H
             have c29b0 := eq_true c29
             have c29b1 : decide (((t212 ++ (⟨#[120, 32]⟩ : ByteArray)) ++ t213).size + 1 ≤ 9223372036854775807) = true := decide_eq_true c29
             try have c29b2 : (9223372036854775807 < ((t212 ++ (⟨#[120, 32]⟩ : ByteArray)) ++ t213).size + 1) = False := eq_false (Nat.not_lt.2 c29)
             (try (have c29b0z := c29b0; simp only [ByteArray.size_append] at c29b0z))
             (try (have c29b1z := c29b1; simp only [ByteArray.size_append] at c29b1z))
             (try (have c29b2z := c29b2; simp only [ByteArray.size_append] at c29b2z))
             (try (have c29b2y : (9223372036854775807 < t212.size + 2 + t213.size + 1) = False := by (apply eq_false; have hq_ := c29; simp only [ByteArray.size_append, ByteArray.size_extract] at hq_; have hl0_ : (⟨#[120, 32]⟩ : ByteArray).size = 2 := rfl; omega)))
             by_cases c30 : x3_1.size + (((t212 ++ (⟨#[120, 32]⟩ : ByteArray)) ++ t213) ++ (⟨#[10]⟩ : ByteArray)).size ≤ 140737488355328
             ·rw [if_pos c30] at H
              have LMc30 := Aside0.mk c30
              clear c30
              have H' := Aside0.mk H
              clear H
              have hnb31 := NB205_202.out
              have hnc31 := NB202_205.out
              have hcz32_0 : wr.cell? ⟨gb205, 0, none⟩ = some (.slice A204_0 ((rd_T109 l0_1 x15_1).f0).length c204_0) := bc_ BK205 0
              have hcz32_1 : wr.cell? ⟨gb205, 1, none⟩ = some (.int .i64 ((rd_T109 l0_1 x15_1).f1)) := bc_ BK205 1
              have hfz32_0 := blk_frozen BK205.out 0
              have hfz32_1 := blk_frozen BK205.out 1
              go_wp2_with (first | ((with_reducible refine gate_callee (f := 30) rfl ?_); refine gsL_ (some 34) Tryd.func30 #[.int .i64 ((rd_T109 l0_1 x15_1).f1)] ?_; (with_reducible refine (impl_DecText.calls ((rd_T109 l0_1 x15_1).f1) t212 _ A25.out).mono ?_); rintro e w33 ⟨rfl, hb⟩; refine ⟨_, rfl, ?_⟩; replace HO_6 := Aside0.mk (Kd.R_below (rk_ HO_6.out) hb); replace BK202 := bkb_ BK202 hb; replace BK205 := bkb_ BK205 hb; replace HB := bs_ hb; (try clear hb); (try clear hb2); (try clear hk); (try clear hi); obtain ⟨Ao34, co34, eo34⟩ := Kd.R_slice HO_6.out; subst eo34) | ((with_reducible refine gate_callee (f := 78) rfl ?_); refine gsL_ (some 37) Tryd.func78 #[.slice Ao34 x6_2.length co34, .string (⟨#[44]⟩ : ByteArray)] ?_; (with_reducible refine (strings_Join.calls _ _ x6_2 (⟨#[44]⟩ : ByteArray) t213 _ ?side1 ?side2 A27.out).mono ?_); (case side1 => exact ck_ (Kd.R_reads' HO_6.out).2.2); (case side2 => exact (Kd.R_reads' HO_6.out).2.1); rintro e w35 ⟨rfl, hb⟩; refine ⟨_, rfl, ?_⟩; replace HO_6 := Aside0.mk (Kd.R_below (rk_ HO_6.out) hb); replace BK202 := bkb_ BK202 hb; replace BK205 := bkb_ BK205 hb; replace HB := bs_ hb; (try clear hb); (try clear hb2); (try clear hk); (try clear hi)) | (go_at_call 77; (refine (Tryd.Builder_WriteString_f gb3 gb3 (Lib.byteCells x3_1.data.toList) (((t212 ++ (⟨#[120, 32]⟩ : ByteArray)) ++ t213) ++ (⟨#[10]⟩ : ByteArray)) _ (isB_below IB.out bb_) ?side1 ?side2).mono ?_); (case side1 => rw [Lib.byteCells_length, Array.length_toList]; exact LMc30.out); (case side2 => exact Nat.le_of_lt (isB_lt (isB_below IB.out bb_))); rintro e w41 ⟨rfl, hi, hb⟩; have IB2 := Aside0.mk (isB_more hi); have BK2 := Aside0.mk ((hb.block gb202 LT202.out).trans (bkx_ BK202.out)); have HB2 := Aside0.mk ((below_step HBo.out bb_).trans (hb.mono LW6.out)); clear hi hb))
              go_roundg k2
              case measure => have := HK1.out; have := HK2.out; omega
              case rel => exact ⟨(x3_1 ++ (((t212 ++ (⟨#[120, 32]⟩ : ByteArray)) ++ t213) ++ (⟨#[10]⟩ : ByteArray))), (wrap64 (x15_1 + 1)), rs_, H', ⟨by have := HK1.out; have := HK2.out; omega⟩, BK2, IB2, HB2⟩
             ·rw [if_neg c30] at H
              exact absurd H (by simp)
            ·rw [if_neg c29] at H
             exact absurd H (by simp)
           ·rw [if_neg c28] at H
            exact absurd H (by simp)
          ·rw [if_neg c26] at H
           exact absurd H (by simp)
      ·rw [if_neg c10] at H
       exact absurd H (by simp)
     ·rw [if_neg c9] at H
      exact absurd H (by simp)
    ·rw [if_neg c8] at H
     have c8b0 : decide (x15_1 < (l0_1.length : Int)) = false := decide_eq_false c8
     clear c8
     obtain rfl := Option.some.inj H
     go_wp2_with (first | (go_at_call 79; (refine (Tryd.Builder_String_any_f gb3 gb3 x3_1.data.toList _ IB.out (Nat.le_of_lt (isB_lt IB.out))).mono ?_); rintro e w43 ⟨rfl, _, hb⟩; replace HB := Aside0.mk (HB.out.trans (hb.mono LW6.out)); clear hb))
     go_ret
     exact ⟨by cases x3_1; rfl, bb_⟩
 ·replace c3 := Bool.eq_false_iff.mpr c3
  subst c3
  have H1 : (some (⟨#[]⟩ : ByteArray)) = some r := by rw [if_neg (show ¬ (false = true) by decide)] at H; exact H
  clear H
  have H := H1
  clear H1
  obtain rfl := Option.some.inj H
  go_enter Tryd.func35, Tryd.ntmps35
  go_wp2_with (first | ((with_reducible refine gate_dst (N := 1) rfl ?_); refine bx_ 1 #[.int .i64 a0_0, .slice A0_1 l0_1.length c0_1] 59 ?_; intro gb202 hg w36 hbox hb; have BK202 := Aside0.mk (hbox); have GW202 := gw_ hg; have GE202 := gw_ hg; replace HB := bs_ hb; clear hb hbox hg; obtain ⟨hcz37_0, hcz37_1, hfz37_0, hfz37_1⟩ := b2_ BK202) | ((with_reducible refine gate_callee (f := 76) rfl ?_); refine gsL_ (some 10) Tryd.func76 #[.agg #[.int .i64 a0_0, .slice A0_1 l0_1.length c0_1]] ?_; (with_reducible refine (impl_BagOk.calls k a0_0 _ _ l0_1 false _ ?side1 ?side2 A2.out).mono ?_); (case side1 => exact ck_ (Kd.C_below HR0_1.out HB.out)); (case side2 => exact HC0_1.out); rintro e w38 ⟨rfl, hb⟩; refine ⟨_, rfl, ?_⟩; replace BK202 := bkb_ BK202 hb; replace HB := bs_ hb; (try clear hb); (try clear hb2); (try clear hk); (try clear hi)))
  go_ret
  exact ⟨er_, bb_⟩


/-! ### laws_eqValue: function 50 -/
def laws_eqValue.f (a0_0 : Int) (a0_1 : Int) (a0_2 : ByteArray) (a1_0 : Int) (a1_1 : Int) (a1_2 : ByteArray) : Option (Bool) := if a0_0 = a1_0 then (if a0_1 = a1_1 then (if a0_2.toList = a1_2.toList then (some true) else (some false)) else (some false)) else (some false)
set_option maxHeartbeats 8000000 in
set_option maxRecDepth 100000 in
theorem laws_eqValue.calls (a0_0 : Int) (a0_1 : Int) (a0_2 : ByteArray) (a1_0 : Int) (a1_1 : Int) (a1_2 : ByteArray) (r : Bool) (w : World) (h : laws_eqValue.f a0_0 a0_1 a0_2 a1_0 a1_1 a1_2 = some r) :
  Calls Tryd.prog 50 #[.agg #[.int .i64 a0_0, .int .i64 a0_1, .string a0_2], .agg #[.int .i64 a1_0, .int .i64 a1_1, .string a1_2]] w fun e w' => e = .returned (.bool r) ∧ Below w.heap.size w w' := by
 have hu29 := Tryd.underlying29
 have HB := Aside0.mk (Below.refl w.heap.size w)
 have H : (if a0_0 = a1_0 then (if a0_1 = a1_1 then (if a0_2.toList = a1_2.toList then (some true) else (some false)) else (some false)) else (some false)) = some r := h
 clear h
 by_cases c3 : a0_0 = a1_0
 ·rw [if_pos c3] at H
  have c3b0 : (a0_0 == a1_0) = true := beq_iff_eq.mpr c3
  have c3b1 : (a0_0 != a1_0) = false := bne_eq_false_iff_eq.mpr c3
  clear c3
  by_cases c4 : a0_1 = a1_1
  ·rw [if_pos c4] at H
   have c4b0 : (a0_1 == a1_1) = true := beq_iff_eq.mpr c4
   have c4b1 : (a0_1 != a1_1) = false := bne_eq_false_iff_eq.mpr c4
   clear c4
   by_cases c5 : a0_2.toList = a1_2.toList
   ·rw [if_pos c5] at H
    have c5b0 : (a0_2.toList == a1_2.toList) = true := beq_iff_eq.mpr c5
    have c5b1 : (a0_2.toList != a1_2.toList) = false := bne_eq_false_iff_eq.mpr c5
    clear c5
    obtain rfl := Option.some.inj H
    go_enter Tryd.func50, Tryd.ntmps50
    go_wp2_with (first | ((with_reducible refine gate_dst (N := 2) rfl ?_); refine bx_ 2 #[.int .i64 a0_0, .int .i64 a0_1, .string a0_2] 29 ?_; intro gb202 hg w6 hbox hb; have BK202 := Aside0.mk (hbox); have GW202 := gw_ hg; have GE202 := gw_ hg; replace HB := bs_ hb; clear hb hbox hg) | ((with_reducible refine gate_dst (N := 3) rfl ?_); refine bx_ 3 #[.int .i64 a1_0, .int .i64 a1_1, .string a1_2] 29 ?_; intro gb203 hg w7 hbox hb; have BK203 := Aside0.mk (hbox); have GW203 := gw_ hg; have GE203 := gw_ hg; have NB202_203 := nl_ hg BK202; have NB203_202 := ng_ hg BK202; replace BK202 := bkb_ BK202 hb; replace HB := bs_ hb; clear hb hbox hg; have hnb8 := NB202_203.out; have hnc8 := NB203_202.out; obtain ⟨hcz9_0, hcz9_1, hcz9_2, hfz9_0, hfz9_1, hfz9_2⟩ := b3_ BK202; obtain ⟨hcz10_0, hcz10_1, hcz10_2, hfz10_0, hfz10_1, hfz10_2⟩ := b3_ BK203))
    go_ret
    exact ⟨er_, bb_⟩
   ·rw [if_neg c5] at H
    have c5b0 : (a0_2.toList == a1_2.toList) = false := beq_eq_false_iff_ne.mpr c5
    have c5b1 : (a0_2.toList != a1_2.toList) = true := bne_iff_ne.mpr c5
    obtain rfl := Option.some.inj H
    go_enter Tryd.func50, Tryd.ntmps50
    go_wp2_with (first | ((with_reducible refine gate_dst (N := 2) rfl ?_); refine bx_ 2 #[.int .i64 a0_0, .int .i64 a0_1, .string a0_2] 29 ?_; intro gb202 hg w11 hbox hb; have BK202 := Aside0.mk (hbox); have GW202 := gw_ hg; have GE202 := gw_ hg; replace HB := bs_ hb; clear hb hbox hg) | ((with_reducible refine gate_dst (N := 3) rfl ?_); refine bx_ 3 #[.int .i64 a1_0, .int .i64 a1_1, .string a1_2] 29 ?_; intro gb203 hg w12 hbox hb; have BK203 := Aside0.mk (hbox); have GW203 := gw_ hg; have GE203 := gw_ hg; have NB202_203 := nl_ hg BK202; have NB203_202 := ng_ hg BK202; replace BK202 := bkb_ BK202 hb; replace HB := bs_ hb; clear hb hbox hg; have hnb13 := NB202_203.out; have hnc13 := NB203_202.out; obtain ⟨hcz14_0, hcz14_1, hcz14_2, hfz14_0, hfz14_1, hfz14_2⟩ := b3_ BK202; obtain ⟨hcz15_0, hcz15_1, hcz15_2, hfz15_0, hfz15_1, hfz15_2⟩ := b3_ BK203))
    go_ret
    exact ⟨er_, bb_⟩
  ·rw [if_neg c4] at H
   have c4b0 : (a0_1 == a1_1) = false := beq_eq_false_iff_ne.mpr c4
   have c4b1 : (a0_1 != a1_1) = true := bne_iff_ne.mpr c4
   obtain rfl := Option.some.inj H
   go_enter Tryd.func50, Tryd.ntmps50
   go_wp2_with (first | ((with_reducible refine gate_dst (N := 2) rfl ?_); refine bx_ 2 #[.int .i64 a0_0, .int .i64 a0_1, .string a0_2] 29 ?_; intro gb202 hg w16 hbox hb; have BK202 := Aside0.mk (hbox); have GW202 := gw_ hg; have GE202 := gw_ hg; replace HB := bs_ hb; clear hb hbox hg) | ((with_reducible refine gate_dst (N := 3) rfl ?_); refine bx_ 3 #[.int .i64 a1_0, .int .i64 a1_1, .string a1_2] 29 ?_; intro gb203 hg w17 hbox hb; have BK203 := Aside0.mk (hbox); have GW203 := gw_ hg; have GE203 := gw_ hg; have NB202_203 := nl_ hg BK202; have NB203_202 := ng_ hg BK202; replace BK202 := bkb_ BK202 hb; replace HB := bs_ hb; clear hb hbox hg; have hnb18 := NB202_203.out; have hnc18 := NB203_202.out; obtain ⟨hcz19_0, hcz19_1, hcz19_2, hfz19_0, hfz19_1, hfz19_2⟩ := b3_ BK202; obtain ⟨hcz20_0, hcz20_1, hcz20_2, hfz20_0, hfz20_1, hfz20_2⟩ := b3_ BK203))
   go_ret
   exact ⟨er_, bb_⟩
 ·rw [if_neg c3] at H
  have c3b0 : (a0_0 == a1_0) = false := beq_eq_false_iff_ne.mpr c3
  have c3b1 : (a0_0 != a1_0) = true := bne_iff_ne.mpr c3
  obtain rfl := Option.some.inj H
  go_enter Tryd.func50, Tryd.ntmps50
  go_wp2_with (first | ((with_reducible refine gate_dst (N := 2) rfl ?_); refine bx_ 2 #[.int .i64 a0_0, .int .i64 a0_1, .string a0_2] 29 ?_; intro gb202 hg w21 hbox hb; have BK202 := Aside0.mk (hbox); have GW202 := gw_ hg; have GE202 := gw_ hg; replace HB := bs_ hb; clear hb hbox hg) | ((with_reducible refine gate_dst (N := 3) rfl ?_); refine bx_ 3 #[.int .i64 a1_0, .int .i64 a1_1, .string a1_2] 29 ?_; intro gb203 hg w22 hbox hb; have BK203 := Aside0.mk (hbox); have GW203 := gw_ hg; have GE203 := gw_ hg; have NB202_203 := nl_ hg BK202; have NB203_202 := ng_ hg BK202; replace BK202 := bkb_ BK202 hb; replace HB := bs_ hb; clear hb hbox hg; have hnb23 := NB202_203.out; have hnc23 := NB203_202.out; obtain ⟨hcz24_0, hcz24_1, hcz24_2, hfz24_0, hfz24_1, hfz24_2⟩ := b3_ BK202; obtain ⟨hcz25_0, hcz25_1, hcz25_2, hfz25_0, hfz25_1, hfz25_2⟩ := b3_ BK203))
  go_ret
  exact ⟨er_, bb_⟩

/-! ### laws_eqValueS: function 132 -/
def laws_eqValueS.l0 : Nat → List (S29) → List (S29) → Int → Option (Bool)
 | 0, _, _, _ => none
 | k + 1, x0, x1, x5 => if x5 < (x0.length : Int) then (if 0 ≤ x5 then (if x5 < (x1.length : Int) then ((laws_eqValue.f ((rd_T29 x0 x5).f0) ((rd_T29 x0 x5).f1) ((rd_T29 x0 x5).f2) ((rd_T29 x1 x5).f0) ((rd_T29 x1 x5).f1) ((rd_T29 x1 x5).f2)).bind fun t206 => (if t206 = true then (laws_eqValueS.l0 k x0 x1 (wrap64 (x5 + 1))) else (some false))) else (none)) else (none)) else (some true)
def laws_eqValueS.f (k : Nat) (l0 : List (S29)) (l1 : List (S29)) : Option (Bool) := if (l0.length : Int) = (l1.length : Int) then (laws_eqValueS.l0 k l0 l1 0) else (some false)
def laws_eqValueS.T6 : Bool × List (List Nat × List Nat) := (true, [([], []), ([], []), ([0, 1], [0, 1]), ([2], [2]), ([], []), ([], []), ([4, 5], [4, 5]), ([6], [6]), ([3, 7], [3, 7]), ([8], [8])])
def laws_eqValueS.B6 : List Nat := [0, 0, 3, 7, 0, 0, 48, 112, 255, 511]
theorem laws_eqValueS.tab6 : rtab .any (opsOf Tryd.f132 6) = laws_eqValueS.T6 := by kernel_rfl
theorem laws_eqValueS.bits6 : waitsOk laws_eqValueS.T6.2 laws_eqValueS.B6 = true := by kernel_rfl
set_option maxHeartbeats 8000000 in
set_option maxRecDepth 100000 in
theorem laws_eqValueS.calls (k : Nat) (A0 : Option Addr) (c0 : Nat) (l0 : List (S29)) (A1 : Option Addr) (c1 : Nat) (l1 : List (S29)) (r : Bool) (w : World) (hr0 : Kd.C k29 w A0 l0.length l0) (hc0 : l0.length ≤ c0) (hr1 : Kd.C k29 w A1 l1.length l1) (hc1 : l1.length ≤ c1) (h : laws_eqValueS.f k l0 l1 = some r) :
  Calls Tryd.prog 132 #[.slice A0 l0.length c0, .slice A1 l1.length c1] w fun e w' => e = .returned (.bool r) ∧ Below w.heap.size w w' := by
 have hu29 := Tryd.underlying29
 have HR0 := Aside0.mk hr0
 have HC0 := Aside0.mk hc0
 clear hr0 hc0
 have HR1 := Aside0.mk hr1
 have HC1 := Aside0.mk hc1
 clear hr1 hc1
 have HB := Aside0.mk (Below.refl w.heap.size w)
 have H : (if (l0.length : Int) = (l1.length : Int) then (laws_eqValueS.l0 k l0 l1 0) else (some false)) = some r := h
 clear h
 by_cases c3 : (l0.length : Int) = (l1.length : Int)
 ·rw [if_pos c3] at H
  have c3b0 : ((l0.length : Int) == (l1.length : Int)) = true := beq_iff_eq.mpr c3
  have c3b1 : ((l0.length : Int) != (l1.length : Int)) = false := bne_eq_false_iff_eq.mpr c3
  have c3b2 : (l0.length == l1.length) = true := by first | simpa using c3 | (simp at c3 ⊢; omega)
  clear c3
  have H' := Aside0.mk H
  clear H
  go_enter Tryd.func132, Tryd.ntmps132
  go_wp2
  go_loopg [5] k (fun kq v5 w' => ∃ (x5_1 : Int), v5 = .int .i64 x5_1 ∧ Aside0 (laws_eqValueS.l0 kq l0 l1 x5_1 = some r) ∧ Aside0 (kq ≤ k) ∧ Aside0 (Below w.heap.size w w'))
  case atStart => exact ⟨(0), rs_, H', ⟨Nat.le_refl _⟩, ⟨bb_⟩⟩
  case round =>
   clear H'
   try clear c1
   try clear p2
   try clear c3
   try clear c3b0
   try clear c3b1
   try clear c3b2
   obtain ⟨x5_1, rfl, HA, HK1, HB⟩ := hrel
   cases gk with
   | zero => exact absurd HA.out (by simp [laws_eqValueS.l0])
   | succ k1 =>
    have H := HA.out
    clear HA
    simp only [laws_eqValueS.l0] at H
    by_cases c4 : x5_1 < (l0.length : Int)
    ·rw [if_pos c4] at H
     have c4b0 : decide (x5_1 < (l0.length : Int)) = true := decide_eq_true c4
     clear c4
     by_cases c5 : 0 ≤ x5_1
     ·rw [if_pos c5] at H
      have c5b0 : decide (0 ≤ x5_1) = true := decide_eq_true c5
      clear c5
      by_cases c6 : x5_1 < (l1.length : Int)
      ·rw [if_pos c6] at H
       have c6b0 : decide (x5_1 < (l1.length : Int)) = true := decide_eq_true c6
       clear c6
       replace H := Option.bind_eq_some_iff.mp H
       obtain ⟨t206, A70, H⟩ := H
       replace H : (if t206 = true then (laws_eqValueS.l0 k1 l0 l1 (wrap64 (x5_1 + 1))) else (some false)) = some r := H
       have A7 := Aside0.mk A70
       clear A70
       by_cases c8 : t206 = true
       ·subst c8
        have H1 : (laws_eqValueS.l0 k1 l0 l1 (wrap64 (x5_1 + 1))) = some r := by rw [if_pos rfl] at H; exact H
        clear H
        have H := H1
        clear H1
        have H' := Aside0.mk H
        clear H
        try go_wp2
        replace HB := Aside0.mk (below_drew1 HB.out)
        have p204 : 0 ≤ (x5_1 : Int) := of_decide_eq_true (by first | (with_reducible assumption) | assumption)
        have q204 : x5_1 < (l0.length : Int) := of_decide_eq_true (by first | (with_reducible assumption) | assumption)
        obtain ⟨ad204, e204, hx204_0, hx204_1, hx204_2⟩ := at_T29 HR0.out x5_1 p204 q204
        have hw204_2 := hx204_2
        have hw204_1 := hx204_1
        have hw204_0 := hx204_0
        cases e204
        replace hx204_0 := hb_ HB hx204_0
        replace hx204_1 := hb_ HB hx204_1
        replace hx204_2 := hb_ HB hx204_2
        replace p204 := eq_true p204
        replace q204 := eq_true q204
        have p205 : 0 ≤ (x5_1 : Int) := of_decide_eq_true (by first | (with_reducible assumption) | assumption)
        have q205 : x5_1 < (l1.length : Int) := of_decide_eq_true (by first | (with_reducible assumption) | assumption)
        obtain ⟨ad205, e205, hx205_0, hx205_1, hx205_2⟩ := at_T29 HR1.out x5_1 p205 q205
        have hw205_2 := hx205_2
        have hw205_1 := hx205_1
        have hw205_0 := hx205_0
        cases e205
        replace hx205_0 := hb_ HB hx205_0
        replace hx205_1 := hb_ HB hx205_1
        replace hx205_2 := hb_ HB hx205_2
        replace p205 := eq_true p205
        replace q205 := eq_true q205
        refine start_ (n := 10) (S := fun w' => w'.cell? (ad204.add ((x5_1).toNat * 3)) = some (.int .i64 ((rd_T29 l0 x5_1).f0)) ∧ w'.cell? ⟨(ad204.add ((x5_1).toNat * 3)).block, (ad204.add ((x5_1).toNat * 3)).off + 1, none⟩ = some (.int .i64 ((rd_T29 l0 x5_1).f1)) ∧ w'.cell? ⟨(ad204.add ((x5_1).toNat * 3)).block, (ad204.add ((x5_1).toNat * 3)).off + 2, none⟩ = some (.string ((rd_T29 l0 x5_1).f2)) ∧ w'.cell? (ad205.add ((x5_1).toNat * 3)) = some (.int .i64 ((rd_T29 l1 x5_1).f0)) ∧ w'.cell? ⟨(ad205.add ((x5_1).toNat * 3)).block, (ad205.add ((x5_1).toNat * 3)).off + 1, none⟩ = some (.int .i64 ((rd_T29 l1 x5_1).f1)) ∧ w'.cell? ⟨(ad205.add ((x5_1).toNat * 3)).block, (ad205.add ((x5_1).toNat * 3)).off + 2, none⟩ = some (.string ((rd_T29 l1 x5_1).f2))) (ds := []) (tf 0 10) (by kernel_rfl) rfl rfl ⟨(hb_ HB hw204_0), (hb_ HB hw204_1), (hb_ HB hw204_2), (hb_ HB hw205_0), (hb_ HB hw205_1), (hb_ HB hw205_2)⟩ (fun hHeld => ?_); refine with_tabW laws_eqValueS.tab6 laws_eqValueS.bits6 (fun HT_ HW_ => ?_)
        generalize wr.drew = w9 at HB hx204_0 hx204_1 hx204_2 hx205_0 hx205_1 hx205_2 hHeld ⊢
        iterate 3 (refine pl_ ?_)
        refine plx_ 4 #[true, true, true, false, true, false, false, false, false, false] ?_
        refine plx_ 5 #[true, true, true, false, true, true, false, false, false, false] ?_
        refine plx_ 6 #[true, true, true, false, true, true, true, false, false, false] ?_
        refine tlx_ 3 (tf 7 3) ?_
        refine tl_ ?_
        refine one_ (i := 8) (N := some 25) (tf 9 1) rfl rfl (one_of HT_.out (by kernel_rfl)) (by decide) (fun K hK => ?_)
        refine gs_ Tryd.func50 #[.agg #[.int .i64 ((rd_T29 l0 x5_1).f0), .int .i64 ((rd_T29 l0 x5_1).f1), .string ((rd_T29 l0 x5_1).f2)], .agg #[.int .i64 ((rd_T29 l1 x5_1).f0), .int .i64 ((rd_T29 l1 x5_1).f1), .string ((rd_T29 l1 x5_1).f2)]] ?_
        with_reducible refine (laws_eqValue.calls ((rd_T29 l0 x5_1).f0) ((rd_T29 l0 x5_1).f1) ((rd_T29 l0 x5_1).f2) ((rd_T29 l1 x5_1).f0) ((rd_T29 l1 x5_1).f1) ((rd_T29 l1 x5_1).f2) true _ A7.out).mono ?_
        rintro e w10 ⟨rfl, hb⟩
        refine ⟨_, rfl, ?_⟩
        replace HB := bs_ hb
        (try clear hb)
        (try clear hb2)
        (try clear hk)
        (try clear hi)
        refine hK.out _ _ ⟨(have h_ := hb_ HB hw204_0; h_), (have h_ := hb_ HB hw204_1; h_), (have h_ := hb_ HB hw204_2; h_), (have h_ := hb_ HB hw205_0; h_), (have h_ := hb_ HB hw205_1; h_), (have h_ := hb_ HB hw205_2; h_)⟩ (fun hHeld => ?_)
        clear hK K
        refine nm_ ?_
        refine plx_ 9 (tf 10 0) ?_
        refine done_ (done_of HT_.out (by kernel_rfl)) ?_
        try go_wp2
        go_roundg k1
        case measure => have := HK1.out; omega
        case rel => exact ⟨(wrap64 (x5_1 + 1)), rs_, H', ⟨by have := HK1.out; omega⟩, ⟨bb_⟩⟩
       ·replace c8 := Bool.eq_false_iff.mpr c8
        subst c8
        have H1 : (some false) = some r := by rw [if_neg (show ¬ (false = true) by decide)] at H; exact H
        clear H
        have H := H1
        clear H1
        obtain rfl := Option.some.inj H
        try go_wp2
        replace HB := Aside0.mk (below_drew1 HB.out)
        have p204 : 0 ≤ (x5_1 : Int) := of_decide_eq_true (by first | (with_reducible assumption) | assumption)
        have q204 : x5_1 < (l0.length : Int) := of_decide_eq_true (by first | (with_reducible assumption) | assumption)
        obtain ⟨ad204, e204, hx204_0, hx204_1, hx204_2⟩ := at_T29 HR0.out x5_1 p204 q204
        have hw204_2 := hx204_2
        have hw204_1 := hx204_1
        have hw204_0 := hx204_0
        cases e204
        replace hx204_0 := hb_ HB hx204_0
        replace hx204_1 := hb_ HB hx204_1
        replace hx204_2 := hb_ HB hx204_2
        replace p204 := eq_true p204
        replace q204 := eq_true q204
        have p205 : 0 ≤ (x5_1 : Int) := of_decide_eq_true (by first | (with_reducible assumption) | assumption)
        have q205 : x5_1 < (l1.length : Int) := of_decide_eq_true (by first | (with_reducible assumption) | assumption)
        obtain ⟨ad205, e205, hx205_0, hx205_1, hx205_2⟩ := at_T29 HR1.out x5_1 p205 q205
        have hw205_2 := hx205_2
        have hw205_1 := hx205_1
        have hw205_0 := hx205_0
        cases e205
        replace hx205_0 := hb_ HB hx205_0
        replace hx205_1 := hb_ HB hx205_1
        replace hx205_2 := hb_ HB hx205_2
        replace p205 := eq_true p205
        replace q205 := eq_true q205
        refine start_ (n := 10) (S := fun w' => w'.cell? (ad204.add ((x5_1).toNat * 3)) = some (.int .i64 ((rd_T29 l0 x5_1).f0)) ∧ w'.cell? ⟨(ad204.add ((x5_1).toNat * 3)).block, (ad204.add ((x5_1).toNat * 3)).off + 1, none⟩ = some (.int .i64 ((rd_T29 l0 x5_1).f1)) ∧ w'.cell? ⟨(ad204.add ((x5_1).toNat * 3)).block, (ad204.add ((x5_1).toNat * 3)).off + 2, none⟩ = some (.string ((rd_T29 l0 x5_1).f2)) ∧ w'.cell? (ad205.add ((x5_1).toNat * 3)) = some (.int .i64 ((rd_T29 l1 x5_1).f0)) ∧ w'.cell? ⟨(ad205.add ((x5_1).toNat * 3)).block, (ad205.add ((x5_1).toNat * 3)).off + 1, none⟩ = some (.int .i64 ((rd_T29 l1 x5_1).f1)) ∧ w'.cell? ⟨(ad205.add ((x5_1).toNat * 3)).block, (ad205.add ((x5_1).toNat * 3)).off + 2, none⟩ = some (.string ((rd_T29 l1 x5_1).f2))) (ds := []) (tf 0 10) (by kernel_rfl) rfl rfl ⟨(hb_ HB hw204_0), (hb_ HB hw204_1), (hb_ HB hw204_2), (hb_ HB hw205_0), (hb_ HB hw205_1), (hb_ HB hw205_2)⟩ (fun hHeld => ?_); refine with_tabW laws_eqValueS.tab6 laws_eqValueS.bits6 (fun HT_ HW_ => ?_)
        generalize wr.drew = w11 at HB hx204_0 hx204_1 hx204_2 hx205_0 hx205_1 hx205_2 hHeld ⊢
        iterate 3 (refine pl_ ?_)
        refine plx_ 4 #[true, true, true, false, true, false, false, false, false, false] ?_
        refine plx_ 5 #[true, true, true, false, true, true, false, false, false, false] ?_
        refine plx_ 6 #[true, true, true, false, true, true, true, false, false, false] ?_
        refine tlx_ 3 (tf 7 3) ?_
        refine tl_ ?_
        refine one_ (i := 8) (N := some 25) (tf 9 1) rfl rfl (one_of HT_.out (by kernel_rfl)) (by decide) (fun K hK => ?_)
        refine gs_ Tryd.func50 #[.agg #[.int .i64 ((rd_T29 l0 x5_1).f0), .int .i64 ((rd_T29 l0 x5_1).f1), .string ((rd_T29 l0 x5_1).f2)], .agg #[.int .i64 ((rd_T29 l1 x5_1).f0), .int .i64 ((rd_T29 l1 x5_1).f1), .string ((rd_T29 l1 x5_1).f2)]] ?_
        with_reducible refine (laws_eqValue.calls ((rd_T29 l0 x5_1).f0) ((rd_T29 l0 x5_1).f1) ((rd_T29 l0 x5_1).f2) ((rd_T29 l1 x5_1).f0) ((rd_T29 l1 x5_1).f1) ((rd_T29 l1 x5_1).f2) false _ A7.out).mono ?_
        rintro e w12 ⟨rfl, hb⟩
        refine ⟨_, rfl, ?_⟩
        replace HB := bs_ hb
        (try clear hb)
        (try clear hb2)
        (try clear hk)
        (try clear hi)
        refine hK.out _ _ ⟨(have h_ := hb_ HB hw204_0; h_), (have h_ := hb_ HB hw204_1; h_), (have h_ := hb_ HB hw204_2; h_), (have h_ := hb_ HB hw205_0; h_), (have h_ := hb_ HB hw205_1; h_), (have h_ := hb_ HB hw205_2; h_)⟩ (fun hHeld => ?_)
        clear hK K
        refine nm_ ?_
        refine plx_ 9 (tf 10 0) ?_
        refine done_ (done_of HT_.out (by kernel_rfl)) ?_
        try go_wp2
        go_ret
        exact ⟨er_, bb_⟩
      ·rw [if_neg c6] at H
       exact absurd H (by simp)
     ·rw [if_neg c5] at H
      exact absurd H (by simp)
    ·rw [if_neg c4] at H
     have c4b0 : decide (x5_1 < (l0.length : Int)) = false := decide_eq_false c4
     clear c4
     obtain rfl := Option.some.inj H
     go_wp2
     go_ret
     exact ⟨er_, bb_⟩
 ·rw [if_neg c3] at H
  have c3b0 : ((l0.length : Int) == (l1.length : Int)) = false := beq_eq_false_iff_ne.mpr c3
  have c3b1 : ((l0.length : Int) != (l1.length : Int)) = true := bne_iff_ne.mpr c3
  have c3b2 : (l0.length == l1.length) = false := by first | simpa using c3 | (simp at c3 ⊢; omega)
  obtain rfl := Option.some.inj H
  go_enter Tryd.func132, Tryd.ntmps132
  go_wp2
  go_ret
  exact ⟨er_, bb_⟩

/-! ### laws_eqCounted: function 107 -/
def laws_eqCounted.f (k : Nat) (l0_0 : List (S29)) (a0_1 : Int) (l1_0 : List (S29)) (a1_1 : Int) : Option (Bool) := (laws_eqValueS.f k l0_0 l1_0).bind fun t209 => (if t209 = true then (if a0_1 = a1_1 then (some true) else (some false)) else (some false))
set_option maxHeartbeats 8000000 in
set_option maxRecDepth 100000 in
theorem laws_eqCounted.calls (k : Nat) (A0_0 : Option Addr) (c0_0 : Nat) (l0_0 : List (S29)) (a0_1 : Int) (A1_0 : Option Addr) (c1_0 : Nat) (l1_0 : List (S29)) (a1_1 : Int) (r : Bool) (w : World) (hr0_0 : Kd.C k29 w A0_0 l0_0.length l0_0) (hc0_0 : l0_0.length ≤ c0_0) (hr1_0 : Kd.C k29 w A1_0 l1_0.length l1_0) (hc1_0 : l1_0.length ≤ c1_0) (h : laws_eqCounted.f k l0_0 a0_1 l1_0 a1_1 = some r) :
  Calls Tryd.prog 107 #[.agg #[.slice A0_0 l0_0.length c0_0, .int .i64 a0_1], .agg #[.slice A1_0 l1_0.length c1_0, .int .i64 a1_1]] w fun e w' => e = .returned (.bool r) ∧ Below w.heap.size w w' := by
 have hu109 := Tryd.underlying109
 have HR0_0 := Aside0.mk hr0_0
 have HC0_0 := Aside0.mk hc0_0
 clear hr0_0 hc0_0
 have HR1_0 := Aside0.mk hr1_0
 have HC1_0 := Aside0.mk hc1_0
 clear hr1_0 hc1_0
 have HB := Aside0.mk (Below.refl w.heap.size w)
 have H : ((laws_eqValueS.f k l0_0 l1_0).bind fun t209 => (if t209 = true then (if a0_1 = a1_1 then (some true) else (some false)) else (some false))) = some r := h
 clear h
 replace H := Option.bind_eq_some_iff.mp H
 obtain ⟨t209, A30, H⟩ := H
 replace H : (if t209 = true then (if a0_1 = a1_1 then (some true) else (some false)) else (some false)) = some r := H
 have A3 := Aside0.mk A30
 clear A30
 by_cases c4 : t209 = true
 ·subst c4
  have H1 : (if a0_1 = a1_1 then (some true) else (some false)) = some r := by rw [if_pos rfl] at H; exact H
  clear H
  have H := H1
  clear H1
  by_cases c5 : a0_1 = a1_1
  ·rw [if_pos c5] at H
   have c5b0 : (a0_1 == a1_1) = true := beq_iff_eq.mpr c5
   have c5b1 : (a0_1 != a1_1) = false := bne_eq_false_iff_eq.mpr c5
   clear c5
   obtain rfl := Option.some.inj H
   go_enter Tryd.func107, Tryd.ntmps107
   go_wp2_with (first | ((with_reducible refine gate_dst (N := 2) rfl ?_); refine bx_ 2 #[.slice A0_0 l0_0.length c0_0, .int .i64 a0_1] 109 ?_; intro gb207 hg w6 hbox hb; have BK207 := Aside0.mk (hbox); have GW207 := gw_ hg; have GE207 := gw_ hg; replace HB := bs_ hb; clear hb hbox hg) | ((with_reducible refine gate_dst (N := 3) rfl ?_); refine bx_ 3 #[.slice A1_0 l1_0.length c1_0, .int .i64 a1_1] 109 ?_; intro gb208 hg w7 hbox hb; have BK208 := Aside0.mk (hbox); have GW208 := gw_ hg; have GE208 := gw_ hg; have NB207_208 := nl_ hg BK207; have NB208_207 := ng_ hg BK207; replace BK207 := bkb_ BK207 hb; replace HB := bs_ hb; clear hb hbox hg; have hnb8 := NB207_208.out; have hnc8 := NB208_207.out; obtain ⟨hcz9_0, hcz9_1, hfz9_0, hfz9_1⟩ := b2_ BK207; obtain ⟨hcz10_0, hcz10_1, hfz10_0, hfz10_1⟩ := b2_ BK208) | ((with_reducible refine gate_callee (f := 132) rfl ?_); refine gsL_ (some 9) Tryd.func132 #[.slice A0_0 l0_0.length c0_0, .slice A1_0 l1_0.length c1_0] ?_; (with_reducible refine (laws_eqValueS.calls k _ _ l0_0 _ _ l1_0 true _ ?side1 ?side2 ?side3 ?side4 A3.out).mono ?_); (case side1 => exact ck_ (Kd.C_below HR0_0.out HB.out)); (case side2 => exact HC0_0.out); (case side3 => exact ck_ (Kd.C_below HR1_0.out HB.out)); (case side4 => exact HC1_0.out); rintro e w11 ⟨rfl, hb⟩; refine ⟨_, rfl, ?_⟩; replace BK207 := bkb_ BK207 hb; replace BK208 := bkb_ BK208 hb; replace HB := bs_ hb; (try clear hb); (try clear hb2); (try clear hk); (try clear hi); obtain ⟨hcz12_0, hcz12_1, hfz12_0, hfz12_1⟩ := b2_ BK207; obtain ⟨hcz13_0, hcz13_1, hfz13_0, hfz13_1⟩ := b2_ BK208))
   go_ret
   exact ⟨er_, bb_⟩
  ·rw [if_neg c5] at H
   have c5b0 : (a0_1 == a1_1) = false := beq_eq_false_iff_ne.mpr c5
   have c5b1 : (a0_1 != a1_1) = true := bne_iff_ne.mpr c5
   obtain rfl := Option.some.inj H
   go_enter Tryd.func107, Tryd.ntmps107
   go_wp2_with (first | ((with_reducible refine gate_dst (N := 2) rfl ?_); refine bx_ 2 #[.slice A0_0 l0_0.length c0_0, .int .i64 a0_1] 109 ?_; intro gb207 hg w14 hbox hb; have BK207 := Aside0.mk (hbox); have GW207 := gw_ hg; have GE207 := gw_ hg; replace HB := bs_ hb; clear hb hbox hg) | ((with_reducible refine gate_dst (N := 3) rfl ?_); refine bx_ 3 #[.slice A1_0 l1_0.length c1_0, .int .i64 a1_1] 109 ?_; intro gb208 hg w15 hbox hb; have BK208 := Aside0.mk (hbox); have GW208 := gw_ hg; have GE208 := gw_ hg; have NB207_208 := nl_ hg BK207; have NB208_207 := ng_ hg BK207; replace BK207 := bkb_ BK207 hb; replace HB := bs_ hb; clear hb hbox hg; have hnb16 := NB207_208.out; have hnc16 := NB208_207.out; obtain ⟨hcz17_0, hcz17_1, hfz17_0, hfz17_1⟩ := b2_ BK207; obtain ⟨hcz18_0, hcz18_1, hfz18_0, hfz18_1⟩ := b2_ BK208) | ((with_reducible refine gate_callee (f := 132) rfl ?_); refine gsL_ (some 9) Tryd.func132 #[.slice A0_0 l0_0.length c0_0, .slice A1_0 l1_0.length c1_0] ?_; (with_reducible refine (laws_eqValueS.calls k _ _ l0_0 _ _ l1_0 true _ ?side1 ?side2 ?side3 ?side4 A3.out).mono ?_); (case side1 => exact ck_ (Kd.C_below HR0_0.out HB.out)); (case side2 => exact HC0_0.out); (case side3 => exact ck_ (Kd.C_below HR1_0.out HB.out)); (case side4 => exact HC1_0.out); rintro e w19 ⟨rfl, hb⟩; refine ⟨_, rfl, ?_⟩; replace BK207 := bkb_ BK207 hb; replace BK208 := bkb_ BK208 hb; replace HB := bs_ hb; (try clear hb); (try clear hb2); (try clear hk); (try clear hi); obtain ⟨hcz20_0, hcz20_1, hfz20_0, hfz20_1⟩ := b2_ BK207; obtain ⟨hcz21_0, hcz21_1, hfz21_0, hfz21_1⟩ := b2_ BK208))
   go_ret
   exact ⟨er_, bb_⟩
 ·replace c4 := Bool.eq_false_iff.mpr c4
  subst c4
  have H1 : (some false) = some r := by rw [if_neg (show ¬ (false = true) by decide)] at H; exact H
  clear H
  have H := H1
  clear H1
  obtain rfl := Option.some.inj H
  go_enter Tryd.func107, Tryd.ntmps107
  go_wp2_with (first | ((with_reducible refine gate_dst (N := 2) rfl ?_); refine bx_ 2 #[.slice A0_0 l0_0.length c0_0, .int .i64 a0_1] 109 ?_; intro gb207 hg w22 hbox hb; have BK207 := Aside0.mk (hbox); have GW207 := gw_ hg; have GE207 := gw_ hg; replace HB := bs_ hb; clear hb hbox hg) | ((with_reducible refine gate_dst (N := 3) rfl ?_); refine bx_ 3 #[.slice A1_0 l1_0.length c1_0, .int .i64 a1_1] 109 ?_; intro gb208 hg w23 hbox hb; have BK208 := Aside0.mk (hbox); have GW208 := gw_ hg; have GE208 := gw_ hg; have NB207_208 := nl_ hg BK207; have NB208_207 := ng_ hg BK207; replace BK207 := bkb_ BK207 hb; replace HB := bs_ hb; clear hb hbox hg; have hnb24 := NB207_208.out; have hnc24 := NB208_207.out; obtain ⟨hcz25_0, hcz25_1, hfz25_0, hfz25_1⟩ := b2_ BK207; obtain ⟨hcz26_0, hcz26_1, hfz26_0, hfz26_1⟩ := b2_ BK208) | ((with_reducible refine gate_callee (f := 132) rfl ?_); refine gsL_ (some 9) Tryd.func132 #[.slice A0_0 l0_0.length c0_0, .slice A1_0 l1_0.length c1_0] ?_; (with_reducible refine (laws_eqValueS.calls k _ _ l0_0 _ _ l1_0 false _ ?side1 ?side2 ?side3 ?side4 A3.out).mono ?_); (case side1 => exact ck_ (Kd.C_below HR0_0.out HB.out)); (case side2 => exact HC0_0.out); (case side3 => exact ck_ (Kd.C_below HR1_0.out HB.out)); (case side4 => exact HC1_0.out); rintro e w27 ⟨rfl, hb⟩; refine ⟨_, rfl, ?_⟩; replace BK207 := bkb_ BK207 hb; replace BK208 := bkb_ BK208 hb; replace HB := bs_ hb; (try clear hb); (try clear hb2); (try clear hk); (try clear hi)))
  go_ret
  exact ⟨er_, bb_⟩

end Go.Proofs.YthgdmdabdlgliaaDoor.PFnExactBagText
