-- WRITTEN BY xprint.py, a program of this session over the kit's printer: by nobody's hand
-- PRESSED
import Derived.Test.YthgdmdabdlgliaaDoorPress
import Derived.Test.YthgdmdabdlgliaaDoorPFnExactPlanTextx0
import Derived.Test.YthgdmdabdlgliaaDoorPFnExactPlanTextx1
import Derived.Test.YthgdmdabdlgliaaDoorPFnExactPlanTextx7
namespace Go.Proofs.YthgdmdabdlgliaaDoor.PFnExactPlanText
open Go.RowKit Go.Proofs.YthgdmdabdlgliaaDoorW.PrintWords Go.Proofs.YthgdmdabdlgliaaDoorW.PrintLast Go.Proofs.YthgdmdabdlgliaaDoorW.PrintMore
set_option linter.unusedVariables false
set_option linter.unusedSimpArgs false

attribute [local go_sem high] eqA29
/-! ### impl_isExp: function 87 -/
-- by hand
/-- A value that is nothing. -/
def nullB (v0 v1 : Int) (v2 : ByteArray) : Bool := v0 == 0 && (v1 == 0 && (v2.toList == ([] : List UInt8)))
/-- What the kind of an expression asks: so many kids, and whether all else is right. -/
def isExpS (k : Nat) (a n v0 v1 : Int) (v2 op : ByteArray) : Option (Int × Bool) :=
  if a = 0 then (impl_isColumn.f n).bind fun b => some (0, b && nullB v0 v1 v2 && (op.toList == ([] : List UInt8)))
  else if a = 1 then (impl_ValueOk.f v0 v1 v2).bind fun b => some (0, b && (n == 0) && (op.toList == ([] : List UInt8)))
  else if a = 2 then (impl_isOp.f k op).bind fun b => some (2, b && (n == 0) && nullB v0 v1 v2)
  else if a = 3 ∨ a = 4 then some (1, (n == 0) && nullB v0 v1 v2 && (op.toList == ([] : List UInt8)))
  else some (0, false)
theorem isExpS_0 {k : Nat} {a n v0 v1 : Int} {v2 op : ByteArray} {b : Bool} (h : a = 0) (hb : impl_isColumn.f n = some b) : isExpS k a n v0 v1 v2 op = some (0, b && nullB v0 v1 v2 && (op.toList == ([] : List UInt8))) := by unfold isExpS; rw [if_pos h, hb]; rfl
theorem isExpS_1 {k : Nat} {a n v0 v1 : Int} {v2 op : ByteArray} {b : Bool} (h : a = 1) (hb : impl_ValueOk.f v0 v1 v2 = some b) : isExpS k a n v0 v1 v2 op = some (0, b && (n == 0) && (op.toList == ([] : List UInt8))) := by unfold isExpS; rw [if_neg (by omega), if_pos h, hb]; rfl
theorem isExpS_2 {k : Nat} {a n v0 v1 : Int} {v2 op : ByteArray} {b : Bool} (h : a = 2) (hb : impl_isOp.f k op = some b) : isExpS k a n v0 v1 v2 op = some (2, b && (n == 0) && nullB v0 v1 v2) := by unfold isExpS; rw [if_neg (by omega), if_neg (by omega), if_pos h, hb]; rfl
theorem isExpS_3 {k : Nat} {a n v0 v1 : Int} {v2 op : ByteArray} (h : a = 3 ∨ a = 4) : isExpS k a n v0 v1 v2 op = some (1, (n == 0) && nullB v0 v1 v2 && (op.toList == ([] : List UInt8))) := by unfold isExpS; rw [if_neg (by omega), if_neg (by omega), if_neg (by omega), if_pos h]
theorem isExpS_5 {k : Nat} {a n v0 v1 : Int} {v2 op : ByteArray} (h0 : ¬ a = 0) (h1 : ¬ a = 1) (h2 : ¬ a = 2) (h3 : ¬ (a = 3 ∨ a = 4)) : isExpS k a n v0 v1 v2 op = some (0, false) := by unfold isExpS; rw [if_neg h0, if_neg h1, if_neg h2, if_neg h3]
def impl_isExp.f : Nat → Int → Int → Int → Int → ByteArray → ByteArray → List S32 → Int → Option Bool
  | 0, _, _, _, _, _, _, _, _ => none
  | k + 1, a, n, v0, v1, v2, op, kids, d => (isExpS k a n v0 v1 v2 op).bind fun p => if p.2 = true then (if d ≤ 12 then (if (kids.length : Int) = p.1 then allO (fun x => impl_isExp.f k x.f0 x.f1 x.f2.f0 x.f2.f1 x.f2.f2 x.f3 x.f4 (wrap64 (d + 1))) kids else some false) else some false) else some false
set_option maxHeartbeats 4000000 in
set_option maxRecDepth 100000 in
theorem isExp_cb (k : Nat) (d : Int) (gd : Nat) (w0 : World) (ih : ∀ (a n v0 v1 : Int) (v2 op : ByteArray) (A : Option Addr) (c : Nat) (l : List S32) (d : Int) (r : Bool) (w : World) (hr : Kd.C k32 w A l.length l) (hc : l.length ≤ c) (h : impl_isExp.f k a n v0 v1 v2 op l d = some r),
    Calls Tryd.prog 87 #[.agg #[.int .i64 a, .int .i64 n, .int .i64 v0, .int .i64 v1, .string v2, .string op, .slice A l.length c], .int .i64 d] w fun e w' => e = .returned (.bool r) ∧ Below w.heap.size w w')
    (xs : List S32) (hc : w0.cell? ⟨gd, 0, none⟩ = some (.int .i64 d)) (hg : gd < w0.heap.size) : CB Tryd.prog k32 (fun cs => Value.agg cs.toArray) 116 #[.pointer (some ⟨gd, 0, none⟩)] (fun x => impl_isExp.f k x.f0 x.f1 x.f2.f0 x.f2.f1 x.f2.f2 x.f3 x.f4 (wrap64 (d + 1))) xs w0 := by
  intro W x cs b hW _ hK hf
  obtain ⟨A6, c6, rfl, hl6, hg6⟩ := k32_open hK
  have hcd : W.cell? ⟨gd, 0, none⟩ = some (.int .i64 d) := (hW.cell (p := ⟨gd, 0, none⟩) hg).trans hc
  have hlt : gd < W.heap.size := Nat.lt_of_lt_of_le hg hW.size
  have hne : gd ≠ W.heap.size := by omega
  have hu := Tryd.underlying32
  have hcall := fun V (hV : Below W.heap.size W V) => ih x.f0 x.f1 x.f2.f0 x.f2.f1 x.f2.f2 x.f3 A6 c6 x.f4 (wrap64 (d + 1)) b V (Kd.C_below hg6 hV) hl6 hf
  have HC := Aside0.mk hcall
  have hcd' := fun o : Obj => cell_alloc_old o hcd
  clear hK hf hcall ih hg6 hW hc hg
  show Calls Tryd.prog 116 #[.agg #[.int .i64 x.f0, .int .i64 x.f1, .int .i64 x.f2.f0, .int .i64 x.f2.f1, .string x.f2.f2, .string x.f3, .slice A6 x.f4.length c6], .pointer (some ⟨gd, 0, none⟩)] W _
  go_enter Tryd.func116, Tryd.ntmps116
  go_wp2_with (go_at_call 87; (try simp only [i64_w]); refine (HC.out _ (by repeat (first | exact Below.refl _ _ | apply below_alloc | apply pw_below_drewN | apply below_drew1))).mono ?_; rintro e w' ⟨rfl, hb'⟩)
  go_ret
  exact ⟨rfl, (by repeat (first | exact Below.refl _ _ | apply below_alloc | apply pw_below_drewN | apply below_drew1) : Below W.heap.size W _).trans (hb'.mono (by simp))⟩
set_option maxHeartbeats 8000000 in
set_option maxRecDepth 100000 in
theorem impl_isExp.calls (k : Nat) : ∀ (a n v0 v1 : Int) (v2 op : ByteArray) (A : Option Addr) (c : Nat) (l : List S32) (d : Int) (r : Bool) (w : World) (hr : Kd.C k32 w A l.length l) (hc : l.length ≤ c) (h : impl_isExp.f k a n v0 v1 v2 op l d = some r),
    Calls Tryd.prog 87 #[.agg #[.int .i64 a, .int .i64 n, .int .i64 v0, .int .i64 v1, .string v2, .string op, .slice A l.length c], .int .i64 d] w fun e w' => e = .returned (.bool r) ∧ Below w.heap.size w w' := by
  induction k with
  | zero => intro a n v0 v1 v2 op A c l d r w hr hc h; exact absurd h (by simp [impl_isExp.f])
  | succ k ih =>
  intro a n v0 v1 v2 op A c l d r w hr hc h
  obtain ⟨⟨kn, rt⟩, hs, h⟩ := Option.bind_eq_some_iff.1 h
  replace h : (if rt = true then (if d ≤ 12 then (if (l.length : Int) = kn then allO (fun x => impl_isExp.f k x.f0 x.f1 x.f2.f0 x.f2.f1 x.f2.f2 x.f3 x.f4 (wrap64 (d + 1))) l else some false) else some false) else some false) = some r := h
  have hu := Tryd.underlying32
  have hu2 := Tryd.underlying29
  have HS := Aside0.mk hs
  have HH := Aside0.mk h
  have HR := Aside0.mk hr
  have HC := Aside0.mk hc
  have IH := Aside0.mk ih
  have HB := Aside0.mk (Below.refl w.heap.size w)
  clear hs h hr hc ih
  go_enter Tryd.func87, Tryd.ntmps87
  go_upto_block 0 with (first
    | ((with_reducible refine gate_dst (N := 2) rfl ?_); refine bx_ 2 #[.int .i64 a, .int .i64 n, .int .i64 v0, .int .i64 v1, .string v2, .string op, .slice A l.length c] 32 ?_; intro g hg w1 hbox hb; have BK := Aside0.mk hbox; have GW := gw_ hg; replace HB := bs_ hb; clear hb hbox hg)
    | ((with_reducible refine gate_dst (N := 3) rfl ?_); refine bx_ 3 #[.int .i64 d] 3 ?_; intro gd hg w2 hbox hb; have BD := Aside0.mk hbox; have GD := gw_ hg; replace BK := bkb_ BK hb; replace HB := bs_ hb; clear hb hbox hg; have b0 := bc_ (v := (.int .i64 a)) BK 0))
  clear b0
  (try simp only [Act.put, List.setIfInBounds_toArray, List.set_cons_zero, List.set_cons_succ])
  go_cut [5, 6] (fun v5 v6 wc => ∃ (kn : Int) (rt : Bool), v5 = .int .i64 kn ∧ v6 = .bool rt ∧ Aside0 (isExpS k a n v0 v1 v2 op = some (kn, rt)) ∧ Aside0 (wc.heap[g]? = some (.cells #[.int .i64 a, .int .i64 n, .int .i64 v0, .int .i64 v1, .string v2, .string op, .slice A l.length c] 32 (0, 0))) ∧ Aside0 (wc.heap[gd]? = some (.cells #[.int .i64 d] 3 (0, 0))) ∧ Aside0 (Below w.heap.size w wc))
  case first =>
    clear IH HH HR HC
    have h := HS.out
    unfold isExpS at h
    by_cases a0 : a = 0
    · have d0 : (a == 0) = true := beq_iff_eq.mpr a0
      rw [if_pos a0] at h
      obtain ⟨b, hb, _⟩ := Option.bind_eq_some_iff.1 h
      have HE := Aside0.mk (isExpS_0 (k := k) (v0 := v0) (v1 := v1) (v2 := v2) (op := op) a0 hb)
      have HC := Aside0.mk hb
      clear h hb a0 HS
      go_wp2
      replace BK := Aside0.mk (blk_drew BK.out)
      replace BD := Aside0.mk (blk_drew BD.out)
      replace HB := Aside0.mk (below_drew1 HB.out)
      refine start_ (n := 15) (S := fun w' => w'.cell? ⟨g, 1, none⟩ = some (.int .i64 n) ∧ w'.cell? ⟨g, 2, none⟩ = some (.int .i64 v0) ∧ w'.cell? ⟨g, 3, none⟩ = some (.int .i64 v1) ∧ w'.cell? ⟨g, 4, none⟩ = some (.string v2) ∧ w'.cell? ⟨g, 5, none⟩ = some (.string op)) (ds := []) (tf 0 15) (by kernel_rfl) rfl rfl ⟨bc_ BK 1, bc_ BK 2, bc_ BK 3, bc_ BK 4, bc_ BK 5⟩ (fun hHeld => ?_)
      generalize w2.drew = wd at BK BD HB hHeld ⊢
      refine plk_ ?_
      refine tlk_ ?_
      refine onek_ (fun K hK => ?_)
      refine gs_ Tryd.func112 #[.int .i64 n] ?_
      refine (impl_isColumn.calls n b _ HC.out).mono ?_
      rintro e w' ⟨rfl, ⟨nd, rfl⟩⟩
      refine ⟨_, rfl, ?_⟩
      replace BK := Aside0.mk (blk_drewN BK.out nd); replace BD := Aside0.mk (blk_drewN BD.out nd); replace HB := Aside0.mk (pw_below_drewN HB.out nd)
      refine hK.out _ _ ⟨bc_ BK 1, bc_ BK 2, bc_ BK 3, bc_ BK 4, bc_ BK 5⟩ (fun hHeld => ?_); clear hK K; refine nm_ ?_
      cases b with
      | false =>
        repeat (first | (refine pdk_ ?_) | (refine plk_ ?_) | (refine tlk_ ?_))
        refine done_ (by kernel_rfl) ?_
        go_wp2
        go_meet
        case rel => exact ⟨_, _, rfl, rfl, ⟨by first | exact HE.out | (rw [HE.out]; simp [nullB, *])⟩, BK, BD, HB⟩
      | true =>
        cases hz : nullB v0 v1 v2 with
        | false =>
          have hz0 : (v0 == 0 && (v1 == 0 && v2.toList.isEmpty)) = false := by simpa [nullB] using hz
          have HZ := Aside0.mk hz
          clear hz
          repeat (first | (refine pdk_ ?_) | (refine plk_ ?_) | (refine tlk_ ?_))
          refine onek_ (fun K hK => ?_)
          refine gs_ Tryd.func113 #[] ?_
          refine (impl_null.calls 0 0 ⟨#[]⟩ _ rfl).mono ?_
          rintro e w' ⟨rfl, hb⟩
          refine ⟨_, rfl, ?_⟩
          replace BK := bkb_ BK hb; replace BD := bkb_ BD hb; replace HB := bs_ hb; clear hb
          refine hK.out _ _ ⟨bc_ BK 1, bc_ BK 2, bc_ BK 3, bc_ BK 4, bc_ BK 5⟩ (fun hHeld => ?_); clear hK K; refine nm_ ?_
          repeat (first | (refine pdk_ ?_) | (refine plk_ ?_) | (refine tlk_ ?_))
          refine done_ (by kernel_rfl) ?_
          go_wp2
          go_meet
          case rel => exact ⟨_, _, rfl, rfl, ⟨by first | exact HE.out | (rw [HE.out]; simp [HZ.out])⟩, BK, BD, HB⟩
        | true =>
          have hz0 : (v0 == 0 && (v1 == 0 && v2.toList.isEmpty)) = true := by simpa [nullB] using hz
          have HZ := Aside0.mk hz
          clear hz
          repeat (first | (refine pdk_ ?_) | (refine plk_ ?_) | (refine tlk_ ?_))
          refine onek_ (fun K hK => ?_)
          refine gs_ Tryd.func113 #[] ?_
          refine (impl_null.calls 0 0 ⟨#[]⟩ _ rfl).mono ?_
          rintro e w' ⟨rfl, hb⟩
          refine ⟨_, rfl, ?_⟩
          replace BK := bkb_ BK hb; replace BD := bkb_ BD hb; replace HB := bs_ hb; clear hb
          refine hK.out _ _ ⟨bc_ BK 1, bc_ BK 2, bc_ BK 3, bc_ BK 4, bc_ BK 5⟩ (fun hHeld => ?_); clear hK K; refine nm_ ?_
          repeat (first | (refine pdk_ ?_) | (refine plk_ ?_) | (refine tlk_ ?_))
          refine done_ (by kernel_rfl) ?_
          go_wp2
          go_meet
          case rel => exact ⟨_, _, rfl, rfl, ⟨by first | exact HE.out | (rw [HE.out]; simp [HZ.out])⟩, BK, BD, HB⟩
    have d0 : (a == 0) = false := beq_eq_false_iff_ne.mpr a0
    by_cases a1 : a = 1
    · have d1 : (a == 1) = true := beq_iff_eq.mpr a1
      rw [if_neg a0, if_pos a1] at h
      obtain ⟨b, hb, _⟩ := Option.bind_eq_some_iff.1 h
      have HE := Aside0.mk (isExpS_1 (k := k) (n := n) (op := op) a1 hb)
      have HC := Aside0.mk hb
      clear h hb a0 a1 HS
      have b1 := bc_ (v := (.int .i64 v0)) BK 2
      have b2 := bc_ (v := (.int .i64 v1)) BK 3
      have b3 := bc_ (v := (.string v2)) BK 4
      cases b with
      | false =>
        go_wp2_with (go_at_call 24; refine (impl_ValueOk.calls v0 v1 v2 false _ HC.out).mono ?_; rintro e w' ⟨rfl, hb⟩; replace BK := bkb_ BK hb; replace BD := bkb_ BD hb; replace HB := bs_ hb; clear hb)
        go_meet
        case rel => exact ⟨_, _, rfl, rfl, ⟨by rw [HE.out]; simp⟩, BK, BD, HB⟩
      | true =>
        cases hn : (n == 0) with
        | false =>
          go_wp2_with (go_at_call 24; refine (impl_ValueOk.calls v0 v1 v2 true _ HC.out).mono ?_; rintro e w' ⟨rfl, hb⟩; replace BK := bkb_ BK hb; replace BD := bkb_ BD hb; replace HB := bs_ hb; clear hb; have b4 := bc_ (v := (.int .i64 n)) BK 1; have b5 := bc_ (v := (.string op)) BK 5)
          go_meet
          case rel => exact ⟨_, _, rfl, rfl, ⟨by rw [HE.out, hn]; simp⟩, BK, BD, HB⟩
        | true =>
          go_wp2_with (go_at_call 24; refine (impl_ValueOk.calls v0 v1 v2 true _ HC.out).mono ?_; rintro e w' ⟨rfl, hb⟩; replace BK := bkb_ BK hb; replace BD := bkb_ BD hb; replace HB := bs_ hb; clear hb; have b4 := bc_ (v := (.int .i64 n)) BK 1; have b5 := bc_ (v := (.string op)) BK 5)
          go_meet
          case rel => exact ⟨_, _, rfl, rfl, ⟨by rw [HE.out, hn]; simp⟩, BK, BD, HB⟩
    by_cases a2 : a = 2
    · have d2 : (a == 2) = true := beq_iff_eq.mpr a2
      rw [if_neg a0, if_neg a1, if_pos a2] at h
      obtain ⟨b, hb, _⟩ := Option.bind_eq_some_iff.1 h
      have HE := Aside0.mk (isExpS_2 (n := n) (v0 := v0) (v1 := v1) (v2 := v2) a2 hb)
      have HC := Aside0.mk hb
      have d1 : (a == 1) = false := beq_eq_false_iff_ne.mpr a1
      clear h hb a0 a1 a2 HS
      go_wp2
      replace BK := Aside0.mk (blk_drew BK.out)
      replace BD := Aside0.mk (blk_drew BD.out)
      replace HB := Aside0.mk (below_drew1 HB.out)
      refine start_ (n := 16) (S := fun w' => w'.cell? ⟨g, 1, none⟩ = some (.int .i64 n) ∧ w'.cell? ⟨g, 2, none⟩ = some (.int .i64 v0) ∧ w'.cell? ⟨g, 3, none⟩ = some (.int .i64 v1) ∧ w'.cell? ⟨g, 4, none⟩ = some (.string v2) ∧ w'.cell? ⟨g, 5, none⟩ = some (.string op)) (ds := []) (tf 0 16) (by kernel_rfl) rfl rfl ⟨bc_ BK 1, bc_ BK 2, bc_ BK 3, bc_ BK 4, bc_ BK 5⟩ (fun hHeld => ?_)
      generalize w2.drew = wd at BK BD HB hHeld ⊢
      refine plk_ ?_
      refine tlk_ ?_
      refine onek_ (fun K hK => ?_)
      refine gs_ Tryd.func114 #[.string op] ?_
      refine (impl_isOp.calls k op b _ HC.out).mono ?_
      rintro e w' ⟨rfl, hb⟩
      refine ⟨_, rfl, ?_⟩
      replace BK := bkb_ BK hb; replace BD := bkb_ BD hb; replace HB := bs_ hb; clear hb
      refine hK.out _ _ ⟨bc_ BK 1, bc_ BK 2, bc_ BK 3, bc_ BK 4, bc_ BK 5⟩ (fun hHeld => ?_); clear hK K; refine nm_ ?_
      cases b with
      | false =>
        repeat (first | (refine pdk_ ?_) | (refine plk_ ?_) | (refine tlk_ ?_))
        refine done_ (by kernel_rfl) ?_
        go_wp2
        go_meet
        case rel => exact ⟨_, _, rfl, rfl, ⟨by rw [HE.out]; simp []⟩, BK, BD, HB⟩
      | true =>
        cases hn : (n == 0) with
        | false =>
          repeat (first | (refine pdk_ ?_) | (refine plk_ ?_) | (refine tlk_ ?_))
          refine done_ (by kernel_rfl) ?_
          go_wp2
          go_meet
          case rel => exact ⟨_, _, rfl, rfl, ⟨by rw [HE.out]; simp [hn]⟩, BK, BD, HB⟩
        | true =>
          repeat (first | (refine pdk_ ?_) | (refine plk_ ?_) | (refine tlk_ ?_))
          refine onek_ (fun K hK => ?_)
          refine gs_ Tryd.func113 #[] ?_
          refine (impl_null.calls 0 0 ⟨#[]⟩ _ rfl).mono ?_
          rintro e w' ⟨rfl, hb⟩
          refine ⟨_, rfl, ?_⟩
          replace BK := bkb_ BK hb; replace BD := bkb_ BD hb; replace HB := bs_ hb; clear hb
          refine hK.out _ _ ⟨bc_ BK 1, bc_ BK 2, bc_ BK 3, bc_ BK 4, bc_ BK 5⟩ (fun hHeld => ?_); clear hK K; refine nm_ ?_
          repeat (first | (refine pdk_ ?_) | (refine plk_ ?_) | (refine tlk_ ?_))
          refine done_ (by kernel_rfl) ?_
          go_wp2
          go_meet
          case rel => exact ⟨_, _, rfl, rfl, ⟨by rw [HE.out]; simp [hn, nullB]⟩, BK, BD, HB⟩
    by_cases a3 : a = 3 ∨ a = 4
    · have d1 : (a == 1) = false := beq_eq_false_iff_ne.mpr a1
      have d2 : (a == 2) = false := beq_eq_false_iff_ne.mpr a2
      have HE := Aside0.mk (isExpS_3 (k := k) (n := n) (v0 := v0) (v1 := v1) (v2 := v2) (op := op) a3)
      have HA := Aside0.mk a3
      clear h a0 a1 a2 a3 HS
      have hthree : ((a == 3) = true ∨ ((a == 3) = false ∧ (a == 4) = true)) := by
        rcases HA.out with h | h
        · exact Or.inl (beq_iff_eq.mpr h)
        · exact Or.inr ⟨beq_eq_false_iff_ne.mpr (by omega), beq_iff_eq.mpr h⟩
      rcases hthree with d3 | ⟨d3, d4⟩
      all_goals
        go_wp2
        replace BK := Aside0.mk (blk_drew BK.out)
        replace BD := Aside0.mk (blk_drew BD.out)
        replace HB := Aside0.mk (below_drew1 HB.out)
        refine start_ (n := 16) (S := fun w' => w'.cell? ⟨g, 1, none⟩ = some (.int .i64 n) ∧ w'.cell? ⟨g, 2, none⟩ = some (.int .i64 v0) ∧ w'.cell? ⟨g, 3, none⟩ = some (.int .i64 v1) ∧ w'.cell? ⟨g, 4, none⟩ = some (.string v2) ∧ w'.cell? ⟨g, 5, none⟩ = some (.string op)) (ds := []) (tf 0 16) (by kernel_rfl) rfl rfl ⟨bc_ BK 1, bc_ BK 2, bc_ BK 3, bc_ BK 4, bc_ BK 5⟩ (fun hHeld => ?_)
        generalize w2.drew = wd at BK BD HB hHeld ⊢
        refine plk_ ?_
        refine tlk_ ?_
        cases hn : (n == 0) with
        | false =>
          repeat (first | (refine pdk_ ?_) | (refine plk_ ?_) | (refine tlk_ ?_))
          refine done_ (by kernel_rfl) ?_
          go_wp2
          go_meet
          case rel => exact ⟨_, _, rfl, rfl, ⟨by rw [HE.out]; simp [hn]⟩, BK, BD, HB⟩
        | true =>
          cases hz : nullB v0 v1 v2 with
          | false =>
            have hz0 : (v0 == 0 && (v1 == 0 && v2.toList.isEmpty)) = false := by simpa [nullB] using hz
            have HZ := Aside0.mk hz
            clear hz
            repeat (first | (refine pdk_ ?_) | (refine plk_ ?_) | (refine tlk_ ?_))
            refine onek_ (fun K hK => ?_)
            refine gs_ Tryd.func113 #[] ?_
            refine (impl_null.calls 0 0 ⟨#[]⟩ _ rfl).mono ?_
            rintro e w' ⟨rfl, hb⟩
            refine ⟨_, rfl, ?_⟩
            replace BK := bkb_ BK hb; replace BD := bkb_ BD hb; replace HB := bs_ hb; clear hb
            refine hK.out _ _ ⟨bc_ BK 1, bc_ BK 2, bc_ BK 3, bc_ BK 4, bc_ BK 5⟩ (fun hHeld => ?_); clear hK K; refine nm_ ?_
            repeat (first | (refine pdk_ ?_) | (refine plk_ ?_) | (refine tlk_ ?_))
            refine done_ (by kernel_rfl) ?_
            go_wp2
            go_meet
            case rel => exact ⟨_, _, rfl, rfl, ⟨by rw [HE.out]; simp [hn, HZ.out]⟩, BK, BD, HB⟩
          | true =>
            have hz0 : (v0 == 0 && (v1 == 0 && v2.toList.isEmpty)) = true := by simpa [nullB] using hz
            have HZ := Aside0.mk hz
            clear hz
            repeat (first | (refine pdk_ ?_) | (refine plk_ ?_) | (refine tlk_ ?_))
            refine onek_ (fun K hK => ?_)
            refine gs_ Tryd.func113 #[] ?_
            refine (impl_null.calls 0 0 ⟨#[]⟩ _ rfl).mono ?_
            rintro e w' ⟨rfl, hb⟩
            refine ⟨_, rfl, ?_⟩
            replace BK := bkb_ BK hb; replace BD := bkb_ BD hb; replace HB := bs_ hb; clear hb
            refine hK.out _ _ ⟨bc_ BK 1, bc_ BK 2, bc_ BK 3, bc_ BK 4, bc_ BK 5⟩ (fun hHeld => ?_); clear hK K; refine nm_ ?_
            repeat (first | (refine pdk_ ?_) | (refine plk_ ?_) | (refine tlk_ ?_))
            refine done_ (by kernel_rfl) ?_
            go_wp2
            go_meet
            case rel => exact ⟨_, _, rfl, rfl, ⟨by rw [HE.out]; simp [hn, HZ.out]⟩, BK, BD, HB⟩
    have d1 : (a == 1) = false := beq_eq_false_iff_ne.mpr a1
    have d2 : (a == 2) = false := beq_eq_false_iff_ne.mpr a2
    have d3 : (a == 3) = false := beq_eq_false_iff_ne.mpr (by omega)
    have d4 : (a == 4) = false := beq_eq_false_iff_ne.mpr (by omega)
    have HE := Aside0.mk (isExpS_5 (k := k) (n := n) (v0 := v0) (v1 := v1) (v2 := v2) (op := op) a0 a1 a2 a3)
    clear h a0 a1 a2 a3 HS
    go_wp2
    go_meet
    case rel => exact ⟨_, _, rfl, rfl, HE, BK, BD, HB⟩
  case rest =>
    clear BK BD HB
    obtain ⟨kn', rt', rfl, rfl, HT, BK, BD, HB⟩ := hcut
    have he := Option.some.inj (HT.out.symm.trans HS.out)
    obtain rfl : kn' = kn := congrArg Prod.fst he
    obtain rfl : rt' = rt := congrArg Prod.snd he
    have H := HH.out
    clear HH HT HS he
    have b0 := bc_ (v := (.int .i64 d)) BD 0
    have b1 := bc_ (v := (.slice A l.length c)) BK 6
    cases rt' with
    | false =>
      obtain rfl := Option.some.inj ((if_neg (by simp)).symm.trans H)
      clear H
      go_wp2
      go_ret
      exact ⟨rfl, bb_⟩
    | true =>
      replace H := (if_pos rfl).symm.trans H
      by_cases h1 : d ≤ 12
      · have d1 : decide (d ≤ 12) = true := decide_eq_true h1
        replace H := (if_pos h1).symm.trans H
        clear h1
        by_cases h2 : (l.length : Int) = kn'
        · have d2 : ((l.length : Int) == kn') = true := beq_iff_eq.mpr h2
          replace H := (if_pos h2).symm.trans H
          clear h2
          have eg : ∀ args w, (callFunc 116 args).run Tryd.prog w = .ok (.enter 116 args) w := enters_of Tryd.func116 (by kernel_rfl) rfl
          have hall := areAll_T32.calls _ 116 #[.pointer (some ⟨gd, 0, none⟩)] eg A c l r wc (Kd.C_below HR.out HB.out) (isExp_cb k d gd wc IH.out l b0 (blk_lt BD.out)) H
          have HALL := Aside0.mk hall
          clear H hall
          go_wp2_with (go_at_call 115; refine HALL.out.mono ?_; rintro e w' ⟨rfl, hb'⟩)
          go_ret
          exact ⟨rfl, HB.out.trans (hb'.mono HB.out.size)⟩
        · have d2 : ((l.length : Int) == kn') = false := beq_eq_false_iff_ne.mpr h2
          obtain rfl := Option.some.inj ((if_neg h2).symm.trans H)
          clear H h2
          go_wp2
          go_ret
          exact ⟨rfl, bb_⟩
      · have d1 : decide (d ≤ 12) = false := decide_eq_false h1
        obtain rfl := Option.some.inj ((if_neg h1).symm.trans H)
        clear H h1
        go_wp2
        go_ret
        exact ⟨rfl, bb_⟩


/-! ### impl_ExpOk: function 48 -/
def impl_ExpOk.f (k : Nat) (a0_0 : Int) (a0_1 : Int) (a0_2 : Int) (a0_3 : Int) (a0_4 : ByteArray) (a0_5 : ByteArray) (l0_6 : List (S32)) : Option (Bool) := (impl_isExp.f k a0_0 a0_1 a0_2 a0_3 a0_4 a0_5 l0_6 0).bind fun t245 => (some t245)
set_option maxHeartbeats 8000000 in
set_option maxRecDepth 100000 in
theorem impl_ExpOk.calls (k : Nat) (a0_0 : Int) (a0_1 : Int) (a0_2 : Int) (a0_3 : Int) (a0_4 : ByteArray) (a0_5 : ByteArray) (A0_6 : Option Addr) (c0_6 : Nat) (l0_6 : List (S32)) (r : Bool) (w : World) (hr0_6 : Kd.C k32 w A0_6 l0_6.length l0_6) (hc0_6 : l0_6.length ≤ c0_6) (h : impl_ExpOk.f k a0_0 a0_1 a0_2 a0_3 a0_4 a0_5 l0_6 = some r) :
  Calls Tryd.prog 48 #[.agg #[.int .i64 a0_0, .int .i64 a0_1, .int .i64 a0_2, .int .i64 a0_3, .string a0_4, .string a0_5, .slice A0_6 l0_6.length c0_6]] w fun e w' => e = .returned (.bool r) ∧ Below w.heap.size w w' := by
 have hu32 := Tryd.underlying32
 have HR0_6 := Aside0.mk hr0_6
 have HC0_6 := Aside0.mk hc0_6
 clear hr0_6 hc0_6
 have HB := Aside0.mk (Below.refl w.heap.size w)
 have H : ((impl_isExp.f k a0_0 a0_1 a0_2 a0_3 a0_4 a0_5 l0_6 0).bind fun t245 => (some t245)) = some r := h
 clear h
 replace H := Option.bind_eq_some_iff.mp H
 obtain ⟨t245, A20, H⟩ := H
 replace H : (some t245) = some r := H
 have A2 := Aside0.mk A20
 clear A20
 obtain rfl := Option.some.inj H
 go_enter Tryd.func48, Tryd.ntmps48
 go_wp2_with (first | ((with_reducible refine gate_dst (N := 1) rfl ?_); refine bx_ 1 #[.int .i64 a0_0, .int .i64 a0_1, .int .i64 a0_2, .int .i64 a0_3, .string a0_4, .string a0_5, .slice A0_6 l0_6.length c0_6] 32 ?_; intro gb244 hg w3 hbox hb; have BK244 := Aside0.mk (hbox); have GW244 := gw_ hg; have GE244 := gw_ hg; replace HB := bs_ hb; clear hb hbox hg; obtain ⟨hcz4_0, hcz4_1, hcz4_2, hcz4_3, hcz4_4, hcz4_5, hcz4_6, hfz4_0, hfz4_1, hfz4_2, hfz4_3, hfz4_4, hfz4_5, hfz4_6⟩ := b7_ BK244) | ((with_reducible refine gate_callee (f := 87) rfl ?_); refine gsL_ (some 4) Tryd.func87 #[.agg #[.int .i64 a0_0, .int .i64 a0_1, .int .i64 a0_2, .int .i64 a0_3, .string a0_4, .string a0_5, .slice A0_6 l0_6.length c0_6], .int .i64 0] ?_; (with_reducible refine (impl_isExp.calls k a0_0 a0_1 a0_2 a0_3 a0_4 a0_5 _ _ l0_6 0 t245 _ ?side1 ?side2 A2.out).mono ?_); (case side1 => exact ck_ (Kd.C_below HR0_6.out HB.out)); (case side2 => exact HC0_6.out); rintro e w5 ⟨rfl, hb⟩; refine ⟨_, rfl, ?_⟩; replace BK244 := bkb_ BK244 hb; replace HB := bs_ hb; (try clear hb); (try clear hb2); (try clear hk); (try clear hi)))
 go_ret
 exact ⟨er_, bb_⟩

/-! ### strconv_Itoa: function 72 -/
-- by hand
/-- What the library's own variables hold. -/
def CellIn (w : World) : Prop := ∃ m, w.cell? ⟨0, 0, none⟩ = some (.int .i64 m)
def TabIn (w : World) : Prop := Lib.TabIs Tryd.prog w "internal/strconv.uint64pow10" .u64 Lib.pow10Tab
def MaxLenIn (w : World) : Prop := CellIn w ∧ TabIn w
theorem MaxLenIn.drewN {w : World} (h : MaxLenIn w) (n : Nat) : MaxLenIn (w.drewN n) := h
theorem CellIn.later {w w' : World} (h : CellIn w) (hb : Aside0 (Below w.heap.size w w')) : CellIn w' := by
  obtain ⟨m, hm⟩ := h
  exact ⟨m, (hb.out.cell (p := ⟨0, 0, none⟩) (Addr_lt hm)).trans hm⟩
theorem TabIn.later {w w' : World} (h : TabIn w) (hb : Aside0 (Below w.heap.size w w')) : TabIn w' := var_later h hb
theorem MaxLenIn.later {w w' : World} (h : MaxLenIn w) (hb : Aside0 (Below w.heap.size w w')) : MaxLenIn w' := ⟨h.1.later hb, h.2.later hb⟩
def strconv_Itoa.f (a0 : Int) : Option ByteArray := if -9223372036854775808 ≤ a0 then (if a0 ≤ 9223372036854775807 then some ⟨(Lib.itoa a0).toArray⟩ else none) else none
theorem strconv_Itoa.calls (a0 : Int) (r : ByteArray) (w : World) (h : strconv_Itoa.f a0 = some r) (hM : MaxLenIn w := by first | assumption | exact MaxLenIn.drewN (by assumption) _ | exact MaxLenIn.later (by assumption) (by assumption) | exact MaxLenIn.drewN (MaxLenIn.later (by assumption) (by assumption)) _ | exact MaxLenIn.later (by assumption) ⟨by repeat (first | exact Aside0.out (by assumption) | apply below_alloc | apply pw_below_drewN | apply below_drew1 | refine below_set ?_ (Aside0.out (by assumption)))⟩) :
    Calls Tryd.prog 72 #[.int .i64 a0] w fun e w' => e = .returned (.string r) ∧ Below w.heap.size w w' := by
  unfold strconv_Itoa.f at h
  by_cases h0 : -9223372036854775808 ≤ a0
  case neg => rw [if_neg h0] at h; cases h
  rw [if_pos h0] at h
  by_cases h1 : a0 ≤ 9223372036854775807
  case neg => rw [if_neg h1] at h; cases h
  rw [if_pos h1] at h
  obtain rfl := Option.some.inj h
  refine (Tryd.strconv_Itoa a0 h0 h1 w hM.2).mono ?_
  rintro e w' ⟨rfl, k, os, rfl⟩
  exact ⟨rfl, below_grow_drewN w k os⟩


/-! ### impl_DecText: function 30 -/
def impl_DecText.f (a0 : Int) : Option (ByteArray) := (strconv_Itoa.f a0).bind fun t246 => (some t246)
set_option maxHeartbeats 8000000 in
set_option maxRecDepth 100000 in
theorem impl_DecText.calls (a0 : Int) (r : ByteArray) (w : World) (h : impl_DecText.f a0 = some r) (hM : MaxLenIn w := by first | assumption | exact MaxLenIn.drewN (by assumption) _ | exact MaxLenIn.later (by assumption) (by assumption) | exact MaxLenIn.drewN (MaxLenIn.later (by assumption) (by assumption)) _ | exact MaxLenIn.later (by assumption) ⟨by repeat (first | exact Aside0.out (by assumption) | apply below_alloc | apply pw_below_drewN | apply below_drew1 | refine below_set ?_ (Aside0.out (by assumption)))⟩) :
  Calls Tryd.prog 30 #[.int .i64 a0] w fun e w' => e = .returned (.string r) ∧ Below w.heap.size w w' := by
 have HB := Aside0.mk (Below.refl w.heap.size w)
 have H : ((strconv_Itoa.f a0).bind fun t246 => (some t246)) = some r := h
 clear h
 replace H := Option.bind_eq_some_iff.mp H
 obtain ⟨t246, A20, H⟩ := H
 replace H : (some t246) = some r := H
 have A2 := Aside0.mk A20
 clear A20
 obtain rfl := Option.some.inj H
 go_enter Tryd.func30, Tryd.ntmps30
 go_wp2_with (first | ((with_reducible refine gate_callee (f := 72) rfl ?_); refine gsL_ (some 4) Tryd.func72 #[.int .i64 a0] ?_; (with_reducible refine (strconv_Itoa.calls a0 t246 _ A2.out).mono ?_); rintro e w3 ⟨rfl, hb⟩; refine ⟨_, rfl, ?_⟩; replace HB := bs_ hb; (try clear hb); (try clear hb2); (try clear hk); (try clear hi)))
 go_ret
 exact ⟨er_, bb_⟩

/-! ### strconv_FormatBool_94: function 94 -/
def strconv_FormatBool_94.f (a0 : Bool) : Option (ByteArray) := if a0 = true then (some (⟨#[116, 114, 117, 101]⟩ : ByteArray)) else (some (⟨#[102, 97, 108, 115, 101]⟩ : ByteArray))
set_option maxHeartbeats 8000000 in
set_option maxRecDepth 100000 in
theorem strconv_FormatBool_94.calls (a0 : Bool) (r : ByteArray) (w : World) (h : strconv_FormatBool_94.f a0 = some r) :
  Calls Tryd.prog 94 #[.bool a0] w fun e w' => e = .returned (.string r) ∧ Drawn0 w w' := by
 have H : (if a0 = true then (some (⟨#[116, 114, 117, 101]⟩ : ByteArray)) else (some (⟨#[102, 97, 108, 115, 101]⟩ : ByteArray))) = some r := h
 clear h
 by_cases c2 : a0 = true
 ·subst c2
  have H1 : (some (⟨#[116, 114, 117, 101]⟩ : ByteArray)) = some r := by rw [if_pos rfl] at H; exact H
  clear H
  have H := H1
  clear H1
  obtain rfl := Option.some.inj H
  go_enter Tryd.func94, Tryd.ntmps94
  go_wp2
  go_ret
  exact ⟨by first | rfl | (simp; done) | (simp [*]; done), by repeat (first | exact Drawn0.refl _ | apply Drawn0.step)⟩
 ·replace c2 := Bool.eq_false_iff.mpr c2
  subst c2
  have H1 : (some (⟨#[102, 97, 108, 115, 101]⟩ : ByteArray)) = some r := by rw [if_neg (show ¬ (false = true) by decide)] at H; exact H
  clear H
  have H := H1
  clear H1
  obtain rfl := Option.some.inj H
  go_enter Tryd.func94, Tryd.ntmps94
  go_wp2
  go_ret
  exact ⟨by first | rfl | (simp; done) | (simp [*]; done), by repeat (first | exact Drawn0.refl _ | apply Drawn0.step)⟩

/-! ### strconv_FormatBool_65: function 65 -/
def strconv_FormatBool_65.f (a0 : Bool) : Option (ByteArray) := (strconv_FormatBool_94.f a0).bind fun t247 => (some t247)
set_option maxHeartbeats 8000000 in
set_option maxRecDepth 100000 in
theorem strconv_FormatBool_65.calls (a0 : Bool) (r : ByteArray) (w : World) (h : strconv_FormatBool_65.f a0 = some r) :
  Calls Tryd.prog 65 #[.bool a0] w fun e w' => e = .returned (.string r) ∧ Drawn0 w w' := by
 have H : ((strconv_FormatBool_94.f a0).bind fun t247 => (some t247)) = some r := h
 clear h
 replace H := Option.bind_eq_some_iff.mp H
 obtain ⟨t247, A20, H⟩ := H
 replace H : (some t247) = some r := H
 have A2 := Aside0.mk A20
 clear A20
 obtain rfl := Option.some.inj H
 go_enter Tryd.func65, Tryd.ntmps65
 go_wp2_with (first | ((with_reducible refine gate_callee (f := 94) rfl ?_); refine gsL_ (some 4) Tryd.func94 #[.bool a0] ?_; (with_reducible refine (strconv_FormatBool_94.calls a0 t247 _ A2.out).mono ?_); rintro e w' ⟨rfl, ⟨nd, rfl⟩⟩; refine ⟨_, rfl, ?_⟩))
 go_ret
 exact ⟨by first | rfl | (simp; done) | (simp [*]; done), by repeat (first | exact Drawn0.refl _ | apply Drawn0.step)⟩

/-! ### strings_ReplaceAll: function 66 -/
-- by hand
def strings_ReplaceAll.f (a0 : ByteArray) (a1 : ByteArray) (a2 : ByteArray) : Option ByteArray := if a0.size < 4294967281 ∧ 1 ≤ a1.size ∧ a0.size + Lib.countB a0 a1 * a2.size ≤ 140737488355328 then some ⟨(Lib.replaceAll a0.data.toList a1.data.toList a2.data.toList).toArray⟩ else none
theorem strings_ReplaceAll.calls (a0 : ByteArray) (a1 : ByteArray) (a2 : ByteArray) (r : ByteArray) (w : World) (h : strings_ReplaceAll.f a0 a1 a2 = some r) (hM : MaxLenIn w := by first | assumption | exact MaxLenIn.drewN (by assumption) _ | exact MaxLenIn.later (by assumption) (by assumption) | exact MaxLenIn.drewN (MaxLenIn.later (by assumption) (by assumption)) _ | exact MaxLenIn.later (by assumption) ⟨by repeat (first | exact Aside0.out (by assumption) | apply below_alloc | apply pw_below_drewN | apply below_drew1 | refine below_set ?_ (Aside0.out (by assumption)))⟩) :
    Calls Tryd.prog 66 #[.string a0, .string a1, .string a2] w fun e w' => e = .returned (.string r) ∧ Below w.heap.size w w' := by
  unfold strings_ReplaceAll.f at h
  by_cases hc : a0.size < 4294967281 ∧ 1 ≤ a1.size ∧ a0.size + Lib.countB a0 a1 * a2.size ≤ 140737488355328
  case neg => rw [if_neg hc] at h; cases h
  rw [if_pos hc] at h
  obtain rfl := Option.some.inj h
  obtain ⟨m, hm⟩ := hM.1
  exact Tryd.strings_ReplaceAll a0 a1 a2 m w hc.1 hm hc.2.1 hc.2.2


/-! ### impl_ValueText: function 26 -/
def impl_ValueText.f (a0_0 : Int) (a0_1 : Int) (a0_2 : ByteArray) : Option (ByteArray) := (impl_ValueOk.f a0_0 a0_1 a0_2).bind fun t249 => (if t249 = true then (if a0_0 = 0 then (some (⟨#[110, 117, 108, 108]⟩ : ByteArray)) else (if a0_0 = 1 then ((impl_DecText.f a0_1).bind fun t250 => (some t250)) else (if a0_0 = 2 then ((strconv_FormatBool_65.f (a0_1 == 1)).bind fun t251 => (some t251)) else ((strings_ReplaceAll.f a0_2 (⟨#[39]⟩ : ByteArray) (⟨#[39, 39]⟩ : ByteArray)).bind fun t252 => (if 1 + t252.size ≤ 9223372036854775807 then (if ((⟨#[39]⟩ : ByteArray) ++ t252).size + 1 ≤ 9223372036854775807 then (some (((⟨#[39]⟩ : ByteArray) ++ t252) ++ (⟨#[39]⟩ : ByteArray))) else (none)) else (none)))))) else (some (⟨#[]⟩ : ByteArray)))
set_option maxHeartbeats 8000000 in
set_option maxRecDepth 100000 in
theorem impl_ValueText.calls (a0_0 : Int) (a0_1 : Int) (a0_2 : ByteArray) (r : ByteArray) (w : World) (h : impl_ValueText.f a0_0 a0_1 a0_2 = some r) (hM : MaxLenIn w := by first | assumption | exact MaxLenIn.drewN (by assumption) _ | exact MaxLenIn.later (by assumption) (by assumption) | exact MaxLenIn.drewN (MaxLenIn.later (by assumption) (by assumption)) _ | exact MaxLenIn.later (by assumption) ⟨by repeat (first | exact Aside0.out (by assumption) | apply below_alloc | apply pw_below_drewN | apply below_drew1 | refine below_set ?_ (Aside0.out (by assumption)))⟩) :
  Calls Tryd.prog 26 #[.agg #[.int .i64 a0_0, .int .i64 a0_1, .string a0_2]] w fun e w' => e = .returned (.string r) ∧ Below w.heap.size w w' := by
 have hu29 := Tryd.underlying29
 have HB := Aside0.mk (Below.refl w.heap.size w)
 have H : ((impl_ValueOk.f a0_0 a0_1 a0_2).bind fun t249 => (if t249 = true then (if a0_0 = 0 then (some (⟨#[110, 117, 108, 108]⟩ : ByteArray)) else (if a0_0 = 1 then ((impl_DecText.f a0_1).bind fun t250 => (some t250)) else (if a0_0 = 2 then ((strconv_FormatBool_65.f (a0_1 == 1)).bind fun t251 => (some t251)) else ((strings_ReplaceAll.f a0_2 (⟨#[39]⟩ : ByteArray) (⟨#[39, 39]⟩ : ByteArray)).bind fun t252 => (if 1 + t252.size ≤ 9223372036854775807 then (if ((⟨#[39]⟩ : ByteArray) ++ t252).size + 1 ≤ 9223372036854775807 then (some (((⟨#[39]⟩ : ByteArray) ++ t252) ++ (⟨#[39]⟩ : ByteArray))) else (none)) else (none)))))) else (some (⟨#[]⟩ : ByteArray)))) = some r := h
 clear h
 replace H := Option.bind_eq_some_iff.mp H
 obtain ⟨t249, A20, H⟩ := H
 replace H : (if t249 = true then (if a0_0 = 0 then (some (⟨#[110, 117, 108, 108]⟩ : ByteArray)) else (if a0_0 = 1 then ((impl_DecText.f a0_1).bind fun t250 => (some t250)) else (if a0_0 = 2 then ((strconv_FormatBool_65.f (a0_1 == 1)).bind fun t251 => (some t251)) else ((strings_ReplaceAll.f a0_2 (⟨#[39]⟩ : ByteArray) (⟨#[39, 39]⟩ : ByteArray)).bind fun t252 => (if 1 + t252.size ≤ 9223372036854775807 then (if ((⟨#[39]⟩ : ByteArray) ++ t252).size + 1 ≤ 9223372036854775807 then (some (((⟨#[39]⟩ : ByteArray) ++ t252) ++ (⟨#[39]⟩ : ByteArray))) else (none)) else (none)))))) else (some (⟨#[]⟩ : ByteArray))) = some r := H
 have A2 := Aside0.mk A20
 clear A20
 by_cases c3 : t249 = true
 ·subst c3
  have H1 : (if a0_0 = 0 then (some (⟨#[110, 117, 108, 108]⟩ : ByteArray)) else (if a0_0 = 1 then ((impl_DecText.f a0_1).bind fun t250 => (some t250)) else (if a0_0 = 2 then ((strconv_FormatBool_65.f (a0_1 == 1)).bind fun t251 => (some t251)) else ((strings_ReplaceAll.f a0_2 (⟨#[39]⟩ : ByteArray) (⟨#[39, 39]⟩ : ByteArray)).bind fun t252 => (if 1 + t252.size ≤ 9223372036854775807 then (if ((⟨#[39]⟩ : ByteArray) ++ t252).size + 1 ≤ 9223372036854775807 then (some (((⟨#[39]⟩ : ByteArray) ++ t252) ++ (⟨#[39]⟩ : ByteArray))) else (none)) else (none)))))) = some r := by rw [if_pos rfl] at H; exact H
  clear H
  have H := H1
  clear H1
  by_cases c4 : a0_0 = 0
  ·rw [if_pos c4] at H
   have c4b0 : (a0_0 == 0) = true := beq_iff_eq.mpr c4
   have c4b1 : (a0_0 != 0) = false := bne_eq_false_iff_eq.mpr c4
   clear c4
   obtain rfl := Option.some.inj H
   go_enter Tryd.func26, Tryd.ntmps26
   go_wp2_with (first | ((with_reducible refine gate_dst (N := 1) rfl ?_); refine bx_ 1 #[.int .i64 a0_0, .int .i64 a0_1, .string a0_2] 29 ?_; intro gb248 hg w5 hbox hb; have BK248 := Aside0.mk (hbox); have GW248 := gw_ hg; have GE248 := gw_ hg; replace HB := bs_ hb; clear hb hbox hg; obtain ⟨hcz6_0, hcz6_1, hcz6_2, hfz6_0, hfz6_1, hfz6_2⟩ := b3_ BK248) | ((with_reducible refine gate_callee (f := 24) rfl ?_); refine gsL_ (some 5) Tryd.func24 #[.agg #[.int .i64 a0_0, .int .i64 a0_1, .string a0_2]] ?_; (with_reducible refine (impl_ValueOk.calls a0_0 a0_1 a0_2 true _ A2.out).mono ?_); rintro e w7 ⟨rfl, hb⟩; refine ⟨_, rfl, ?_⟩; replace BK248 := bkb_ BK248 hb; replace HB := bs_ hb; (try clear hb); (try clear hb2); (try clear hk); (try clear hi); obtain ⟨hcz8_0, hcz8_1, hcz8_2, hfz8_0, hfz8_1, hfz8_2⟩ := b3_ BK248))
   go_ret
   exact ⟨er_, bb_⟩
  ·rw [if_neg c4] at H
   have c4b0 : (a0_0 == 0) = false := beq_eq_false_iff_ne.mpr c4
   have c4b1 : (a0_0 != 0) = true := bne_iff_ne.mpr c4
   by_cases c9 : a0_0 = 1
   ·rw [if_pos c9] at H
    have c9b0 : (a0_0 == 1) = true := beq_iff_eq.mpr c9
    have c9b1 : (a0_0 != 1) = false := bne_eq_false_iff_eq.mpr c9
    clear c9
    replace H := Option.bind_eq_some_iff.mp H
    obtain ⟨t250, A100, H⟩ := H
    replace H : (some t250) = some r := H
    have A10 := Aside0.mk A100
    clear A100
    obtain rfl := Option.some.inj H
    go_enter Tryd.func26, Tryd.ntmps26
    go_wp2_with (first | ((with_reducible refine gate_dst (N := 1) rfl ?_); refine bx_ 1 #[.int .i64 a0_0, .int .i64 a0_1, .string a0_2] 29 ?_; intro gb248 hg w11 hbox hb; have BK248 := Aside0.mk (hbox); have GW248 := gw_ hg; have GE248 := gw_ hg; replace HB := bs_ hb; clear hb hbox hg; obtain ⟨hcz12_0, hcz12_1, hcz12_2, hfz12_0, hfz12_1, hfz12_2⟩ := b3_ BK248) | ((with_reducible refine gate_callee (f := 24) rfl ?_); refine gsL_ (some 5) Tryd.func24 #[.agg #[.int .i64 a0_0, .int .i64 a0_1, .string a0_2]] ?_; (with_reducible refine (impl_ValueOk.calls a0_0 a0_1 a0_2 true _ A2.out).mono ?_); rintro e w13 ⟨rfl, hb⟩; refine ⟨_, rfl, ?_⟩; replace BK248 := bkb_ BK248 hb; replace HB := bs_ hb; (try clear hb); (try clear hb2); (try clear hk); (try clear hi); obtain ⟨hcz14_0, hcz14_1, hcz14_2, hfz14_0, hfz14_1, hfz14_2⟩ := b3_ BK248) | ((with_reducible refine gate_callee (f := 30) rfl ?_); refine gsL_ (some 17) Tryd.func30 #[.int .i64 a0_1] ?_; (with_reducible refine (impl_DecText.calls a0_1 t250 _ A10.out).mono ?_); rintro e w15 ⟨rfl, hb⟩; refine ⟨_, rfl, ?_⟩; replace BK248 := bkb_ BK248 hb; replace HB := bs_ hb; (try clear hb); (try clear hb2); (try clear hk); (try clear hi)))
    go_ret
    exact ⟨er_, bb_⟩
   ·rw [if_neg c9] at H
    have c9b0 : (a0_0 == 1) = false := beq_eq_false_iff_ne.mpr c9
    have c9b1 : (a0_0 != 1) = true := bne_iff_ne.mpr c9
    by_cases c16 : a0_0 = 2
    ·rw [if_pos c16] at H
     have c16b0 : (a0_0 == 2) = true := beq_iff_eq.mpr c16
     have c16b1 : (a0_0 != 2) = false := bne_eq_false_iff_eq.mpr c16
     clear c16
     replace H := Option.bind_eq_some_iff.mp H
     obtain ⟨t251, A170, H⟩ := H
     replace H : (some t251) = some r := H
     have A17 := Aside0.mk A170
     clear A170
     obtain rfl := Option.some.inj H
     go_enter Tryd.func26, Tryd.ntmps26
     go_wp2_with (first | ((with_reducible refine gate_dst (N := 1) rfl ?_); refine bx_ 1 #[.int .i64 a0_0, .int .i64 a0_1, .string a0_2] 29 ?_; intro gb248 hg w18 hbox hb; have BK248 := Aside0.mk (hbox); have GW248 := gw_ hg; have GE248 := gw_ hg; replace HB := bs_ hb; clear hb hbox hg; obtain ⟨hcz19_0, hcz19_1, hcz19_2, hfz19_0, hfz19_1, hfz19_2⟩ := b3_ BK248) | ((with_reducible refine gate_callee (f := 24) rfl ?_); refine gsL_ (some 5) Tryd.func24 #[.agg #[.int .i64 a0_0, .int .i64 a0_1, .string a0_2]] ?_; (with_reducible refine (impl_ValueOk.calls a0_0 a0_1 a0_2 true _ A2.out).mono ?_); rintro e w20 ⟨rfl, hb⟩; refine ⟨_, rfl, ?_⟩; replace BK248 := bkb_ BK248 hb; replace HB := bs_ hb; (try clear hb); (try clear hb2); (try clear hk); (try clear hi); obtain ⟨hcz21_0, hcz21_1, hcz21_2, hfz21_0, hfz21_1, hfz21_2⟩ := b3_ BK248) | ((with_reducible refine gate_callee (f := 65) rfl ?_); refine gsL_ (some 25) Tryd.func65 #[.bool (a0_1 == 1)] ?_; (with_reducible refine (strconv_FormatBool_65.calls (a0_1 == 1) t251 _ A17.out).mono ?_); rintro e w' ⟨rfl, ⟨nd, rfl⟩⟩; refine ⟨_, rfl, ?_⟩))
     go_ret
     exact ⟨er_, bb_⟩
    ·rw [if_neg c16] at H
     have c16b0 : (a0_0 == 2) = false := beq_eq_false_iff_ne.mpr c16
     have c16b1 : (a0_0 != 2) = true := bne_iff_ne.mpr c16
     replace H := Option.bind_eq_some_iff.mp H
     obtain ⟨t252, A220, H⟩ := H
     replace H : (if 1 + t252.size ≤ 9223372036854775807 then (if ((⟨#[39]⟩ : ByteArray) ++ t252).size + 1 ≤ 9223372036854775807 then (some (((⟨#[39]⟩ : ByteArray) ++ t252) ++ (⟨#[39]⟩ : ByteArray))) else (none)) else (none)) = some r := H
     have A22 := Aside0.mk A220
     clear A220
     by_cases c23 : 1 + t252.size ≤ 9223372036854775807
     ·rw [if_pos c23] at H
      have c23b0 := eq_true c23
      have c23b1 : decide (1 + t252.size ≤ 9223372036854775807) = true := decide_eq_true c23
      try have c23b2 : (9223372036854775807 < 1 + t252.size) = False := eq_false (Nat.not_lt.2 c23)
      by_cases c24 : ((⟨#[39]⟩ : ByteArray) ++ t252).size + 1 ≤ 9223372036854775807
      ·rw [if_pos c24] at H
       have c24b0 := eq_true c24
       have c24b1 : decide (((⟨#[39]⟩ : ByteArray) ++ t252).size + 1 ≤ 9223372036854775807) = true := decide_eq_true c24
       try have c24b2 : (9223372036854775807 < ((⟨#[39]⟩ : ByteArray) ++ t252).size + 1) = False := eq_false (Nat.not_lt.2 c24)
       (try (have c24b0z := c24b0; simp only [ByteArray.size_append] at c24b0z))
       (try (have c24b1z := c24b1; simp only [ByteArray.size_append] at c24b1z))
       (try (have c24b2z := c24b2; simp only [ByteArray.size_append] at c24b2z))
       (try (have c24b2y : (9223372036854775807 < 1 + t252.size + 1) = False := by (apply eq_false; have hq_ := c24; simp only [ByteArray.size_append, ByteArray.size_extract] at hq_; have hl0_ : (⟨#[39]⟩ : ByteArray).size = 1 := rfl; omega)))
       obtain rfl := Option.some.inj H
       go_enter Tryd.func26, Tryd.ntmps26
       go_wp2_with (first | ((with_reducible refine gate_dst (N := 1) rfl ?_); refine bx_ 1 #[.int .i64 a0_0, .int .i64 a0_1, .string a0_2] 29 ?_; intro gb248 hg w25 hbox hb; have BK248 := Aside0.mk (hbox); have GW248 := gw_ hg; have GE248 := gw_ hg; replace HB := bs_ hb; clear hb hbox hg; obtain ⟨hcz26_0, hcz26_1, hcz26_2, hfz26_0, hfz26_1, hfz26_2⟩ := b3_ BK248) | ((with_reducible refine gate_callee (f := 24) rfl ?_); refine gsL_ (some 5) Tryd.func24 #[.agg #[.int .i64 a0_0, .int .i64 a0_1, .string a0_2]] ?_; (with_reducible refine (impl_ValueOk.calls a0_0 a0_1 a0_2 true _ A2.out).mono ?_); rintro e w27 ⟨rfl, hb⟩; refine ⟨_, rfl, ?_⟩; replace BK248 := bkb_ BK248 hb; replace HB := bs_ hb; (try clear hb); (try clear hb2); (try clear hk); (try clear hi); obtain ⟨hcz28_0, hcz28_1, hcz28_2, hfz28_0, hfz28_1, hfz28_2⟩ := b3_ BK248) | ((with_reducible refine gate_callee (f := 66) rfl ?_); refine gsL_ (some 28) Tryd.func66 #[.string a0_2, .string (⟨#[39]⟩ : ByteArray), .string (⟨#[39, 39]⟩ : ByteArray)] ?_; (with_reducible refine (strings_ReplaceAll.calls a0_2 (⟨#[39]⟩ : ByteArray) (⟨#[39, 39]⟩ : ByteArray) t252 _ A22.out).mono ?_); rintro e w29 ⟨rfl, hb⟩; refine ⟨_, rfl, ?_⟩; replace BK248 := bkb_ BK248 hb; replace HB := bs_ hb; (try clear hb); (try clear hb2); (try clear hk); (try clear hi)))
       go_ret
       exact ⟨er_, bb_⟩
      ·rw [if_neg c24] at H
       exact absurd H (by simp)
     ·rw [if_neg c23] at H
      exact absurd H (by simp)
 ·replace c3 := Bool.eq_false_iff.mpr c3
  subst c3
  have H1 : (some (⟨#[]⟩ : ByteArray)) = some r := by rw [if_neg (show ¬ (false = true) by decide)] at H; exact H
  clear H
  have H := H1
  clear H1
  obtain rfl := Option.some.inj H
  go_enter Tryd.func26, Tryd.ntmps26
  go_wp2_with (first | ((with_reducible refine gate_dst (N := 1) rfl ?_); refine bx_ 1 #[.int .i64 a0_0, .int .i64 a0_1, .string a0_2] 29 ?_; intro gb248 hg w30 hbox hb; have BK248 := Aside0.mk (hbox); have GW248 := gw_ hg; have GE248 := gw_ hg; replace HB := bs_ hb; clear hb hbox hg; obtain ⟨hcz31_0, hcz31_1, hcz31_2, hfz31_0, hfz31_1, hfz31_2⟩ := b3_ BK248) | ((with_reducible refine gate_callee (f := 24) rfl ?_); refine gsL_ (some 5) Tryd.func24 #[.agg #[.int .i64 a0_0, .int .i64 a0_1, .string a0_2]] ?_; (with_reducible refine (impl_ValueOk.calls a0_0 a0_1 a0_2 false _ A2.out).mono ?_); rintro e w32 ⟨rfl, hb⟩; refine ⟨_, rfl, ?_⟩; replace BK248 := bkb_ BK248 hb; replace HB := bs_ hb; (try clear hb); (try clear hb2); (try clear hk); (try clear hi)))
  go_ret
  exact ⟨er_, bb_⟩

end Go.Proofs.YthgdmdabdlgliaaDoor.PFnExactPlanText
