-- WRITTEN BY xprint.py, a program of this session over the kit's printer: by nobody's hand
-- PRESSED
import Derived.Test.YthgdmdabdlgliaaPress
import Derived.Test.YthgdmdabdlgliaaPFnExactEvalx0
import Derived.Test.YthgdmdabdlgliaaPFnExactEvalx1
import Derived.Test.YthgdmdabdlgliaaPFnExactEvalx8
namespace Go.Proofs.Ythgdmdabdlgliaa.PFnExactEval
open Go.RowKit Go.Proofs.YthgdmdabdlgliaaW.PrintWords Go.Proofs.YthgdmdabdlgliaaW.PrintLast Go.Proofs.YthgdmdabdlgliaaW.PrintMore
set_option linter.unusedVariables false
set_option linter.unusedSimpArgs false

attribute [local go_sem high] eqA25
/-! ### impl_isExp: function 117 -/
-- by hand
/-- A value that is nothing. -/
def nullB (v0 v1 : Int) (v2 : ByteArray) : Bool := v0 == 0 && (v1 == 0 && (v2.toList == ([] : List UInt8)))
/-- What the kind of an expression asks: so many kids, and whether all else is right. -/
def isExpS (k : Nat) (a n v0 v1 : Int) (v2 op : ByteArray) : Option (Int × Bool) :=
  if a = 0 then (impl_isColumn.f n).bind fun b => some (0, b && nullB v0 v1 v2 && (op.toList == ([] : List UInt8)))
  else if a = 1 then (impl_ValueOk.f v0 v1 v2).bind fun b => some (0, b && (n == 0) && (op.toList == ([] : List UInt8)))
  else if a = 2 then (impl_isOp.f k op).bind fun b => some (2, b && (n == 0) && nullB v0 v1 v2)
  else if a = 3 ∨ a = 4 then some (1, (n == 0) && nullB v0 v1 v2 && (op.toList == ([] : List UInt8)))
  else some (0, false)
theorem isExpS_0 {k : Nat} {a n v0 v1 : Int} {v2 op : ByteArray} {b : Bool} (h : a = 0) (hb : impl_isColumn.f n = some b) : isExpS k a n v0 v1 v2 op = some (0, b && nullB v0 v1 v2 && (op.toList == ([] : List UInt8))) := by unfold isExpS; rw [if_pos h, hb]; rfl
theorem isExpS_1 {k : Nat} {a n v0 v1 : Int} {v2 op : ByteArray} {b : Bool} (h : a = 1) (hb : impl_ValueOk.f v0 v1 v2 = some b) : isExpS k a n v0 v1 v2 op = some (0, b && (n == 0) && (op.toList == ([] : List UInt8))) := by unfold isExpS; rw [if_neg (by omega), if_pos h, hb]; rfl
theorem isExpS_2 {k : Nat} {a n v0 v1 : Int} {v2 op : ByteArray} {b : Bool} (h : a = 2) (hb : impl_isOp.f k op = some b) : isExpS k a n v0 v1 v2 op = some (2, b && (n == 0) && nullB v0 v1 v2) := by unfold isExpS; rw [if_neg (by omega), if_neg (by omega), if_pos h, hb]; rfl
theorem isExpS_3 {k : Nat} {a n v0 v1 : Int} {v2 op : ByteArray} (h : a = 3 ∨ a = 4) : isExpS k a n v0 v1 v2 op = some (1, (n == 0) && nullB v0 v1 v2 && (op.toList == ([] : List UInt8))) := by unfold isExpS; rw [if_neg (by omega), if_neg (by omega), if_neg (by omega), if_pos h]
theorem isExpS_5 {k : Nat} {a n v0 v1 : Int} {v2 op : ByteArray} (h0 : ¬ a = 0) (h1 : ¬ a = 1) (h2 : ¬ a = 2) (h3 : ¬ (a = 3 ∨ a = 4)) : isExpS k a n v0 v1 v2 op = some (0, false) := by unfold isExpS; rw [if_neg h0, if_neg h1, if_neg h2, if_neg h3]
def impl_isExp.f : Nat → Int → Int → Int → Int → ByteArray → ByteArray → List S55 → Int → Option Bool
  | 0, _, _, _, _, _, _, _, _ => none
  | k + 1, a, n, v0, v1, v2, op, kids, d => (isExpS k a n v0 v1 v2 op).bind fun p => if p.2 = true then (if d ≤ 12 then (if (kids.length : Int) = p.1 then allO (fun x => impl_isExp.f k x.f0 x.f1 x.f2.f0 x.f2.f1 x.f2.f2 x.f3 x.f4 (wrap64 (d + 1))) kids else some false) else some false) else some false
set_option maxHeartbeats 4000000 in
set_option maxRecDepth 100000 in
theorem isExp_cb (k : Nat) (d : Int) (gd : Nat) (w0 : World) (ih : ∀ (a n v0 v1 : Int) (v2 op : ByteArray) (A : Option Addr) (c : Nat) (l : List S55) (d : Int) (r : Bool) (w : World) (hr : Kd.C k55 w A l.length l) (hc : l.length ≤ c) (h : impl_isExp.f k a n v0 v1 v2 op l d = some r),
    Calls Try.prog 117 #[.agg #[.int .i64 a, .int .i64 n, .int .i64 v0, .int .i64 v1, .string v2, .string op, .slice A l.length c], .int .i64 d] w fun e w' => e = .returned (.bool r) ∧ Below w.heap.size w w')
    (xs : List S55) (hc : w0.cell? ⟨gd, 0, none⟩ = some (.int .i64 d)) (hg : gd < w0.heap.size) : CB Try.prog k55 (fun cs => Value.agg cs.toArray) 143 #[.pointer (some ⟨gd, 0, none⟩)] (fun x => impl_isExp.f k x.f0 x.f1 x.f2.f0 x.f2.f1 x.f2.f2 x.f3 x.f4 (wrap64 (d + 1))) xs w0 := by
  intro W x cs b hW _ hK hf
  obtain ⟨A6, c6, rfl, hl6, hg6⟩ := k55_open hK
  have hcd : W.cell? ⟨gd, 0, none⟩ = some (.int .i64 d) := (hW.cell (p := ⟨gd, 0, none⟩) hg).trans hc
  have hlt : gd < W.heap.size := Nat.lt_of_lt_of_le hg hW.size
  have hne : gd ≠ W.heap.size := by omega
  have hu := Try.underlying55
  have hcall := fun V (hV : Below W.heap.size W V) => ih x.f0 x.f1 x.f2.f0 x.f2.f1 x.f2.f2 x.f3 A6 c6 x.f4 (wrap64 (d + 1)) b V (Kd.C_below hg6 hV) hl6 hf
  have HC := Aside0.mk hcall
  have hcd' := fun o : Obj => cell_alloc_old o hcd
  clear hK hf hcall ih hg6 hW hc hg
  show Calls Try.prog 143 #[.agg #[.int .i64 x.f0, .int .i64 x.f1, .int .i64 x.f2.f0, .int .i64 x.f2.f1, .string x.f2.f2, .string x.f3, .slice A6 x.f4.length c6], .pointer (some ⟨gd, 0, none⟩)] W _
  go_enter Try.func143, Try.ntmps143
  go_wp2_with (go_at_call 117; (try simp only [i64_w]); refine (HC.out _ (by repeat (first | exact Below.refl _ _ | apply below_alloc | apply pw_below_drewN | apply below_drew1))).mono ?_; rintro e w' ⟨rfl, hb'⟩)
  go_ret
  exact ⟨rfl, (by repeat (first | exact Below.refl _ _ | apply below_alloc | apply pw_below_drewN | apply below_drew1) : Below W.heap.size W _).trans (hb'.mono (by simp))⟩
set_option maxHeartbeats 8000000 in
set_option maxRecDepth 100000 in
theorem impl_isExp.calls (k : Nat) : ∀ (a n v0 v1 : Int) (v2 op : ByteArray) (A : Option Addr) (c : Nat) (l : List S55) (d : Int) (r : Bool) (w : World) (hr : Kd.C k55 w A l.length l) (hc : l.length ≤ c) (h : impl_isExp.f k a n v0 v1 v2 op l d = some r),
    Calls Try.prog 117 #[.agg #[.int .i64 a, .int .i64 n, .int .i64 v0, .int .i64 v1, .string v2, .string op, .slice A l.length c], .int .i64 d] w fun e w' => e = .returned (.bool r) ∧ Below w.heap.size w w' := by
  induction k with
  | zero => intro a n v0 v1 v2 op A c l d r w hr hc h; exact absurd h (by simp [impl_isExp.f])
  | succ k ih =>
  intro a n v0 v1 v2 op A c l d r w hr hc h
  obtain ⟨⟨kn, rt⟩, hs, h⟩ := Option.bind_eq_some_iff.1 h
  replace h : (if rt = true then (if d ≤ 12 then (if (l.length : Int) = kn then allO (fun x => impl_isExp.f k x.f0 x.f1 x.f2.f0 x.f2.f1 x.f2.f2 x.f3 x.f4 (wrap64 (d + 1))) l else some false) else some false) else some false) = some r := h
  have hu := Try.underlying55
  have hu2 := Try.underlying25
  have HS := Aside0.mk hs
  have HH := Aside0.mk h
  have HR := Aside0.mk hr
  have HC := Aside0.mk hc
  have IH := Aside0.mk ih
  have HB := Aside0.mk (Below.refl w.heap.size w)
  clear hs h hr hc ih
  go_enter Try.func117, Try.ntmps117
  go_upto_block 0 with (first
    | ((with_reducible refine gate_dst (N := 2) rfl ?_); refine bx_ 2 #[.int .i64 a, .int .i64 n, .int .i64 v0, .int .i64 v1, .string v2, .string op, .slice A l.length c] 55 ?_; intro g hg w1 hbox hb; have BK := Aside0.mk hbox; have GW := gw_ hg; replace HB := bs_ hb; clear hb hbox hg)
    | ((with_reducible refine gate_dst (N := 3) rfl ?_); refine bx_ 3 #[.int .i64 d] 3 ?_; intro gd hg w2 hbox hb; have BD := Aside0.mk hbox; have GD := gw_ hg; replace BK := bkb_ BK hb; replace HB := bs_ hb; clear hb hbox hg; have b0 := bc_ (v := (.int .i64 a)) BK 0))
  clear b0
  (try simp only [Act.put, List.setIfInBounds_toArray, List.set_cons_zero, List.set_cons_succ])
  go_cut [5, 6] (fun v5 v6 wc => ∃ (kn : Int) (rt : Bool), v5 = .int .i64 kn ∧ v6 = .bool rt ∧ Aside0 (isExpS k a n v0 v1 v2 op = some (kn, rt)) ∧ Aside0 (wc.heap[g]? = some (.cells #[.int .i64 a, .int .i64 n, .int .i64 v0, .int .i64 v1, .string v2, .string op, .slice A l.length c] 55 (0, 0))) ∧ Aside0 (wc.heap[gd]? = some (.cells #[.int .i64 d] 3 (0, 0))) ∧ Aside0 (Below w.heap.size w wc))
  case first =>
    clear IH HH HR HC
    have h := HS.out
    unfold isExpS at h
    by_cases a0 : a = 0
    · have d0 : (a == 0) = true := beq_iff_eq.mpr a0
      rw [if_pos a0] at h
      obtain ⟨b, hb, _⟩ := Option.bind_eq_some_iff.1 h
      have HE := Aside0.mk (isExpS_0 (k := k) (v0 := v0) (v1 := v1) (v2 := v2) (op := op) a0 hb)
      have HC := Aside0.mk hb
      clear h hb a0 HS
      go_wp2
      replace BK := Aside0.mk (blk_drew BK.out)
      replace BD := Aside0.mk (blk_drew BD.out)
      replace HB := Aside0.mk (below_drew1 HB.out)
      refine start_ (n := 15) (S := fun w' => w'.cell? ⟨g, 1, none⟩ = some (.int .i64 n) ∧ w'.cell? ⟨g, 2, none⟩ = some (.int .i64 v0) ∧ w'.cell? ⟨g, 3, none⟩ = some (.int .i64 v1) ∧ w'.cell? ⟨g, 4, none⟩ = some (.string v2) ∧ w'.cell? ⟨g, 5, none⟩ = some (.string op)) (ds := []) (tf 0 15) (by kernel_rfl) rfl rfl ⟨bc_ BK 1, bc_ BK 2, bc_ BK 3, bc_ BK 4, bc_ BK 5⟩ (fun hHeld => ?_)
      generalize w2.drew = wd at BK BD HB hHeld ⊢
      refine plk_ ?_
      refine tlk_ ?_
      refine onek_ (fun K hK => ?_)
      refine gs_ Try.func140 #[.int .i64 n] ?_
      refine (impl_isColumn.calls n b _ HC.out).mono ?_
      rintro e w' ⟨rfl, ⟨nd, rfl⟩⟩
      refine ⟨_, rfl, ?_⟩
      replace BK := Aside0.mk (blk_drewN BK.out nd); replace BD := Aside0.mk (blk_drewN BD.out nd); replace HB := Aside0.mk (pw_below_drewN HB.out nd)
      refine hK.out _ _ ⟨bc_ BK 1, bc_ BK 2, bc_ BK 3, bc_ BK 4, bc_ BK 5⟩ (fun hHeld => ?_); clear hK K; refine nm_ ?_
      cases b with
      | false =>
        repeat (first | (refine pdk_ ?_) | (refine plk_ ?_) | (refine tlk_ ?_))
        refine done_ (by kernel_rfl) ?_
        go_wp2
        go_meet
        case rel => exact ⟨_, _, rfl, rfl, ⟨by first | exact HE.out | (rw [HE.out]; simp [nullB, *])⟩, BK, BD, HB⟩
      | true =>
        cases hz : nullB v0 v1 v2 with
        | false =>
          have hz0 : (v0 == 0 && (v1 == 0 && v2.toList.isEmpty)) = false := by simpa [nullB] using hz
          have HZ := Aside0.mk hz
          clear hz
          repeat (first | (refine pdk_ ?_) | (refine plk_ ?_) | (refine tlk_ ?_))
          refine onek_ (fun K hK => ?_)
          refine gs_ Try.func46 #[] ?_
          refine (impl_null.calls 0 0 ⟨#[]⟩ _ rfl).mono ?_
          rintro e w' ⟨rfl, hb⟩
          refine ⟨_, rfl, ?_⟩
          replace BK := bkb_ BK hb; replace BD := bkb_ BD hb; replace HB := bs_ hb; clear hb
          refine hK.out _ _ ⟨bc_ BK 1, bc_ BK 2, bc_ BK 3, bc_ BK 4, bc_ BK 5⟩ (fun hHeld => ?_); clear hK K; refine nm_ ?_
          repeat (first | (refine pdk_ ?_) | (refine plk_ ?_) | (refine tlk_ ?_))
          refine done_ (by kernel_rfl) ?_
          go_wp2
          go_meet
          case rel => exact ⟨_, _, rfl, rfl, ⟨by first | exact HE.out | (rw [HE.out]; simp [HZ.out])⟩, BK, BD, HB⟩
        | true =>
          have hz0 : (v0 == 0 && (v1 == 0 && v2.toList.isEmpty)) = true := by simpa [nullB] using hz
          have HZ := Aside0.mk hz
          clear hz
          repeat (first | (refine pdk_ ?_) | (refine plk_ ?_) | (refine tlk_ ?_))
          refine onek_ (fun K hK => ?_)
          refine gs_ Try.func46 #[] ?_
          refine (impl_null.calls 0 0 ⟨#[]⟩ _ rfl).mono ?_
          rintro e w' ⟨rfl, hb⟩
          refine ⟨_, rfl, ?_⟩
          replace BK := bkb_ BK hb; replace BD := bkb_ BD hb; replace HB := bs_ hb; clear hb
          refine hK.out _ _ ⟨bc_ BK 1, bc_ BK 2, bc_ BK 3, bc_ BK 4, bc_ BK 5⟩ (fun hHeld => ?_); clear hK K; refine nm_ ?_
          repeat (first | (refine pdk_ ?_) | (refine plk_ ?_) | (refine tlk_ ?_))
          refine done_ (by kernel_rfl) ?_
          go_wp2
          go_meet
          case rel => exact ⟨_, _, rfl, rfl, ⟨by first | exact HE.out | (rw [HE.out]; simp [HZ.out])⟩, BK, BD, HB⟩
    have d0 : (a == 0) = false := beq_eq_false_iff_ne.mpr a0
    by_cases a1 : a = 1
    · have d1 : (a == 1) = true := beq_iff_eq.mpr a1
      rw [if_neg a0, if_pos a1] at h
      obtain ⟨b, hb, _⟩ := Option.bind_eq_some_iff.1 h
      have HE := Aside0.mk (isExpS_1 (k := k) (n := n) (op := op) a1 hb)
      have HC := Aside0.mk hb
      clear h hb a0 a1 HS
      have b1 := bc_ (v := (.int .i64 v0)) BK 2
      have b2 := bc_ (v := (.int .i64 v1)) BK 3
      have b3 := bc_ (v := (.string v2)) BK 4
      cases b with
      | false =>
        go_wp2_with (go_at_call 19; refine (impl_ValueOk.calls v0 v1 v2 false _ HC.out).mono ?_; rintro e w' ⟨rfl, hb⟩; replace BK := bkb_ BK hb; replace BD := bkb_ BD hb; replace HB := bs_ hb; clear hb)
        go_meet
        case rel => exact ⟨_, _, rfl, rfl, ⟨by rw [HE.out]; simp⟩, BK, BD, HB⟩
      | true =>
        cases hn : (n == 0) with
        | false =>
          go_wp2_with (go_at_call 19; refine (impl_ValueOk.calls v0 v1 v2 true _ HC.out).mono ?_; rintro e w' ⟨rfl, hb⟩; replace BK := bkb_ BK hb; replace BD := bkb_ BD hb; replace HB := bs_ hb; clear hb; have b4 := bc_ (v := (.int .i64 n)) BK 1; have b5 := bc_ (v := (.string op)) BK 5)
          go_meet
          case rel => exact ⟨_, _, rfl, rfl, ⟨by rw [HE.out, hn]; simp⟩, BK, BD, HB⟩
        | true =>
          go_wp2_with (go_at_call 19; refine (impl_ValueOk.calls v0 v1 v2 true _ HC.out).mono ?_; rintro e w' ⟨rfl, hb⟩; replace BK := bkb_ BK hb; replace BD := bkb_ BD hb; replace HB := bs_ hb; clear hb; have b4 := bc_ (v := (.int .i64 n)) BK 1; have b5 := bc_ (v := (.string op)) BK 5)
          go_meet
          case rel => exact ⟨_, _, rfl, rfl, ⟨by rw [HE.out, hn]; simp⟩, BK, BD, HB⟩
    by_cases a2 : a = 2
    · have d2 : (a == 2) = true := beq_iff_eq.mpr a2
      rw [if_neg a0, if_neg a1, if_pos a2] at h
      obtain ⟨b, hb, _⟩ := Option.bind_eq_some_iff.1 h
      have HE := Aside0.mk (isExpS_2 (n := n) (v0 := v0) (v1 := v1) (v2 := v2) a2 hb)
      have HC := Aside0.mk hb
      have d1 : (a == 1) = false := beq_eq_false_iff_ne.mpr a1
      clear h hb a0 a1 a2 HS
      go_wp2
      replace BK := Aside0.mk (blk_drew BK.out)
      replace BD := Aside0.mk (blk_drew BD.out)
      replace HB := Aside0.mk (below_drew1 HB.out)
      refine start_ (n := 16) (S := fun w' => w'.cell? ⟨g, 1, none⟩ = some (.int .i64 n) ∧ w'.cell? ⟨g, 2, none⟩ = some (.int .i64 v0) ∧ w'.cell? ⟨g, 3, none⟩ = some (.int .i64 v1) ∧ w'.cell? ⟨g, 4, none⟩ = some (.string v2) ∧ w'.cell? ⟨g, 5, none⟩ = some (.string op)) (ds := []) (tf 0 16) (by kernel_rfl) rfl rfl ⟨bc_ BK 1, bc_ BK 2, bc_ BK 3, bc_ BK 4, bc_ BK 5⟩ (fun hHeld => ?_)
      generalize w2.drew = wd at BK BD HB hHeld ⊢
      refine plk_ ?_
      refine tlk_ ?_
      refine onek_ (fun K hK => ?_)
      refine gs_ Try.func141 #[.string op] ?_
      refine (impl_isOp.calls k op b _ HC.out).mono ?_
      rintro e w' ⟨rfl, hb⟩
      refine ⟨_, rfl, ?_⟩
      replace BK := bkb_ BK hb; replace BD := bkb_ BD hb; replace HB := bs_ hb; clear hb
      refine hK.out _ _ ⟨bc_ BK 1, bc_ BK 2, bc_ BK 3, bc_ BK 4, bc_ BK 5⟩ (fun hHeld => ?_); clear hK K; refine nm_ ?_
      cases b with
      | false =>
        repeat (first | (refine pdk_ ?_) | (refine plk_ ?_) | (refine tlk_ ?_))
        refine done_ (by kernel_rfl) ?_
        go_wp2
        go_meet
        case rel => exact ⟨_, _, rfl, rfl, ⟨by rw [HE.out]; simp []⟩, BK, BD, HB⟩
      | true =>
        cases hn : (n == 0) with
        | false =>
          repeat (first | (refine pdk_ ?_) | (refine plk_ ?_) | (refine tlk_ ?_))
          refine done_ (by kernel_rfl) ?_
          go_wp2
          go_meet
          case rel => exact ⟨_, _, rfl, rfl, ⟨by rw [HE.out]; simp [hn]⟩, BK, BD, HB⟩
        | true =>
          repeat (first | (refine pdk_ ?_) | (refine plk_ ?_) | (refine tlk_ ?_))
          refine onek_ (fun K hK => ?_)
          refine gs_ Try.func46 #[] ?_
          refine (impl_null.calls 0 0 ⟨#[]⟩ _ rfl).mono ?_
          rintro e w' ⟨rfl, hb⟩
          refine ⟨_, rfl, ?_⟩
          replace BK := bkb_ BK hb; replace BD := bkb_ BD hb; replace HB := bs_ hb; clear hb
          refine hK.out _ _ ⟨bc_ BK 1, bc_ BK 2, bc_ BK 3, bc_ BK 4, bc_ BK 5⟩ (fun hHeld => ?_); clear hK K; refine nm_ ?_
          repeat (first | (refine pdk_ ?_) | (refine plk_ ?_) | (refine tlk_ ?_))
          refine done_ (by kernel_rfl) ?_
          go_wp2
          go_meet
          case rel => exact ⟨_, _, rfl, rfl, ⟨by rw [HE.out]; simp [hn, nullB]⟩, BK, BD, HB⟩
    by_cases a3 : a = 3 ∨ a = 4
    · have d1 : (a == 1) = false := beq_eq_false_iff_ne.mpr a1
      have d2 : (a == 2) = false := beq_eq_false_iff_ne.mpr a2
      have HE := Aside0.mk (isExpS_3 (k := k) (n := n) (v0 := v0) (v1 := v1) (v2 := v2) (op := op) a3)
      have HA := Aside0.mk a3
      clear h a0 a1 a2 a3 HS
      have hthree : ((a == 3) = true ∨ ((a == 3) = false ∧ (a == 4) = true)) := by
        rcases HA.out with h | h
        · exact Or.inl (beq_iff_eq.mpr h)
        · exact Or.inr ⟨beq_eq_false_iff_ne.mpr (by omega), beq_iff_eq.mpr h⟩
      rcases hthree with d3 | ⟨d3, d4⟩
      all_goals
        go_wp2
        replace BK := Aside0.mk (blk_drew BK.out)
        replace BD := Aside0.mk (blk_drew BD.out)
        replace HB := Aside0.mk (below_drew1 HB.out)
        refine start_ (n := 16) (S := fun w' => w'.cell? ⟨g, 1, none⟩ = some (.int .i64 n) ∧ w'.cell? ⟨g, 2, none⟩ = some (.int .i64 v0) ∧ w'.cell? ⟨g, 3, none⟩ = some (.int .i64 v1) ∧ w'.cell? ⟨g, 4, none⟩ = some (.string v2) ∧ w'.cell? ⟨g, 5, none⟩ = some (.string op)) (ds := []) (tf 0 16) (by kernel_rfl) rfl rfl ⟨bc_ BK 1, bc_ BK 2, bc_ BK 3, bc_ BK 4, bc_ BK 5⟩ (fun hHeld => ?_)
        generalize w2.drew = wd at BK BD HB hHeld ⊢
        refine plk_ ?_
        refine tlk_ ?_
        cases hn : (n == 0) with
        | false =>
          repeat (first | (refine pdk_ ?_) | (refine plk_ ?_) | (refine tlk_ ?_))
          refine done_ (by kernel_rfl) ?_
          go_wp2
          go_meet
          case rel => exact ⟨_, _, rfl, rfl, ⟨by rw [HE.out]; simp [hn]⟩, BK, BD, HB⟩
        | true =>
          cases hz : nullB v0 v1 v2 with
          | false =>
            have hz0 : (v0 == 0 && (v1 == 0 && v2.toList.isEmpty)) = false := by simpa [nullB] using hz
            have HZ := Aside0.mk hz
            clear hz
            repeat (first | (refine pdk_ ?_) | (refine plk_ ?_) | (refine tlk_ ?_))
            refine onek_ (fun K hK => ?_)
            refine gs_ Try.func46 #[] ?_
            refine (impl_null.calls 0 0 ⟨#[]⟩ _ rfl).mono ?_
            rintro e w' ⟨rfl, hb⟩
            refine ⟨_, rfl, ?_⟩
            replace BK := bkb_ BK hb; replace BD := bkb_ BD hb; replace HB := bs_ hb; clear hb
            refine hK.out _ _ ⟨bc_ BK 1, bc_ BK 2, bc_ BK 3, bc_ BK 4, bc_ BK 5⟩ (fun hHeld => ?_); clear hK K; refine nm_ ?_
            repeat (first | (refine pdk_ ?_) | (refine plk_ ?_) | (refine tlk_ ?_))
            refine done_ (by kernel_rfl) ?_
            go_wp2
            go_meet
            case rel => exact ⟨_, _, rfl, rfl, ⟨by rw [HE.out]; simp [hn, HZ.out]⟩, BK, BD, HB⟩
          | true =>
            have hz0 : (v0 == 0 && (v1 == 0 && v2.toList.isEmpty)) = true := by simpa [nullB] using hz
            have HZ := Aside0.mk hz
            clear hz
            repeat (first | (refine pdk_ ?_) | (refine plk_ ?_) | (refine tlk_ ?_))
            refine onek_ (fun K hK => ?_)
            refine gs_ Try.func46 #[] ?_
            refine (impl_null.calls 0 0 ⟨#[]⟩ _ rfl).mono ?_
            rintro e w' ⟨rfl, hb⟩
            refine ⟨_, rfl, ?_⟩
            replace BK := bkb_ BK hb; replace BD := bkb_ BD hb; replace HB := bs_ hb; clear hb
            refine hK.out _ _ ⟨bc_ BK 1, bc_ BK 2, bc_ BK 3, bc_ BK 4, bc_ BK 5⟩ (fun hHeld => ?_); clear hK K; refine nm_ ?_
            repeat (first | (refine pdk_ ?_) | (refine plk_ ?_) | (refine tlk_ ?_))
            refine done_ (by kernel_rfl) ?_
            go_wp2
            go_meet
            case rel => exact ⟨_, _, rfl, rfl, ⟨by rw [HE.out]; simp [hn, HZ.out]⟩, BK, BD, HB⟩
    have d1 : (a == 1) = false := beq_eq_false_iff_ne.mpr a1
    have d2 : (a == 2) = false := beq_eq_false_iff_ne.mpr a2
    have d3 : (a == 3) = false := beq_eq_false_iff_ne.mpr (by omega)
    have d4 : (a == 4) = false := beq_eq_false_iff_ne.mpr (by omega)
    have HE := Aside0.mk (isExpS_5 (k := k) (n := n) (v0 := v0) (v1 := v1) (v2 := v2) (op := op) a0 a1 a2 a3)
    clear h a0 a1 a2 a3 HS
    go_wp2
    go_meet
    case rel => exact ⟨_, _, rfl, rfl, HE, BK, BD, HB⟩
  case rest =>
    clear BK BD HB
    obtain ⟨kn', rt', rfl, rfl, HT, BK, BD, HB⟩ := hcut
    have he := Option.some.inj (HT.out.symm.trans HS.out)
    obtain rfl : kn' = kn := congrArg Prod.fst he
    obtain rfl : rt' = rt := congrArg Prod.snd he
    have H := HH.out
    clear HH HT HS he
    have b0 := bc_ (v := (.int .i64 d)) BD 0
    have b1 := bc_ (v := (.slice A l.length c)) BK 6
    cases rt' with
    | false =>
      obtain rfl := Option.some.inj ((if_neg (by simp)).symm.trans H)
      clear H
      go_wp2
      go_ret
      exact ⟨rfl, bb_⟩
    | true =>
      replace H := (if_pos rfl).symm.trans H
      by_cases h1 : d ≤ 12
      · have d1 : decide (d ≤ 12) = true := decide_eq_true h1
        replace H := (if_pos h1).symm.trans H
        clear h1
        by_cases h2 : (l.length : Int) = kn'
        · have d2 : ((l.length : Int) == kn') = true := beq_iff_eq.mpr h2
          replace H := (if_pos h2).symm.trans H
          clear h2
          have eg : ∀ args w, (callFunc 143 args).run Try.prog w = .ok (.enter 143 args) w := enters_of Try.func143 (by kernel_rfl) rfl
          have hall := areAll_T55.calls _ 143 #[.pointer (some ⟨gd, 0, none⟩)] eg A c l r wc (Kd.C_below HR.out HB.out) (isExp_cb k d gd wc IH.out l b0 (blk_lt BD.out)) H
          have HALL := Aside0.mk hall
          clear H hall
          go_wp2_with (go_at_call 142; refine HALL.out.mono ?_; rintro e w' ⟨rfl, hb'⟩)
          go_ret
          exact ⟨rfl, HB.out.trans (hb'.mono HB.out.size)⟩
        · have d2 : ((l.length : Int) == kn') = false := beq_eq_false_iff_ne.mpr h2
          obtain rfl := Option.some.inj ((if_neg h2).symm.trans H)
          clear H h2
          go_wp2
          go_ret
          exact ⟨rfl, bb_⟩
      · have d1 : decide (d ≤ 12) = false := decide_eq_false h1
        obtain rfl := Option.some.inj ((if_neg h1).symm.trans H)
        clear H h1
        go_wp2
        go_ret
        exact ⟨rfl, bb_⟩


/-! ### impl_ExpOk: function 74 -/
def impl_ExpOk.f (k : Nat) (a0_0 : Int) (a0_1 : Int) (a0_2 : Int) (a0_3 : Int) (a0_4 : ByteArray) (a0_5 : ByteArray) (l0_6 : List (S55)) : Option (Bool) := (impl_isExp.f k a0_0 a0_1 a0_2 a0_3 a0_4 a0_5 l0_6 0).bind fun t294 => (some t294)
set_option maxHeartbeats 8000000 in
set_option maxRecDepth 100000 in
theorem impl_ExpOk.calls (k : Nat) (a0_0 : Int) (a0_1 : Int) (a0_2 : Int) (a0_3 : Int) (a0_4 : ByteArray) (a0_5 : ByteArray) (A0_6 : Option Addr) (c0_6 : Nat) (l0_6 : List (S55)) (r : Bool) (w : World) (hr0_6 : Kd.C k55 w A0_6 l0_6.length l0_6) (hc0_6 : l0_6.length ≤ c0_6) (h : impl_ExpOk.f k a0_0 a0_1 a0_2 a0_3 a0_4 a0_5 l0_6 = some r) :
  Calls Try.prog 74 #[.agg #[.int .i64 a0_0, .int .i64 a0_1, .int .i64 a0_2, .int .i64 a0_3, .string a0_4, .string a0_5, .slice A0_6 l0_6.length c0_6]] w fun e w' => e = .returned (.bool r) ∧ Below w.heap.size w w' := by
 have hu55 := Try.underlying55
 have HR0_6 := Aside0.mk hr0_6
 have HC0_6 := Aside0.mk hc0_6
 clear hr0_6 hc0_6
 have HB := Aside0.mk (Below.refl w.heap.size w)
 have H : ((impl_isExp.f k a0_0 a0_1 a0_2 a0_3 a0_4 a0_5 l0_6 0).bind fun t294 => (some t294)) = some r := h
 clear h
 replace H := Option.bind_eq_some_iff.mp H
 obtain ⟨t294, A20, H⟩ := H
 replace H : (some t294) = some r := H
 have A2 := Aside0.mk A20
 clear A20
 obtain rfl := Option.some.inj H
 go_enter Try.func74, Try.ntmps74
 go_wp2_with (first | ((with_reducible refine gate_dst (N := 1) rfl ?_); refine bx_ 1 #[.int .i64 a0_0, .int .i64 a0_1, .int .i64 a0_2, .int .i64 a0_3, .string a0_4, .string a0_5, .slice A0_6 l0_6.length c0_6] 55 ?_; intro gb293 hg w3 hbox hb; have BK293 := Aside0.mk (hbox); have GW293 := gw_ hg; have GE293 := gw_ hg; replace HB := bs_ hb; clear hb hbox hg; obtain ⟨hcz4_0, hcz4_1, hcz4_2, hcz4_3, hcz4_4, hcz4_5, hcz4_6, hfz4_0, hfz4_1, hfz4_2, hfz4_3, hfz4_4, hfz4_5, hfz4_6⟩ := b7_ BK293) | ((with_reducible refine gate_callee (f := 117) rfl ?_); refine gsL_ (some 4) Try.func117 #[.agg #[.int .i64 a0_0, .int .i64 a0_1, .int .i64 a0_2, .int .i64 a0_3, .string a0_4, .string a0_5, .slice A0_6 l0_6.length c0_6], .int .i64 0] ?_; (with_reducible refine (impl_isExp.calls k a0_0 a0_1 a0_2 a0_3 a0_4 a0_5 _ _ l0_6 0 t294 _ ?side1 ?side2 A2.out).mono ?_); (case side1 => exact ck_ (Kd.C_below HR0_6.out HB.out)); (case side2 => exact HC0_6.out); rintro e w5 ⟨rfl, hb⟩; refine ⟨_, rfl, ?_⟩; replace BK293 := bkb_ BK293 hb; replace HB := bs_ hb; (try clear hb); (try clear hb2); (try clear hk); (try clear hi)))
 go_ret
 exact ⟨er_, bb_⟩

/-! ### impl_count: function 47 -/
def impl_count.j0 : Nat → Int → Int → Bool → Option (Int × Bool)
 | 0, _, _, _ => none
 | k + 1, x1, x2, x81 => if x81 = true then (some (0, false)) else (if x2 = 0 then (none) else (if (Int.tmod x1 x2) = 0 then (some (wrap64 (Int.tdiv x1 x2), true)) else (if ((decide (x1 < 0)) != (decide (x2 < 0))) = true then (some (wrap64 ((wrap64 (Int.tdiv x1 x2)) - 1), true)) else (some (wrap64 (Int.tdiv x1 x2), true)))))
def impl_count.f (k : Nat) (a0 : ByteArray) (a1 : Int) (a2 : Int) : Option (Int × Bool) := if a0.toList = ([43] : List UInt8) then (some (wrap64 (a1 + a2), ((decide ((wrap64 (a1 + a2)) > a1)) == (decide (a2 > 0))))) else (if a0.toList = ([45] : List UInt8) then (some (wrap64 (a1 - a2), ((decide ((wrap64 (a1 - a2)) < a1)) == (decide (a2 > 0))))) else (if a0.toList = ([42] : List UInt8) then (if a1 = 0 then (some (0, true)) else (if a2 = 0 then (some (0, true)) else (if (wrap64 (Int.tdiv (wrap64 (a1 * a2)) a2)) = a1 then (if a1 = (-1) then (if (a2 = (-9223372036854775808)) then (some (wrap64 (a1 * a2), false)) else (if a2 = (-1) then (some (wrap64 (a1 * a2), !(a1 == (-9223372036854775808)))) else (some (wrap64 (a1 * a2), !false)))) else (if a2 = (-1) then (some (wrap64 (a1 * a2), !(a1 == (-9223372036854775808)))) else (some (wrap64 (a1 * a2), !false)))) else (some (wrap64 (a1 * a2), false))))) else (if a2 = 0 then (impl_count.j0 k a1 a2 true) else (if a1 = (-9223372036854775808) then (impl_count.j0 k a1 a2 (a2 == (-1))) else (impl_count.j0 k a1 a2 false)))))
set_option maxHeartbeats 8000000 in
set_option maxRecDepth 100000 in
theorem impl_count.calls (k : Nat) (a0 : ByteArray) (a1 : Int) (a2 : Int) (r1 : Int) (r2 : Bool) (w : World) (h : impl_count.f k a0 a1 a2 = some (r1, r2)) :
  Calls Try.prog 47 #[.string a0, .int .i64 a1, .int .i64 a2] w fun e w' => e = .returned (.tuple #[.int .i64 r1, .bool r2]) ∧ Drawn0 w w' := by
 have H : (if a0.toList = ([43] : List UInt8) then (some (wrap64 (a1 + a2), ((decide ((wrap64 (a1 + a2)) > a1)) == (decide (a2 > 0))))) else (if a0.toList = ([45] : List UInt8) then (some (wrap64 (a1 - a2), ((decide ((wrap64 (a1 - a2)) < a1)) == (decide (a2 > 0))))) else (if a0.toList = ([42] : List UInt8) then (if a1 = 0 then (some (0, true)) else (if a2 = 0 then (some (0, true)) else (if (wrap64 (Int.tdiv (wrap64 (a1 * a2)) a2)) = a1 then (if a1 = (-1) then (if (a2 = (-9223372036854775808)) then (some (wrap64 (a1 * a2), false)) else (if a2 = (-1) then (some (wrap64 (a1 * a2), !(a1 == (-9223372036854775808)))) else (some (wrap64 (a1 * a2), !false)))) else (if a2 = (-1) then (some (wrap64 (a1 * a2), !(a1 == (-9223372036854775808)))) else (some (wrap64 (a1 * a2), !false)))) else (some (wrap64 (a1 * a2), false))))) else (if a2 = 0 then (impl_count.j0 k a1 a2 true) else (if a1 = (-9223372036854775808) then (impl_count.j0 k a1 a2 (a2 == (-1))) else (impl_count.j0 k a1 a2 false)))))) = some (r1, r2) := h
 clear h
 by_cases c4 : a0.toList = ([43] : List UInt8)
 ·rw [if_pos c4] at H
  have c4b0 : (a0.toList == ([43] : List UInt8)) = true := beq_iff_eq.mpr c4
  have c4b1 : (a0.toList != ([43] : List UInt8)) = false := bne_eq_false_iff_eq.mpr c4
  clear c4
  simp only [Option.some.injEq, Prod.mk.injEq] at H
  obtain ⟨rfl, rfl⟩ := H
  go_enter Try.func47, Try.ntmps47
  go_wp2
  go_ret2
  exact ⟨by first | rfl | (simp; done) | (simp [*]; done), by repeat (first | exact Drawn0.refl _ | apply Drawn0.step)⟩
 ·rw [if_neg c4] at H
  have c4b0 : (a0.toList == ([43] : List UInt8)) = false := beq_eq_false_iff_ne.mpr c4
  have c4b1 : (a0.toList != ([43] : List UInt8)) = true := bne_iff_ne.mpr c4
  by_cases c5 : a0.toList = ([45] : List UInt8)
  ·rw [if_pos c5] at H
   have c5b0 : (a0.toList == ([45] : List UInt8)) = true := beq_iff_eq.mpr c5
   have c5b1 : (a0.toList != ([45] : List UInt8)) = false := bne_eq_false_iff_eq.mpr c5
   clear c5
   simp only [Option.some.injEq, Prod.mk.injEq] at H
   obtain ⟨rfl, rfl⟩ := H
   go_enter Try.func47, Try.ntmps47
   go_wp2
   go_ret2
   exact ⟨by first | rfl | (simp; done) | (simp [*]; done), by repeat (first | exact Drawn0.refl _ | apply Drawn0.step)⟩
  ·rw [if_neg c5] at H
   have c5b0 : (a0.toList == ([45] : List UInt8)) = false := beq_eq_false_iff_ne.mpr c5
   have c5b1 : (a0.toList != ([45] : List UInt8)) = true := bne_iff_ne.mpr c5
   by_cases c6 : a0.toList = ([42] : List UInt8)
   ·rw [if_pos c6] at H
    have c6b0 : (a0.toList == ([42] : List UInt8)) = true := beq_iff_eq.mpr c6
    have c6b1 : (a0.toList != ([42] : List UInt8)) = false := bne_eq_false_iff_eq.mpr c6
    clear c6
    by_cases c7 : a1 = 0
    ·rw [if_pos c7] at H
     have c7b0 : (a1 == 0) = true := beq_iff_eq.mpr c7
     have c7b1 : (a1 != 0) = false := bne_eq_false_iff_eq.mpr c7
     clear c7
     simp only [Option.some.injEq, Prod.mk.injEq] at H
     obtain ⟨rfl, rfl⟩ := H
     go_enter Try.func47, Try.ntmps47
     go_wp2
     go_ret2
     exact ⟨by first | rfl | (simp; done) | (simp [*]; done), by repeat (first | exact Drawn0.refl _ | apply Drawn0.step)⟩
    ·rw [if_neg c7] at H
     have c7b0 : (a1 == 0) = false := beq_eq_false_iff_ne.mpr c7
     have c7b1 : (a1 != 0) = true := bne_iff_ne.mpr c7
     by_cases c8 : a2 = 0
     ·rw [if_pos c8] at H
      have c8b0 : (a2 == 0) = true := beq_iff_eq.mpr c8
      have c8b1 : (a2 != 0) = false := bne_eq_false_iff_eq.mpr c8
      clear c8
      simp only [Option.some.injEq, Prod.mk.injEq] at H
      obtain ⟨rfl, rfl⟩ := H
      go_enter Try.func47, Try.ntmps47
      go_wp2
      go_ret2
      exact ⟨by first | rfl | (simp; done) | (simp [*]; done), by repeat (first | exact Drawn0.refl _ | apply Drawn0.step)⟩
     ·rw [if_neg c8] at H
      have c8b0 : (a2 == 0) = false := beq_eq_false_iff_ne.mpr c8
      have c8b1 : (a2 != 0) = true := bne_iff_ne.mpr c8
      by_cases c9 : (wrap64 (Int.tdiv (wrap64 (a1 * a2)) a2)) = a1
      ·rw [if_pos c9] at H
       have c9b0 : ((wrap64 (Int.tdiv (wrap64 (a1 * a2)) a2)) == a1) = true := beq_iff_eq.mpr c9
       have c9b1 : ((wrap64 (Int.tdiv (wrap64 (a1 * a2)) a2)) != a1) = false := bne_eq_false_iff_eq.mpr c9
       clear c9
       by_cases c10 : a1 = (-1)
       ·rw [if_pos c10] at H
        have c10b0 : (a1 == (-1)) = true := beq_iff_eq.mpr c10
        have c10b1 : (a1 != (-1)) = false := bne_eq_false_iff_eq.mpr c10
        clear c10
        by_cases c11 : (a2 = (-9223372036854775808))
        ·rw [if_pos c11] at H
         have c11b0 : (a2 == (-9223372036854775808)) = true := beq_iff_eq.mpr c11
         have c11b1 : (a2 != (-9223372036854775808)) = false := bne_eq_false_iff_eq.mpr c11
         clear c11
         simp only [Option.some.injEq, Prod.mk.injEq] at H
         obtain ⟨rfl, rfl⟩ := H
         go_enter Try.func47, Try.ntmps47
         go_wp2
         go_ret2
         exact ⟨by first | rfl | (simp; done) | (simp [*]; done), by repeat (first | exact Drawn0.refl _ | apply Drawn0.step)⟩
        ·rw [if_neg c11] at H
         have c11b0 : (a2 == (-9223372036854775808)) = false := beq_eq_false_iff_ne.mpr c11
         have c11b1 : (a2 != (-9223372036854775808)) = true := bne_iff_ne.mpr c11
         by_cases c12 : a2 = (-1)
         ·rw [if_pos c12] at H
          have c12b0 : (a2 == (-1)) = true := beq_iff_eq.mpr c12
          have c12b1 : (a2 != (-1)) = false := bne_eq_false_iff_eq.mpr c12
          clear c12
          simp only [Option.some.injEq, Prod.mk.injEq] at H
          obtain ⟨rfl, rfl⟩ := H
          go_enter Try.func47, Try.ntmps47
          go_wp2
          go_ret2
          exact ⟨by first | rfl | (simp; done) | (simp [*]; done), by repeat (first | exact Drawn0.refl _ | apply Drawn0.step)⟩
         ·rw [if_neg c12] at H
          have c12b0 : (a2 == (-1)) = false := beq_eq_false_iff_ne.mpr c12
          have c12b1 : (a2 != (-1)) = true := bne_iff_ne.mpr c12
          simp only [Option.some.injEq, Prod.mk.injEq] at H
          obtain ⟨rfl, rfl⟩ := H
          go_enter Try.func47, Try.ntmps47
          go_wp2
          go_ret2
          exact ⟨by first | rfl | (simp; done) | (simp [*]; done), by repeat (first | exact Drawn0.refl _ | apply Drawn0.step)⟩
       ·rw [if_neg c10] at H
        have c10b0 : (a1 == (-1)) = false := beq_eq_false_iff_ne.mpr c10
        have c10b1 : (a1 != (-1)) = true := bne_iff_ne.mpr c10
        by_cases c13 : a2 = (-1)
        ·rw [if_pos c13] at H
         have c13b0 : (a2 == (-1)) = true := beq_iff_eq.mpr c13
         have c13b1 : (a2 != (-1)) = false := bne_eq_false_iff_eq.mpr c13
         clear c13
         simp only [Option.some.injEq, Prod.mk.injEq] at H
         obtain ⟨rfl, rfl⟩ := H
         go_enter Try.func47, Try.ntmps47
         go_wp2
         go_ret2
         exact ⟨by first | rfl | (simp; done) | (simp [*]; done), by repeat (first | exact Drawn0.refl _ | apply Drawn0.step)⟩
        ·rw [if_neg c13] at H
         have c13b0 : (a2 == (-1)) = false := beq_eq_false_iff_ne.mpr c13
         have c13b1 : (a2 != (-1)) = true := bne_iff_ne.mpr c13
         simp only [Option.some.injEq, Prod.mk.injEq] at H
         obtain ⟨rfl, rfl⟩ := H
         go_enter Try.func47, Try.ntmps47
         go_wp2
         go_ret2
         exact ⟨by first | rfl | (simp; done) | (simp [*]; done), by repeat (first | exact Drawn0.refl _ | apply Drawn0.step)⟩
      ·rw [if_neg c9] at H
       have c9b0 : ((wrap64 (Int.tdiv (wrap64 (a1 * a2)) a2)) == a1) = false := beq_eq_false_iff_ne.mpr c9
       have c9b1 : ((wrap64 (Int.tdiv (wrap64 (a1 * a2)) a2)) != a1) = true := bne_iff_ne.mpr c9
       simp only [Option.some.injEq, Prod.mk.injEq] at H
       obtain ⟨rfl, rfl⟩ := H
       go_enter Try.func47, Try.ntmps47
       go_wp2
       go_ret2
       exact ⟨by first | rfl | (simp; done) | (simp [*]; done), by repeat (first | exact Drawn0.refl _ | apply Drawn0.step)⟩
   ·rw [if_neg c6] at H
    have c6b0 : (a0.toList == ([42] : List UInt8)) = false := beq_eq_false_iff_ne.mpr c6
    have c6b1 : (a0.toList != ([42] : List UInt8)) = true := bne_iff_ne.mpr c6
    have HC14 := Aside0.mk H
    clear H
    go_enter Try.func47, Try.ntmps47
    go_upto_region 13 with (fail)
    go_cut [81] (fun v81 wc => ∃ (kq : Nat) (x81_13 : Bool), v81 = .bool x81_13 ∧ Aside0 (impl_count.j0 kq a1 a2 x81_13 = some (r1, r2)) ∧ Aside0 (kq ≤ k) ∧ Drawn0 w wc)
    case first =>
     have H := HC14.out
     clear HC14
     by_cases c15 : a2 = 0
     ·rw [if_pos c15] at H
      have c15b0 : (a2 == 0) = true := beq_iff_eq.mpr c15
      have c15b1 : (a2 != 0) = false := bne_eq_false_iff_eq.mpr c15
      clear c15
      (first | rw [c15b0] | (simp only [i64_w, i32_w]; rw [c15b0]) | skip)
      have H' := Aside0.mk H
      clear H
      go_wp2
      go_meet
      case rel => exact ⟨_, (true), rs_, H', ⟨by first | omega | exact Nat.le_refl _⟩, by repeat (first | exact Drawn0.refl _ | apply Drawn0.step)⟩
     ·rw [if_neg c15] at H
      have c15b0 : (a2 == 0) = false := beq_eq_false_iff_ne.mpr c15
      have c15b1 : (a2 != 0) = true := bne_iff_ne.mpr c15
      (first | rw [c15b0] | (simp only [i64_w, i32_w]; rw [c15b0]) | skip)
      by_cases c16 : a1 = (-9223372036854775808)
      ·rw [if_pos c16] at H
       have c16b0 : (a1 == (-9223372036854775808)) = true := beq_iff_eq.mpr c16
       have c16b1 : (a1 != (-9223372036854775808)) = false := bne_eq_false_iff_eq.mpr c16
       clear c16
       have H' := Aside0.mk H
       clear H
       go_wp2
       go_meet
       case rel => exact ⟨_, ((a2 == (-1))), rs_, H', ⟨by first | omega | exact Nat.le_refl _⟩, by repeat (first | exact Drawn0.refl _ | apply Drawn0.step)⟩
      ·rw [if_neg c16] at H
       have c16b0 : (a1 == (-9223372036854775808)) = false := beq_eq_false_iff_ne.mpr c16
       have c16b1 : (a1 != (-9223372036854775808)) = true := bne_iff_ne.mpr c16
       have H' := Aside0.mk H
       clear H
       go_wp2
       go_meet
       case rel => exact ⟨_, (false), rs_, H', ⟨by first | omega | exact Nat.le_refl _⟩, by repeat (first | exact Drawn0.refl _ | apply Drawn0.step)⟩
    case rest =>
     clear HC14
     try clear c1
     try clear p2
     try clear c4
     try clear c4b0
     try clear c4b1
     try clear c5
     try clear c5b0
     try clear c5b1
     try clear c6
     try clear c6b0
     try clear c6b1
     try clear p6
     try clear c7
     try clear c7b0
     try clear c7b1
     try clear c8
     try clear c8b0
     try clear c8b1
     try clear c9
     try clear c9b0
     try clear c9b1
     try clear c10
     try clear c10b0
     try clear c10b1
     try clear c11
     try clear c11b0
     try clear c11b1
     try clear c12
     try clear c12b0
     try clear c12b1
     try clear c13
     try clear c13b0
     try clear c13b1
     try clear c15
     try clear c15b0
     try clear c15b1
     try clear c16
     try clear c16b0
     try clear c16b1
     obtain ⟨kq, x81_13, rfl, HA, HJ13, ⟨mc13, rfl⟩⟩ := hcut
     cases kq with
     | zero => exact absurd HA.out (by simp [impl_count.j0])
     | succ kj13 =>
      have H := HA.out
      clear HA
      simp only [impl_count.j0] at H
      by_cases c17 : x81_13 = true
      ·subst c17
       have H1 : (some (0, false)) = some (r1, r2) := by rw [if_pos rfl] at H; exact H
       clear H
       have H := H1
       clear H1
       simp only [Option.some.injEq, Prod.mk.injEq] at H
       obtain ⟨rfl, rfl⟩ := H
       go_wp2
       go_ret2
       exact ⟨by first | rfl | (simp; done) | (simp [*]; done), by repeat (first | exact Drawn0.refl _ | apply Drawn0.step)⟩
      ·replace c17 := Bool.eq_false_iff.mpr c17
       subst c17
       have H1 : (if a2 = 0 then (none) else (if (Int.tmod a1 a2) = 0 then (some (wrap64 (Int.tdiv a1 a2), true)) else (if ((decide (a1 < 0)) != (decide (a2 < 0))) = true then (some (wrap64 ((wrap64 (Int.tdiv a1 a2)) - 1), true)) else (some (wrap64 (Int.tdiv a1 a2), true))))) = some (r1, r2) := by rw [if_neg (show ¬ (false = true) by decide)] at H; exact H
       clear H
       have H := H1
       clear H1
       by_cases c18 : a2 = 0
       ·rw [if_pos c18] at H
        exact absurd H (by simp)
       ·rw [if_neg c18] at H
        have c18b0 : (a2 == 0) = false := beq_eq_false_iff_ne.mpr c18
        have c18b1 : (a2 != 0) = true := bne_iff_ne.mpr c18
        by_cases c19 : (Int.tmod a1 a2) = 0
        ·rw [if_pos c19] at H
         have c19b0 : ((Int.tmod a1 a2) == 0) = true := beq_iff_eq.mpr c19
         have c19b1 : ((Int.tmod a1 a2) != 0) = false := bne_eq_false_iff_eq.mpr c19
         clear c19
         simp only [Option.some.injEq, Prod.mk.injEq] at H
         obtain ⟨rfl, rfl⟩ := H
         go_wp2
         go_ret2
         exact ⟨by first | rfl | (simp; done) | (simp [*]; done), by repeat (first | exact Drawn0.refl _ | apply Drawn0.step)⟩
        ·rw [if_neg c19] at H
         have c19b0 : ((Int.tmod a1 a2) == 0) = false := beq_eq_false_iff_ne.mpr c19
         have c19b1 : ((Int.tmod a1 a2) != 0) = true := bne_iff_ne.mpr c19
         by_cases c20 : ((decide (a1 < 0)) != (decide (a2 < 0))) = true
         ·rw [if_pos c20] at H
          have c20b0 : ((decide (a1 < 0)) != (decide (a2 < 0))) = true := c20
          (try (have c20b1 : decide ((decide (a1 < 0)) = (decide (a2 < 0))) = false := by simpa using c20))
          (try (have c20b2 : ((decide (a1 < 0)) == (decide (a2 < 0))) = false := by simpa using c20))
          (try (have c20b3 : ¬ ((decide (a1 < 0)) = (decide (a2 < 0))) := by simpa using c20))
          clear c20
          simp only [Option.some.injEq, Prod.mk.injEq] at H
          obtain ⟨rfl, rfl⟩ := H
          go_wp2
          go_ret2
          exact ⟨by first | rfl | (simp; done) | (simp [*]; done), by repeat (first | exact Drawn0.refl _ | apply Drawn0.step)⟩
         ·rw [if_neg c20] at H
          have c20b0 : ((decide (a1 < 0)) != (decide (a2 < 0))) = false := by simpa using c20
          (try (have c20b1 : decide ((decide (a1 < 0)) = (decide (a2 < 0))) = true := by simpa using c20))
          (try (have c20b2 : ((decide (a1 < 0)) == (decide (a2 < 0))) = true := by simpa using c20))
          clear c20
          simp only [Option.some.injEq, Prod.mk.injEq] at H
          obtain ⟨rfl, rfl⟩ := H
          go_wp2
          go_ret2
          exact ⟨by first | rfl | (simp; done) | (simp [*]; done), by repeat (first | exact Drawn0.refl _ | apply Drawn0.step)⟩

/-! ### impl_number: function 48 -/
def impl_number.f (a0 : Int) : Option (Int × Int × ByteArray) := some (1, a0, (⟨#[]⟩ : ByteArray))
set_option maxHeartbeats 8000000 in
set_option maxRecDepth 100000 in
theorem impl_number.calls (a0 : Int) (r1 : Int) (r2 : Int) (r3 : ByteArray) (w : World) (h : impl_number.f a0 = some (r1, r2, r3)) :
  Calls Try.prog 48 #[.int .i64 a0] w fun e w' => e = .returned (.agg #[.int .i64 r1, .int .i64 r2, .string r3]) ∧ Below w.heap.size w w' := by
 have hu25 := Try.underlying25
 have HB := Aside0.mk (Below.refl w.heap.size w)
 have H : (some (1, a0, (⟨#[]⟩ : ByteArray))) = some (r1, r2, r3) := h
 clear h
 simp only [Option.some.injEq, Prod.mk.injEq] at H
 obtain ⟨rfl, rfl, rfl⟩ := H
 go_enter Try.func48, Try.ntmps48
 go_wp2_with (first | ((with_reducible refine gate_dst (N := 2) rfl ?_); refine bx_ 2 #[.int .i64 0, .int .i64 0, .string (⟨#[]⟩ : ByteArray)] 25 ?_; intro gb295 hg w2 hbox hb; have BK295 := Aside0.mk (hbox); have GW295 := gw_ hg; have GE295 := gw_ hg; replace HB := bs_ hb; clear hb hbox hg; obtain ⟨hcz3_0, hcz3_1, hcz3_2, hfz3_0, hfz3_1, hfz3_2⟩ := b3_ BK295))
 refine bodyPost_ret (results_cell_row rfl _ _ gb295 25 #[.int .i64 1, .int .i64 a0, .string (⟨#[]⟩ : ByteArray)] (0, 0) _ rfl (bp3_ (bkx_ BK295.out)) Try.underlying25 rfl (by kernel_rfl)) rfl ?_
 exact ⟨er_, bb_⟩

/-! ### cmp_Or_int: function 97 -/
def cmp_Or_int.l0 : Nat → Int → List Int → Int → Int → Option (Int)
 | 0, _, _, _, _ => none
 | k + 1, x3, x6, x7, x8 => if x8 < x7 then (if 0 ≤ x8 then (if x8 < (x6.length : Int) then (if (rd x6 x8) = x3 then (cmp_Or_int.l0 k x3 x6 x7 (wrap64 (x8 + 1))) else (some (rd x6 x8))) else (none)) else (none)) else (some x3)
def cmp_Or_int.f (k : Nat) (l0 : List Int) : Option (Int) := cmp_Or_int.l0 k 0 l0 (l0.length : Int) 0
set_option maxHeartbeats 8000000 in
set_option maxRecDepth 100000 in
theorem cmp_Or_int.calls (k : Nat) (A0 : Option Addr) (c0 : Nat) (l0 : List Int) (r : Int) (w : World) (hr0 : Kd.C (Kd.int .i64) w A0 l0.length l0) (hc0 : l0.length ≤ c0) (h : cmp_Or_int.f k l0 = some r) :
  Calls Try.prog 97 #[.slice A0 l0.length c0] w fun e w' => e = .returned (.int .i64 r) ∧ Drawn0 w w' := by
 have HR0 := Aside0.mk hr0
 have HC0 := Aside0.mk hc0
 clear hr0 hc0
 have H : (cmp_Or_int.l0 k 0 l0 (l0.length : Int) 0) = some r := h
 clear h
 have H' := Aside0.mk H
 clear H
 go_enter Try.func97, Try.ntmps97
 go_wp2
 go_loopg [8] k (fun kq v8 w' => ∃ (x8_1 : Int), v8 = .int .i64 x8_1 ∧ Aside0 (cmp_Or_int.l0 kq 0 l0 (l0.length : Int) x8_1 = some r) ∧ Aside0 (kq ≤ k) ∧ Drawn0 w w')
 case atStart => exact ⟨(0), rs_, H', ⟨Nat.le_refl _⟩, by repeat (first | exact Drawn0.refl _ | apply Drawn0.step)⟩
 case round =>
  clear H'
  obtain ⟨x8_1, rfl, HA, HK1, ⟨m1, rfl⟩⟩ := hrel
  cases gk with
  | zero => exact absurd HA.out (by simp [cmp_Or_int.l0])
  | succ k1 =>
   have H := HA.out
   clear HA
   simp only [cmp_Or_int.l0] at H
   by_cases c2 : x8_1 < (l0.length : Int)
   ·rw [if_pos c2] at H
    have c2b0 : decide (x8_1 < (l0.length : Int)) = true := decide_eq_true c2
    clear c2
    by_cases c3 : 0 ≤ x8_1
    ·rw [if_pos c3] at H
     have c3b0 : decide (0 ≤ x8_1) = true := decide_eq_true c3
     clear c3
     by_cases c4 : x8_1 < (l0.length : Int)
     ·rw [if_pos c4] at H
      have c4b0 : decide (x8_1 < (l0.length : Int)) = true := decide_eq_true c4
      clear c4
      by_cases c5 : (rd l0 x8_1) = 0
      ·rw [if_pos c5] at H
       have c5b0 : ((rd l0 x8_1) == 0) = true := beq_iff_eq.mpr c5
       have c5b1 : ((rd l0 x8_1) != 0) = false := bne_eq_false_iff_eq.mpr c5
       clear c5
       have H' := Aside0.mk H
       clear H
       have p296 : 0 ≤ (x8_1 : Int) := of_decide_eq_true (by first | (with_reducible assumption) | assumption)
       have q296 : x8_1 < (l0.length : Int) := of_decide_eq_true (by first | (with_reducible assumption) | assumption)
       obtain ⟨ad296, e296, hx296_0⟩ := Kd.at_int HR0.out x8_1 p296 q296
       cases e296
       replace p296 := eq_true p296
       replace q296 := eq_true q296
       go_wp2
       go_roundg k1
       case measure => have := HK1.out; omega
       case rel => exact ⟨(wrap64 (x8_1 + 1)), rs_, H', ⟨by have := HK1.out; omega⟩, by repeat (first | exact Drawn0.refl _ | apply Drawn0.step)⟩
      ·rw [if_neg c5] at H
       have c5b0 : ((rd l0 x8_1) == 0) = false := beq_eq_false_iff_ne.mpr c5
       have c5b1 : ((rd l0 x8_1) != 0) = true := bne_iff_ne.mpr c5
       obtain rfl := Option.some.inj H
       have p296 : 0 ≤ (x8_1 : Int) := of_decide_eq_true (by first | (with_reducible assumption) | assumption)
       have q296 : x8_1 < (l0.length : Int) := of_decide_eq_true (by first | (with_reducible assumption) | assumption)
       obtain ⟨ad296, e296, hx296_0⟩ := Kd.at_int HR0.out x8_1 p296 q296
       cases e296
       replace p296 := eq_true p296
       replace q296 := eq_true q296
       go_wp2
       go_ret
       exact ⟨by first | rfl | (simp; done) | (simp [*]; done), by repeat (first | exact Drawn0.refl _ | apply Drawn0.step)⟩
     ·rw [if_neg c4] at H
      exact absurd H (by simp)
    ·rw [if_neg c3] at H
     exact absurd H (by simp)
   ·rw [if_neg c2] at H
    have c2b0 : decide (x8_1 < (l0.length : Int)) = false := decide_eq_false c2
    clear c2
    obtain rfl := Option.some.inj H
    go_wp2
    go_ret
    exact ⟨by first | rfl | (simp; done) | (simp [*]; done), by repeat (first | exact Drawn0.refl _ | apply Drawn0.step)⟩

/-! ### cmp_isNaN_int: function 133 -/
def cmp_isNaN_int.f (a0 : Int) : Option (Bool) := some (a0 != a0)
set_option maxHeartbeats 8000000 in
set_option maxRecDepth 100000 in
theorem cmp_isNaN_int.calls (a0 : Int) (r : Bool) (w : World) (h : cmp_isNaN_int.f a0 = some r) :
  Calls Try.prog 133 #[.int .i64 a0] w fun e w' => e = .returned (.bool r) ∧ Drawn0 w w' := by
 have H : (some (a0 != a0)) = some r := h
 clear h
 obtain rfl := Option.some.inj H
 go_enter Try.func133, Try.ntmps133
 go_wp2
 go_ret
 exact ⟨by first | rfl | (simp; done) | (simp [*]; done), by repeat (first | exact Drawn0.refl _ | apply Drawn0.step)⟩

end Go.Proofs.Ythgdmdabdlgliaa.PFnExactEval
