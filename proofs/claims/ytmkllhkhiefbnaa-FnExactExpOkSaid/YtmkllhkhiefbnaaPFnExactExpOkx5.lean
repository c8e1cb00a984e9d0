-- WRITTEN BY xprint.py, a program of this session over the kit's printer: by nobody's hand
-- PRESSED
import Derived.Test.YtmkllhkhiefbnaaPress
import Derived.Test.YtmkllhkhiefbnaaPFnExactExpOkx0
import Derived.Test.YtmkllhkhiefbnaaPFnExactExpOkx1
import Derived.Test.YtmkllhkhiefbnaaPFnExactExpOkx4
namespace Go.Proofs.Ytmkllhkhiefbnaa.PFnExactExpOk
open Go.RowKit Go.Proofs.YtmkllhkhiefbnaaW.PrintWords Go.Proofs.YtmkllhkhiefbnaaW.PrintLast Go.Proofs.YtmkllhkhiefbnaaW.PrintMore
set_option linter.unusedVariables false
set_option linter.unusedSimpArgs false

attribute [local go_sem high] eqA29
/-! ### impl_isExp: function 60 -/
-- by hand
/-- A value that is nothing. -/
def nullB (v0 v1 : Int) (v2 : ByteArray) : Bool := v0 == 0 && (v1 == 0 && (v2.toList == ([] : List UInt8)))
/-- What the kind of an expression asks: so many kids, and whether all else is right. -/
def isExpS (k : Nat) (a n v0 v1 : Int) (v2 op : ByteArray) : Option (Int × Bool) :=
  if a = 0 then (impl_isColumn.f n).bind fun b => some (0, b && nullB v0 v1 v2 && (op.toList == ([] : List UInt8)))
  else if a = 1 then (impl_ValueOk.f v0 v1 v2).bind fun b => some (0, b && (n == 0) && (op.toList == ([] : List UInt8)))
  else if a = 2 then (impl_isOp.f k op).bind fun b => some (2, b && (n == 0) && nullB v0 v1 v2)
  else if a = 3 ∨ a = 4 then some (1, (n == 0) && nullB v0 v1 v2 && (op.toList == ([] : List UInt8)))
  else some (0, false)
theorem isExpS_0 {k : Nat} {a n v0 v1 : Int} {v2 op : ByteArray} {b : Bool} (h : a = 0) (hb : impl_isColumn.f n = some b) : isExpS k a n v0 v1 v2 op = some (0, b && nullB v0 v1 v2 && (op.toList == ([] : List UInt8))) := by unfold isExpS; rw [if_pos h, hb]; rfl
theorem isExpS_1 {k : Nat} {a n v0 v1 : Int} {v2 op : ByteArray} {b : Bool} (h : a = 1) (hb : impl_ValueOk.f v0 v1 v2 = some b) : isExpS k a n v0 v1 v2 op = some (0, b && (n == 0) && (op.toList == ([] : List UInt8))) := by unfold isExpS; rw [if_neg (by omega), if_pos h, hb]; rfl
theorem isExpS_2 {k : Nat} {a n v0 v1 : Int} {v2 op : ByteArray} {b : Bool} (h : a = 2) (hb : impl_isOp.f k op = some b) : isExpS k a n v0 v1 v2 op = some (2, b && (n == 0) && nullB v0 v1 v2) := by unfold isExpS; rw [if_neg (by omega), if_neg (by omega), if_pos h, hb]; rfl
theorem isExpS_3 {k : Nat} {a n v0 v1 : Int} {v2 op : ByteArray} (h : a = 3 ∨ a = 4) : isExpS k a n v0 v1 v2 op = some (1, (n == 0) && nullB v0 v1 v2 && (op.toList == ([] : List UInt8))) := by unfold isExpS; rw [if_neg (by omega), if_neg (by omega), if_neg (by omega), if_pos h]
theorem isExpS_5 {k : Nat} {a n v0 v1 : Int} {v2 op : ByteArray} (h0 : ¬ a = 0) (h1 : ¬ a = 1) (h2 : ¬ a = 2) (h3 : ¬ (a = 3 ∨ a = 4)) : isExpS k a n v0 v1 v2 op = some (0, false) := by unfold isExpS; rw [if_neg h0, if_neg h1, if_neg h2, if_neg h3]
def impl_isExp.f : Nat → Int → Int → Int → Int → ByteArray → ByteArray → List S32 → Int → Option Bool
  | 0, _, _, _, _, _, _, _, _ => none
  | k + 1, a, n, v0, v1, v2, op, kids, d => (isExpS k a n v0 v1 v2 op).bind fun p => if p.2 = true then (if d ≤ 12 then (if (kids.length : Int) = p.1 then allO (fun x => impl_isExp.f k x.f0 x.f1 x.f2.f0 x.f2.f1 x.f2.f2 x.f3 x.f4 (wrap64 (d + 1))) kids else some false) else some false) else some false
set_option maxHeartbeats 4000000 in
set_option maxRecDepth 100000 in
theorem isExp_cb (k : Nat) (d : Int) (gd : Nat) (w0 : World) (ih : ∀ (a n v0 v1 : Int) (v2 op : ByteArray) (A : Option Addr) (c : Nat) (l : List S32) (d : Int) (r : Bool) (w : World) (hr : Kd.C k32 w A l.length l) (hc : l.length ≤ c) (h : impl_isExp.f k a n v0 v1 v2 op l d = some r),
    Calls Try.prog 60 #[.agg #[.int .i64 a, .int .i64 n, .int .i64 v0, .int .i64 v1, .string v2, .string op, .slice A l.length c], .int .i64 d] w fun e w' => e = .returned (.bool r) ∧ Below w.heap.size w w')
    (xs : List S32) (hc : w0.cell? ⟨gd, 0, none⟩ = some (.int .i64 d)) (hg : gd < w0.heap.size) : CB Try.prog k32 (fun cs => Value.agg cs.toArray) 122 #[.pointer (some ⟨gd, 0, none⟩)] (fun x => impl_isExp.f k x.f0 x.f1 x.f2.f0 x.f2.f1 x.f2.f2 x.f3 x.f4 (wrap64 (d + 1))) xs w0 := by
  intro W x cs b hW _ hK hf
  obtain ⟨A6, c6, rfl, hl6, hg6⟩ := k32_open hK
  have hcd : W.cell? ⟨gd, 0, none⟩ = some (.int .i64 d) := (hW.cell (p := ⟨gd, 0, none⟩) hg).trans hc
  have hlt : gd < W.heap.size := Nat.lt_of_lt_of_le hg hW.size
  have hne : gd ≠ W.heap.size := by omega
  have hu := Try.underlying32
  have hcall := fun V (hV : Below W.heap.size W V) => ih x.f0 x.f1 x.f2.f0 x.f2.f1 x.f2.f2 x.f3 A6 c6 x.f4 (wrap64 (d + 1)) b V (Kd.C_below hg6 hV) hl6 hf
  have HC := Aside0.mk hcall
  have hcd' := fun o : Obj => cell_alloc_old o hcd
  clear hK hf hcall ih hg6 hW hc hg
  show Calls Try.prog 122 #[.agg #[.int .i64 x.f0, .int .i64 x.f1, .int .i64 x.f2.f0, .int .i64 x.f2.f1, .string x.f2.f2, .string x.f3, .slice A6 x.f4.length c6], .pointer (some ⟨gd, 0, none⟩)] W _
  go_enter Try.func122, Try.ntmps122
  go_wp2_with (go_at_call 60; (try simp only [i64_w]); refine (HC.out _ (by repeat (first | exact Below.refl _ _ | apply below_alloc | apply pw_below_drewN | apply below_drew1))).mono ?_; rintro e w' ⟨rfl, hb'⟩)
  go_ret
  exact ⟨rfl, (by repeat (first | exact Below.refl _ _ | apply below_alloc | apply pw_below_drewN | apply below_drew1) : Below W.heap.size W _).trans (hb'.mono (by simp))⟩
set_option maxHeartbeats 8000000 in
set_option maxRecDepth 100000 in
theorem impl_isExp.calls (k : Nat) : ∀ (a n v0 v1 : Int) (v2 op : ByteArray) (A : Option Addr) (c : Nat) (l : List S32) (d : Int) (r : Bool) (w : World) (hr : Kd.C k32 w A l.length l) (hc : l.length ≤ c) (h : impl_isExp.f k a n v0 v1 v2 op l d = some r),
    Calls Try.prog 60 #[.agg #[.int .i64 a, .int .i64 n, .int .i64 v0, .int .i64 v1, .string v2, .string op, .slice A l.length c], .int .i64 d] w fun e w' => e = .returned (.bool r) ∧ Below w.heap.size w w' := by
  induction k with
  | zero => intro a n v0 v1 v2 op A c l d r w hr hc h; exact absurd h (by simp [impl_isExp.f])
  | succ k ih =>
  intro a n v0 v1 v2 op A c l d r w hr hc h
  obtain ⟨⟨kn, rt⟩, hs, h⟩ := Option.bind_eq_some_iff.1 h
  replace h : (if rt = true then (if d ≤ 12 then (if (l.length : Int) = kn then allO (fun x => impl_isExp.f k x.f0 x.f1 x.f2.f0 x.f2.f1 x.f2.f2 x.f3 x.f4 (wrap64 (d + 1))) l else some false) else some false) else some false) = some r := h
  have hu := Try.underlying32
  have hu2 := Try.underlying29
  have HS := Aside0.mk hs
  have HH := Aside0.mk h
  have HR := Aside0.mk hr
  have HC := Aside0.mk hc
  have IH := Aside0.mk ih
  have HB := Aside0.mk (Below.refl w.heap.size w)
  clear hs h hr hc ih
  go_enter Try.func60, Try.ntmps60
  go_upto_block 0 with (first
    | ((with_reducible refine gate_dst (N := 2) rfl ?_); refine bx_ 2 #[.int .i64 a, .int .i64 n, .int .i64 v0, .int .i64 v1, .string v2, .string op, .slice A l.length c] 32 ?_; intro g hg w1 hbox hb; have BK := Aside0.mk hbox; have GW := gw_ hg; replace HB := bs_ hb; clear hb hbox hg)
    | ((with_reducible refine gate_dst (N := 3) rfl ?_); refine bx_ 3 #[.int .i64 d] 3 ?_; intro gd hg w2 hbox hb; have BD := Aside0.mk hbox; have GD := gw_ hg; replace BK := bkb_ BK hb; replace HB := bs_ hb; clear hb hbox hg; have b0 := bc_ (v := (.int .i64 a)) BK 0))
  clear b0
  (try simp only [Act.put, List.setIfInBounds_toArray, List.set_cons_zero, List.set_cons_succ])
  go_cut [5, 6] (fun v5 v6 wc => ∃ (kn : Int) (rt : Bool), v5 = .int .i64 kn ∧ v6 = .bool rt ∧ Aside0 (isExpS k a n v0 v1 v2 op = some (kn, rt)) ∧ Aside0 (wc.heap[g]? = some (.cells #[.int .i64 a, .int .i64 n, .int .i64 v0, .int .i64 v1, .string v2, .string op, .slice A l.length c] 32 (0, 0))) ∧ Aside0 (wc.heap[gd]? = some (.cells #[.int .i64 d] 3 (0, 0))) ∧ Aside0 (Below w.heap.size w wc))
  case first =>
    clear IH HH HR HC
    have h := HS.out
    unfold isExpS at h
    by_cases a0 : a = 0
    · have d0 : (a == 0) = true := beq_iff_eq.mpr a0
      rw [if_pos a0] at h
      obtain ⟨b, hb, _⟩ := Option.bind_eq_some_iff.1 h
      have HE := Aside0.mk (isExpS_0 (k := k) (v0 := v0) (v1 := v1) (v2 := v2) (op := op) a0 hb)
      have HC := Aside0.mk hb
      clear h hb a0 HS
      go_wp2
      replace BK := Aside0.mk (blk_drew BK.out)
      replace BD := Aside0.mk (blk_drew BD.out)
      replace HB := Aside0.mk (below_drew1 HB.out)
      refine start_ (n := 15) (S := fun w' => w'.cell? ⟨g, 1, none⟩ = some (.int .i64 n) ∧ w'.cell? ⟨g, 2, none⟩ = some (.int .i64 v0) ∧ w'.cell? ⟨g, 3, none⟩ = some (.int .i64 v1) ∧ w'.cell? ⟨g, 4, none⟩ = some (.string v2) ∧ w'.cell? ⟨g, 5, none⟩ = some (.string op)) (ds := []) (tf 0 15) (by kernel_rfl) rfl rfl ⟨bc_ BK 1, bc_ BK 2, bc_ BK 3, bc_ BK 4, bc_ BK 5⟩ (fun hHeld => ?_)
      generalize w2.drew = wd at BK BD HB hHeld ⊢
      refine plk_ ?_
      refine tlk_ ?_
      refine onek_ (fun K hK => ?_)
      refine gs_ Try.func118 #[.int .i64 n] ?_
      refine (impl_isColumn.calls n b _ HC.out).mono ?_
      rintro e w' ⟨rfl, ⟨nd, rfl⟩⟩
      refine ⟨_, rfl, ?_⟩
      replace BK := Aside0.mk (blk_drewN BK.out nd); replace BD := Aside0.mk (blk_drewN BD.out nd); replace HB := Aside0.mk (pw_below_drewN HB.out nd)
      refine hK.out _ _ ⟨bc_ BK 1, bc_ BK 2, bc_ BK 3, bc_ BK 4, bc_ BK 5⟩ (fun hHeld => ?_); clear hK K; refine nm_ ?_
      cases b with
      | false =>
        repeat (first | (refine pdk_ ?_) | (refine plk_ ?_) | (refine tlk_ ?_))
        refine done_ (by kernel_rfl) ?_
        go_wp2
        go_meet
        case rel => exact ⟨_, _, rfl, rfl, ⟨by first | exact HE.out | (rw [HE.out]; simp [nullB, *])⟩, BK, BD, HB⟩
      | true =>
        cases hz : nullB v0 v1 v2 with
        | false =>
          have hz0 : (v0 == 0 && (v1 == 0 && v2.toList.isEmpty)) = false := by simpa [nullB] using hz
          have HZ := Aside0.mk hz
          clear hz
          repeat (first | (refine pdk_ ?_) | (refine plk_ ?_) | (refine tlk_ ?_))
          refine onek_ (fun K hK => ?_)
          refine gs_ Try.func87 #[] ?_
          refine (impl_null.calls 0 0 ⟨#[]⟩ _ rfl).mono ?_
          rintro e w' ⟨rfl, hb⟩
          refine ⟨_, rfl, ?_⟩
          replace BK := bkb_ BK hb; replace BD := bkb_ BD hb; replace HB := bs_ hb; clear hb
          refine hK.out _ _ ⟨bc_ BK 1, bc_ BK 2, bc_ BK 3, bc_ BK 4, bc_ BK 5⟩ (fun hHeld => ?_); clear hK K; refine nm_ ?_
          repeat (first | (refine pdk_ ?_) | (refine plk_ ?_) | (refine tlk_ ?_))
          refine done_ (by kernel_rfl) ?_
          go_wp2
          go_meet
          case rel => exact ⟨_, _, rfl, rfl, ⟨by first | exact HE.out | (rw [HE.out]; simp [HZ.out])⟩, BK, BD, HB⟩
        | true =>
          have hz0 : (v0 == 0 && (v1 == 0 && v2.toList.isEmpty)) = true := by simpa [nullB] using hz
          have HZ := Aside0.mk hz
          clear hz
          repeat (first | (refine pdk_ ?_) | (refine plk_ ?_) | (refine tlk_ ?_))
          refine onek_ (fun K hK => ?_)
          refine gs_ Try.func87 #[] ?_
          refine (impl_null.calls 0 0 ⟨#[]⟩ _ rfl).mono ?_
          rintro e w' ⟨rfl, hb⟩
          refine ⟨_, rfl, ?_⟩
          replace BK := bkb_ BK hb; replace BD := bkb_ BD hb; replace HB := bs_ hb; clear hb
          refine hK.out _ _ ⟨bc_ BK 1, bc_ BK 2, bc_ BK 3, bc_ BK 4, bc_ BK 5⟩ (fun hHeld => ?_); clear hK K; refine nm_ ?_
          repeat (first | (refine pdk_ ?_) | (refine plk_ ?_) | (refine tlk_ ?_))
          refine done_ (by kernel_rfl) ?_
          go_wp2
          go_meet
          case rel => exact ⟨_, _, rfl, rfl, ⟨by first | exact HE.out | (rw [HE.out]; simp [HZ.out])⟩, BK, BD, HB⟩
    have d0 : (a == 0) = false := beq_eq_false_iff_ne.mpr a0
    by_cases a1 : a = 1
    · have d1 : (a == 1) = true := beq_iff_eq.mpr a1
      rw [if_neg a0, if_pos a1] at h
      obtain ⟨b, hb, _⟩ := Option.bind_eq_some_iff.1 h
      have HE := Aside0.mk (isExpS_1 (k := k) (n := n) (op := op) a1 hb)
      have HC := Aside0.mk hb
      clear h hb a0 a1 HS
      have b1 := bc_ (v := (.int .i64 v0)) BK 2
      have b2 := bc_ (v := (.int .i64 v1)) BK 3
      have b3 := bc_ (v := (.string v2)) BK 4
      cases b with
      | false =>
        go_wp2_with (go_at_call 119; refine (impl_ValueOk.calls v0 v1 v2 false _ HC.out).mono ?_; rintro e w' ⟨rfl, hb⟩; replace BK := bkb_ BK hb; replace BD := bkb_ BD hb; replace HB := bs_ hb; clear hb)
        go_meet
        case rel => exact ⟨_, _, rfl, rfl, ⟨by rw [HE.out]; simp⟩, BK, BD, HB⟩
      | true =>
        cases hn : (n == 0) with
        | false =>
          go_wp2_with (go_at_call 119; refine (impl_ValueOk.calls v0 v1 v2 true _ HC.out).mono ?_; rintro e w' ⟨rfl, hb⟩; replace BK := bkb_ BK hb; replace BD := bkb_ BD hb; replace HB := bs_ hb; clear hb; have b4 := bc_ (v := (.int .i64 n)) BK 1; have b5 := bc_ (v := (.string op)) BK 5)
          go_meet
          case rel => exact ⟨_, _, rfl, rfl, ⟨by rw [HE.out, hn]; simp⟩, BK, BD, HB⟩
        | true =>
          go_wp2_with (go_at_call 119; refine (impl_ValueOk.calls v0 v1 v2 true _ HC.out).mono ?_; rintro e w' ⟨rfl, hb⟩; replace BK := bkb_ BK hb; replace BD := bkb_ BD hb; replace HB := bs_ hb; clear hb; have b4 := bc_ (v := (.int .i64 n)) BK 1; have b5 := bc_ (v := (.string op)) BK 5)
          go_meet
          case rel => exact ⟨_, _, rfl, rfl, ⟨by rw [HE.out, hn]; simp⟩, BK, BD, HB⟩
    by_cases a2 : a = 2
    · have d2 : (a == 2) = true := beq_iff_eq.mpr a2
      rw [if_neg a0, if_neg a1, if_pos a2] at h
      obtain ⟨b, hb, _⟩ := Option.bind_eq_some_iff.1 h
      have HE := Aside0.mk (isExpS_2 (n := n) (v0 := v0) (v1 := v1) (v2 := v2) a2 hb)
      have HC := Aside0.mk hb
      have d1 : (a == 1) = false := beq_eq_false_iff_ne.mpr a1
      clear h hb a0 a1 a2 HS
      go_wp2
      replace BK := Aside0.mk (blk_drew BK.out)
      replace BD := Aside0.mk (blk_drew BD.out)
      replace HB := Aside0.mk (below_drew1 HB.out)
      refine start_ (n := 16) (S := fun w' => w'.cell? ⟨g, 1, none⟩ = some (.int .i64 n) ∧ w'.cell? ⟨g, 2, none⟩ = some (.int .i64 v0) ∧ w'.cell? ⟨g, 3, none⟩ = some (.int .i64 v1) ∧ w'.cell? ⟨g, 4, none⟩ = some (.string v2) ∧ w'.cell? ⟨g, 5, none⟩ = some (.string op)) (ds := []) (tf 0 16) (by kernel_rfl) rfl rfl ⟨bc_ BK 1, bc_ BK 2, bc_ BK 3, bc_ BK 4, bc_ BK 5⟩ (fun hHeld => ?_)
      generalize w2.drew = wd at BK BD HB hHeld ⊢
      refine plk_ ?_
      refine tlk_ ?_
      refine onek_ (fun K hK => ?_)
      refine gs_ Try.func120 #[.string op] ?_
      refine (impl_isOp.calls k op b _ HC.out).mono ?_
      rintro e w' ⟨rfl, hb⟩
      refine ⟨_, rfl, ?_⟩
      replace BK := bkb_ BK hb; replace BD := bkb_ BD hb; replace HB := bs_ hb; clear hb
      refine hK.out _ _ ⟨bc_ BK 1, bc_ BK 2, bc_ BK 3, bc_ BK 4, bc_ BK 5⟩ (fun hHeld => ?_); clear hK K; refine nm_ ?_
      cases b with
      | false =>
        repeat (first | (refine pdk_ ?_) | (refine plk_ ?_) | (refine tlk_ ?_))
        refine done_ (by kernel_rfl) ?_
        go_wp2
        go_meet
        case rel => exact ⟨_, _, rfl, rfl, ⟨by rw [HE.out]; simp []⟩, BK, BD, HB⟩
      | true =>
        cases hn : (n == 0) with
        | false =>
          repeat (first | (refine pdk_ ?_) | (refine plk_ ?_) | (refine tlk_ ?_))
          refine done_ (by kernel_rfl) ?_
          go_wp2
          go_meet
          case rel => exact ⟨_, _, rfl, rfl, ⟨by rw [HE.out]; simp [hn]⟩, BK, BD, HB⟩
        | true =>
          repeat (first | (refine pdk_ ?_) | (refine plk_ ?_) | (refine tlk_ ?_))
          refine onek_ (fun K hK => ?_)
          refine gs_ Try.func87 #[] ?_
          refine (impl_null.calls 0 0 ⟨#[]⟩ _ rfl).mono ?_
          rintro e w' ⟨rfl, hb⟩
          refine ⟨_, rfl, ?_⟩
          replace BK := bkb_ BK hb; replace BD := bkb_ BD hb; replace HB := bs_ hb; clear hb
          refine hK.out _ _ ⟨bc_ BK 1, bc_ BK 2, bc_ BK 3, bc_ BK 4, bc_ BK 5⟩ (fun hHeld => ?_); clear hK K; refine nm_ ?_
          repeat (first | (refine pdk_ ?_) | (refine plk_ ?_) | (refine tlk_ ?_))
          refine done_ (by kernel_rfl) ?_
          go_wp2
          go_meet
          case rel => exact ⟨_, _, rfl, rfl, ⟨by rw [HE.out]; simp [hn, nullB]⟩, BK, BD, HB⟩
    by_cases a3 : a = 3 ∨ a = 4
    · have d1 : (a == 1) = false := beq_eq_false_iff_ne.mpr a1
      have d2 : (a == 2) = false := beq_eq_false_iff_ne.mpr a2
      have HE := Aside0.mk (isExpS_3 (k := k) (n := n) (v0 := v0) (v1 := v1) (v2 := v2) (op := op) a3)
      have HA := Aside0.mk a3
      clear h a0 a1 a2 a3 HS
      have hthree : ((a == 3) = true ∨ ((a == 3) = false ∧ (a == 4) = true)) := by
        rcases HA.out with h | h
        · exact Or.inl (beq_iff_eq.mpr h)
        · exact Or.inr ⟨beq_eq_false_iff_ne.mpr (by omega), beq_iff_eq.mpr h⟩
      rcases hthree with d3 | ⟨d3, d4⟩
      all_goals
        go_wp2
        replace BK := Aside0.mk (blk_drew BK.out)
        replace BD := Aside0.mk (blk_drew BD.out)
        replace HB := Aside0.mk (below_drew1 HB.out)
        refine start_ (n := 16) (S := fun w' => w'.cell? ⟨g, 1, none⟩ = some (.int .i64 n) ∧ w'.cell? ⟨g, 2, none⟩ = some (.int .i64 v0) ∧ w'.cell? ⟨g, 3, none⟩ = some (.int .i64 v1) ∧ w'.cell? ⟨g, 4, none⟩ = some (.string v2) ∧ w'.cell? ⟨g, 5, none⟩ = some (.string op)) (ds := []) (tf 0 16) (by kernel_rfl) rfl rfl ⟨bc_ BK 1, bc_ BK 2, bc_ BK 3, bc_ BK 4, bc_ BK 5⟩ (fun hHeld => ?_)
        generalize w2.drew = wd at BK BD HB hHeld ⊢
        refine plk_ ?_
        refine tlk_ ?_
        cases hn : (n == 0) with
        | false =>
          repeat (first | (refine pdk_ ?_) | (refine plk_ ?_) | (refine tlk_ ?_))
          refine done_ (by kernel_rfl) ?_
          go_wp2
          go_meet
          case rel => exact ⟨_, _, rfl, rfl, ⟨by rw [HE.out]; simp [hn]⟩, BK, BD, HB⟩
        | true =>
          cases hz : nullB v0 v1 v2 with
          | false =>
            have hz0 : (v0 == 0 && (v1 == 0 && v2.toList.isEmpty)) = false := by simpa [nullB] using hz
            have HZ := Aside0.mk hz
            clear hz
            repeat (first | (refine pdk_ ?_) | (refine plk_ ?_) | (refine tlk_ ?_))
            refine onek_ (fun K hK => ?_)
            refine gs_ Try.func87 #[] ?_
            refine (impl_null.calls 0 0 ⟨#[]⟩ _ rfl).mono ?_
            rintro e w' ⟨rfl, hb⟩
            refine ⟨_, rfl, ?_⟩
            replace BK := bkb_ BK hb; replace BD := bkb_ BD hb; replace HB := bs_ hb; clear hb
            refine hK.out _ _ ⟨bc_ BK 1, bc_ BK 2, bc_ BK 3, bc_ BK 4, bc_ BK 5⟩ (fun hHeld => ?_); clear hK K; refine nm_ ?_
            repeat (first | (refine pdk_ ?_) | (refine plk_ ?_) | (refine tlk_ ?_))
            refine done_ (by kernel_rfl) ?_
            go_wp2
            go_meet
            case rel => exact ⟨_, _, rfl, rfl, ⟨by rw [HE.out]; simp [hn, HZ.out]⟩, BK, BD, HB⟩
          | true =>
            have hz0 : (v0 == 0 && (v1 == 0 && v2.toList.isEmpty)) = true := by simpa [nullB] using hz
            have HZ := Aside0.mk hz
            clear hz
            repeat (first | (refine pdk_ ?_) | (refine plk_ ?_) | (refine tlk_ ?_))
            refine onek_ (fun K hK => ?_)
            refine gs_ Try.func87 #[] ?_
            refine (impl_null.calls 0 0 ⟨#[]⟩ _ rfl).mono ?_
            rintro e w' ⟨rfl, hb⟩
            refine ⟨_, rfl, ?_⟩
            replace BK := bkb_ BK hb; replace BD := bkb_ BD hb; replace HB := bs_ hb; clear hb
            refine hK.out _ _ ⟨bc_ BK 1, bc_ BK 2, bc_ BK 3, bc_ BK 4, bc_ BK 5⟩ (fun hHeld => ?_); clear hK K; refine nm_ ?_
            repeat (first | (refine pdk_ ?_) | (refine plk_ ?_) | (refine tlk_ ?_))
            refine done_ (by kernel_rfl) ?_
            go_wp2
            go_meet
            case rel => exact ⟨_, _, rfl, rfl, ⟨by rw [HE.out]; simp [hn, HZ.out]⟩, BK, BD, HB⟩
    have d1 : (a == 1) = false := beq_eq_false_iff_ne.mpr a1
    have d2 : (a == 2) = false := beq_eq_false_iff_ne.mpr a2
    have d3 : (a == 3) = false := beq_eq_false_iff_ne.mpr (by omega)
    have d4 : (a == 4) = false := beq_eq_false_iff_ne.mpr (by omega)
    have HE := Aside0.mk (isExpS_5 (k := k) (n := n) (v0 := v0) (v1 := v1) (v2 := v2) (op := op) a0 a1 a2 a3)
    clear h a0 a1 a2 a3 HS
    go_wp2
    go_meet
    case rel => exact ⟨_, _, rfl, rfl, HE, BK, BD, HB⟩
  case rest =>
    clear BK BD HB
    obtain ⟨kn', rt', rfl, rfl, HT, BK, BD, HB⟩ := hcut
    have he := Option.some.inj (HT.out.symm.trans HS.out)
    obtain rfl : kn' = kn := congrArg Prod.fst he
    obtain rfl : rt' = rt := congrArg Prod.snd he
    have H := HH.out
    clear HH HT HS he
    have b0 := bc_ (v := (.int .i64 d)) BD 0
    have b1 := bc_ (v := (.slice A l.length c)) BK 6
    cases rt' with
    | false =>
      obtain rfl := Option.some.inj ((if_neg (by simp)).symm.trans H)
      clear H
      go_wp2
      go_ret
      exact ⟨rfl, bb_⟩
    | true =>
      replace H := (if_pos rfl).symm.trans H
      by_cases h1 : d ≤ 12
      · have d1 : decide (d ≤ 12) = true := decide_eq_true h1
        replace H := (if_pos h1).symm.trans H
        clear h1
        by_cases h2 : (l.length : Int) = kn'
        · have d2 : ((l.length : Int) == kn') = true := beq_iff_eq.mpr h2
          replace H := (if_pos h2).symm.trans H
          clear h2
          have eg : ∀ args w, (callFunc 122 args).run Try.prog w = .ok (.enter 122 args) w := enters_of Try.func122 (by kernel_rfl) rfl
          have hall := areAll_T32.calls _ 122 #[.pointer (some ⟨gd, 0, none⟩)] eg A c l r wc (Kd.C_below HR.out HB.out) (isExp_cb k d gd wc IH.out l b0 (blk_lt BD.out)) H
          have HALL := Aside0.mk hall
          clear H hall
          go_wp2_with (go_at_call 121; refine HALL.out.mono ?_; rintro e w' ⟨rfl, hb'⟩)
          go_ret
          exact ⟨rfl, HB.out.trans (hb'.mono HB.out.size)⟩
        · have d2 : ((l.length : Int) == kn') = false := beq_eq_false_iff_ne.mpr h2
          obtain rfl := Option.some.inj ((if_neg h2).symm.trans H)
          clear H h2
          go_wp2
          go_ret
          exact ⟨rfl, bb_⟩
      · have d1 : decide (d ≤ 12) = false := decide_eq_false h1
        obtain rfl := Option.some.inj ((if_neg h1).symm.trans H)
        clear H h1
        go_wp2
        go_ret
        exact ⟨rfl, bb_⟩


/-! ### impl_ExpOk: function 16 -/
def impl_ExpOk.f (k : Nat) (a0_0 : Int) (a0_1 : Int) (a0_2 : Int) (a0_3 : Int) (a0_4 : ByteArray) (a0_5 : ByteArray) (l0_6 : List (S32)) : Option (Bool) := (impl_isExp.f k a0_0 a0_1 a0_2 a0_3 a0_4 a0_5 l0_6 0).bind fun t158 => (some t158)
set_option maxHeartbeats 8000000 in
set_option maxRecDepth 100000 in
theorem impl_ExpOk.calls (k : Nat) (a0_0 : Int) (a0_1 : Int) (a0_2 : Int) (a0_3 : Int) (a0_4 : ByteArray) (a0_5 : ByteArray) (A0_6 : Option Addr) (c0_6 : Nat) (l0_6 : List (S32)) (r : Bool) (w : World) (hr0_6 : Kd.C k32 w A0_6 l0_6.length l0_6) (hc0_6 : l0_6.length ≤ c0_6) (h : impl_ExpOk.f k a0_0 a0_1 a0_2 a0_3 a0_4 a0_5 l0_6 = some r) :
  Calls Try.prog 16 #[.agg #[.int .i64 a0_0, .int .i64 a0_1, .int .i64 a0_2, .int .i64 a0_3, .string a0_4, .string a0_5, .slice A0_6 l0_6.length c0_6]] w fun e w' => e = .returned (.bool r) ∧ Below w.heap.size w w' := by
 have hu32 := Try.underlying32
 have HR0_6 := Aside0.mk hr0_6
 have HC0_6 := Aside0.mk hc0_6
 clear hr0_6 hc0_6
 have HB := Aside0.mk (Below.refl w.heap.size w)
 have H : ((impl_isExp.f k a0_0 a0_1 a0_2 a0_3 a0_4 a0_5 l0_6 0).bind fun t158 => (some t158)) = some r := h
 clear h
 replace H := Option.bind_eq_some_iff.mp H
 obtain ⟨t158, A20, H⟩ := H
 replace H : (some t158) = some r := H
 have A2 := Aside0.mk A20
 clear A20
 obtain rfl := Option.some.inj H
 go_enter Try.func16, Try.ntmps16
 go_wp2_with (first | ((with_reducible refine gate_dst (N := 1) rfl ?_); refine bx_ 1 #[.int .i64 a0_0, .int .i64 a0_1, .int .i64 a0_2, .int .i64 a0_3, .string a0_4, .string a0_5, .slice A0_6 l0_6.length c0_6] 32 ?_; intro gb157 hg w3 hbox hb; have BK157 := Aside0.mk (hbox); have GW157 := gw_ hg; have GE157 := gw_ hg; replace HB := bs_ hb; clear hb hbox hg; have hcz4_0 := bc_ (v := (.int .i64 a0_0)) BK157 0; have hcz4_1 := bc_ (v := (.int .i64 a0_1)) BK157 1; have hcz4_2 := bc_ (v := (.int .i64 a0_2)) BK157 2; have hcz4_3 := bc_ (v := (.int .i64 a0_3)) BK157 3; have hcz4_4 := bc_ (v := (.string a0_4)) BK157 4; have hcz4_5 := bc_ (v := (.string a0_5)) BK157 5; have hcz4_6 := bc_ (v := (.slice A0_6 l0_6.length c0_6)) BK157 6; have hfz4_0 := blk_frozen BK157.out 0; have hfz4_1 := blk_frozen BK157.out 1; have hfz4_2 := blk_frozen BK157.out 2; have hfz4_3 := blk_frozen BK157.out 3; have hfz4_4 := blk_frozen BK157.out 4; have hfz4_5 := blk_frozen BK157.out 5; have hfz4_6 := blk_frozen BK157.out 6) | ((with_reducible refine gate_callee (f := 60) rfl ?_); refine gsL_ (some 4) Try.func60 #[.agg #[.int .i64 a0_0, .int .i64 a0_1, .int .i64 a0_2, .int .i64 a0_3, .string a0_4, .string a0_5, .slice A0_6 l0_6.length c0_6], .int .i64 0] ?_; (with_reducible refine (impl_isExp.calls k a0_0 a0_1 a0_2 a0_3 a0_4 a0_5 _ _ l0_6 0 t158 _ ?side1 ?side2 A2.out).mono ?_); (case side1 => exact ck_ (Kd.C_below HR0_6.out HB.out)); (case side2 => exact HC0_6.out); rintro e w5 ⟨rfl, hb⟩; refine ⟨_, rfl, ?_⟩; replace BK157 := bkb_ BK157 hb; replace HB := bs_ hb; (try clear hb); (try clear hb2); (try clear hk); (try clear hi)))
 go_ret
 exact ⟨er_, bb_⟩

/-! ### laws_eqValue: function 42 -/
def laws_eqValue.f (a0_0 : Int) (a0_1 : Int) (a0_2 : ByteArray) (a1_0 : Int) (a1_1 : Int) (a1_2 : ByteArray) : Option (Bool) := if a0_0 = a1_0 then (if a0_1 = a1_1 then (if a0_2.toList = a1_2.toList then (some true) else (some false)) else (some false)) else (some false)
set_option maxHeartbeats 8000000 in
set_option maxRecDepth 100000 in
theorem laws_eqValue.calls (a0_0 : Int) (a0_1 : Int) (a0_2 : ByteArray) (a1_0 : Int) (a1_1 : Int) (a1_2 : ByteArray) (r : Bool) (w : World) (h : laws_eqValue.f a0_0 a0_1 a0_2 a1_0 a1_1 a1_2 = some r) :
  Calls Try.prog 42 #[.agg #[.int .i64 a0_0, .int .i64 a0_1, .string a0_2], .agg #[.int .i64 a1_0, .int .i64 a1_1, .string a1_2]] w fun e w' => e = .returned (.bool r) ∧ Below w.heap.size w w' := by
 have hu29 := Try.underlying29
 have HB := Aside0.mk (Below.refl w.heap.size w)
 have H : (if a0_0 = a1_0 then (if a0_1 = a1_1 then (if a0_2.toList = a1_2.toList then (some true) else (some false)) else (some false)) else (some false)) = some r := h
 clear h
 by_cases c3 : a0_0 = a1_0
 ·rw [if_pos c3] at H
  have c3b0 : (a0_0 == a1_0) = true := beq_iff_eq.mpr c3
  have c3b1 : (a0_0 != a1_0) = false := bne_eq_false_iff_eq.mpr c3
  clear c3
  by_cases c4 : a0_1 = a1_1
  ·rw [if_pos c4] at H
   have c4b0 : (a0_1 == a1_1) = true := beq_iff_eq.mpr c4
   have c4b1 : (a0_1 != a1_1) = false := bne_eq_false_iff_eq.mpr c4
   clear c4
   by_cases c5 : a0_2.toList = a1_2.toList
   ·rw [if_pos c5] at H
    have c5b0 : (a0_2.toList == a1_2.toList) = true := beq_iff_eq.mpr c5
    have c5b1 : (a0_2.toList != a1_2.toList) = false := bne_eq_false_iff_eq.mpr c5
    clear c5
    obtain rfl := Option.some.inj H
    go_enter Try.func42, Try.ntmps42
    go_wp2_with (first | ((with_reducible refine gate_dst (N := 2) rfl ?_); refine bx_ 2 #[.int .i64 a0_0, .int .i64 a0_1, .string a0_2] 29 ?_; intro gb159 hg w6 hbox hb; have BK159 := Aside0.mk (hbox); have GW159 := gw_ hg; have GE159 := gw_ hg; replace HB := bs_ hb; clear hb hbox hg) | ((with_reducible refine gate_dst (N := 3) rfl ?_); refine bx_ 3 #[.int .i64 a1_0, .int .i64 a1_1, .string a1_2] 29 ?_; intro gb160 hg w7 hbox hb; have BK160 := Aside0.mk (hbox); have GW160 := gw_ hg; have GE160 := gw_ hg; have NB159_160 := nl_ hg BK159; have NB160_159 := ng_ hg BK159; replace BK159 := bkb_ BK159 hb; replace HB := bs_ hb; clear hb hbox hg; have hnb8 := NB159_160.out; have hnc8 := NB160_159.out; have hcz9_0 := bc_ (v := (.int .i64 a0_0)) BK159 0; have hcz9_1 := bc_ (v := (.int .i64 a0_1)) BK159 1; have hcz9_2 := bc_ (v := (.string a0_2)) BK159 2; have hfz9_0 := blk_frozen BK159.out 0; have hfz9_1 := blk_frozen BK159.out 1; have hfz9_2 := blk_frozen BK159.out 2; have hcz10_0 := bc_ (v := (.int .i64 a1_0)) BK160 0; have hcz10_1 := bc_ (v := (.int .i64 a1_1)) BK160 1; have hcz10_2 := bc_ (v := (.string a1_2)) BK160 2; have hfz10_0 := blk_frozen BK160.out 0; have hfz10_1 := blk_frozen BK160.out 1; have hfz10_2 := blk_frozen BK160.out 2))
    go_ret
    exact ⟨er_, bb_⟩
   ·rw [if_neg c5] at H
    have c5b0 : (a0_2.toList == a1_2.toList) = false := beq_eq_false_iff_ne.mpr c5
    have c5b1 : (a0_2.toList != a1_2.toList) = true := bne_iff_ne.mpr c5
    obtain rfl := Option.some.inj H
    go_enter Try.func42, Try.ntmps42
    go_wp2_with (first | ((with_reducible refine gate_dst (N := 2) rfl ?_); refine bx_ 2 #[.int .i64 a0_0, .int .i64 a0_1, .string a0_2] 29 ?_; intro gb159 hg w11 hbox hb; have BK159 := Aside0.mk (hbox); have GW159 := gw_ hg; have GE159 := gw_ hg; replace HB := bs_ hb; clear hb hbox hg) | ((with_reducible refine gate_dst (N := 3) rfl ?_); refine bx_ 3 #[.int .i64 a1_0, .int .i64 a1_1, .string a1_2] 29 ?_; intro gb160 hg w12 hbox hb; have BK160 := Aside0.mk (hbox); have GW160 := gw_ hg; have GE160 := gw_ hg; have NB159_160 := nl_ hg BK159; have NB160_159 := ng_ hg BK159; replace BK159 := bkb_ BK159 hb; replace HB := bs_ hb; clear hb hbox hg; have hnb13 := NB159_160.out; have hnc13 := NB160_159.out; have hcz14_0 := bc_ (v := (.int .i64 a0_0)) BK159 0; have hcz14_1 := bc_ (v := (.int .i64 a0_1)) BK159 1; have hcz14_2 := bc_ (v := (.string a0_2)) BK159 2; have hfz14_0 := blk_frozen BK159.out 0; have hfz14_1 := blk_frozen BK159.out 1; have hfz14_2 := blk_frozen BK159.out 2; have hcz15_0 := bc_ (v := (.int .i64 a1_0)) BK160 0; have hcz15_1 := bc_ (v := (.int .i64 a1_1)) BK160 1; have hcz15_2 := bc_ (v := (.string a1_2)) BK160 2; have hfz15_0 := blk_frozen BK160.out 0; have hfz15_1 := blk_frozen BK160.out 1; have hfz15_2 := blk_frozen BK160.out 2))
    go_ret
    exact ⟨er_, bb_⟩
  ·rw [if_neg c4] at H
   have c4b0 : (a0_1 == a1_1) = false := beq_eq_false_iff_ne.mpr c4
   have c4b1 : (a0_1 != a1_1) = true := bne_iff_ne.mpr c4
   obtain rfl := Option.some.inj H
   go_enter Try.func42, Try.ntmps42
   go_wp2_with (first | ((with_reducible refine gate_dst (N := 2) rfl ?_); refine bx_ 2 #[.int .i64 a0_0, .int .i64 a0_1, .string a0_2] 29 ?_; intro gb159 hg w16 hbox hb; have BK159 := Aside0.mk (hbox); have GW159 := gw_ hg; have GE159 := gw_ hg; replace HB := bs_ hb; clear hb hbox hg) | ((with_reducible refine gate_dst (N := 3) rfl ?_); refine bx_ 3 #[.int .i64 a1_0, .int .i64 a1_1, .string a1_2] 29 ?_; intro gb160 hg w17 hbox hb; have BK160 := Aside0.mk (hbox); have GW160 := gw_ hg; have GE160 := gw_ hg; have NB159_160 := nl_ hg BK159; have NB160_159 := ng_ hg BK159; replace BK159 := bkb_ BK159 hb; replace HB := bs_ hb; clear hb hbox hg; have hnb18 := NB159_160.out; have hnc18 := NB160_159.out; have hcz19_0 := bc_ (v := (.int .i64 a0_0)) BK159 0; have hcz19_1 := bc_ (v := (.int .i64 a0_1)) BK159 1; have hcz19_2 := bc_ (v := (.string a0_2)) BK159 2; have hfz19_0 := blk_frozen BK159.out 0; have hfz19_1 := blk_frozen BK159.out 1; have hfz19_2 := blk_frozen BK159.out 2; have hcz20_0 := bc_ (v := (.int .i64 a1_0)) BK160 0; have hcz20_1 := bc_ (v := (.int .i64 a1_1)) BK160 1; have hcz20_2 := bc_ (v := (.string a1_2)) BK160 2; have hfz20_0 := blk_frozen BK160.out 0; have hfz20_1 := blk_frozen BK160.out 1; have hfz20_2 := blk_frozen BK160.out 2))
   go_ret
   exact ⟨er_, bb_⟩
 ·rw [if_neg c3] at H
  have c3b0 : (a0_0 == a1_0) = false := beq_eq_false_iff_ne.mpr c3
  have c3b1 : (a0_0 != a1_0) = true := bne_iff_ne.mpr c3
  obtain rfl := Option.some.inj H
  go_enter Try.func42, Try.ntmps42
  go_wp2_with (first | ((with_reducible refine gate_dst (N := 2) rfl ?_); refine bx_ 2 #[.int .i64 a0_0, .int .i64 a0_1, .string a0_2] 29 ?_; intro gb159 hg w21 hbox hb; have BK159 := Aside0.mk (hbox); have GW159 := gw_ hg; have GE159 := gw_ hg; replace HB := bs_ hb; clear hb hbox hg) | ((with_reducible refine gate_dst (N := 3) rfl ?_); refine bx_ 3 #[.int .i64 a1_0, .int .i64 a1_1, .string a1_2] 29 ?_; intro gb160 hg w22 hbox hb; have BK160 := Aside0.mk (hbox); have GW160 := gw_ hg; have GE160 := gw_ hg; have NB159_160 := nl_ hg BK159; have NB160_159 := ng_ hg BK159; replace BK159 := bkb_ BK159 hb; replace HB := bs_ hb; clear hb hbox hg; have hnb23 := NB159_160.out; have hnc23 := NB160_159.out; have hcz24_0 := bc_ (v := (.int .i64 a0_0)) BK159 0; have hcz24_1 := bc_ (v := (.int .i64 a0_1)) BK159 1; have hcz24_2 := bc_ (v := (.string a0_2)) BK159 2; have hfz24_0 := blk_frozen BK159.out 0; have hfz24_1 := blk_frozen BK159.out 1; have hfz24_2 := blk_frozen BK159.out 2; have hcz25_0 := bc_ (v := (.int .i64 a1_0)) BK160 0; have hcz25_1 := bc_ (v := (.int .i64 a1_1)) BK160 1; have hcz25_2 := bc_ (v := (.string a1_2)) BK160 2; have hfz25_0 := blk_frozen BK160.out 0; have hfz25_1 := blk_frozen BK160.out 1; have hfz25_2 := blk_frozen BK160.out 2))
  go_ret
  exact ⟨er_, bb_⟩

/-! ### laws_eqExpS: function 47 -/
def laws_eqExpS.l0 (E_ : Int → Int → Int → Int → ByteArray → ByteArray → (List (S32)) → Int → Int → Int → Int → ByteArray → ByteArray → (List (S32)) → Option (Bool)) : Nat → List (S32) → List (S32) → Int → Option (Bool)
 | 0, _, _, _ => none
 | k + 1, x0, x1, x5 => if x5 < (x0.length : Int) then (if 0 ≤ x5 then (if x5 < (x1.length : Int) then ((E_ ((rd_T32 x0 x5).f0) ((rd_T32 x0 x5).f1) ((rd_T32 x0 x5).f2.f0) ((rd_T32 x0 x5).f2.f1) ((rd_T32 x0 x5).f2.f2) ((rd_T32 x0 x5).f3) ((rd_T32 x0 x5).f4) ((rd_T32 x1 x5).f0) ((rd_T32 x1 x5).f1) ((rd_T32 x1 x5).f2.f0) ((rd_T32 x1 x5).f2.f1) ((rd_T32 x1 x5).f2.f2) ((rd_T32 x1 x5).f3) ((rd_T32 x1 x5).f4)).bind fun t163 => (if t163 = true then (laws_eqExpS.l0 E_ k x0 x1 (wrap64 (x5 + 1))) else (some false))) else (none)) else (none)) else (some true)
def laws_eqExpS.f (E_ : Int → Int → Int → Int → ByteArray → ByteArray → (List (S32)) → Int → Int → Int → Int → ByteArray → ByteArray → (List (S32)) → Option (Bool)) (k : Nat) (l0 : List (S32)) (l1 : List (S32)) : Option (Bool) := if (l0.length : Int) = (l1.length : Int) then (laws_eqExpS.l0 E_ k l0 l1 0) else (some false)
def laws_eqExpS.T6 : Bool × List (List Nat × List Nat) := (true, [([], []), ([], []), ([0, 1], [0, 1]), ([2], [2]), ([], []), ([], []), ([4, 5], [4, 5]), ([6], [6]), ([3, 7], [3, 7]), ([8], [8])])
def laws_eqExpS.B6 : List Nat := [0, 0, 3, 7, 0, 0, 48, 112, 255, 511]
theorem laws_eqExpS.tab6 : rtab .any (opsOf Try.f47 6) = laws_eqExpS.T6 := by kernel_rfl
theorem laws_eqExpS.bits6 : waitsOk laws_eqExpS.T6.2 laws_eqExpS.B6 = true := by kernel_rfl
set_option maxHeartbeats 8000000 in
set_option maxRecDepth 100000 in
theorem laws_eqExpS.calls (E_ : Int → Int → Int → Int → ByteArray → ByteArray → (List (S32)) → Int → Int → Int → Int → ByteArray → ByteArray → (List (S32)) → Option (Bool)) (hE_ : ∀ (a0_0 : Int) (a0_1 : Int) (a0_2 : Int) (a0_3 : Int) (a0_4 : ByteArray) (a0_5 : ByteArray) (A0_6 : Option Addr) (c0_6 : Nat) (l0_6 : List (S32)) (a1_0 : Int) (a1_1 : Int) (a1_2 : Int) (a1_3 : Int) (a1_4 : ByteArray) (a1_5 : ByteArray) (A1_6 : Option Addr) (c1_6 : Nat) (l1_6 : List (S32)) (r : Bool) (w : World) (hr0_6 : Kd.C k32 w A0_6 l0_6.length l0_6) (hc0_6 : l0_6.length ≤ c0_6) (hr1_6 : Kd.C k32 w A1_6 l1_6.length l1_6) (hc1_6 : l1_6.length ≤ c1_6) (h : E_ a0_0 a0_1 a0_2 a0_3 a0_4 a0_5 l0_6 a1_0 a1_1 a1_2 a1_3 a1_4 a1_5 l1_6 = some r), Calls Try.prog 17 #[.agg #[.int .i64 a0_0, .int .i64 a0_1, .int .i64 a0_2, .int .i64 a0_3, .string a0_4, .string a0_5, .slice A0_6 l0_6.length c0_6], .agg #[.int .i64 a1_0, .int .i64 a1_1, .int .i64 a1_2, .int .i64 a1_3, .string a1_4, .string a1_5, .slice A1_6 l1_6.length c1_6]] w fun e w' => e = .returned (.bool r) ∧ Below w.heap.size w w') (k : Nat) (A0 : Option Addr) (c0 : Nat) (l0 : List (S32)) (A1 : Option Addr) (c1 : Nat) (l1 : List (S32)) (r : Bool) (w : World) (hr0 : Kd.C k32 w A0 l0.length l0) (hc0 : l0.length ≤ c0) (hr1 : Kd.C k32 w A1 l1.length l1) (hc1 : l1.length ≤ c1) (h : laws_eqExpS.f E_ k l0 l1 = some r) :
  Calls Try.prog 47 #[.slice A0 l0.length c0, .slice A1 l1.length c1] w fun e w' => e = .returned (.bool r) ∧ Below w.heap.size w w' := by
 have hu32 := Try.underlying32
 have HR0 := Aside0.mk hr0
 have HC0 := Aside0.mk hc0
 clear hr0 hc0
 have HR1 := Aside0.mk hr1
 have HC1 := Aside0.mk hc1
 clear hr1 hc1
 have HB := Aside0.mk (Below.refl w.heap.size w)
 have H : (if (l0.length : Int) = (l1.length : Int) then (laws_eqExpS.l0 E_ k l0 l1 0) else (some false)) = some r := h
 clear h
 by_cases c3 : (l0.length : Int) = (l1.length : Int)
 ·rw [if_pos c3] at H
  have c3b0 : ((l0.length : Int) == (l1.length : Int)) = true := beq_iff_eq.mpr c3
  have c3b1 : ((l0.length : Int) != (l1.length : Int)) = false := bne_eq_false_iff_eq.mpr c3
  have c3b2 : (l0.length == l1.length) = true := by first | simpa using c3 | (simp at c3 ⊢; omega)
  clear c3
  have H' := Aside0.mk H
  clear H
  go_enter Try.func47, Try.ntmps47
  go_wp2
  go_loopg [5] k (fun kq v5 w' => ∃ (x5_1 : Int), v5 = .int .i64 x5_1 ∧ Aside0 (laws_eqExpS.l0 E_ kq l0 l1 x5_1 = some r) ∧ Aside0 (kq ≤ k) ∧ Aside0 (Below w.heap.size w w'))
  case atStart => exact ⟨(0), (by first | rfl | (simp; done) | (simp [*]; done)), H', ⟨Nat.le_refl _⟩, ⟨by repeat (first | (with_reducible first | exact HB.out | apply below_alloc | apply pw_below_drewN | apply below_drew1) | exact HB.out)⟩⟩
  case round =>
   clear H'
   try clear c1
   try clear p2
   try clear c3
   try clear c3b0
   try clear c3b1
   try clear c3b2
   obtain ⟨x5_1, rfl, HA, HK1, HB⟩ := hrel
   cases gk with
   | zero => exact absurd HA.out (by simp [laws_eqExpS.l0])
   | succ k1 =>
    have H := HA.out
    clear HA
    simp only [laws_eqExpS.l0] at H
    by_cases c4 : x5_1 < (l0.length : Int)
    ·rw [if_pos c4] at H
     have c4b0 : decide (x5_1 < (l0.length : Int)) = true := decide_eq_true c4
     clear c4
     by_cases c5 : 0 ≤ x5_1
     ·rw [if_pos c5] at H
      have c5b0 : decide (0 ≤ x5_1) = true := decide_eq_true c5
      clear c5
      by_cases c6 : x5_1 < (l1.length : Int)
      ·rw [if_pos c6] at H
       have c6b0 : decide (x5_1 < (l1.length : Int)) = true := decide_eq_true c6
       clear c6
       replace H := Option.bind_eq_some_iff.mp H
       obtain ⟨t163, A70, H⟩ := H
       replace H : (if t163 = true then (laws_eqExpS.l0 E_ k1 l0 l1 (wrap64 (x5_1 + 1))) else (some false)) = some r := H
       have A7 := Aside0.mk A70
       clear A70
       by_cases c8 : t163 = true
       ·subst c8
        have H1 : (laws_eqExpS.l0 E_ k1 l0 l1 (wrap64 (x5_1 + 1))) = some r := by rw [if_pos rfl] at H; exact H
        clear H
        have H := H1
        clear H1
        have H' := Aside0.mk H
        clear H
        try go_wp2
        replace HB := Aside0.mk (below_drew1 HB.out)
        have p161 : 0 ≤ (x5_1 : Int) := of_decide_eq_true (by first | (with_reducible assumption) | assumption)
        have q161 : x5_1 < (l0.length : Int) := of_decide_eq_true (by first | (with_reducible assumption) | assumption)
        obtain ⟨ad161, A161_6, c161_6, e161, hx161_0, hx161_1, hx161_2, hx161_3, hx161_4, hx161_5, hx161_6, hl161_6, hi161_6⟩ := at_T32 HR0.out x5_1 p161 q161
        have hw161_6 := hx161_6
        have hw161_5 := hx161_5
        have hw161_4 := hx161_4
        have hw161_3 := hx161_3
        have hw161_2 := hx161_2
        have hw161_1 := hx161_1
        have hw161_0 := hx161_0
        cases e161
        replace hx161_0 := (HB.out.cell (World.block_lt_of_cell? w _ hx161_0)).trans hx161_0
        replace hx161_1 := (HB.out.cell (World.block_lt_of_cell? w _ hx161_1)).trans hx161_1
        replace hx161_2 := (HB.out.cell (World.block_lt_of_cell? w _ hx161_2)).trans hx161_2
        replace hx161_3 := (HB.out.cell (World.block_lt_of_cell? w _ hx161_3)).trans hx161_3
        replace hx161_4 := (HB.out.cell (World.block_lt_of_cell? w _ hx161_4)).trans hx161_4
        replace hx161_5 := (HB.out.cell (World.block_lt_of_cell? w _ hx161_5)).trans hx161_5
        replace hx161_6 := (HB.out.cell (World.block_lt_of_cell? w _ hx161_6)).trans hx161_6
        have HR161_6 := Aside0.mk hi161_6
        have HC161_6 := Aside0.mk hl161_6
        clear hi161_6 hl161_6
        replace p161 := eq_true p161
        replace q161 := eq_true q161
        have p162 : 0 ≤ (x5_1 : Int) := of_decide_eq_true (by first | (with_reducible assumption) | assumption)
        have q162 : x5_1 < (l1.length : Int) := of_decide_eq_true (by first | (with_reducible assumption) | assumption)
        obtain ⟨ad162, A162_6, c162_6, e162, hx162_0, hx162_1, hx162_2, hx162_3, hx162_4, hx162_5, hx162_6, hl162_6, hi162_6⟩ := at_T32 HR1.out x5_1 p162 q162
        have hw162_6 := hx162_6
        have hw162_5 := hx162_5
        have hw162_4 := hx162_4
        have hw162_3 := hx162_3
        have hw162_2 := hx162_2
        have hw162_1 := hx162_1
        have hw162_0 := hx162_0
        cases e162
        replace hx162_0 := (HB.out.cell (World.block_lt_of_cell? w _ hx162_0)).trans hx162_0
        replace hx162_1 := (HB.out.cell (World.block_lt_of_cell? w _ hx162_1)).trans hx162_1
        replace hx162_2 := (HB.out.cell (World.block_lt_of_cell? w _ hx162_2)).trans hx162_2
        replace hx162_3 := (HB.out.cell (World.block_lt_of_cell? w _ hx162_3)).trans hx162_3
        replace hx162_4 := (HB.out.cell (World.block_lt_of_cell? w _ hx162_4)).trans hx162_4
        replace hx162_5 := (HB.out.cell (World.block_lt_of_cell? w _ hx162_5)).trans hx162_5
        replace hx162_6 := (HB.out.cell (World.block_lt_of_cell? w _ hx162_6)).trans hx162_6
        have HR162_6 := Aside0.mk hi162_6
        have HC162_6 := Aside0.mk hl162_6
        clear hi162_6 hl162_6
        replace p162 := eq_true p162
        replace q162 := eq_true q162
        refine start_ (n := 10) (S := fun w' => w'.cell? (ad161.add ((x5_1).toNat * 7)) = some (.int .i64 ((rd_T32 l0 x5_1).f0)) ∧ w'.cell? ⟨(ad161.add ((x5_1).toNat * 7)).block, (ad161.add ((x5_1).toNat * 7)).off + 1, none⟩ = some (.int .i64 ((rd_T32 l0 x5_1).f1)) ∧ w'.cell? ⟨(ad161.add ((x5_1).toNat * 7)).block, (ad161.add ((x5_1).toNat * 7)).off + 2, none⟩ = some (.int .i64 ((rd_T32 l0 x5_1).f2.f0)) ∧ w'.cell? ⟨(ad161.add ((x5_1).toNat * 7)).block, (ad161.add ((x5_1).toNat * 7)).off + 3, none⟩ = some (.int .i64 ((rd_T32 l0 x5_1).f2.f1)) ∧ w'.cell? ⟨(ad161.add ((x5_1).toNat * 7)).block, (ad161.add ((x5_1).toNat * 7)).off + 4, none⟩ = some (.string ((rd_T32 l0 x5_1).f2.f2)) ∧ w'.cell? ⟨(ad161.add ((x5_1).toNat * 7)).block, (ad161.add ((x5_1).toNat * 7)).off + 5, none⟩ = some (.string ((rd_T32 l0 x5_1).f3)) ∧ w'.cell? ⟨(ad161.add ((x5_1).toNat * 7)).block, (ad161.add ((x5_1).toNat * 7)).off + 6, none⟩ = some (.slice A161_6 ((rd_T32 l0 x5_1).f4).length c161_6) ∧ w'.cell? (ad162.add ((x5_1).toNat * 7)) = some (.int .i64 ((rd_T32 l1 x5_1).f0)) ∧ w'.cell? ⟨(ad162.add ((x5_1).toNat * 7)).block, (ad162.add ((x5_1).toNat * 7)).off + 1, none⟩ = some (.int .i64 ((rd_T32 l1 x5_1).f1)) ∧ w'.cell? ⟨(ad162.add ((x5_1).toNat * 7)).block, (ad162.add ((x5_1).toNat * 7)).off + 2, none⟩ = some (.int .i64 ((rd_T32 l1 x5_1).f2.f0)) ∧ w'.cell? ⟨(ad162.add ((x5_1).toNat * 7)).block, (ad162.add ((x5_1).toNat * 7)).off + 3, none⟩ = some (.int .i64 ((rd_T32 l1 x5_1).f2.f1)) ∧ w'.cell? ⟨(ad162.add ((x5_1).toNat * 7)).block, (ad162.add ((x5_1).toNat * 7)).off + 4, none⟩ = some (.string ((rd_T32 l1 x5_1).f2.f2)) ∧ w'.cell? ⟨(ad162.add ((x5_1).toNat * 7)).block, (ad162.add ((x5_1).toNat * 7)).off + 5, none⟩ = some (.string ((rd_T32 l1 x5_1).f3)) ∧ w'.cell? ⟨(ad162.add ((x5_1).toNat * 7)).block, (ad162.add ((x5_1).toNat * 7)).off + 6, none⟩ = some (.slice A162_6 ((rd_T32 l1 x5_1).f4).length c162_6)) (ds := []) (tf 0 10) (by kernel_rfl) rfl rfl ⟨((HB.out.cell (World.block_lt_of_cell? w _ hw161_0)).trans hw161_0), ((HB.out.cell (World.block_lt_of_cell? w _ hw161_1)).trans hw161_1), ((HB.out.cell (World.block_lt_of_cell? w _ hw161_2)).trans hw161_2), ((HB.out.cell (World.block_lt_of_cell? w _ hw161_3)).trans hw161_3), ((HB.out.cell (World.block_lt_of_cell? w _ hw161_4)).trans hw161_4), ((HB.out.cell (World.block_lt_of_cell? w _ hw161_5)).trans hw161_5), ((HB.out.cell (World.block_lt_of_cell? w _ hw161_6)).trans hw161_6), ((HB.out.cell (World.block_lt_of_cell? w _ hw162_0)).trans hw162_0), ((HB.out.cell (World.block_lt_of_cell? w _ hw162_1)).trans hw162_1), ((HB.out.cell (World.block_lt_of_cell? w _ hw162_2)).trans hw162_2), ((HB.out.cell (World.block_lt_of_cell? w _ hw162_3)).trans hw162_3), ((HB.out.cell (World.block_lt_of_cell? w _ hw162_4)).trans hw162_4), ((HB.out.cell (World.block_lt_of_cell? w _ hw162_5)).trans hw162_5), ((HB.out.cell (World.block_lt_of_cell? w _ hw162_6)).trans hw162_6)⟩ (fun hHeld => ?_); refine with_tabW laws_eqExpS.tab6 laws_eqExpS.bits6 (fun HT_ HW_ => ?_)
        generalize wr.drew = w9 at HB HR161_6 HR162_6 hx161_0 hx161_1 hx161_2 hx161_3 hx161_4 hx161_5 hx161_6 hx162_0 hx162_1 hx162_2 hx162_3 hx162_4 hx162_5 hx162_6 hHeld ⊢
        iterate 3 (refine pl_ ?_)
        refine plx_ 4 #[true, true, true, false, true, false, false, false, false, false] ?_
        refine plx_ 5 #[true, true, true, false, true, true, false, false, false, false] ?_
        refine plx_ 6 #[true, true, true, false, true, true, true, false, false, false] ?_
        refine tlx_ 3 (tf 7 3) ?_
        refine tl_ ?_
        refine one_ (i := 8) (N := some 25) (tf 9 1) rfl rfl (one_of HT_.out (by kernel_rfl)) (by decide) (fun K hK => ?_)
        refine gs_ Try.func17 #[.agg #[.int .i64 ((rd_T32 l0 x5_1).f0), .int .i64 ((rd_T32 l0 x5_1).f1), .int .i64 ((rd_T32 l0 x5_1).f2.f0), .int .i64 ((rd_T32 l0 x5_1).f2.f1), .string ((rd_T32 l0 x5_1).f2.f2), .string ((rd_T32 l0 x5_1).f3), .slice A161_6 ((rd_T32 l0 x5_1).f4).length c161_6], .agg #[.int .i64 ((rd_T32 l1 x5_1).f0), .int .i64 ((rd_T32 l1 x5_1).f1), .int .i64 ((rd_T32 l1 x5_1).f2.f0), .int .i64 ((rd_T32 l1 x5_1).f2.f1), .string ((rd_T32 l1 x5_1).f2.f2), .string ((rd_T32 l1 x5_1).f3), .slice A162_6 ((rd_T32 l1 x5_1).f4).length c162_6]] ?_
        with_reducible refine (hE_ ((rd_T32 l0 x5_1).f0) ((rd_T32 l0 x5_1).f1) ((rd_T32 l0 x5_1).f2.f0) ((rd_T32 l0 x5_1).f2.f1) ((rd_T32 l0 x5_1).f2.f2) ((rd_T32 l0 x5_1).f3) _ _ ((rd_T32 l0 x5_1).f4) ((rd_T32 l1 x5_1).f0) ((rd_T32 l1 x5_1).f1) ((rd_T32 l1 x5_1).f2.f0) ((rd_T32 l1 x5_1).f2.f1) ((rd_T32 l1 x5_1).f2.f2) ((rd_T32 l1 x5_1).f3) _ _ ((rd_T32 l1 x5_1).f4) true _ ?side1 ?side2 ?side3 ?side4 A7.out).mono ?_
        (case side1 => exact ck_ (Kd.C_below HR161_6.out HB.out))
        (case side2 => exact HC161_6.out)
        (case side3 => exact ck_ (Kd.C_below HR162_6.out HB.out))
        (case side4 => exact HC162_6.out)
        rintro e w10 ⟨rfl, hb⟩
        refine ⟨_, rfl, ?_⟩
        replace HB := bs_ hb
        (try clear hb)
        (try clear hb2)
        (try clear hk)
        (try clear hi)
        refine hK.out _ _ ⟨((HB.out.cell (World.block_lt_of_cell? w _ hw161_0)).trans hw161_0), ((HB.out.cell (World.block_lt_of_cell? w _ hw161_1)).trans hw161_1), ((HB.out.cell (World.block_lt_of_cell? w _ hw161_2)).trans hw161_2), ((HB.out.cell (World.block_lt_of_cell? w _ hw161_3)).trans hw161_3), ((HB.out.cell (World.block_lt_of_cell? w _ hw161_4)).trans hw161_4), ((HB.out.cell (World.block_lt_of_cell? w _ hw161_5)).trans hw161_5), ((HB.out.cell (World.block_lt_of_cell? w _ hw161_6)).trans hw161_6), ((HB.out.cell (World.block_lt_of_cell? w _ hw162_0)).trans hw162_0), ((HB.out.cell (World.block_lt_of_cell? w _ hw162_1)).trans hw162_1), ((HB.out.cell (World.block_lt_of_cell? w _ hw162_2)).trans hw162_2), ((HB.out.cell (World.block_lt_of_cell? w _ hw162_3)).trans hw162_3), ((HB.out.cell (World.block_lt_of_cell? w _ hw162_4)).trans hw162_4), ((HB.out.cell (World.block_lt_of_cell? w _ hw162_5)).trans hw162_5), ((HB.out.cell (World.block_lt_of_cell? w _ hw162_6)).trans hw162_6)⟩ (fun hHeld => ?_)
        clear hK K
        refine nm_ ?_
        refine plx_ 9 (tf 10 0) ?_
        refine done_ (done_of HT_.out (by kernel_rfl)) ?_
        try go_wp2
        go_roundg k1
        case measure => have := HK1.out; omega
        case rel => exact ⟨(wrap64 (x5_1 + 1)), (by first | rfl | (simp; done) | (simp [*]; done)), H', ⟨by have := HK1.out; omega⟩, ⟨by repeat (first | (with_reducible first | exact HB.out | apply below_alloc | apply pw_below_drewN | apply below_drew1) | exact HB.out)⟩⟩
       ·replace c8 := Bool.eq_false_iff.mpr c8
        subst c8
        have H1 : (some false) = some r := by rw [if_neg (show ¬ (false = true) by decide)] at H; exact H
        clear H
        have H := H1
        clear H1
        obtain rfl := Option.some.inj H
        try go_wp2
        replace HB := Aside0.mk (below_drew1 HB.out)
        have p161 : 0 ≤ (x5_1 : Int) := of_decide_eq_true (by first | (with_reducible assumption) | assumption)
        have q161 : x5_1 < (l0.length : Int) := of_decide_eq_true (by first | (with_reducible assumption) | assumption)
        obtain ⟨ad161, A161_6, c161_6, e161, hx161_0, hx161_1, hx161_2, hx161_3, hx161_4, hx161_5, hx161_6, hl161_6, hi161_6⟩ := at_T32 HR0.out x5_1 p161 q161
        have hw161_6 := hx161_6
        have hw161_5 := hx161_5
        have hw161_4 := hx161_4
        have hw161_3 := hx161_3
        have hw161_2 := hx161_2
        have hw161_1 := hx161_1
        have hw161_0 := hx161_0
        cases e161
        replace hx161_0 := (HB.out.cell (World.block_lt_of_cell? w _ hx161_0)).trans hx161_0
        replace hx161_1 := (HB.out.cell (World.block_lt_of_cell? w _ hx161_1)).trans hx161_1
        replace hx161_2 := (HB.out.cell (World.block_lt_of_cell? w _ hx161_2)).trans hx161_2
        replace hx161_3 := (HB.out.cell (World.block_lt_of_cell? w _ hx161_3)).trans hx161_3
        replace hx161_4 := (HB.out.cell (World.block_lt_of_cell? w _ hx161_4)).trans hx161_4
        replace hx161_5 := (HB.out.cell (World.block_lt_of_cell? w _ hx161_5)).trans hx161_5
        replace hx161_6 := (HB.out.cell (World.block_lt_of_cell? w _ hx161_6)).trans hx161_6
        have HR161_6 := Aside0.mk hi161_6
        have HC161_6 := Aside0.mk hl161_6
        clear hi161_6 hl161_6
        replace p161 := eq_true p161
        replace q161 := eq_true q161
        have p162 : 0 ≤ (x5_1 : Int) := of_decide_eq_true (by first | (with_reducible assumption) | assumption)
        have q162 : x5_1 < (l1.length : Int) := of_decide_eq_true (by first | (with_reducible assumption) | assumption)
        obtain ⟨ad162, A162_6, c162_6, e162, hx162_0, hx162_1, hx162_2, hx162_3, hx162_4, hx162_5, hx162_6, hl162_6, hi162_6⟩ := at_T32 HR1.out x5_1 p162 q162
        have hw162_6 := hx162_6
        have hw162_5 := hx162_5
        have hw162_4 := hx162_4
        have hw162_3 := hx162_3
        have hw162_2 := hx162_2
        have hw162_1 := hx162_1
        have hw162_0 := hx162_0
        cases e162
        replace hx162_0 := (HB.out.cell (World.block_lt_of_cell? w _ hx162_0)).trans hx162_0
        replace hx162_1 := (HB.out.cell (World.block_lt_of_cell? w _ hx162_1)).trans hx162_1
        replace hx162_2 := (HB.out.cell (World.block_lt_of_cell? w _ hx162_2)).trans hx162_2
        replace hx162_3 := (HB.out.cell (World.block_lt_of_cell? w _ hx162_3)).trans hx162_3
        replace hx162_4 := (HB.out.cell (World.block_lt_of_cell? w _ hx162_4)).trans hx162_4
        replace hx162_5 := (HB.out.cell (World.block_lt_of_cell? w _ hx162_5)).trans hx162_5
        replace hx162_6 := (HB.out.cell (World.block_lt_of_cell? w _ hx162_6)).trans hx162_6
        have HR162_6 := Aside0.mk hi162_6
        have HC162_6 := Aside0.mk hl162_6
        clear hi162_6 hl162_6
        replace p162 := eq_true p162
        replace q162 := eq_true q162
        refine start_ (n := 10) (S := fun w' => w'.cell? (ad161.add ((x5_1).toNat * 7)) = some (.int .i64 ((rd_T32 l0 x5_1).f0)) ∧ w'.cell? ⟨(ad161.add ((x5_1).toNat * 7)).block, (ad161.add ((x5_1).toNat * 7)).off + 1, none⟩ = some (.int .i64 ((rd_T32 l0 x5_1).f1)) ∧ w'.cell? ⟨(ad161.add ((x5_1).toNat * 7)).block, (ad161.add ((x5_1).toNat * 7)).off + 2, none⟩ = some (.int .i64 ((rd_T32 l0 x5_1).f2.f0)) ∧ w'.cell? ⟨(ad161.add ((x5_1).toNat * 7)).block, (ad161.add ((x5_1).toNat * 7)).off + 3, none⟩ = some (.int .i64 ((rd_T32 l0 x5_1).f2.f1)) ∧ w'.cell? ⟨(ad161.add ((x5_1).toNat * 7)).block, (ad161.add ((x5_1).toNat * 7)).off + 4, none⟩ = some (.string ((rd_T32 l0 x5_1).f2.f2)) ∧ w'.cell? ⟨(ad161.add ((x5_1).toNat * 7)).block, (ad161.add ((x5_1).toNat * 7)).off + 5, none⟩ = some (.string ((rd_T32 l0 x5_1).f3)) ∧ w'.cell? ⟨(ad161.add ((x5_1).toNat * 7)).block, (ad161.add ((x5_1).toNat * 7)).off + 6, none⟩ = some (.slice A161_6 ((rd_T32 l0 x5_1).f4).length c161_6) ∧ w'.cell? (ad162.add ((x5_1).toNat * 7)) = some (.int .i64 ((rd_T32 l1 x5_1).f0)) ∧ w'.cell? ⟨(ad162.add ((x5_1).toNat * 7)).block, (ad162.add ((x5_1).toNat * 7)).off + 1, none⟩ = some (.int .i64 ((rd_T32 l1 x5_1).f1)) ∧ w'.cell? ⟨(ad162.add ((x5_1).toNat * 7)).block, (ad162.add ((x5_1).toNat * 7)).off + 2, none⟩ = some (.int .i64 ((rd_T32 l1 x5_1).f2.f0)) ∧ w'.cell? ⟨(ad162.add ((x5_1).toNat * 7)).block, (ad162.add ((x5_1).toNat * 7)).off + 3, none⟩ = some (.int .i64 ((rd_T32 l1 x5_1).f2.f1)) ∧ w'.cell? ⟨(ad162.add ((x5_1).toNat * 7)).block, (ad162.add ((x5_1).toNat * 7)).off + 4, none⟩ = some (.string ((rd_T32 l1 x5_1).f2.f2)) ∧ w'.cell? ⟨(ad162.add ((x5_1).toNat * 7)).block, (ad162.add ((x5_1).toNat * 7)).off + 5, none⟩ = some (.string ((rd_T32 l1 x5_1).f3)) ∧ w'.cell? ⟨(ad162.add ((x5_1).toNat * 7)).block, (ad162.add ((x5_1).toNat * 7)).off + 6, none⟩ = some (.slice A162_6 ((rd_T32 l1 x5_1).f4).length c162_6)) (ds := []) (tf 0 10) (by kernel_rfl) rfl rfl ⟨((HB.out.cell (World.block_lt_of_cell? w _ hw161_0)).trans hw161_0), ((HB.out.cell (World.block_lt_of_cell? w _ hw161_1)).trans hw161_1), ((HB.out.cell (World.block_lt_of_cell? w _ hw161_2)).trans hw161_2), ((HB.out.cell (World.block_lt_of_cell? w _ hw161_3)).trans hw161_3), ((HB.out.cell (World.block_lt_of_cell? w _ hw161_4)).trans hw161_4), ((HB.out.cell (World.block_lt_of_cell? w _ hw161_5)).trans hw161_5), ((HB.out.cell (World.block_lt_of_cell? w _ hw161_6)).trans hw161_6), ((HB.out.cell (World.block_lt_of_cell? w _ hw162_0)).trans hw162_0), ((HB.out.cell (World.block_lt_of_cell? w _ hw162_1)).trans hw162_1), ((HB.out.cell (World.block_lt_of_cell? w _ hw162_2)).trans hw162_2), ((HB.out.cell (World.block_lt_of_cell? w _ hw162_3)).trans hw162_3), ((HB.out.cell (World.block_lt_of_cell? w _ hw162_4)).trans hw162_4), ((HB.out.cell (World.block_lt_of_cell? w _ hw162_5)).trans hw162_5), ((HB.out.cell (World.block_lt_of_cell? w _ hw162_6)).trans hw162_6)⟩ (fun hHeld => ?_); refine with_tabW laws_eqExpS.tab6 laws_eqExpS.bits6 (fun HT_ HW_ => ?_)
        generalize wr.drew = w11 at HB HR161_6 HR162_6 hx161_0 hx161_1 hx161_2 hx161_3 hx161_4 hx161_5 hx161_6 hx162_0 hx162_1 hx162_2 hx162_3 hx162_4 hx162_5 hx162_6 hHeld ⊢
        iterate 3 (refine pl_ ?_)
        refine plx_ 4 #[true, true, true, false, true, false, false, false, false, false] ?_
        refine plx_ 5 #[true, true, true, false, true, true, false, false, false, false] ?_
        refine plx_ 6 #[true, true, true, false, true, true, true, false, false, false] ?_
        refine tlx_ 3 (tf 7 3) ?_
        refine tl_ ?_
        refine one_ (i := 8) (N := some 25) (tf 9 1) rfl rfl (one_of HT_.out (by kernel_rfl)) (by decide) (fun K hK => ?_)
        refine gs_ Try.func17 #[.agg #[.int .i64 ((rd_T32 l0 x5_1).f0), .int .i64 ((rd_T32 l0 x5_1).f1), .int .i64 ((rd_T32 l0 x5_1).f2.f0), .int .i64 ((rd_T32 l0 x5_1).f2.f1), .string ((rd_T32 l0 x5_1).f2.f2), .string ((rd_T32 l0 x5_1).f3), .slice A161_6 ((rd_T32 l0 x5_1).f4).length c161_6], .agg #[.int .i64 ((rd_T32 l1 x5_1).f0), .int .i64 ((rd_T32 l1 x5_1).f1), .int .i64 ((rd_T32 l1 x5_1).f2.f0), .int .i64 ((rd_T32 l1 x5_1).f2.f1), .string ((rd_T32 l1 x5_1).f2.f2), .string ((rd_T32 l1 x5_1).f3), .slice A162_6 ((rd_T32 l1 x5_1).f4).length c162_6]] ?_
        with_reducible refine (hE_ ((rd_T32 l0 x5_1).f0) ((rd_T32 l0 x5_1).f1) ((rd_T32 l0 x5_1).f2.f0) ((rd_T32 l0 x5_1).f2.f1) ((rd_T32 l0 x5_1).f2.f2) ((rd_T32 l0 x5_1).f3) _ _ ((rd_T32 l0 x5_1).f4) ((rd_T32 l1 x5_1).f0) ((rd_T32 l1 x5_1).f1) ((rd_T32 l1 x5_1).f2.f0) ((rd_T32 l1 x5_1).f2.f1) ((rd_T32 l1 x5_1).f2.f2) ((rd_T32 l1 x5_1).f3) _ _ ((rd_T32 l1 x5_1).f4) false _ ?side1 ?side2 ?side3 ?side4 A7.out).mono ?_
        (case side1 => exact ck_ (Kd.C_below HR161_6.out HB.out))
        (case side2 => exact HC161_6.out)
        (case side3 => exact ck_ (Kd.C_below HR162_6.out HB.out))
        (case side4 => exact HC162_6.out)
        rintro e w12 ⟨rfl, hb⟩
        refine ⟨_, rfl, ?_⟩
        replace HB := bs_ hb
        (try clear hb)
        (try clear hb2)
        (try clear hk)
        (try clear hi)
        refine hK.out _ _ ⟨((HB.out.cell (World.block_lt_of_cell? w _ hw161_0)).trans hw161_0), ((HB.out.cell (World.block_lt_of_cell? w _ hw161_1)).trans hw161_1), ((HB.out.cell (World.block_lt_of_cell? w _ hw161_2)).trans hw161_2), ((HB.out.cell (World.block_lt_of_cell? w _ hw161_3)).trans hw161_3), ((HB.out.cell (World.block_lt_of_cell? w _ hw161_4)).trans hw161_4), ((HB.out.cell (World.block_lt_of_cell? w _ hw161_5)).trans hw161_5), ((HB.out.cell (World.block_lt_of_cell? w _ hw161_6)).trans hw161_6), ((HB.out.cell (World.block_lt_of_cell? w _ hw162_0)).trans hw162_0), ((HB.out.cell (World.block_lt_of_cell? w _ hw162_1)).trans hw162_1), ((HB.out.cell (World.block_lt_of_cell? w _ hw162_2)).trans hw162_2), ((HB.out.cell (World.block_lt_of_cell? w _ hw162_3)).trans hw162_3), ((HB.out.cell (World.block_lt_of_cell? w _ hw162_4)).trans hw162_4), ((HB.out.cell (World.block_lt_of_cell? w _ hw162_5)).trans hw162_5), ((HB.out.cell (World.block_lt_of_cell? w _ hw162_6)).trans hw162_6)⟩ (fun hHeld => ?_)
        clear hK K
        refine nm_ ?_
        refine plx_ 9 (tf 10 0) ?_
        refine done_ (done_of HT_.out (by kernel_rfl)) ?_
        try go_wp2
        go_ret
        exact ⟨er_, bb_⟩
      ·rw [if_neg c6] at H
       exact absurd H (by simp)
     ·rw [if_neg c5] at H
      exact absurd H (by simp)
    ·rw [if_neg c4] at H
     have c4b0 : decide (x5_1 < (l0.length : Int)) = false := decide_eq_false c4
     clear c4
     obtain rfl := Option.some.inj H
     go_wp2
     go_ret
     exact ⟨er_, bb_⟩
 ·rw [if_neg c3] at H
  have c3b0 : ((l0.length : Int) == (l1.length : Int)) = false := beq_eq_false_iff_ne.mpr c3
  have c3b1 : ((l0.length : Int) != (l1.length : Int)) = true := bne_iff_ne.mpr c3
  have c3b2 : (l0.length == l1.length) = false := by first | simpa using c3 | (simp at c3 ⊢; omega)
  obtain rfl := Option.some.inj H
  go_enter Try.func47, Try.ntmps47
  go_wp2
  go_ret
  exact ⟨er_, bb_⟩

end Go.Proofs.Ytmkllhkhiefbnaa.PFnExactExpOk
