-- WRITTEN BY xprint.py, a program of this session over the kit's printer: by nobody's hand
-- PRESSED
import Derived.Test.YtapgfamppnhnmaaPress
import Derived.Test.YtapgfamppnhnmaaPFnExactAndAllx0
import Derived.Test.YtapgfamppnhnmaaPFnExactAndAllx1
import Derived.Test.YtapgfamppnhnmaaPFnExactAndAllx5
import Derived.Test.YtapgfamppnhnmaaPFnExactAndAllx7
namespace Go.Proofs.Ytapgfamppnhnmaa.PFnExactAndAll
open Go.RowKit Go.Proofs.YtapgfamppnhnmaaW.PrintWords Go.Proofs.YtapgfamppnhnmaaW.PrintLast Go.Proofs.YtapgfamppnhnmaaW.PrintMore
attribute [local go_sem] max2_int min2_int max_two min_two max_three min_three max_four min_four   -- for this text's walks alone
set_option linter.unusedVariables false
set_option linter.unusedSimpArgs false

attribute [local go_sem high] eqA25
/-! ### impl_isExp: function 74 -/
-- by hand
/-- A value that is nothing. -/
def nullB (v0 v1 : Int) (v2 : ByteArray) : Bool := v0 == 0 && (v1 == 0 && (v2.toList == ([] : List UInt8)))
/-- What the kind of an expression asks: so many kids, and whether all else is right. -/
def isExpS (k : Nat) (a n v0 v1 : Int) (v2 op : ByteArray) : Option (Int × Bool) :=
  if a = 0 then (impl_isColumn.f n).bind fun b => some (0, b && nullB v0 v1 v2 && (op.toList == ([] : List UInt8)))
  else if a = 1 then (impl_ValueOk.f v0 v1 v2).bind fun b => some (0, b && (n == 0) && (op.toList == ([] : List UInt8)))
  else if a = 2 then (impl_isOp.f k op).bind fun b => some (2, b && (n == 0) && nullB v0 v1 v2)
  else if a = 3 ∨ a = 4 then some (1, (n == 0) && nullB v0 v1 v2 && (op.toList == ([] : List UInt8)))
  else some (0, false)
theorem isExpS_0 {k : Nat} {a n v0 v1 : Int} {v2 op : ByteArray} {b : Bool} (h : a = 0) (hb : impl_isColumn.f n = some b) : isExpS k a n v0 v1 v2 op = some (0, b && nullB v0 v1 v2 && (op.toList == ([] : List UInt8))) := by unfold isExpS; rw [if_pos h, hb]; rfl
theorem isExpS_1 {k : Nat} {a n v0 v1 : Int} {v2 op : ByteArray} {b : Bool} (h : a = 1) (hb : impl_ValueOk.f v0 v1 v2 = some b) : isExpS k a n v0 v1 v2 op = some (0, b && (n == 0) && (op.toList == ([] : List UInt8))) := by unfold isExpS; rw [if_neg (by omega), if_pos h, hb]; rfl
theorem isExpS_2 {k : Nat} {a n v0 v1 : Int} {v2 op : ByteArray} {b : Bool} (h : a = 2) (hb : impl_isOp.f k op = some b) : isExpS k a n v0 v1 v2 op = some (2, b && (n == 0) && nullB v0 v1 v2) := by unfold isExpS; rw [if_neg (by omega), if_neg (by omega), if_pos h, hb]; rfl
theorem isExpS_3 {k : Nat} {a n v0 v1 : Int} {v2 op : ByteArray} (h : a = 3 ∨ a = 4) : isExpS k a n v0 v1 v2 op = some (1, (n == 0) && nullB v0 v1 v2 && (op.toList == ([] : List UInt8))) := by unfold isExpS; rw [if_neg (by omega), if_neg (by omega), if_neg (by omega), if_pos h]
theorem isExpS_5 {k : Nat} {a n v0 v1 : Int} {v2 op : ByteArray} (h0 : ¬ a = 0) (h1 : ¬ a = 1) (h2 : ¬ a = 2) (h3 : ¬ (a = 3 ∨ a = 4)) : isExpS k a n v0 v1 v2 op = some (0, false) := by unfold isExpS; rw [if_neg h0, if_neg h1, if_neg h2, if_neg h3]
def impl_isExp.f : Nat → Int → Int → Int → Int → ByteArray → ByteArray → List S28 → Int → Option Bool
  | 0, _, _, _, _, _, _, _, _ => none
  | k + 1, a, n, v0, v1, v2, op, kids, d => (isExpS k a n v0 v1 v2 op).bind fun p => if p.2 = true then (if d ≤ 12 then (if (kids.length : Int) = p.1 then allO (fun x => impl_isExp.f k x.f0 x.f1 x.f2.f0 x.f2.f1 x.f2.f2 x.f3 x.f4 (wrap64 (d + 1))) kids else some false) else some false) else some false
set_option maxHeartbeats 4000000 in
set_option maxRecDepth 100000 in
theorem isExp_cb (k : Nat) (d : Int) (gd : Nat) (w0 : World) (ih : ∀ (a n v0 v1 : Int) (v2 op : ByteArray) (A : Option Addr) (c : Nat) (l : List S28) (d : Int) (r : Bool) (w : World) (hr : Kd.C k28 w A l.length l) (hc : l.length ≤ c) (h : impl_isExp.f k a n v0 v1 v2 op l d = some r),
    Calls Try.prog 74 #[.agg #[.int .i64 a, .int .i64 n, .int .i64 v0, .int .i64 v1, .string v2, .string op, .slice A l.length c], .int .i64 d] w fun e w' => e = .returned (.bool r) ∧ Below w.heap.size w w')
    (xs : List S28) (hc : w0.cell? ⟨gd, 0, none⟩ = some (.int .i64 d)) (hg : gd < w0.heap.size) : CB Try.prog k28 (fun cs => Value.agg cs.toArray) 108 #[.pointer (some ⟨gd, 0, none⟩)] (fun x => impl_isExp.f k x.f0 x.f1 x.f2.f0 x.f2.f1 x.f2.f2 x.f3 x.f4 (wrap64 (d + 1))) xs w0 := by
  intro W x cs b hW _ hK hf
  obtain ⟨A6, c6, rfl, hl6, hg6⟩ := k28_open hK
  have hcd : W.cell? ⟨gd, 0, none⟩ = some (.int .i64 d) := (hW.cell (p := ⟨gd, 0, none⟩) hg).trans hc
  have hlt : gd < W.heap.size := Nat.lt_of_lt_of_le hg hW.size
  have hne : gd ≠ W.heap.size := by omega
  have hu := Try.underlying28
  have hcall := fun V (hV : Below W.heap.size W V) => ih x.f0 x.f1 x.f2.f0 x.f2.f1 x.f2.f2 x.f3 A6 c6 x.f4 (wrap64 (d + 1)) b V (Kd.C_below hg6 hV) hl6 hf
  have HC := Aside0.mk hcall
  have hcd' := fun o : Obj => cell_alloc_old o hcd
  clear hK hf hcall ih hg6 hW hc hg
  show Calls Try.prog 108 #[.agg #[.int .i64 x.f0, .int .i64 x.f1, .int .i64 x.f2.f0, .int .i64 x.f2.f1, .string x.f2.f2, .string x.f3, .slice A6 x.f4.length c6], .pointer (some ⟨gd, 0, none⟩)] W _
  go_enter Try.func108, Try.ntmps108
  go_wp2_with (go_at_call 74; (try simp only [i64_w]); refine (HC.out _ (by repeat (first | exact Below.refl _ _ | apply below_alloc | apply pw_below_drewN | apply below_drew1))).mono ?_; rintro e w' ⟨rfl, hb'⟩)
  go_ret
  exact ⟨rfl, (by repeat (first | exact Below.refl _ _ | apply below_alloc | apply pw_below_drewN | apply below_drew1) : Below W.heap.size W _).trans (hb'.mono (by simp))⟩
set_option maxHeartbeats 8000000 in
set_option maxRecDepth 100000 in
theorem impl_isExp.calls (k : Nat) : ∀ (a n v0 v1 : Int) (v2 op : ByteArray) (A : Option Addr) (c : Nat) (l : List S28) (d : Int) (r : Bool) (w : World) (hr : Kd.C k28 w A l.length l) (hc : l.length ≤ c) (h : impl_isExp.f k a n v0 v1 v2 op l d = some r),
    Calls Try.prog 74 #[.agg #[.int .i64 a, .int .i64 n, .int .i64 v0, .int .i64 v1, .string v2, .string op, .slice A l.length c], .int .i64 d] w fun e w' => e = .returned (.bool r) ∧ Below w.heap.size w w' := by
  induction k with
  | zero => intro a n v0 v1 v2 op A c l d r w hr hc h; exact absurd h (by simp [impl_isExp.f])
  | succ k ih =>
  intro a n v0 v1 v2 op A c l d r w hr hc h
  obtain ⟨⟨kn, rt⟩, hs, h⟩ := Option.bind_eq_some_iff.1 h
  replace h : (if rt = true then (if d ≤ 12 then (if (l.length : Int) = kn then allO (fun x => impl_isExp.f k x.f0 x.f1 x.f2.f0 x.f2.f1 x.f2.f2 x.f3 x.f4 (wrap64 (d + 1))) l else some false) else some false) else some false) = some r := h
  have hu := Try.underlying28
  have hu2 := Try.underlying25
  have HS := Aside0.mk hs
  have HH := Aside0.mk h
  have HR := Aside0.mk hr
  have HC := Aside0.mk hc
  have IH := Aside0.mk ih
  have HB := Aside0.mk (Below.refl w.heap.size w)
  clear hs h hr hc ih
  go_enter Try.func74, Try.ntmps74
  go_upto_block 0 with (first
    | ((with_reducible refine gate_dst (N := 2) rfl ?_); refine bx_ 2 #[.int .i64 a, .int .i64 n, .int .i64 v0, .int .i64 v1, .string v2, .string op, .slice A l.length c] 28 ?_; intro g hg w1 hbox hb; have BK := Aside0.mk hbox; have GW := gw_ hg; replace HB := bs_ hb; clear hb hbox hg)
    | ((with_reducible refine gate_dst (N := 3) rfl ?_); refine bx_ 3 #[.int .i64 d] 3 ?_; intro gd hg w2 hbox hb; have BD := Aside0.mk hbox; have GD := gw_ hg; replace BK := bkb_ BK hb; replace HB := bs_ hb; clear hb hbox hg; have b0 := bc_ (v := (.int .i64 a)) BK 0))
  clear b0
  (try simp only [Act.put, List.setIfInBounds_toArray, List.set_cons_zero, List.set_cons_succ])
  go_cut [5, 6] (fun v5 v6 wc => ∃ (kn : Int) (rt : Bool), v5 = .int .i64 kn ∧ v6 = .bool rt ∧ Aside0 (isExpS k a n v0 v1 v2 op = some (kn, rt)) ∧ Aside0 (wc.heap[g]? = some (.cells #[.int .i64 a, .int .i64 n, .int .i64 v0, .int .i64 v1, .string v2, .string op, .slice A l.length c] 28 (0, 0))) ∧ Aside0 (wc.heap[gd]? = some (.cells #[.int .i64 d] 3 (0, 0))) ∧ Aside0 (Below w.heap.size w wc))
  case first =>
    clear IH HH HR HC
    have h := HS.out
    unfold isExpS at h
    by_cases a0 : a = 0
    · have d0 : (a == 0) = true := beq_iff_eq.mpr a0
      rw [if_pos a0] at h
      obtain ⟨b, hb, _⟩ := Option.bind_eq_some_iff.1 h
      have HE := Aside0.mk (isExpS_0 (k := k) (v0 := v0) (v1 := v1) (v2 := v2) (op := op) a0 hb)
      have HC := Aside0.mk hb
      clear h hb a0 HS
      go_wp2
      replace BK := Aside0.mk (blk_drew BK.out)
      replace BD := Aside0.mk (blk_drew BD.out)
      replace HB := Aside0.mk (below_drew1 HB.out)
      refine start_ (n := 15) (S := fun w' => w'.cell? ⟨g, 1, none⟩ = some (.int .i64 n) ∧ w'.cell? ⟨g, 2, none⟩ = some (.int .i64 v0) ∧ w'.cell? ⟨g, 3, none⟩ = some (.int .i64 v1) ∧ w'.cell? ⟨g, 4, none⟩ = some (.string v2) ∧ w'.cell? ⟨g, 5, none⟩ = some (.string op)) (ds := []) (tf 0 15) (by kernel_rfl) rfl rfl ⟨bc_ BK 1, bc_ BK 2, bc_ BK 3, bc_ BK 4, bc_ BK 5⟩ (fun hHeld => ?_)
      generalize w2.drew = wd at BK BD HB hHeld ⊢
      refine plk_ ?_
      refine tlk_ ?_
      refine onek_ (fun K hK => ?_)
      refine gs_ Try.func104 #[.int .i64 n] ?_
      refine (impl_isColumn.calls n b _ HC.out).mono ?_
      rintro e w' ⟨rfl, ⟨nd, rfl⟩⟩
      refine ⟨_, rfl, ?_⟩
      replace BK := Aside0.mk (blk_drewN BK.out nd); replace BD := Aside0.mk (blk_drewN BD.out nd); replace HB := Aside0.mk (pw_below_drewN HB.out nd)
      refine hK.out _ _ ⟨bc_ BK 1, bc_ BK 2, bc_ BK 3, bc_ BK 4, bc_ BK 5⟩ (fun hHeld => ?_); clear hK K; refine nm_ ?_
      cases b with
      | false =>
        repeat (first | (refine pdk_ ?_) | (refine plk_ ?_) | (refine tlk_ ?_))
        refine done_ (by kernel_rfl) ?_
        go_wp2
        go_meet
        case rel => exact ⟨_, _, rfl, rfl, ⟨by first | exact HE.out | (rw [HE.out]; simp [nullB, *])⟩, BK, BD, HB⟩
      | true =>
        cases hz : nullB v0 v1 v2 with
        | false =>
          have hz0 : (v0 == 0 && (v1 == 0 && v2.toList.isEmpty)) = false := by simpa [nullB] using hz
          have HZ := Aside0.mk hz
          clear hz
          repeat (first | (refine pdk_ ?_) | (refine plk_ ?_) | (refine tlk_ ?_))
          refine onek_ (fun K hK => ?_)
          refine gs_ Try.func36 #[] ?_
          refine (impl_null.calls 0 0 ⟨#[]⟩ _ rfl).mono ?_
          rintro e w' ⟨rfl, hb⟩
          refine ⟨_, rfl, ?_⟩
          replace BK := bkb_ BK hb; replace BD := bkb_ BD hb; replace HB := bs_ hb; clear hb
          refine hK.out _ _ ⟨bc_ BK 1, bc_ BK 2, bc_ BK 3, bc_ BK 4, bc_ BK 5⟩ (fun hHeld => ?_); clear hK K; refine nm_ ?_
          repeat (first | (refine pdk_ ?_) | (refine plk_ ?_) | (refine tlk_ ?_))
          refine done_ (by kernel_rfl) ?_
          go_wp2
          go_meet
          case rel => exact ⟨_, _, rfl, rfl, ⟨by first | exact HE.out | (rw [HE.out]; simp [HZ.out])⟩, BK, BD, HB⟩
        | true =>
          have hz0 : (v0 == 0 && (v1 == 0 && v2.toList.isEmpty)) = true := by simpa [nullB] using hz
          have HZ := Aside0.mk hz
          clear hz
          repeat (first | (refine pdk_ ?_) | (refine plk_ ?_) | (refine tlk_ ?_))
          refine onek_ (fun K hK => ?_)
          refine gs_ Try.func36 #[] ?_
          refine (impl_null.calls 0 0 ⟨#[]⟩ _ rfl).mono ?_
          rintro e w' ⟨rfl, hb⟩
          refine ⟨_, rfl, ?_⟩
          replace BK := bkb_ BK hb; replace BD := bkb_ BD hb; replace HB := bs_ hb; clear hb
          refine hK.out _ _ ⟨bc_ BK 1, bc_ BK 2, bc_ BK 3, bc_ BK 4, bc_ BK 5⟩ (fun hHeld => ?_); clear hK K; refine nm_ ?_
          repeat (first | (refine pdk_ ?_) | (refine plk_ ?_) | (refine tlk_ ?_))
          refine done_ (by kernel_rfl) ?_
          go_wp2
          go_meet
          case rel => exact ⟨_, _, rfl, rfl, ⟨by first | exact HE.out | (rw [HE.out]; simp [HZ.out])⟩, BK, BD, HB⟩
    have d0 : (a == 0) = false := beq_eq_false_iff_ne.mpr a0
    by_cases a1 : a = 1
    · have d1 : (a == 1) = true := beq_iff_eq.mpr a1
      rw [if_neg a0, if_pos a1] at h
      obtain ⟨b, hb, _⟩ := Option.bind_eq_some_iff.1 h
      have HE := Aside0.mk (isExpS_1 (k := k) (n := n) (op := op) a1 hb)
      have HC := Aside0.mk hb
      clear h hb a0 a1 HS
      have b1 := bc_ (v := (.int .i64 v0)) BK 2
      have b2 := bc_ (v := (.int .i64 v1)) BK 3
      have b3 := bc_ (v := (.string v2)) BK 4
      cases b with
      | false =>
        go_wp2_with (go_at_call 105; refine (impl_ValueOk.calls v0 v1 v2 false _ HC.out).mono ?_; rintro e w' ⟨rfl, hb⟩; replace BK := bkb_ BK hb; replace BD := bkb_ BD hb; replace HB := bs_ hb; clear hb)
        go_meet
        case rel => exact ⟨_, _, rfl, rfl, ⟨by rw [HE.out]; simp⟩, BK, BD, HB⟩
      | true =>
        cases hn : (n == 0) with
        | false =>
          go_wp2_with (go_at_call 105; refine (impl_ValueOk.calls v0 v1 v2 true _ HC.out).mono ?_; rintro e w' ⟨rfl, hb⟩; replace BK := bkb_ BK hb; replace BD := bkb_ BD hb; replace HB := bs_ hb; clear hb; have b4 := bc_ (v := (.int .i64 n)) BK 1; have b5 := bc_ (v := (.string op)) BK 5)
          go_meet
          case rel => exact ⟨_, _, rfl, rfl, ⟨by rw [HE.out, hn]; simp⟩, BK, BD, HB⟩
        | true =>
          go_wp2_with (go_at_call 105; refine (impl_ValueOk.calls v0 v1 v2 true _ HC.out).mono ?_; rintro e w' ⟨rfl, hb⟩; replace BK := bkb_ BK hb; replace BD := bkb_ BD hb; replace HB := bs_ hb; clear hb; have b4 := bc_ (v := (.int .i64 n)) BK 1; have b5 := bc_ (v := (.string op)) BK 5)
          go_meet
          case rel => exact ⟨_, _, rfl, rfl, ⟨by rw [HE.out, hn]; simp⟩, BK, BD, HB⟩
    by_cases a2 : a = 2
    · have d2 : (a == 2) = true := beq_iff_eq.mpr a2
      rw [if_neg a0, if_neg a1, if_pos a2] at h
      obtain ⟨b, hb, _⟩ := Option.bind_eq_some_iff.1 h
      have HE := Aside0.mk (isExpS_2 (n := n) (v0 := v0) (v1 := v1) (v2 := v2) a2 hb)
      have HC := Aside0.mk hb
      have d1 : (a == 1) = false := beq_eq_false_iff_ne.mpr a1
      clear h hb a0 a1 a2 HS
      go_wp2
      replace BK := Aside0.mk (blk_drew BK.out)
      replace BD := Aside0.mk (blk_drew BD.out)
      replace HB := Aside0.mk (below_drew1 HB.out)
      refine start_ (n := 16) (S := fun w' => w'.cell? ⟨g, 1, none⟩ = some (.int .i64 n) ∧ w'.cell? ⟨g, 2, none⟩ = some (.int .i64 v0) ∧ w'.cell? ⟨g, 3, none⟩ = some (.int .i64 v1) ∧ w'.cell? ⟨g, 4, none⟩ = some (.string v2) ∧ w'.cell? ⟨g, 5, none⟩ = some (.string op)) (ds := []) (tf 0 16) (by kernel_rfl) rfl rfl ⟨bc_ BK 1, bc_ BK 2, bc_ BK 3, bc_ BK 4, bc_ BK 5⟩ (fun hHeld => ?_)
      generalize w2.drew = wd at BK BD HB hHeld ⊢
      refine plk_ ?_
      refine tlk_ ?_
      refine onek_ (fun K hK => ?_)
      refine gs_ Try.func106 #[.string op] ?_
      refine (impl_isOp.calls k op b _ HC.out).mono ?_
      rintro e w' ⟨rfl, hb⟩
      refine ⟨_, rfl, ?_⟩
      replace BK := bkb_ BK hb; replace BD := bkb_ BD hb; replace HB := bs_ hb; clear hb
      refine hK.out _ _ ⟨bc_ BK 1, bc_ BK 2, bc_ BK 3, bc_ BK 4, bc_ BK 5⟩ (fun hHeld => ?_); clear hK K; refine nm_ ?_
      cases b with
      | false =>
        repeat (first | (refine pdk_ ?_) | (refine plk_ ?_) | (refine tlk_ ?_))
        refine done_ (by kernel_rfl) ?_
        go_wp2
        go_meet
        case rel => exact ⟨_, _, rfl, rfl, ⟨by rw [HE.out]; simp []⟩, BK, BD, HB⟩
      | true =>
        cases hn : (n == 0) with
        | false =>
          repeat (first | (refine pdk_ ?_) | (refine plk_ ?_) | (refine tlk_ ?_))
          refine done_ (by kernel_rfl) ?_
          go_wp2
          go_meet
          case rel => exact ⟨_, _, rfl, rfl, ⟨by rw [HE.out]; simp [hn]⟩, BK, BD, HB⟩
        | true =>
          repeat (first | (refine pdk_ ?_) | (refine plk_ ?_) | (refine tlk_ ?_))
          refine onek_ (fun K hK => ?_)
          refine gs_ Try.func36 #[] ?_
          refine (impl_null.calls 0 0 ⟨#[]⟩ _ rfl).mono ?_
          rintro e w' ⟨rfl, hb⟩
          refine ⟨_, rfl, ?_⟩
          replace BK := bkb_ BK hb; replace BD := bkb_ BD hb; replace HB := bs_ hb; clear hb
          refine hK.out _ _ ⟨bc_ BK 1, bc_ BK 2, bc_ BK 3, bc_ BK 4, bc_ BK 5⟩ (fun hHeld => ?_); clear hK K; refine nm_ ?_
          repeat (first | (refine pdk_ ?_) | (refine plk_ ?_) | (refine tlk_ ?_))
          refine done_ (by kernel_rfl) ?_
          go_wp2
          go_meet
          case rel => exact ⟨_, _, rfl, rfl, ⟨by rw [HE.out]; simp [hn, nullB]⟩, BK, BD, HB⟩
    by_cases a3 : a = 3 ∨ a = 4
    · have d1 : (a == 1) = false := beq_eq_false_iff_ne.mpr a1
      have d2 : (a == 2) = false := beq_eq_false_iff_ne.mpr a2
      have HE := Aside0.mk (isExpS_3 (k := k) (n := n) (v0 := v0) (v1 := v1) (v2 := v2) (op := op) a3)
      have HA := Aside0.mk a3
      clear h a0 a1 a2 a3 HS
      have hthree : ((a == 3) = true ∨ ((a == 3) = false ∧ (a == 4) = true)) := by
        rcases HA.out with h | h
        · exact Or.inl (beq_iff_eq.mpr h)
        · exact Or.inr ⟨beq_eq_false_iff_ne.mpr (by omega), beq_iff_eq.mpr h⟩
      rcases hthree with d3 | ⟨d3, d4⟩
      all_goals
        go_wp2
        replace BK := Aside0.mk (blk_drew BK.out)
        replace BD := Aside0.mk (blk_drew BD.out)
        replace HB := Aside0.mk (below_drew1 HB.out)
        refine start_ (n := 16) (S := fun w' => w'.cell? ⟨g, 1, none⟩ = some (.int .i64 n) ∧ w'.cell? ⟨g, 2, none⟩ = some (.int .i64 v0) ∧ w'.cell? ⟨g, 3, none⟩ = some (.int .i64 v1) ∧ w'.cell? ⟨g, 4, none⟩ = some (.string v2) ∧ w'.cell? ⟨g, 5, none⟩ = some (.string op)) (ds := []) (tf 0 16) (by kernel_rfl) rfl rfl ⟨bc_ BK 1, bc_ BK 2, bc_ BK 3, bc_ BK 4, bc_ BK 5⟩ (fun hHeld => ?_)
        generalize w2.drew = wd at BK BD HB hHeld ⊢
        refine plk_ ?_
        refine tlk_ ?_
        cases hn : (n == 0) with
        | false =>
          repeat (first | (refine pdk_ ?_) | (refine plk_ ?_) | (refine tlk_ ?_))
          refine done_ (by kernel_rfl) ?_
          go_wp2
          go_meet
          case rel => exact ⟨_, _, rfl, rfl, ⟨by rw [HE.out]; simp [hn]⟩, BK, BD, HB⟩
        | true =>
          cases hz : nullB v0 v1 v2 with
          | false =>
            have hz0 : (v0 == 0 && (v1 == 0 && v2.toList.isEmpty)) = false := by simpa [nullB] using hz
            have HZ := Aside0.mk hz
            clear hz
            repeat (first | (refine pdk_ ?_) | (refine plk_ ?_) | (refine tlk_ ?_))
            refine onek_ (fun K hK => ?_)
            refine gs_ Try.func36 #[] ?_
            refine (impl_null.calls 0 0 ⟨#[]⟩ _ rfl).mono ?_
            rintro e w' ⟨rfl, hb⟩
            refine ⟨_, rfl, ?_⟩
            replace BK := bkb_ BK hb; replace BD := bkb_ BD hb; replace HB := bs_ hb; clear hb
            refine hK.out _ _ ⟨bc_ BK 1, bc_ BK 2, bc_ BK 3, bc_ BK 4, bc_ BK 5⟩ (fun hHeld => ?_); clear hK K; refine nm_ ?_
            repeat (first | (refine pdk_ ?_) | (refine plk_ ?_) | (refine tlk_ ?_))
            refine done_ (by kernel_rfl) ?_
            go_wp2
            go_meet
            case rel => exact ⟨_, _, rfl, rfl, ⟨by rw [HE.out]; simp [hn, HZ.out]⟩, BK, BD, HB⟩
          | true =>
            have hz0 : (v0 == 0 && (v1 == 0 && v2.toList.isEmpty)) = true := by simpa [nullB] using hz
            have HZ := Aside0.mk hz
            clear hz
            repeat (first | (refine pdk_ ?_) | (refine plk_ ?_) | (refine tlk_ ?_))
            refine onek_ (fun K hK => ?_)
            refine gs_ Try.func36 #[] ?_
            refine (impl_null.calls 0 0 ⟨#[]⟩ _ rfl).mono ?_
            rintro e w' ⟨rfl, hb⟩
            refine ⟨_, rfl, ?_⟩
            replace BK := bkb_ BK hb; replace BD := bkb_ BD hb; replace HB := bs_ hb; clear hb
            refine hK.out _ _ ⟨bc_ BK 1, bc_ BK 2, bc_ BK 3, bc_ BK 4, bc_ BK 5⟩ (fun hHeld => ?_); clear hK K; refine nm_ ?_
            repeat (first | (refine pdk_ ?_) | (refine plk_ ?_) | (refine tlk_ ?_))
            refine done_ (by kernel_rfl) ?_
            go_wp2
            go_meet
            case rel => exact ⟨_, _, rfl, rfl, ⟨by rw [HE.out]; simp [hn, HZ.out]⟩, BK, BD, HB⟩
    have d1 : (a == 1) = false := beq_eq_false_iff_ne.mpr a1
    have d2 : (a == 2) = false := beq_eq_false_iff_ne.mpr a2
    have d3 : (a == 3) = false := beq_eq_false_iff_ne.mpr (by omega)
    have d4 : (a == 4) = false := beq_eq_false_iff_ne.mpr (by omega)
    have HE := Aside0.mk (isExpS_5 (k := k) (n := n) (v0 := v0) (v1 := v1) (v2 := v2) (op := op) a0 a1 a2 a3)
    clear h a0 a1 a2 a3 HS
    go_wp2
    go_meet
    case rel => exact ⟨_, _, rfl, rfl, HE, BK, BD, HB⟩
  case rest =>
    clear BK BD HB
    obtain ⟨kn', rt', rfl, rfl, HT, BK, BD, HB⟩ := hcut
    have he := Option.some.inj (HT.out.symm.trans HS.out)
    obtain rfl : kn' = kn := congrArg Prod.fst he
    obtain rfl : rt' = rt := congrArg Prod.snd he
    have H := HH.out
    clear HH HT HS he
    have b0 := bc_ (v := (.int .i64 d)) BD 0
    have b1 := bc_ (v := (.slice A l.length c)) BK 6
    cases rt' with
    | false =>
      obtain rfl := Option.some.inj ((if_neg (by simp)).symm.trans H)
      clear H
      go_wp2
      go_ret
      exact ⟨rfl, bb_⟩
    | true =>
      replace H := (if_pos rfl).symm.trans H
      by_cases h1 : d ≤ 12
      · have d1 : decide (d ≤ 12) = true := decide_eq_true h1
        replace H := (if_pos h1).symm.trans H
        clear h1
        by_cases h2 : (l.length : Int) = kn'
        · have d2 : ((l.length : Int) == kn') = true := beq_iff_eq.mpr h2
          replace H := (if_pos h2).symm.trans H
          clear h2
          have eg : ∀ args w, (callFunc 108 args).run Try.prog w = .ok (.enter 108 args) w := enters_of Try.func108 (by kernel_rfl) rfl
          have hall := areAll_T28.calls _ 108 #[.pointer (some ⟨gd, 0, none⟩)] eg A c l r wc (Kd.C_below HR.out HB.out) (isExp_cb k d gd wc IH.out l b0 (blk_lt BD.out)) H
          have HALL := Aside0.mk hall
          clear H hall
          go_wp2_with (go_at_call 107; refine HALL.out.mono ?_; rintro e w' ⟨rfl, hb'⟩)
          go_ret
          exact ⟨rfl, HB.out.trans (hb'.mono HB.out.size)⟩
        · have d2 : ((l.length : Int) == kn') = false := beq_eq_false_iff_ne.mpr h2
          obtain rfl := Option.some.inj ((if_neg h2).symm.trans H)
          clear H h2
          go_wp2
          go_ret
          exact ⟨rfl, bb_⟩
      · have d1 : decide (d ≤ 12) = false := decide_eq_false h1
        obtain rfl := Option.some.inj ((if_neg h1).symm.trans H)
        clear H h1
        go_wp2
        go_ret
        exact ⟨rfl, bb_⟩


/-! ### impl_ExpOk: function 38 -/
def impl_ExpOk.f (k : Nat) (a0_0 : Int) (a0_1 : Int) (a0_2 : Int) (a0_3 : Int) (a0_4 : ByteArray) (a0_5 : ByteArray) (l0_6 : List (S28)) : Option (Bool) := (impl_isExp.f k a0_0 a0_1 a0_2 a0_3 a0_4 a0_5 l0_6 0).bind fun t299 => (some t299)
set_option maxHeartbeats 8000000 in
set_option maxRecDepth 100000 in
theorem impl_ExpOk.calls (k : Nat) (a0_0 : Int) (a0_1 : Int) (a0_2 : Int) (a0_3 : Int) (a0_4 : ByteArray) (a0_5 : ByteArray) (A0_6 : Option Addr) (c0_6 : Nat) (l0_6 : List (S28)) (r : Bool) (w : World) (hr0_6 : Kd.C k28 w A0_6 l0_6.length l0_6) (hc0_6 : l0_6.length ≤ c0_6) (h : impl_ExpOk.f k a0_0 a0_1 a0_2 a0_3 a0_4 a0_5 l0_6 = some r) :
  Calls Try.prog 38 #[.agg #[.int .i64 a0_0, .int .i64 a0_1, .int .i64 a0_2, .int .i64 a0_3, .string a0_4, .string a0_5, .slice A0_6 l0_6.length c0_6]] w fun e w' => e = .returned (.bool r) ∧ Below w.heap.size w w' := by
 have hu28 := Try.underlying28
 have HR0_6 := Aside0.mk hr0_6
 have HC0_6 := Aside0.mk hc0_6
 clear hr0_6 hc0_6
 have HB := Aside0.mk (Below.refl w.heap.size w)
 have H : ((impl_isExp.f k a0_0 a0_1 a0_2 a0_3 a0_4 a0_5 l0_6 0).bind fun t299 => (some t299)) = some r := h
 clear h
 replace H := Option.bind_eq_some_iff.mp H
 obtain ⟨t299, A20, H⟩ := H
 replace H : (some t299) = some r := H
 have A2 := Aside0.mk A20
 clear A20
 obtain rfl := Option.some.inj H
 go_enter Try.func38, Try.ntmps38
 go_wp2_with (first | ((with_reducible refine gate_dst (N := 1) rfl ?_); refine bx_ 1 #[.int .i64 a0_0, .int .i64 a0_1, .int .i64 a0_2, .int .i64 a0_3, .string a0_4, .string a0_5, .slice A0_6 l0_6.length c0_6] 28 ?_; intro gb298 hg w3 hbox hb; have BK298 := Aside0.mk (hbox); have GW298 := gw_ hg; have GE298 := gw_ hg; replace HB := bs_ hb; clear hb hbox hg; obtain ⟨hcz4_0, hcz4_1, hcz4_2, hcz4_3, hcz4_4, hcz4_5, hcz4_6, hfz4_0, hfz4_1, hfz4_2, hfz4_3, hfz4_4, hfz4_5, hfz4_6⟩ := b7_ BK298) | ((with_reducible refine gate_callee (f := 74) rfl ?_); refine gsL_ (some 4) Try.func74 #[.agg #[.int .i64 a0_0, .int .i64 a0_1, .int .i64 a0_2, .int .i64 a0_3, .string a0_4, .string a0_5, .slice A0_6 l0_6.length c0_6], .int .i64 0] ?_; (with_reducible refine (impl_isExp.calls k a0_0 a0_1 a0_2 a0_3 a0_4 a0_5 _ _ l0_6 0 t299 _ ?side1 ?side2 A2.out).mono ?_); (case side1 => exact ck_ (Kd.C_below HR0_6.out HB.out)); (case side2 => exact HC0_6.out); rintro e w5 ⟨rfl, hb⟩; refine ⟨_, rfl, ?_⟩; replace BK298 := bkb_ BK298 hb; replace HB := bs_ hb; (try clear hb); (try clear hb2); (try clear hk); (try clear hi)))
 go_ret
 exact ⟨er_, bb_⟩

/-! ### impl_AndAll: function 9 -/
def impl_AndAll.f (k : Nat) (l0 : List (S28)) : Option (Int × Int × Int × Int × ByteArray × ByteArray × (List (S28))) := if (l0.length : Int) > 13 then ((impl_null.f).bind fun bt301 => ((impl_valueExp.f bt301.1 bt301.2.1 bt301.2.2).bind fun bt304 => (some (bt304.1, bt304.2.1, bt304.2.2.1, bt304.2.2.2.1, bt304.2.2.2.2.1, bt304.2.2.2.2.2.1, bt304.2.2.2.2.2.2)))) else ((impl_chain.f k l0).bind fun bt313 => ((impl_ExpOk.f k bt313.1 bt313.2.1 bt313.2.2.1 bt313.2.2.2.1 bt313.2.2.2.2.1 bt313.2.2.2.2.2.1 bt313.2.2.2.2.2.2).bind fun t323 => (if t323 = true then (some (bt313.1, bt313.2.1, bt313.2.2.1, bt313.2.2.2.1, bt313.2.2.2.2.1, bt313.2.2.2.2.2.1, bt313.2.2.2.2.2.2)) else ((impl_null.f).bind fun bt324 => ((impl_valueExp.f bt324.1 bt324.2.1 bt324.2.2).bind fun bt327 => (some (bt327.1, bt327.2.1, bt327.2.2.1, bt327.2.2.2.1, bt327.2.2.2.2.1, bt327.2.2.2.2.2.1, bt327.2.2.2.2.2.2)))))))
set_option maxHeartbeats 8000000 in
set_option maxRecDepth 100000 in
theorem impl_AndAll.calls (k : Nat) (A0 : Option Addr) (c0 : Nat) (l0 : List (S28)) (r1 : Int) (r2 : Int) (r3 : Int) (r4 : Int) (r5 : ByteArray) (r6 : ByteArray) (r7 : List (S28)) (w : World) (hr0 : Kd.C k28 w A0 l0.length l0) (hc0 : l0.length ≤ c0) (h : impl_AndAll.f k l0 = some (r1, r2, r3, r4, r5, r6, r7)) :
  Calls Try.prog 9 #[.slice A0 l0.length c0] w fun e w' => ∃ v6_ : Value, e = .returned (.agg #[.int .i64 r1, .int .i64 r2, .int .i64 r3, .int .i64 r4, .string r5, .string r6, v6_]) ∧ Kd.S k28 28 w' w.heap.size (fun k_ => (w.heap.size ≤ k_)) v6_ r7 ∧ Below w.heap.size w w' := by
 have hu28 := Try.underlying28
 have HR0 := Aside0.mk hr0
 have HC0 := Aside0.mk hc0
 clear hr0 hc0
 have HB := Aside0.mk (Below.refl w.heap.size w)
 have H : (if (l0.length : Int) > 13 then ((impl_null.f).bind fun bt301 => ((impl_valueExp.f bt301.1 bt301.2.1 bt301.2.2).bind fun bt304 => (some (bt304.1, bt304.2.1, bt304.2.2.1, bt304.2.2.2.1, bt304.2.2.2.2.1, bt304.2.2.2.2.2.1, bt304.2.2.2.2.2.2)))) else ((impl_chain.f k l0).bind fun bt313 => ((impl_ExpOk.f k bt313.1 bt313.2.1 bt313.2.2.1 bt313.2.2.2.1 bt313.2.2.2.2.1 bt313.2.2.2.2.2.1 bt313.2.2.2.2.2.2).bind fun t323 => (if t323 = true then (some (bt313.1, bt313.2.1, bt313.2.2.1, bt313.2.2.2.1, bt313.2.2.2.2.1, bt313.2.2.2.2.2.1, bt313.2.2.2.2.2.2)) else ((impl_null.f).bind fun bt324 => ((impl_valueExp.f bt324.1 bt324.2.1 bt324.2.2).bind fun bt327 => (some (bt327.1, bt327.2.1, bt327.2.2.1, bt327.2.2.2.1, bt327.2.2.2.2.1, bt327.2.2.2.2.2.1, bt327.2.2.2.2.2.2)))))))) = some (r1, r2, r3, r4, r5, r6, r7) := h
 clear h
 by_cases c2 : (l0.length : Int) > 13
 ·rw [if_pos c2] at H
  have c2b0 : decide (13 < (l0.length : Int)) = true := decide_eq_true c2
  have c2b1 : decide (13 < l0.length) = true := decide_eq_true (by omega)
  clear c2
  replace H := Option.bind_eq_some_iff.mp H
  obtain ⟨⟨t301, t302, t303⟩, A30, H⟩ := H
  replace H : ((impl_valueExp.f t301 t302 t303).bind fun bt304 => (some (bt304.1, bt304.2.1, bt304.2.2.1, bt304.2.2.2.1, bt304.2.2.2.2.1, bt304.2.2.2.2.2.1, bt304.2.2.2.2.2.2))) = some (r1, r2, r3, r4, r5, r6, r7) := H
  have A3 := Aside0.mk A30
  clear A30
  replace H := Option.bind_eq_some_iff.mp H
  obtain ⟨⟨t304, t305, t306, t307, t308, t309, t310⟩, A40, H⟩ := H
  replace H : (some (t304, t305, t306, t307, t308, t309, t310)) = some (r1, r2, r3, r4, r5, r6, r7) := H
  have A4 := Aside0.mk A40
  clear A40
  simp only [Option.some.injEq, Prod.mk.injEq] at H
  obtain ⟨rfl, rfl, rfl, rfl, rfl, rfl, rfl⟩ := H
  go_enter Try.func9, Try.ntmps9
  go_wp2_with (first | ((with_reducible refine gate_dst (N := 2) rfl ?_); refine bx_ 2 #[.int .i64 0, .int .i64 0, .int .i64 0, .int .i64 0, .string (⟨#[]⟩ : ByteArray), .string (⟨#[]⟩ : ByteArray), .slice none 0 0] 28 ?_; intro gb300 hg w5 hbox hb; have BK300 := Aside0.mk (hbox); have GW300 := gw_ hg; have GE300 := gw_ hg; replace HB := bs_ hb; clear hb hbox hg) | ((with_reducible refine gate_callee (f := 36) rfl ?_); refine gsL_ (some 7) Try.func36 #[] ?_; (with_reducible refine (impl_null.calls  t301 t302 t303 _ A3.out).mono ?_); rintro e w6 ⟨rfl, hb⟩; refine ⟨_, rfl, ?_⟩; replace BK300 := bkb_ BK300 hb; replace HB := bs_ hb; (try clear hb); (try clear hb2); (try clear hk); (try clear hi)) | ((with_reducible refine gate_callee (f := 35) rfl ?_); refine gsL_ (some 8) Try.func35 #[.agg #[.int .i64 t301, .int .i64 t302, .string t303]] ?_; (with_reducible refine (impl_valueExp.calls t301 t302 t303 t304 t305 t306 t307 t308 t309 t310 _ A4.out).mono ?_); rintro e w7 ⟨v311, rfl, ho0, hb⟩; refine ⟨_, rfl, ?_⟩; have HO312 := Aside0.mk (Kd.S_lower (Kd.S_mono (ok' := fun k_ => (w.heap.size ≤ k_) ∧ k_ ≠ gb300) (Kd.S_bound ho0) (fun k_ hk_ => ⟨(Nat.le_trans (below_size bb_) hk_.2.1), (Kd.freshB (g := gb300) (o := .cells #[.int .i64 0, .int .i64 0, .int .i64 0, .int .i64 0, .string (⟨#[]⟩ : ByteArray), .string (⟨#[]⟩ : ByteArray), .slice none 0 0] 28 (0, 0)) (bkx_ BK300.out) k_ hk_.2.1)⟩)) (below_size bb_)); replace BK300 := bkb_ BK300 hb; replace HB := bs_ hb; (try clear hb); (try clear hb2); (try clear hk); (try clear hi); (try clear ho0); obtain ⟨hcz8_0, hcz8_1, hcz8_2, hcz8_3, hcz8_4, hcz8_5, hcz8_6, hfz8_0, hfz8_1, hfz8_2, hfz8_3, hfz8_4, hfz8_5, hfz8_6⟩ := b7_ BK300; obtain ⟨Ao9, co9, eo9⟩ := Kd.S_slice HO312.out; subst eo9))
  refine bodyPost_ret (results_cell_row rfl _ _ gb300 28 #[.int .i64 t304, .int .i64 t305, .int .i64 t306, .int .i64 t307, .string t308, .string t309, .slice Ao9 t310.length co9] (0, 0) _ rfl (bp7_ (bkx_ BK300.out)) Try.underlying28 rfl (by kernel_rfl)) rfl ?_
  exact ⟨_, by first | rfl | (simp [errW_none, errW_some] <;> rfl) | (simp [*, errW_none, errW_some] <;> rfl), by (with_reducible repeat (first | apply Kd.S_alloc | apply Kd.S_drewN | apply Kd.S_drew)); exact Kd.S_mono (Kd.S_far (p := ⟨gb300, 6, none⟩) (Kd.S_far (p := ⟨gb300, 5, none⟩) (Kd.S_far (p := ⟨gb300, 4, none⟩) (Kd.S_far (p := ⟨gb300, 3, none⟩) (Kd.S_far (p := ⟨gb300, 2, none⟩) (Kd.S_far (p := ⟨gb300, 1, none⟩) (Kd.S_far (p := ⟨gb300, 0, none⟩) (Kd.S_mono HO312.out (fun k_ hk => (⟨hk, hk.2⟩ : _ ∧ k_ ≠ gb300))) (fun _ hk => hk.2) (.int .i64 t304)) (fun _ hk => hk.2) (.int .i64 t305)) (fun _ hk => hk.2) (.int .i64 t306)) (fun _ hk => hk.2) (.int .i64 t307)) (fun _ hk => hk.2) (.string t308)) (fun _ hk => hk.2) (.string t309)) (fun _ hk => hk.2) (.slice Ao9 t310.length co9)) (fun _ hk => hk.1.1), by repeat (first | (with_reducible first | exact HB.out | apply below_alloc | apply pw_below_drewN | apply below_drew1 | refine below_set ?_ GE300.out) | exact HB.out)⟩
 ·rw [if_neg c2] at H
  have c2b0 : decide (13 < (l0.length : Int)) = false := decide_eq_false c2
  have c2b1 : decide (13 < l0.length) = false := decide_eq_false (by omega)
  clear c2
  replace H := Option.bind_eq_some_iff.mp H
  obtain ⟨⟨t313, t314, t315, t316, t317, t318, t319⟩, A100, H⟩ := H
  replace H : ((impl_ExpOk.f k t313 t314 t315 t316 t317 t318 t319).bind fun t323 => (if t323 = true then (some (t313, t314, t315, t316, t317, t318, t319)) else ((impl_null.f).bind fun bt324 => ((impl_valueExp.f bt324.1 bt324.2.1 bt324.2.2).bind fun bt327 => (some (bt327.1, bt327.2.1, bt327.2.2.1, bt327.2.2.2.1, bt327.2.2.2.2.1, bt327.2.2.2.2.2.1, bt327.2.2.2.2.2.2)))))) = some (r1, r2, r3, r4, r5, r6, r7) := H
  have A10 := Aside0.mk A100
  clear A100
  replace H := Option.bind_eq_some_iff.mp H
  obtain ⟨t323, A110, H⟩ := H
  replace H : (if t323 = true then (some (t313, t314, t315, t316, t317, t318, t319)) else ((impl_null.f).bind fun bt324 => ((impl_valueExp.f bt324.1 bt324.2.1 bt324.2.2).bind fun bt327 => (some (bt327.1, bt327.2.1, bt327.2.2.1, bt327.2.2.2.1, bt327.2.2.2.2.1, bt327.2.2.2.2.2.1, bt327.2.2.2.2.2.2))))) = some (r1, r2, r3, r4, r5, r6, r7) := H
  have A11 := Aside0.mk A110
  clear A110
  by_cases c12 : t323 = true
  ·subst c12
   have H1 : (some (t313, t314, t315, t316, t317, t318, t319)) = some (r1, r2, r3, r4, r5, r6, r7) := by rw [if_pos rfl] at H; exact H
   clear H
   have H := H1
   clear H1
   simp only [Option.some.injEq, Prod.mk.injEq] at H
   obtain ⟨rfl, rfl, rfl, rfl, rfl, rfl, rfl⟩ := H
   go_enter Try.func9, Try.ntmps9
   go_wp2_with (first | ((with_reducible refine gate_dst (N := 2) rfl ?_); refine bx_ 2 #[.int .i64 0, .int .i64 0, .int .i64 0, .int .i64 0, .string (⟨#[]⟩ : ByteArray), .string (⟨#[]⟩ : ByteArray), .slice none 0 0] 28 ?_; intro gb300 hg w13 hbox hb; have BK300 := Aside0.mk (hbox); have GW300 := gw_ hg; have GE300 := gw_ hg; replace HB := bs_ hb; clear hb hbox hg) | ((with_reducible refine gate_callee (f := 37) rfl ?_); refine gsL_ (some 10) Try.func37 #[.slice A0 l0.length c0] ?_; (with_reducible refine (impl_chain.calls k _ _ l0 t313 t314 t315 t316 t317 t318 t319 _ ?side1 ?side2 A10.out).mono ?_); (case side1 => exact ck_ (Kd.C_below HR0.out HB.out)); (case side2 => exact HC0.out); rintro e w14 ⟨v320, rfl, ho0, hb⟩; refine ⟨_, rfl, ?_⟩; have HO321 := Aside0.mk (Kd.S_lower (Kd.S_mono (ok' := fun k_ => (w.heap.size ≤ k_) ∧ k_ ≠ gb300) ho0 (fun k_ hk_ => ⟨(Nat.le_trans (below_size bb_) hk_), (Kd.freshB (g := gb300) (o := .cells #[.int .i64 0, .int .i64 0, .int .i64 0, .int .i64 0, .string (⟨#[]⟩ : ByteArray), .string (⟨#[]⟩ : ByteArray), .slice none 0 0] 28 (0, 0)) (bkx_ BK300.out) k_ hk_)⟩)) (below_size bb_)); replace BK300 := bkb_ BK300 hb; replace HB := bs_ hb; (try clear hb); (try clear hb2); (try clear hk); (try clear hi); (try clear ho0)) | ((with_reducible refine gate_dst (N := 3) rfl ?_); refine bx_ 3 #[.int .i64 0, .int .i64 0, .int .i64 0, .int .i64 0, .string (⟨#[]⟩ : ByteArray), .string (⟨#[]⟩ : ByteArray), .slice none 0 0] 28 ?_; intro gb322 hg w15 hbox hb; have BK322 := Aside0.mk (hbox); have GW322 := gw_ hg; have GE322 := gw_ hg; have NB300_322 := nl_ hg BK300; have NB322_300 := ng_ hg BK300; replace HO321 := Aside0.mk (Kd.S_below (Kd.S_elderB (by (with_reducible repeat (first | apply Kd.S_alloc | apply Kd.S_drewN | apply Kd.S_drew)); exact HO321.out) gb322 (Nat.le_of_eq hg.symm)) hb); replace BK300 := bkb_ BK300 hb; replace HB := bs_ hb; clear hb hbox hg; have hnb16 := NB322_300.out; have hnc16 := NB300_322.out; obtain ⟨hcz17_0, hcz17_1, hcz17_2, hcz17_3, hcz17_4, hcz17_5, hcz17_6, hfz17_0, hfz17_1, hfz17_2, hfz17_3, hfz17_4, hfz17_5, hfz17_6⟩ := b7_ BK322; obtain ⟨Ao18, co18, eo18⟩ := Kd.S_slice HO321.out; subst eo18) | ((with_reducible refine gate_callee (f := 38) rfl ?_); refine gsL_ (some 12) Try.func38 #[.agg #[.int .i64 t313, .int .i64 t314, .int .i64 t315, .int .i64 t316, .string t317, .string t318, .slice Ao18 t319.length co18]] ?_; (with_reducible refine (impl_ExpOk.calls k t313 t314 t315 t316 t317 t318 _ _ t319 true _ ?side1 ?side2 A11.out).mono ?_); (case side1 => refine (Kd.S_reads' (e := 28) (base := w.heap.size) (ok := fun k_ => (((w.heap.size ≤ k_) ∧ k_ ≠ gb300) ∧ k_ ≠ gb322)) (n := t319.length) (c := co18) ?_).2.2; exact (by (with_reducible repeat (first | apply Kd.S_alloc | apply Kd.S_drewN | apply Kd.S_drew)); exact (Kd.S_mono (Kd.S_far (p := ⟨gb322, 6, none⟩) (Kd.S_far (p := ⟨gb322, 5, none⟩) (Kd.S_far (p := ⟨gb322, 4, none⟩) (Kd.S_far (p := ⟨gb322, 3, none⟩) (Kd.S_far (p := ⟨gb322, 2, none⟩) (Kd.S_far (p := ⟨gb322, 1, none⟩) (Kd.S_far (p := ⟨gb322, 0, none⟩) (Kd.S_mono HO321.out (fun k_ hk => (⟨hk, hk.2⟩ : _ ∧ k_ ≠ gb322))) (fun _ hk => hk.2) (.int .i64 t313)) (fun _ hk => hk.2) (.int .i64 t314)) (fun _ hk => hk.2) (.int .i64 t315)) (fun _ hk => hk.2) (.int .i64 t316)) (fun _ hk => hk.2) (.string t317)) (fun _ hk => hk.2) (.string t318)) (fun _ hk => hk.2) (.slice Ao18 t319.length co18)) (fun _ h_ => h_.1)))); (case side2 => exact (Kd.S_reads' HO321.out).2.1); rintro e w19 ⟨rfl, hb⟩; refine ⟨_, rfl, ?_⟩; replace HO321 := Aside0.mk (Kd.S_below (by (with_reducible repeat (first | apply Kd.S_alloc | apply Kd.S_drewN | apply Kd.S_drew)); exact (Kd.S_mono (Kd.S_far (p := ⟨gb322, 6, none⟩) (Kd.S_far (p := ⟨gb322, 5, none⟩) (Kd.S_far (p := ⟨gb322, 4, none⟩) (Kd.S_far (p := ⟨gb322, 3, none⟩) (Kd.S_far (p := ⟨gb322, 2, none⟩) (Kd.S_far (p := ⟨gb322, 1, none⟩) (Kd.S_far (p := ⟨gb322, 0, none⟩) (Kd.S_mono HO321.out (fun k_ hk => (⟨hk, hk.2⟩ : _ ∧ k_ ≠ gb322))) (fun _ hk => hk.2) (.int .i64 t313)) (fun _ hk => hk.2) (.int .i64 t314)) (fun _ hk => hk.2) (.int .i64 t315)) (fun _ hk => hk.2) (.int .i64 t316)) (fun _ hk => hk.2) (.string t317)) (fun _ hk => hk.2) (.string t318)) (fun _ hk => hk.2) (.slice Ao18 t319.length co18)) (fun _ h_ => h_.1))) hb); replace BK300 := Aside0.mk (blk_below (g := gb300) (o := .cells #[.int .i64 0, .int .i64 0, .int .i64 0, .int .i64 0, .string (⟨#[]⟩ : ByteArray), .string (⟨#[]⟩ : ByteArray), .slice none 0 0] 28 (0, 0)) (bf7_ NB300_322 (bkx_ BK300.out)) hb); replace BK322 := Aside0.mk (blk_below (g := gb322) (o := .cells #[.int .i64 t313, .int .i64 t314, .int .i64 t315, .int .i64 t316, .string t317, .string t318, .slice Ao18 t319.length co18] 28 (0, 0)) (bp7_ (bkx_ BK322.out)) hb); replace HB := bs_ hb; (try clear hb); (try clear hb2); (try clear hk); (try clear hi); obtain ⟨hcz20_0, hcz20_1, hcz20_2, hcz20_3, hcz20_4, hcz20_5, hcz20_6, hfz20_0, hfz20_1, hfz20_2, hfz20_3, hfz20_4, hfz20_5, hfz20_6⟩ := b7_ BK322; obtain ⟨hcz21_0, hcz21_1, hcz21_2, hcz21_3, hcz21_4, hcz21_5, hcz21_6, hfz21_0, hfz21_1, hfz21_2, hfz21_3, hfz21_4, hfz21_5, hfz21_6⟩ := b7_ BK300))
   refine bodyPost_ret (results_cell_row rfl _ _ gb300 28 #[.int .i64 t313, .int .i64 t314, .int .i64 t315, .int .i64 t316, .string t317, .string t318, .slice Ao18 t319.length co18] (0, 0) _ rfl (bp7_ (bkx_ BK300.out)) Try.underlying28 rfl (by kernel_rfl)) rfl ?_
   exact ⟨_, by first | rfl | (simp [errW_none, errW_some] <;> rfl) | (simp [*, errW_none, errW_some] <;> rfl), by (with_reducible repeat (first | apply Kd.S_alloc | apply Kd.S_drewN | apply Kd.S_drew)); exact Kd.S_mono (Kd.S_far (p := ⟨gb300, 6, none⟩) (Kd.S_far (p := ⟨gb300, 5, none⟩) (Kd.S_far (p := ⟨gb300, 4, none⟩) (Kd.S_far (p := ⟨gb300, 3, none⟩) (Kd.S_far (p := ⟨gb300, 2, none⟩) (Kd.S_far (p := ⟨gb300, 1, none⟩) (Kd.S_far (p := ⟨gb300, 0, none⟩) (Kd.S_mono HO321.out (fun k_ hk => (⟨hk, hk.1.2⟩ : _ ∧ k_ ≠ gb300))) (fun _ hk => hk.2) (.int .i64 t313)) (fun _ hk => hk.2) (.int .i64 t314)) (fun _ hk => hk.2) (.int .i64 t315)) (fun _ hk => hk.2) (.int .i64 t316)) (fun _ hk => hk.2) (.string t317)) (fun _ hk => hk.2) (.string t318)) (fun _ hk => hk.2) (.slice Ao18 t319.length co18)) (fun _ hk => hk.1.1.1), by repeat (first | (with_reducible first | exact HB.out | apply below_alloc | apply pw_below_drewN | apply below_drew1 | refine below_set ?_ GE300.out | refine below_set ?_ GE322.out) | exact HB.out)⟩
  ·replace c12 := Bool.eq_false_iff.mpr c12
   subst c12
   have H1 : ((impl_null.f).bind fun bt324 => ((impl_valueExp.f bt324.1 bt324.2.1 bt324.2.2).bind fun bt327 => (some (bt327.1, bt327.2.1, bt327.2.2.1, bt327.2.2.2.1, bt327.2.2.2.2.1, bt327.2.2.2.2.2.1, bt327.2.2.2.2.2.2)))) = some (r1, r2, r3, r4, r5, r6, r7) := by rw [if_neg (show ¬ (false = true) by decide)] at H; exact H
   clear H
   have H := H1
   clear H1
   replace H := Option.bind_eq_some_iff.mp H
   obtain ⟨⟨t324, t325, t326⟩, A220, H⟩ := H
   replace H : ((impl_valueExp.f t324 t325 t326).bind fun bt327 => (some (bt327.1, bt327.2.1, bt327.2.2.1, bt327.2.2.2.1, bt327.2.2.2.2.1, bt327.2.2.2.2.2.1, bt327.2.2.2.2.2.2))) = some (r1, r2, r3, r4, r5, r6, r7) := H
   have A22 := Aside0.mk A220
   clear A220
   replace H := Option.bind_eq_some_iff.mp H
   obtain ⟨⟨t327, t328, t329, t330, t331, t332, t333⟩, A230, H⟩ := H
   replace H : (some (t327, t328, t329, t330, t331, t332, t333)) = some (r1, r2, r3, r4, r5, r6, r7) := H
   have A23 := Aside0.mk A230
   clear A230
   simp only [Option.some.injEq, Prod.mk.injEq] at H
   obtain ⟨rfl, rfl, rfl, rfl, rfl, rfl, rfl⟩ := H
   go_enter Try.func9, Try.ntmps9
   go_wp2_with (first | ((with_reducible refine gate_dst (N := 2) rfl ?_); refine bx_ 2 #[.int .i64 0, .int .i64 0, .int .i64 0, .int .i64 0, .string (⟨#[]⟩ : ByteArray), .string (⟨#[]⟩ : ByteArray), .slice none 0 0] 28 ?_; intro gb300 hg w24 hbox hb; have BK300 := Aside0.mk (hbox); have GW300 := gw_ hg; have GE300 := gw_ hg; replace HB := bs_ hb; clear hb hbox hg) | ((with_reducible refine gate_callee (f := 37) rfl ?_); refine gsL_ (some 10) Try.func37 #[.slice A0 l0.length c0] ?_; (with_reducible refine (impl_chain.calls k _ _ l0 t313 t314 t315 t316 t317 t318 t319 _ ?side1 ?side2 A10.out).mono ?_); (case side1 => exact ck_ (Kd.C_below HR0.out HB.out)); (case side2 => exact HC0.out); rintro e w25 ⟨v320, rfl, ho0, hb⟩; refine ⟨_, rfl, ?_⟩; have HO321 := Aside0.mk (Kd.S_lower (Kd.S_mono (ok' := fun k_ => (w.heap.size ≤ k_) ∧ k_ ≠ gb300) ho0 (fun k_ hk_ => ⟨(Nat.le_trans (below_size bb_) hk_), (Kd.freshB (g := gb300) (o := .cells #[.int .i64 0, .int .i64 0, .int .i64 0, .int .i64 0, .string (⟨#[]⟩ : ByteArray), .string (⟨#[]⟩ : ByteArray), .slice none 0 0] 28 (0, 0)) (bkx_ BK300.out) k_ hk_)⟩)) (below_size bb_)); replace BK300 := bkb_ BK300 hb; replace HB := bs_ hb; (try clear hb); (try clear hb2); (try clear hk); (try clear hi); (try clear ho0)) | ((with_reducible refine gate_dst (N := 3) rfl ?_); refine bx_ 3 #[.int .i64 0, .int .i64 0, .int .i64 0, .int .i64 0, .string (⟨#[]⟩ : ByteArray), .string (⟨#[]⟩ : ByteArray), .slice none 0 0] 28 ?_; intro gb322 hg w26 hbox hb; have BK322 := Aside0.mk (hbox); have GW322 := gw_ hg; have GE322 := gw_ hg; have NB300_322 := nl_ hg BK300; have NB322_300 := ng_ hg BK300; replace HO321 := Aside0.mk (Kd.S_below (Kd.S_elderB (by (with_reducible repeat (first | apply Kd.S_alloc | apply Kd.S_drewN | apply Kd.S_drew)); exact HO321.out) gb322 (Nat.le_of_eq hg.symm)) hb); replace BK300 := bkb_ BK300 hb; replace HB := bs_ hb; clear hb hbox hg; have hnb27 := NB322_300.out; have hnc27 := NB300_322.out; obtain ⟨hcz28_0, hcz28_1, hcz28_2, hcz28_3, hcz28_4, hcz28_5, hcz28_6, hfz28_0, hfz28_1, hfz28_2, hfz28_3, hfz28_4, hfz28_5, hfz28_6⟩ := b7_ BK322; obtain ⟨Ao29, co29, eo29⟩ := Kd.S_slice HO321.out; subst eo29) | ((with_reducible refine gate_callee (f := 38) rfl ?_); refine gsL_ (some 12) Try.func38 #[.agg #[.int .i64 t313, .int .i64 t314, .int .i64 t315, .int .i64 t316, .string t317, .string t318, .slice Ao29 t319.length co29]] ?_; (with_reducible refine (impl_ExpOk.calls k t313 t314 t315 t316 t317 t318 _ _ t319 false _ ?side1 ?side2 A11.out).mono ?_); (case side1 => refine (Kd.S_reads' (e := 28) (base := w.heap.size) (ok := fun k_ => (((w.heap.size ≤ k_) ∧ k_ ≠ gb300) ∧ k_ ≠ gb322)) (n := t319.length) (c := co29) ?_).2.2; exact (by (with_reducible repeat (first | apply Kd.S_alloc | apply Kd.S_drewN | apply Kd.S_drew)); exact (Kd.S_mono (Kd.S_far (p := ⟨gb322, 6, none⟩) (Kd.S_far (p := ⟨gb322, 5, none⟩) (Kd.S_far (p := ⟨gb322, 4, none⟩) (Kd.S_far (p := ⟨gb322, 3, none⟩) (Kd.S_far (p := ⟨gb322, 2, none⟩) (Kd.S_far (p := ⟨gb322, 1, none⟩) (Kd.S_far (p := ⟨gb322, 0, none⟩) (Kd.S_mono HO321.out (fun k_ hk => (⟨hk, hk.2⟩ : _ ∧ k_ ≠ gb322))) (fun _ hk => hk.2) (.int .i64 t313)) (fun _ hk => hk.2) (.int .i64 t314)) (fun _ hk => hk.2) (.int .i64 t315)) (fun _ hk => hk.2) (.int .i64 t316)) (fun _ hk => hk.2) (.string t317)) (fun _ hk => hk.2) (.string t318)) (fun _ hk => hk.2) (.slice Ao29 t319.length co29)) (fun _ h_ => h_.1)))); (case side2 => exact (Kd.S_reads' HO321.out).2.1); rintro e w30 ⟨rfl, hb⟩; refine ⟨_, rfl, ?_⟩; replace HO321 := Aside0.mk (Kd.S_below (by (with_reducible repeat (first | apply Kd.S_alloc | apply Kd.S_drewN | apply Kd.S_drew)); exact (Kd.S_mono (Kd.S_far (p := ⟨gb322, 6, none⟩) (Kd.S_far (p := ⟨gb322, 5, none⟩) (Kd.S_far (p := ⟨gb322, 4, none⟩) (Kd.S_far (p := ⟨gb322, 3, none⟩) (Kd.S_far (p := ⟨gb322, 2, none⟩) (Kd.S_far (p := ⟨gb322, 1, none⟩) (Kd.S_far (p := ⟨gb322, 0, none⟩) (Kd.S_mono HO321.out (fun k_ hk => (⟨hk, hk.2⟩ : _ ∧ k_ ≠ gb322))) (fun _ hk => hk.2) (.int .i64 t313)) (fun _ hk => hk.2) (.int .i64 t314)) (fun _ hk => hk.2) (.int .i64 t315)) (fun _ hk => hk.2) (.int .i64 t316)) (fun _ hk => hk.2) (.string t317)) (fun _ hk => hk.2) (.string t318)) (fun _ hk => hk.2) (.slice Ao29 t319.length co29)) (fun _ h_ => h_.1))) hb); replace BK300 := Aside0.mk (blk_below (g := gb300) (o := .cells #[.int .i64 0, .int .i64 0, .int .i64 0, .int .i64 0, .string (⟨#[]⟩ : ByteArray), .string (⟨#[]⟩ : ByteArray), .slice none 0 0] 28 (0, 0)) (bf7_ NB300_322 (bkx_ BK300.out)) hb); replace BK322 := Aside0.mk (blk_below (g := gb322) (o := .cells #[.int .i64 t313, .int .i64 t314, .int .i64 t315, .int .i64 t316, .string t317, .string t318, .slice Ao29 t319.length co29] 28 (0, 0)) (bp7_ (bkx_ BK322.out)) hb); replace HB := bs_ hb; (try clear hb); (try clear hb2); (try clear hk); (try clear hi)) | ((with_reducible refine gate_callee (f := 36) rfl ?_); refine gsL_ (some 14) Try.func36 #[] ?_; (with_reducible refine (impl_null.calls  t324 t325 t326 _ A22.out).mono ?_); rintro e w31 ⟨rfl, hb⟩; refine ⟨_, rfl, ?_⟩; replace HO321 := Aside0.mk (Kd.S_below (by (with_reducible repeat (first | apply Kd.S_alloc | apply Kd.S_drewN | apply Kd.S_drew)); exact HO321.out) hb); replace BK300 := bkb_ BK300 hb; replace BK322 := bkb_ BK322 hb; replace HB := bs_ hb; (try clear hb); (try clear hb2); (try clear hk); (try clear hi)) | ((with_reducible refine gate_callee (f := 35) rfl ?_); refine gsL_ (some 15) Try.func35 #[.agg #[.int .i64 t324, .int .i64 t325, .string t326]] ?_; (with_reducible refine (impl_valueExp.calls t324 t325 t326 t327 t328 t329 t330 t331 t332 t333 _ A23.out).mono ?_); rintro e w32 ⟨v334, rfl, ho0, hb⟩; refine ⟨_, rfl, ?_⟩; have HO335 := Aside0.mk (Kd.S_lower (Kd.S_mono (ok' := fun k_ => (w.heap.size ≤ k_) ∧ some k_ ≠ (.slice Ao29 t319.length co29 : Value).ownBlock ∧ k_ ≠ gb300 ∧ k_ ≠ gb322) (Kd.S_bound ho0) (fun k_ hk_ => ⟨(Nat.le_trans (below_size bb_) hk_.2.1), (Kd.fresh' (Kd.S_lt (by (with_reducible repeat (first | apply Kd.S_alloc | apply Kd.S_drewN | apply Kd.S_drew)); exact HO321.out)) k_ hk_.2.1), (Kd.freshB (g := gb300) (o := .cells #[.int .i64 0, .int .i64 0, .int .i64 0, .int .i64 0, .string (⟨#[]⟩ : ByteArray), .string (⟨#[]⟩ : ByteArray), .slice none 0 0] 28 (0, 0)) (bkx_ BK300.out) k_ hk_.2.1), (Kd.freshB (g := gb322) (o := .cells #[.int .i64 t313, .int .i64 t314, .int .i64 t315, .int .i64 t316, .string t317, .string t318, .slice Ao29 t319.length co29] 28 (0, 0)) (bkx_ BK322.out) k_ hk_.2.1)⟩)) (below_size bb_)); replace HO321 := Aside0.mk (Kd.S_elder' (by (with_reducible repeat (first | apply Kd.S_alloc | apply Kd.S_drewN | apply Kd.S_drew)); exact HO321.out) (Kd.S_base ho0) hb); replace BK300 := bkb_ BK300 hb; replace BK322 := bkb_ BK322 hb; replace HB := bs_ hb; (try clear hb); (try clear hb2); (try clear hk); (try clear hi); (try clear ho0); obtain ⟨hcz33_0, hcz33_1, hcz33_2, hcz33_3, hcz33_4, hcz33_5, hcz33_6, hfz33_0, hfz33_1, hfz33_2, hfz33_3, hfz33_4, hfz33_5, hfz33_6⟩ := b7_ BK300; obtain ⟨Ao34, co34, eo34⟩ := Kd.S_slice HO335.out; subst eo34))
   refine bodyPost_ret (results_cell_row rfl _ _ gb300 28 #[.int .i64 t327, .int .i64 t328, .int .i64 t329, .int .i64 t330, .string t331, .string t332, .slice Ao34 t333.length co34] (0, 0) _ rfl (bp7_ (bkx_ BK300.out)) Try.underlying28 rfl (by kernel_rfl)) rfl ?_
   exact ⟨_, by first | rfl | (simp [errW_none, errW_some] <;> rfl) | (simp [*, errW_none, errW_some] <;> rfl), by (with_reducible repeat (first | apply Kd.S_alloc | apply Kd.S_drewN | apply Kd.S_drew)); exact Kd.S_mono (Kd.S_far (p := ⟨gb300, 6, none⟩) (Kd.S_far (p := ⟨gb300, 5, none⟩) (Kd.S_far (p := ⟨gb300, 4, none⟩) (Kd.S_far (p := ⟨gb300, 3, none⟩) (Kd.S_far (p := ⟨gb300, 2, none⟩) (Kd.S_far (p := ⟨gb300, 1, none⟩) (Kd.S_far (p := ⟨gb300, 0, none⟩) (Kd.S_mono HO335.out (fun k_ hk => (⟨hk, hk.2.2.1⟩ : _ ∧ k_ ≠ gb300))) (fun _ hk => hk.2) (.int .i64 t327)) (fun _ hk => hk.2) (.int .i64 t328)) (fun _ hk => hk.2) (.int .i64 t329)) (fun _ hk => hk.2) (.int .i64 t330)) (fun _ hk => hk.2) (.string t331)) (fun _ hk => hk.2) (.string t332)) (fun _ hk => hk.2) (.slice Ao34 t333.length co34)) (fun _ hk => hk.1.1), by repeat (first | (with_reducible first | exact HB.out | apply below_alloc | apply pw_below_drewN | apply below_drew1 | refine below_set ?_ GE300.out | refine below_set ?_ GE322.out) | exact HB.out)⟩

/-! ### laws_eqExpS: function 11 -/
def laws_eqExpS.l0 (E_ : Int → Int → Int → Int → ByteArray → ByteArray → (List (S28)) → Int → Int → Int → Int → ByteArray → ByteArray → (List (S28)) → Option (Bool)) : Nat → List (S28) → List (S28) → Int → Option (Bool)
 | 0, _, _, _ => none
 | k + 1, x0, x1, x5 => if x5 < (x0.length : Int) then (if 0 ≤ x5 then (if x5 < (x1.length : Int) then ((E_ ((rd_T28 x0 x5).f0) ((rd_T28 x0 x5).f1) ((rd_T28 x0 x5).f2.f0) ((rd_T28 x0 x5).f2.f1) ((rd_T28 x0 x5).f2.f2) ((rd_T28 x0 x5).f3) ((rd_T28 x0 x5).f4) ((rd_T28 x1 x5).f0) ((rd_T28 x1 x5).f1) ((rd_T28 x1 x5).f2.f0) ((rd_T28 x1 x5).f2.f1) ((rd_T28 x1 x5).f2.f2) ((rd_T28 x1 x5).f3) ((rd_T28 x1 x5).f4)).bind fun t338 => (if t338 = true then (laws_eqExpS.l0 E_ k x0 x1 (wrap64 (x5 + 1))) else (some false))) else (none)) else (none)) else (some true)
def laws_eqExpS.f (E_ : Int → Int → Int → Int → ByteArray → ByteArray → (List (S28)) → Int → Int → Int → Int → ByteArray → ByteArray → (List (S28)) → Option (Bool)) (k : Nat) (l0 : List (S28)) (l1 : List (S28)) : Option (Bool) := if (l0.length : Int) = (l1.length : Int) then (laws_eqExpS.l0 E_ k l0 l1 0) else (some false)
def laws_eqExpS.T6 : Bool × List (List Nat × List Nat) := (true, [([], []), ([], []), ([0, 1], [0, 1]), ([2], [2]), ([], []), ([], []), ([4, 5], [4, 5]), ([6], [6]), ([3, 7], [3, 7]), ([8], [8])])
def laws_eqExpS.B6 : List Nat := [0, 0, 3, 7, 0, 0, 48, 112, 255, 511]
theorem laws_eqExpS.tab6 : rtab .any (opsOf Try.f11 6) = laws_eqExpS.T6 := by kernel_rfl
theorem laws_eqExpS.bits6 : waitsOk laws_eqExpS.T6.2 laws_eqExpS.B6 = true := by kernel_rfl
set_option maxHeartbeats 8000000 in
set_option maxRecDepth 100000 in
theorem laws_eqExpS.calls (E_ : Int → Int → Int → Int → ByteArray → ByteArray → (List (S28)) → Int → Int → Int → Int → ByteArray → ByteArray → (List (S28)) → Option (Bool)) (hE_ : ∀ (a0_0 : Int) (a0_1 : Int) (a0_2 : Int) (a0_3 : Int) (a0_4 : ByteArray) (a0_5 : ByteArray) (A0_6 : Option Addr) (c0_6 : Nat) (l0_6 : List (S28)) (a1_0 : Int) (a1_1 : Int) (a1_2 : Int) (a1_3 : Int) (a1_4 : ByteArray) (a1_5 : ByteArray) (A1_6 : Option Addr) (c1_6 : Nat) (l1_6 : List (S28)) (r : Bool) (w : World) (hr0_6 : Kd.C k28 w A0_6 l0_6.length l0_6) (hc0_6 : l0_6.length ≤ c0_6) (hr1_6 : Kd.C k28 w A1_6 l1_6.length l1_6) (hc1_6 : l1_6.length ≤ c1_6) (h : E_ a0_0 a0_1 a0_2 a0_3 a0_4 a0_5 l0_6 a1_0 a1_1 a1_2 a1_3 a1_4 a1_5 l1_6 = some r), Calls Try.prog 10 #[.agg #[.int .i64 a0_0, .int .i64 a0_1, .int .i64 a0_2, .int .i64 a0_3, .string a0_4, .string a0_5, .slice A0_6 l0_6.length c0_6], .agg #[.int .i64 a1_0, .int .i64 a1_1, .int .i64 a1_2, .int .i64 a1_3, .string a1_4, .string a1_5, .slice A1_6 l1_6.length c1_6]] w fun e w' => e = .returned (.bool r) ∧ Below w.heap.size w w') (k : Nat) (A0 : Option Addr) (c0 : Nat) (l0 : List (S28)) (A1 : Option Addr) (c1 : Nat) (l1 : List (S28)) (r : Bool) (w : World) (hr0 : Kd.C k28 w A0 l0.length l0) (hc0 : l0.length ≤ c0) (hr1 : Kd.C k28 w A1 l1.length l1) (hc1 : l1.length ≤ c1) (h : laws_eqExpS.f E_ k l0 l1 = some r) :
  Calls Try.prog 11 #[.slice A0 l0.length c0, .slice A1 l1.length c1] w fun e w' => e = .returned (.bool r) ∧ Below w.heap.size w w' := by
 have hu28 := Try.underlying28
 have HR0 := Aside0.mk hr0
 have HC0 := Aside0.mk hc0
 clear hr0 hc0
 have HR1 := Aside0.mk hr1
 have HC1 := Aside0.mk hc1
 clear hr1 hc1
 have HB := Aside0.mk (Below.refl w.heap.size w)
 have H : (if (l0.length : Int) = (l1.length : Int) then (laws_eqExpS.l0 E_ k l0 l1 0) else (some false)) = some r := h
 clear h
 by_cases c3 : (l0.length : Int) = (l1.length : Int)
 ·rw [if_pos c3] at H
  have c3b0 : ((l0.length : Int) == (l1.length : Int)) = true := beq_iff_eq.mpr c3
  have c3b1 : ((l0.length : Int) != (l1.length : Int)) = false := bne_eq_false_iff_eq.mpr c3
  have c3b2 : (l0.length == l1.length) = true := by first | simpa using c3 | (simp at c3 ⊢; omega)
  clear c3
  have H' := Aside0.mk H
  clear H
  go_enter Try.func11, Try.ntmps11
  go_wp2
  go_loopg [5] k (fun kq v5 w' => ∃ (x5_1 : Int), v5 = .int .i64 x5_1 ∧ Aside0 (laws_eqExpS.l0 E_ kq l0 l1 x5_1 = some r) ∧ Aside0 (kq ≤ k) ∧ Aside0 (Below w.heap.size w w'))
  case atStart => exact ⟨(0), rs_, H', ⟨Nat.le_refl _⟩, ⟨bb_⟩⟩
  case round =>
   clear H'
   try clear c1
   try clear p2
   try clear c3
   try clear c3b0
   try clear c3b1
   try clear c3b2
   obtain ⟨x5_1, rfl, HA, HK1, HB⟩ := hrel
   cases gk with
   | zero => exact absurd HA.out (by simp [laws_eqExpS.l0])
   | succ k1 =>
    have H := HA.out
    clear HA
    simp only [laws_eqExpS.l0] at H
    by_cases c4 : x5_1 < (l0.length : Int)
    ·rw [if_pos c4] at H
     have c4b0 : decide (x5_1 < (l0.length : Int)) = true := decide_eq_true c4
     clear c4
     by_cases c5 : 0 ≤ x5_1
     ·rw [if_pos c5] at H
      have c5b0 : decide (0 ≤ x5_1) = true := decide_eq_true c5
      clear c5
      by_cases c6 : x5_1 < (l1.length : Int)
      ·rw [if_pos c6] at H
       have c6b0 : decide (x5_1 < (l1.length : Int)) = true := decide_eq_true c6
       clear c6
       replace H := Option.bind_eq_some_iff.mp H
       obtain ⟨t338, A70, H⟩ := H
       replace H : (if t338 = true then (laws_eqExpS.l0 E_ k1 l0 l1 (wrap64 (x5_1 + 1))) else (some false)) = some r := H
       have A7 := Aside0.mk A70
       clear A70
       by_cases c8 : t338 = true
       ·subst c8
        have H1 : (laws_eqExpS.l0 E_ k1 l0 l1 (wrap64 (x5_1 + 1))) = some r := by rw [if_pos rfl] at H; exact H
        clear H
        have H := H1
        clear H1
        have H' := Aside0.mk H
        clear H
        try go_wp2
        replace HB := Aside0.mk (below_drew1 HB.out)
        have p336 : 0 ≤ (x5_1 : Int) := of_decide_eq_true (by first | (with_reducible assumption) | assumption)
        have q336 : x5_1 < (l0.length : Int) := of_decide_eq_true (by first | (with_reducible assumption) | assumption)
        obtain ⟨ad336, A336_6, c336_6, e336, hx336_0, hx336_1, hx336_2, hx336_3, hx336_4, hx336_5, hx336_6, hl336_6, hi336_6⟩ := at_T28 HR0.out x5_1 p336 q336
        have hw336_6 := hx336_6
        have hw336_5 := hx336_5
        have hw336_4 := hx336_4
        have hw336_3 := hx336_3
        have hw336_2 := hx336_2
        have hw336_1 := hx336_1
        have hw336_0 := hx336_0
        cases e336
        replace hx336_0 := hb_ HB hx336_0
        replace hx336_1 := hb_ HB hx336_1
        replace hx336_2 := hb_ HB hx336_2
        replace hx336_3 := hb_ HB hx336_3
        replace hx336_4 := hb_ HB hx336_4
        replace hx336_5 := hb_ HB hx336_5
        replace hx336_6 := hb_ HB hx336_6
        have HR336_6 := Aside0.mk hi336_6
        have HC336_6 := Aside0.mk hl336_6
        clear hi336_6 hl336_6
        replace p336 := eq_true p336
        replace q336 := eq_true q336
        have p337 : 0 ≤ (x5_1 : Int) := of_decide_eq_true (by first | (with_reducible assumption) | assumption)
        have q337 : x5_1 < (l1.length : Int) := of_decide_eq_true (by first | (with_reducible assumption) | assumption)
        obtain ⟨ad337, A337_6, c337_6, e337, hx337_0, hx337_1, hx337_2, hx337_3, hx337_4, hx337_5, hx337_6, hl337_6, hi337_6⟩ := at_T28 HR1.out x5_1 p337 q337
        have hw337_6 := hx337_6
        have hw337_5 := hx337_5
        have hw337_4 := hx337_4
        have hw337_3 := hx337_3
        have hw337_2 := hx337_2
        have hw337_1 := hx337_1
        have hw337_0 := hx337_0
        cases e337
        replace hx337_0 := hb_ HB hx337_0
        replace hx337_1 := hb_ HB hx337_1
        replace hx337_2 := hb_ HB hx337_2
        replace hx337_3 := hb_ HB hx337_3
        replace hx337_4 := hb_ HB hx337_4
        replace hx337_5 := hb_ HB hx337_5
        replace hx337_6 := hb_ HB hx337_6
        have HR337_6 := Aside0.mk hi337_6
        have HC337_6 := Aside0.mk hl337_6
        clear hi337_6 hl337_6
        replace p337 := eq_true p337
        replace q337 := eq_true q337
        refine start_ (n := 10) (S := fun w' => w'.cell? (ad336.add ((x5_1).toNat * 7)) = some (.int .i64 ((rd_T28 l0 x5_1).f0)) ∧ w'.cell? ⟨(ad336.add ((x5_1).toNat * 7)).block, (ad336.add ((x5_1).toNat * 7)).off + 1, none⟩ = some (.int .i64 ((rd_T28 l0 x5_1).f1)) ∧ w'.cell? ⟨(ad336.add ((x5_1).toNat * 7)).block, (ad336.add ((x5_1).toNat * 7)).off + 2, none⟩ = some (.int .i64 ((rd_T28 l0 x5_1).f2.f0)) ∧ w'.cell? ⟨(ad336.add ((x5_1).toNat * 7)).block, (ad336.add ((x5_1).toNat * 7)).off + 3, none⟩ = some (.int .i64 ((rd_T28 l0 x5_1).f2.f1)) ∧ w'.cell? ⟨(ad336.add ((x5_1).toNat * 7)).block, (ad336.add ((x5_1).toNat * 7)).off + 4, none⟩ = some (.string ((rd_T28 l0 x5_1).f2.f2)) ∧ w'.cell? ⟨(ad336.add ((x5_1).toNat * 7)).block, (ad336.add ((x5_1).toNat * 7)).off + 5, none⟩ = some (.string ((rd_T28 l0 x5_1).f3)) ∧ w'.cell? ⟨(ad336.add ((x5_1).toNat * 7)).block, (ad336.add ((x5_1).toNat * 7)).off + 6, none⟩ = some (.slice A336_6 ((rd_T28 l0 x5_1).f4).length c336_6) ∧ w'.cell? (ad337.add ((x5_1).toNat * 7)) = some (.int .i64 ((rd_T28 l1 x5_1).f0)) ∧ w'.cell? ⟨(ad337.add ((x5_1).toNat * 7)).block, (ad337.add ((x5_1).toNat * 7)).off + 1, none⟩ = some (.int .i64 ((rd_T28 l1 x5_1).f1)) ∧ w'.cell? ⟨(ad337.add ((x5_1).toNat * 7)).block, (ad337.add ((x5_1).toNat * 7)).off + 2, none⟩ = some (.int .i64 ((rd_T28 l1 x5_1).f2.f0)) ∧ w'.cell? ⟨(ad337.add ((x5_1).toNat * 7)).block, (ad337.add ((x5_1).toNat * 7)).off + 3, none⟩ = some (.int .i64 ((rd_T28 l1 x5_1).f2.f1)) ∧ w'.cell? ⟨(ad337.add ((x5_1).toNat * 7)).block, (ad337.add ((x5_1).toNat * 7)).off + 4, none⟩ = some (.string ((rd_T28 l1 x5_1).f2.f2)) ∧ w'.cell? ⟨(ad337.add ((x5_1).toNat * 7)).block, (ad337.add ((x5_1).toNat * 7)).off + 5, none⟩ = some (.string ((rd_T28 l1 x5_1).f3)) ∧ w'.cell? ⟨(ad337.add ((x5_1).toNat * 7)).block, (ad337.add ((x5_1).toNat * 7)).off + 6, none⟩ = some (.slice A337_6 ((rd_T28 l1 x5_1).f4).length c337_6)) (ds := []) (tf 0 10) (by kernel_rfl) rfl rfl ⟨(hb_ HB hw336_0), (hb_ HB hw336_1), (hb_ HB hw336_2), (hb_ HB hw336_3), (hb_ HB hw336_4), (hb_ HB hw336_5), (hb_ HB hw336_6), (hb_ HB hw337_0), (hb_ HB hw337_1), (hb_ HB hw337_2), (hb_ HB hw337_3), (hb_ HB hw337_4), (hb_ HB hw337_5), (hb_ HB hw337_6)⟩ (fun hHeld => ?_); refine with_tabW laws_eqExpS.tab6 laws_eqExpS.bits6 (fun HT_ HW_ => ?_)
        generalize wr.drew = w9 at HB HR336_6 HR337_6 hx336_0 hx336_1 hx336_2 hx336_3 hx336_4 hx336_5 hx336_6 hx337_0 hx337_1 hx337_2 hx337_3 hx337_4 hx337_5 hx337_6 hHeld ⊢
        iterate 3 (refine pl_ ?_)
        refine plx_ 4 #[true, true, true, false, true, false, false, false, false, false] ?_
        refine plx_ 5 #[true, true, true, false, true, true, false, false, false, false] ?_
        refine plx_ 6 #[true, true, true, false, true, true, true, false, false, false] ?_
        refine tlx_ 3 (tf 7 3) ?_
        refine tl_ ?_
        refine one_ (i := 8) (N := some 25) (tf 9 1) rfl rfl (one_of HT_.out (by kernel_rfl)) (by decide) (fun K hK => ?_)
        refine gs_ Try.func10 #[.agg #[.int .i64 ((rd_T28 l0 x5_1).f0), .int .i64 ((rd_T28 l0 x5_1).f1), .int .i64 ((rd_T28 l0 x5_1).f2.f0), .int .i64 ((rd_T28 l0 x5_1).f2.f1), .string ((rd_T28 l0 x5_1).f2.f2), .string ((rd_T28 l0 x5_1).f3), .slice A336_6 ((rd_T28 l0 x5_1).f4).length c336_6], .agg #[.int .i64 ((rd_T28 l1 x5_1).f0), .int .i64 ((rd_T28 l1 x5_1).f1), .int .i64 ((rd_T28 l1 x5_1).f2.f0), .int .i64 ((rd_T28 l1 x5_1).f2.f1), .string ((rd_T28 l1 x5_1).f2.f2), .string ((rd_T28 l1 x5_1).f3), .slice A337_6 ((rd_T28 l1 x5_1).f4).length c337_6]] ?_
        with_reducible refine (hE_ ((rd_T28 l0 x5_1).f0) ((rd_T28 l0 x5_1).f1) ((rd_T28 l0 x5_1).f2.f0) ((rd_T28 l0 x5_1).f2.f1) ((rd_T28 l0 x5_1).f2.f2) ((rd_T28 l0 x5_1).f3) _ _ ((rd_T28 l0 x5_1).f4) ((rd_T28 l1 x5_1).f0) ((rd_T28 l1 x5_1).f1) ((rd_T28 l1 x5_1).f2.f0) ((rd_T28 l1 x5_1).f2.f1) ((rd_T28 l1 x5_1).f2.f2) ((rd_T28 l1 x5_1).f3) _ _ ((rd_T28 l1 x5_1).f4) true _ ?side1 ?side2 ?side3 ?side4 A7.out).mono ?_
        (case side1 => exact ck_ (Kd.C_below HR336_6.out HB.out))
        (case side2 => exact HC336_6.out)
        (case side3 => exact ck_ (Kd.C_below HR337_6.out HB.out))
        (case side4 => exact HC337_6.out)
        rintro e w10 ⟨rfl, hb⟩
        refine ⟨_, rfl, ?_⟩
        replace HB := bs_ hb
        (try clear hb)
        (try clear hb2)
        (try clear hk)
        (try clear hi)
        refine hK.out _ _ ⟨(have h_ := hb_ HB hw336_0; h_), (have h_ := hb_ HB hw336_1; h_), (have h_ := hb_ HB hw336_2; h_), (have h_ := hb_ HB hw336_3; h_), (have h_ := hb_ HB hw336_4; h_), (have h_ := hb_ HB hw336_5; h_), (have h_ := hb_ HB hw336_6; h_), (have h_ := hb_ HB hw337_0; h_), (have h_ := hb_ HB hw337_1; h_), (have h_ := hb_ HB hw337_2; h_), (have h_ := hb_ HB hw337_3; h_), (have h_ := hb_ HB hw337_4; h_), (have h_ := hb_ HB hw337_5; h_), (have h_ := hb_ HB hw337_6; h_)⟩ (fun hHeld => ?_)
        clear hK K
        refine nm_ ?_
        refine plx_ 9 (tf 10 0) ?_
        refine done_ (done_of HT_.out (by kernel_rfl)) ?_
        try go_wp2
        go_roundg k1
        case measure => have := HK1.out; omega
        case rel => exact ⟨(wrap64 (x5_1 + 1)), rs_, H', ⟨by have := HK1.out; omega⟩, ⟨bb_⟩⟩
       ·replace c8 := Bool.eq_false_iff.mpr c8
        subst c8
        have H1 : (some false) = some r := by rw [if_neg (show ¬ (false = true) by decide)] at H; exact H
        clear H
        have H := H1
        clear H1
        obtain rfl := Option.some.inj H
        try go_wp2
        replace HB := Aside0.mk (below_drew1 HB.out)
        have p336 : 0 ≤ (x5_1 : Int) := of_decide_eq_true (by first | (with_reducible assumption) | assumption)
        have q336 : x5_1 < (l0.length : Int) := of_decide_eq_true (by first | (with_reducible assumption) | assumption)
        obtain ⟨ad336, A336_6, c336_6, e336, hx336_0, hx336_1, hx336_2, hx336_3, hx336_4, hx336_5, hx336_6, hl336_6, hi336_6⟩ := at_T28 HR0.out x5_1 p336 q336
        have hw336_6 := hx336_6
        have hw336_5 := hx336_5
        have hw336_4 := hx336_4
        have hw336_3 := hx336_3
        have hw336_2 := hx336_2
        have hw336_1 := hx336_1
        have hw336_0 := hx336_0
        cases e336
        (try (have ea_ := Option.some.inj (hx336_6.symm.trans hw336_6); injection ea_ with ea_ en_ ec_; subst ea_; subst ec_; clear en_))
        replace hx336_0 := hb_ HB hx336_0
        replace hx336_1 := hb_ HB hx336_1
        replace hx336_2 := hb_ HB hx336_2
        replace hx336_3 := hb_ HB hx336_3
        replace hx336_4 := hb_ HB hx336_4
        replace hx336_5 := hb_ HB hx336_5
        replace hx336_6 := hb_ HB hx336_6
        have HR336_6 := Aside0.mk hi336_6
        have HC336_6 := Aside0.mk hl336_6
        clear hi336_6 hl336_6
        replace p336 := eq_true p336
        replace q336 := eq_true q336
        have p337 : 0 ≤ (x5_1 : Int) := of_decide_eq_true (by first | (with_reducible assumption) | assumption)
        have q337 : x5_1 < (l1.length : Int) := of_decide_eq_true (by first | (with_reducible assumption) | assumption)
        obtain ⟨ad337, A337_6, c337_6, e337, hx337_0, hx337_1, hx337_2, hx337_3, hx337_4, hx337_5, hx337_6, hl337_6, hi337_6⟩ := at_T28 HR1.out x5_1 p337 q337
        have hw337_6 := hx337_6
        have hw337_5 := hx337_5
        have hw337_4 := hx337_4
        have hw337_3 := hx337_3
        have hw337_2 := hx337_2
        have hw337_1 := hx337_1
        have hw337_0 := hx337_0
        cases e337
        (try (have ea_ := Option.some.inj (hx337_6.symm.trans hw337_6); injection ea_ with ea_ en_ ec_; subst ea_; subst ec_; clear en_))
        replace hx337_0 := hb_ HB hx337_0
        replace hx337_1 := hb_ HB hx337_1
        replace hx337_2 := hb_ HB hx337_2
        replace hx337_3 := hb_ HB hx337_3
        replace hx337_4 := hb_ HB hx337_4
        replace hx337_5 := hb_ HB hx337_5
        replace hx337_6 := hb_ HB hx337_6
        have HR337_6 := Aside0.mk hi337_6
        have HC337_6 := Aside0.mk hl337_6
        clear hi337_6 hl337_6
        replace p337 := eq_true p337
        replace q337 := eq_true q337
        refine start_ (n := 10) (S := fun w' => w'.cell? (ad336.add ((x5_1).toNat * 7)) = some (.int .i64 ((rd_T28 l0 x5_1).f0)) ∧ w'.cell? ⟨(ad336.add ((x5_1).toNat * 7)).block, (ad336.add ((x5_1).toNat * 7)).off + 1, none⟩ = some (.int .i64 ((rd_T28 l0 x5_1).f1)) ∧ w'.cell? ⟨(ad336.add ((x5_1).toNat * 7)).block, (ad336.add ((x5_1).toNat * 7)).off + 2, none⟩ = some (.int .i64 ((rd_T28 l0 x5_1).f2.f0)) ∧ w'.cell? ⟨(ad336.add ((x5_1).toNat * 7)).block, (ad336.add ((x5_1).toNat * 7)).off + 3, none⟩ = some (.int .i64 ((rd_T28 l0 x5_1).f2.f1)) ∧ w'.cell? ⟨(ad336.add ((x5_1).toNat * 7)).block, (ad336.add ((x5_1).toNat * 7)).off + 4, none⟩ = some (.string ((rd_T28 l0 x5_1).f2.f2)) ∧ w'.cell? ⟨(ad336.add ((x5_1).toNat * 7)).block, (ad336.add ((x5_1).toNat * 7)).off + 5, none⟩ = some (.string ((rd_T28 l0 x5_1).f3)) ∧ w'.cell? ⟨(ad336.add ((x5_1).toNat * 7)).block, (ad336.add ((x5_1).toNat * 7)).off + 6, none⟩ = some (.slice A336_6 ((rd_T28 l0 x5_1).f4).length c336_6) ∧ w'.cell? (ad337.add ((x5_1).toNat * 7)) = some (.int .i64 ((rd_T28 l1 x5_1).f0)) ∧ w'.cell? ⟨(ad337.add ((x5_1).toNat * 7)).block, (ad337.add ((x5_1).toNat * 7)).off + 1, none⟩ = some (.int .i64 ((rd_T28 l1 x5_1).f1)) ∧ w'.cell? ⟨(ad337.add ((x5_1).toNat * 7)).block, (ad337.add ((x5_1).toNat * 7)).off + 2, none⟩ = some (.int .i64 ((rd_T28 l1 x5_1).f2.f0)) ∧ w'.cell? ⟨(ad337.add ((x5_1).toNat * 7)).block, (ad337.add ((x5_1).toNat * 7)).off + 3, none⟩ = some (.int .i64 ((rd_T28 l1 x5_1).f2.f1)) ∧ w'.cell? ⟨(ad337.add ((x5_1).toNat * 7)).block, (ad337.add ((x5_1).toNat * 7)).off + 4, none⟩ = some (.string ((rd_T28 l1 x5_1).f2.f2)) ∧ w'.cell? ⟨(ad337.add ((x5_1).toNat * 7)).block, (ad337.add ((x5_1).toNat * 7)).off + 5, none⟩ = some (.string ((rd_T28 l1 x5_1).f3)) ∧ w'.cell? ⟨(ad337.add ((x5_1).toNat * 7)).block, (ad337.add ((x5_1).toNat * 7)).off + 6, none⟩ = some (.slice A337_6 ((rd_T28 l1 x5_1).f4).length c337_6)) (ds := []) (tf 0 10) (by kernel_rfl) rfl rfl ⟨(hb_ HB hw336_0), (hb_ HB hw336_1), (hb_ HB hw336_2), (hb_ HB hw336_3), (hb_ HB hw336_4), (hb_ HB hw336_5), (hb_ HB hw336_6), (hb_ HB hw337_0), (hb_ HB hw337_1), (hb_ HB hw337_2), (hb_ HB hw337_3), (hb_ HB hw337_4), (hb_ HB hw337_5), (hb_ HB hw337_6)⟩ (fun hHeld => ?_); refine with_tabW laws_eqExpS.tab6 laws_eqExpS.bits6 (fun HT_ HW_ => ?_)
        generalize wr.drew = w11 at HB HR336_6 HR337_6 hx336_0 hx336_1 hx336_2 hx336_3 hx336_4 hx336_5 hx336_6 hx337_0 hx337_1 hx337_2 hx337_3 hx337_4 hx337_5 hx337_6 hHeld ⊢
        iterate 3 (refine pl_ ?_)
        refine plx_ 4 #[true, true, true, false, true, false, false, false, false, false] ?_
        refine plx_ 5 #[true, true, true, false, true, true, false, false, false, false] ?_
        refine plx_ 6 #[true, true, true, false, true, true, true, false, false, false] ?_
        refine tlx_ 3 (tf 7 3) ?_
        refine tl_ ?_
        refine one_ (i := 8) (N := some 25) (tf 9 1) rfl rfl (one_of HT_.out (by kernel_rfl)) (by decide) (fun K hK => ?_)
        refine gs_ Try.func10 #[.agg #[.int .i64 ((rd_T28 l0 x5_1).f0), .int .i64 ((rd_T28 l0 x5_1).f1), .int .i64 ((rd_T28 l0 x5_1).f2.f0), .int .i64 ((rd_T28 l0 x5_1).f2.f1), .string ((rd_T28 l0 x5_1).f2.f2), .string ((rd_T28 l0 x5_1).f3), .slice A336_6 ((rd_T28 l0 x5_1).f4).length c336_6], .agg #[.int .i64 ((rd_T28 l1 x5_1).f0), .int .i64 ((rd_T28 l1 x5_1).f1), .int .i64 ((rd_T28 l1 x5_1).f2.f0), .int .i64 ((rd_T28 l1 x5_1).f2.f1), .string ((rd_T28 l1 x5_1).f2.f2), .string ((rd_T28 l1 x5_1).f3), .slice A337_6 ((rd_T28 l1 x5_1).f4).length c337_6]] ?_
        with_reducible refine (hE_ ((rd_T28 l0 x5_1).f0) ((rd_T28 l0 x5_1).f1) ((rd_T28 l0 x5_1).f2.f0) ((rd_T28 l0 x5_1).f2.f1) ((rd_T28 l0 x5_1).f2.f2) ((rd_T28 l0 x5_1).f3) _ _ ((rd_T28 l0 x5_1).f4) ((rd_T28 l1 x5_1).f0) ((rd_T28 l1 x5_1).f1) ((rd_T28 l1 x5_1).f2.f0) ((rd_T28 l1 x5_1).f2.f1) ((rd_T28 l1 x5_1).f2.f2) ((rd_T28 l1 x5_1).f3) _ _ ((rd_T28 l1 x5_1).f4) false _ ?side1 ?side2 ?side3 ?side4 A7.out).mono ?_
        (case side1 => exact ck_ (Kd.C_below HR336_6.out HB.out))
        (case side2 => exact HC336_6.out)
        (case side3 => exact ck_ (Kd.C_below HR337_6.out HB.out))
        (case side4 => exact HC337_6.out)
        rintro e w12 ⟨rfl, hb⟩
        refine ⟨_, rfl, ?_⟩
        replace HB := bs_ hb
        (try clear hb)
        (try clear hb2)
        (try clear hk)
        (try clear hi)
        refine hK.out _ _ ⟨(have h_ := hb_ HB hw336_0; h_), (have h_ := hb_ HB hw336_1; h_), (have h_ := hb_ HB hw336_2; h_), (have h_ := hb_ HB hw336_3; h_), (have h_ := hb_ HB hw336_4; h_), (have h_ := hb_ HB hw336_5; h_), (have h_ := hb_ HB hw336_6; h_), (have h_ := hb_ HB hw337_0; h_), (have h_ := hb_ HB hw337_1; h_), (have h_ := hb_ HB hw337_2; h_), (have h_ := hb_ HB hw337_3; h_), (have h_ := hb_ HB hw337_4; h_), (have h_ := hb_ HB hw337_5; h_), (have h_ := hb_ HB hw337_6; h_)⟩ (fun hHeld => ?_)
        clear hK K
        refine nm_ ?_
        refine plx_ 9 (tf 10 0) ?_
        refine done_ (done_of HT_.out (by kernel_rfl)) ?_
        try go_wp2
        go_ret
        exact ⟨er_, bb_⟩
      ·rw [if_neg c6] at H
       exact absurd H (by simp)
     ·rw [if_neg c5] at H
      exact absurd H (by simp)
    ·rw [if_neg c4] at H
     have c4b0 : decide (x5_1 < (l0.length : Int)) = false := decide_eq_false c4
     clear c4
     obtain rfl := Option.some.inj H
     go_wp2
     go_ret
     exact ⟨er_, bb_⟩
 ·rw [if_neg c3] at H
  have c3b0 : ((l0.length : Int) == (l1.length : Int)) = false := beq_eq_false_iff_ne.mpr c3
  have c3b1 : ((l0.length : Int) != (l1.length : Int)) = true := bne_iff_ne.mpr c3
  have c3b2 : (l0.length == l1.length) = false := by first | simpa using c3 | (simp at c3 ⊢; omega)
  obtain rfl := Option.some.inj H
  go_enter Try.func11, Try.ntmps11
  go_wp2
  go_ret
  exact ⟨er_, bb_⟩

end Go.Proofs.Ytapgfamppnhnmaa.PFnExactAndAll
