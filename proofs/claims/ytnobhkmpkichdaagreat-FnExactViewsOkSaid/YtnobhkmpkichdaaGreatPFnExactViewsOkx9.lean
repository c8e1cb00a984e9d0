import Derived.Test.YtnobhkmpkichdaaGreatPress5
import Derived.Test.YtnobhkmpkichdaaGreatShelf
import Derived.Test.YtnobhkmpkichdaaGreatWKept
import Derived.Maps.Own
import Derived.Maps.OwnOps
import Derived.Maps.OwnSet
import Derived.Maps.Views
import Derived.Lib.SlKeysI
import Derived.Carry
import Derived.WalkKit
import Derived.Test.YtnobhkmpkichdaaGreatPFnExactViewsOkx6
import Derived.Test.YtnobhkmpkichdaaGreatPFnExactViewsOkx8
namespace Go.Proofs.YtnobhkmpkichdaaGreat.PFnExactViewsOk
open Go.RowKit YtnobhkmpkichdaaGreatW.PrintWords YtnobhkmpkichdaaGreatW.PrintLast YtnobhkmpkichdaaGreatW.PrintMore
attribute [local go_sem] aDf aDi aEf aEe aCs aCt aDh aDg
set_option linter.unusedVariables false
set_option maxHeartbeats 8000000
set_option maxRecDepth 100000
set_option linter.unusedSimpArgs false
attribute [local go_sem high] aM0
set_option maxHeartbeats 4000000
def eO.f (k : Nat) (l0 : List ByteArray) (a1 : ByteArray) : Option Bool := (bL.f k l0 a1).bind fun bLZ => (some (decide (bLZ ≥ 0)))
theorem eO.calls (k : Nat) (A0 : Option Addr) (c0 : Nat) (l0 : List ByteArray) (a1 : ByteArray) (r : Bool) (w : World) (hr0 : Kd.C Kd.string w A0 l0.length l0) (hc0 : l0.length ≤ c0) (h : eO.f k l0 a1 = some r) :
  Calls Tryz.prog 144 #[.slice A0 l0.length c0, .string a1] w fun e w' => e = .returned (.bool r) ∧ aAu w w' := by
 have jY := am_ hr0
 have oQ := am_ hc0
 clear hr0 hc0
 have H : ((bL.f k l0 a1).bind fun bLZ => (some (decide (bLZ ≥ 0)))) = some r := h
 clear h
 replace H := aBp H
 obtain ⟨bLZ, wN, H⟩ := H
 try dsimp only at H
 have A3 := am_ wN
 clear wN
 obtain rfl := Option.some.inj H
 go_enter Tryz.func144, Tryz.ntmps144
 go_wp2_with (first | ((with_reducible refine aAa (f := 151) rfl ?_); refine aBh (some 7) Tryz.func151 #[.slice A0 l0.length c0, .string a1] ?_; (with_reducible refine (bL.calls _ _ _ _ _ _ _ (ck_ jY.out) oQ.out A3.out).mono ?_); rintro e w' ⟨rfl, ⟨nd, rfl⟩⟩; refine ⟨_, rfl, ?_⟩))
 go_ret
 exact ⟨by first | rfl | (simp; done) | (simp [*]; done), by repeat (first | exact aAu.refl _ | apply aAu.step)⟩

def yT.f (k : Nat) (a0 : ByteArray) : Option Bool := (eO.f k (([(⟨#[43]⟩ : ByteArray), (⟨#[45]⟩ : ByteArray), (⟨#[42]⟩ : ByteArray), (⟨#[47]⟩ : ByteArray), (⟨#[61]⟩ : ByteArray), (⟨#[60]⟩ : ByteArray), (⟨#[126]⟩ : ByteArray), (⟨#[97, 110, 100]⟩ : ByteArray), (⟨#[111, 114]⟩ : ByteArray)] : List ByteArray)) a0).bind fun aZW => (some aZW)
theorem yT.calls (k : Nat) (a0 : ByteArray) (r : Bool) (w : World) (h : yT.f k a0 = some r) :
  Calls Tryz.prog 133 #[.string a0] w fun e w' => e = .returned (.bool r) ∧ Below w.heap.size w w' := by
 have HB := am_ (Below.refl w.heap.size w)
 have H : ((eO.f k (([(⟨#[43]⟩ : ByteArray), (⟨#[45]⟩ : ByteArray), (⟨#[42]⟩ : ByteArray), (⟨#[47]⟩ : ByteArray), (⟨#[61]⟩ : ByteArray), (⟨#[60]⟩ : ByteArray), (⟨#[126]⟩ : ByteArray), (⟨#[97, 110, 100]⟩ : ByteArray), (⟨#[111, 114]⟩ : ByteArray)] : List ByteArray)) a0).bind fun aZW => (some aZW)) = some r := h
 clear h
 obtain ⟨cKE, aGV⟩ : ∃ y_ : List ByteArray, y_ = (([(⟨#[43]⟩ : ByteArray), (⟨#[45]⟩ : ByteArray), (⟨#[42]⟩ : ByteArray), (⟨#[47]⟩ : ByteArray), (⟨#[61]⟩ : ByteArray), (⟨#[60]⟩ : ByteArray), (⟨#[126]⟩ : ByteArray), (⟨#[97, 110, 100]⟩ : ByteArray), (⟨#[111, 114]⟩ : ByteArray)] : List ByteArray)) := ⟨_, rfl⟩
 replace H : ((eO.f k cKE a0).bind fun aZW => (some aZW)) = some r := by first | (rw [aGV]; with_reducible exact H) | (have jC := (Option.bind_some _ _).symm.trans H; rw [aGV]; with_reducible exact jC) | (have jC := (Option.bind_some _ _).symm.trans H; with_reducible exact jC) | with_reducible exact H | (rw [aGV]; exact H) | exact H
 have bP8 := am_ aGV
 clear aGV
 replace H := aBp H
 obtain ⟨aZW, BB, H⟩ := H
 try dsimp only at H
 have A2 := am_ BB
 clear BB
 obtain rfl := Option.some.inj H
 go_enter Tryz.func133, Tryz.ntmps133
 go_wp2_with (first | ((with_reducible refine aAc (N := 3) rfl ?_); refine Kd.aPq Kd.string _ 9 ?hg (N := 3) ?hd (xs := ([(⟨#[43]⟩ : ByteArray), (⟨#[45]⟩ : ByteArray), (⟨#[42]⟩ : ByteArray), (⟨#[47]⟩ : ByteArray), (⟨#[61]⟩ : ByteArray), (⟨#[60]⟩ : ByteArray), (⟨#[126]⟩ : ByteArray), (⟨#[97, 110, 100]⟩ : ByteArray), (⟨#[111, 114]⟩ : ByteArray)] : List ByteArray)) (inner := [.string (⟨#[43]⟩ : ByteArray), .string (⟨#[45]⟩ : ByteArray), .string (⟨#[42]⟩ : ByteArray), .string (⟨#[47]⟩ : ByteArray), .string (⟨#[61]⟩ : ByteArray), .string (⟨#[60]⟩ : ByteArray), .string (⟨#[126]⟩ : ByteArray), .string (⟨#[97, 110, 100]⟩ : ByteArray), .string (⟨#[111, 114]⟩ : ByteArray)]) (ok := fun _ => True) (okp := fun _ => True) ?hr ?hp (fun _ hk => hk) trivial (Below.refl _ _) (Nat.le_refl _) (by simp) ?_; (case hd => rfl); (case hg => rfl); (case hr => first | (go_simp; done) | (go_simp; rfl)); (case hp => exact (aBt.one (show Kd.M Kd.string _ _ _ (⟨#[43]⟩ : ByteArray) [.string (⟨#[43]⟩ : ByteArray)] from rfl) (aBt.one (show Kd.M Kd.string _ _ _ (⟨#[45]⟩ : ByteArray) [.string (⟨#[45]⟩ : ByteArray)] from rfl) (aBt.one (show Kd.M Kd.string _ _ _ (⟨#[42]⟩ : ByteArray) [.string (⟨#[42]⟩ : ByteArray)] from rfl) (aBt.one (show Kd.M Kd.string _ _ _ (⟨#[47]⟩ : ByteArray) [.string (⟨#[47]⟩ : ByteArray)] from rfl) (aBt.one (show Kd.M Kd.string _ _ _ (⟨#[61]⟩ : ByteArray) [.string (⟨#[61]⟩ : ByteArray)] from rfl) (aBt.one (show Kd.M Kd.string _ _ _ (⟨#[60]⟩ : ByteArray) [.string (⟨#[60]⟩ : ByteArray)] from rfl) (aBt.one (show Kd.M Kd.string _ _ _ (⟨#[126]⟩ : ByteArray) [.string (⟨#[126]⟩ : ByteArray)] from rfl) (aBt.one (show Kd.M Kd.string _ _ _ (⟨#[97, 110, 100]⟩ : ByteArray) [.string (⟨#[97, 110, 100]⟩ : ByteArray)] from rfl) (aBt.one (show Kd.M Kd.string _ _ _ (⟨#[111, 114]⟩ : ByteArray) [.string (⟨#[111, 114]⟩ : ByteArray)] from rfl) (aBt.none _ _))))))))))); intro dDB w3 ho4 hb DZ j4; clear DZ j4; (first | rw [← bP8.out] at ho4 | (simp only [Int.reduceToNat] at ho4; rw [← bP8.out] at ho4)); have b99 := am_ (Kd.aBc ho4 (aAj bb_)); replace HB := bs_ hb; clear hb ho4; obtain ⟨Ao5, co5, eo5⟩ := Kd.aBj b99.out; subst eo5) | ((with_reducible refine aAa (f := 144) rfl ?_); refine aBh (some 5) Tryz.func144 #[.slice Ao5 cKE.length co5, .string a0] ?_; (with_reducible refine (eO.calls _ _ _ _ _ _ _ (ck_ (Kd.aAr b99.out).2.2) ((Kd.aAr b99.out).2.1) A2.out).mono ?_); rintro e w' ⟨rfl, ⟨nd, rfl⟩⟩; refine ⟨_, rfl, ?_⟩))
 go_ret
 exact ⟨er_, bb_⟩

def aDk (v0 v1 : Int) (v2 : ByteArray) : Bool := v0 == 0 && (v1 == 0 && (v2.toList == ([] : List UInt8)))
def aEn (k : Nat) (a n v0 v1 : Int) (v2 op : ByteArray) : Option (Int × Bool) :=
  if a = 0 then (mI.f n).bind fun b => some (0, b && aDk v0 v1 v2 && (op.toList == ([] : List UInt8)))
  else if a = 1 then (jO.f v0 v1 v2).bind fun b => some (0, b && (n == 0) && (op.toList == ([] : List UInt8)))
  else if a = 2 then (yT.f k op).bind fun b => some (2, b && (n == 0) && aDk v0 v1 v2)
  else if a = 3 ∨ a = 4 then some (1, (n == 0) && aDk v0 v1 v2 && (op.toList == ([] : List UInt8)))
  else some (0, false)
theorem b6S {k : Nat} {a n v0 v1 : Int} {v2 op : ByteArray} {b : Bool} (h : a = 0) (hb : mI.f n = some b) : aEn k a n v0 v1 v2 op = some (0, b && aDk v0 v1 v2 && (op.toList == ([] : List UInt8))) := by unfold aEn; rw [if_pos h, hb]; rfl
theorem b9Y {k : Nat} {a n v0 v1 : Int} {v2 op : ByteArray} {b : Bool} (h : a = 1) (hb : jO.f v0 v1 v2 = some b) : aEn k a n v0 v1 v2 op = some (0, b && (n == 0) && (op.toList == ([] : List UInt8))) := by unfold aEn; rw [if_neg (by omega), if_pos h, hb]; rfl
theorem b71 {k : Nat} {a n v0 v1 : Int} {v2 op : ByteArray} {b : Bool} (h : a = 2) (hb : yT.f k op = some b) : aEn k a n v0 v1 v2 op = some (2, b && (n == 0) && aDk v0 v1 v2) := by unfold aEn; rw [if_neg (by omega), if_neg (by omega), if_pos h, hb]; rfl
theorem bAC {k : Nat} {a n v0 v1 : Int} {v2 op : ByteArray} (h : a = 3 ∨ a = 4) : aEn k a n v0 v1 v2 op = some (1, (n == 0) && aDk v0 v1 v2 && (op.toList == ([] : List UInt8))) := by unfold aEn; rw [if_neg (by omega), if_neg (by omega), if_neg (by omega), if_pos h]
theorem bAB {k : Nat} {a n v0 v1 : Int} {v2 op : ByteArray} (h0 : ¬ a = 0) (h1 : ¬ a = 1) (h2 : ¬ a = 2) (h3 : ¬ (a = 3 ∨ a = 4)) : aEn k a n v0 v1 v2 op = some (0, false) := by unfold aEn; rw [if_neg h0, if_neg h1, if_neg h2, if_neg h3]
def lF.f : Nat → Int → Int → Int → Int → ByteArray → ByteArray → List S39 → Int → Option Bool
  | 0, _, _, _, _, _, _, _, _ => none
  | k + 1, a, n, v0, v1, v2, op, kids, d => (aEn k a n v0 v1 v2 op).bind fun p => if p.2 = true then (if d ≤ 12 then (if (kids.length : Int) = p.1 then aHn (fun x => lF.f k x.f0 x.f1 x.f2.f0 x.f2.f1 x.f2.f2 x.f3 x.f4 (wrap64 (d + 1))) kids else some false) else some false) else some false
theorem aTo (k : Nat) (d : Int) (gd : Nat) (w0 : World) (ih : ∀ (a n v0 v1 : Int) (v2 op : ByteArray) (A : Option Addr) (c : Nat) (l : List S39) (d : Int) (r : Bool) (w : World) (hr : Kd.C jX w A l.length l) (hc : l.length ≤ c) (h : lF.f k a n v0 v1 v2 op l d = some r),
    Calls Tryz.prog 116 #[.agg #[.int .i64 a, .int .i64 n, .int .i64 v0, .int .i64 v1, .string v2, .string op, .slice A l.length c], .int .i64 d] w fun e w' => e = .returned (.bool r) ∧ Below w.heap.size w w')
    (xs : List S39) (hc : w0.cell? ⟨gd, 0, none⟩ = some (.int .i64 d)) (hg : gd < w0.heap.size) : CB Tryz.prog jX (fun cs => Value.agg cs.toArray) 134 #[.pointer (some ⟨gd, 0, none⟩)] (fun x => lF.f k x.f0 x.f1 x.f2.f0 x.f2.f1 x.f2.f2 x.f3 x.f4 (wrap64 (d + 1))) xs w0 := by
  intro W x cs b hW _ hK hf
  obtain ⟨A6, c6, rfl, hl6, hg6⟩ := zY hK
  have hcd : W.cell? ⟨gd, 0, none⟩ = some (.int .i64 d) := (hW.cell (p := ⟨gd, 0, none⟩) hg).trans hc
  have hlt : gd < W.heap.size := Nat.lt_of_lt_of_le hg hW.size
  have hne : gd ≠ W.heap.size := by omega
  have hu := Tryz.underlying39
  have hcall := fun V (hV : Below W.heap.size W V) => ih x.f0 x.f1 x.f2.f0 x.f2.f1 x.f2.f2 x.f3 A6 c6 x.f4 (wrap64 (d + 1)) b V (Kd.aAp hg6 hV) hl6 hf
  have HC := am_ hcall
  have hcd' := fun o : Obj => aBn o hcd
  clear hK hf hcall ih hg6 hW hc hg
  show Calls Tryz.prog 134 #[.agg #[.int .i64 x.f0, .int .i64 x.f1, .int .i64 x.f2.f0, .int .i64 x.f2.f1, .string x.f2.f2, .string x.f3, .slice A6 x.f4.length c6], .pointer (some ⟨gd, 0, none⟩)] W _
  go_enter Tryz.func134, Tryz.ntmps134
  go_wp2_with (go_at_call 116; (try simp only [aCj]); refine (HC.out _ (by repeat (first | exact Below.refl _ _ | apply aAi | apply aAo | apply aAm))).mono ?_; rintro e w' ⟨rfl, hb'⟩)
  go_ret
  exact ⟨rfl, (by repeat (first | exact Below.refl _ _ | apply aAi | apply aAo | apply aAm) : Below W.heap.size W _).trans (hb'.mono (by simp))⟩
theorem lF.calls (k : Nat) : ∀ (a n v0 v1 : Int) (v2 op : ByteArray) (A : Option Addr) (c : Nat) (l : List S39) (d : Int) (r : Bool) (w : World) (hr : Kd.C jX w A l.length l) (hc : l.length ≤ c) (h : lF.f k a n v0 v1 v2 op l d = some r),
    Calls Tryz.prog 116 #[.agg #[.int .i64 a, .int .i64 n, .int .i64 v0, .int .i64 v1, .string v2, .string op, .slice A l.length c], .int .i64 d] w fun e w' => e = .returned (.bool r) ∧ Below w.heap.size w w' := by
  induction k with
  | zero => intro a n v0 v1 v2 op A c l d r w hr hc h; exact absurd h (by simp [lF.f])
  | succ k ih =>
  intro a n v0 v1 v2 op A c l d r w hr hc h
  obtain ⟨⟨kn, rt⟩, hs, h⟩ := Option.bind_eq_some_iff.1 h
  replace h : (if rt = true then (if d ≤ 12 then (if (l.length : Int) = kn then aHn (fun x => lF.f k x.f0 x.f1 x.f2.f0 x.f2.f1 x.f2.f2 x.f3 x.f4 (wrap64 (d + 1))) l else some false) else some false) else some false) = some r := h
  have hu := Tryz.underlying39
  have hu2 := Tryz.underlying36
  have HS := am_ hs
  have HH := am_ h
  have HR := am_ hr
  have HC := am_ hc
  have IH := am_ ih
  have HB := am_ (Below.refl w.heap.size w)
  clear hs h hr hc ih
  go_enter Tryz.func116, Tryz.ntmps116
  go_upto_block 0 with (first
    | ((with_reducible refine aAc (N := 2) rfl ?_); refine bx_ 2 #[.int .i64 a, .int .i64 n, .int .i64 v0, .int .i64 v1, .string v2, .string op, .slice A l.length c] 39 ?_; intro g hg w1 hbox hb; have BK := am_ hbox; have GW := gw_ hg; replace HB := bs_ hb; clear hb hbox hg)
    | ((with_reducible refine aAc (N := 3) rfl ?_); refine bx_ 3 #[.int .i64 d] 3 ?_; intro gd hg w2 hbox hb; have BD := am_ hbox; have GD := gw_ hg; replace BK := aAt BK hb; replace HB := bs_ hb; clear hb hbox hg; have b0 := bc_ (v := (.int .i64 a)) BK 0))
  clear b0
  (try simp only [Act.put, List.setIfInBounds_toArray, List.set_cons_zero, List.set_cons_succ])
  go_cut [5, 6] (fun v5 v6 wc => ∃ (kn : Int) (rt : Bool), v5 = .int .i64 kn ∧ v6 = .bool rt ∧ Aside0 (aEn k a n v0 v1 v2 op = some (kn, rt)) ∧ Aside0 (wc.heap[g]? = some (.cells #[.int .i64 a, .int .i64 n, .int .i64 v0, .int .i64 v1, .string v2, .string op, .slice A l.length c] 39 (0, 0))) ∧ Aside0 (wc.heap[gd]? = some (.cells #[.int .i64 d] 3 (0, 0))) ∧ Aside0 (Below w.heap.size w wc))
  case first =>
    clear IH HH HR HC
    have h := HS.out
    unfold aEn at h
    by_cases a0 : a = 0
    · have d0 : (a == 0) = true := beq_iff_eq.mpr a0
      rw [if_pos a0] at h
      obtain ⟨b, hb, _⟩ := Option.bind_eq_some_iff.1 h
      have HE := am_ (b6S (k := k) (v0 := v0) (v1 := v1) (v2 := v2) (op := op) a0 hb)
      have HC := am_ hb
      clear h hb a0 HS
      go_wp2
      replace BK := am_ (aAz BK.out)
      replace BD := am_ (aAz BD.out)
      replace HB := am_ (aAm HB.out)
      refine st_ 15 (hc_ (bc_ BK 1) (hc_ (bc_ BK 2) (hc_ (bc_ BK 3) (hc_ (bc_ BK 4) (hf_ (bc_ BK 5)))))) (fun hHeld => ?_)
      generalize w2.drew = wd at BK BD HB hHeld ⊢
      refine aMl ?_
      refine aMm ?_
      refine aNx (fun K hK => ?_)
      refine gs_ Tryz.func131 #[.int .i64 n] ?_
      refine (mI.calls n b _ HC.out).mono ?_
      rintro e w' ⟨rfl, ⟨nd, rfl⟩⟩
      refine ⟨_, rfl, ?_⟩
      replace BK := am_ (aCf BK.out nd); replace BD := am_ (aCf BD.out nd); replace HB := am_ (aAo HB.out nd)
      refine hK.out _ _ (hc_ (bc_ BK 1) (hc_ (bc_ BK 2) (hc_ (bc_ BK 3) (hc_ (bc_ BK 4) (hf_ (bc_ BK 5)))))) (fun hHeld => ?_); clear hK K; refine nm_ ?_
      cases b with
      | false =>
        repeat (first | (refine aOx ?_) | (refine aMl ?_) | (refine aMm ?_))
        refine aHl (by kernel_rfl) ?_
        go_wp2
        go_meet
        case rel => exact ⟨_, _, rfl, rfl, ⟨by first | exact HE.out | (rw [HE.out]; simp [aDk, *])⟩, BK, BD, HB⟩
      | true =>
        cases hz : aDk v0 v1 v2 with
        | false =>
          have hz0 : (v0 == 0 && (v1 == 0 && v2.toList.isEmpty)) = false := by simpa [aDk] using hz
          have HZ := am_ hz
          clear hz
          repeat (first | (refine aOx ?_) | (refine aMl ?_) | (refine aMm ?_))
          refine aNx (fun K hK => ?_)
          refine gs_ Tryz.func132 #[] ?_
          refine (uZ.calls 0 0 ⟨#[]⟩ _ rfl).mono ?_
          rintro e w' ⟨rfl, hb⟩
          refine ⟨_, rfl, ?_⟩
          replace BK := aAt BK hb; replace BD := aAt BD hb; replace HB := bs_ hb; clear hb
          refine hK.out _ _ (hc_ (bc_ BK 1) (hc_ (bc_ BK 2) (hc_ (bc_ BK 3) (hc_ (bc_ BK 4) (hf_ (bc_ BK 5)))))) (fun hHeld => ?_); clear hK K; refine nm_ ?_
          repeat (first | (refine aOx ?_) | (refine aMl ?_) | (refine aMm ?_))
          refine aHl (by kernel_rfl) ?_
          go_wp2
          go_meet
          case rel => exact ⟨_, _, rfl, rfl, ⟨by first | exact HE.out | (rw [HE.out]; simp [HZ.out])⟩, BK, BD, HB⟩
        | true =>
          have hz0 : (v0 == 0 && (v1 == 0 && v2.toList.isEmpty)) = true := by simpa [aDk] using hz
          have HZ := am_ hz
          clear hz
          repeat (first | (refine aOx ?_) | (refine aMl ?_) | (refine aMm ?_))
          refine aNx (fun K hK => ?_)
          refine gs_ Tryz.func132 #[] ?_
          refine (uZ.calls 0 0 ⟨#[]⟩ _ rfl).mono ?_
          rintro e w' ⟨rfl, hb⟩
          refine ⟨_, rfl, ?_⟩
          replace BK := aAt BK hb; replace BD := aAt BD hb; replace HB := bs_ hb; clear hb
          refine hK.out _ _ (hc_ (bc_ BK 1) (hc_ (bc_ BK 2) (hc_ (bc_ BK 3) (hc_ (bc_ BK 4) (hf_ (bc_ BK 5)))))) (fun hHeld => ?_); clear hK K; refine nm_ ?_
          repeat (first | (refine aOx ?_) | (refine aMl ?_) | (refine aMm ?_))
          refine aHl (by kernel_rfl) ?_
          go_wp2
          go_meet
          case rel => exact ⟨_, _, rfl, rfl, ⟨by first | exact HE.out | (rw [HE.out]; simp [HZ.out])⟩, BK, BD, HB⟩
    have d0 : (a == 0) = false := beq_eq_false_iff_ne.mpr a0
    by_cases a1 : a = 1
    · have d1 : (a == 1) = true := beq_iff_eq.mpr a1
      rw [if_neg a0, if_pos a1] at h
      obtain ⟨b, hb, _⟩ := Option.bind_eq_some_iff.1 h
      have HE := am_ (b9Y (k := k) (n := n) (op := op) a1 hb)
      have HC := am_ hb
      clear h hb a0 a1 HS
      have b1 := bc_ (v := (.int .i64 v0)) BK 2
      have b2 := bc_ (v := (.int .i64 v1)) BK 3
      have b3 := bc_ (v := (.string v2)) BK 4
      cases b with
      | false =>
        go_wp2_with (go_at_call 126; refine (jO.calls v0 v1 v2 false _ HC.out).mono ?_; rintro e w' ⟨rfl, hb⟩; replace BK := aAt BK hb; replace BD := aAt BD hb; replace HB := bs_ hb; clear hb)
        go_meet
        case rel => exact ⟨_, _, rfl, rfl, ⟨by rw [HE.out]; simp⟩, BK, BD, HB⟩
      | true =>
        cases hn : (n == 0) with
        | false =>
          go_wp2_with (go_at_call 126; refine (jO.calls v0 v1 v2 true _ HC.out).mono ?_; rintro e w' ⟨rfl, hb⟩; replace BK := aAt BK hb; replace BD := aAt BD hb; replace HB := bs_ hb; clear hb; have b4 := bc_ (v := (.int .i64 n)) BK 1; have b5 := bc_ (v := (.string op)) BK 5)
          go_meet
          case rel => exact ⟨_, _, rfl, rfl, ⟨by rw [HE.out, hn]; simp⟩, BK, BD, HB⟩
        | true =>
          go_wp2_with (go_at_call 126; refine (jO.calls v0 v1 v2 true _ HC.out).mono ?_; rintro e w' ⟨rfl, hb⟩; replace BK := aAt BK hb; replace BD := aAt BD hb; replace HB := bs_ hb; clear hb; have b4 := bc_ (v := (.int .i64 n)) BK 1; have b5 := bc_ (v := (.string op)) BK 5)
          go_meet
          case rel => exact ⟨_, _, rfl, rfl, ⟨by rw [HE.out, hn]; simp⟩, BK, BD, HB⟩
    by_cases a2 : a = 2
    · have d2 : (a == 2) = true := beq_iff_eq.mpr a2
      rw [if_neg a0, if_neg a1, if_pos a2] at h
      obtain ⟨b, hb, _⟩ := Option.bind_eq_some_iff.1 h
      have HE := am_ (b71 (n := n) (v0 := v0) (v1 := v1) (v2 := v2) a2 hb)
      have HC := am_ hb
      have d1 : (a == 1) = false := beq_eq_false_iff_ne.mpr a1
      clear h hb a0 a1 a2 HS
      go_wp2
      replace BK := am_ (aAz BK.out)
      replace BD := am_ (aAz BD.out)
      replace HB := am_ (aAm HB.out)
      refine st_ 16 (hc_ (bc_ BK 1) (hc_ (bc_ BK 2) (hc_ (bc_ BK 3) (hc_ (bc_ BK 4) (hf_ (bc_ BK 5)))))) (fun hHeld => ?_)
      generalize w2.drew = wd at BK BD HB hHeld ⊢
      refine aMl ?_
      refine aMm ?_
      refine aNx (fun K hK => ?_)
      refine gs_ Tryz.func133 #[.string op] ?_
      refine (yT.calls k op b _ HC.out).mono ?_
      rintro e w' ⟨rfl, hb⟩
      refine ⟨_, rfl, ?_⟩
      replace BK := aAt BK hb; replace BD := aAt BD hb; replace HB := bs_ hb; clear hb
      refine hK.out _ _ (hc_ (bc_ BK 1) (hc_ (bc_ BK 2) (hc_ (bc_ BK 3) (hc_ (bc_ BK 4) (hf_ (bc_ BK 5)))))) (fun hHeld => ?_); clear hK K; refine nm_ ?_
      cases b with
      | false =>
        repeat (first | (refine aOx ?_) | (refine aMl ?_) | (refine aMm ?_))
        refine aHl (by kernel_rfl) ?_
        go_wp2
        go_meet
        case rel => exact ⟨_, _, rfl, rfl, ⟨by rw [HE.out]; simp []⟩, BK, BD, HB⟩
      | true =>
        cases hn : (n == 0) with
        | false =>
          repeat (first | (refine aOx ?_) | (refine aMl ?_) | (refine aMm ?_))
          refine aHl (by kernel_rfl) ?_
          go_wp2
          go_meet
          case rel => exact ⟨_, _, rfl, rfl, ⟨by rw [HE.out]; simp [hn]⟩, BK, BD, HB⟩
        | true =>
          repeat (first | (refine aOx ?_) | (refine aMl ?_) | (refine aMm ?_))
          refine aNx (fun K hK => ?_)
          refine gs_ Tryz.func132 #[] ?_
          refine (uZ.calls 0 0 ⟨#[]⟩ _ rfl).mono ?_
          rintro e w' ⟨rfl, hb⟩
          refine ⟨_, rfl, ?_⟩
          replace BK := aAt BK hb; replace BD := aAt BD hb; replace HB := bs_ hb; clear hb
          refine hK.out _ _ (hc_ (bc_ BK 1) (hc_ (bc_ BK 2) (hc_ (bc_ BK 3) (hc_ (bc_ BK 4) (hf_ (bc_ BK 5)))))) (fun hHeld => ?_); clear hK K; refine nm_ ?_
          repeat (first | (refine aOx ?_) | (refine aMl ?_) | (refine aMm ?_))
          refine aHl (by kernel_rfl) ?_
          go_wp2
          go_meet
          case rel => exact ⟨_, _, rfl, rfl, ⟨by rw [HE.out]; simp [hn, aDk]⟩, BK, BD, HB⟩
    by_cases a3 : a = 3 ∨ a = 4
    · have d1 : (a == 1) = false := beq_eq_false_iff_ne.mpr a1
      have d2 : (a == 2) = false := beq_eq_false_iff_ne.mpr a2
      have HE := am_ (bAC (k := k) (n := n) (v0 := v0) (v1 := v1) (v2 := v2) (op := op) a3)
      have HA := am_ a3
      clear h a0 a1 a2 a3 HS
      have hthree : ((a == 3) = true ∨ ((a == 3) = false ∧ (a == 4) = true)) := by
        rcases HA.out with h | h
        · exact Or.inl (beq_iff_eq.mpr h)
        · exact Or.inr ⟨beq_eq_false_iff_ne.mpr (by omega), beq_iff_eq.mpr h⟩
      rcases hthree with d3 | ⟨d3, d4⟩
      all_goals
        go_wp2
        replace BK := am_ (aAz BK.out)
        replace BD := am_ (aAz BD.out)
        replace HB := am_ (aAm HB.out)
        refine st_ 16 (hc_ (bc_ BK 1) (hc_ (bc_ BK 2) (hc_ (bc_ BK 3) (hc_ (bc_ BK 4) (hf_ (bc_ BK 5)))))) (fun hHeld => ?_)
        generalize w2.drew = wd at BK BD HB hHeld ⊢
        refine aMl ?_
        refine aMm ?_
        cases hn : (n == 0) with
        | false =>
          repeat (first | (refine aOx ?_) | (refine aMl ?_) | (refine aMm ?_))
          refine aHl (by kernel_rfl) ?_
          go_wp2
          go_meet
          case rel => exact ⟨_, _, rfl, rfl, ⟨by rw [HE.out]; simp [hn]⟩, BK, BD, HB⟩
        | true =>
          cases hz : aDk v0 v1 v2 with
          | false =>
            have hz0 : (v0 == 0 && (v1 == 0 && v2.toList.isEmpty)) = false := by simpa [aDk] using hz
            have HZ := am_ hz
            clear hz
            repeat (first | (refine aOx ?_) | (refine aMl ?_) | (refine aMm ?_))
            refine aNx (fun K hK => ?_)
            refine gs_ Tryz.func132 #[] ?_
            refine (uZ.calls 0 0 ⟨#[]⟩ _ rfl).mono ?_
            rintro e w' ⟨rfl, hb⟩
            refine ⟨_, rfl, ?_⟩
            replace BK := aAt BK hb; replace BD := aAt BD hb; replace HB := bs_ hb; clear hb
            refine hK.out _ _ (hc_ (bc_ BK 1) (hc_ (bc_ BK 2) (hc_ (bc_ BK 3) (hc_ (bc_ BK 4) (hf_ (bc_ BK 5)))))) (fun hHeld => ?_); clear hK K; refine nm_ ?_
            repeat (first | (refine aOx ?_) | (refine aMl ?_) | (refine aMm ?_))
            refine aHl (by kernel_rfl) ?_
            go_wp2
            go_meet
            case rel => exact ⟨_, _, rfl, rfl, ⟨by rw [HE.out]; simp [hn, HZ.out]⟩, BK, BD, HB⟩
          | true =>
            have hz0 : (v0 == 0 && (v1 == 0 && v2.toList.isEmpty)) = true := by simpa [aDk] using hz
            have HZ := am_ hz
            clear hz
            repeat (first | (refine aOx ?_) | (refine aMl ?_) | (refine aMm ?_))
            refine aNx (fun K hK => ?_)
            refine gs_ Tryz.func132 #[] ?_
            refine (uZ.calls 0 0 ⟨#[]⟩ _ rfl).mono ?_
            rintro e w' ⟨rfl, hb⟩
            refine ⟨_, rfl, ?_⟩
            replace BK := aAt BK hb; replace BD := aAt BD hb; replace HB := bs_ hb; clear hb
            refine hK.out _ _ (hc_ (bc_ BK 1) (hc_ (bc_ BK 2) (hc_ (bc_ BK 3) (hc_ (bc_ BK 4) (hf_ (bc_ BK 5)))))) (fun hHeld => ?_); clear hK K; refine nm_ ?_
            repeat (first | (refine aOx ?_) | (refine aMl ?_) | (refine aMm ?_))
            refine aHl (by kernel_rfl) ?_
            go_wp2
            go_meet
            case rel => exact ⟨_, _, rfl, rfl, ⟨by rw [HE.out]; simp [hn, HZ.out]⟩, BK, BD, HB⟩
    have d1 : (a == 1) = false := beq_eq_false_iff_ne.mpr a1
    have d2 : (a == 2) = false := beq_eq_false_iff_ne.mpr a2
    have d3 : (a == 3) = false := beq_eq_false_iff_ne.mpr (by omega)
    have d4 : (a == 4) = false := beq_eq_false_iff_ne.mpr (by omega)
    have HE := am_ (bAB (k := k) (n := n) (v0 := v0) (v1 := v1) (v2 := v2) (op := op) a0 a1 a2 a3)
    clear h a0 a1 a2 a3 HS
    go_wp2
    go_meet
    case rel => exact ⟨_, _, rfl, rfl, HE, BK, BD, HB⟩
  case rest =>
    clear BK BD HB
    obtain ⟨kn', rt', rfl, rfl, HT, BK, BD, HB⟩ := hcut
    have he := Option.some.inj (HT.out.symm.trans HS.out)
    obtain rfl : kn' = kn := congrArg Prod.fst he
    obtain rfl : rt' = rt := congrArg Prod.snd he
    have H := HH.out
    clear HH HT HS he
    have b0 := bc_ (v := (.int .i64 d)) BD 0
    have b1 := bc_ (v := (.slice A l.length c)) BK 6
    cases rt' with
    | false =>
      obtain rfl := Option.some.inj ((if_neg (by simp)).symm.trans H)
      clear H
      go_wp2
      go_ret
      exact ⟨rfl, bb_⟩
    | true =>
      replace H := (if_pos rfl).symm.trans H
      by_cases h1 : d ≤ 12
      · have d1 : decide (d ≤ 12) = true := decide_eq_true h1
        replace H := (if_pos h1).symm.trans H
        clear h1
        by_cases h2 : (l.length : Int) = kn'
        · have d2 : ((l.length : Int) == kn') = true := beq_iff_eq.mpr h2
          replace H := (if_pos h2).symm.trans H
          clear h2
          have eg : ∀ args w, (callFunc 134 args).run Tryz.prog w = .ok (.enter 134 args) w := enters_of Tryz.func134 (by kernel_rfl) rfl
          have hall := AO.calls _ 134 #[.pointer (some ⟨gd, 0, none⟩)] eg A c l r wc (Kd.aAp HR.out HB.out) (aTo k d gd wc IH.out l b0 (aEt BD.out)) H
          have HALL := am_ hall
          clear H hall
          go_wp2_with (go_at_call 75; refine HALL.out.mono ?_; rintro e w' ⟨rfl, hb'⟩)
          go_ret
          exact ⟨rfl, HB.out.trans (hb'.mono HB.out.size)⟩
        · have d2 : ((l.length : Int) == kn') = false := beq_eq_false_iff_ne.mpr h2
          obtain rfl := Option.some.inj ((if_neg h2).symm.trans H)
          clear H h2
          go_wp2
          go_ret
          exact ⟨rfl, bb_⟩
      · have d1 : decide (d ≤ 12) = false := decide_eq_false h1
        obtain rfl := Option.some.inj ((if_neg h1).symm.trans H)
        clear H h1
        go_wp2
        go_ret
        exact ⟨rfl, bb_⟩

def uS.f (k : Nat) (aA aD : Int) (aH aK : Int) (aJ aI : ByteArray) (aQ : List S39) : Option Bool := (lF.f k aA aD aH aK aJ aI aQ 0).bind fun bKX => (some bKX)
theorem uS.calls (k : Nat) (aA aD : Int) (aH aK : Int) (aJ aI : ByteArray) (dY : Option Addr) (dR : Nat) (aQ : List S39) (r : Bool) (w : World) (gH : Kd.C jX w dY aQ.length aQ) (gI : aQ.length ≤ dR) (h : uS.f k aA aD aH aK aJ aI aQ = some r) :
  Calls Tryz.prog 96 #[.agg #[.int .i64 aA, .int .i64 aD, .int .i64 aH, .int .i64 aK, .string aJ, .string aI, .slice dY aQ.length dR]] w fun e w' => e = .returned (.bool r) ∧ Below w.heap.size w w' := by
 have zH := Tryz.underlying39
 have jZ := am_ gH
 have lG := am_ gI
 clear gH gI
 have HB := am_ (Below.refl w.heap.size w)
 have H : ((lF.f k aA aD aH aK aJ aI aQ 0).bind fun bKX => (some bKX)) = some r := h
 clear h
 replace H := aBp H
 obtain ⟨bKX, BB, H⟩ := H
 try dsimp only at H
 have A2 := am_ BB
 clear BB
 obtain rfl := Option.some.inj H
 go_enter Tryz.func96, Tryz.ntmps96
 go_wp2_with (first | ((with_reducible refine aAc (N := 1) rfl ?_); refine bx_ 1 #[.int .i64 aA, .int .i64 aD, .int .i64 aH, .int .i64 aK, .string aJ, .string aI, .slice dY aQ.length dR] 39 ?_; intro dB3 hg w3 hbox hb; have b61 := am_ (hbox); have dA6 := gw_ hg; replace HB := bs_ hb; clear hb hbox hg; obtain ⟨b2V, b7B, b34, bZ5, bTG, bX2, bYW, b86, b1V, b77, bYI, bVL, bRE, bY3⟩ := b7_ b61) | ((with_reducible refine aAa (f := 116) rfl ?_); refine aBh (some 4) Tryz.func116 #[.agg #[.int .i64 aA, .int .i64 aD, .int .i64 aH, .int .i64 aK, .string aJ, .string aI, .slice dY aQ.length dR], .int .i64 0] ?_; (with_reducible refine (lF.calls _ _ _ _ _ _ _ _ _ _ _ _ _ (cb_ jZ HB) lG.out A2.out).mono ?_); rintro e w5 ⟨rfl, hb⟩; refine ⟨_, rfl, ?_⟩; replace b61 := aAt b61 hb; replace HB := bs_ hb; (try clear hb)))
 go_ret
 exact ⟨er_, bb_⟩

theorem a6X.calls (f : Int → Option Bool) (g : Nat) (lb : Array Value) (eg : ∀ args w, (callFunc g args).run Tryz.prog w = .ok (.enter g args) w) (A : Option Addr) (c : Nat) (xs : List Int) (r : Int) (w : World) (hr : Kd.C (Kd.int .i64) w A xs.length xs) (hp : CB Tryz.prog (Kd.int .i64) (fun cs => cs.headD .nilIface) g lb f xs w) (h : aGj f xs 0 = some r) :
  Calls Tryz.prog 135 #[.slice A xs.length c, .func (.func g) #[] lb] w fun e w' => e = .returned (.int .i64 r) ∧ Below w.heap.size w w' := by
 have hbig : xs.length ≤ 9223372036854775807 := hr.2.1
 have HR := am_ hr
 have HP := am_ hp
 have HX := am_ h
 clear hr hp h
 go_enter Tryz.func135, Tryz.ntmps135
 go_wp2
 go_loopg [5, 8] xs.length (fun gg _ s8 wr => ∃ x : Int, s8 = .int .i64 x ∧ Aside0 (0 ≤ x ∧ x ≤ xs.length ∧ xs.length - x.toNat ≤ gg ∧ aGj f (xs.drop x.toNat) x = some r ∧ Below w.heap.size w wr))
 case atStart => exact ⟨0, rfl, ⟨by omega, by omega, by simp, by simpa using HX.out, Below.refl _ _⟩⟩
 case round =>
  obtain ⟨x, rfl, HI⟩ := hrel; obtain ⟨x0, x1, hg, hi, BW⟩ := HI.out
  by_cases hlt : x < (xs.length : Int)
  ·have c4 : decide (x < (xs.length : Int)) = true := decide_eq_true hlt
   have c5 : decide (0 ≤ x) = true := decide_eq_true x0; obtain ⟨ad, cs, rfl, hl, hK, hcell⟩ := Kd.aEj (Kd.aAp HR.out BW) (0 : Int) x x0 hlt; obtain ⟨b, hb, hm, ht, hf⟩ := aEq (0 : Int) x0 hlt hi; have hl1 : cs.length = 1 := hl
   obtain ⟨v0, rfl⟩ : ∃ v0, cs = [v0] := by
    match cs, hl1 with
    | [v0], _ => exact ⟨v0, rfl⟩
   (have hc0 : wr.cell? (ad.add x.toNat) = some v0 := by have h_ := hcell 0 v0 rfl; rwa [show ((Kd.int .i64)).sz = 1 from rfl, Nat.mul_one, Nat.add_zero] at h_); have hcall : Calls Tryz.prog g (#[v0] ++ lb) wr (fun e w' => e = .returned (.bool b) ∧ Below wr.heap.size wr w') := HP.out wr _ [v0] b BW hm hK hb
   cases b with
   | true =>
    have HJ := am_ (And.intro (ht rfl) BW); clear hcell hK hb hm ht hf hi BW HI hg hl hl1
    go_wp2_with (go_at_fn g; refine hcall.mono ?_; rintro e w' ⟨rfl, hb'⟩)
    go_ret
    exact ⟨aDo HJ.out.1.symm, HJ.out.2.trans (hb'.mono HJ.out.2.size)⟩
   | false =>
    have HJ := am_ (And.intro hg (And.intro (hf rfl) BW)); clear hcell hK hb hm ht hf hi BW HI hg hl hl1
    go_wp2_with (go_at_fn g; refine hcall.mono ?_; rintro e w' ⟨rfl, hb'⟩)
    go_roundg (xs.length - (x.toNat + 1))
    case measure => have := HJ.out.1; omega
    case rel => exact ⟨x + 1, by go_num, ⟨by omega, by omega, by omega, HJ.out.2.1, HJ.out.2.2.trans (hb'.mono HJ.out.2.2.size)⟩⟩
  ·have c4 : decide (x < (xs.length : Int)) = false := decide_eq_false hlt
   have hr : r = -1 := aFl hlt hi; clear hi HI; subst hr
   go_wp2
   go_ret
   exact ⟨rfl, BW⟩

theorem UD.calls (f : Int → Option Bool) (g : Nat) (lb : Array Value) (eg : ∀ args w, (callFunc g args).run Tryz.prog w = .ok (.enter g args) w) (A : Option Addr) (c : Nat) (xs : List Int) (r : Int) (w : World) (hr : Kd.C (Kd.int .i64) w A xs.length xs) (hp : CB Tryz.prog (Kd.int .i64) (fun cs => cs.headD .nilIface) g lb f xs w) (h : aGj f xs 0 = some r) :
  Calls Tryz.prog 117 #[.slice A xs.length c, .func (.func g) #[] lb] w fun e w' => e = .returned (.bool (decide (r ≥ 0))) ∧ Below w.heap.size w w' := by
 have hcall := a6X.calls f g lb eg A c xs r w hr hp h
 clear hr hp h
 go_enter Tryz.func117, Tryz.ntmps117
 go_wp2_with (go_at_call 135; refine hcall.mono ?_; rintro e w' ⟨rfl, hb'⟩)
 go_ret
 exact ⟨rfl, hb'⟩

theorem SY.not (f : Int → Option Bool) (g : Nat) (lb : Array Value) (eg : ∀ args w, (callFunc g args).run Tryz.prog w = .ok (.enter g args) w) (B : Nat) (xs : List Int) (w : World) (hB : B < w.heap.size) (hp : CB Tryz.prog (Kd.int .i64) (fun cs => cs.headD .nilIface) g lb f xs w) (hc : w.cell? ⟨B, 0, none⟩ = some (.func (.func g) #[] lb)) :
  CB Tryz.prog (Kd.int .i64) (fun cs => cs.headD .nilIface) 118 #[.pointer (some ⟨B, 0, none⟩)] (fun x => (f x).map not) xs w := by
   intro W x cs b hb hm hK hf; obtain ⟨t, ht, rfl⟩ := Option.map_eq_some_iff.1 hf; have F3 := hK; have hc' : W.cell? ⟨B, 0, none⟩ = some (.func (.func g) #[] lb) := (hb.cell (p := ⟨B, 0, none⟩) hB).trans hc; have hl1 : cs.length = 1 := ((Kd.int .i64)).K_len hK
   obtain ⟨v0, rfl⟩ : ∃ v0, cs = [v0] := by
    match cs, hl1 with
    | [v0], _ => exact ⟨v0, rfl⟩
   (have hcall : ∀ W1, Below W.heap.size W W1 → Calls Tryz.prog g (#[v0] ++ lb) W1 (fun e w' => e = .returned (.bool t) ∧ Below W1.heap.size W1 w') := fun W1 h1 => hp W1 x [v0] t (hb.trans (h1.mono hb.size)) hm (Kd.K_below _ h1 F3) ht); (have hcd := fun o : Obj => aBn o hc'); (have HN := am_ (show B ≠ W.heap.size from fun e => by have := hb.size; omega)); clear hp hf hK F3 hm hb hc ht hl1; have hBW := HN.out; have hBW' := Ne.symm hBW
   show Calls Tryz.prog 118 #[v0, .pointer (some ⟨B, 0, none⟩)] W _
   go_enter Tryz.func118, Tryz.ntmps118
   go_wp2_with (go_at_fn g; refine (hcall _ (by first | exact Below.refl _ _ | exact aAi (Below.refl _ _) _)).mono ?_; rintro e w' ⟨rfl, hb'⟩)
   go_ret
   (exact ⟨rfl, by first | exact hb' | exact (aAi (Below.refl _ _) _ : Below W.heap.size W _).trans (hb'.mono (by simp))⟩)
theorem SY.calls (f : Int → Option Bool) (g : Nat) (lb : Array Value) (eg : ∀ args w, (callFunc g args).run Tryz.prog w = .ok (.enter g args) w) (A : Option Addr) (c : Nat) (xs : List Int) (r : Bool) (w : World) (hr : Kd.C (Kd.int .i64) w A xs.length xs) (hp : CB Tryz.prog (Kd.int .i64) (fun cs => cs.headD .nilIface) g lb f xs w) (h : aHn f xs = some r) :
  Calls Tryz.prog 97 #[.slice A xs.length c, .func (.func g) #[] lb] w fun e w' => e = .returned (.bool r) ∧ Below w.heap.size w w' := by
 obtain ⟨j, hj, hjr⟩ := aEw h 0 (Int.le_refl _)
 have e_l : ∀ args w, (callFunc 118 args).run Tryz.prog w = .ok (.enter 118 args) w := enters_of Tryz.func118 (by kernel_rfl) rfl
 have hB0 : Below w.heap.size w (w.alloc (.cells #[.func (.func g) #[] lb] 140)) := aAi (Below.refl _ _) _
 have hp1 := CB.later hB0 hp
 have hnot := SY.not f g lb eg w.heap.size xs _ (by simp) hp1 (by simp)
 have hcall := UD.calls _ 118 _ e_l A c xs j _ (Kd.aAp hr hB0) hnot hj
 have HJ := am_ hjr
 clear hr hp h hjr hj hp1 hnot hB0
 go_enter Tryz.func97, Tryz.ntmps97
 go_wp2_with (go_at_call 117; refine hcall.mono ?_; rintro e w' ⟨rfl, hb'⟩)
 go_ret
 exact ⟨aDj (by rw [HJ.out]; cases r <;> rfl), (aAi (Below.refl _ _) _ : Below w.heap.size w _).trans (hb'.mono (by simp))⟩

mutual
def dM.j0 : Nat → Int → List Int → Int → Int → Int → Int → ByteArray → ByteArray → List S39 → Option (List Int)
 | 0, _, _, _, _, _, _, _, _, _ => none
 | k + 1, x1, x2, cPC, cSK, cY2, cO3, cZ2, cQS, aLU => if x1 < 40 then (dM.l0 k x1 x2 aLU (aLU.length : Int) 0) else (some x2)
def dM.l0 : Nat → Int → List Int → List S39 → Int → Int → Option (List Int)
 | 0, _, _, _, _, _ => none
 | k + 1, x1, x2, x17, x18, x19 => if x19 < x18 then (if 0 ≤ x19 then (if x19 < (x17.length : Int) then ((dM.f k ((aAh x17 x19).f0) ((aAh x17 x19).f1) ((aAh x17 x19).f2.f0) ((aAh x17 x19).f2.f1) ((aAh x17 x19).f2.f2) ((aAh x17 x19).f3) ((aAh x17 x19).f4) (wrap64 (x1 + 1)) x2).bind fun x2 => (dM.l0 k x1 x2 x17 x18 (wrap64 (x19 + 1)))) else (none)) else (none)) else (some x2)
def dM.f : Nat → Int → Int → Int → Int → ByteArray → ByteArray → List S39 → Int → List Int → Option (List Int)
 | 0, _, _, _, _, _, _, _, _, _ => none
 | k + 1, aA, aD, aH, aK, aJ, aI, aQ, a1, a2 => if aA = 0 then (if a2.length < 1073741824 ∧ (Lit.int .i64 aD).wf = true then (dM.j0 k a1 (a2 ++ [aD]) aA aD aH aK aJ aI aQ) else none) else (dM.j0 k a1 a2 aA aD aH aK aJ aI aQ)
end
open Go.Maps in
def aFj (w : World) (b : Nat) (s : List Int) : Prop := ∃ D : DataW Unit, w.ownsMap Tryz.prog 3 (plainElem Tryz.prog 4) b s.length D ∧ ∀ x : Int, has D (.int .i64 x) = true ↔ x ∈ s
open Go.Maps in
theorem aFj.lt {w : World} {b : Nat} {s : List Int} (h : aFj w b s) : b < w.heap.size := by obtain ⟨D, h, _⟩ := h; exact h.lt
open Go.Maps in
theorem aFj.kept {w w' : World} {b : Nat} {s : List Int} (h : aFj w b s) (hb : Below w.heap.size w w') : aFj w' b s := by
 obtain ⟨D, h1, h2⟩ := h
 obtain ⟨es, clock, hb', Ft, hs, hD⟩ := h1
 exact ⟨D, ⟨es, clock, (hb.block b (Array.getElem?_eq_some_iff.1 hb').1).trans hb', Ft, hs, hD⟩, h2⟩
open Go.Maps in
theorem aFj.put {w w' : World} {b : Nat} {s : List Int} {D : DataW Unit} {n : Int} (h0 : w.ownsMap Tryz.prog 3 (plainElem Tryz.prog 4) b s.length D) (h2 : ∀ x : Int, has D (.int .i64 x) = true ↔ x ∈ s) (h : w'.ownsMap Tryz.prog 3 (plainElem Tryz.prog 4) b (s.length + 1) (D.put (.int .i64 n) (.lit (.bool true)))) : aFj w' b (s ++ [n]) := by
 refine ⟨_, by rw [List.length_append]; exact h, fun x => ?_⟩
 by_cases hx : x = n
 · subst hx
   rw [has_put_same h0.isMap (by simp [WideAt.IsKeyLit])]
   simp
 · rw [has_put_other (by intro e; injection e with _ e; exact hx e), h2 x]
   simp [hx]
theorem aPg {w W W2 : World} {b : Nat} (h : Kept w W (fun k => k = b)) (k : Kept W W2 (fun k => k = b)) : Kept w W2 (fun k => k = b) := h.aVq k (fun _ h => .inl h)
theorem aPh {w w' : World} {b : Nat} (h : w.grownBy w' (some b)) : Kept w w' (fun k => k = b) := ⟨h.size, fun i hi hn => h.block i hi (fun e => hn (Option.some.inj e))⟩
theorem mk_ {b : Nat} {s : List Int} {W0 W : World} (x : aFj W0 b s) (h : Ext W0 W := by repeat (first | with_reducible exact Ext.refl | with_reducible apply Ext.alloc | with_reducible apply Ext.drewN | with_reducible apply Ext.drew | exact Ext.refl)) : aFj W b s := by
 induction h with
 | refl => exact x
 | alloc _ o ih => exact ih.kept (aAi (Below.refl _ _) o)
 | drewN _ m ih => exact ih
 | drew _ ih => exact ih
theorem kk_ {b : Nat} {w W0 W : World} (x : Kept w W0 (fun k => k = b)) (h : Ext W0 W := by repeat (first | with_reducible exact Ext.refl | with_reducible apply Ext.alloc | with_reducible apply Ext.drewN | with_reducible apply Ext.drew | exact Ext.refl)) : Kept w W (fun k => k = b) := by
 induction h with
 | refl => exact x
 | alloc _ o ih => exact ih.alloc o
 | drewN _ m ih => exact ih.drewN m
 | drew _ ih => exact ih.drew
theorem d20 {W0 W : World} {g : Nat} {u0 u1 u2 u3 u4 u5 u6 : Value} (h : Below W0.heap.size W0 W) (hg : Aside0 (W0.heap.size ≤ g)) : Below W0.heap.size W0 (((((((W.setCell ⟨g, 0, none⟩ u0).setCell ⟨g, 1, none⟩ u1).setCell ⟨g, 2, none⟩ u2).setCell ⟨g, 3, none⟩ u3).setCell ⟨g, 4, none⟩ u4).setCell ⟨g, 5, none⟩ u5).setCell ⟨g, 6, none⟩ u6) := aAk (aAk (aAk (aAk (aAk (aAk (aAk h hg.out) hg.out) hg.out) hg.out) hg.out) hg.out) hg.out
theorem aFj.far {W : World} {b : Nat} {s : List Int} (h : aFj W b s) {p : Addr} (hp : p.block ≠ b) (u : Value) : aFj (W.setCell p u) b s := by
 obtain ⟨D, h1, h2⟩ := h
 exact ⟨D, h1.setCell (Ne.symm hp) u, h2⟩
theorem d2C {W : World} {b g : Nat} {s : List Int} {u0 u1 u2 u3 u4 u5 u6 : Value} (h : aFj W b s) (hg : Aside0 (g ≠ b)) : aFj (((((((W.setCell ⟨g, 0, none⟩ u0).setCell ⟨g, 1, none⟩ u1).setCell ⟨g, 2, none⟩ u2).setCell ⟨g, 3, none⟩ u3).setCell ⟨g, 4, none⟩ u4).setCell ⟨g, 5, none⟩ u5).setCell ⟨g, 6, none⟩ u6) b s := (((((((h.far (p := ⟨g, 0, none⟩) hg.out u0).far (p := ⟨g, 1, none⟩) hg.out u1).far (p := ⟨g, 2, none⟩) hg.out u2).far (p := ⟨g, 3, none⟩) hg.out u3).far (p := ⟨g, 4, none⟩) hg.out u4).far (p := ⟨g, 5, none⟩) hg.out u5).far (p := ⟨g, 6, none⟩) hg.out u6)
theorem d27 {w W : World} {b g : Nat} {u0 u1 u2 u3 u4 u5 u6 : Value} (h : Kept w W (fun k => k = b)) (hg : Aside0 (w.heap.size ≤ g)) : Kept w (((((((W.setCell ⟨g, 0, none⟩ u0).setCell ⟨g, 1, none⟩ u1).setCell ⟨g, 2, none⟩ u2).setCell ⟨g, 3, none⟩ u3).setCell ⟨g, 4, none⟩ u4).setCell ⟨g, 5, none⟩ u5).setCell ⟨g, 6, none⟩ u6) (fun k => k = b) := (((((((h.setCell (p := ⟨g, 0, none⟩) (.inr hg.out) u0).setCell (p := ⟨g, 1, none⟩) (.inr hg.out) u1).setCell (p := ⟨g, 2, none⟩) (.inr hg.out) u2).setCell (p := ⟨g, 3, none⟩) (.inr hg.out) u3).setCell (p := ⟨g, 4, none⟩) (.inr hg.out) u4).setCell (p := ⟨g, 5, none⟩) (.inr hg.out) u5).setCell (p := ⟨g, 6, none⟩) (.inr hg.out) u6)
theorem dM.calls (k : Nat) : ∀ (aA aD : Int) (aH aK : Int) (aJ aI : ByteArray) (dY : Option Addr) (dR : Nat) (aQ : List S39) (a1 : Int) (a2 r : List Int) (b_ : Nat) (w0 w : World) (hB_ : Below w0.heap.size w0 w) (hb_ : w0.heap.size ≤ b_) (hm_ : aFj w b_ a2) (gH : Kd.C jX w0 dY aQ.length aQ) (gI : aQ.length ≤ dR) (h : dM.f k aA aD aH aK aJ aI aQ a1 a2 = some r),
  Calls Tryz.prog 119 #[.agg #[.int .i64 aA, .int .i64 aD, .int .i64 aH, .int .i64 aK, .string aJ, .string aI, .slice dY aQ.length dR], .int .i64 a1, .map (some b_)] w fun e w' => e = .returned (.tuple #[]) ∧ aFj w' b_ r ∧ Kept w w' (fun k => k = b_) ∧ Below w0.heap.size w0 w' := by
 induction k using Nat.strongRecOn with
 | _ k ih =>
 intro aA aD aH aK aJ aI dY dR aQ a1 a2 r b_ w0 w hB_ hb_ hm_ gH gI h
 cases k with
 | zero => exact absurd h (by simp [dM.f])
 | succ k =>
 simp only [dM.f] at h
 have zH := Tryz.underlying39
 have jZ := am_ gH
 have lG := am_ gI
 clear gH gI
 have HB := am_ hB_
 have HM := am_ hm_
 have HK := am_ (Kept.refl w (fun k => k = b_))
 have GB := am_ hb_
 clear hB_ hm_ hb_
 have H : (if aA = 0 then (if a2.length < 1073741824 ∧ (Lit.int .i64 aD).wf = true then (dM.j0 k a1 (a2 ++ [aD]) aA aD aH aK aJ aI aQ) else none) else (dM.j0 k a1 a2 aA aD aH aK aJ aI aQ)) = some r := h
 clear h
 have HC4 := am_ H
 clear H
 go_enter Tryz.func119, Tryz.ntmps119
 go_upto_if 10 with (first | ((with_reducible refine aAc (N := 3) rfl ?_); refine bx_ 3 #[.int .i64 aA, .int .i64 aD, .int .i64 aH, .int .i64 aK, .string aJ, .string aI, .slice dY aQ.length dR] 39 ?_; intro aFX hg w5 hbox hb; have wR := am_ (hbox); have d8U := gw_ hg; have NGB := am_ (show aFX ≠ b_ from by rw [hg]; exact Nat.ne_of_gt (mk_ HM.out).lt); replace HM := am_ ((mk_ HM.out).kept hb); replace HK := am_ ((kk_ HK.out).below hb); replace HB := bs_ hb; clear hb hbox hg; obtain ⟨kW, kU, oU, pG, oK, oJ, oO, kY, lH, oW, oV, p9, pI, oH⟩ := b7_ wR))
 (try simp only [Act.put, List.setIfInBounds_toArray, List.set_cons_zero, List.set_cons_succ])
 go_cut [] (fun wc => ∃ (kq : Nat) (s_ : List Int), Aside0 (dM.j0 kq a1 s_ aA aD aH aK aJ aI aQ = some r) ∧ Aside0 (kq ≤ k) ∧ Aside0 (wc.heap[aFX]? = some (.cells #[.int .i64 aA, .int .i64 aD, .int .i64 aH, .int .i64 aK, .string aJ, .string aI, (.slice dY aQ.length dR)] 39 (0, 0))) ∧ Aside0 (Below w0.heap.size w0 wc) ∧ Aside0 (aFj wc b_ s_) ∧ Aside0 (Kept w wc (fun k => k = b_)))
 case first =>
  have H := HC4.out
  clear HC4
  by_cases c7 : aA = 0
  ·rw [if_pos c7] at H
   have iV : (aA == 0) = true := beq_iff_eq.mpr c7
   have zG : (aA != 0) = false := bne_eq_false_iff_eq.mpr c7
   clear c7
   (first | rw [iV] | (simp only [aCj, aCw]; rw [iV]) | skip)
   by_cases c_ : a2.length < 1073741824 ∧ (Lit.int .i64 aD).wf = true
   case neg => rw [if_neg c_] at H; cases H
   rw [if_pos c_] at H
   have H' := am_ H
   clear H
   have CB_ := am_ c_
   clear c_
   have d53 := Go.Maps.int_keyed Tryz.underlying3
   obtain ⟨D_, ho_, hh_⟩ := HM.out
   obtain ⟨qI, qG, xA, AQ, zB, zZ, AC, qF, qH, xD, zU, yU, zQ, zI⟩ := b7_ wR
   go_wp2_with (at_mapUpdate; refine wpList_mapUpdate_own _ rfl _ _ _ 149 rfl 3 4 d53 Tryz.underlying149 _ b_ a2.length _ rfl ho_ (by have := CB_.out.1; unfold maxLen; omega) _ _ _ rfl rfl (Go.Maps.keyOf_int_mk Tryz.underlying3 CB_.out.2) _ [] (plainElem_bool Tryz.underlying4 true) ?_; intro w1_ b1F aAK; replace HM := am_ (aFj.put ho_ hh_ b1F); have kg_ := aPh aAK; replace HK := am_ (aPg HK.out kg_); replace wR := am_ (aLe (g := aFX) wR.out kg_ NGB.out); replace HB := am_ (Below.grown HB.out aAK HB.out.size (fun j hj => by cases hj; exact GB.out)); clear b1F aAK kg_ ho_)
   go_meet
   case rel => exact ⟨_, _, H', ⟨by first | omega | exact Nat.le_refl _⟩, ⟨aBx wR.out⟩, ⟨bb_⟩, ⟨mk_ HM.out⟩, ⟨kk_ HK.out⟩⟩
  ·rw [if_neg c7] at H
   have iV : (aA == 0) = false := beq_eq_false_iff_ne.mpr c7
   have zG : (aA != 0) = true := bne_iff_ne.mpr c7
   (first | rw [iV] | (simp only [aCj, aCw]; rw [iV]) | skip)
   have H' := am_ H
   clear H
   go_wp2
   go_meet
   case rel => exact ⟨_, _, H', ⟨by first | omega | exact Nat.le_refl _⟩, ⟨aBx wR.out⟩, ⟨bb_⟩, ⟨mk_ HM.out⟩, ⟨kk_ HK.out⟩⟩
 case rest =>
  clear HC4
  try clear c1
  try clear p2
  try clear c7
  try clear iV
  try clear zG
  try clear kW
  try clear kU
  try clear oU
  try clear pG
  try clear oK
  try clear oJ
  try clear oO
  try clear qI
  try clear qG
  try clear xA
  try clear AQ
  try clear zB
  try clear zZ
  try clear AC
  try clear kY
  try clear lH
  try clear oW
  try clear oV
  try clear p9
  try clear pI
  try clear oH
  try clear qF
  try clear qH
  try clear xD
  try clear zU
  try clear yU
  try clear zQ
  try clear zI
  obtain ⟨kq, s_, HA, HJ3, wR, HB, HM, HK⟩ := hcut
  cases kq with
  | zero => exact absurd HA.out (by simp [dM.j0])
  | succ kj3 =>
   have H := HA.out
   clear HA
   simp only [dM.j0] at H
   by_cases c9 : a1 < 40
   ·rw [if_pos c9] at H
    have xC := decide_eq_true c9
    clear c9
    have H' := am_ H
    clear H
    obtain ⟨lN, lL, nI, DD, BX, DI, D8, lM, lJ, nD, DF, CU, CE, CV⟩ := b7_ wR
    go_wp2
    go_loopg [19] kj3 (fun kq v19 w' => ∃ (kZ : Int) (q_ : List Int), v19 = .int .i64 kZ ∧ Aside0 (dM.l0 kq a1 q_ aQ (aQ.length : Int) kZ = some r) ∧ Aside0 (kq ≤ kj3) ∧ Aside0 (w'.heap[aFX]? = some (.cells #[.int .i64 aA, .int .i64 aD, .int .i64 aH, .int .i64 aK, .string aJ, .string aI, (.slice dY aQ.length dR)] 39 (0, 0))) ∧ Aside0 (Below w0.heap.size w0 w') ∧ Aside0 (aFj w' b_ q_) ∧ Aside0 (Kept w w' (fun k => k = b_)))
    case atStart => exact ⟨(0), s_, rs_, H', ⟨Nat.le_refl _⟩, ⟨aBx wR.out⟩, ⟨bb_⟩, ⟨mk_ HM.out⟩, ⟨kk_ HK.out⟩⟩
    case round =>
     clear H'
     try clear c1
     try clear p2
     try clear c7
     try clear iV
     try clear zG
     try clear c9
     try clear xC
     try clear lN
     try clear lL
     try clear nI
     try clear DD
     try clear BX
     try clear DI
     try clear D8
     try clear kW
     try clear kU
     try clear oU
     try clear pG
     try clear oK
     try clear oJ
     try clear oO
     try clear qI
     try clear qG
     try clear xA
     try clear AQ
     try clear zB
     try clear zZ
     try clear AC
     try clear lM
     try clear lJ
     try clear nD
     try clear DF
     try clear CU
     try clear CE
     try clear CV
     try clear kY
     try clear lH
     try clear oW
     try clear oV
     try clear p9
     try clear pI
     try clear oH
     try clear qF
     try clear qH
     try clear xD
     try clear zU
     try clear yU
     try clear zQ
     try clear zI
     try clear p2
     obtain ⟨kZ, q_, rfl, HA, YB, wR, HB, HM, HK⟩ := hrel
     cases gk with
     | zero => exact absurd HA.out (by simp [dM.l0])
     | succ k2 =>
      have H := HA.out
      clear HA
      simp only [dM.l0] at H
      by_cases c11 : kZ < (aQ.length : Int)
      ·rw [if_pos c11] at H
       have ND := decide_eq_true c11
       clear c11
       by_cases c12 : 0 ≤ kZ
       ·rw [if_pos c12] at H
        have uK := decide_eq_true c12
        clear c12
        by_cases c13 : kZ < (aQ.length : Int)
        ·rw [if_pos c13] at H
         have JL := decide_eq_true c13
         clear c13
         replace H := aBp H
         obtain ⟨t14, aEI, H⟩ := H
         try dsimp only at H
         have SH := am_ aEI
         clear aEI
         have H' := am_ H
         clear H
         have c1A : 0 ≤ (kZ : Int) := oa_
         have bWS : kZ < (aQ.length : Int) := oa_
         obtain ⟨c7Q, b6Z, b9G, d4I, aSV, aWF, aL8, aXN, aN2, aOT, aOR, aWC, aQ7⟩ := I5 jZ.out kZ c1A bWS
         cases d4I
         obtain ⟨aSV, aWF, aL8, aXN, aN2, aOT, aOR⟩ := aSm HB aSV aWF aL8 aXN aN2 aOT aOR
         have bFI := am_ aQ7
         have bOE := am_ aWC
         clear aQ7 aWC
         replace c1A := eq_true c1A
         replace bWS := eq_true bWS
         go_wp2_with (first | ((with_reducible refine aAc (N := 7) rfl ?_); refine bx_ 7 #[.int .i64 0, .int .i64 0, .int .i64 0, .int .i64 0, .string (⟨#[]⟩ : ByteArray), .string (⟨#[]⟩ : ByteArray), .slice none 0 0] 39 ?_; intro b7O hg w15 hbox hb; have b3D := am_ (hbox); have c8L := gw_ hg; have a1O := nl_ hg wR; have b0C := ng_ hg wR; have GWK := am_ (show w.heap.size ≤ b7O from by rw [hg]; exact (kk_ HK.out).1); have c6D := am_ (show b7O ≠ b_ from by rw [hg]; exact Nat.ne_of_gt (mk_ HM.out).lt); replace wR := aAt wR hb; replace HM := am_ ((mk_ HM.out).kept hb); replace HK := am_ ((kk_ HK.out).below hb); replace HB := bs_ hb; clear hb hbox hg; have c4S := b0C.out; have cHJ := a1O.out; obtain ⟨uE, sJ, vV, BQ, DN, D7, C9, tL, uF, vS, BP, DU, CS, BU⟩ := b7_ b3D) | ((with_reducible refine aAa (f := 119) rfl ?_); refine aBh (some 27) Tryz.func119 #[.agg #[.int .i64 ((aAh aQ kZ).f0), .int .i64 ((aAh aQ kZ).f1), .int .i64 ((aAh aQ kZ).f2.f0), .int .i64 ((aAh aQ kZ).f2.f1), .string ((aAh aQ kZ).f2.f2), .string ((aAh aQ kZ).f3), .slice b6Z ((aAh aQ kZ).f4).length b9G], .int .i64 (wrap64 (a1 + 1)), .map (some b_)] ?_; (with_reducible refine (ih k2 (by have := HJ3.out; have := YB.out; omega) ((aAh aQ kZ).f0) ((aAh aQ kZ).f1) ((aAh aQ kZ).f2.f0) ((aAh aQ kZ).f2.f1) ((aAh aQ kZ).f2.f2) ((aAh aQ kZ).f3) _ _ ((aAh aQ kZ).f4) (wrap64 (a1 + 1)) q_ t14 b_ w0 _ (d20 HB.out c8L) GB.out (d2C HM.out c6D) bFI.out bOE.out SH.out).mono ?_); rintro e w18 ⟨rfl, c3N, bMR, cLA⟩; refine ⟨_, rfl, ?_⟩; replace wR := am_ (aLe (g := aFX) (o := .cells #[.int .i64 aA, .int .i64 aD, .int .i64 aH, .int .i64 aK, .string aJ, .string aI, .slice (some c7Q) aQ.length dR] 39 (0, 0)) (aYc a1O (aBx wR.out)) bMR NGB.out); replace b3D := am_ (aLe (g := b7O) (o := .cells #[.int .i64 ((aAh aQ kZ).f0), .int .i64 ((aAh aQ kZ).f1), .int .i64 ((aAh aQ kZ).f2.f0), .int .i64 ((aAh aQ kZ).f2.f1), .string ((aAh aQ kZ).f2.f2), .string ((aAh aQ kZ).f3), .slice b6Z ((aAh aQ kZ).f4).length b9G] 39 (0, 0)) (aZb (aBx b3D.out)) bMR c6D.out); have n1_ := am_ (aPg (d27 (kk_ HK.out) GWK) bMR); clear HK HM HB; have HM := am_ c3N; have HK := n1_; have HB := am_ cLA; clear c3N bMR cLA n1_; (try clear hb); (try clear hb2); (try clear hk); (try clear hi)))
         go_roundg k2
         case measure => have := HJ3.out; have := YB.out; omega
         case rel => exact ⟨(wrap64 (kZ + 1)), t14, rs_, H', ⟨by have := HJ3.out; have := YB.out; omega⟩, ⟨aBx wR.out⟩, ⟨bb_⟩, ⟨mk_ HM.out⟩, ⟨kk_ HK.out⟩⟩
        ·rw [if_neg c13] at H
         exact nn_ H
       ·rw [if_neg c12] at H
        exact nn_ H
      ·rw [if_neg c11] at H
       have ND := decide_eq_false c11
       clear c11
       go_wp2
       first | go_end0 | ((try simp only [Exit.inBlock, Exit.then]); refine bodyPost_ret (results_none rfl _ _ _) rfl ?_)
       (obtain rfl := Option.some.inj H; exact ⟨er_, mk_ HM.out, kk_ HK.out, bb_⟩)
   ·rw [if_neg c9] at H
    have xC := decide_eq_false c9
    clear c9
    go_wp2
    first | go_end0 | ((try simp only [Exit.inBlock, Exit.then]); refine bodyPost_ret (results_none rfl _ _ _) rfl ?_)
    (obtain rfl := Option.some.inj H; exact ⟨er_, mk_ HM.out, kk_ HK.out, bb_⟩)
theorem aOl {w : World} {b n : Nat} {D : DataW Unit} (hown : w.ownsMap Tryz.prog 3 (plainElem Tryz.prog 4) b n D) (x : Int) : x ∈ intKeys D ↔ Go.Maps.has D (.int .i64 x) = true := by
  obtain ⟨es, hD, hpw, _⟩ := hown.entries (Go.Maps.int_keyed Tryz.underlying3)
  obtain ⟨es', hD', hko⟩ := hown.keysOf
  obtain rfl : es = es' := by rw [hD] at hD'; simpa using hD'
  subst hD
  have hk : ∀ p ∈ es, ∃ x, p.1 = .int .i64 x := fun p hp => by obtain ⟨v, hv⟩ := hko p hp; obtain ⟨x, _, hx, _⟩ := Go.Maps.keyOf_i64 Tryz.underlying3 hv; exact ⟨x, hx⟩
  rw [Go.Maps.has_eq, List.any_eq_true]
  show x ∈ es.map (fun p => Go.intOf p.1) ↔ _
  rw [List.mem_map]
  constructor
  · rintro ⟨p, hp, rfl⟩
    obtain ⟨a, ha⟩ := hk p hp
    exact ⟨p, hp, by rw [ha]; simp [Lit.sameKey, Go.intOf]⟩
  · rintro ⟨p, hp, hs⟩
    obtain ⟨a, ha⟩ := hk p hp
    rw [ha] at hs
    exact ⟨p, hp, by rw [ha]; simpa [Lit.sameKey, Go.intOf] using hs⟩
theorem aRi {w : World} {base : Nat} {v : Value} {xs : List Int} (h : w.ownsRow base 3 1 v xs.length (xs.map encZ)) : ∃ A c, v = .slice A xs.length c ∧ xs.length ≤ c ∧ Kd.C (Kd.int .i64) w A xs.length xs := by
  have hR : (Kd.int .i64).R 3 w base (fun _ => True) v xs := by
    refine ⟨fun _ _ => trivial, xs.map encZ, h, by simp [show (Kd.int .i64).sz = 1 from rfl], fun j p hj => ?_⟩
    show ((xs.map encZ).drop (j * 1)).take 1 = [.int .i64 p]
    obtain ⟨hl, rfl⟩ := List.getElem?_eq_some_iff.1 hj
    rw [Nat.mul_one, List.drop_eq_getElem_cons (by simpa using hl)]
    simp
  exact Kd.aFu hR
theorem aC8.calls (k : Nat) (aA aD : Int) (aH aK : Int) (aJ aI : ByteArray) (dY : Option Addr) (dR : Nat) (aQ : List S39) (s : List Int) (w : World) (gH : Kd.C jX w dY aQ.length aQ) (gI : aQ.length ≤ dR) (h : dM.f k aA aD aH aK aJ aI aQ 0 [] = some s) (hs : s.length ≤ 1073741824) :
  Calls Tryz.prog 98 #[.agg #[.int .i64 aA, .int .i64 aD, .int .i64 aH, .int .i64 aK, .string aJ, .string aI, .slice dY aQ.length dR]] w fun e w' => ∃ (A : Option Addr) (c : Nat) (ss : List Int), e = .returned (.slice A ss.length c) ∧ Kd.C (Kd.int .i64) w' A ss.length ss ∧ ss.length ≤ c ∧ (∀ x, x ∈ ss ↔ x ∈ s) ∧ Below w.heap.size w w' := by
 have hmm := @run_makeMap Tryz.prog
 have zH := Tryz.underlying39
 have jZ := am_ gH
 have lG := am_ gI
 have HS := am_ hs
 have HF := am_ h
 clear gH gI hs h
 have HB := am_ (Below.refl w.heap.size w)
 go_enter Tryz.func98, Tryz.ntmps98
 go_wp2_with (first
  | ((with_reducible refine aAc (N := 1) rfl ?_); refine bx_ 1 #[.int .i64 aA, .int .i64 aD, .int .i64 aH, .int .i64 aK, .string aJ, .string aI, .slice dY aQ.length dR] 39 ?_; intro g hg w5 hbox hb; have BK := am_ (aJq hbox (.map #[] 0)); have GW := gw_ hg; replace HB := bs_ hb; clear hb hbox hg; obtain ⟨kW, kU, oU, pG, oK, oJ, oO, kY, lH, oW, oV, p9, pI, oH⟩ := b7_ BK)
  | (go_at_call 119; refine (dM.calls k aA aD aH aK aJ aI dY dR aQ 0 [] s w5.heap.size w _ bb_ (aAj HB.out) ⟨.map [], World.ownsMap_made _ _ _ _, fun x => by simp [Go.Maps.has_eq]⟩ jZ.out lG.out HF.out).mono ?_; rintro e w6 ⟨rfl, hM, _, hB⟩; clear HB; have HB := am_ hB; have HM := am_ hM; clear hM hB)
  | (go_at_call 121; refine (callsIn_wide.1 (Tryz.maps_Keys_A (some w5.heap.size) _)).mono ?_; rintro e w7 ⟨rfl, rfl⟩)
  | (go_at_call 120; obtain ⟨D_, ho_, hh_⟩ := HM.out; have hz_ := ho_.size_le; refine (callsIn_wide.1 (Tryz.slices_Sorted_A w5.heap.size s.length D_ _ w6 ho_ (by have := HS.out; unfold maxLen; omega) (by have := HS.out; omega))).mono ?_; rintro e w8 ⟨v, ss, rfl, hp, hrow, _, hb⟩; obtain ⟨A_, c_, hv_, hl_, hc_⟩ := aRi (xs := ss.mergeSort (fun x y => decide (x ≤ y))) (by rw [List.length_mergeSort]; exact hrow); have HP := am_ (fun x : Int => ((List.mergeSort_perm ss (fun x y => decide (x ≤ y))).mem_iff.trans (hp.mem_iff.trans ((aOl ho_ x).trans (hh_ x))) : x ∈ ss.mergeSort (fun x y => decide (x ≤ y)) ↔ x ∈ s)); have HV := am_ hv_; have HL := am_ hl_; have HCC := am_ hc_; replace HB := bs_ hb; clear hp hrow hb ho_ hh_ hz_ hv_ hl_ hc_))
 go_ret
 exact ⟨A_, c_, _, by rw [HV.out]; rfl, HCC.out, HL.out, HP.out, bb_⟩
def iI.f (k : Nat) (aA aD : Int) (aH aK : Int) (aJ aI : ByteArray) (aQ : List S39) (a1 : Int) : Option Bool := (uS.f k aA aD aH aK aJ aI aQ).bind fun t => if t = true then ((dM.f k aA aD aH aK aJ aI aQ 0 []).bind fun s => if s.length ≤ 1073741824 then some (s.all (fun n => decide (n < a1))) else none) else some false
theorem aKt {α : Type} (g : α → Bool) : ∀ xs : List α, aHn (fun x => some (g x)) xs = some (xs.all g)
 | [] => rfl
 | x :: xs => by
  rw [aHn, Option.bind_some, List.all_cons]
  cases g x with
  | true => rw [if_pos rfl, aKt g xs, Bool.true_and]
  | false => rw [if_neg (by decide), Bool.false_and]
theorem aRk (a1 : Int) (B : Nat) (xs : List Int) (w : World) (hB : B < w.heap.size) (hc : w.cell? ⟨B, 0, none⟩ = some (.int .i64 a1)) :
  CB Tryz.prog (Kd.int .i64) (fun cs => cs.headD .nilIface) 99 #[.pointer (some ⟨B, 0, none⟩)] (fun n => some (decide (n < a1))) xs w := by
 intro W x cs b hb _ hK hf
 obtain rfl := Option.some.inj hf
 obtain rfl : cs = [.int .i64 x] := hK
 have hc' : W.cell? ⟨B, 0, none⟩ = some (.int .i64 a1) := (hb.cell (p := ⟨B, 0, none⟩) hB).trans hc
 clear hf hb hc
 show Calls Tryz.prog 99 #[.int .i64 x, .pointer (some ⟨B, 0, none⟩)] W _
 go_enter Tryz.func99, Tryz.ntmps99
 go_wp2
 go_ret
 exact ⟨rfl, Below.refl _ _⟩
theorem iI.calls (k : Nat) (aA aD : Int) (aH aK : Int) (aJ aI : ByteArray) (dY : Option Addr) (dR : Nat) (aQ : List S39) (a1 : Int) (r : Bool) (w : World) (gH : Kd.C jX w dY aQ.length aQ) (gI : aQ.length ≤ dR) (h : iI.f k aA aD aH aK aJ aI aQ a1 = some r) :
  Calls Tryz.prog 74 #[.agg #[.int .i64 aA, .int .i64 aD, .int .i64 aH, .int .i64 aK, .string aJ, .string aI, .slice dY aQ.length dR], .int .i64 a1] w fun e w' => e = .returned (.bool r) ∧ Below w.heap.size w w' := by
 unfold iI.f at h
 obtain ⟨t, ht, h⟩ := Option.bind_eq_some_iff.1 h
 have zH := Tryz.underlying39
 have jZ := am_ gH
 have lG := am_ gI
 have HT := am_ ht
 clear gH gI ht
 have HB := am_ (Below.refl w.heap.size w)
 cases t with
 | false =>
  rw [if_neg (by decide)] at h
  obtain rfl := Option.some.inj h
  clear h
  go_enter Tryz.func74, Tryz.ntmps74
  go_wp2_with (first
   | ((with_reducible refine aAc (N := 2) rfl ?_); refine bx_ 2 #[.int .i64 aA, .int .i64 aD, .int .i64 aH, .int .i64 aK, .string aJ, .string aI, .slice dY aQ.length dR] 39 ?_; intro g hg w5 hbox hb; have BK := am_ hbox; have GW := gw_ hg; replace HB := bs_ hb; clear hb hbox hg)
   | ((with_reducible refine aAc (N := 3) rfl ?_); refine bx_ 3 #[.int .i64 a1] 3 ?_; intro g2 hg w6 hbox hb; have BK2 := am_ hbox; replace BK := aAt BK hb; replace HB := bs_ hb; clear hb hbox hg; obtain ⟨kW, kU, oU, pG, oK, oJ, oO, kY, lH, oW, oV, p9, pI, oH⟩ := b7_ BK)
   | (go_at_call 96; refine (uS.calls k aA aD aH aK aJ aI dY dR aQ false _ (Kd.aAp jZ.out HB.out) lG.out HT.out).mono ?_; rintro e w7 ⟨rfl, hb⟩; replace HB := bs_ hb; clear hb))
  go_ret
  exact ⟨er_, bb_⟩
 | true =>
  rw [if_pos rfl] at h
  obtain ⟨s, hs, h⟩ := Option.bind_eq_some_iff.1 h
  by_cases hl : s.length ≤ 1073741824
  case neg => rw [if_neg hl] at h; cases h
  rw [if_pos hl] at h
  have HCOL := am_ hs
  have HLEN := am_ hl
  have HRES := am_ (Option.some.inj h)
  clear h hs hl
  have eg : ∀ args w, (callFunc 99 args).run Tryz.prog w = .ok (.enter 99 args) w := enters_of Tryz.func99 (by kernel_rfl) rfl
  go_enter Tryz.func74, Tryz.ntmps74
  go_wp2_with (first
   | ((with_reducible refine aAc (N := 2) rfl ?_); refine bx_ 2 #[.int .i64 aA, .int .i64 aD, .int .i64 aH, .int .i64 aK, .string aJ, .string aI, .slice dY aQ.length dR] 39 ?_; intro g hg w5 hbox hb; have BK := am_ hbox; have GW := gw_ hg; replace HB := bs_ hb; clear hb hbox hg)
   | ((with_reducible refine aAc (N := 3) rfl ?_); refine bx_ 3 #[.int .i64 a1] 3 ?_; intro g2 hg w6 hbox hb; have BK2 := am_ hbox; replace BK := aAt BK hb; replace HB := bs_ hb; clear hb hbox hg; obtain ⟨kW, kU, oU, pG, oK, oJ, oO, kY, lH, oW, oV, p9, pI, oH⟩ := b7_ BK)
   | (go_at_call 96; refine (uS.calls k aA aD aH aK aJ aI dY dR aQ true _ (Kd.aAp jZ.out HB.out) lG.out HT.out).mono ?_; rintro e w7 ⟨rfl, hb⟩; replace BK := aAt BK hb; replace BK2 := aAt BK2 hb; replace HB := bs_ hb; clear hb kW kU oU pG oK oJ oO kY lH oW oV p9 pI oH; obtain ⟨kW, kU, oU, pG, oK, oJ, oO, kY, lH, oW, oV, p9, pI, oH⟩ := b7_ BK)
   | (go_at_call 98; refine (aC8.calls k aA aD aH aK aJ aI dY dR aQ s _ (Kd.aAp jZ.out HB.out) lG.out HCOL.out HLEN.out).mono ?_; rintro e w8 ⟨A_, c_, ss, rfl, hcr, hcl, hmem, hb⟩; have HCR := am_ hcr; have HMEM := am_ hmem; replace BK2 := aAt BK2 hb; replace HB := bs_ hb; clear hb hcr hcl hmem)
   | (go_at_call 97; refine (SY.calls (fun n => some (decide (n < a1))) 99 #[.pointer (some ⟨g2, 0, none⟩)] eg A_ c_ ss (ss.all (fun n => decide (n < a1))) _ HCR.out (aRk a1 g2 ss _ (aEt BK2.out) ((cell_of_block BK2.out 0).trans rfl)) (aKt _ ss)).mono ?_; rintro e w9 ⟨rfl, hb⟩; replace HB := bs_ hb; clear hb))
  go_ret
  have e_ : ss.all (fun n => decide (n < a1)) = r := by
   rw [← HRES.out, Bool.eq_iff_iff, List.all_eq_true, List.all_eq_true]
   exact ⟨fun h x hx => h x ((HMEM.out x).2 hx), fun h x hx => h x ((HMEM.out x).1 hx)⟩
  exact ⟨by rw [← e_]; rfl, bb_⟩
end Go.Proofs.YtnobhkmpkichdaaGreat.PFnExactViewsOk
