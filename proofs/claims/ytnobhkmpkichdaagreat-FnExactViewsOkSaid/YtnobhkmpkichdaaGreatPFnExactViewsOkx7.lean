import Derived.Test.YtnobhkmpkichdaaGreatPress5
import Derived.Test.YtnobhkmpkichdaaGreatPFnExactViewsOkx6
namespace Go.Proofs.YtnobhkmpkichdaaGreat.PFnExactViewsOk
open Go.RowKit YtnobhkmpkichdaaGreatW.PrintWords YtnobhkmpkichdaaGreatW.PrintLast YtnobhkmpkichdaaGreatW.PrintMore
attribute [local go_sem] aDf aDi aEf aEe aCs aCt aDh aDg
set_option linter.unusedVariables false
set_option maxHeartbeats 8000000
set_option maxRecDepth 100000
set_option linter.unusedSimpArgs false
def cmp_Compare_int.f (a0 a1 : Int) : Option Int := (cmp_isNaN_int.f a0).bind fun b2R => ((cmp_isNaN_int.f a1).bind fun aCL => (if b2R = true then (if aCL = true then (some 0) else (some (-1))) else (if aCL = true then (some 1) else (if a0 < a1 then (some (-1)) else (if a0 > a1 then (some 1) else (some 0))))))
theorem cmp_Compare_int.calls (a0 a1 r : Int) (w : World) (h : cmp_Compare_int.f a0 a1 = some r) :
  Calls Tryz.prog 142 #[.int .i64 a0, .int .i64 a1] w fun e w' => e = .returned (.int .i64 r) ∧ aAu w w' := by
 have H : ((cmp_isNaN_int.f a0).bind fun b2R => ((cmp_isNaN_int.f a1).bind fun aCL => (if b2R = true then (if aCL = true then (some 0) else (some (-1))) else (if aCL = true then (some 1) else (if a0 < a1 then (some (-1)) else (if a0 > a1 then (some 1) else (some 0))))))) = some r := h
 clear h
 replace H := aBp H
 obtain ⟨b2R, wN, H⟩ := H
 try dsimp only at H
 have A3 := am_ wN
 clear wN
 replace H := aBp H
 obtain ⟨aCL, N9, H⟩ := H
 try dsimp only at H
 have A4 := am_ N9
 clear N9
 by_cases c5 : b2R = true
 ·subst c5
  rw [if_pos rfl] at H
  by_cases c6 : aCL = true
  ·subst c6
   rw [if_pos rfl] at H; obtain rfl := Option.some.inj H
   go_enter Tryz.func142, Tryz.ntmps142
   go_wp2_with (first | ((with_reducible refine aAa (f := 149) rfl ?_); refine aBh (some 8) Tryz.func149 #[.int .i64 a0] ?_; (with_reducible refine (cmp_isNaN_int.calls _ _ _ A3.out).mono ?_); rintro e w' ⟨rfl, ⟨nd, rfl⟩⟩; refine ⟨_, rfl, ?_⟩) | ((with_reducible refine aAa (f := 149) rfl ?_); refine aBh (some 10) Tryz.func149 #[.int .i64 a1] ?_; (with_reducible refine (cmp_isNaN_int.calls _ _ _ A4.out).mono ?_); rintro e w' ⟨rfl, ⟨nd, rfl⟩⟩; refine ⟨_, rfl, ?_⟩))
   go_ret
   (exact ⟨by first | rfl | (simp; done) | (simp [*]; done), by repeat (first | exact aAu.refl _ | apply aAu.step)⟩)
  ·replace c6 := Bool.eq_false_iff.mpr c6
   subst c6; replace H := aZf H; obtain rfl := Option.some.inj H
   go_enter Tryz.func142, Tryz.ntmps142
   go_wp2_with (first | ((with_reducible refine aAa (f := 149) rfl ?_); refine aBh (some 8) Tryz.func149 #[.int .i64 a0] ?_; (with_reducible refine (cmp_isNaN_int.calls _ _ _ A3.out).mono ?_); rintro e w' ⟨rfl, ⟨nd, rfl⟩⟩; refine ⟨_, rfl, ?_⟩) | ((with_reducible refine aAa (f := 149) rfl ?_); refine aBh (some 10) Tryz.func149 #[.int .i64 a1] ?_; (with_reducible refine (cmp_isNaN_int.calls _ _ _ A4.out).mono ?_); rintro e w' ⟨rfl, ⟨nd, rfl⟩⟩; refine ⟨_, rfl, ?_⟩))
   go_ret
   (exact ⟨by first | rfl | (simp; done) | (simp [*]; done), by repeat (first | exact aAu.refl _ | apply aAu.step)⟩)
 ·replace c5 := Bool.eq_false_iff.mpr c5
  subst c5; replace H := aZf H
  by_cases c7 : aCL = true
  ·subst c7
   rw [if_pos rfl] at H; obtain rfl := Option.some.inj H
   go_enter Tryz.func142, Tryz.ntmps142
   go_wp2_with (first | ((with_reducible refine aAa (f := 149) rfl ?_); refine aBh (some 8) Tryz.func149 #[.int .i64 a0] ?_; (with_reducible refine (cmp_isNaN_int.calls _ _ _ A3.out).mono ?_); rintro e w' ⟨rfl, ⟨nd, rfl⟩⟩; refine ⟨_, rfl, ?_⟩) | ((with_reducible refine aAa (f := 149) rfl ?_); refine aBh (some 10) Tryz.func149 #[.int .i64 a1] ?_; (with_reducible refine (cmp_isNaN_int.calls _ _ _ A4.out).mono ?_); rintro e w' ⟨rfl, ⟨nd, rfl⟩⟩; refine ⟨_, rfl, ?_⟩))
   go_ret
   (exact ⟨by first | rfl | (simp; done) | (simp [*]; done), by repeat (first | exact aAu.refl _ | apply aAu.step)⟩)
  ·replace c7 := Bool.eq_false_iff.mpr c7
   subst c7; replace H := aZf H
   by_cases c8 : a0 < a1
   ·rw [if_pos c8] at H
    have J4 := decide_eq_true c8; clear c8; obtain rfl := Option.some.inj H
    go_enter Tryz.func142, Tryz.ntmps142
    go_wp2_with (first | ((with_reducible refine aAa (f := 149) rfl ?_); refine aBh (some 8) Tryz.func149 #[.int .i64 a0] ?_; (with_reducible refine (cmp_isNaN_int.calls _ _ _ A3.out).mono ?_); rintro e w' ⟨rfl, ⟨nd, rfl⟩⟩; refine ⟨_, rfl, ?_⟩) | ((with_reducible refine aAa (f := 149) rfl ?_); refine aBh (some 10) Tryz.func149 #[.int .i64 a1] ?_; (with_reducible refine (cmp_isNaN_int.calls _ _ _ A4.out).mono ?_); rintro e w' ⟨rfl, ⟨nd, rfl⟩⟩; refine ⟨_, rfl, ?_⟩))
    go_ret
    (exact ⟨by first | rfl | (simp; done) | (simp [*]; done), by repeat (first | exact aAu.refl _ | apply aAu.step)⟩)
   ·rw [if_neg c8] at H
    have J4 := decide_eq_false c8; clear c8
    by_cases c9 : a0 > a1
    ·rw [if_pos c9] at H
     have xC := decide_eq_true c9; clear c9; obtain rfl := Option.some.inj H
     go_enter Tryz.func142, Tryz.ntmps142
     go_wp2_with (first | ((with_reducible refine aAa (f := 149) rfl ?_); refine aBh (some 8) Tryz.func149 #[.int .i64 a0] ?_; (with_reducible refine (cmp_isNaN_int.calls _ _ _ A3.out).mono ?_); rintro e w' ⟨rfl, ⟨nd, rfl⟩⟩; refine ⟨_, rfl, ?_⟩) | ((with_reducible refine aAa (f := 149) rfl ?_); refine aBh (some 10) Tryz.func149 #[.int .i64 a1] ?_; (with_reducible refine (cmp_isNaN_int.calls _ _ _ A4.out).mono ?_); rintro e w' ⟨rfl, ⟨nd, rfl⟩⟩; refine ⟨_, rfl, ?_⟩))
     go_ret
     (exact ⟨by first | rfl | (simp; done) | (simp [*]; done), by repeat (first | exact aAu.refl _ | apply aAu.step)⟩)
    ·rw [if_neg c9] at H
     have xC := decide_eq_false c9; clear c9; obtain rfl := Option.some.inj H
     go_enter Tryz.func142, Tryz.ntmps142
     go_wp2_with (first | ((with_reducible refine aAa (f := 149) rfl ?_); refine aBh (some 8) Tryz.func149 #[.int .i64 a0] ?_; (with_reducible refine (cmp_isNaN_int.calls _ _ _ A3.out).mono ?_); rintro e w' ⟨rfl, ⟨nd, rfl⟩⟩; refine ⟨_, rfl, ?_⟩) | ((with_reducible refine aAa (f := 149) rfl ?_); refine aBh (some 10) Tryz.func149 #[.int .i64 a1] ?_; (with_reducible refine (cmp_isNaN_int.calls _ _ _ A4.out).mono ?_); rintro e w' ⟨rfl, ⟨nd, rfl⟩⟩; refine ⟨_, rfl, ?_⟩))
     go_ret
     (exact ⟨by first | rfl | (simp; done) | (simp [*]; done), by repeat (first | exact aAu.refl _ | apply aAu.step)⟩)

def bytealg_CompareString.f (a0 a1 : ByteArray) : Option Int := some (Go.Lib.compareBytes a0.data.toList a1.data.toList)
theorem bytealg_CompareString.calls (a0 a1 : ByteArray) (r : Int) (w : World) (h : bytealg_CompareString.f a0 a1 = some r) :
    Calls Tryz.prog 150 #[.string a0, .string a1] w fun e w' => e = .returned (.int .i64 r) ∧ aAu w w' := by
  obtain rfl := Option.some.inj h
  go_enter Tryz.func150, Tryz.ntmps150
  go_wp2
  rw [run_callFunc_extern Tryz.func163 (by kernel_rfl) (by kernel_rfl) (by kernel_rfl) (e := Extern.BytealgCompare.compare) (by kernel_rfl), Go.Lib.run_compareString]
  simp only [Result.andThen]
  rw [Oper.upon_value]
  go_wp2
  go_ret
  exact ⟨rfl, aAu.refl _⟩

def strings_Compare.f (a0 a1 : ByteArray) : Option Int := (bytealg_CompareString.f a0 a1).bind fun bM0 => (some bM0)
theorem strings_Compare.calls (a0 a1 : ByteArray) (r : Int) (w : World) (h : strings_Compare.f a0 a1 = some r) :
  Calls Tryz.prog 143 #[.string a0, .string a1] w fun e w' => e = .returned (.int .i64 r) ∧ aAu w w' := by
 have H : ((bytealg_CompareString.f a0 a1).bind fun bM0 => (some bM0)) = some r := h
 clear h
 replace H := aBp H
 obtain ⟨bM0, wN, H⟩ := H
 try dsimp only at H
 have A3 := am_ wN
 clear wN
 obtain rfl := Option.some.inj H
 go_enter Tryz.func143, Tryz.ntmps143
 go_wp2_with (first | ((with_reducible refine aAa (f := 150) rfl ?_); refine aBh (some 7) Tryz.func150 #[.string a0, .string a1] ?_; (with_reducible refine (bytealg_CompareString.calls _ _ _ _ A3.out).mono ?_); rintro e w' ⟨rfl, ⟨nd, rfl⟩⟩; refine ⟨_, rfl, ?_⟩))
 go_ret
 exact ⟨by first | rfl | (simp; done) | (simp [*]; done), by repeat (first | exact aAu.refl _ | apply aAu.step)⟩

def dX.f (k : Nat) (aA aD : Int) (aH : ByteArray) (aX bD : Int) (bJ : ByteArray) : Option Int := (cmp_Compare_int.f aA aX).bind fun a0M => ((cmp_Compare_int.f aD bD).bind fun a05 => ((strings_Compare.f aH bJ).bind fun a06 => ((aBv.f k (([a0M, a05, a06] : List Int))).bind fun aIW => (some aIW))))
def dX.T1 : Bool × List (List Nat × List Nat) := (true, [([], []), ([0], [0]), ([], []), ([2], [2]), ([1, 3], [1, 3]), ([], []), ([5], [5]), ([], []), ([7], [7]), ([6, 8, 4], [6, 8]), ([], []), ([10], [10]), ([], []), ([12], [12]), ([11, 13, 9], [11, 13]), ([4, 9, 14], [4, 9, 14]), ([15, 14], [15]), ([16, 16, 0, 1, 2, 3, 4, 5, 6, 7, 8, 9, 10, 11, 12, 13, 14, 15, 16], [16])])
def dX.B1 : List Nat := [0, 1, 0, 4, 15, 0, 32, 0, 128, 511, 0, 1024, 0, 4096, 16383, 32767, 65535, 131071]
theorem dX.d4A : aEr .any (opsOf Tryz.f128 1) = dX.T1 := by kernel_rfl
theorem dX.cBN : aBu dX.T1.2 dX.B1 = true := by kernel_rfl
theorem dX.calls (k : Nat) (aA aD : Int) (aH : ByteArray) (aX bD : Int) (bJ : ByteArray) (r : Int) (w : World) (h : dX.f k aA aD aH aX bD bJ = some r) :
  Calls Tryz.prog 128 #[.agg #[.int .i64 aA, .int .i64 aD, .string aH], .agg #[.int .i64 aX, .int .i64 bD, .string bJ]] w fun e w' => e = .returned (.int .i64 r) ∧ Below w.heap.size w w' := by
 have QU := Tryz.underlying36
 have HB := am_ (Below.refl w.heap.size w)
 have H : ((cmp_Compare_int.f aA aX).bind fun a0M => ((cmp_Compare_int.f aD bD).bind fun a05 => ((strings_Compare.f aH bJ).bind fun a06 => ((aBv.f k (([a0M, a05, a06] : List Int))).bind fun aIW => (some aIW))))) = some r := h
 clear h
 replace H := aBp H
 obtain ⟨a0M, wN, H⟩ := H
 try dsimp only at H
 have A3 := am_ wN
 clear wN
 replace H := aBp H
 obtain ⟨a05, N9, H⟩ := H
 try dsimp only at H
 have A4 := am_ N9
 clear N9
 replace H := aBp H
 obtain ⟨a06, U9, H⟩ := H
 try dsimp only at H
 have A5 := am_ U9
 clear U9
 obtain ⟨c0A, aE0⟩ : ∃ y_ : List Int, y_ = (([a0M, a05, a06] : List Int)) := ⟨_, rfl⟩
 replace H : ((aBv.f k c0A).bind fun aIW => (some aIW)) = some r := by first | (rw [aE0]; with_reducible exact H) | (have jC := (Option.bind_some _ _).symm.trans H; rw [aE0]; with_reducible exact jC) | (have jC := (Option.bind_some _ _).symm.trans H; with_reducible exact jC) | with_reducible exact H | (rw [aE0]; exact H) | exact H
 have bQX := am_ aE0
 clear aE0
 replace H := aBp H
 obtain ⟨aIW, D6, H⟩ := H
 try dsimp only at H
 have A6 := am_ D6
 clear D6
 obtain rfl := Option.some.inj H
 go_enter Tryz.func128, Tryz.ntmps128
 try go_wp2_with (first | ((with_reducible refine aAc (N := 2) rfl ?_); refine bx_ 2 #[.int .i64 aA, .int .i64 aD, .string aH] 36 ?_; intro d7V hg w7 hbox hb; have AP := am_ (hbox); have dBQ := gw_ hg; replace HB := bs_ hb; clear hb hbox hg) | ((with_reducible refine aAc (N := 3) rfl ?_); refine bx_ 3 #[.int .i64 aX, .int .i64 bD, .string bJ] 36 ?_; intro d87 hg w8 hbox hb; have JJ := am_ (hbox); have dAF := gw_ hg; have c2V := nl_ hg AP; have c2M := ng_ hg AP; replace AP := aAt AP hb; replace HB := bs_ hb; clear hb hbox hg))
 replace AP := am_ (aAz AP.out)
 replace JJ := am_ (aAz JJ.out)
 replace HB := am_ (aAm HB.out)
 refine st_ 18 (aUj AP (aUu JJ)) (fun hHeld => ?_); refine aAv dX.d4A dX.cBN (fun HT_ HW_ => ?_)
 generalize w8.drew = w9 at AP JJ HB hHeld ⊢
 refine pl_ ?_
 refine aBa 2 (bm 18 5) ?_
 refine aBa 5 (bm 18 37) ?_
 refine aBa 7 (bm 18 165) ?_
 refine aBa 10 (bm 18 1189) ?_
 refine aBa 12 (bm 18 5285) ?_
 refine aCx 1 (bm 18 5287) ?_
 refine aCx 3 (bm 18 5295) ?_
 refine aCx 6 (bm 18 5359) ?_
 refine aCx 8 (bm 18 5615) ?_
 refine aCx 11 (bm 18 7663) ?_
 refine aCx 13 (bm 18 15855) ?_
 refine aCm (i := 4) (N := some 9) (bm 18 15871) (h := fun K hK => ?_)
 refine gs_ Tryz.func142 #[.int .i64 aA, .int .i64 aX] ?_
 with_reducible refine (cmp_Compare_int.calls aA aX a0M _ A3.out).mono ?_
 rintro e w' ⟨rfl, ⟨nd, rfl⟩⟩
 refine ⟨_, rfl, ?_⟩
 refine hK.out _ _ (aUj AP (aUu JJ)) (fun hHeld => ?_)
 clear hK K
 refine nm_ ?_
 refine aCm (i := 9) (N := some 14) (tf 14 4) (h := fun K hK => ?_)
 refine gs_ Tryz.func142 #[.int .i64 aD, .int .i64 bD] ?_
 with_reducible refine (cmp_Compare_int.calls aD bD a05 _ A4.out).mono ?_
 rintro e w' ⟨rfl, ⟨nd, rfl⟩⟩
 refine ⟨_, rfl, ?_⟩
 refine hK.out _ _ (aUj AP (aUu JJ)) (fun hHeld => ?_)
 clear hK K
 refine nm_ ?_
 refine aCm (i := 14) (N := some 19) (tf 15 3) (h := fun K hK => ?_)
 refine gs_ Tryz.func143 #[.string aH, .string bJ] ?_
 with_reducible refine (strings_Compare.calls aH bJ a06 _ A5.out).mono ?_
 rintro e w' ⟨rfl, ⟨nd, rfl⟩⟩
 refine ⟨_, rfl, ?_⟩
 refine hK.out _ _ (aUj AP (aUu JJ)) (fun hHeld => ?_)
 clear hK K
 refine nm_ ?_
 refine aCm (i := 15) (N := some 20) (tf 16 2) (h := fun K hK => ?_)
 refine Kd.aCl (Kd.int .i64) _ 3 ?hg (N := 20) ?hd (xs := ([a0M, a05, a06] : List Int)) (inner := [.int .i64 a0M, .int .i64 a05, .int .i64 a06]) (ok := fun _ => True) (okp := fun _ => True) ?hr ?hp (fun _ hk => hk) trivial (Below.refl _ _) (Nat.le_refl _) (by simp) ?_; (case hd => rfl); (case hg => rfl); (case hr => first | (go_simp; done) | (go_simp; rfl)); (case hp => exact (aBt.one (show Kd.M (Kd.int .i64) _ _ _ a0M [.int .i64 a0M] from rfl) (aBt.one (show Kd.M (Kd.int .i64) _ _ _ a05 [.int .i64 a05] from rfl) (aBt.one (show Kd.M (Kd.int .i64) _ _ _ a06 [.int .i64 a06] from rfl) (aBt.none _ _)))))
 intro dCE w10 b27 hb DZ j4
 clear DZ j4
 (first | rw [← bQX.out] at b27 | (simp only [Int.reduceToNat] at b27; rw [← bQX.out] at b27))
 have b0Z := am_ (Kd.aBc b27 (aAj bb_))
 replace AP := aAt AP hb
 replace JJ := aAt JJ hb
 replace HB := bs_ hb
 clear hb b27
 obtain ⟨qZ, qN, H9⟩ := Kd.aBj b0Z.out
 (first | subst H9 | (injection H9 with f1_ f2_ f3_; have f4_ := f1_.symm; have f5_ := f3_.symm; clear f1_ f2_ f3_; subst f4_; subst f5_))
 refine hK.out _ _ (aUj AP (aUu JJ)) (fun hHeld => ?_)
 clear hK K
 refine nm_ ?_
 refine aCm (i := 16) (N := some 21) (tf 17 1) (h := fun K hK => ?_)
 refine gs_ Tryz.func141 #[.slice qZ c0A.length qN] ?_
 with_reducible refine (aBv.calls k _ _ c0A aIW _ ?fM ?fO A6.out).mono ?_
 (case fM => exact ck_ (Kd.aAr b0Z.out).2.2)
 (case fO => exact (Kd.aAr b0Z.out).2.1)
 rintro e w' ⟨rfl, ⟨nd, rfl⟩⟩
 refine ⟨_, rfl, ?_⟩
 refine hK.out _ _ (aUj AP (aUu JJ)) (fun hHeld => ?_)
 clear hK K
 refine nm_ ?_
 refine aBa 17 (tf 18 0) ?_
 refine dn_ ?_
 try go_wp2
 go_ret
 exact ⟨er_, bb_⟩

def jT.f (k : Nat) (l0 l1 : List S36) : Option Int := aOo (fun x y => dX.f k x.f0 x.f1 x.f2 y.f0 y.f1 y.f2) l0 l1
theorem jT.calls (k : Nat) (A0 : Option Addr) (c0 : Nat) (l0 : List S36) (A1 : Option Addr) (c1 : Nat) (l1 : List S36) (r : Int) (w : World) (hr0 : Kd.C ER w A0 l0.length l0) (hc0 : l0.length ≤ c0) (hr1 : Kd.C ER w A1 l1.length l1) (hc1 : l1.length ≤ c1) (h : jT.f k l0 l1 = some r) :
    Calls Tryz.prog 106 #[.slice A0 l0.length c0, .slice A1 l1.length c1] w fun e w' => e = .returned (.int .i64 r) ∧ Below w.heap.size w w' := by
  have eg : ∀ args w, (callFunc 128 args).run Tryz.prog w = .ok (.enter 128 args) w := enters_of Tryz.func128 (by kernel_rfl) rfl
  have hcall := UE.calls _ 128 #[] eg A0 c0 l0 A1 c1 l1 r w hr0 hr1 (fun W x y cs ds b hb _ _ hK hL hf => by
    obtain rfl := qP hK
    obtain rfl := qP hL
    exact dX.calls k _ _ _ _ _ _ b W hf) h
  clear hr0 hr1 h
  go_enter Tryz.func106, Tryz.ntmps106
  go_wp2_with (go_at_call 127; refine hcall.mono ?_; rintro e w' ⟨rfl, hb'⟩)
  go_ret
  exact ⟨rfl, hb'⟩
mutual
def bW.j0 : Nat → Bool → Int → List S126 → Option Bool
 | 0, _, _, _ => none
 | k + 1, x14, RX, CP => if x14 = true then (some false) else (bW.l0 k CP (CP.length : Int) 0 RX CP)
def bW.l0 : Nat → List S126 → Int → Int → Int → List S126 → Option Bool
 | 0, _, _, _, _, _ => none
 | k + 1, x16, x17, x18, RX, CP => if x18 < x17 then (if 0 ≤ x18 then (if x18 < (x16.length : Int) then ((l7.f ((bI x16 x18).f0) RX).bind fun bX5 => (if bX5 = true then (if ((bI x16 x18).f1) = 0 then (some false) else ((dF.f ((bI x16 x18).f1) (-1000000000) 1000000000).bind fun bWA => (if bWA = true then (if x18 > 0 then (if 0 ≤ (wrap64 (x18 - 1)) then (if (wrap64 (x18 - 1)) < (CP.length : Int) then ((jT.f k ((bI CP (wrap64 (x18 - 1))).f0) ((bI x16 x18).f0)).bind fun b6G => (if b6G ≥ 0 then (some false) else (bW.l0 k x16 x17 (wrap64 (x18 + 1)) RX CP))) else (none)) else (none)) else (bW.l0 k x16 x17 (wrap64 (x18 + 1)) RX CP)) else (some false)))) else (some false))) else (none)) else (none)) else (some true)
end
def bW.f (k : Nat) (aA : Int) (bS : List S126) : Option Bool := (dF.f aA 0 12).bind fun b7K => (if b7K = true then (bW.j0 k (decide ((bS.length : Int) > 400)) aA bS) else (bW.j0 k true aA bS))
def bW.T6 : Bool × List (List Nat × List Nat) := (true, [([], []), ([0], [0]), ([], []), ([2], [2]), ([1, 3], [1, 3]), ([4], [4]), ([5, 4], [5]), ([6], [6]), ([7, 6], [6, 7]), ([8, 6], [6, 8]), ([6, 9], [6, 9]), ([10, 6], [10]), ([11], [11]), ([12, 11], [11, 12]), ([13, 11, 11], [11, 13]), ([14, 11], [11, 14]), ([11, 15], [11, 15]), ([16, 14], [16]), ([17], [17]), ([18, 17], [17, 18]), ([19, 17, 17], [17, 19]), ([20], [20]), ([21, 20], [20, 21]), ([20], [20]), ([23, 20], [20, 23]), ([22, 24, 20], [20, 22, 24]), ([25, 20], [20, 25]), ([26, 20], [20, 26]), ([20], [20]), ([28, 20], [20, 28]), ([27, 29, 20, 20], [20, 27, 29]), ([30, 20], [20, 30]), ([20, 31, 17], [17, 20, 31]), ([17, 32], [17, 32])])
def bW.B6 : List Nat := [0, 1, 0, 4, 15, 31, 63, 127, 255, 511, 1023, 2047, 4095, 8191, 16383, 32767, 65535, 131071, 262143, 524287, 1048575, 2097151, 4194303, 2097151, 10485759, 33554431, 67108863, 134217727, 2097151, 270532607, 1073741823, 2147483647, 4294967295, 8589934591]
theorem bW.BF : aEr .any (opsOf Tryz.f83 6) = bW.T6 := by kernel_rfl
theorem bW.pY : aBu bW.T6.2 bW.B6 = true := by kernel_rfl
theorem bW.calls (k : Nat) (aA : Int) (lW : Option Addr) (lS : Nat) (bS : List S126) (r : Bool) (w : World) (qC : Kd.C jU w lW bS.length bS) (sN : bS.length ≤ lS) (h : bW.f k aA bS = some r) :
  Calls Tryz.prog 83 #[.agg #[.int .i64 aA, .slice lW bS.length lS]] w fun e w' => e = .returned (.bool r) ∧ Below w.heap.size w w' := by
 obtain ⟨NT, a1V⟩ := bOR
 have xG := am_ qC
 have JH := am_ sN
 clear qC sN
 have HB := am_ (Below.refl w.heap.size w)
 have H : ((dF.f aA 0 12).bind fun b7K => (if b7K = true then (bW.j0 k (decide ((bS.length : Int) > 400)) aA bS) else (bW.j0 k true aA bS))) = some r := h
 clear h
 have HC2 := am_ H
 clear H
 go_enter Tryz.func83, Tryz.ntmps83
 go_upto_region 1 with (first | ((with_reducible refine aAc (N := 1) rfl ?_); (try (refine aAn (by rfl) ?_; dsimp only)); refine bx_ 1 #[.int .i64 aA, .slice lW bS.length lS] 66 ?_; intro b2P hg w3 hbox hb; have iE := am_ (hbox); have c7I := gw_ hg; replace HB := bs_ hb; clear hb hbox hg))
 (try simp only [Act.put, List.setIfInBounds_toArray, List.set_cons_zero, List.set_cons_succ])
 go_cut [14] (fun v14 wc => ∃ (kq : Nat) (aP5 : Bool), v14 = .bool aP5 ∧ Aside0 (bW.j0 kq aP5 aA bS = some r) ∧ Aside0 (kq ≤ k) ∧ Aside0 (wc.heap[b2P]? = some (.cells #[.int .i64 aA, (.slice lW bS.length lS)] 66 (0, 0))) ∧ Aside0 (Below w.heap.size w wc))
 case first =>
  have H := HC2.out; clear HC2; replace H := aBp H; obtain ⟨b7K, N9, H⟩ := H
  try dsimp only at H
  have A4 := am_ N9; clear N9
  by_cases c5 : b7K = true
  ·subst c5
   rw [if_pos rfl] at H; have H' := am_ H; clear H; obtain ⟨kW, kU, kY, lH⟩ := b2_ iE
   go_wp2_with (first | ((with_reducible refine aAa (f := 77) rfl ?_); refine aBh (some 7) Tryz.func77 #[.int .i64 aA, .int .i64 0, .int .i64 12] ?_; (with_reducible refine (dF.calls _ _ _ _ _ A4.out).mono ?_); rintro e w' ⟨rfl, ⟨nd, rfl⟩⟩; refine ⟨_, rfl, ?_⟩))
   go_meet
   case rel => exact ⟨_, (decide ((bS.length : Int) > 400)), rs_, H', ⟨by first | omega | exact Nat.le_refl _⟩, ⟨aBx iE.out⟩, ⟨bb_⟩⟩
  ·replace c5 := Bool.eq_false_iff.mpr c5
   subst c5; replace H := aZf H; have H' := am_ H; clear H; obtain ⟨uN, uU, uY, uP⟩ := b2_ iE
   go_wp2_with (first | ((with_reducible refine aAa (f := 77) rfl ?_); refine aBh (some 7) Tryz.func77 #[.int .i64 aA, .int .i64 0, .int .i64 12] ?_; (with_reducible refine (dF.calls _ _ _ _ _ A4.out).mono ?_); rintro e w' ⟨rfl, ⟨nd, rfl⟩⟩; refine ⟨_, rfl, ?_⟩))
   go_meet
   case rel => exact ⟨_, (true), rs_, H', ⟨by first | omega | exact Nat.le_refl _⟩, ⟨aBx iE.out⟩, ⟨bb_⟩⟩
 case rest =>
  clear HC2; (try clear p2); (try clear c5); (try clear c7); (try clear kW kU); (try clear uN uU); (try clear kY lH); (try clear uY uP); obtain ⟨kq, aP5, rfl, HA, HJ1, iE, HB⟩ := hcut
  cases kq with
  | zero => exact absurd HA.out (by simp [bW.j0])
  | succ kj1 =>
   have H := HA.out; clear HA; simp only [bW.j0] at H
   by_cases c8 : aP5 = true
   ·subst c8
    rw [if_pos rfl] at H; obtain rfl := Option.some.inj H
    go_wp2
    go_ret
    exact ⟨er_, bb_⟩
   ·replace c8 := Bool.eq_false_iff.mpr c8
    subst c8; replace H := aZf H; have H' := am_ H; clear H; obtain ⟨mX, nC, nH, nG⟩ := b2_ iE
    go_wp2
    go_loopg [18] kj1 (fun kq v18 w' => ∃ (jL : Int), v18 = .int .i64 jL ∧ Aside0 (bW.l0 kq bS (bS.length : Int) jL aA bS = some r) ∧ Aside0 (kq ≤ kj1) ∧ Aside0 (w'.heap[b2P]? = some (.cells #[.int .i64 aA, (.slice lW bS.length lS)] 66 (0, 0))) ∧ Aside0 (Below w.heap.size w w'))
    case atStart => exact ⟨(0), rs_, H', ⟨Nat.le_refl _⟩, ⟨aBx iE.out⟩, ⟨bb_⟩⟩
    case round =>
     clear H'; (try clear p2); (try clear c5); (try clear c7); (try clear c8); (try clear kW kU); (try clear uN uU); (try clear mX nC); (try clear kY lH); (try clear uY uP); (try clear nH nG); (try clear p2); obtain ⟨jL, rfl, HA, YB, iE, HB⟩ := hrel
     cases gk with
     | zero => exact absurd HA.out (by simp [bW.l0])
     | succ k2 =>
      have H := HA.out; clear HA; simp only [bW.l0] at H
      by_cases c10 : jL < (bS.length : Int)
      ·rw [if_pos c10] at H
       have UA := decide_eq_true c10; clear c10
       by_cases c11 : 0 ≤ jL
       ·rw [if_pos c11] at H
        have ND := decide_eq_true c11; clear c11
        by_cases c12 : jL < (bS.length : Int)
        ·rw [if_pos c12] at H
         have uK := decide_eq_true c12; clear c12; replace H := aBp H; obtain ⟨bX5, aI2, H⟩ := H
         try dsimp only at H
         have A13 := am_ aI2; clear aI2; have gY := am_ H; clear H; (have bX1 : 0 ≤ (jL : Int) := oa_); (have bZP : jL < (bS.length : Int) := oa_); obtain ⟨bR8, AY, AL, d4L, aTP, aVQ, aLD, aNJ⟩ := G9 xG.out jL bX1 bZP; cases d4L; obtain ⟨aTP, aVQ⟩ := aSr HB aTP aVQ; have MO := am_ aNJ; have MC := am_ aLD; clear aNJ aLD; replace bX1 := eq_true bX1; replace bZP := eq_true bZP
         try go_wp2_with (first | ((with_reducible refine aAc (N := 4) rfl ?_); (try (refine aAn (by rfl) ?_; dsimp only)); refine bx_ 4 #[.slice none 0 0, .int .i64 0] 126 ?_; intro QR hg w16 hbox hb; have jW := am_ (hbox); have cLL := gw_ hg; have a1J := nl_ hg iE; have b0E := ng_ hg iE; replace iE := aAt iE hb; replace HB := bs_ hb; clear hb hbox hg; have bPP := b0E.out; have bP9 := a1J.out; obtain ⟨tY, tJ, tK, sO⟩ := b2_ jW))
         have n0_ : Aside0 (((w16.setCell ⟨QR, 0, none⟩ (.slice AY ((bI bS jL).f0).length AL)).setCell ⟨QR, 1, none⟩ (.int .i64 ((bI bS jL).f1))).heap[b2P]? = some (.cells #[.int .i64 aA, .slice (some bR8) bS.length lS] 66 (0, 0))) := ⟨(aTv a1J (aBx iE.out))⟩; have n1_ : Aside0 (((w16.setCell ⟨QR, 0, none⟩ (.slice AY ((bI bS jL).f0).length AL)).setCell ⟨QR, 1, none⟩ (.int .i64 ((bI bS jL).f1))).heap[QR]? = some (.cells #[.slice AY ((bI bS jL).f0).length AL, .int .i64 ((bI bS jL).f1)] 126 (0, 0))) := ⟨(aWo (aBx jW.out))⟩; have pO : Aside0 (Below w.heap.size w ((w16.setCell ⟨QR, 0, none⟩ (.slice AY ((bI bS jL).f0).length AL)).setCell ⟨QR, 1, none⟩ (.int .i64 ((bI bS jL).f1)))) := ⟨bb_⟩; (try clear iE); (try clear jW); (try clear HB); generalize ((w16.setCell ⟨QR, 0, none⟩ (.slice AY ((bI bS jL).f0).length AL)).setCell ⟨QR, 1, none⟩ (.int .i64 ((bI bS jL).f1))) = w19 at n0_ n1_ pO ⊢; have iE := n0_; have jW := n1_; have HB := pO; clear n0_ n1_ pO; replace iE := am_ (aAz iE.out); replace jW := am_ (aAz jW.out); replace HB := am_ (aAm HB.out); have H := gY.out; clear gY
         by_cases c14 : bX5 = true
         ·subst c14
          rw [if_pos rfl] at H
          by_cases c15 : ((bI bS jL).f1) = 0
          ·rw [if_pos c15] at H
           have YE : (((bI bS jL).f1) == 0) = true := beq_iff_eq.mpr c15; have a19 : (((bI bS jL).f1) != 0) = false := bne_eq_false_iff_eq.mpr c15; clear c15; obtain rfl := Option.some.inj H; (refine st_ 34 (aFt jW (aKh iE)) (fun hHeld => ?_); refine aAv bW.BF bW.pY (fun HT_ HW_ => ?_)); generalize w19.drew = w20 at iE jW HB hHeld ⊢; refine pl_ ?_; refine aBa 2 (bm 34 5) ?_; refine aCx 1 (tf 3 31) ?_; refine tl_ ?_; refine aCm (i := 4) (N := some 27) (tf 5 29) (h := fun K hK => ?_); refine gs_ Tryz.func105 #[.slice AY ((bI bS jL).f0).length AL, .int .i64 aA] ?_; (with_reducible refine (l7.calls _ _ _ _ _ _ (cb_ MO HB) MC.out A13.out).mono ?_); rintro e w21 ⟨rfl, hb⟩; refine ⟨_, rfl, ?_⟩; replace iE := aAt iE hb; replace jW := aAt jW hb; replace HB := bs_ hb; (try clear hb); refine hK.out _ _ (aFt jW (aKh iE)) (fun hHeld => ?_); clear hK K; refine nm_ ?_; refine aBa 5 (tf 6 28) ?_
           iterate 2 (refine pl_ ?_)
           refine tl_ ?_
           iterate 3 (refine pl_ ?_)
           iterate 4 (refine pd_ ?_)
           iterate 2 (refine pl_ ?_)
           iterate 15 (refine pd_ ?_)
           refine pl_ ?_; refine dn_ ?_
           try go_wp2
           go_ret
           exact ⟨er_, bb_⟩
          ·rw [if_neg c15] at H
           have YE : (((bI bS jL).f1) == 0) = false := beq_eq_false_iff_ne.mpr c15; have a19 : (((bI bS jL).f1) != 0) = true := bne_iff_ne.mpr c15; replace H := aBp H; obtain ⟨bWA, c5Q, H⟩ := H
           try dsimp only at H
           have A22 := am_ c5Q; clear c5Q
           by_cases c23 : bWA = true
           ·subst c23
            rw [if_pos rfl] at H
            by_cases c24 : jL > 0
            ·rw [if_pos c24] at H
             have bAQ := decide_eq_true c24; clear c24; obtain ⟨yZ, zF⟩ : ∃ j_ : Int, (wrap64 (jL - 1)) = j_ := ⟨_, rfl⟩; (replace H : (if 0 ≤ (yZ) then (if (yZ) < (bS.length : Int) then ((jT.f k2 ((bI bS (yZ)).f0) ((bI bS jL).f0)).bind fun b6G => (if b6G ≥ 0 then (some false) else (bW.l0 k2 bS (bS.length : Int) (wrap64 (jL + 1)) aA bS))) else (none)) else (none)) = some r := by first | (rw [zF] at H; exact H) | (simp only [zF] at H ⊢; exact H)); (try rw [zF] at A13); (try rw [zF] at A22); have bVP : (IntKind.i64.wrap (jL - 1)) = yZ := (aCj _).trans zF
             by_cases c26 : 0 ≤ (yZ)
             ·rw [if_pos c26] at H
              have bQE := decide_eq_true c26; clear c26
              by_cases fV : (yZ) < (bS.length : Int)
              ·rw [if_pos fV] at H
               have bAP := decide_eq_true fV; clear fV; replace H := aBp H; obtain ⟨b6G, cA9, H⟩ := H
               try dsimp only at H
               have A28 := am_ cA9; clear cA9; have gY := am_ H; clear H; (have bUT : 0 ≤ ((yZ) : Int) := oa_); (have c0Y : (yZ) < (bS.length : Int) := oa_); obtain ⟨cKD, c0M, bXN, d31, NU, QK, aPC, aQA⟩ := G9 xG.out (yZ) bUT c0Y; obtain rfl : bR8 = cKD := (by injection d31); obtain ⟨bEL, bEW⟩ := aSr HB NU QK; have aY5 := am_ aQA; have bGB := am_ aPC; clear aQA aPC; replace bUT := eq_true bUT; replace c0Y := eq_true c0Y; (refine st_ 34 (aFt jW (aFt iE (hc_ ((hb_ HB NU)) (hf_ ((hb_ HB QK)))))) (fun hHeld => ?_); refine aAv bW.BF bW.pY (fun HT_ HW_ => ?_)); generalize w19.drew = w34 at iE jW HB aY5 bEL bEW hHeld ⊢; refine pl_ ?_; refine aBa 2 (bm 34 5) ?_; refine aCx 1 (tf 3 31) ?_; refine tl_ ?_; refine aCm (i := 4) (N := some 27) (tf 5 29) (h := fun K hK => ?_); refine gs_ Tryz.func105 #[.slice AY ((bI bS jL).f0).length AL, .int .i64 aA] ?_; (with_reducible refine (l7.calls _ _ _ _ _ _ (cb_ MO HB) MC.out A13.out).mono ?_); rintro e w35 ⟨rfl, hb⟩; refine ⟨_, rfl, ?_⟩; replace iE := aAt iE hb; replace jW := aAt jW hb; replace HB := bs_ hb; (try clear hb); refine hK.out _ _ (aFt jW (aFt iE (hc_ (hb_ HB NU) (hf_ (hb_ HB QK))))) (fun hHeld => ?_); clear hK K; refine nm_ ?_; refine aBa 5 (tf 6 28) ?_
               iterate 2 (refine pl_ ?_)
               refine tl_ ?_
               iterate 4 (refine pl_ ?_)
               refine tl_ ?_; refine aCm (i := 14) (N := some 37) (tf 15 19) (h := fun K hK => ?_); refine gs_ Tryz.func77 #[.int .i64 ((bI bS jL).f1), .int .i64 (-1000000000), .int .i64 1000000000] ?_; (with_reducible refine (dF.calls _ _ _ _ _ A22.out).mono ?_); rintro e w' ⟨rfl, ⟨nd, rfl⟩⟩; refine ⟨_, rfl, ?_⟩; refine hK.out _ _ (aFt jW (aFt iE (hc_ (hb_ HB NU) (hf_ (hb_ HB QK))))) (fun hHeld => ?_); clear hK K; refine nm_ ?_; refine aBa 15 (tf 16 18) ?_
               iterate 6 (refine pl_ ?_)
               refine aBa 23 (bm 34 12582911) ?_; refine aBa 24 (bm 34 29360127) ?_; refine aBa 28 (bm 34 297795583) ?_; refine aCx 22 (bm 34 301989887) ?_; refine aBa 25 (bm 34 335544319) ?_; refine aBa 26 (bm 34 402653183) ?_; refine aCx 27 (tf 29 5) ?_; refine tl_ ?_; refine aCm (i := 30) (N := some 53) (tf 31 3) (h := fun K hK => ?_); (refine aVh Tryz.func106 (by kernel_rfl) rfl #[.slice c0M ((bI bS (yZ)).f0).length bXN, .slice AY ((bI bS jL).f0).length AL] (by rfl) rfl rfl (by (try simp only [List.map_toArray, List.map_cons, List.map_nil]); first | done | (simp only [zF]; rfl) | rfl | (simp only [List.length_drop, List.length_take]; rfl)) ?_); (with_reducible refine (jT.calls _ _ _ _ _ _ _ _ _ (ck_ (Kd.aAp aY5.out bb_)) bGB.out (ck_ (Kd.aAp MO.out bb_)) MC.out A28.out).mono ?_); rintro e w36 ⟨rfl, hb⟩; refine ⟨_, rfl, ?_⟩; replace iE := aAt iE hb; replace jW := aAt jW hb; replace HB := bs_ hb; (try clear hb); refine hK.out _ _ (aFt jW (aFt iE (hc_ (hb_ HB NU) (hf_ (hb_ HB QK))))) (fun hHeld => ?_); clear hK K; refine nm_ ?_; have H := gY.out; clear gY
               by_cases c29 : b6G ≥ 0
               ·rw [if_pos c29] at H
                have c7A := decide_eq_true c29; clear c29; obtain rfl := Option.some.inj H; refine aBa 31 (tf 32 2) ?_
                iterate 2 (refine pl_ ?_)
                refine dn_ ?_
                try go_wp2
                go_ret
                (exact ⟨by first | rfl | (simp [aBo, aBq] <;> rfl) | (simp only [← zF]; first | rfl | (simp [aBo, aBq] <;> rfl)) | (simp [*, aBo, aBq] <;> rfl), by repeat (first | (with_reducible first | exact HB.out | apply aAi | apply aAo | apply aAm | refine aAk ?_ c7I.out | refine aAk ?_ cLL.out) | exact HB.out)⟩)
               ·rw [if_neg c29] at H
                have c7A := decide_eq_false c29; clear c29; have H' := am_ H; clear H; refine aBa 31 (tf 32 2) ?_
                iterate 2 (refine pl_ ?_)
                refine dn_ ?_
                try go_wp2
                go_roundg k2
                case measure => have := HJ1.out; have := YB.out; omega
                case rel => exact ⟨(wrap64 (jL + 1)), rs_, H', ⟨by have := HJ1.out; have := YB.out; omega⟩, ⟨aBx iE.out⟩, ⟨bb_⟩⟩
              ·rw [if_neg fV] at H
               exact nn_ H
             ·rw [if_neg c26] at H
              exact nn_ H
            ·rw [if_neg c24] at H
             have bAQ := decide_eq_false c24; clear c24; have H' := am_ H; clear H; (refine st_ 34 (aFt jW (aKh iE)) (fun hHeld => ?_); refine aAv bW.BF bW.pY (fun HT_ HW_ => ?_)); generalize w19.drew = w48 at iE jW HB hHeld ⊢; refine pl_ ?_; refine aBa 2 (bm 34 5) ?_; refine aCx 1 (tf 3 31) ?_; refine tl_ ?_; refine aCm (i := 4) (N := some 27) (tf 5 29) (h := fun K hK => ?_); refine gs_ Tryz.func105 #[.slice AY ((bI bS jL).f0).length AL, .int .i64 aA] ?_; (with_reducible refine (l7.calls _ _ _ _ _ _ (cb_ MO HB) MC.out A13.out).mono ?_); rintro e w49 ⟨rfl, hb⟩; refine ⟨_, rfl, ?_⟩; replace iE := aAt iE hb; replace jW := aAt jW hb; replace HB := bs_ hb; (try clear hb); refine hK.out _ _ (aFt jW (aKh iE)) (fun hHeld => ?_); clear hK K; refine nm_ ?_; refine aBa 5 (tf 6 28) ?_
             iterate 2 (refine pl_ ?_)
             refine tl_ ?_
             iterate 4 (refine pl_ ?_)
             refine tl_ ?_; refine aCm (i := 14) (N := some 37) (tf 15 19) (h := fun K hK => ?_); refine gs_ Tryz.func77 #[.int .i64 ((bI bS jL).f1), .int .i64 (-1000000000), .int .i64 1000000000] ?_; (with_reducible refine (dF.calls _ _ _ _ _ A22.out).mono ?_); rintro e w' ⟨rfl, ⟨nd, rfl⟩⟩; refine ⟨_, rfl, ?_⟩; refine hK.out _ _ (aFt jW (aKh iE)) (fun hHeld => ?_); clear hK K; refine nm_ ?_; refine aBa 15 (tf 16 18) ?_
             iterate 5 (refine pl_ ?_)
             iterate 11 (refine pd_ ?_)
             iterate 2 (refine pl_ ?_)
             refine dn_ ?_
             try go_wp2
             go_roundg k2
             case measure => have := HJ1.out; have := YB.out; omega
             case rel => exact ⟨(wrap64 (jL + 1)), rs_, H', ⟨by have := HJ1.out; have := YB.out; omega⟩, ⟨aBx iE.out⟩, ⟨bb_⟩⟩
           ·replace c23 := Bool.eq_false_iff.mpr c23
            subst c23; replace H := aZf H; obtain rfl := Option.some.inj H; (refine st_ 34 (aFt jW (aKh iE)) (fun hHeld => ?_); refine aAv bW.BF bW.pY (fun HT_ HW_ => ?_)); generalize w19.drew = w54 at iE jW HB hHeld ⊢; refine pl_ ?_; refine aBa 2 (bm 34 5) ?_; refine aCx 1 (tf 3 31) ?_; refine tl_ ?_; refine aCm (i := 4) (N := some 27) (tf 5 29) (h := fun K hK => ?_); refine gs_ Tryz.func105 #[.slice AY ((bI bS jL).f0).length AL, .int .i64 aA] ?_; (with_reducible refine (l7.calls _ _ _ _ _ _ (cb_ MO HB) MC.out A13.out).mono ?_); rintro e w55 ⟨rfl, hb⟩; refine ⟨_, rfl, ?_⟩; replace iE := aAt iE hb; replace jW := aAt jW hb; replace HB := bs_ hb; (try clear hb); refine hK.out _ _ (aFt jW (aKh iE)) (fun hHeld => ?_); clear hK K; refine nm_ ?_; refine aBa 5 (tf 6 28) ?_
            iterate 2 (refine pl_ ?_)
            refine tl_ ?_
            iterate 4 (refine pl_ ?_)
            refine tl_ ?_; refine aCm (i := 14) (N := some 37) (tf 15 19) (h := fun K hK => ?_); refine gs_ Tryz.func77 #[.int .i64 ((bI bS jL).f1), .int .i64 (-1000000000), .int .i64 1000000000] ?_; (with_reducible refine (dF.calls _ _ _ _ _ A22.out).mono ?_); rintro e w' ⟨rfl, ⟨nd, rfl⟩⟩; refine ⟨_, rfl, ?_⟩; refine hK.out _ _ (aFt jW (aKh iE)) (fun hHeld => ?_); clear hK K; refine nm_ ?_; refine aBa 15 (tf 16 18) ?_
            iterate 2 (refine pl_ ?_)
            iterate 15 (refine pd_ ?_)
            refine pl_ ?_; refine dn_ ?_
            try go_wp2
            go_ret
            exact ⟨er_, bb_⟩
         ·replace c14 := Bool.eq_false_iff.mpr c14
          subst c14; replace H := aZf H; obtain rfl := Option.some.inj H; (refine st_ 34 (aFt jW (aKh iE)) (fun hHeld => ?_); refine aAv bW.BF bW.pY (fun HT_ HW_ => ?_)); generalize w19.drew = w60 at iE jW HB hHeld ⊢; refine pl_ ?_; refine aBa 2 (bm 34 5) ?_; refine aCx 1 (tf 3 31) ?_; refine tl_ ?_; refine aCm (i := 4) (N := some 27) (tf 5 29) (h := fun K hK => ?_); refine gs_ Tryz.func105 #[.slice AY ((bI bS jL).f0).length AL, .int .i64 aA] ?_; (with_reducible refine (l7.calls _ _ _ _ _ _ (cb_ MO HB) MC.out A13.out).mono ?_); rintro e w61 ⟨rfl, hb⟩; refine ⟨_, rfl, ?_⟩; replace iE := aAt iE hb; replace jW := aAt jW hb; replace HB := bs_ hb; (try clear hb); refine hK.out _ _ (aFt jW (aKh iE)) (fun hHeld => ?_); clear hK K; refine nm_ ?_; refine aBa 5 (tf 6 28) ?_; refine pl_ ?_
          iterate 3 (refine pd_ ?_)
          iterate 2 (refine pl_ ?_)
          iterate 4 (refine pd_ ?_)
          iterate 2 (refine pl_ ?_)
          iterate 15 (refine pd_ ?_)
          refine pl_ ?_; refine dn_ ?_
          try go_wp2
          go_ret
          exact ⟨er_, bb_⟩
        ·rw [if_neg c12] at H
         exact nn_ H
       ·rw [if_neg c11] at H
        exact nn_ H
      ·rw [if_neg c10] at H
       have UA := decide_eq_false c10; clear c10; obtain rfl := Option.some.inj H
       go_wp2
       go_ret
       exact ⟨er_, bb_⟩
theorem a01.calls (f : S126 → Option Bool) (g : Nat) (lb : Array Value) (eg : ∀ args w, (callFunc g args).run Tryz.prog w = .ok (.enter g args) w) (A : Option Addr) (c : Nat) (xs : List S126) (r : Int) (w : World) (hr : Kd.C jU w A xs.length xs) (hp : CB Tryz.prog jU (fun cs => Value.agg cs.toArray) g lb f xs w) (h : aGj f xs 0 = some r) :
  Calls Tryz.prog 129 #[.slice A xs.length c, .func (.func g) #[] lb] w fun e w' => e = .returned (.int .i64 r) ∧ Below w.heap.size w w' := by
 have hbig : xs.length ≤ 9223372036854775807 := hr.2.1
 have HR := am_ hr
 have HP := am_ hp
 have HX := am_ h
 clear hr hp h
 go_enter Tryz.func129, Tryz.ntmps129
 go_wp2
 go_loopg [5, 8] xs.length (fun gg _ s8 wr => ∃ x : Int, s8 = .int .i64 x ∧ Aside0 (0 ≤ x ∧ x ≤ xs.length ∧ xs.length - x.toNat ≤ gg ∧ aGj f (xs.drop x.toNat) x = some r ∧ Below w.heap.size w wr))
 case atStart => exact ⟨0, rfl, ⟨by omega, by omega, by simp, by simpa using HX.out, Below.refl _ _⟩⟩
 case round =>
  obtain ⟨x, rfl, HI⟩ := hrel; obtain ⟨x0, x1, hg, hi, BW⟩ := HI.out
  by_cases hlt : x < (xs.length : Int)
  ·have c4 : decide (x < (xs.length : Int)) = true := decide_eq_true hlt
   have c5 : decide (0 ≤ x) = true := decide_eq_true x0; obtain ⟨ad, cs, rfl, hl, hK, hcell⟩ := Kd.aEj (Kd.aAp HR.out BW) (aEs : S126) x x0 hlt; obtain ⟨b, hb, hm, ht, hf⟩ := aEq (aEs : S126) x0 hlt hi; generalize xs.getD x.toNat (aEs : S126) = p at hK hb hm; have F3 := hK; obtain ⟨aA0, aC0, rfl, _, _⟩ := LM hK; have hcell1 : ∀ j u, ([(.slice aA0 p.f0.length aC0), (.int .i64 p.f1)] : List Value)[j]? = some u → wr.cell? (ad.add (x.toNat * 2 + j)) = some u := hcell; have hc0 : wr.cell? (ad.add (x.toNat * 2)) = some (.slice aA0 p.f0.length aC0) := hcell1 0 _ rfl; (have hc1 : wr.cell? ⟨(ad.add (x.toNat * 2)).block, (ad.add (x.toNat * 2)).off + 1, none⟩ = some (.int .i64 p.f1) := by rw [← aAg _ _ 1 (by omega)]; exact hcell1 1 _ rfl); have hcall : Calls Tryz.prog g (#[(.agg #[(.slice aA0 p.f0.length aC0), (.int .i64 p.f1)])] ++ lb) wr (fun e w' => e = .returned (.bool b) ∧ Below wr.heap.size wr w') := HP.out wr _ _ b BW hm F3 hb
   cases b with
   | true =>
    have HJ := am_ (And.intro (ht rfl) BW); clear hcell hcell1 hK hb hm ht hf hi BW HI hg hl F3
    go_wp2_with (go_at_fn g; refine hcall.mono ?_; rintro e w' ⟨rfl, hb'⟩)
    go_ret
    exact ⟨aDo HJ.out.1.symm, HJ.out.2.trans (hb'.mono HJ.out.2.size)⟩
   | false =>
    have HJ := am_ (And.intro hg (And.intro (hf rfl) BW)); clear hcell hcell1 hK hb hm ht hf hi BW HI hg hl F3
    go_wp2_with (go_at_fn g; refine hcall.mono ?_; rintro e w' ⟨rfl, hb'⟩)
    go_roundg (xs.length - (x.toNat + 1))
    case measure => have := HJ.out.1; omega
    case rel => exact ⟨x + 1, by go_num, ⟨by omega, by omega, by omega, HJ.out.2.1, HJ.out.2.2.trans (hb'.mono HJ.out.2.2.size)⟩⟩
  ·have c4 : decide (x < (xs.length : Int)) = false := decide_eq_false hlt
   have hr : r = -1 := aFl hlt hi; clear hi HI; subst hr
   go_wp2
   go_ret
   exact ⟨rfl, BW⟩

theorem O9.calls (f : S126 → Option Bool) (g : Nat) (lb : Array Value) (eg : ∀ args w, (callFunc g args).run Tryz.prog w = .ok (.enter g args) w) (A : Option Addr) (c : Nat) (xs : List S126) (r : Int) (w : World) (hr : Kd.C jU w A xs.length xs) (hp : CB Tryz.prog jU (fun cs => Value.agg cs.toArray) g lb f xs w) (h : aGj f xs 0 = some r) :
  Calls Tryz.prog 107 #[.slice A xs.length c, .func (.func g) #[] lb] w fun e w' => e = .returned (.bool (decide (r ≥ 0))) ∧ Below w.heap.size w w' := by
 have hcall := a01.calls f g lb eg A c xs r w hr hp h
 clear hr hp h
 go_enter Tryz.func107, Tryz.ntmps107
 go_wp2_with (go_at_call 129; refine hcall.mono ?_; rintro e w' ⟨rfl, hb'⟩)
 go_ret
 exact ⟨rfl, hb'⟩

theorem I8.not (f : S126 → Option Bool) (g : Nat) (lb : Array Value) (eg : ∀ args w, (callFunc g args).run Tryz.prog w = .ok (.enter g args) w) (B : Nat) (xs : List S126) (w : World) (hB : B < w.heap.size) (hp : CB Tryz.prog jU (fun cs => Value.agg cs.toArray) g lb f xs w) (hc : w.cell? ⟨B, 0, none⟩ = some (.func (.func g) #[] lb)) :
  CB Tryz.prog jU (fun cs => Value.agg cs.toArray) 108 #[.pointer (some ⟨B, 0, none⟩)] (fun x => (f x).map not) xs w := by
   intro W x cs b hb hm hK hf; obtain ⟨t, ht, rfl⟩ := Option.map_eq_some_iff.1 hf; have F3 := hK; have hc' : W.cell? ⟨B, 0, none⟩ = some (.func (.func g) #[] lb) := (hb.cell (p := ⟨B, 0, none⟩) hB).trans hc; obtain ⟨aA0, aC0, rfl, _, _⟩ := LM hK; (have hcall : ∀ W1, Below W.heap.size W W1 → Calls Tryz.prog g (#[(.agg #[(.slice aA0 x.f0.length aC0), (.int .i64 x.f1)])] ++ lb) W1 (fun e w' => e = .returned (.bool t) ∧ Below W1.heap.size W1 w') := fun W1 h1 => hp W1 x _ t (hb.trans (h1.mono hb.size)) hm (Kd.K_below _ h1 F3) ht); (have hcd := fun o : Obj => aBn o hc'); (have HN := am_ (show B ≠ W.heap.size from fun e => by have := hb.size; omega)); clear hp hf hK F3 hm hb hc ht; have hBW := HN.out; have hBW' := Ne.symm hBW
   show Calls Tryz.prog 108 #[(.agg #[(.slice aA0 x.f0.length aC0), (.int .i64 x.f1)]), .pointer (some ⟨B, 0, none⟩)] W _
   go_enter Tryz.func108, Tryz.ntmps108
   go_wp2_with (go_at_fn g; refine (hcall _ (by first | exact Below.refl _ _ | exact aAi (Below.refl _ _) _)).mono ?_; rintro e w' ⟨rfl, hb'⟩)
   go_ret
   (exact ⟨rfl, by first | exact hb' | exact (aAi (Below.refl _ _) _ : Below W.heap.size W _).trans (hb'.mono (by simp))⟩)
theorem I8.calls (f : S126 → Option Bool) (g : Nat) (lb : Array Value) (eg : ∀ args w, (callFunc g args).run Tryz.prog w = .ok (.enter g args) w) (A : Option Addr) (c : Nat) (xs : List S126) (r : Bool) (w : World) (hr : Kd.C jU w A xs.length xs) (hp : CB Tryz.prog jU (fun cs => Value.agg cs.toArray) g lb f xs w) (h : aHn f xs = some r) :
  Calls Tryz.prog 84 #[.slice A xs.length c, .func (.func g) #[] lb] w fun e w' => e = .returned (.bool r) ∧ Below w.heap.size w w' := by
 obtain ⟨j, hj, hjr⟩ := aEw h 0 (Int.le_refl _)
 have e_l : ∀ args w, (callFunc 108 args).run Tryz.prog w = .ok (.enter 108 args) w := enters_of Tryz.func108 (by kernel_rfl) rfl
 have hB0 : Below w.heap.size w (w.alloc (.cells #[.func (.func g) #[] lb] 128)) := aAi (Below.refl _ _) _
 have hp1 := CB.later hB0 hp
 have hnot := I8.not f g lb eg w.heap.size xs _ (by simp) hp1 (by simp)
 have hcall := O9.calls _ 108 _ e_l A c xs j _ (Kd.aAp hr hB0) hnot hj
 have HJ := am_ hjr
 clear hr hp h hjr hj hp1 hnot hB0
 go_enter Tryz.func84, Tryz.ntmps84
 go_wp2_with (go_at_call 107; refine hcall.mono ?_; rintro e w' ⟨rfl, hb'⟩)
 go_ret
 exact ⟨aDj (by rw [HJ.out]; cases r <;> rfl), (aAi (Below.refl _ _) _ : Below w.heap.size w _).trans (hb'.mono (by simp))⟩

def pM.f (lT : List S36) (aD : Int) : Option Bool := some (decide (aD > 0))
theorem pM.calls (xL : Option Addr) (xY : Nat) (lT : List S36) (aD : Int) (r : Bool) (w : World) (KC : Kd.C ER w xL lT.length lT) (JU : lT.length ≤ xY) (h : pM.f lT aD = some r) :
  Calls Tryz.prog 85 #[.agg #[.slice xL lT.length xY, .int .i64 aD]] w fun e w' => e = .returned (.bool r) ∧ Below w.heap.size w w' := by
 have a1V := Tryz.underlying126
 have PL := am_ KC
 have OC := am_ JU
 clear KC JU
 have HB := am_ (Below.refl w.heap.size w)
 have H : (some (decide (aD > 0))) = some r := h
 clear h
 obtain rfl := Option.some.inj H
 go_enter Tryz.func85, Tryz.ntmps85
 go_wp2_with (first | ((with_reducible refine aAc (N := 1) rfl ?_); refine bx_ 1 #[.slice xL lT.length xY, .int .i64 aD] 126 ?_; intro dA4 hg w2 hbox hb; have cKS := am_ (hbox); have d92 := gw_ hg; replace HB := bs_ hb; clear hb hbox hg; obtain ⟨d58, d57, d4X, d5U⟩ := b2_ cKS))
 go_ret
 exact ⟨er_, bb_⟩

def rV.f (k : Nat) (a0 : Int) (l0 : List S126) : Option Bool := (bW.f k a0 l0).bind fun t => if t = true then aHn (fun x => pM.f x.f0 x.f1) l0 else some false
theorem aSz (xs : List S126) (w : World) : CB Tryz.prog jU (fun cs => Value.agg cs.toArray) 85 #[] (fun x => pM.f x.f0 x.f1) xs w := by
  intro W x cs b _ _ hK hf
  obtain ⟨A0, c0, rfl, hl0, hg0⟩ := LM hK
  refine Calls.mono (show Calls Tryz.prog 85 #[.agg #[.slice A0 x.f0.length c0, .int .i64 x.f1]] W _ from pM.calls A0 c0 _ _ b W hg0 hl0 hf) ?_
  rintro e w' ⟨rfl, hb⟩
  exact ⟨rfl, hb⟩
theorem rV.calls (k : Nat) (aA : Int) (lW : Option Addr) (lS : Nat) (bS : List S126) (r : Bool) (w : World) (qC : Kd.C jU w lW bS.length bS) (sN : bS.length ≤ lS) (h : rV.f k aA bS = some r) :
    Calls Tryz.prog 60 #[.agg #[.int .i64 aA, .slice lW bS.length lS]] w fun e w' => e = .returned (.bool r) ∧ Below w.heap.size w w' := by
  obtain ⟨t, ht, h⟩ := Option.bind_eq_some_iff.1 h
  have hu1 := Tryz.underlying66
  have eg : ∀ args w, (callFunc 85 args).run Tryz.prog w = .ok (.enter 85 args) w := enters_of Tryz.func85 (by kernel_rfl) rfl
  have hB1 : Below w.heap.size w (w.alloc (.cells #[.int .i64 aA, .slice lW bS.length lS] 66)) := aAi (Below.refl _ _) _
  have hbag := bW.calls k aA lW lS bS t _ (Kd.aAp qC hB1) sN ht
  have HB1 := am_ hB1
  cases t with
  | false =>
    obtain rfl : false = r := by simpa using h
    clear h ht qC hB1
    go_enter Tryz.func60, Tryz.ntmps60
    go_wp2_with (go_at_call 83; refine hbag.mono ?_; rintro e w' ⟨rfl, hb'⟩)
    go_ret
    exact ⟨rfl, HB1.out.trans (hb'.mono HB1.out.size)⟩
  | true =>
    rw [if_pos rfl] at h
    have hall := fun W (hb : Below w.heap.size w W) => I8.calls _ 85 #[] eg lW lS bS r W (Kd.aAp qC hb) (aSz bS W) h
    clear h ht qC hB1
    go_enter Tryz.func60, Tryz.ntmps60
    go_wp2_with (first
      | (go_at_call 83
         refine hbag.mono ?_
         rintro e w' ⟨rfl, hb'⟩
         have hb0 : w'.cell? ⟨w.heap.size, 1, none⟩ = some (.slice lW bS.length lS) := (hb'.cell (p := ⟨w.heap.size, 1, none⟩) (by simp <;> omega)).trans ((cell_of_block (heap_alloc_new w _) 1).trans rfl)
         have HF := am_ (HB1.out.trans (hb'.mono HB1.out.size) : Below w.heap.size w w')
         clear hb')
      | (go_at_call 84
         refine (hall _ HF.out).mono ?_
         rintro e w2 ⟨rfl, hb2⟩))
    go_ret
    exact ⟨rfl, HF.out.trans (hb2.mono HF.out.size)⟩

def sD.f (k : Nat) (aA : ByteArray) (aD : Int) (kK : List S126) : Option Bool := (rV.f k aD kK).bind fun bNA => (some bNA)
theorem sD.calls (k : Nat) (aA : ByteArray) (aD : Int) (wQ : Option Addr) (wP : Nat) (kK : List S126) (r : Bool) (w : World) (JX : Kd.C jU w wQ kK.length kK) (JE : kK.length ≤ wP) (h : sD.f k aA aD kK = some r) :
  Calls Tryz.prog 59 #[.agg #[.string aA, .int .i64 aD, .slice wQ kK.length wP]] w fun e w' => e = .returned (.bool r) ∧ Below w.heap.size w w' := by
 obtain ⟨aJ8, NT⟩ := cLI
 have PS := am_ JX
 have NY := am_ JE
 clear JX JE
 have HB := am_ (Below.refl w.heap.size w)
 have H : ((rV.f k aD kK).bind fun bNA => (some bNA)) = some r := h
 clear h
 replace H := aBp H
 obtain ⟨bNA, BB, H⟩ := H
 try dsimp only at H
 have A2 := am_ BB
 clear BB
 obtain rfl := Option.some.inj H
 go_enter Tryz.func59, Tryz.ntmps59
 go_wp2_with (first | ((with_reducible refine aAc (N := 1) rfl ?_); refine bx_ 1 #[.string aA, .int .i64 aD, .slice wQ kK.length wP] 68 ?_; intro d8A hg w3 hbox hb; have b7Y := am_ (hbox); have d9G := gw_ hg; replace HB := bs_ hb; clear hb hbox hg; obtain ⟨b2V, b7B, b34, b86, b1V, b77⟩ := b3_ b7Y) | ((with_reducible refine aAa (f := 60) rfl ?_); refine aBh (some 5) Tryz.func60 #[.agg #[.int .i64 aD, .slice wQ kK.length wP]] ?_; (with_reducible refine (rV.calls _ _ _ _ _ _ _ (cb_ PS HB) NY.out A2.out).mono ?_); rintro e w5 ⟨rfl, hb⟩; refine ⟨_, rfl, ?_⟩; replace b7Y := aAt b7Y hb; replace HB := bs_ hb; (try clear hb)))
 go_ret
 exact ⟨er_, bb_⟩

def pQ.f (k : Nat) (l0 : List S68) : Option Bool :=
  if (l0.length : Int) ≤ 20 then ((gJ.f k l0).bind fun ns => (fB.f k ns).bind fun t => if t = true then aHn (fun x => sD.f k x.f0 x.f1.f0 x.f1.f1) l0 else some false) else some false
theorem aVb (k : Nat) (xs : List S68) (w : World) : CB Tryz.prog BC (fun cs => Value.agg cs.toArray) 59 #[] (fun x => sD.f k x.f0 x.f1.f0 x.f1.f1) xs w := by
  intro W x cs b _ _ hK hf
  obtain ⟨A0, c0, rfl, hl0, hg0⟩ := AR hK
  refine Calls.mono (show Calls Tryz.prog 59 #[.agg #[.string x.f0, .int .i64 x.f1.f0, .slice A0 x.f1.f1.length c0]] W _ from sD.calls k _ _ A0 c0 _ b W hg0 hl0 hf) ?_
  rintro e w' ⟨rfl, hb⟩
  exact ⟨rfl, hb⟩
theorem pQ.calls (k : Nat) (A0 : Option Addr) (c0 : Nat) (l0 : List S68) (r : Bool) (w : World) (hr0 : Kd.C BC w A0 l0.length l0) (hc0 : l0.length ≤ c0) (h : pQ.f k l0 = some r) :
    Calls Tryz.prog 37 #[.slice A0 l0.length c0] w fun e w' => e = .returned (.bool r) ∧ Below w.heap.size w w' := by
  unfold pQ.f at h
  by_cases hl : (l0.length : Int) ≤ 20
  · rw [if_pos hl] at h
    have d0 : decide ((l0.length : Int) ≤ 20) = true := decide_eq_true hl
    have d1 : l0.length ≤ 20 := by omega
    obtain ⟨ns, hns, h⟩ := Option.bind_eq_some_iff.1 h
    obtain ⟨t, ht, h⟩ := Option.bind_eq_some_iff.1 h
    have hnames := gJ.calls k A0 c0 l0 ns w hr0 hc0 hns
    have hrise := fun W A c hr hc => fB.calls k A c ns t W hr hc ht
    have eg : ∀ args w, (callFunc 59 args).run Tryz.prog w = .ok (.enter 59 args) w := enters_of Tryz.func59 (by kernel_rfl) rfl
    have hall : ∀ W (hb : Below w.heap.size w W), t = true → Calls Tryz.prog 58 #[.slice A0 l0.length c0, .func (.func 59) #[] #[]] W fun e w' => e = .returned (.bool r) ∧ Below W.heap.size W w' := fun W hb e => NL.calls _ 59 #[] eg A0 c0 l0 r W (Kd.aAp hr0 hb) (aVb k l0 W) (by rw [if_pos e] at h; exact h)
    have hfalse := am_ (show t = false → r = false from fun e => by rw [if_neg (by simp [e])] at h; exact (Option.some.inj h).symm)
    clear h ht hns hr0
    go_enter Tryz.func37, Tryz.ntmps37
    cases t with
    | false =>
      obtain rfl := hfalse.out rfl
      go_wp2_with (first
        | (go_at_call 57
           refine hnames.mono ?_
           rintro e w' ⟨v0, rfl, hR, hb⟩
           obtain ⟨A, c, rfl, hAc, hC⟩ := Kd.aFu hR
           have HB := am_ hb
           have HC := am_ hC
           clear hR hb hnames hC)
        | (go_at_call 38
           refine (hrise _ _ _ HC.out hAc).mono ?_
           rintro e w2 ⟨rfl, hb2⟩
           have HB2 := am_ (HB.out.trans (hb2.mono HB.out.size))
           clear hb2))
      go_ret
      exact ⟨rfl, HB2.out⟩
    | true =>
      go_wp2_with (first
        | (go_at_call 57
           refine hnames.mono ?_
           rintro e w' ⟨v0, rfl, hR, hb⟩
           obtain ⟨A, c, rfl, hAc, hC⟩ := Kd.aFu hR
           have HB := am_ hb
           have HC := am_ hC
           clear hR hb hnames hC)
        | (go_at_call 38
           refine (hrise _ _ _ HC.out hAc).mono ?_
           rintro e w2 ⟨rfl, hb2⟩
           have HB2 := am_ (HB.out.trans (hb2.mono HB.out.size))
           clear hb2)
        | (go_at_call 58
           refine (hall _ HB2.out (by trivial)).mono ?_
           rintro e w3 ⟨rfl, hb3⟩))
      go_ret
      exact ⟨rfl, HB2.out.trans (hb3.mono HB2.out.size)⟩
  · rw [if_neg hl] at h
    obtain rfl := Option.some.inj h
    have d0 : decide ((l0.length : Int) ≤ 20) = false := decide_eq_false hl
    have d1 : ¬ l0.length ≤ 20 := by omega
    clear h hl hr0
    go_enter Tryz.func37, Tryz.ntmps37
    go_wp2
    go_ret
    exact ⟨rfl, by repeat (first | exact Below.refl _ _ | apply aAo)⟩

def fF.l0 : Nat → List ByteArray → List S83 → Int → Int → Option (List ByteArray)
 | 0, _, _, _, _ => none
 | k + 1, x3, x6, x7, x8 => if x8 < x7 then (if 0 ≤ x8 then (if x8 < (x6.length : Int) then (if x3.length < 8796093022208 then (fF.l0 k (x3 ++ [(aAl x6 x8).f0]) x6 x7 (wrap64 (x8 + 1))) else (none)) else (none)) else (none)) else (some x3)
def fF.f (k : Nat) (l0 : List S83) : Option (List ByteArray) := fF.l0 k ([] : List ByteArray) l0 (l0.length : Int) 0
theorem fF.calls (k : Nat) (A0 : Option Addr) (c0 : Nat) (l0 : List S83) (r : List ByteArray) (w : World) (hr0 : Kd.C X8 w A0 l0.length l0) (hc0 : l0.length ≤ c0) (h : fF.f k l0 = some r) :
  Calls Tryz.prog 39 #[.slice A0 l0.length c0] w fun e w' => ∃ I7 : Value, e = .returned (I7) ∧ Kd.R Kd.string 9 w' w.heap.size (fun _ => True) I7 r ∧ Below w.heap.size w w' := by
 have b6K := Tryz.underlying83
 have jY := am_ hr0
 have oQ := am_ hc0
 clear hr0 hc0
 have HB := am_ (Below.refl w.heap.size w)
 have H : (fF.l0 k ([] : List ByteArray) l0 (l0.length : Int) 0) = some r := h
 clear h
 have H' := am_ H
 clear H
 go_enter Tryz.func39, Tryz.ntmps39
 go_wp2
 go_loopg [3, 8] k (fun kq v3 v8 w' => ∃ (bA : List ByteArray) (gU : Int), v8 = .int .i64 gU ∧ Aside0 (fF.l0 kq bA l0 (l0.length : Int) gU = some r) ∧ Aside0 (kq ≤ k) ∧ Aside0 (Kd.R Kd.string 9 w' w.heap.size (fun _ => True) v3 bA) ∧ Aside0 (Below w.heap.size w w'))
 case atStart => exact ⟨(([] : List ByteArray)), (0), rs_, H', ⟨Nat.le_refl _⟩, ⟨by first | exact Kd.aFr _ _ _ _ _ | exact Kd.aRo _ _ _ _ _ | exact Kd.aOg _ _ _ _ _ | exact Kd.aRw _ _ _ _ _ | exact Kd.aRy _ _ _ _ _⟩, ⟨bb_⟩⟩
 case round =>
  clear H'; obtain ⟨bA, gU, rfl, HA, jK, dS, HB⟩ := hrel
  cases gk with
  | zero => exact absurd HA.out (by simp [fF.l0])
  | succ k1 =>
   have H := HA.out; clear HA; simp only [fF.l0] at H
   by_cases c2 : gU < (l0.length : Int)
   ·rw [if_pos c2] at H
    have qD := decide_eq_true c2; clear c2
    by_cases c3 : 0 ≤ gU
    ·rw [if_pos c3] at H
     have fC := decide_eq_true c3; clear c3
     by_cases c4 : gU < (l0.length : Int)
     ·rw [if_pos c4] at H
      have iB := decide_eq_true c4; clear c4
      by_cases c5 : bA.length < 8796093022208
      ·rw [if_pos c5] at H
       have bUZ := am_ c5; clear c5; obtain ⟨cIN, aHK⟩ : ∃ y_ : List ByteArray, y_ = (bA ++ [(aAl l0 gU).f0]) := ⟨_, rfl⟩; (replace H : (fF.l0 k1 cIN l0 (l0.length : Int) (wrap64 (gU + 1))) = some r := by first | (rw [aHK]; with_reducible exact H) | (have jC := (Option.bind_some _ _).symm.trans H; rw [aHK]; with_reducible exact jC) | (have jC := (Option.bind_some _ _).symm.trans H; with_reducible exact jC) | with_reducible exact H | (rw [aHK]; exact H) | exact H); have c4Z := am_ aHK; clear aHK; have H' := am_ H; clear H; (have bWY : 0 ≤ (gU : Int) := oa_); (have bXM : gU < (l0.length : Int) := oa_); obtain ⟨d7K, bYX, c0K, bGM, bCP, bGE, bIL, bNG, bOH, d64, aOS, aNW, aPO, aWI, aTG, aTH, aVG, aOC, aMX, aQE, aDT, aC3, aII, aE1, aF4, aUL, aXG, aGG, aHY, aE8, aFL, aFB, aH6⟩ := IM jY.out gU bWY bXM; cases d64; obtain ⟨aOS, aNW, aPO, aWI, aTG, aTH, aVG, aOC, aMX, aQE, aDT, aC3, aII, aE1, aF4⟩ := aKe HB aOS aNW aPO aWI aTG aTH aVG aOC aMX aQE aDT aC3 aII aE1 aF4; have d1H := am_ aXG; have cRO := am_ aUL; clear aXG aUL; have cB6 := am_ aHY; have cHX := am_ aGG; clear aHY aGG; have c6Y := am_ aFL; have cE1 := am_ aE8; clear aFL aE8; have cJF := am_ aH6; have cMD := am_ aFB; clear aH6 aFB; replace bWY := eq_true bWY; replace bXM := eq_true bXM
       go_wp2_with (first | ((with_reducible refine aAc (N := 5) rfl ?_); refine bx_ 5 #[.string (⟨#[]⟩ : ByteArray), .int .i64 0, .string (⟨#[]⟩ : ByteArray), .int .i64 0, .int .i64 0, .int .i64 0, .int .i64 0, .string (⟨#[]⟩ : ByteArray), .string (⟨#[]⟩ : ByteArray), .slice none 0 0, .slice none 0 0, .int .i64 0, .slice none 0 0, .int .i64 0, .slice none 0 0] 83 ?_; intro cCJ hg w6 hbox hb; have aPT := am_ (hbox); have d8Q := gw_ hg; replace dS := am_ (Kd.aAs (rk_ dS.out) hb); replace HB := bs_ hb; clear hb hbox hg; obtain ⟨uN, uU, FR, aBK, a8L, a9S, a6E, b9U, b1I, b74, aN0, aSI, cWT, cPG, cNF, uY, uP, FJ, aAQ, aAS, a7N, a2Z, b36, b1K, bA9, aKE, aRU, cUF, cOP, cUE⟩ := aHm aPT) | ((with_reducible refine aEx (b := .append) (xs := #[.tmp 12, .tmp 15]) rfl ?_); at_builtin; refine Kd.aLu Kd.string (w0 := w) w.heap.size rfl (.tmp 12) (.tmp 15) 88 9 (.string ⟨#[]⟩) 16 rfl Tryz.underlying88 bQQ rfl (by decide) (by omega) u3 bA ((aAl l0 gU).f0) [.string ((aAl l0 gU).f0)] (fun _ => True) (fun _ => False) rfl (by first | (go_simp; done) | (go_simp; rfl)) ?aP (fun _ hk => hk.elim) ?aF ?aO ?aB ?aS ?aL ?_; (case aP => exact rfl); (case aB => exact bb_); (case aF => exact (fun _ _ => trivial)); (case aO => exact (rk_ (Kd.aAw (aTf (Kd.aCa dS.out aPT.out (by decide)) (fun _ hk => hk.2)) (fun _ hk => trivial)))); (case aS => exact (aAj bb_)); (case aL => have := bUZ.out; omega); intro dDY w8 ho hb hg hat; rw [← c4Z.out] at ho; have c7F := am_ (ho); replace aPT := am_ (aFd (g := cCJ) (o := .cells #[.string ((aAl l0 gU).f0), .int .i64 ((aAl l0 gU).f1.f0), .string ((aAl l0 gU).f1.f1), .int .i64 ((aAl l0 gU).f1.f2.f0), .int .i64 ((aAl l0 gU).f1.f2.f1), .int .i64 ((aAl l0 gU).f1.f2.f2.f0), .int .i64 ((aAl l0 gU).f1.f2.f2.f1), .string ((aAl l0 gU).f1.f2.f2.f2), .string ((aAl l0 gU).f1.f2.f3), .slice bYX ((aAl l0 gU).f1.f2.f4).length c0K, .slice bGM ((aAl l0 gU).f1.f3).length bCP, .int .i64 ((aAl l0 gU).f1.f4), .slice bGE ((aAl l0 gU).f1.f5).length bIL, .int .i64 ((aAl l0 gU).f2.f0), .slice bNG ((aAl l0 gU).f2.f1).length bOH] 83 (0, 0)) bw_ hg (Kd.aWf dS.out aPT.out (by decide))); replace HB := am_ (hb); clear dS; clear ho hb hg hat))
       go_roundg k1
       case measure => have := jK.out; omega
       case rel => exact ⟨(cIN), (wrap64 (gU + 1)), rs_, H', ⟨by have := jK.out; omega⟩, ⟨by (with_reducible repeat (first | apply Kd.aBf | apply Kd.aBg | apply Kd.aBi)); exact c7F.out⟩, ⟨bb_⟩⟩
      ·rw [if_neg c5] at H
       exact nn_ H
     ·rw [if_neg c4] at H
      exact nn_ H
    ·rw [if_neg c3] at H
     exact nn_ H
   ·rw [if_neg c2] at H
    have qD := decide_eq_false c2; clear c2; obtain rfl := Option.some.inj H
    go_wp2
    go_ret
    (exact ⟨_, rr_, by (with_reducible repeat (first | apply Kd.aBf | apply Kd.aBg | apply Kd.aBi)); exact dS.out, by repeat (first | (with_reducible first | exact HB.out | apply aAi | apply aAo | apply aAm) | exact HB.out)⟩)

theorem a07.calls (f : S83 → Option Bool) (g : Nat) (lb : Array Value) (eg : ∀ args w, (callFunc g args).run Tryz.prog w = .ok (.enter g args) w) (A : Option Addr) (c : Nat) (xs : List S83) (r : Int) (w : World) (hr : Kd.C X8 w A xs.length xs) (hp : CB Tryz.prog X8 (fun cs => Value.agg cs.toArray) g lb f xs w) (h : aGj f xs 0 = some r) :
  Calls Tryz.prog 90 #[.slice A xs.length c, .func (.func g) #[] lb] w fun e w' => e = .returned (.int .i64 r) ∧ Below w.heap.size w w' := by
 have hbig : xs.length ≤ 9223372036854775807 := hr.2.1
 have HR := am_ hr
 have HP := am_ hp
 have HX := am_ h
 clear hr hp h
 go_enter Tryz.func90, Tryz.ntmps90
 go_wp2
 go_loopg [5, 8] xs.length (fun gg _ s8 wr => ∃ x : Int, s8 = .int .i64 x ∧ Aside0 (0 ≤ x ∧ x ≤ xs.length ∧ xs.length - x.toNat ≤ gg ∧ aGj f (xs.drop x.toNat) x = some r ∧ Below w.heap.size w wr))
 case atStart => exact ⟨0, rfl, ⟨by omega, by omega, by simp, by simpa using HX.out, Below.refl _ _⟩⟩
 case round =>
  obtain ⟨x, rfl, HI⟩ := hrel; obtain ⟨x0, x1, hg, hi, BW⟩ := HI.out
  by_cases hlt : x < (xs.length : Int)
  ·have c4 : decide (x < (xs.length : Int)) = true := decide_eq_true hlt
   have c5 : decide (0 ≤ x) = true := decide_eq_true x0; obtain ⟨ad, cs, rfl, hl, hK, hcell⟩ := Kd.aEj (Kd.aAp HR.out BW) (z83 : S83) x x0 hlt; obtain ⟨b, hb, hm, ht, hf⟩ := aEq (z83 : S83) x0 hlt hi; generalize xs.getD x.toNat (z83 : S83) = p at hK hb hm; have F3 := hK; obtain ⟨aA9, aC9, aYL, aYD, aYJ, aZP, aZ3, aYR, rfl, _, _, _, _, _, _, _, _⟩ := RZ hK; have hcell1 : ∀ j u, ([(.string p.f0), (.int .i64 p.f1.f0), (.string p.f1.f1), (.int .i64 p.f1.f2.f0), (.int .i64 p.f1.f2.f1), (.int .i64 p.f1.f2.f2.f0), (.int .i64 p.f1.f2.f2.f1), (.string p.f1.f2.f2.f2), (.string p.f1.f2.f3), (.slice aA9 p.f1.f2.f4.length aC9), (.slice aYL p.f1.f3.length aYD), (.int .i64 p.f1.f4), (.slice aYJ p.f1.f5.length aZP), (.int .i64 p.f2.f0), (.slice aZ3 p.f2.f1.length aYR)] : List Value)[j]? = some u → wr.cell? (ad.add (x.toNat * 15 + j)) = some u := hcell; have hc0 : wr.cell? (ad.add (x.toNat * 15)) = some (.string p.f0) := hcell1 0 _ rfl; (have hc1 : wr.cell? ⟨(ad.add (x.toNat * 15)).block, (ad.add (x.toNat * 15)).off + 1, none⟩ = some (.int .i64 p.f1.f0) := by rw [← aAg _ _ 1 (by omega)]; exact hcell1 1 _ rfl); (have hc2 : wr.cell? ⟨(ad.add (x.toNat * 15)).block, (ad.add (x.toNat * 15)).off + 2, none⟩ = some (.string p.f1.f1) := by rw [← aAg _ _ 2 (by omega)]; exact hcell1 2 _ rfl); (have hc3 : wr.cell? ⟨(ad.add (x.toNat * 15)).block, (ad.add (x.toNat * 15)).off + 3, none⟩ = some (.int .i64 p.f1.f2.f0) := by rw [← aAg _ _ 3 (by omega)]; exact hcell1 3 _ rfl); (have hc4 : wr.cell? ⟨(ad.add (x.toNat * 15)).block, (ad.add (x.toNat * 15)).off + 4, none⟩ = some (.int .i64 p.f1.f2.f1) := by rw [← aAg _ _ 4 (by omega)]; exact hcell1 4 _ rfl); (have hc5 : wr.cell? ⟨(ad.add (x.toNat * 15)).block, (ad.add (x.toNat * 15)).off + 5, none⟩ = some (.int .i64 p.f1.f2.f2.f0) := by rw [← aAg _ _ 5 (by omega)]; exact hcell1 5 _ rfl); (have hc6 : wr.cell? ⟨(ad.add (x.toNat * 15)).block, (ad.add (x.toNat * 15)).off + 6, none⟩ = some (.int .i64 p.f1.f2.f2.f1) := by rw [← aAg _ _ 6 (by omega)]; exact hcell1 6 _ rfl); (have hc7 : wr.cell? ⟨(ad.add (x.toNat * 15)).block, (ad.add (x.toNat * 15)).off + 7, none⟩ = some (.string p.f1.f2.f2.f2) := by rw [← aAg _ _ 7 (by omega)]; exact hcell1 7 _ rfl); (have hc8 : wr.cell? ⟨(ad.add (x.toNat * 15)).block, (ad.add (x.toNat * 15)).off + 8, none⟩ = some (.string p.f1.f2.f3) := by rw [← aAg _ _ 8 (by omega)]; exact hcell1 8 _ rfl); (have hc9 : wr.cell? ⟨(ad.add (x.toNat * 15)).block, (ad.add (x.toNat * 15)).off + 9, none⟩ = some (.slice aA9 p.f1.f2.f4.length aC9) := by rw [← aAg _ _ 9 (by omega)]; exact hcell1 9 _ rfl); (have dDC : wr.cell? ⟨(ad.add (x.toNat * 15)).block, (ad.add (x.toNat * 15)).off + 10, none⟩ = some (.slice aYL p.f1.f3.length aYD) := by rw [← aAg _ _ 10 (by omega)]; exact hcell1 10 _ rfl); (have dD0 : wr.cell? ⟨(ad.add (x.toNat * 15)).block, (ad.add (x.toNat * 15)).off + 11, none⟩ = some (.int .i64 p.f1.f4) := by rw [← aAg _ _ 11 (by omega)]; exact hcell1 11 _ rfl); (have dC0 : wr.cell? ⟨(ad.add (x.toNat * 15)).block, (ad.add (x.toNat * 15)).off + 12, none⟩ = some (.slice aYJ p.f1.f5.length aZP) := by rw [← aAg _ _ 12 (by omega)]; exact hcell1 12 _ rfl); (have dDJ : wr.cell? ⟨(ad.add (x.toNat * 15)).block, (ad.add (x.toNat * 15)).off + 13, none⟩ = some (.int .i64 p.f2.f0) := by rw [← aAg _ _ 13 (by omega)]; exact hcell1 13 _ rfl); (have dE8 : wr.cell? ⟨(ad.add (x.toNat * 15)).block, (ad.add (x.toNat * 15)).off + 14, none⟩ = some (.slice aZ3 p.f2.f1.length aYR) := by rw [← aAg _ _ 14 (by omega)]; exact hcell1 14 _ rfl); have hcall : Calls Tryz.prog g (#[(.agg #[(.string p.f0), (.int .i64 p.f1.f0), (.string p.f1.f1), (.int .i64 p.f1.f2.f0), (.int .i64 p.f1.f2.f1), (.int .i64 p.f1.f2.f2.f0), (.int .i64 p.f1.f2.f2.f1), (.string p.f1.f2.f2.f2), (.string p.f1.f2.f3), (.slice aA9 p.f1.f2.f4.length aC9), (.slice aYL p.f1.f3.length aYD), (.int .i64 p.f1.f4), (.slice aYJ p.f1.f5.length aZP), (.int .i64 p.f2.f0), (.slice aZ3 p.f2.f1.length aYR)])] ++ lb) wr (fun e w' => e = .returned (.bool b) ∧ Below wr.heap.size wr w') := HP.out wr _ _ b BW hm F3 hb
   cases b with
   | true =>
    have HJ := am_ (And.intro (ht rfl) BW); clear hcell hcell1 hK hb hm ht hf hi BW HI hg hl F3
    go_wp2_with (go_at_fn g; refine hcall.mono ?_; rintro e w' ⟨rfl, hb'⟩)
    go_ret
    exact ⟨aDo HJ.out.1.symm, HJ.out.2.trans (hb'.mono HJ.out.2.size)⟩
   | false =>
    have HJ := am_ (And.intro hg (And.intro (hf rfl) BW)); clear hcell hcell1 hK hb hm ht hf hi BW HI hg hl F3
    go_wp2_with (go_at_fn g; refine hcall.mono ?_; rintro e w' ⟨rfl, hb'⟩)
    go_roundg (xs.length - (x.toNat + 1))
    case measure => have := HJ.out.1; omega
    case rel => exact ⟨x + 1, by go_num, ⟨by omega, by omega, by omega, HJ.out.2.1, HJ.out.2.2.trans (hb'.mono HJ.out.2.2.size)⟩⟩
  ·have c4 : decide (x < (xs.length : Int)) = false := decide_eq_false hlt
   have hr : r = -1 := aFl hlt hi; clear hi HI; subst hr
   go_wp2
   go_ret
   exact ⟨rfl, BW⟩

theorem TM.calls (f : S83 → Option Bool) (g : Nat) (lb : Array Value) (eg : ∀ args w, (callFunc g args).run Tryz.prog w = .ok (.enter g args) w) (A : Option Addr) (c : Nat) (xs : List S83) (r : Int) (w : World) (hr : Kd.C X8 w A xs.length xs) (hp : CB Tryz.prog X8 (fun cs => Value.agg cs.toArray) g lb f xs w) (h : aGj f xs 0 = some r) :
  Calls Tryz.prog 62 #[.slice A xs.length c, .func (.func g) #[] lb] w fun e w' => e = .returned (.bool (decide (r ≥ 0))) ∧ Below w.heap.size w w' := by
 have hcall := a07.calls f g lb eg A c xs r w hr hp h
 clear hr hp h
 go_enter Tryz.func62, Tryz.ntmps62
 go_wp2_with (go_at_call 90; refine hcall.mono ?_; rintro e w' ⟨rfl, hb'⟩)
 go_ret
 exact ⟨rfl, hb'⟩

theorem NJ.not (f : S83 → Option Bool) (g : Nat) (lb : Array Value) (eg : ∀ args w, (callFunc g args).run Tryz.prog w = .ok (.enter g args) w) (B : Nat) (xs : List S83) (w : World) (hB : B < w.heap.size) (hp : CB Tryz.prog X8 (fun cs => Value.agg cs.toArray) g lb f xs w) (hc : w.cell? ⟨B, 0, none⟩ = some (.func (.func g) #[] lb)) :
  CB Tryz.prog X8 (fun cs => Value.agg cs.toArray) 63 #[.pointer (some ⟨B, 0, none⟩)] (fun x => (f x).map not) xs w := by
   intro W x cs b hb hm hK hf; obtain ⟨t, ht, rfl⟩ := Option.map_eq_some_iff.1 hf; have F3 := hK; have hc' : W.cell? ⟨B, 0, none⟩ = some (.func (.func g) #[] lb) := (hb.cell (p := ⟨B, 0, none⟩) hB).trans hc; obtain ⟨aA9, aC9, aYL, aYD, aYJ, aZP, aZ3, aYR, rfl, _, _, _, _, _, _, _, _⟩ := RZ hK; (have hcall : ∀ W1, Below W.heap.size W W1 → Calls Tryz.prog g (#[(.agg #[(.string x.f0), (.int .i64 x.f1.f0), (.string x.f1.f1), (.int .i64 x.f1.f2.f0), (.int .i64 x.f1.f2.f1), (.int .i64 x.f1.f2.f2.f0), (.int .i64 x.f1.f2.f2.f1), (.string x.f1.f2.f2.f2), (.string x.f1.f2.f3), (.slice aA9 x.f1.f2.f4.length aC9), (.slice aYL x.f1.f3.length aYD), (.int .i64 x.f1.f4), (.slice aYJ x.f1.f5.length aZP), (.int .i64 x.f2.f0), (.slice aZ3 x.f2.f1.length aYR)])] ++ lb) W1 (fun e w' => e = .returned (.bool t) ∧ Below W1.heap.size W1 w') := fun W1 h1 => hp W1 x _ t (hb.trans (h1.mono hb.size)) hm (Kd.K_below _ h1 F3) ht); (have hcd := fun o : Obj => aBn o hc'); (have HN := am_ (show B ≠ W.heap.size from fun e => by have := hb.size; omega)); clear hp hf hK F3 hm hb hc ht; have hBW := HN.out; have hBW' := Ne.symm hBW
   show Calls Tryz.prog 63 #[(.agg #[(.string x.f0), (.int .i64 x.f1.f0), (.string x.f1.f1), (.int .i64 x.f1.f2.f0), (.int .i64 x.f1.f2.f1), (.int .i64 x.f1.f2.f2.f0), (.int .i64 x.f1.f2.f2.f1), (.string x.f1.f2.f2.f2), (.string x.f1.f2.f3), (.slice aA9 x.f1.f2.f4.length aC9), (.slice aYL x.f1.f3.length aYD), (.int .i64 x.f1.f4), (.slice aYJ x.f1.f5.length aZP), (.int .i64 x.f2.f0), (.slice aZ3 x.f2.f1.length aYR)]), .pointer (some ⟨B, 0, none⟩)] W _
   go_enter Tryz.func63, Tryz.ntmps63
   go_wp2_with (go_at_fn g; refine (hcall _ (by first | exact Below.refl _ _ | exact aAi (Below.refl _ _) _)).mono ?_; rintro e w' ⟨rfl, hb'⟩)
   go_ret
   (exact ⟨rfl, by first | exact hb' | exact (aAi (Below.refl _ _) _ : Below W.heap.size W _).trans (hb'.mono (by simp))⟩)
theorem NJ.calls (f : S83 → Option Bool) (g : Nat) (lb : Array Value) (eg : ∀ args w, (callFunc g args).run Tryz.prog w = .ok (.enter g args) w) (A : Option Addr) (c : Nat) (xs : List S83) (r : Bool) (w : World) (hr : Kd.C X8 w A xs.length xs) (hp : CB Tryz.prog X8 (fun cs => Value.agg cs.toArray) g lb f xs w) (h : aHn f xs = some r) :
  Calls Tryz.prog 40 #[.slice A xs.length c, .func (.func g) #[] lb] w fun e w' => e = .returned (.bool r) ∧ Below w.heap.size w w' := by
 obtain ⟨j, hj, hjr⟩ := aEw h 0 (Int.le_refl _)
 have e_l : ∀ args w, (callFunc 63 args).run Tryz.prog w = .ok (.enter 63 args) w := enters_of Tryz.func63 (by kernel_rfl) rfl
 have hB0 : Below w.heap.size w (w.alloc (.cells #[.func (.func g) #[] lb] 94)) := aAi (Below.refl _ _) _
 have hp1 := CB.later hB0 hp
 have hnot := NJ.not f g lb eg w.heap.size xs _ (by simp) hp1 (by simp)
 have hcall := TM.calls _ 63 _ e_l A c xs j _ (Kd.aAp hr hB0) hnot hj
 have HJ := am_ hjr
 clear hr hp h hjr hj hp1 hnot hB0
 go_enter Tryz.func40, Tryz.ntmps40
 go_wp2_with (go_at_call 62; refine hcall.mono ?_; rintro e w' ⟨rfl, hb'⟩)
 go_ret
 exact ⟨aDj (by rw [HJ.out]; cases r <;> rfl), (aAi (Below.refl _ _) _ : Below w.heap.size w _).trans (hb'.mono (by simp))⟩

def eH.g (a1 : ByteArray) (x : S68) : Option Bool := some (x.f0.toList == a1.toList)
def eH.f (l0 : List S68) (a1 : ByteArray) : Option (ByteArray × Int × List S126 × Bool) :=
  (aGj (eH.g a1) l0 0).bind fun i => if i < 0 then some ((⟨#[]⟩ : ByteArray), 0, [], false) else if 0 ≤ i then if i < (l0.length : Int) then some ((dE l0 i).f0, (dE l0 i).f1.f0, (dE l0 i).f1.f1, true) else none else none
theorem aPk (a1 : ByteArray) (B : Nat) (xs : List S68) (w : World) (hB : B < w.heap.size) (hc : w.cell? ⟨B, 0, none⟩ = some (.string a1)) :
    CB Tryz.prog BC (fun cs => Value.agg cs.toArray) 65 #[.pointer (some ⟨B, 0, none⟩)] (eH.g a1) xs w := by
  intro W x cs b hb _ hK hf
  obtain rfl := Option.some.inj hf
  obtain ⟨A2, c2, rfl, hl2, hg2⟩ := AR hK
  have hc' : W.cell? ⟨B, 0, none⟩ = some (.string a1) := (hb.cell (p := ⟨B, 0, none⟩) hB).trans hc
  have hBW : B ≠ W.heap.size := by have := hb.size; omega
  have hBW' := Ne.symm hBW
  have hcd := fun o : Obj => aBn o hc'
  have hu := Tryz.underlying68
  clear hK hf hc hb hg2 hl2
  show Calls Tryz.prog 65 #[.agg #[.string x.f0, .int .i64 x.f1.f0, .slice A2 x.f1.f1.length c2], .pointer (some ⟨B, 0, none⟩)] W _
  go_enter Tryz.func65, Tryz.ntmps65
  go_wp2
  go_ret
  exact ⟨rfl, aAi (Below.refl _ _) _⟩
theorem eH.calls (P0_ : Nat → Prop) (A0 : Option Addr) (c0 : Nat) (l0 : List S68) (a1 r1 : ByteArray) (r2 : Int) (r3 : List S126) (r4 : Bool) (w : World) (hs0 : Kd.V BC 68 w w.heap.size (fun k_ => P0_ k_) (.slice A0 l0.length c0) l0) (h : eH.f l0 a1 = some (r1, r2, r3, r4)) :
    Calls Tryz.prog 42 #[.slice A0 l0.length c0, .string a1] w fun e w' => ∃ v1_ : Value, e = .returned (.tuple #[.agg #[.string r1, .int .i64 r2, v1_], .bool r4]) ∧ Kd.V jU 126 w' w.heap.size (fun k_ => (P0_ k_ ∨ w.heap.size ≤ k_)) v1_ r3 ∧ Below w.heap.size w w' := by
  obtain ⟨i, hi, h⟩ := Option.bind_eq_some_iff.1 h
  have hu1 := Tryz.underlying68
  have eg : ∀ args w, (callFunc 65 args).run Tryz.prog w = .ok (.enter 65 args) w := enters_of Tryz.func65 (by kernel_rfl) rfl
  have hB1 : Below w.heap.size w (w.alloc (.cells #[.string a1] 9)) := aAi (Below.refl _ _) _
  have hB2 : Below w.heap.size w ((w.alloc (.cells #[.string a1] 9)).alloc (.cells #[.string ⟨#[]⟩, .int .i64 0, .slice none 0 0] 68)) := aAi hB1 _
  have hcall := NC.calls (eH.g a1) 65 #[.pointer (some ⟨w.heap.size, 0, none⟩)] eg A0 c0 l0 i _ (Kd.aAp (Kd.aGi hs0).2.2 hB2) (aPk a1 w.heap.size l0 _ (by simp <;> omega) ((aBn _ ((cell_of_block (heap_alloc_new w _) 0).trans rfl)))) hi
  have HV := am_ (show Kd.V BC 68 w w.heap.size (fun k_ => P0_ k_ ∧ k_ < w.heap.size) (.slice A0 l0.length c0) l0 from by obtain ⟨A_, c_, e_, l_, F_⟩ := hs0; exact ⟨A_, c_, e_, l_, Foot.bound F_⟩)
  have HB2 := am_ hB2
  clear hs0 hi hB1 hB2
  by_cases hi0 : i < 0
  · have hd : decide (i < 0) = true := decide_eq_true hi0
    rw [if_pos hi0] at h
    simp only [Option.some.injEq, Prod.mk.injEq] at h
    obtain ⟨rfl, rfl, rfl, rfl⟩ := h
    go_enter Tryz.func42, Tryz.ntmps42
    go_wp2_with (
      go_at_call 64
      refine hcall.mono ?_
      rintro e w' ⟨rfl, hb'⟩
      have HF := am_ (HB2.out.trans (hb'.mono HB2.out.size))
      have BK := am_ ((hb'.block (w.heap.size + 1) (by simp)).trans (show _ = some (Obj.cells #[.string ⟨#[]⟩, .int .i64 0, .slice none 0 0] 68 (0, 0)) from by have h_ := heap_alloc_new (w.alloc (.cells #[.string a1] 9)) (.cells #[.string ⟨#[]⟩, .int .i64 0, .slice none 0 0] 68); simpa using h_))
      obtain ⟨cFF, cDN, cG4, cGS, cIW, cIZ⟩ := b3_ BK
      clear hb')
    refine bodyPost_ret (aGg rfl _ _ (w.heap.size + 1) 68 #[.string ⟨#[]⟩, .int .i64 0, .slice none 0 0] (0, 0) _ rfl (aWh (aBx BK.out)) Tryz.underlying68 rfl (by kernel_rfl)) rfl ?_
    exact ⟨_, by first | rfl | (simp [aBo, aBq] <;> rfl), Kd.aOg _ _ _ _ _, aAk (aAk (aAk HF.out (by simp)) (by simp)) (by simp)⟩
  · have hd : decide (i < 0) = false := decide_eq_false hi0
    rw [if_neg hi0] at h
    by_cases h0 : 0 ≤ i
    case neg => rw [if_neg h0] at h; cases h
    rw [if_pos h0] at h
    by_cases h1 : i < (l0.length : Int)
    case neg => rw [if_neg h1] at h; cases h
    rw [if_pos h1] at h
    simp only [Option.some.injEq, Prod.mk.injEq] at h
    obtain ⟨rfl, rfl, rfl, rfl⟩ := h
    have d0 : decide (0 ≤ i) = true := decide_eq_true h0
    have d1 : decide (i < (l0.length : Int)) = true := decide_eq_true h1
    go_enter Tryz.func42, Tryz.ntmps42
    go_wp2_with (
      go_at_call 64
      refine hcall.mono ?_
      rintro e w' ⟨rfl, hb'⟩
      have HF := am_ (HB2.out.trans (hb'.mono HB2.out.size))
      have HV2 := am_ (Kd.aDq HV.out HF.out)
      obtain ⟨ad, AA, cc, rfl, hx0, hx1, hx2, hl2, _⟩ := DW (Kd.aGi HV2.out).2.2 i h0 h1
      obtain ⟨ce, hce, hMe, hcc⟩ := Kd.aVt HV2.out z68 i h0 h1
      obtain ⟨ua, uc, rfl, ul, ge⟩ := TY hMe
      have hv := hcc 2 _ rfl
      rw [aAg _ _ 2 (by omega)] at hv
      replace hv := Option.some.inj (hv.symm.trans hx2)
      injection hv with aHR b5L aH8
      rw [aHR] at ge
      rw [aH8] at ul
      have HL := am_ (show Kd.V jU 126 _ w.heap.size _ _ ((dE l0 i).f1.f1) from Kd.aSp ul ge)
      have BK := am_ ((hb'.block (w.heap.size + 1) (by simp)).trans (show _ = some (Obj.cells #[.string ⟨#[]⟩, .int .i64 0, .slice none 0 0] 68 (0, 0)) from by have h_ := heap_alloc_new (w.alloc (.cells #[.string a1] 9)) (.cells #[.string ⟨#[]⟩, .int .i64 0, .slice none 0 0] 68); simpa using h_))
      obtain ⟨cFF, cDN, cG4, cGS, cIW, cIZ⟩ := b3_ BK
      clear hb' aHR b5L aH8 ul ge hcc hMe hce hl2)
    refine bodyPost_ret (aGg rfl _ _ (w.heap.size + 1) 68 #[.string (dE l0 i).f0, .int .i64 (dE l0 i).f1.f0, .slice AA (dE l0 i).f1.f1.length cc] (0, 0) _ rfl (aWh (aBx BK.out)) Tryz.underlying68 rfl (by kernel_rfl)) rfl ?_
    exact ⟨_, by first | rfl | (simp [aBo, aBq] <;> rfl), Kd.aEa (Kd.aSx (p := ⟨w.heap.size + 1, 2, none⟩) (Kd.aSx (p := ⟨w.heap.size + 1, 1, none⟩) (Kd.aSx (p := ⟨w.heap.size + 1, 0, none⟩) HL.out (fun k_ hk => by have := hk.2; show k_ ≠ w.heap.size + 1; omega) _) (fun k_ hk => by have := hk.2; show k_ ≠ w.heap.size + 1; omega) _) (fun k_ hk => by have := hk.2; show k_ ≠ w.heap.size + 1; omega) _) (fun k_ hk => .inl hk.1), aAk (aAk (aAk HF.out (by simp)) (by simp)) (by simp)⟩
end Go.Proofs.YtnobhkmpkichdaaGreat.PFnExactViewsOk
