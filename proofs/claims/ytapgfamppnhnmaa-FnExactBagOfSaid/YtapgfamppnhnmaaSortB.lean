/- The library's stable sort, walked: further part. -/
import Derived.Test.YtapgfamppnhnmaaSortA
namespace Go.Proofs.YtapgfamppnhnmaaSort
open Go Go.RowKit Go.Lib Go.Sort Go.Proofs.YtapgfamppnhnmaaW.PrintWords Go.Proofs.YtapgfamppnhnmaaStable
set_option linter.unusedVariables false
def tailAt : Nat → Code → Code
 | 0, c => c
 | n + 1, .seq _ b => tailAt n b
 | _ + 1, c => c
set_option maxHeartbeats 16000000 in
set_option maxRecDepth 1000000 in
theorem sym_tail {P : Program} {k : Nat} (L : SL P k) {α : Type} {d : Kd α} (hk : d.sz = k) {e : Nat} {w0 : World} {base : Nat} {ok : Nat → Prop} {g cap : Nat} {z : α} {l : List α} (gF : Nat) (eg : ∀ args w, (callFunc gF args).run P w = .ok (.enter gF args) w) (cf : Nat → Nat → Int) (HC : Cmp P gF d z l cf) (hsz : l.length < 4611686018427387904) (f a m b i mid en : Nat) (d1 F_ : Array Nat) (wc : World) (S : SN d e w0 base ok g cap z l d1 wc) (ham : a < m) (hmb : m < b) (hb : b ≤ l.length) (hf : b - a ≤ f + 1) (m1 : a + b - 1 ≤ 2 * mid) (m2 : 2 * mid ≤ a + b)
  (ih : ∀ (a m b : Nat) (d0 : Array Nat) (w : World), SN d e w0 base ok g cap z l d0 w → a < m → m < b → b ≤ l.length → b - a ≤ f → Calls P 127 #[.slice (some ⟨g, 0, none⟩) l.length cap, .int .i64 a, .int .i64 m, .int .i64 b, .func (.func gF) #[] #[]] w fun e' w' => e' = .returned (.tuple #[]) ∧ SN d e w0 base ok g cap z l (symMerge (ltC cf) f a m b d0) w')
  (hr : F_ = (let d2 := if a < i ∧ i < mid then symMerge (ltC cf) f a i mid d1 else d1; if mid < en ∧ en < b then symMerge (ltC cf) f mid en b d2 else d2)) {u5 u6 u7 u8 u9 u10 u11 u12 u13 u14 u15 u16 u17 u19 u21 u22 u23 u25 u26 u27 u28 u29 u30 u31 u32 u33 u34 u35 u36 u37 u38 u39 u40 u41 u42 u43 u44 u45 u46 u47 u48 u49 u50 u51 u52 u53 u54 u55 u56 u57 u58 u59 u60 u61 u62 u63 u64 u65 u66 u67 u68 u69 u70 u71 u72 u73 u74 u75 u76 u77 u78 u79 u80 u81 u82 u83 u84 u85 u86 u87 u88 u89 u90 u91 u92 u93 u94 u95 u96 u97 u98 u99 u100 u101 u102 u103 u104 u105 u106 u107 u108 u109 u110 u111 u112 u113 u114 u115 u116 u117 u118 u119 u120 u121 u122 u123 u124 u125 u126 u127 u128 u129 u130 u131 u132 u133 u134 u135 u136 u137 u138 u139 u140 u141 u142 u143 u144 u145 u146 u147 u148 u149 u150 u151 u152 u153 u154 u155 u156 u157 u158 u159 u160 u161 u162 u163 u164 u165 u166 u167 u168 u169 u170 u171 u172 u173 u174 u175 u176 u177 u178 u179 u180 u181 u182 u183 u184 u185 u186 u187 u188 u189 u190 u191 u192 u193 u194 u195 u196 u197 u198 u199 u200 u201 u202 u203 u204 u205 u206 u207 u208 u209 u210 u211 u212 u213 u214 u215 u216 u217 u218 u219 : Value} :
  Code.wp P (tailAt 10 (Try.f127.body.getD .skip)) (bodyPost P Try.f127 fun e' w' => e' = .returned (.tuple #[]) ∧ SN d e w0 base ok g cap z l F_ w') ⟨(Value.slice (some ⟨g, 0, none⟩) l.length cap :: Value.int .i64 (a : Int) :: Value.int .i64 (m : Int) :: Value.int .i64 (b : Int) :: Value.func (.func gF) #[] #[] :: u5 :: u6 :: u7 :: u8 :: u9 :: u10 :: u11 :: u12 :: u13 :: u14 :: u15 :: u16 :: u17 :: Value.int .i64 (mid : Int) :: u19 :: Value.int .i64 (i : Int) :: u21 :: u22 :: u23 :: Value.int .i64 (en : Int) :: u25 :: u26 :: u27 :: u28 :: u29 :: u30 :: u31 :: u32 :: u33 :: u34 :: u35 :: u36 :: u37 :: u38 :: u39 :: u40 :: u41 :: u42 :: u43 :: u44 :: u45 :: u46 :: u47 :: u48 :: u49 :: u50 :: u51 :: u52 :: u53 :: u54 :: u55 :: u56 :: u57 :: u58 :: u59 :: u60 :: u61 :: u62 :: u63 :: u64 :: u65 :: u66 :: u67 :: u68 :: u69 :: u70 :: u71 :: u72 :: u73 :: u74 :: u75 :: u76 :: u77 :: u78 :: u79 :: u80 :: u81 :: u82 :: u83 :: u84 :: u85 :: u86 :: u87 :: u88 :: u89 :: u90 :: u91 :: u92 :: u93 :: u94 :: u95 :: u96 :: u97 :: u98 :: u99 :: u100 :: u101 :: u102 :: u103 :: u104 :: u105 :: u106 :: u107 :: u108 :: u109 :: u110 :: u111 :: u112 :: u113 :: u114 :: u115 :: u116 :: u117 :: u118 :: u119 :: u120 :: u121 :: u122 :: u123 :: u124 :: u125 :: u126 :: u127 :: u128 :: u129 :: u130 :: u131 :: u132 :: u133 :: u134 :: u135 :: u136 :: u137 :: u138 :: u139 :: u140 :: u141 :: u142 :: u143 :: u144 :: u145 :: u146 :: u147 :: u148 :: u149 :: u150 :: u151 :: u152 :: u153 :: u154 :: u155 :: u156 :: u157 :: u158 :: u159 :: u160 :: u161 :: u162 :: u163 :: u164 :: u165 :: u166 :: u167 :: u168 :: u169 :: u170 :: u171 :: u172 :: u173 :: u174 :: u175 :: u176 :: u177 :: u178 :: u179 :: u180 :: u181 :: u182 :: u183 :: u184 :: u185 :: u186 :: u187 :: u188 :: u189 :: u190 :: u191 :: u192 :: u193 :: u194 :: u195 :: u196 :: u197 :: u198 :: u199 :: u200 :: u201 :: u202 :: u203 :: u204 :: u205 :: u206 :: u207 :: u208 :: u209 :: u210 :: u211 :: u212 :: u213 :: u214 :: u215 :: u216 :: u217 :: u218 :: u219 :: []).toArray, []⟩ wc := by
 have mixed := L.mixed; have t3 := L.t3; have a3 := L.a3; have z3 := L.z3; have v3 := L.v3; have t4 := L.t4; have a4 := L.a4; have z4 := L.z4; have v4 := L.v4; have tS := L.tS; have aS := L.aS; have zS := L.zS; have vS := L.vS; have tU := L.tU; have aU := L.aU; have zU := L.zU; have vU := L.vU; have aF := L.aF; have zF := L.zF; have aE := L.aE; have zE := L.zE
 have uS := run_underlying L.tS
 have eg1 : ∀ args w, (callFunc 145 args).run P w = .ok (.enter 145 args) w := enters_of L.fSwap (by kernel_rfl) rfl
 have eg2 : ∀ args w, (callFunc 140 args).run P w = .ok (.enter 140 args) w := enters_of L.fRot (by kernel_rfl) rfl
 have eg3 : ∀ args w, (callFunc 126 args).run P w = .ok (.enter 126 args) w := enters_of L.fIns (by kernel_rfl) rfl
 have eg4 : ∀ args w, (callFunc 127 args).run P w = .ok (.enter 127 args) w := enters_of L.fSym (by kernel_rfl) rfl
 have eg5 : ∀ args w, (callFunc 110 args).run P w = .ok (.enter 110 args) w := enters_of L.fStable (by kernel_rfl) rfl
 have S1 : Aside (SN d e w0 base ok g cap z l d1 wc) := S
 replace HC : Aside _ := HC
 replace ih : Aside _ := ih
 replace hr : Aside _ := hr
 clear S L
 conv => arg 2; whnf
 go_upto_region 41 with fail
 go_cut [199] (fun s wc => s = .bool (decide (a < i ∧ i < mid)) ∧ Aside (SN d e w0 base ok g cap z l (d1) wc))
 case first =>
  by_cases c5 : a < i
  ·have c5z : (a : Int) < (i : Int) := by omega
   by_cases c6 : i < mid
   ·have c6z : (i : Int) < (mid : Int) := by omega
    go_wp2
    go_meet
    case rel => exact ⟨by rw [decide_eq_true (show a < i ∧ i < mid from ⟨c5, c6⟩)], S1⟩
   ·have c6z : ¬ (i : Int) < (mid : Int) := by omega
    go_wp2
    go_meet
    case rel => exact ⟨by rw [decide_eq_false (show ¬ (a < i ∧ i < mid) from fun h => c6 h.2)], S1⟩
  ·have c5z : ¬ (a : Int) < (i : Int) := by omega
   go_wp2
   go_meet
   case rel => exact ⟨by rw [decide_eq_false (show ¬ (a < i ∧ i < mid) from fun h => c5 h.1)], S1⟩
 case rest =>
 clear S1
 obtain ⟨rfl, S1⟩ := hcut
 go_upto_if 199 with fail
 go_cut [] (fun wc => Aside (SN d e w0 base ok g cap z l (if a < i ∧ i < mid then symMerge (ltC cf) f a i mid d1 else d1) wc))
 case first =>
  by_cases c7 : a < i ∧ i < mid
  ·have c7b : decide (a < i ∧ i < mid) = true := decide_eq_true c7
   have hcall : Calls P 127 #[.slice (some ⟨g, 0, none⟩) l.length cap, .int .i64 (a : Nat), .int .i64 (i : Nat), .int .i64 (mid : Nat), .func (.func gF) #[] #[]] wc fun e' w' => e' = .returned (.tuple #[]) ∧ SN d e w0 base ok g cap z l (symMerge (ltC cf) f a i mid d1) w' := ih.out a i mid d1 wc S1.out (by omega) (by omega) (by omega) (by omega)
   replace c7 : Aside _ := c7
   go_wp2_with (go_at_fn 127; refine hcall.mono ?_; rintro e1 w1 ⟨rfl, S2⟩; replace S2 : Aside _ := S2)
   go_meet
   case rel => exact (show Aside _ from by rw [if_pos c7.out]; exact S2.out)
  ·have c7b : decide (a < i ∧ i < mid) = false := decide_eq_false c7
   replace c7 : Aside _ := c7
   go_wp2
   go_meet
   case rel => exact (show Aside _ from by rw [if_neg c7.out]; exact S1.out)
 case rest =>
 clear S1
 have S1 := hcut
 clear hcut
 replace hr : Aside (F_ = (if mid < en ∧ en < b then symMerge (ltC cf) f mid en b (if a < i ∧ i < mid then symMerge (ltC cf) f a i mid d1 else d1) else (if a < i ∧ i < mid then symMerge (ltC cf) f a i mid d1 else d1))) := hr
 generalize (if a < i ∧ i < mid then symMerge (ltC cf) f a i mid d1 else d1) = d2 at S1 hr
 go_upto_region 43 with fail
 go_cut [213] (fun s wc => s = .bool (decide (mid < en ∧ en < b)) ∧ Aside (SN d e w0 base ok g cap z l (d2) wc))
 case first =>
  by_cases c5 : mid < en
  ·have c5z : (mid : Int) < (en : Int) := by omega
   by_cases c6 : en < b
   ·have c6z : (en : Int) < (b : Int) := by omega
    go_wp2
    go_meet
    case rel => exact ⟨by rw [decide_eq_true (show mid < en ∧ en < b from ⟨c5, c6⟩)], S1⟩
   ·have c6z : ¬ (en : Int) < (b : Int) := by omega
    go_wp2
    go_meet
    case rel => exact ⟨by rw [decide_eq_false (show ¬ (mid < en ∧ en < b) from fun h => c6 h.2)], S1⟩
  ·have c5z : ¬ (mid : Int) < (en : Int) := by omega
   go_wp2
   go_meet
   case rel => exact ⟨by rw [decide_eq_false (show ¬ (mid < en ∧ en < b) from fun h => c5 h.1)], S1⟩
 case rest =>
 clear S1
 obtain ⟨rfl, S1⟩ := hcut
 by_cases c7 : mid < en ∧ en < b
 ·have c7b : decide (mid < en ∧ en < b) = true := decide_eq_true c7
  have hcall : Calls P 127 #[.slice (some ⟨g, 0, none⟩) l.length cap, .int .i64 (mid : Nat), .int .i64 (en : Nat), .int .i64 (b : Nat), .func (.func gF) #[] #[]] wc fun e' w' => e' = .returned (.tuple #[]) ∧ SN d e w0 base ok g cap z l (symMerge (ltC cf) f mid en b d2) w' := ih.out mid en b d2 wc S1.out (by omega) (by omega) (by omega) (by omega)
  replace c7 : Aside _ := c7
  go_wp2_with (go_at_fn 127; refine hcall.mono ?_; rintro e1 w1 ⟨rfl, S2⟩; replace S2 : Aside _ := S2)
  go_end0
  refine ⟨rfl, ?_⟩
  rw [hr.out, if_pos c7.out]
  exact S2.out
 ·have c7b : decide (mid < en ∧ en < b) = false := decide_eq_false c7
  replace c7 : Aside _ := c7
  go_wp2
  go_end0
  refine ⟨rfl, ?_⟩
  rw [hr.out, if_neg c7.out]
  exact S1.out
set_option maxHeartbeats 16000000 in
set_option maxRecDepth 1000000 in
theorem sym_calls3 {P : Program} {k : Nat} (L : SL P k) {α : Type} {d : Kd α} (hk : d.sz = k) {e : Nat} {w0 : World} {base : Nat} {ok : Nat → Prop} {g cap : Nat} {z : α} {l : List α} (gF : Nat) (eg : ∀ args w, (callFunc gF args).run P w = .ok (.enter gF args) w) (cf : Nat → Nat → Int) (HC : Cmp P gF d z l cf) (hsz : l.length < 4611686018427387904) (f a m b : Nat) (d0 : Array Nat) (w : World) (S : SN d e w0 base ok g cap z l d0 w) (ham : a < m) (hmb : m < b) (hb : b ≤ l.length) (hf : b - a ≤ f + 1) (ih : ∀ (a m b : Nat) (d0 : Array Nat) (w : World), SN d e w0 base ok g cap z l d0 w → a < m → m < b → b ≤ l.length → b - a ≤ f → Calls P 127 #[.slice (some ⟨g, 0, none⟩) l.length cap, .int .i64 a, .int .i64 m, .int .i64 b, .func (.func gF) #[] #[]] w fun e' w' => e' = .returned (.tuple #[]) ∧ SN d e w0 base ok g cap z l (symMerge (ltC cf) (f) a m b d0) w') (c1 : ¬ m - a = 1) (c2 : ¬ b - m = 1) (c3 : (a + b) / 2 < m) :
  Calls P 127 #[.slice (some ⟨g, 0, none⟩) l.length cap, .int .i64 a, .int .i64 m, .int .i64 b, .func (.func gF) #[] #[]] w fun e' w' => e' = .returned (.tuple #[]) ∧ SN d e w0 base ok g cap z l (symMerge (ltC cf) (f + 1) a m b d0) w' := by
 have mixed := L.mixed; have t3 := L.t3; have a3 := L.a3; have z3 := L.z3; have v3 := L.v3; have t4 := L.t4; have a4 := L.a4; have z4 := L.z4; have v4 := L.v4; have tS := L.tS; have aS := L.aS; have zS := L.zS; have vS := L.vS; have tU := L.tU; have aU := L.aU; have zU := L.zU; have vU := L.vU; have aF := L.aF; have zF := L.zF; have aE := L.aE; have zE := L.zE
 have uS := run_underlying L.tS
 have eg1 : ∀ args w, (callFunc 145 args).run P w = .ok (.enter 145 args) w := enters_of L.fSwap (by kernel_rfl) rfl
 have eg2 : ∀ args w, (callFunc 140 args).run P w = .ok (.enter 140 args) w := enters_of L.fRot (by kernel_rfl) rfl
 have eg3 : ∀ args w, (callFunc 126 args).run P w = .ok (.enter 126 args) w := enters_of L.fIns (by kernel_rfl) rfl
 have eg4 : ∀ args w, (callFunc 127 args).run P w = .ok (.enter 127 args) w := enters_of L.fSym (by kernel_rfl) rfl
 have eg5 : ∀ args w, (callFunc 110 args).run P w = .ok (.enter 110 args) w := enters_of L.fStable (by kernel_rfl) rfl
 have FG := L.fSym
 have S0 : Aside (SN d e w0 base ok g cap z l d0 w) := S
 have LL : Aside (SL P k) := L
 replace HC : Aside _ := HC
 replace ih : Aside _ := ih
 clear S L
 have r1 : IntKind.i64.wrap ((m : Int) - (a : Int)) = (m : Int) - (a : Int) := by rw [IntKind.wrap_i64]; omega
 have r2 : IntKind.i64.wrap ((b : Int) - (m : Int)) = (b : Int) - (m : Int) := by rw [IntKind.wrap_i64]; omega
 go_enter FG, Try.ntmps127
 have c1z : ¬ (m : Int) - (a : Int) = 1 := by omega
 have c2z : ¬ (b : Int) - (m : Int) = 1 := by omega
 obtain ⟨mid, hmid⟩ : ∃ mid, mid = (a + b) / 2 := ⟨_, rfl⟩
 have hmz : ((a : Int) + (b : Int)) / 2 = (mid : Int) := by omega
 have m1 : a + b - 1 ≤ 2 * mid := by omega
 have m2 : 2 * mid ≤ a + b := by omega
 replace hmid : Aside _ := hmid
 have rn : IntKind.i64.wrap ((mid : Int) + (m : Int)) = (mid : Int) + (m : Int) := by rw [IntKind.wrap_i64]; omega
 have rp : IntKind.i64.wrap ((mid : Int) + (m : Int) - 1) = (mid : Int) + (m : Int) - 1 := by rw [IntKind.wrap_i64]; omega
 have c3' : mid < m := by have := hmid.out; omega
 clear c3
 have c3 := c3'
 clear c3'
 have c3z : (mid : Int) < (m : Int) := by omega
 obtain ⟨lo, hlo⟩ : ∃ lo, lo = mid + m - b := ⟨_, rfl⟩
 have hloz : (mid : Int) + (m : Int) - (b : Int) = (lo : Int) := by omega
 have rl : IntKind.i64.wrap (lo : Int) = (lo : Int) := by rw [IntKind.wrap_i64]; omega
 have l1 : lo + b = mid + m := by omega
 have l2 : a ≤ lo := by omega
 have hcut : Aside (cut (ltC cf) a m b d0 = bs (fun c => !ltC cf d0[mid + m - 1 - c]! d0[c]!) (b - a) lo mid) := by
  show cut _ _ _ _ _ = _
  unfold cut
  rw [← hmid.out, if_pos c3, ← hlo]
 clear hlo
 go_wp2
 go_loopg [20, 21] (b - a) (fun kx sa sb wr => ∃ (q i j : Nat), sa = .int .i64 i ∧ sb = .int .i64 j ∧ lo ≤ i ∧ i ≤ j ∧ j ≤ mid ∧ j - i ≤ q ∧ q ≤ kx ∧ Aside (SN d e w0 base ok g cap z l d0 wr) ∧ Hid (bs (fun c => !ltC cf d0[mid + m - 1 - c]! d0[c]!) q i j = bs (fun c => !ltC cf d0[mid + m - 1 - c]! d0[c]!) (b - a) (lo) (mid)))
 case atStart => exact ⟨b - a, lo, mid, by go_num, by go_num, Nat.le_refl _, by omega, Nat.le_refl _, by omega, Nat.le_refl _, S0, rfl⟩
 case round =>
  obtain ⟨q, i, j, rfl, rfl, hmi, hij, hjb, hq, hkx, S1, HE⟩ := hrel
  clear S0
  by_cases hlt : i < j
  ·obtain ⟨q, rfl⟩ : ∃ q', q = q' + 1 := ⟨q - 1, by omega⟩
   have hltz : (i : Int) < (j : Int) := by omega
   obtain ⟨h, hh⟩ : ∃ h, h = (i + j) / 2 := ⟨_, rfl⟩
   have hz : ((i : Int) + (j : Int)) / 2 = (h : Int) := by omega
   have hlo : i ≤ h := by omega
   have hhi : h < j := by omega
   have hB := HE.out
   rw [bs_step, if_pos hlt, ← hh] at hB
   replace hB : Aside _ := hB
   clear hh HE
   have hd0 := S1.out.1
   have q1 : (h : Int) < (l.length : Int) := by omega
   obtain ⟨x, hx⟩ : ∃ x, x = mid + m - 1 - h := ⟨_, rfl⟩
   have hxz : (mid : Int) + (m : Int) - 1 - (h : Int) = (x : Int) := by omega
   have rx : IntKind.i64.wrap (x : Int) = (x : Int) := by rw [IntKind.wrap_i64]; omega
   have q2 : (x : Int) < (l.length : Int) := by omega
   have q3 : x < l.length := by omega
   have hB2 := hB.out
   (try dsimp only at hB2)
   rw [← hx] at hB2
   replace hB : Aside _ := hB2
   clear hB2 hx
   cases hL : ltC cf d0[x]! d0[h]! with
   | true =>
    obtain ⟨cX, nX, FX, lX0, _⟩ := S1.out.elem x (by omega)
    obtain ⟨cY, nY, FY, lY0, _⟩ := S1.out.elem h (by omega)
    rw [hk] at nX nY lX0 lY0
    have lX := fun q => lX0 q P
    have lY := fun q => lY0 q P
    obtain ⟨vc, hvc⟩ : ∃ v, v = cf d0[x]! d0[h]! := ⟨_, rfl⟩
    have hcc : ∀ q : Bw wr, Calls P gF #[.agg cX.toArray, .agg cY.toArray] q.1 fun e w' => e = .returned (.int .i64 vc) ∧ Below q.1.heap.size q.1 w' := fun q => by rw [hvc]; exact HC.out q.1 _ _ _ _ (fk_below FX q.2) (fk_below FY q.2)
    have hv : vc < 0 := by rw [hvc]; exact of_decide_eq_true hL
    have hd : decide (vc < 0) = true := decide_eq_true hv
    clear hvc lX0 lY0 FX FY
    go_wp2_with fail
    refine wp_region_quiet_below (by assumption) (by kernel_rfl) ?_
    repeat (quiet_step (first | (go_at_fn gF; refine Calls.below_of (hcc _))))
    refine wpQuiet_nil ?_
    intro _ hw'
    obtain ⟨pq, hw''⟩ := hw'
    subst hw''
    have S2 : Aside (SN d e w0 base ok g cap z l d0 pq.1) := S1.out.below pq.2
    clear lX lY hcc S1
    generalize pq.1 = w2 at S2 ⊢
    clear pq
    go_wp2
    go_roundg q
    case measure => omega
    case rel =>
     have hC := hB.out
     rw [if_neg (by rw [hL]; decide)] at hC
     exact ⟨q, i, h, by go_num, by go_num, by omega, by omega, by omega, by omega, Nat.le_refl _, S2, hC⟩
   | false =>
    obtain ⟨cX, nX, FX, lX0, _⟩ := S1.out.elem x (by omega)
    obtain ⟨cY, nY, FY, lY0, _⟩ := S1.out.elem h (by omega)
    rw [hk] at nX nY lX0 lY0
    have lX := fun q => lX0 q P
    have lY := fun q => lY0 q P
    obtain ⟨vc, hvc⟩ : ∃ v, v = cf d0[x]! d0[h]! := ⟨_, rfl⟩
    have hcc : ∀ q : Bw wr, Calls P gF #[.agg cX.toArray, .agg cY.toArray] q.1 fun e w' => e = .returned (.int .i64 vc) ∧ Below q.1.heap.size q.1 w' := fun q => by rw [hvc]; exact HC.out q.1 _ _ _ _ (fk_below FX q.2) (fk_below FY q.2)
    have hv : ¬ vc < 0 := by rw [hvc]; exact of_decide_eq_false hL
    have hd : decide (vc < 0) = false := decide_eq_false hv
    clear hvc lX0 lY0 FX FY
    go_wp2_with fail
    refine wp_region_quiet_below (by assumption) (by kernel_rfl) ?_
    repeat (quiet_step (first | (go_at_fn gF; refine Calls.below_of (hcc _))))
    refine wpQuiet_nil ?_
    intro _ hw'
    obtain ⟨pq, hw''⟩ := hw'
    subst hw''
    have S2 : Aside (SN d e w0 base ok g cap z l d0 pq.1) := S1.out.below pq.2
    clear lX lY hcc S1
    generalize pq.1 = w2 at S2 ⊢
    clear pq
    go_wp2
    go_roundg q
    case measure => omega
    case rel =>
     have hC := hB.out
     rw [if_pos (by rw [hL]; rfl)] at hC
     exact ⟨q, h + 1, j, by go_num, by go_num, by omega, by omega, by omega, by omega, Nat.le_refl _, S2, hC⟩
  ·have hltz : ¬ (i : Int) < (j : Int) := by omega
   have hB := HE.out
   rw [bs_stop _ _ _ _ hlt] at hB
   replace hB : Aside _ := hB
   clear HE
   have hs_ := hB.out
   rw [← hcut.out] at hs_
   replace hs_ : Aside _ := hs_
   clear hB hcut r1 r2 rp
   obtain ⟨en, hen⟩ : ∃ en, en = mid + m - i := ⟨_, rfl⟩
   have henz : (mid : Int) + (m : Int) - (i : Int) = (en : Int) := by omega
   have ren : IntKind.i64.wrap (en : Int) = (en : Int) := by rw [IntKind.wrap_i64]; omega
   have n1 : en + i = mid + m := by omega
   have n2 : m ≤ en := by omega
   have n3 : en ≤ b := by omega
   have n4 : a ≤ i := by omega
   have n5 : i ≤ m := by omega
   have n6 : i ≤ mid := by omega
   have n7 : mid ≤ en := by omega
   have hd0 : Aside (d0.size = l.length) := S1.out.1
   replace hen : Aside _ := hen
   go_upto_region 39 with fail
   go_cut [185] (fun s wc => s = .bool (decide (i < m ∧ m < en)) ∧ Aside (SN d e w0 base ok g cap z l (d0) wc))
   case first =>
    by_cases c5 : i < m
    ·have c5z : (i : Int) < (m : Int) := by omega
     by_cases c6 : m < en
     ·have c6z : (m : Int) < (en : Int) := by omega
      go_wp2
      go_meet
      case rel => exact ⟨by rw [decide_eq_true (show i < m ∧ m < en from ⟨c5, c6⟩)], S1⟩
     ·have c6z : ¬ (m : Int) < (en : Int) := by omega
      go_wp2
      go_meet
      case rel => exact ⟨by rw [decide_eq_false (show ¬ (i < m ∧ m < en) from fun h => c6 h.2)], S1⟩
    ·have c5z : ¬ (i : Int) < (m : Int) := by omega
     go_wp2
     go_meet
     case rel => exact ⟨by rw [decide_eq_false (show ¬ (i < m ∧ m < en) from fun h => c5 h.1)], S1⟩
   case rest =>
   clear S1
   obtain ⟨rfl, S1⟩ := hcut
   go_upto_if 185 with fail
   go_cut [] (fun wc => Aside (SN d e w0 base ok g cap z l (rotIf i m en d0) wc))
   case first =>
    by_cases c7 : i < m ∧ m < en
    ·have c7b : decide (i < m ∧ m < en) = true := decide_eq_true c7
     have hcall : Calls P 140 #[.slice (some ⟨g, 0, none⟩) l.length cap, .int .i64 (i : Nat), .int .i64 (m : Nat), .int .i64 (en : Nat), .func (.func gF) #[] #[]] wc fun e' w' => e' = .returned (.tuple #[]) ∧ SN d e w0 base ok g cap z l (rot m (en - i) (m - i) (en - m) d0) w' := rotate_calls LL.out hk S1.out _ i m en c7.1 c7.2 (by omega) hsz
     replace c7 : Aside _ := c7
     go_wp2_with (go_at_fn 140; refine hcall.mono ?_; rintro e1 w1 ⟨rfl, S2⟩; replace S2 : Aside _ := S2)
     go_meet
     case rel => exact (show Aside _ from by unfold rotIf; rw [if_pos c7.out]; exact S2.out)
    ·have c7b : decide (i < m ∧ m < en) = false := decide_eq_false c7
     replace c7 : Aside _ := c7
     go_wp2
     go_meet
     case rel => exact (show Aside _ from by unfold rotIf; rw [if_neg c7.out]; exact S1.out)
   case rest =>
   clear S1
   have S1 := hcut
   clear hcut
   have hz1 : Aside ((rotIf i m en d0).size = l.length) := S1.out.1
   have hr : Aside (symMerge (ltC cf) (f + 1) a m b d0 = (let d2 := if a < i ∧ i < mid then symMerge (ltC cf) f a i mid (rotIf i m en d0) else rotIf i m en d0; if mid < en ∧ en < b then symMerge (ltC cf) f mid en b d2 else d2)) := sym_rest (ltC cf) f a m b mid i en d0 c1 c2 hmid.out hs_.out.symm hen.out
   generalize rotIf i m en d0 = d1 at S1 hr hz1
   clear hs_ hen hmid hd0
   apply_assumption
   exact sym_tail LL.out hk gF eg cf HC.out hsz f a m b i mid en d1 _ wc S1.out ham hmb hb hf m1 m2 ih.out hr.out
set_option maxHeartbeats 16000000 in
set_option maxRecDepth 1000000 in
theorem sym_calls4 {P : Program} {k : Nat} (L : SL P k) {α : Type} {d : Kd α} (hk : d.sz = k) {e : Nat} {w0 : World} {base : Nat} {ok : Nat → Prop} {g cap : Nat} {z : α} {l : List α} (gF : Nat) (eg : ∀ args w, (callFunc gF args).run P w = .ok (.enter gF args) w) (cf : Nat → Nat → Int) (HC : Cmp P gF d z l cf) (hsz : l.length < 4611686018427387904) (f a m b : Nat) (d0 : Array Nat) (w : World) (S : SN d e w0 base ok g cap z l d0 w) (ham : a < m) (hmb : m < b) (hb : b ≤ l.length) (hf : b - a ≤ f + 1) (ih : ∀ (a m b : Nat) (d0 : Array Nat) (w : World), SN d e w0 base ok g cap z l d0 w → a < m → m < b → b ≤ l.length → b - a ≤ f → Calls P 127 #[.slice (some ⟨g, 0, none⟩) l.length cap, .int .i64 a, .int .i64 m, .int .i64 b, .func (.func gF) #[] #[]] w fun e' w' => e' = .returned (.tuple #[]) ∧ SN d e w0 base ok g cap z l (symMerge (ltC cf) (f) a m b d0) w') (c1 : ¬ m - a = 1) (c2 : ¬ b - m = 1) (c3 : ¬ (a + b) / 2 < m) :
  Calls P 127 #[.slice (some ⟨g, 0, none⟩) l.length cap, .int .i64 a, .int .i64 m, .int .i64 b, .func (.func gF) #[] #[]] w fun e' w' => e' = .returned (.tuple #[]) ∧ SN d e w0 base ok g cap z l (symMerge (ltC cf) (f + 1) a m b d0) w' := by
 have mixed := L.mixed; have t3 := L.t3; have a3 := L.a3; have z3 := L.z3; have v3 := L.v3; have t4 := L.t4; have a4 := L.a4; have z4 := L.z4; have v4 := L.v4; have tS := L.tS; have aS := L.aS; have zS := L.zS; have vS := L.vS; have tU := L.tU; have aU := L.aU; have zU := L.zU; have vU := L.vU; have aF := L.aF; have zF := L.zF; have aE := L.aE; have zE := L.zE
 have uS := run_underlying L.tS
 have eg1 : ∀ args w, (callFunc 145 args).run P w = .ok (.enter 145 args) w := enters_of L.fSwap (by kernel_rfl) rfl
 have eg2 : ∀ args w, (callFunc 140 args).run P w = .ok (.enter 140 args) w := enters_of L.fRot (by kernel_rfl) rfl
 have eg3 : ∀ args w, (callFunc 126 args).run P w = .ok (.enter 126 args) w := enters_of L.fIns (by kernel_rfl) rfl
 have eg4 : ∀ args w, (callFunc 127 args).run P w = .ok (.enter 127 args) w := enters_of L.fSym (by kernel_rfl) rfl
 have eg5 : ∀ args w, (callFunc 110 args).run P w = .ok (.enter 110 args) w := enters_of L.fStable (by kernel_rfl) rfl
 have FG := L.fSym
 have S0 : Aside (SN d e w0 base ok g cap z l d0 w) := S
 have LL : Aside (SL P k) := L
 replace HC : Aside _ := HC
 replace ih : Aside _ := ih
 clear S L
 have r1 : IntKind.i64.wrap ((m : Int) - (a : Int)) = (m : Int) - (a : Int) := by rw [IntKind.wrap_i64]; omega
 have r2 : IntKind.i64.wrap ((b : Int) - (m : Int)) = (b : Int) - (m : Int) := by rw [IntKind.wrap_i64]; omega
 go_enter FG, Try.ntmps127
 have c1z : ¬ (m : Int) - (a : Int) = 1 := by omega
 have c2z : ¬ (b : Int) - (m : Int) = 1 := by omega
 obtain ⟨mid, hmid⟩ : ∃ mid, mid = (a + b) / 2 := ⟨_, rfl⟩
 have hmz : ((a : Int) + (b : Int)) / 2 = (mid : Int) := by omega
 have m1 : a + b - 1 ≤ 2 * mid := by omega
 have m2 : 2 * mid ≤ a + b := by omega
 replace hmid : Aside _ := hmid
 have rn : IntKind.i64.wrap ((mid : Int) + (m : Int)) = (mid : Int) + (m : Int) := by rw [IntKind.wrap_i64]; omega
 have rp : IntKind.i64.wrap ((mid : Int) + (m : Int) - 1) = (mid : Int) + (m : Int) - 1 := by rw [IntKind.wrap_i64]; omega
 have c3' : ¬ mid < m := by have := hmid.out; omega
 clear c3
 have c3 := c3'
 clear c3'
 have c3z : ¬ (mid : Int) < (m : Int) := by omega
 have hcut : Aside (cut (ltC cf) a m b d0 = bs (fun c => !ltC cf d0[mid + m - 1 - c]! d0[c]!) (b - a) a m) := by
  show cut _ _ _ _ _ = _
  unfold cut
  rw [← hmid.out, if_neg (by omega)]
 go_wp2
 go_loopg [20, 21] (b - a) (fun kx sa sb wr => ∃ (q i j : Nat), sa = .int .i64 i ∧ sb = .int .i64 j ∧ a ≤ i ∧ i ≤ j ∧ j ≤ m ∧ j - i ≤ q ∧ q ≤ kx ∧ Aside (SN d e w0 base ok g cap z l d0 wr) ∧ Hid (bs (fun c => !ltC cf d0[mid + m - 1 - c]! d0[c]!) q i j = bs (fun c => !ltC cf d0[mid + m - 1 - c]! d0[c]!) (b - a) (a) (m)))
 case atStart => exact ⟨b - a, a, m, by go_num, by go_num, Nat.le_refl _, by omega, Nat.le_refl _, by omega, Nat.le_refl _, S0, rfl⟩
 case round =>
  obtain ⟨q, i, j, rfl, rfl, hmi, hij, hjb, hq, hkx, S1, HE⟩ := hrel
  clear S0
  by_cases hlt : i < j
  ·obtain ⟨q, rfl⟩ : ∃ q', q = q' + 1 := ⟨q - 1, by omega⟩
   have hltz : (i : Int) < (j : Int) := by omega
   obtain ⟨h, hh⟩ : ∃ h, h = (i + j) / 2 := ⟨_, rfl⟩
   have hz : ((i : Int) + (j : Int)) / 2 = (h : Int) := by omega
   have hlo : i ≤ h := by omega
   have hhi : h < j := by omega
   have hB := HE.out
   rw [bs_step, if_pos hlt, ← hh] at hB
   replace hB : Aside _ := hB
   clear hh HE
   have hd0 := S1.out.1
   have q1 : (h : Int) < (l.length : Int) := by omega
   obtain ⟨x, hx⟩ : ∃ x, x = mid + m - 1 - h := ⟨_, rfl⟩
   have hxz : (mid : Int) + (m : Int) - 1 - (h : Int) = (x : Int) := by omega
   have rx : IntKind.i64.wrap (x : Int) = (x : Int) := by rw [IntKind.wrap_i64]; omega
   have q2 : (x : Int) < (l.length : Int) := by omega
   have q3 : x < l.length := by omega
   have hB2 := hB.out
   (try dsimp only at hB2)
   rw [← hx] at hB2
   replace hB : Aside _ := hB2
   clear hB2 hx
   cases hL : ltC cf d0[x]! d0[h]! with
   | true =>
    obtain ⟨cX, nX, FX, lX0, _⟩ := S1.out.elem x (by omega)
    obtain ⟨cY, nY, FY, lY0, _⟩ := S1.out.elem h (by omega)
    rw [hk] at nX nY lX0 lY0
    have lX := fun q => lX0 q P
    have lY := fun q => lY0 q P
    obtain ⟨vc, hvc⟩ : ∃ v, v = cf d0[x]! d0[h]! := ⟨_, rfl⟩
    have hcc : ∀ q : Bw wr, Calls P gF #[.agg cX.toArray, .agg cY.toArray] q.1 fun e w' => e = .returned (.int .i64 vc) ∧ Below q.1.heap.size q.1 w' := fun q => by rw [hvc]; exact HC.out q.1 _ _ _ _ (fk_below FX q.2) (fk_below FY q.2)
    have hv : vc < 0 := by rw [hvc]; exact of_decide_eq_true hL
    have hd : decide (vc < 0) = true := decide_eq_true hv
    clear hvc lX0 lY0 FX FY
    go_wp2_with fail
    refine wp_region_quiet_below (by assumption) (by kernel_rfl) ?_
    repeat (quiet_step (first | (go_at_fn gF; refine Calls.below_of (hcc _))))
    refine wpQuiet_nil ?_
    intro _ hw'
    obtain ⟨pq, hw''⟩ := hw'
    subst hw''
    have S2 : Aside (SN d e w0 base ok g cap z l d0 pq.1) := S1.out.below pq.2
    clear lX lY hcc S1
    generalize pq.1 = w2 at S2 ⊢
    clear pq
    go_wp2
    go_roundg q
    case measure => omega
    case rel =>
     have hC := hB.out
     rw [if_neg (by rw [hL]; decide)] at hC
     exact ⟨q, i, h, by go_num, by go_num, by omega, by omega, by omega, by omega, Nat.le_refl _, S2, hC⟩
   | false =>
    obtain ⟨cX, nX, FX, lX0, _⟩ := S1.out.elem x (by omega)
    obtain ⟨cY, nY, FY, lY0, _⟩ := S1.out.elem h (by omega)
    rw [hk] at nX nY lX0 lY0
    have lX := fun q => lX0 q P
    have lY := fun q => lY0 q P
    obtain ⟨vc, hvc⟩ : ∃ v, v = cf d0[x]! d0[h]! := ⟨_, rfl⟩
    have hcc : ∀ q : Bw wr, Calls P gF #[.agg cX.toArray, .agg cY.toArray] q.1 fun e w' => e = .returned (.int .i64 vc) ∧ Below q.1.heap.size q.1 w' := fun q => by rw [hvc]; exact HC.out q.1 _ _ _ _ (fk_below FX q.2) (fk_below FY q.2)
    have hv : ¬ vc < 0 := by rw [hvc]; exact of_decide_eq_false hL
    have hd : decide (vc < 0) = false := decide_eq_false hv
    clear hvc lX0 lY0 FX FY
    go_wp2_with fail
    refine wp_region_quiet_below (by assumption) (by kernel_rfl) ?_
    repeat (quiet_step (first | (go_at_fn gF; refine Calls.below_of (hcc _))))
    refine wpQuiet_nil ?_
    intro _ hw'
    obtain ⟨pq, hw''⟩ := hw'
    subst hw''
    have S2 : Aside (SN d e w0 base ok g cap z l d0 pq.1) := S1.out.below pq.2
    clear lX lY hcc S1
    generalize pq.1 = w2 at S2 ⊢
    clear pq
    go_wp2
    go_roundg q
    case measure => omega
    case rel =>
     have hC := hB.out
     rw [if_pos (by rw [hL]; rfl)] at hC
     exact ⟨q, h + 1, j, by go_num, by go_num, by omega, by omega, by omega, by omega, Nat.le_refl _, S2, hC⟩
  ·have hltz : ¬ (i : Int) < (j : Int) := by omega
   have hB := HE.out
   rw [bs_stop _ _ _ _ hlt] at hB
   replace hB : Aside _ := hB
   clear HE
   have hs_ := hB.out
   rw [← hcut.out] at hs_
   replace hs_ : Aside _ := hs_
   clear hB hcut r1 r2 rp
   obtain ⟨en, hen⟩ : ∃ en, en = mid + m - i := ⟨_, rfl⟩
   have henz : (mid : Int) + (m : Int) - (i : Int) = (en : Int) := by omega
   have ren : IntKind.i64.wrap (en : Int) = (en : Int) := by rw [IntKind.wrap_i64]; omega
   have n1 : en + i = mid + m := by omega
   have n2 : m ≤ en := by omega
   have n3 : en ≤ b := by omega
   have n4 : a ≤ i := by omega
   have n5 : i ≤ m := by omega
   have n6 : i ≤ mid := by omega
   have n7 : mid ≤ en := by omega
   have hd0 : Aside (d0.size = l.length) := S1.out.1
   replace hen : Aside _ := hen
   go_upto_region 39 with fail
   go_cut [185] (fun s wc => s = .bool (decide (i < m ∧ m < en)) ∧ Aside (SN d e w0 base ok g cap z l (d0) wc))
   case first =>
    by_cases c5 : i < m
    ·have c5z : (i : Int) < (m : Int) := by omega
     by_cases c6 : m < en
     ·have c6z : (m : Int) < (en : Int) := by omega
      go_wp2
      go_meet
      case rel => exact ⟨by rw [decide_eq_true (show i < m ∧ m < en from ⟨c5, c6⟩)], S1⟩
     ·have c6z : ¬ (m : Int) < (en : Int) := by omega
      go_wp2
      go_meet
      case rel => exact ⟨by rw [decide_eq_false (show ¬ (i < m ∧ m < en) from fun h => c6 h.2)], S1⟩
    ·have c5z : ¬ (i : Int) < (m : Int) := by omega
     go_wp2
     go_meet
     case rel => exact ⟨by rw [decide_eq_false (show ¬ (i < m ∧ m < en) from fun h => c5 h.1)], S1⟩
   case rest =>
   clear S1
   obtain ⟨rfl, S1⟩ := hcut
   go_upto_if 185 with fail
   go_cut [] (fun wc => Aside (SN d e w0 base ok g cap z l (rotIf i m en d0) wc))
   case first =>
    by_cases c7 : i < m ∧ m < en
    ·have c7b : decide (i < m ∧ m < en) = true := decide_eq_true c7
     have hcall : Calls P 140 #[.slice (some ⟨g, 0, none⟩) l.length cap, .int .i64 (i : Nat), .int .i64 (m : Nat), .int .i64 (en : Nat), .func (.func gF) #[] #[]] wc fun e' w' => e' = .returned (.tuple #[]) ∧ SN d e w0 base ok g cap z l (rot m (en - i) (m - i) (en - m) d0) w' := rotate_calls LL.out hk S1.out _ i m en c7.1 c7.2 (by omega) hsz
     replace c7 : Aside _ := c7
     go_wp2_with (go_at_fn 140; refine hcall.mono ?_; rintro e1 w1 ⟨rfl, S2⟩; replace S2 : Aside _ := S2)
     go_meet
     case rel => exact (show Aside _ from by unfold rotIf; rw [if_pos c7.out]; exact S2.out)
    ·have c7b : decide (i < m ∧ m < en) = false := decide_eq_false c7
     replace c7 : Aside _ := c7
     go_wp2
     go_meet
     case rel => exact (show Aside _ from by unfold rotIf; rw [if_neg c7.out]; exact S1.out)
   case rest =>
   clear S1
   have S1 := hcut
   clear hcut
   have hz1 : Aside ((rotIf i m en d0).size = l.length) := S1.out.1
   have hr : Aside (symMerge (ltC cf) (f + 1) a m b d0 = (let d2 := if a < i ∧ i < mid then symMerge (ltC cf) f a i mid (rotIf i m en d0) else rotIf i m en d0; if mid < en ∧ en < b then symMerge (ltC cf) f mid en b d2 else d2)) := sym_rest (ltC cf) f a m b mid i en d0 c1 c2 hmid.out hs_.out.symm hen.out
   generalize rotIf i m en d0 = d1 at S1 hr hz1
   clear hs_ hen hmid hd0
   apply_assumption
   exact sym_tail LL.out hk gF eg cf HC.out hsz f a m b i mid en d1 _ wc S1.out ham hmb hb hf m1 m2 ih.out hr.out
end Go.Proofs.YtapgfamppnhnmaaSort
