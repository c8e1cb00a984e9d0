/- The library's stable sort, walked: further part. -/
import Derived.Test.YtapgfamppnhnmaaSortB
namespace Go.Proofs.YtapgfamppnhnmaaSort
open Go Go.RowKit Go.Lib Go.Sort Go.Proofs.YtapgfamppnhnmaaW.PrintWords Go.Proofs.YtapgfamppnhnmaaStable
set_option linter.unusedVariables false
theorem sym_calls {P : Program} {k : Nat} (L : SL P k) {α : Type} {d : Kd α} (hk : d.sz = k) {e : Nat} {w0 : World} {base : Nat} {ok : Nat → Prop} {g cap : Nat} {z : α} {l : List α} (gF : Nat) (eg : ∀ args w, (callFunc gF args).run P w = .ok (.enter gF args) w) (cf : Nat → Nat → Int) (HC : Cmp P gF d z l cf) (hsz : l.length < 4611686018427387904) : ∀ (f : Nat), ∀ (a m b : Nat) (d0 : Array Nat) (w : World), SN d e w0 base ok g cap z l d0 w → a < m → m < b → b ≤ l.length → b - a ≤ f → Calls P 127 #[.slice (some ⟨g, 0, none⟩) l.length cap, .int .i64 a, .int .i64 m, .int .i64 b, .func (.func gF) #[] #[]] w fun e' w' => e' = .returned (.tuple #[]) ∧ SN d e w0 base ok g cap z l (symMerge (ltC cf) (f) a m b d0) w' := by
 intro f
 induction f with
 | zero => intros; omega
 | succ f ih =>
 intro a m b d0 w S ham hmb hb hf
 by_cases c1 : m - a = 1
 ·exact sym_calls1 L hk gF eg cf HC hsz f a m b d0 w S ham hmb hb hf c1
 by_cases c2 : b - m = 1
 ·exact sym_calls2 L hk gF eg cf HC hsz f a m b d0 w S ham hmb hb hf c1 c2
 by_cases c3 : (a + b) / 2 < m
 ·exact sym_calls3 L hk gF eg cf HC hsz f a m b d0 w S ham hmb hb hf ih c1 c2 c3
 ·exact sym_calls4 L hk gF eg cf HC hsz f a m b d0 w S ham hmb hb hf ih c1 c2 c3
theorem insertion_size (lt : Nat → Nat → Bool) (a b : Nat) : ∀ (n i : Nat) (d : Array Nat), b - i = n → (insOuter lt a b i d).size = d.size
 | 0, i, d, h => by rw [insOuter, if_neg (by omega)]
 | n + 1, i, d, h => by rw [insOuter, if_pos (by omega), insertion_size lt a b n (i + 1) _ (by omega), insInner_size']
theorem insertionSort_size (lt : Nat → Nat → Bool) (a b : Nat) (d : Array Nat) : (insertionSort lt d a b).size = d.size := insertion_size lt a b _ _ d rfl
theorem blocks_step (lt : Nat → Nat → Bool) (n f a : Nat) (d : Array Nat) : blocks lt n (f + 1) a d = if a + 20 ≤ n then blocks lt n f (a + 20) (insertionSort lt d a (a + 20)) else insertionSort lt d a n := rfl
theorem pass_step (lt : Nat → Nat → Bool) (n bs f a : Nat) (d : Array Nat) : pass lt n bs (f + 1) a d = if a + 2 * bs ≤ n then pass lt n bs f (a + 2 * bs) (symMerge lt (2 * bs) a (a + bs) (a + 2 * bs) d) else if a + bs < n then symMerge lt (n - a) a (a + bs) n d else d := rfl
theorem passes_step (lt : Nat → Nat → Bool) (n f bs : Nat) (d : Array Nat) : passes lt n (f + 1) bs d = if bs < n then passes lt n f (2 * bs) (pass lt n bs (n + 1) 0 d) else d := rfl
theorem passes_stop (lt : Nat → Nat → Bool) (n f bs : Nat) (d : Array Nat) (h : ¬ bs < n) : passes lt n f bs d = d := by
 cases f with
 | zero => rfl
 | succ f => rw [passes_step, if_neg h]
set_option maxHeartbeats 8000000 in
set_option maxRecDepth 1000000 in
theorem stable_calls {P : Program} {k : Nat} (L : SL P k) {α : Type} {d : Kd α} (hk : d.sz = k) {e : Nat} {w0 : World} {base : Nat} {ok : Nat → Prop} {g cap : Nat} {z : α} {l : List α} (gF : Nat) (eg : ∀ args w, (callFunc gF args).run P w = .ok (.enter gF args) w) (cf : Nat → Nat → Int) (HC : Cmp P gF d z l cf) (hsz : l.length < 2305843009213693952) {d0 : Array Nat} {w : World} (S : SN d e w0 base ok g cap z l d0 w) :
  Calls P 110 #[.slice (some ⟨g, 0, none⟩) l.length cap, .int .i64 l.length, .func (.func gF) #[] #[]] w fun e' w' => e' = .returned (.tuple #[]) ∧ SN d e w0 base ok g cap z l (Go.Proofs.YtapgfamppnhnmaaStable.stable (ltC cf) l.length d0) w' := by
 have mixed := L.mixed; have t3 := L.t3; have a3 := L.a3; have z3 := L.z3; have v3 := L.v3; have t4 := L.t4; have a4 := L.a4; have z4 := L.z4; have v4 := L.v4; have tS := L.tS; have aS := L.aS; have zS := L.zS; have vS := L.vS; have tU := L.tU; have aU := L.aU; have zU := L.zU; have vU := L.vU; have aF := L.aF; have zF := L.zF; have aE := L.aE; have zE := L.zE
 have uS := run_underlying L.tS
 have eg1 : ∀ args w, (callFunc 145 args).run P w = .ok (.enter 145 args) w := enters_of L.fSwap (by kernel_rfl) rfl
 have eg2 : ∀ args w, (callFunc 140 args).run P w = .ok (.enter 140 args) w := enters_of L.fRot (by kernel_rfl) rfl
 have eg3 : ∀ args w, (callFunc 126 args).run P w = .ok (.enter 126 args) w := enters_of L.fIns (by kernel_rfl) rfl
 have eg4 : ∀ args w, (callFunc 127 args).run P w = .ok (.enter 127 args) w := enters_of L.fSym (by kernel_rfl) rfl
 have eg5 : ∀ args w, (callFunc 110 args).run P w = .ok (.enter 110 args) w := enters_of L.fStable (by kernel_rfl) rfl
 have FG := L.fStable
 have S0 : Aside (SN d e w0 base ok g cap z l d0 w) := S
 have LL : Aside (SL P k) := L
 replace HC : Aside _ := HC
 clear S L
 go_enter FG, Try.ntmps110
 go_wp2
 go_loopg [7, 8] l.length (fun kx s7 s8 wr => ∃ (f a : Nat) (dk : Array Nat), s7 = .int .i64 a ∧ s8 = .int .i64 ((a : Int) + 20) ∧ a ≤ l.length ∧ l.length - a < f ∧ l.length - a ≤ kx ∧ Aside (SN d e w0 base ok g cap z l dk wr) ∧ Hid (blocks (ltC cf) l.length f a dk = blocks (ltC cf) l.length (l.length + 1) 0 d0))
 case atStart => exact ⟨l.length + 1, 0, d0, rfl, rfl, Nat.zero_le _, by omega, by omega, S0, rfl⟩
 case round =>
  clear S0
  obtain ⟨f, a, dk, rfl, rfl, ha, hf, hkx, S1, HE⟩ := hrel
  obtain ⟨f, rfl⟩ : ∃ q, f = q + 1 := ⟨f - 1, by omega⟩
  by_cases hlt : a + 20 ≤ l.length
  ·have hltz : (a : Int) + 20 ≤ (l.length : Int) := by omega
   have r1 : IntKind.i64.wrap ((a : Int) + 20 + 20) = (a : Int) + 20 + 20 := by rw [IntKind.wrap_i64]; omega
   have hc : Calls P 126 #[.slice (some ⟨g, 0, none⟩) l.length cap, .int .i64 (a : Int), .int .i64 ((a : Int) + 20), .func (.func gF) #[] #[]] wr fun e' w' => e' = .returned (.tuple #[]) ∧ SN d e w0 base ok g cap z l (insertionSort (ltC cf) dk a (a + 20)) w' := by
    rw [show (a : Int) + 20 = ((a + 20 : Nat) : Int) by omega]
    exact insertion_calls LL.out hk S1.out gF eg cf HC.out a (a + 20) (by omega) hlt (by omega)
   go_wp2_with (go_at_fn 126; refine hc.mono ?_; rintro e1 w1 ⟨rfl, S2⟩; replace S2 : Aside _ := S2)
   go_roundg (l.length - (a + 20))
   case measure => omega
   case rel =>
    have h := HE.out
    rw [blocks_step, if_pos hlt] at h
    exact ⟨f, a + 20, insertionSort (ltC cf) dk a (a + 20), by go_num, by go_num, hlt, by omega, Nat.le_refl _, S2, h⟩
  ·have hltz : ¬ (a : Int) + 20 ≤ (l.length : Int) := by omega
   have h := HE.out
   rw [blocks_step, if_neg hlt] at h
   have hB : Aside (insertionSort (ltC cf) dk a l.length = blocks (ltC cf) l.length (l.length + 1) 0 d0) := h
   clear h HE
   have hc : Calls P 126 #[.slice (some ⟨g, 0, none⟩) l.length cap, .int .i64 (a : Int), .int .i64 (l.length : Int), .func (.func gF) #[] #[]] wr fun e' w' => e' = .returned (.tuple #[]) ∧ SN d e w0 base ok g cap z l (blocks (ltC cf) l.length (l.length + 1) 0 d0) w' := by
    rw [← hB.out]
    exact insertion_calls LL.out hk S1.out gF eg cf HC.out a l.length ha (Nat.le_refl _) (by omega)
   clear hB
   go_wp2_with (go_at_fn 126; refine hc.mono ?_; rintro e1 w1 ⟨rfl, S2⟩; replace S2 : Aside _ := S2)
   clear S1
   go_loopg [6] l.length (fun kx s6 wr => ∃ (f bs : Nat) (dj : Array Nat), s6 = .int .i64 bs ∧ 0 < bs ∧ bs < 4611686018427387904 ∧ l.length - bs ≤ f ∧ l.length - bs ≤ kx ∧ Aside (SN d e w0 base ok g cap z l dj wr) ∧ Hid (passes (ltC cf) l.length f bs dj = passes (ltC cf) l.length l.length 20 (blocks (ltC cf) l.length (l.length + 1) 0 d0)))
   case atStart => exact ⟨l.length, 20, _, rfl, by omega, by omega, by omega, by omega, S2, rfl⟩
   case round =>
    clear S2
    obtain ⟨f, bs, dj, rfl, hb0, hb1, hf2, hkx2, S3, HP⟩ := hrel
    by_cases hlp : bs < l.length
    ·obtain ⟨f, rfl⟩ : ∃ q, f = q + 1 := ⟨f - 1, by omega⟩
     have hlpz : (bs : Int) < (l.length : Int) := by omega
     have r2 : IntKind.i64.wrap (2 * (bs : Int)) = 2 * (bs : Int) := by rw [IntKind.wrap_i64]; omega
     have r3 : IntKind.i64.wrap ((bs : Int) * 2) = (bs : Int) * 2 := by rw [IntKind.wrap_i64]; omega
     have h := HP.out
     rw [passes_step, if_pos hlp] at h
     replace HP : Hid _ := h
     clear h
     go_wp2
     go_loopg [7, 8] l.length (fun kx s7 s8 wr => ∃ (q a : Nat) (dk : Array Nat), s7 = .int .i64 a ∧ s8 = .int .i64 ((a : Int) + 2 * (bs : Int)) ∧ a ≤ l.length ∧ l.length - a < q ∧ l.length - a ≤ kx ∧ Aside (SN d e w0 base ok g cap z l dk wr) ∧ Hid (pass (ltC cf) l.length bs q a dk = pass (ltC cf) l.length bs (l.length + 1) 0 dj))
     case atStart => exact ⟨l.length + 1, 0, dj, rfl, by go_num, Nat.zero_le _, by omega, by omega, S3, rfl⟩
     case round =>
      clear S3
      obtain ⟨q, a, dk, rfl, rfl, ha, hq, hkx3, S4, HQ⟩ := hrel
      obtain ⟨q, rfl⟩ : ∃ q', q = q' + 1 := ⟨q - 1, by omega⟩
      have r4 : IntKind.i64.wrap ((a : Int) + (bs : Int)) = (a : Int) + (bs : Int) := by rw [IntKind.wrap_i64]; omega
      by_cases hl1 : a + 2 * bs ≤ l.length
      ·have hl1z : (a : Int) + 2 * (bs : Int) ≤ (l.length : Int) := by omega
       have r5 : IntKind.i64.wrap ((a : Int) + 2 * (bs : Int) + 2 * (bs : Int)) = (a : Int) + 2 * (bs : Int) + 2 * (bs : Int) := by rw [IntKind.wrap_i64]; omega
       have hc : Calls P 127 #[.slice (some ⟨g, 0, none⟩) l.length cap, .int .i64 (a : Int), .int .i64 ((a : Int) + (bs : Int)), .int .i64 ((a : Int) + 2 * (bs : Int)), .func (.func gF) #[] #[]] wr fun e' w' => e' = .returned (.tuple #[]) ∧ SN d e w0 base ok g cap z l (symMerge (ltC cf) (2 * bs) a (a + bs) (a + 2 * bs) dk) w' := by
        rw [show (a : Int) + (bs : Int) = ((a + bs : Nat) : Int) by omega, show (a : Int) + 2 * (bs : Int) = ((a + 2 * bs : Nat) : Int) by omega]
        exact sym_calls LL.out hk gF eg cf HC.out (by omega) (2 * bs) a (a + bs) (a + 2 * bs) dk wr S4.out (by omega) (by omega) hl1 (by omega)
       go_wp2_with (go_at_fn 127; refine hc.mono ?_; rintro e1 w1 ⟨rfl, S5⟩; replace S5 : Aside _ := S5)
       go_roundg (l.length - (a + 2 * bs))
       case measure => omega
       case rel =>
        have h := HQ.out
        rw [pass_step, if_pos hl1] at h
        exact ⟨q, a + 2 * bs, symMerge (ltC cf) (2 * bs) a (a + bs) (a + 2 * bs) dk, by go_num, by go_num, hl1, by omega, Nat.le_refl _, S5, h⟩
      ·have hl1z : ¬ (a : Int) + 2 * (bs : Int) ≤ (l.length : Int) := by omega
       have h := HQ.out
       rw [pass_step, if_neg hl1] at h
       by_cases hl2 : a + bs < l.length
       ·have hl2z : (a : Int) + (bs : Int) < (l.length : Int) := by omega
        rw [if_pos hl2] at h
        have hc : Calls P 127 #[.slice (some ⟨g, 0, none⟩) l.length cap, .int .i64 (a : Int), .int .i64 ((a : Int) + (bs : Int)), .int .i64 (l.length : Int), .func (.func gF) #[] #[]] wr fun e' w' => e' = .returned (.tuple #[]) ∧ SN d e w0 base ok g cap z l (pass (ltC cf) l.length bs (l.length + 1) 0 dj) w' := by
         rw [← h, show (a : Int) + (bs : Int) = ((a + bs : Nat) : Int) by omega]
         exact sym_calls LL.out hk gF eg cf HC.out (by omega) (l.length - a) a (a + bs) l.length dk wr S4.out (by omega) hl2 (Nat.le_refl _) (by omega)
        clear h HQ
        go_wp2_with (go_at_fn 127; refine hc.mono ?_; rintro e1 w1 ⟨rfl, S5⟩; replace S5 : Aside _ := S5)
        go_roundg (l.length - 2 * bs)
        case measure => omega
        case rel => exact ⟨f, 2 * bs, _, by go_num, by omega, by omega, by omega, Nat.le_refl _, S5, HP⟩
       ·have hl2z : ¬ (a : Int) + (bs : Int) < (l.length : Int) := by omega
        rw [if_neg hl2] at h
        have S5 : Aside (SN d e w0 base ok g cap z l (pass (ltC cf) l.length bs (l.length + 1) 0 dj) wr) := (show Aside _ from by rw [← h]; exact S4.out)
        clear h HQ S4
        go_wp2
        go_roundg (l.length - 2 * bs)
        case measure => omega
        case rel => exact ⟨f, 2 * bs, _, by go_num, by omega, by omega, by omega, Nat.le_refl _, S5, HP⟩
    ·have hlpz : ¬ (bs : Int) < (l.length : Int) := by omega
     go_wp2
     go_end0
     refine ⟨rfl, ?_⟩
     have h := HP.out
     rw [passes_stop _ _ _ _ _ hlp] at h
     unfold Go.Proofs.YtapgfamppnhnmaaStable.stable
     rw [← h]
     exact S3.out
set_option maxHeartbeats 4000000 in
set_option maxRecDepth 1000000 in
theorem top_calls {P : Program} {k : Nat} (L : SL P k) {α : Type} {d : Kd α} (hk : d.sz = k) {e : Nat} {w0 : World} {base : Nat} {ok : Nat → Prop} {g cap : Nat} {z : α} {l : List α} (gF : Nat) (eg : ∀ args w, (callFunc gF args).run P w = .ok (.enter gF args) w) (cf : Nat → Nat → Int) (HC : Cmp P gF d z l cf) (hsz : l.length < 2305843009213693952) {d0 : Array Nat} {w : World} (S : SN d e w0 base ok g cap z l d0 w) :
  Calls P 78 #[.slice (some ⟨g, 0, none⟩) l.length cap, .func (.func gF) #[] #[]] w fun e' w' => e' = .returned (.tuple #[]) ∧ SN d e w0 base ok g cap z l (Go.Proofs.YtapgfamppnhnmaaStable.stable (ltC cf) l.length d0) w' := by
 have mixed := L.mixed; have t3 := L.t3; have a3 := L.a3; have z3 := L.z3; have v3 := L.v3; have t4 := L.t4; have a4 := L.a4; have z4 := L.z4; have v4 := L.v4; have tS := L.tS; have aS := L.aS; have zS := L.zS; have vS := L.vS; have tU := L.tU; have aU := L.aU; have zU := L.zU; have vU := L.vU; have aF := L.aF; have zF := L.zF; have aE := L.aE; have zE := L.zE
 have uS := run_underlying L.tS
 have eg1 : ∀ args w, (callFunc 145 args).run P w = .ok (.enter 145 args) w := enters_of L.fSwap (by kernel_rfl) rfl
 have eg2 : ∀ args w, (callFunc 140 args).run P w = .ok (.enter 140 args) w := enters_of L.fRot (by kernel_rfl) rfl
 have eg3 : ∀ args w, (callFunc 126 args).run P w = .ok (.enter 126 args) w := enters_of L.fIns (by kernel_rfl) rfl
 have eg4 : ∀ args w, (callFunc 127 args).run P w = .ok (.enter 127 args) w := enters_of L.fSym (by kernel_rfl) rfl
 have eg5 : ∀ args w, (callFunc 110 args).run P w = .ok (.enter 110 args) w := enters_of L.fStable (by kernel_rfl) rfl
 have FG := L.fTop
 have hc := stable_calls L hk gF eg cf HC hsz S
 clear S L HC
 go_enter FG, Try.ntmps78
 go_wp2_with (go_at_fn 110; refine hc.mono ?_; rintro e1 w1 ⟨rfl, S2⟩; replace S2 : Aside _ := S2)
 go_end0
 exact ⟨rfl, S2.out⟩
set_option maxHeartbeats 4000000 in
set_option maxRecDepth 1000000 in
theorem ins_none {P : Program} {k : Nat} (L : SL P k) (v cv : Value) (w : World) : Calls P 126 #[v, .int .i64 0, .int .i64 0, cv] w fun e' w' => e' = .returned (.tuple #[]) ∧ w' = w := by
 have mixed := L.mixed; have t3 := L.t3; have a3 := L.a3; have z3 := L.z3; have v3 := L.v3; have t4 := L.t4; have a4 := L.a4; have z4 := L.z4; have v4 := L.v4; have tS := L.tS; have aS := L.aS; have zS := L.zS; have vS := L.vS; have tU := L.tU; have aU := L.aU; have zU := L.zU; have vU := L.vU; have aF := L.aF; have zF := L.zF; have aE := L.aE; have zE := L.zE
 have uS := run_underlying L.tS
 have eg1 : ∀ args w, (callFunc 145 args).run P w = .ok (.enter 145 args) w := enters_of L.fSwap (by kernel_rfl) rfl
 have eg2 : ∀ args w, (callFunc 140 args).run P w = .ok (.enter 140 args) w := enters_of L.fRot (by kernel_rfl) rfl
 have eg3 : ∀ args w, (callFunc 126 args).run P w = .ok (.enter 126 args) w := enters_of L.fIns (by kernel_rfl) rfl
 have eg4 : ∀ args w, (callFunc 127 args).run P w = .ok (.enter 127 args) w := enters_of L.fSym (by kernel_rfl) rfl
 have eg5 : ∀ args w, (callFunc 110 args).run P w = .ok (.enter 110 args) w := enters_of L.fStable (by kernel_rfl) rfl
 have FG := L.fIns
 clear L
 go_enter FG, Try.ntmps126
 go_wp2
 refine wp_loop_rounds 1 ?_
 rw [rounds_succ]
 go_wp2
 all_goals first | (exfalso; omega) | (go_end0; exact ⟨rfl, rfl⟩)
set_option maxHeartbeats 4000000 in
set_option maxRecDepth 1000000 in
theorem stable_none {P : Program} {k : Nat} (L : SL P k) (v cv : Value) (w : World) : Calls P 110 #[v, .int .i64 0, cv] w fun e' w' => e' = .returned (.tuple #[]) ∧ w' = w := by
 have mixed := L.mixed; have t3 := L.t3; have a3 := L.a3; have z3 := L.z3; have v3 := L.v3; have t4 := L.t4; have a4 := L.a4; have z4 := L.z4; have v4 := L.v4; have tS := L.tS; have aS := L.aS; have zS := L.zS; have vS := L.vS; have tU := L.tU; have aU := L.aU; have zU := L.zU; have vU := L.vU; have aF := L.aF; have zF := L.zF; have aE := L.aE; have zE := L.zE
 have uS := run_underlying L.tS
 have eg1 : ∀ args w, (callFunc 145 args).run P w = .ok (.enter 145 args) w := enters_of L.fSwap (by kernel_rfl) rfl
 have eg2 : ∀ args w, (callFunc 140 args).run P w = .ok (.enter 140 args) w := enters_of L.fRot (by kernel_rfl) rfl
 have eg3 : ∀ args w, (callFunc 126 args).run P w = .ok (.enter 126 args) w := enters_of L.fIns (by kernel_rfl) rfl
 have eg4 : ∀ args w, (callFunc 127 args).run P w = .ok (.enter 127 args) w := enters_of L.fSym (by kernel_rfl) rfl
 have eg5 : ∀ args w, (callFunc 110 args).run P w = .ok (.enter 110 args) w := enters_of L.fStable (by kernel_rfl) rfl
 have FG := L.fStable
 have hc := ins_none L v cv w
 clear L
 go_enter FG, Try.ntmps110
 go_wp2
 refine wp_loop_rounds 1 ?_
 rw [rounds_succ]
 go_wp2_with (go_at_fn 126; refine hc.mono ?_; rintro e1 w1 ⟨rfl, rfl⟩)
 refine wp_loop_rounds 1 ?_
 rw [rounds_succ]
 go_wp2
 all_goals first | (exfalso; omega) | (go_end0; exact ⟨rfl, rfl⟩)
set_option maxHeartbeats 4000000 in
set_option maxRecDepth 1000000 in
theorem top_none {P : Program} {k : Nat} (L : SL P k) (A : Option Addr) (c : Nat) (cv : Value) (w : World) : Calls P 78 #[.slice A 0 c, cv] w fun e' w' => e' = .returned (.tuple #[]) ∧ w' = w := by
 have mixed := L.mixed; have t3 := L.t3; have a3 := L.a3; have z3 := L.z3; have v3 := L.v3; have t4 := L.t4; have a4 := L.a4; have z4 := L.z4; have v4 := L.v4; have tS := L.tS; have aS := L.aS; have zS := L.zS; have vS := L.vS; have tU := L.tU; have aU := L.aU; have zU := L.zU; have vU := L.vU; have aF := L.aF; have zF := L.zF; have aE := L.aE; have zE := L.zE
 have uS := run_underlying L.tS
 have eg1 : ∀ args w, (callFunc 145 args).run P w = .ok (.enter 145 args) w := enters_of L.fSwap (by kernel_rfl) rfl
 have eg2 : ∀ args w, (callFunc 140 args).run P w = .ok (.enter 140 args) w := enters_of L.fRot (by kernel_rfl) rfl
 have eg3 : ∀ args w, (callFunc 126 args).run P w = .ok (.enter 126 args) w := enters_of L.fIns (by kernel_rfl) rfl
 have eg4 : ∀ args w, (callFunc 127 args).run P w = .ok (.enter 127 args) w := enters_of L.fSym (by kernel_rfl) rfl
 have eg5 : ∀ args w, (callFunc 110 args).run P w = .ok (.enter 110 args) w := enters_of L.fStable (by kernel_rfl) rfl
 have FG := L.fTop
 have hc := stable_none L (.slice A 0 c) cv w
 clear L
 go_enter FG, Try.ntmps78
 go_wp2_with (go_at_fn 110; refine hc.mono ?_; rintro e1 w1 ⟨rfl, rfl⟩)
 go_end0
 exact ⟨rfl, rfl⟩
theorem sl : SL Try.prog 2 where
 mixed := by kernel_rfl
 aE := Try.isAgg74
 zE := Try.sizeOf74
 t3 := Try.underlying3
 a3 := Try.isAgg3
 z3 := Try.sizeOf3
 v3 := Try.zeroValue3
 t4 := Try.underlying4
 a4 := Try.isAgg4
 z4 := Try.sizeOf4
 v4 := Try.zeroValue4
 tS := Try.underlying38
 aS := Try.isAgg38
 zS := Try.sizeOf38
 vS := Try.zeroValue38
 tU := Try.underlying149
 aU := Try.isAgg149
 zU := Try.sizeOf149
 vU := Try.zeroValue149
 aF := Try.isAgg111
 zF := Try.sizeOf111
 fSwap := Try.func145
 fRot := Try.func140
 fIns := Try.func126
 fSym := Try.func127
 fStable := Try.func110
 fTop := Try.func78
theorem sorted {α : Type} {d : Kd α} (hk : d.sz = 2) {e : Nat} {b_ : Nat} {ok : Nat → Prop} {z : α} {l : List α} {A : Option Addr} {c : Nat} {w : World} (hN : Kd.N d e w b_ ok (.slice A l.length c) l) (gF : Nat) (eg : ∀ args w, (callFunc gF args).run Try.prog w = .ok (.enter gF args) w) (cf : Nat → Nat → Int) (HC : Cmp Try.prog gF d z l cf) (hsz : l.length < 2305843009213693952) :
  Calls Try.prog 78 #[.slice A l.length c, .func (.func gF) #[] #[]] w fun e' w' => e' = .returned (.tuple #[]) ∧ Kd.N d e w' b_ ok (.slice A l.length c) ((Go.Proofs.YtapgfamppnhnmaaStable.stable (ltC cf) l.length (Array.range l.length)).toList.map fun i => l.getD i z) ∧ w.grownBy w' (.slice A l.length c : Value).ownBlock := by
 by_cases h0 : 0 < l.length
 ·obtain ⟨g, cap, he, _, hg, _⟩ := Kd.N_form hN h0
  injection he with e1 _ e3
  subst e1 e3
  have S : SN d e w b_ ok g c z l (Array.range l.length) w := ⟨by simp, by rw [Array.toList_range, range_map]; exact hN, World.grownBy.refl w _⟩
  exact (top_calls sl hk gF eg cf HC hsz S).mono fun e' w' h => ⟨h.1, h.2.2.1, h.2.2.2⟩
 ·have hl : l = [] := List.eq_nil_of_length_eq_zero (by omega)
  subst hl
  refine (top_none sl A c (.func (.func gF) #[] #[]) w).mono fun e' w' h => ⟨h.1, ?_, ?_⟩
  ·rw [h.2]
   have : ((Go.Proofs.YtapgfamppnhnmaaStable.stable (ltC cf) ([] : List α).length (Array.range ([] : List α).length)).toList.map fun i => ([] : List α).getD i z) = [] := by
    apply List.eq_nil_of_length_eq_zero
    rw [List.length_map, Array.length_toList]
    show (Go.Proofs.YtapgfamppnhnmaaStable.stable (ltC cf) 0 (Array.range 0)).size = 0
    unfold Go.Proofs.YtapgfamppnhnmaaStable.stable passes blocks
    rw [if_neg (by omega), insertionSort_size]
    simp
   rw [this]
   exact hN
  ·rw [h.2]; exact World.grownBy.refl w _
end Go.Proofs.YtapgfamppnhnmaaSort
