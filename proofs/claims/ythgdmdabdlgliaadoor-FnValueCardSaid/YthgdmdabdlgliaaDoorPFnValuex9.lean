-- WRITTEN BY xprint.py, a program of this session over the kit's printer: by nobody's hand
-- PRESSED
import Derived.Test.YthgdmdabdlgliaaDoorPress
import Derived.Test.YthgdmdabdlgliaaDoorPFnValuex0
import Derived.Test.YthgdmdabdlgliaaDoorPFnValuex1
import Derived.Test.YthgdmdabdlgliaaDoorPFnValuex2
import Derived.Test.YthgdmdabdlgliaaDoorPFnValuex3
import Derived.Test.YthgdmdabdlgliaaDoorPFnValuex4
import Derived.Test.YthgdmdabdlgliaaDoorPFnValuex5
import Derived.Test.YthgdmdabdlgliaaDoorPFnValuex6
import Derived.Test.YthgdmdabdlgliaaDoorPFnValuex7
import Derived.Test.YthgdmdabdlgliaaDoorPFnValuex8
namespace Go.Proofs.YthgdmdabdlgliaaDoor.PFnValue
open Go.RowKit Go.Proofs.YthgdmdabdlgliaaDoorW.PrintWords Go.Proofs.YthgdmdabdlgliaaDoorW.PrintLast Go.Proofs.YthgdmdabdlgliaaDoorW.PrintMore
set_option linter.unusedVariables false
set_option linter.unusedSimpArgs false

attribute [local go_sem high] eqA29
/-! ### laws_FnValue: function 4 -/
mutual
def laws_FnValue.j0 : Nat → Int → ByteArray → ByteArray → Int → Int → Bool → Int → Int → ByteArray → Int → Int → ByteArray → Int → Int → ByteArray → Int → Int → ByteArray → Option (Bool)
 | 0, _, _, _, _, _, _, _, _, _, _, _, _, _, _, _, _, _, _ => none
 | k + 1, x5, x7, x8, x9, x11, x117, x363000, x363001, x363002, x364000, x364001, x364002, x369000, x369001, x369002, x377000, x377001, x377002 => if x117 = true then (none) else (if x5 ≤ 0 then ((impl_CompareValue.f k x364000 x364001 x364002 x369000 x369001 x369002).bind fun t395 => (if t395 ≤ 0 then ((impl_CompareValue.f k x363000 x363001 x363002 x369000 x369001 x369002).bind fun t396 => (if t396 > 0 then (none) else (if x11 > 0 then ((impl_PutValue.f k x377000 x377001 x377002).bind fun t397 => (if 0 ≤ x9 then (if x9 ≤ x11 then (if x11 ≤ (x8.size : Int) then (laws_FnValue.j1 k x7 (t397.toList != (x8.extract (x9 : Int).toNat (x11 : Int).toNat).toList) x369000 x369001 x369002) else (none)) else (none)) else (none))) else (laws_FnValue.j1 k x7 false x369000 x369001 x369002)))) else (if x11 > 0 then ((impl_PutValue.f k x377000 x377001 x377002).bind fun t398 => (if 0 ≤ x9 then (if x9 ≤ x11 then (if x11 ≤ (x8.size : Int) then (laws_FnValue.j1 k x7 (t398.toList != (x8.extract (x9 : Int).toNat (x11 : Int).toNat).toList) x369000 x369001 x369002) else (none)) else (none)) else (none))) else (laws_FnValue.j1 k x7 false x369000 x369001 x369002)))) else (if x11 > 0 then ((impl_PutValue.f k x377000 x377001 x377002).bind fun t399 => (if 0 ≤ x9 then (if x9 ≤ x11 then (if x11 ≤ (x8.size : Int) then (laws_FnValue.j1 k x7 (t399.toList != (x8.extract (x9 : Int).toNat (x11 : Int).toNat).toList) x369000 x369001 x369002) else (none)) else (none)) else (none))) else (laws_FnValue.j1 k x7 false x369000 x369001 x369002)))
def laws_FnValue.j1 : Nat → ByteArray → Bool → Int → Int → ByteArray → Option (Bool)
 | 0, _, _, _, _, _ => none
 | k + 1, x7, x144, x369000, x369001, x369002 => if x144 = true then (none) else (if x7.toList = ([] : List UInt8) then ((spec_ValueOk.f x369000 x369001 x369002).bind fun t400 => (some (!t400))) else (if 1 + x7.size ≤ 9223372036854775807 then (if ((⟨#[97]⟩ : ByteArray) ++ x7).size + 1 ≤ 9223372036854775807 then ((impl_GetValue.f (((⟨#[97]⟩ : ByteArray) ++ x7) ++ (⟨#[98]⟩ : ByteArray)) 1).bind fun bt401 => (if (bt401.1 == x369000 && (bt401.2.1 == x369001 && (bt401.2.2.1.toList == x369002.toList))) = true then (some (bt401.2.2.2 == (1 + (x7.size : Int)))) else (none))) else (none)) else (none)))
end
def laws_FnValue.f (k : Nat) (l0 : List Int) : Option (Bool) := (laws_big.f l0).bind fun t355 => (if t355 = true then (some true) else ((spec_DrawCompareValue.f k l0).bind fun bt356 => ((impl_CompareValue.f k bt356.1 bt356.2.1 bt356.2.2.1 bt356.2.2.2.1 bt356.2.2.2.2.1 bt356.2.2.2.2.2).bind fun t364 => ((spec_DrawPutValue.f k l0).bind fun bt365 => ((impl_PutValue.f k bt365.1 bt365.2.1 bt365.2.2).bind fun t369 => ((spec_DrawGetValue.f k l0).bind fun bt370 => ((impl_GetValue.f bt370.1 bt370.2).bind fun bt372 => ((spec_GetValue.f k bt370.1 bt370.2).bind fun bt377 => ((spec_DrawNameOk.f k l0).bind fun t382 => ((spec_DrawDecText.f k l0).bind fun t383 => ((spec_CompareValue.f bt356.1 bt356.2.1 bt356.2.2.1 bt356.2.2.2.1 bt356.2.2.2.2.1 bt356.2.2.2.2.2).bind fun t384 => (if t364 = t384 then ((impl_CompareValue.f k bt356.2.2.2.1 bt356.2.2.2.2.1 bt356.2.2.2.2.2 bt356.1 bt356.2.1 bt356.2.2.1).bind fun t385 => (if t364 = (wrap64 (-t385)) then (if ((t364 == 0) != (bt356.1 == bt356.2.2.2.1 && (bt356.2.1 == bt356.2.2.2.2.1 && (bt356.2.2.1.toList == bt356.2.2.2.2.2.toList)))) = true then (none) else ((spec_PutValue.f k bt365.1 bt365.2.1 bt365.2.2).bind fun t386 => (if t369.toList = t386.toList then (if (!(bt372.1 == bt377.1) || (!(bt372.2.1 == bt377.2.1) || (!(bt372.2.2.1.toList == bt377.2.2.1.toList)))) = true then (none) else (if bt372.2.2.2 = bt377.2.2.2 then ((impl_ValueOk.f bt365.1 bt365.2.1 bt365.2.2).bind fun t387 => ((spec_ValueOk.f bt365.1 bt365.2.1 bt365.2.2).bind fun t388 => (if (t387 != t388) = true then (none) else ((impl_ValueText.f bt365.1 bt365.2.1 bt365.2.2).bind fun t389 => ((spec_ValueText.f k bt365.1 bt365.2.1 bt365.2.2).bind fun t390 => (if t389.toList = t390.toList then ((impl_NameOk.f t382).bind fun t391 => ((spec_NameOk.f k t382).bind fun t392 => (if (t391 != t392) = true then (none) else ((impl_DecText.f t383).bind fun t393 => ((spec_DecText.f k t383).bind fun t394 => (laws_FnValue.j0 k t364 t369 bt370.1 bt370.2 bt372.2.2.2 (t393.toList != t394.toList) bt356.1 bt356.2.1 bt356.2.2.1 bt356.2.2.2.1 bt356.2.2.2.2.1 bt356.2.2.2.2.2 bt365.1 bt365.2.1 bt365.2.2 bt372.1 bt372.2.1 bt372.2.2.1)))))) else (none))))))) else (none))) else (none)))) else (none))) else (none)))))))))))))
def laws_FnValue.T12 : Bool × List (List Nat × List Nat) := (true, [([], []), ([], []), ([], []), ([1, 2], [1, 2]), ([0, 3], [0, 3]), ([4, 3], [4]), ([5], [5]), ([5], [5]), ([5], [5]), ([7, 8, 5, 5], [5, 7, 8]), ([9, 5], [5, 9]), ([6, 10, 5], [5, 6, 10]), ([5, 11], [5, 11]), ([12, 9], [12]), ([13], [13]), ([14, 13], [13, 14]), ([13], [13]), ([13], [13]), ([16, 17, 13], [13, 16, 17]), ([15, 18, 13], [13, 15, 18]), ([13, 19], [13, 19]), ([20, 13], [20]), ([21], [21]), ([21], [21]), ([23, 21, 21], [21, 23]), ([22, 24, 21], [21, 22, 24]), ([21, 25], [21, 25]), ([26, 24], [26]), ([27], [27]), ([27], [27]), ([28, 29, 27], [27, 28, 29]), ([27, 30], [27, 30]), ([31, 27], [31]), ([32], [32]), ([32], [32]), ([33, 34, 32], [32, 33, 34]), ([32, 35], [32, 35]), ([36, 32], [36]), ([37], [37]), ([38, 37, 37], [37, 38]), ([37], [37]), ([40, 39, 37], [37, 40]), ([39, 41, 37], [37, 39, 41]), ([37, 42], [37, 42]), ([43, 41], [43]), ([44], [44]), ([45, 44, 44], [44, 45]), ([44], [44]), ([47, 46, 44], [44, 47]), ([46, 48, 44], [44, 46, 48]), ([44, 49], [44, 49]), ([50, 48], [50]), ([51], [51]), ([52, 51, 51], [51, 52]), ([51], [51]), ([54, 53, 51], [51, 54]), ([53, 55, 51], [51, 53, 55]), ([51, 56], [51, 56]), ([57, 55], [57]), ([58], [58]), ([59, 58, 58], [58, 59]), ([58], [58]), ([61, 60, 58], [58, 61]), ([60, 62, 58], [58, 60, 62]), ([58, 63], [58, 63])])
def laws_FnValue.B12 : List Nat := [0, 0, 0, 6, 15, 31, 63, 63, 63, 447, 959, 2047, 4095, 8191, 16383, 32767, 16383, 16383, 212991, 524287, 1048575, 2097151, 4194303, 4194303, 12582911, 33554431, 67108863, 134217727, 268435455, 268435455, 1073741823, 2147483647, 4294967295, 8589934591, 8589934591, 34359738367, 68719476735, 137438953471, 274877906943, 549755813887, 274877906943, 2199023255551, 4398046511103, 8796093022207, 17592186044415, 35184372088831, 70368744177663, 35184372088831, 281474976710655, 562949953421311, 1125899906842623, 2251799813685247, 4503599627370495, 9007199254740991, 4503599627370495, 36028797018963967, 72057594037927935, 144115188075855871, 288230376151711743, 576460752303423487, 1152921504606846975, 576460752303423487, 4611686018427387903, 9223372036854775807, 18446744073709551615]
theorem laws_FnValue.tab12 : rtab .any (opsOf Tryd.f4 12) = laws_FnValue.T12 := by kernel_rfl
theorem laws_FnValue.bits12 : waitsOk laws_FnValue.T12.2 laws_FnValue.B12 = true := by kernel_rfl
def laws_FnValue.T14 : Bool × List (List Nat × List Nat) := (true, [([], []), ([0], [0]), ([1], [1]), ([2], [2]), ([2], [2]), ([3, 4, 2, 2], [2, 3, 4]), ([5, 2], [2, 5]), ([2, 6], [2, 6]), ([7, 5], [7]), ([8], [8]), ([8], [8]), ([9, 10, 8, 8], [8, 9, 10]), ([11, 8], [8, 11]), ([8, 12], [8, 12]), ([13, 11], [13]), ([14], [14]), ([15, 14], [14, 15]), ([16, 14, 14], [14, 16]), ([17], [17]), ([18, 17, 17], [17, 18]), ([17], [17]), ([17], [17]), ([17], [17]), ([20, 21, 22, 17], [17, 20, 21, 22]), ([19, 23, 17], [17, 19, 23]), ([17, 24, 14], [14, 17, 24]), ([14, 25], [14, 25])])
def laws_FnValue.B14 : List Nat := [0, 1, 3, 7, 7, 31, 63, 127, 255, 511, 511, 2047, 4095, 8191, 16383, 32767, 65535, 131071, 262143, 524287, 262143, 262143, 262143, 7602175, 16777215, 33554431, 67108863]
theorem laws_FnValue.tab14 : rtab .any (opsOf Tryd.f4 14) = laws_FnValue.T14 := by kernel_rfl
theorem laws_FnValue.bits14 : waitsOk laws_FnValue.T14.2 laws_FnValue.B14 = true := by kernel_rfl
set_option maxHeartbeats 8000000 in
set_option maxRecDepth 100000 in
theorem laws_FnValue.calls (k : Nat) (A0 : Option Addr) (c0 : Nat) (l0 : List Int) (r : Bool) (w : World) (hr0 : Kd.C (Kd.int .u8) w A0 l0.length l0) (hc0 : l0.length ≤ c0) (h : laws_FnValue.f k l0 = some r) (hM : MaxLenIn w := by first | assumption | exact MaxLenIn.drewN (by assumption) _ | exact MaxLenIn.later (by assumption) (by assumption) | exact MaxLenIn.drewN (MaxLenIn.later (by assumption) (by assumption)) _ | exact MaxLenIn.later (by assumption) ⟨by repeat (first | exact Aside0.out (by assumption) | apply below_alloc | apply pw_below_drewN | apply below_drew1 | refine below_set ?_ (Aside0.out (by assumption)))⟩) :
  Calls Tryd.prog 4 #[.slice A0 l0.length c0] w fun e w' => e = .returned (.bool r) ∧ Below w.heap.size w w' := by
 have hu29 := Tryd.underlying29
 have HR0 := Aside0.mk hr0
 have HC0 := Aside0.mk hc0
 clear hr0 hc0
 have HB := Aside0.mk (Below.refl w.heap.size w)
 have H : ((laws_big.f l0).bind fun t355 => (if t355 = true then (some true) else ((spec_DrawCompareValue.f k l0).bind fun bt356 => ((impl_CompareValue.f k bt356.1 bt356.2.1 bt356.2.2.1 bt356.2.2.2.1 bt356.2.2.2.2.1 bt356.2.2.2.2.2).bind fun t364 => ((spec_DrawPutValue.f k l0).bind fun bt365 => ((impl_PutValue.f k bt365.1 bt365.2.1 bt365.2.2).bind fun t369 => ((spec_DrawGetValue.f k l0).bind fun bt370 => ((impl_GetValue.f bt370.1 bt370.2).bind fun bt372 => ((spec_GetValue.f k bt370.1 bt370.2).bind fun bt377 => ((spec_DrawNameOk.f k l0).bind fun t382 => ((spec_DrawDecText.f k l0).bind fun t383 => ((spec_CompareValue.f bt356.1 bt356.2.1 bt356.2.2.1 bt356.2.2.2.1 bt356.2.2.2.2.1 bt356.2.2.2.2.2).bind fun t384 => (if t364 = t384 then ((impl_CompareValue.f k bt356.2.2.2.1 bt356.2.2.2.2.1 bt356.2.2.2.2.2 bt356.1 bt356.2.1 bt356.2.2.1).bind fun t385 => (if t364 = (wrap64 (-t385)) then (if ((t364 == 0) != (bt356.1 == bt356.2.2.2.1 && (bt356.2.1 == bt356.2.2.2.2.1 && (bt356.2.2.1.toList == bt356.2.2.2.2.2.toList)))) = true then (none) else ((spec_PutValue.f k bt365.1 bt365.2.1 bt365.2.2).bind fun t386 => (if t369.toList = t386.toList then (if (!(bt372.1 == bt377.1) || (!(bt372.2.1 == bt377.2.1) || (!(bt372.2.2.1.toList == bt377.2.2.1.toList)))) = true then (none) else (if bt372.2.2.2 = bt377.2.2.2 then ((impl_ValueOk.f bt365.1 bt365.2.1 bt365.2.2).bind fun t387 => ((spec_ValueOk.f bt365.1 bt365.2.1 bt365.2.2).bind fun t388 => (if (t387 != t388) = true then (none) else ((impl_ValueText.f bt365.1 bt365.2.1 bt365.2.2).bind fun t389 => ((spec_ValueText.f k bt365.1 bt365.2.1 bt365.2.2).bind fun t390 => (if t389.toList = t390.toList then ((impl_NameOk.f t382).bind fun t391 => ((spec_NameOk.f k t382).bind fun t392 => (if (t391 != t392) = true then (none) else ((impl_DecText.f t383).bind fun t393 => ((spec_DecText.f k t383).bind fun t394 => (laws_FnValue.j0 k t364 t369 bt370.1 bt370.2 bt372.2.2.2 (t393.toList != t394.toList) bt356.1 bt356.2.1 bt356.2.2.1 bt356.2.2.2.1 bt356.2.2.2.2.1 bt356.2.2.2.2.2 bt365.1 bt365.2.1 bt365.2.2 bt372.1 bt372.2.1 bt372.2.2.1)))))) else (none))))))) else (none))) else (none)))) else (none))) else (none)))))))))))))) = some r := h
 clear h
 replace H := Option.bind_eq_some_iff.mp H
 obtain ⟨t355, A20, H⟩ := H
 replace H : (if t355 = true then (some true) else ((spec_DrawCompareValue.f k l0).bind fun bt356 => ((impl_CompareValue.f k bt356.1 bt356.2.1 bt356.2.2.1 bt356.2.2.2.1 bt356.2.2.2.2.1 bt356.2.2.2.2.2).bind fun t364 => ((spec_DrawPutValue.f k l0).bind fun bt365 => ((impl_PutValue.f k bt365.1 bt365.2.1 bt365.2.2).bind fun t369 => ((spec_DrawGetValue.f k l0).bind fun bt370 => ((impl_GetValue.f bt370.1 bt370.2).bind fun bt372 => ((spec_GetValue.f k bt370.1 bt370.2).bind fun bt377 => ((spec_DrawNameOk.f k l0).bind fun t382 => ((spec_DrawDecText.f k l0).bind fun t383 => ((spec_CompareValue.f bt356.1 bt356.2.1 bt356.2.2.1 bt356.2.2.2.1 bt356.2.2.2.2.1 bt356.2.2.2.2.2).bind fun t384 => (if t364 = t384 then ((impl_CompareValue.f k bt356.2.2.2.1 bt356.2.2.2.2.1 bt356.2.2.2.2.2 bt356.1 bt356.2.1 bt356.2.2.1).bind fun t385 => (if t364 = (wrap64 (-t385)) then (if ((t364 == 0) != (bt356.1 == bt356.2.2.2.1 && (bt356.2.1 == bt356.2.2.2.2.1 && (bt356.2.2.1.toList == bt356.2.2.2.2.2.toList)))) = true then (none) else ((spec_PutValue.f k bt365.1 bt365.2.1 bt365.2.2).bind fun t386 => (if t369.toList = t386.toList then (if (!(bt372.1 == bt377.1) || (!(bt372.2.1 == bt377.2.1) || (!(bt372.2.2.1.toList == bt377.2.2.1.toList)))) = true then (none) else (if bt372.2.2.2 = bt377.2.2.2 then ((impl_ValueOk.f bt365.1 bt365.2.1 bt365.2.2).bind fun t387 => ((spec_ValueOk.f bt365.1 bt365.2.1 bt365.2.2).bind fun t388 => (if (t387 != t388) = true then (none) else ((impl_ValueText.f bt365.1 bt365.2.1 bt365.2.2).bind fun t389 => ((spec_ValueText.f k bt365.1 bt365.2.1 bt365.2.2).bind fun t390 => (if t389.toList = t390.toList then ((impl_NameOk.f t382).bind fun t391 => ((spec_NameOk.f k t382).bind fun t392 => (if (t391 != t392) = true then (none) else ((impl_DecText.f t383).bind fun t393 => ((spec_DecText.f k t383).bind fun t394 => (laws_FnValue.j0 k t364 t369 bt370.1 bt370.2 bt372.2.2.2 (t393.toList != t394.toList) bt356.1 bt356.2.1 bt356.2.2.1 bt356.2.2.2.1 bt356.2.2.2.2.1 bt356.2.2.2.2.2 bt365.1 bt365.2.1 bt365.2.2 bt372.1 bt372.2.1 bt372.2.2.1)))))) else (none))))))) else (none))) else (none)))) else (none))) else (none))))))))))))) = some r := H
 have A2 := Aside0.mk A20
 clear A20
 by_cases c3 : t355 = true
 ·subst c3
  have H1 : (some true) = some r := by rw [if_pos rfl] at H; exact H
  clear H
  have H := H1
  clear H1
  obtain rfl := Option.some.inj H
  go_enter Tryd.func4, Tryd.ntmps4
  go_wp2_with (first | ((with_reducible refine gate_callee (f := 12) rfl ?_); refine gsL_ (some 19) Tryd.func12 #[.slice A0 l0.length c0] ?_; (with_reducible refine (laws_big.calls _ _ l0 true _ ?side1 ?side2 A2.out).mono ?_); (case side1 => exact ck_ HR0.out); (case side2 => exact HC0.out); rintro e w' ⟨rfl, ⟨nd, rfl⟩⟩; refine ⟨_, rfl, ?_⟩))
  go_ret
  exact ⟨er_, bb_⟩
 ·replace c3 := Bool.eq_false_iff.mpr c3
  subst c3
  have H1 : ((spec_DrawCompareValue.f k l0).bind fun bt356 => ((impl_CompareValue.f k bt356.1 bt356.2.1 bt356.2.2.1 bt356.2.2.2.1 bt356.2.2.2.2.1 bt356.2.2.2.2.2).bind fun t364 => ((spec_DrawPutValue.f k l0).bind fun bt365 => ((impl_PutValue.f k bt365.1 bt365.2.1 bt365.2.2).bind fun t369 => ((spec_DrawGetValue.f k l0).bind fun bt370 => ((impl_GetValue.f bt370.1 bt370.2).bind fun bt372 => ((spec_GetValue.f k bt370.1 bt370.2).bind fun bt377 => ((spec_DrawNameOk.f k l0).bind fun t382 => ((spec_DrawDecText.f k l0).bind fun t383 => ((spec_CompareValue.f bt356.1 bt356.2.1 bt356.2.2.1 bt356.2.2.2.1 bt356.2.2.2.2.1 bt356.2.2.2.2.2).bind fun t384 => (if t364 = t384 then ((impl_CompareValue.f k bt356.2.2.2.1 bt356.2.2.2.2.1 bt356.2.2.2.2.2 bt356.1 bt356.2.1 bt356.2.2.1).bind fun t385 => (if t364 = (wrap64 (-t385)) then (if ((t364 == 0) != (bt356.1 == bt356.2.2.2.1 && (bt356.2.1 == bt356.2.2.2.2.1 && (bt356.2.2.1.toList == bt356.2.2.2.2.2.toList)))) = true then (none) else ((spec_PutValue.f k bt365.1 bt365.2.1 bt365.2.2).bind fun t386 => (if t369.toList = t386.toList then (if (!(bt372.1 == bt377.1) || (!(bt372.2.1 == bt377.2.1) || (!(bt372.2.2.1.toList == bt377.2.2.1.toList)))) = true then (none) else (if bt372.2.2.2 = bt377.2.2.2 then ((impl_ValueOk.f bt365.1 bt365.2.1 bt365.2.2).bind fun t387 => ((spec_ValueOk.f bt365.1 bt365.2.1 bt365.2.2).bind fun t388 => (if (t387 != t388) = true then (none) else ((impl_ValueText.f bt365.1 bt365.2.1 bt365.2.2).bind fun t389 => ((spec_ValueText.f k bt365.1 bt365.2.1 bt365.2.2).bind fun t390 => (if t389.toList = t390.toList then ((impl_NameOk.f t382).bind fun t391 => ((spec_NameOk.f k t382).bind fun t392 => (if (t391 != t392) = true then (none) else ((impl_DecText.f t383).bind fun t393 => ((spec_DecText.f k t383).bind fun t394 => (laws_FnValue.j0 k t364 t369 bt370.1 bt370.2 bt372.2.2.2 (t393.toList != t394.toList) bt356.1 bt356.2.1 bt356.2.2.1 bt356.2.2.2.1 bt356.2.2.2.2.1 bt356.2.2.2.2.2 bt365.1 bt365.2.1 bt365.2.2 bt372.1 bt372.2.1 bt372.2.2.1)))))) else (none))))))) else (none))) else (none)))) else (none))) else (none)))))))))))) = some r := by rw [if_neg (show ¬ (false = true) by decide)] at H; exact H
  clear H
  have H := H1
  clear H1
  replace H := Option.bind_eq_some_iff.mp H
  obtain ⟨⟨t356, t357, t358, t359, t360, t361⟩, A40, H⟩ := H
  replace H : ((impl_CompareValue.f k t356 t357 t358 t359 t360 t361).bind fun t364 => ((spec_DrawPutValue.f k l0).bind fun bt365 => ((impl_PutValue.f k bt365.1 bt365.2.1 bt365.2.2).bind fun t369 => ((spec_DrawGetValue.f k l0).bind fun bt370 => ((impl_GetValue.f bt370.1 bt370.2).bind fun bt372 => ((spec_GetValue.f k bt370.1 bt370.2).bind fun bt377 => ((spec_DrawNameOk.f k l0).bind fun t382 => ((spec_DrawDecText.f k l0).bind fun t383 => ((spec_CompareValue.f t356 t357 t358 t359 t360 t361).bind fun t384 => (if t364 = t384 then ((impl_CompareValue.f k t359 t360 t361 t356 t357 t358).bind fun t385 => (if t364 = (wrap64 (-t385)) then (if ((t364 == 0) != (t356 == t359 && (t357 == t360 && (t358.toList == t361.toList)))) = true then (none) else ((spec_PutValue.f k bt365.1 bt365.2.1 bt365.2.2).bind fun t386 => (if t369.toList = t386.toList then (if (!(bt372.1 == bt377.1) || (!(bt372.2.1 == bt377.2.1) || (!(bt372.2.2.1.toList == bt377.2.2.1.toList)))) = true then (none) else (if bt372.2.2.2 = bt377.2.2.2 then ((impl_ValueOk.f bt365.1 bt365.2.1 bt365.2.2).bind fun t387 => ((spec_ValueOk.f bt365.1 bt365.2.1 bt365.2.2).bind fun t388 => (if (t387 != t388) = true then (none) else ((impl_ValueText.f bt365.1 bt365.2.1 bt365.2.2).bind fun t389 => ((spec_ValueText.f k bt365.1 bt365.2.1 bt365.2.2).bind fun t390 => (if t389.toList = t390.toList then ((impl_NameOk.f t382).bind fun t391 => ((spec_NameOk.f k t382).bind fun t392 => (if (t391 != t392) = true then (none) else ((impl_DecText.f t383).bind fun t393 => ((spec_DecText.f k t383).bind fun t394 => (laws_FnValue.j0 k t364 t369 bt370.1 bt370.2 bt372.2.2.2 (t393.toList != t394.toList) t356 t357 t358 t359 t360 t361 bt365.1 bt365.2.1 bt365.2.2 bt372.1 bt372.2.1 bt372.2.2.1)))))) else (none))))))) else (none))) else (none)))) else (none))) else (none))))))))))) = some r := H
  have A4 := Aside0.mk A40
  clear A40
  replace H := Option.bind_eq_some_iff.mp H
  obtain ⟨t364, A50, H⟩ := H
  replace H : ((spec_DrawPutValue.f k l0).bind fun bt365 => ((impl_PutValue.f k bt365.1 bt365.2.1 bt365.2.2).bind fun t369 => ((spec_DrawGetValue.f k l0).bind fun bt370 => ((impl_GetValue.f bt370.1 bt370.2).bind fun bt372 => ((spec_GetValue.f k bt370.1 bt370.2).bind fun bt377 => ((spec_DrawNameOk.f k l0).bind fun t382 => ((spec_DrawDecText.f k l0).bind fun t383 => ((spec_CompareValue.f t356 t357 t358 t359 t360 t361).bind fun t384 => (if t364 = t384 then ((impl_CompareValue.f k t359 t360 t361 t356 t357 t358).bind fun t385 => (if t364 = (wrap64 (-t385)) then (if ((t364 == 0) != (t356 == t359 && (t357 == t360 && (t358.toList == t361.toList)))) = true then (none) else ((spec_PutValue.f k bt365.1 bt365.2.1 bt365.2.2).bind fun t386 => (if t369.toList = t386.toList then (if (!(bt372.1 == bt377.1) || (!(bt372.2.1 == bt377.2.1) || (!(bt372.2.2.1.toList == bt377.2.2.1.toList)))) = true then (none) else (if bt372.2.2.2 = bt377.2.2.2 then ((impl_ValueOk.f bt365.1 bt365.2.1 bt365.2.2).bind fun t387 => ((spec_ValueOk.f bt365.1 bt365.2.1 bt365.2.2).bind fun t388 => (if (t387 != t388) = true then (none) else ((impl_ValueText.f bt365.1 bt365.2.1 bt365.2.2).bind fun t389 => ((spec_ValueText.f k bt365.1 bt365.2.1 bt365.2.2).bind fun t390 => (if t389.toList = t390.toList then ((impl_NameOk.f t382).bind fun t391 => ((spec_NameOk.f k t382).bind fun t392 => (if (t391 != t392) = true then (none) else ((impl_DecText.f t383).bind fun t393 => ((spec_DecText.f k t383).bind fun t394 => (laws_FnValue.j0 k t364 t369 bt370.1 bt370.2 bt372.2.2.2 (t393.toList != t394.toList) t356 t357 t358 t359 t360 t361 bt365.1 bt365.2.1 bt365.2.2 bt372.1 bt372.2.1 bt372.2.2.1)))))) else (none))))))) else (none))) else (none)))) else (none))) else (none)))))))))) = some r := H
  have A5 := Aside0.mk A50
  clear A50
  replace H := Option.bind_eq_some_iff.mp H
  obtain ⟨⟨t365, t366, t367⟩, A60, H⟩ := H
  replace H : ((impl_PutValue.f k t365 t366 t367).bind fun t369 => ((spec_DrawGetValue.f k l0).bind fun bt370 => ((impl_GetValue.f bt370.1 bt370.2).bind fun bt372 => ((spec_GetValue.f k bt370.1 bt370.2).bind fun bt377 => ((spec_DrawNameOk.f k l0).bind fun t382 => ((spec_DrawDecText.f k l0).bind fun t383 => ((spec_CompareValue.f t356 t357 t358 t359 t360 t361).bind fun t384 => (if t364 = t384 then ((impl_CompareValue.f k t359 t360 t361 t356 t357 t358).bind fun t385 => (if t364 = (wrap64 (-t385)) then (if ((t364 == 0) != (t356 == t359 && (t357 == t360 && (t358.toList == t361.toList)))) = true then (none) else ((spec_PutValue.f k t365 t366 t367).bind fun t386 => (if t369.toList = t386.toList then (if (!(bt372.1 == bt377.1) || (!(bt372.2.1 == bt377.2.1) || (!(bt372.2.2.1.toList == bt377.2.2.1.toList)))) = true then (none) else (if bt372.2.2.2 = bt377.2.2.2 then ((impl_ValueOk.f t365 t366 t367).bind fun t387 => ((spec_ValueOk.f t365 t366 t367).bind fun t388 => (if (t387 != t388) = true then (none) else ((impl_ValueText.f t365 t366 t367).bind fun t389 => ((spec_ValueText.f k t365 t366 t367).bind fun t390 => (if t389.toList = t390.toList then ((impl_NameOk.f t382).bind fun t391 => ((spec_NameOk.f k t382).bind fun t392 => (if (t391 != t392) = true then (none) else ((impl_DecText.f t383).bind fun t393 => ((spec_DecText.f k t383).bind fun t394 => (laws_FnValue.j0 k t364 t369 bt370.1 bt370.2 bt372.2.2.2 (t393.toList != t394.toList) t356 t357 t358 t359 t360 t361 t365 t366 t367 bt372.1 bt372.2.1 bt372.2.2.1)))))) else (none))))))) else (none))) else (none)))) else (none))) else (none))))))))) = some r := H
  have A6 := Aside0.mk A60
  clear A60
  replace H := Option.bind_eq_some_iff.mp H
  obtain ⟨t369, A70, H⟩ := H
  replace H : ((spec_DrawGetValue.f k l0).bind fun bt370 => ((impl_GetValue.f bt370.1 bt370.2).bind fun bt372 => ((spec_GetValue.f k bt370.1 bt370.2).bind fun bt377 => ((spec_DrawNameOk.f k l0).bind fun t382 => ((spec_DrawDecText.f k l0).bind fun t383 => ((spec_CompareValue.f t356 t357 t358 t359 t360 t361).bind fun t384 => (if t364 = t384 then ((impl_CompareValue.f k t359 t360 t361 t356 t357 t358).bind fun t385 => (if t364 = (wrap64 (-t385)) then (if ((t364 == 0) != (t356 == t359 && (t357 == t360 && (t358.toList == t361.toList)))) = true then (none) else ((spec_PutValue.f k t365 t366 t367).bind fun t386 => (if t369.toList = t386.toList then (if (!(bt372.1 == bt377.1) || (!(bt372.2.1 == bt377.2.1) || (!(bt372.2.2.1.toList == bt377.2.2.1.toList)))) = true then (none) else (if bt372.2.2.2 = bt377.2.2.2 then ((impl_ValueOk.f t365 t366 t367).bind fun t387 => ((spec_ValueOk.f t365 t366 t367).bind fun t388 => (if (t387 != t388) = true then (none) else ((impl_ValueText.f t365 t366 t367).bind fun t389 => ((spec_ValueText.f k t365 t366 t367).bind fun t390 => (if t389.toList = t390.toList then ((impl_NameOk.f t382).bind fun t391 => ((spec_NameOk.f k t382).bind fun t392 => (if (t391 != t392) = true then (none) else ((impl_DecText.f t383).bind fun t393 => ((spec_DecText.f k t383).bind fun t394 => (laws_FnValue.j0 k t364 t369 bt370.1 bt370.2 bt372.2.2.2 (t393.toList != t394.toList) t356 t357 t358 t359 t360 t361 t365 t366 t367 bt372.1 bt372.2.1 bt372.2.2.1)))))) else (none))))))) else (none))) else (none)))) else (none))) else (none)))))))) = some r := H
  have A7 := Aside0.mk A70
  clear A70
  replace H := Option.bind_eq_some_iff.mp H
  obtain ⟨⟨t370, t371⟩, A80, H⟩ := H
  replace H : ((impl_GetValue.f t370 t371).bind fun bt372 => ((spec_GetValue.f k t370 t371).bind fun bt377 => ((spec_DrawNameOk.f k l0).bind fun t382 => ((spec_DrawDecText.f k l0).bind fun t383 => ((spec_CompareValue.f t356 t357 t358 t359 t360 t361).bind fun t384 => (if t364 = t384 then ((impl_CompareValue.f k t359 t360 t361 t356 t357 t358).bind fun t385 => (if t364 = (wrap64 (-t385)) then (if ((t364 == 0) != (t356 == t359 && (t357 == t360 && (t358.toList == t361.toList)))) = true then (none) else ((spec_PutValue.f k t365 t366 t367).bind fun t386 => (if t369.toList = t386.toList then (if (!(bt372.1 == bt377.1) || (!(bt372.2.1 == bt377.2.1) || (!(bt372.2.2.1.toList == bt377.2.2.1.toList)))) = true then (none) else (if bt372.2.2.2 = bt377.2.2.2 then ((impl_ValueOk.f t365 t366 t367).bind fun t387 => ((spec_ValueOk.f t365 t366 t367).bind fun t388 => (if (t387 != t388) = true then (none) else ((impl_ValueText.f t365 t366 t367).bind fun t389 => ((spec_ValueText.f k t365 t366 t367).bind fun t390 => (if t389.toList = t390.toList then ((impl_NameOk.f t382).bind fun t391 => ((spec_NameOk.f k t382).bind fun t392 => (if (t391 != t392) = true then (none) else ((impl_DecText.f t383).bind fun t393 => ((spec_DecText.f k t383).bind fun t394 => (laws_FnValue.j0 k t364 t369 t370 t371 bt372.2.2.2 (t393.toList != t394.toList) t356 t357 t358 t359 t360 t361 t365 t366 t367 bt372.1 bt372.2.1 bt372.2.2.1)))))) else (none))))))) else (none))) else (none)))) else (none))) else (none))))))) = some r := H
  have A8 := Aside0.mk A80
  clear A80
  replace H := Option.bind_eq_some_iff.mp H
  obtain ⟨⟨t372, t373, t374, t375⟩, A90, H⟩ := H
  replace H : ((spec_GetValue.f k t370 t371).bind fun bt377 => ((spec_DrawNameOk.f k l0).bind fun t382 => ((spec_DrawDecText.f k l0).bind fun t383 => ((spec_CompareValue.f t356 t357 t358 t359 t360 t361).bind fun t384 => (if t364 = t384 then ((impl_CompareValue.f k t359 t360 t361 t356 t357 t358).bind fun t385 => (if t364 = (wrap64 (-t385)) then (if ((t364 == 0) != (t356 == t359 && (t357 == t360 && (t358.toList == t361.toList)))) = true then (none) else ((spec_PutValue.f k t365 t366 t367).bind fun t386 => (if t369.toList = t386.toList then (if (!(t372 == bt377.1) || (!(t373 == bt377.2.1) || (!(t374.toList == bt377.2.2.1.toList)))) = true then (none) else (if t375 = bt377.2.2.2 then ((impl_ValueOk.f t365 t366 t367).bind fun t387 => ((spec_ValueOk.f t365 t366 t367).bind fun t388 => (if (t387 != t388) = true then (none) else ((impl_ValueText.f t365 t366 t367).bind fun t389 => ((spec_ValueText.f k t365 t366 t367).bind fun t390 => (if t389.toList = t390.toList then ((impl_NameOk.f t382).bind fun t391 => ((spec_NameOk.f k t382).bind fun t392 => (if (t391 != t392) = true then (none) else ((impl_DecText.f t383).bind fun t393 => ((spec_DecText.f k t383).bind fun t394 => (laws_FnValue.j0 k t364 t369 t370 t371 t375 (t393.toList != t394.toList) t356 t357 t358 t359 t360 t361 t365 t366 t367 t372 t373 t374)))))) else (none))))))) else (none))) else (none)))) else (none))) else (none)))))) = some r := H
  have A9 := Aside0.mk A90
  clear A90
  replace H := Option.bind_eq_some_iff.mp H
  obtain ⟨⟨t377, t378, t379, t380⟩, A100, H⟩ := H
  replace H : ((spec_DrawNameOk.f k l0).bind fun t382 => ((spec_DrawDecText.f k l0).bind fun t383 => ((spec_CompareValue.f t356 t357 t358 t359 t360 t361).bind fun t384 => (if t364 = t384 then ((impl_CompareValue.f k t359 t360 t361 t356 t357 t358).bind fun t385 => (if t364 = (wrap64 (-t385)) then (if ((t364 == 0) != (t356 == t359 && (t357 == t360 && (t358.toList == t361.toList)))) = true then (none) else ((spec_PutValue.f k t365 t366 t367).bind fun t386 => (if t369.toList = t386.toList then (if (!(t372 == t377) || (!(t373 == t378) || (!(t374.toList == t379.toList)))) = true then (none) else (if t375 = t380 then ((impl_ValueOk.f t365 t366 t367).bind fun t387 => ((spec_ValueOk.f t365 t366 t367).bind fun t388 => (if (t387 != t388) = true then (none) else ((impl_ValueText.f t365 t366 t367).bind fun t389 => ((spec_ValueText.f k t365 t366 t367).bind fun t390 => (if t389.toList = t390.toList then ((impl_NameOk.f t382).bind fun t391 => ((spec_NameOk.f k t382).bind fun t392 => (if (t391 != t392) = true then (none) else ((impl_DecText.f t383).bind fun t393 => ((spec_DecText.f k t383).bind fun t394 => (laws_FnValue.j0 k t364 t369 t370 t371 t375 (t393.toList != t394.toList) t356 t357 t358 t359 t360 t361 t365 t366 t367 t372 t373 t374)))))) else (none))))))) else (none))) else (none)))) else (none))) else (none))))) = some r := H
  have A10 := Aside0.mk A100
  clear A100
  replace H := Option.bind_eq_some_iff.mp H
  obtain ⟨t382, A110, H⟩ := H
  replace H : ((spec_DrawDecText.f k l0).bind fun t383 => ((spec_CompareValue.f t356 t357 t358 t359 t360 t361).bind fun t384 => (if t364 = t384 then ((impl_CompareValue.f k t359 t360 t361 t356 t357 t358).bind fun t385 => (if t364 = (wrap64 (-t385)) then (if ((t364 == 0) != (t356 == t359 && (t357 == t360 && (t358.toList == t361.toList)))) = true then (none) else ((spec_PutValue.f k t365 t366 t367).bind fun t386 => (if t369.toList = t386.toList then (if (!(t372 == t377) || (!(t373 == t378) || (!(t374.toList == t379.toList)))) = true then (none) else (if t375 = t380 then ((impl_ValueOk.f t365 t366 t367).bind fun t387 => ((spec_ValueOk.f t365 t366 t367).bind fun t388 => (if (t387 != t388) = true then (none) else ((impl_ValueText.f t365 t366 t367).bind fun t389 => ((spec_ValueText.f k t365 t366 t367).bind fun t390 => (if t389.toList = t390.toList then ((impl_NameOk.f t382).bind fun t391 => ((spec_NameOk.f k t382).bind fun t392 => (if (t391 != t392) = true then (none) else ((impl_DecText.f t383).bind fun t393 => ((spec_DecText.f k t383).bind fun t394 => (laws_FnValue.j0 k t364 t369 t370 t371 t375 (t393.toList != t394.toList) t356 t357 t358 t359 t360 t361 t365 t366 t367 t372 t373 t374)))))) else (none))))))) else (none))) else (none)))) else (none))) else (none)))) = some r := H
  have A11 := Aside0.mk A110
  clear A110
  replace H := Option.bind_eq_some_iff.mp H
  obtain ⟨t383, A120, H⟩ := H
  replace H : ((spec_CompareValue.f t356 t357 t358 t359 t360 t361).bind fun t384 => (if t364 = t384 then ((impl_CompareValue.f k t359 t360 t361 t356 t357 t358).bind fun t385 => (if t364 = (wrap64 (-t385)) then (if ((t364 == 0) != (t356 == t359 && (t357 == t360 && (t358.toList == t361.toList)))) = true then (none) else ((spec_PutValue.f k t365 t366 t367).bind fun t386 => (if t369.toList = t386.toList then (if (!(t372 == t377) || (!(t373 == t378) || (!(t374.toList == t379.toList)))) = true then (none) else (if t375 = t380 then ((impl_ValueOk.f t365 t366 t367).bind fun t387 => ((spec_ValueOk.f t365 t366 t367).bind fun t388 => (if (t387 != t388) = true then (none) else ((impl_ValueText.f t365 t366 t367).bind fun t389 => ((spec_ValueText.f k t365 t366 t367).bind fun t390 => (if t389.toList = t390.toList then ((impl_NameOk.f t382).bind fun t391 => ((spec_NameOk.f k t382).bind fun t392 => (if (t391 != t392) = true then (none) else ((impl_DecText.f t383).bind fun t393 => ((spec_DecText.f k t383).bind fun t394 => (laws_FnValue.j0 k t364 t369 t370 t371 t375 (t393.toList != t394.toList) t356 t357 t358 t359 t360 t361 t365 t366 t367 t372 t373 t374)))))) else (none))))))) else (none))) else (none)))) else (none))) else (none))) = some r := H
  have A12 := Aside0.mk A120
  clear A120
  have HC13 := Aside0.mk H
  clear H
  go_enter Tryd.func4, Tryd.ntmps4
  go_upto_region 12 with (first | ((with_reducible refine gate_callee (f := 12) rfl ?_); refine gsL_ (some 19) Tryd.func12 #[.slice A0 l0.length c0] ?_; (with_reducible refine (laws_big.calls _ _ l0 false _ ?side1 ?side2 A2.out).mono ?_); (case side1 => exact ck_ HR0.out); (case side2 => exact HC0.out); rintro e w' ⟨rfl, ⟨nd, rfl⟩⟩; refine ⟨_, rfl, ?_⟩) | ((with_reducible refine gate_callee (f := 13) rfl ?_); refine gsL_ (some 22) Tryd.func13 #[.slice A0 l0.length c0] ?_; (with_reducible refine (spec_DrawCompareValue.calls k _ _ l0 t356 t357 t358 t359 t360 t361 _ ?side1 ?side2 A4.out).mono ?_); (case side1 => exact ck_ HR0.out); (case side2 => exact HC0.out); rintro e w14 ⟨rfl, hb⟩; refine ⟨_, rfl, ?_⟩; replace HB := bs_ hb; (try clear hb); (try clear hb2); (try clear hk); (try clear hi)) | ((with_reducible refine gate_dst (N := 3) rfl ?_); (try (refine gate_guard (by rfl) ?_; dsimp only)); refine bx_ 3 #[.int .i64 0, .int .i64 0, .string (⟨#[]⟩ : ByteArray)] 29 ?_; intro gb362 hg w15 hbox hb; have BK362 := Aside0.mk (hbox); have GW362 := gw_ hg; have GE362 := gw_ hg; replace HB := bs_ hb; clear hb hbox hg) | ((with_reducible refine gate_dst (N := 4) rfl ?_); (try (refine gate_guard (by rfl) ?_; dsimp only)); refine bx_ 4 #[.int .i64 0, .int .i64 0, .string (⟨#[]⟩ : ByteArray)] 29 ?_; intro gb363 hg w16 hbox hb; have BK363 := Aside0.mk (hbox); have GW363 := gw_ hg; have GE363 := gw_ hg; have NB362_363 := nl_ hg BK362; have NB363_362 := ng_ hg BK362; replace BK362 := bkb_ BK362 hb; replace HB := bs_ hb; clear hb hbox hg; have hnb17 := NB362_363.out; have hnc17 := NB363_362.out; obtain ⟨hcz18_0, hcz18_1, hcz18_2, hfz18_0, hfz18_1, hfz18_2⟩ := b3_ BK362; obtain ⟨hcz19_0, hcz19_1, hcz19_2, hfz19_0, hfz19_1, hfz19_2⟩ := b3_ BK363) | ((with_reducible refine gate_callee (f := 14) rfl ?_); refine gsL_ (some 27) Tryd.func14 #[.agg #[.int .i64 t356, .int .i64 t357, .string t358], .agg #[.int .i64 t359, .int .i64 t360, .string t361]] ?_; (with_reducible refine (impl_CompareValue.calls k t356 t357 t358 t359 t360 t361 t364 _ A5.out).mono ?_); rintro e w20 ⟨rfl, hb⟩; refine ⟨_, rfl, ?_⟩; replace BK362 := Aside0.mk (blk_below (g := gb362) (o := .cells #[.int .i64 t356, .int .i64 t357, .string t358] 29 (0, 0)) (by (with_reducible repeat (first | refine blk_drewN ?_ _ | refine blk_drew ?_ | refine blk_alloc ?_ _)); refine blk_far ?_ NB362_363.out _; (with_reducible repeat (first | refine blk_drewN ?_ _ | refine blk_drew ?_ | refine blk_alloc ?_ _)); refine blk_far ?_ NB362_363.out _; (with_reducible repeat (first | refine blk_drewN ?_ _ | refine blk_drew ?_ | refine blk_alloc ?_ _)); refine blk_far ?_ NB362_363.out _; (with_reducible repeat (first | refine blk_drewN ?_ _ | refine blk_drew ?_ | refine blk_alloc ?_ _)); refine blk_put (cs := #[.int .i64 t356, .int .i64 t357, .string (⟨#[]⟩ : ByteArray)]) ?_ 2 _ rfl; (with_reducible repeat (first | refine blk_drewN ?_ _ | refine blk_drew ?_ | refine blk_alloc ?_ _)); refine blk_put (cs := #[.int .i64 t356, .int .i64 0, .string (⟨#[]⟩ : ByteArray)]) ?_ 1 _ rfl; (with_reducible repeat (first | refine blk_drewN ?_ _ | refine blk_drew ?_ | refine blk_alloc ?_ _)); refine blk_put (cs := #[.int .i64 0, .int .i64 0, .string (⟨#[]⟩ : ByteArray)]) ?_ 0 _ rfl; (with_reducible repeat (first | refine blk_drewN ?_ _ | refine blk_drew ?_ | refine blk_alloc ?_ _)); exact BK362.out) hb); replace BK363 := Aside0.mk (blk_below (g := gb363) (o := .cells #[.int .i64 t359, .int .i64 t360, .string t361] 29 (0, 0)) (by (with_reducible repeat (first | refine blk_drewN ?_ _ | refine blk_drew ?_ | refine blk_alloc ?_ _)); refine blk_put (cs := #[.int .i64 t359, .int .i64 t360, .string (⟨#[]⟩ : ByteArray)]) ?_ 2 _ rfl; (with_reducible repeat (first | refine blk_drewN ?_ _ | refine blk_drew ?_ | refine blk_alloc ?_ _)); refine blk_put (cs := #[.int .i64 t359, .int .i64 0, .string (⟨#[]⟩ : ByteArray)]) ?_ 1 _ rfl; (with_reducible repeat (first | refine blk_drewN ?_ _ | refine blk_drew ?_ | refine blk_alloc ?_ _)); refine blk_put (cs := #[.int .i64 0, .int .i64 0, .string (⟨#[]⟩ : ByteArray)]) ?_ 0 _ rfl; (with_reducible repeat (first | refine blk_drewN ?_ _ | refine blk_drew ?_ | refine blk_alloc ?_ _)); refine blk_far ?_ NB363_362.out _; (with_reducible repeat (first | refine blk_drewN ?_ _ | refine blk_drew ?_ | refine blk_alloc ?_ _)); refine blk_far ?_ NB363_362.out _; (with_reducible repeat (first | refine blk_drewN ?_ _ | refine blk_drew ?_ | refine blk_alloc ?_ _)); refine blk_far ?_ NB363_362.out _; (with_reducible repeat (first | refine blk_drewN ?_ _ | refine blk_drew ?_ | refine blk_alloc ?_ _)); exact BK363.out) hb); replace HB := bs_ hb; (try clear hb); (try clear hb2); (try clear hk); (try clear hi)) | ((with_reducible refine gate_callee (f := 15) rfl ?_); refine gsL_ (some 29) Tryd.func15 #[.slice A0 l0.length c0] ?_; (with_reducible refine (spec_DrawPutValue.calls k _ _ l0 t365 t366 t367 _ ?side1 ?side2 A6.out).mono ?_); (case side1 => exact ck_ (Kd.C_below HR0.out HB.out)); (case side2 => exact HC0.out); rintro e w21 ⟨rfl, hb⟩; refine ⟨_, rfl, ?_⟩; replace BK362 := bkb_ BK362 hb; replace BK363 := bkb_ BK363 hb; replace HB := bs_ hb; (try clear hb); (try clear hb2); (try clear hk); (try clear hi)) | ((with_reducible refine gate_dst (N := 6) rfl ?_); (try (refine gate_guard (by rfl) ?_; dsimp only)); refine bx_ 6 #[.int .i64 0, .int .i64 0, .string (⟨#[]⟩ : ByteArray)] 29 ?_; intro gb368 hg w22 hbox hb; have BK368 := Aside0.mk (hbox); have GW368 := gw_ hg; have GE368 := gw_ hg; have NB362_368 := nl_ hg BK362; have NB368_362 := ng_ hg BK362; have NB363_368 := nl_ hg BK363; have NB368_363 := ng_ hg BK363; replace BK362 := bkb_ BK362 hb; replace BK363 := bkb_ BK363 hb; replace HB := bs_ hb; clear hb hbox hg; have hnb23 := NB368_362.out; have hnc23 := NB362_368.out; have hnb24 := NB368_363.out; have hnc24 := NB363_368.out; obtain ⟨hcz25_0, hcz25_1, hcz25_2, hfz25_0, hfz25_1, hfz25_2⟩ := b3_ BK368) | ((with_reducible refine gate_callee (f := 16) rfl ?_); refine gsL_ (some 31) Tryd.func16 #[.agg #[.int .i64 t365, .int .i64 t366, .string t367]] ?_; (with_reducible refine (impl_PutValue.calls k t365 t366 t367 t369 _ A7.out).mono ?_); rintro e w26 ⟨rfl, hb⟩; refine ⟨_, rfl, ?_⟩; replace BK362 := Aside0.mk (blk_below (g := gb362) (o := .cells #[.int .i64 t356, .int .i64 t357, .string t358] 29 (0, 0)) (bf3_ NB362_368 (bkx_ BK362.out)) hb); replace BK363 := Aside0.mk (blk_below (g := gb363) (o := .cells #[.int .i64 t359, .int .i64 t360, .string t361] 29 (0, 0)) (bf3_ NB363_368 (bkx_ BK363.out)) hb); replace BK368 := Aside0.mk (blk_below (g := gb368) (o := .cells #[.int .i64 t365, .int .i64 t366, .string t367] 29 (0, 0)) (bp3_ (bkx_ BK368.out)) hb); replace HB := bs_ hb; (try clear hb); (try clear hb2); (try clear hk); (try clear hi)) | ((with_reducible refine gate_callee (f := 17) rfl ?_); refine gsL_ (some 34) Tryd.func17 #[.slice A0 l0.length c0] ?_; (with_reducible refine (spec_DrawGetValue.calls k _ _ l0 t370 t371 _ ?side1 ?side2 A8.out).mono ?_); (case side1 => exact ck_ (Kd.C_below HR0.out HB.out)); (case side2 => exact HC0.out); rintro e w27 ⟨rfl, hb⟩; refine ⟨_, rfl, ?_⟩; replace BK362 := bkb_ BK362 hb; replace BK363 := bkb_ BK363 hb; replace BK368 := bkb_ BK368 hb; replace HB := bs_ hb; (try clear hb); (try clear hb2); (try clear hk); (try clear hi)) | ((with_reducible refine gate_callee (f := 18) rfl ?_); refine gsL_ (some 40) Tryd.func18 #[.string t370, .int .i64 t371] ?_; (with_reducible refine (impl_GetValue.calls t370 t371 t372 t373 t374 t375 _ A9.out).mono ?_); rintro e w28 ⟨rfl, hb⟩; refine ⟨_, rfl, ?_⟩; replace BK362 := bkb_ BK362 hb; replace BK363 := bkb_ BK363 hb; replace BK368 := bkb_ BK368 hb; replace HB := bs_ hb; (try clear hb); (try clear hb2); (try clear hk); (try clear hi)) | ((with_reducible refine gate_dst (N := 10) rfl ?_); (try (refine gate_guard (by rfl) ?_; dsimp only)); refine bx_ 10 #[.int .i64 0, .int .i64 0, .string (⟨#[]⟩ : ByteArray)] 29 ?_; intro gb376 hg w29 hbox hb; have BK376 := Aside0.mk (hbox); have GW376 := gw_ hg; have GE376 := gw_ hg; have NB362_376 := nl_ hg BK362; have NB376_362 := ng_ hg BK362; have NB363_376 := nl_ hg BK363; have NB376_363 := ng_ hg BK363; have NB368_376 := nl_ hg BK368; have NB376_368 := ng_ hg BK368; replace BK362 := bkb_ BK362 hb; replace BK363 := bkb_ BK363 hb; replace BK368 := bkb_ BK368 hb; replace HB := bs_ hb; clear hb hbox hg; have hnb30 := NB376_362.out; have hnc30 := NB362_376.out; have hnb31 := NB376_363.out; have hnc31 := NB363_376.out; have hnb32 := NB376_368.out; have hnc32 := NB368_376.out; obtain ⟨hcz33_0, hcz33_1, hcz33_2, hfz33_0, hfz33_1, hfz33_2⟩ := b3_ BK376) | ((with_reducible refine gate_callee (f := 19) rfl ?_); refine gsL_ (some 46) Tryd.func19 #[.string t370, .int .i64 t371] ?_; (with_reducible refine (spec_GetValue.calls k t370 t371 t377 t378 t379 t380 _ A10.out).mono ?_); rintro e w34 ⟨rfl, hb⟩; refine ⟨_, rfl, ?_⟩; replace BK362 := Aside0.mk (blk_below (g := gb362) (o := .cells #[.int .i64 t356, .int .i64 t357, .string t358] 29 (0, 0)) (bf3_ NB362_376 (bkx_ BK362.out)) hb); replace BK363 := Aside0.mk (blk_below (g := gb363) (o := .cells #[.int .i64 t359, .int .i64 t360, .string t361] 29 (0, 0)) (bf3_ NB363_376 (bkx_ BK363.out)) hb); replace BK368 := Aside0.mk (blk_below (g := gb368) (o := .cells #[.int .i64 t365, .int .i64 t366, .string t367] 29 (0, 0)) (bf3_ NB368_376 (bkx_ BK368.out)) hb); replace BK376 := Aside0.mk (blk_below (g := gb376) (o := .cells #[.int .i64 t372, .int .i64 t373, .string t374] 29 (0, 0)) (bp3_ (bkx_ BK376.out)) hb); replace HB := bs_ hb; (try clear hb); (try clear hb2); (try clear hk); (try clear hi)) | ((with_reducible refine gate_dst (N := 12) rfl ?_); (try (refine gate_guard (by rfl) ?_; dsimp only)); refine bx_ 12 #[.int .i64 0, .int .i64 0, .string (⟨#[]⟩ : ByteArray)] 29 ?_; intro gb381 hg w35 hbox hb; have BK381 := Aside0.mk (hbox); have GW381 := gw_ hg; have GE381 := gw_ hg; have NB362_381 := nl_ hg BK362; have NB381_362 := ng_ hg BK362; have NB363_381 := nl_ hg BK363; have NB381_363 := ng_ hg BK363; have NB368_381 := nl_ hg BK368; have NB381_368 := ng_ hg BK368; have NB376_381 := nl_ hg BK376; have NB381_376 := ng_ hg BK376; replace BK362 := bkb_ BK362 hb; replace BK363 := bkb_ BK363 hb; replace BK368 := bkb_ BK368 hb; replace BK376 := bkb_ BK376 hb; replace HB := bs_ hb; clear hb hbox hg; have hnb36 := NB381_362.out; have hnc36 := NB362_381.out; have hnb37 := NB381_363.out; have hnc37 := NB363_381.out; have hnb38 := NB381_368.out; have hnc38 := NB368_381.out; have hnb39 := NB381_376.out; have hnc39 := NB376_381.out; obtain ⟨hcz40_0, hcz40_1, hcz40_2, hfz40_0, hfz40_1, hfz40_2⟩ := b3_ BK381) | ((with_reducible refine gate_callee (f := 20) rfl ?_); refine gsL_ (some 50) Tryd.func20 #[.slice A0 l0.length c0] ?_; (with_reducible refine (spec_DrawNameOk.calls k _ _ l0 t382 _ ?side1 ?side2 A11.out).mono ?_); (case side1 => exact Kd.C_below HR0.out bb_); (case side2 => exact HC0.out); rintro e w41 ⟨rfl, hb⟩; refine ⟨_, rfl, ?_⟩; replace BK362 := Aside0.mk (blk_below (g := gb362) (o := .cells #[.int .i64 t356, .int .i64 t357, .string t358] 29 (0, 0)) (bf3_ NB362_381 (bkx_ BK362.out)) hb); replace BK363 := Aside0.mk (blk_below (g := gb363) (o := .cells #[.int .i64 t359, .int .i64 t360, .string t361] 29 (0, 0)) (bf3_ NB363_381 (bkx_ BK363.out)) hb); replace BK368 := Aside0.mk (blk_below (g := gb368) (o := .cells #[.int .i64 t365, .int .i64 t366, .string t367] 29 (0, 0)) (bf3_ NB368_381 (bkx_ BK368.out)) hb); replace BK376 := Aside0.mk (blk_below (g := gb376) (o := .cells #[.int .i64 t372, .int .i64 t373, .string t374] 29 (0, 0)) (bf3_ NB376_381 (bkx_ BK376.out)) hb); replace BK381 := Aside0.mk (blk_below (g := gb381) (o := .cells #[.int .i64 t377, .int .i64 t378, .string t379] 29 (0, 0)) (bp3_ (bkx_ BK381.out)) hb); replace HB := bs_ hb; (try clear hb); (try clear hb2); (try clear hk); (try clear hi)) | ((with_reducible refine gate_callee (f := 21) rfl ?_); refine gsL_ (some 52) Tryd.func21 #[.slice A0 l0.length c0] ?_; (with_reducible refine (spec_DrawDecText.calls k _ _ l0 t383 _ ?side1 ?side2 A12.out).mono ?_); (case side1 => exact ck_ (Kd.C_below HR0.out HB.out)); (case side2 => exact HC0.out); rintro e w42 ⟨rfl, hb⟩; refine ⟨_, rfl, ?_⟩; replace BK362 := bkb_ BK362 hb; replace BK363 := bkb_ BK363 hb; replace BK368 := bkb_ BK368 hb; replace BK376 := bkb_ BK376 hb; replace BK381 := bkb_ BK381 hb; replace HB := bs_ hb; (try clear hb); (try clear hb2); (try clear hk); (try clear hi)))
  (try simp only [Act.put, List.setIfInBounds_toArray, List.set_cons_zero, List.set_cons_succ])
  go_cut [117] (fun v117 wc => ∃ (kq : Nat) (x117_12 : Bool), v117 = .bool x117_12 ∧ Aside0 (laws_FnValue.j0 kq t364 t369 t370 t371 t375 x117_12 t356 t357 t358 t359 t360 t361 t365 t366 t367 t372 t373 t374 = some r) ∧ Aside0 (kq ≤ k) ∧ Aside0 (wc.heap[gb362]? = some (.cells #[.int .i64 t356, .int .i64 t357, .string t358] 29 (0, 0))) ∧ Aside0 (wc.heap[gb363]? = some (.cells #[.int .i64 t359, .int .i64 t360, .string t361] 29 (0, 0))) ∧ Aside0 (wc.heap[gb368]? = some (.cells #[.int .i64 t365, .int .i64 t366, .string t367] 29 (0, 0))) ∧ Aside0 (wc.heap[gb376]? = some (.cells #[.int .i64 t372, .int .i64 t373, .string t374] 29 (0, 0))) ∧ Aside0 (wc.heap[gb381]? = some (.cells #[.int .i64 t377, .int .i64 t378, .string t379] 29 (0, 0))) ∧ Aside0 (Below w.heap.size w wc))
  case first =>
   have H := HC13.out
   clear HC13
   replace H := Option.bind_eq_some_iff.mp H
   obtain ⟨t384, A430, H⟩ := H
   replace H : (if t364 = t384 then ((impl_CompareValue.f k t359 t360 t361 t356 t357 t358).bind fun t385 => (if t364 = (wrap64 (-t385)) then (if ((t364 == 0) != (t356 == t359 && (t357 == t360 && (t358.toList == t361.toList)))) = true then (none) else ((spec_PutValue.f k t365 t366 t367).bind fun t386 => (if t369.toList = t386.toList then (if (!(t372 == t377) || (!(t373 == t378) || (!(t374.toList == t379.toList)))) = true then (none) else (if t375 = t380 then ((impl_ValueOk.f t365 t366 t367).bind fun t387 => ((spec_ValueOk.f t365 t366 t367).bind fun t388 => (if (t387 != t388) = true then (none) else ((impl_ValueText.f t365 t366 t367).bind fun t389 => ((spec_ValueText.f k t365 t366 t367).bind fun t390 => (if t389.toList = t390.toList then ((impl_NameOk.f t382).bind fun t391 => ((spec_NameOk.f k t382).bind fun t392 => (if (t391 != t392) = true then (none) else ((impl_DecText.f t383).bind fun t393 => ((spec_DecText.f k t383).bind fun t394 => (laws_FnValue.j0 k t364 t369 t370 t371 t375 (t393.toList != t394.toList) t356 t357 t358 t359 t360 t361 t365 t366 t367 t372 t373 t374)))))) else (none))))))) else (none))) else (none)))) else (none))) else (none)) = some r := H
   have A43 := Aside0.mk A430
   clear A430
   by_cases c44 : t364 = t384
   ·rw [if_pos c44] at H
    have c44b0 : (t364 == t384) = true := beq_iff_eq.mpr c44
    have c44b1 : (t364 != t384) = false := bne_eq_false_iff_eq.mpr c44
    clear c44
    (first | rw [c44b0] | (simp only [i64_w, i32_w]; rw [c44b0]) | skip)
    replace H := Option.bind_eq_some_iff.mp H
    obtain ⟨t385, A450, H⟩ := H
    replace H : (if t364 = (wrap64 (-t385)) then (if ((t364 == 0) != (t356 == t359 && (t357 == t360 && (t358.toList == t361.toList)))) = true then (none) else ((spec_PutValue.f k t365 t366 t367).bind fun t386 => (if t369.toList = t386.toList then (if (!(t372 == t377) || (!(t373 == t378) || (!(t374.toList == t379.toList)))) = true then (none) else (if t375 = t380 then ((impl_ValueOk.f t365 t366 t367).bind fun t387 => ((spec_ValueOk.f t365 t366 t367).bind fun t388 => (if (t387 != t388) = true then (none) else ((impl_ValueText.f t365 t366 t367).bind fun t389 => ((spec_ValueText.f k t365 t366 t367).bind fun t390 => (if t389.toList = t390.toList then ((impl_NameOk.f t382).bind fun t391 => ((spec_NameOk.f k t382).bind fun t392 => (if (t391 != t392) = true then (none) else ((impl_DecText.f t383).bind fun t393 => ((spec_DecText.f k t383).bind fun t394 => (laws_FnValue.j0 k t364 t369 t370 t371 t375 (t393.toList != t394.toList) t356 t357 t358 t359 t360 t361 t365 t366 t367 t372 t373 t374)))))) else (none))))))) else (none))) else (none)))) else (none)) = some r := H
    have A45 := Aside0.mk A450
    clear A450
    by_cases c46 : t364 = (wrap64 (-t385))
    ·rw [if_pos c46] at H
     have c46b0 : (t364 == (wrap64 (-t385))) = true := beq_iff_eq.mpr c46
     have c46b1 : (t364 != (wrap64 (-t385))) = false := bne_eq_false_iff_eq.mpr c46
     clear c46
     by_cases c47 : ((t364 == 0) != (t356 == t359 && (t357 == t360 && (t358.toList == t361.toList)))) = true
     ·rw [if_pos c47] at H
      have c47b0 : ((t364 == 0) != (t356 == t359 && (t357 == t360 && (t358.toList == t361.toList)))) = true := c47
      (try (have c47b1 : decide ((t364 == 0) = (t356 == t359 && (t357 == t360 && (t358.toList == t361.toList)))) = false := by simpa using c47))
      (try (have c47b2 : ((t364 == 0) == (t356 == t359 && (t357 == t360 && (t358.toList == t361.toList)))) = false := by simpa using c47))
      (try (have c47b3 : ¬ ((t364 == 0) = (t356 == t359 && (t357 == t360 && (t358.toList == t361.toList)))) := by simpa using c47))
      clear c47
      exact absurd H (by simp)
     ·rw [if_neg c47] at H
      have c47b0 : ((t364 == 0) != (t356 == t359 && (t357 == t360 && (t358.toList == t361.toList)))) = false := by simpa using c47
      (try (have c47b1 : decide ((t364 == 0) = (t356 == t359 && (t357 == t360 && (t358.toList == t361.toList)))) = true := by simpa using c47))
      (try (have c47b2 : ((t364 == 0) == (t356 == t359 && (t357 == t360 && (t358.toList == t361.toList)))) = true := by simpa using c47))
      clear c47
      replace H := Option.bind_eq_some_iff.mp H
      obtain ⟨t386, A480, H⟩ := H
      replace H : (if t369.toList = t386.toList then (if (!(t372 == t377) || (!(t373 == t378) || (!(t374.toList == t379.toList)))) = true then (none) else (if t375 = t380 then ((impl_ValueOk.f t365 t366 t367).bind fun t387 => ((spec_ValueOk.f t365 t366 t367).bind fun t388 => (if (t387 != t388) = true then (none) else ((impl_ValueText.f t365 t366 t367).bind fun t389 => ((spec_ValueText.f k t365 t366 t367).bind fun t390 => (if t389.toList = t390.toList then ((impl_NameOk.f t382).bind fun t391 => ((spec_NameOk.f k t382).bind fun t392 => (if (t391 != t392) = true then (none) else ((impl_DecText.f t383).bind fun t393 => ((spec_DecText.f k t383).bind fun t394 => (laws_FnValue.j0 k t364 t369 t370 t371 t375 (t393.toList != t394.toList) t356 t357 t358 t359 t360 t361 t365 t366 t367 t372 t373 t374)))))) else (none))))))) else (none))) else (none)) = some r := H
      have A48 := Aside0.mk A480
      clear A480
      by_cases c49 : t369.toList = t386.toList
      ·rw [if_pos c49] at H
       have c49b0 : (t369.toList == t386.toList) = true := beq_iff_eq.mpr c49
       have c49b1 : (t369.toList != t386.toList) = false := bne_eq_false_iff_eq.mpr c49
       clear c49
       by_cases c50 : (!(t372 == t377) || (!(t373 == t378) || (!(t374.toList == t379.toList)))) = true
       ·rw [if_pos c50] at H
        have c50b0 : (!(t372 == t377) || (!(t373 == t378) || (!(t374.toList == t379.toList)))) = true := c50
        clear c50
        exact absurd H (by simp)
       ·rw [if_neg c50] at H
        have c50b0 : (!(t372 == t377) || (!(t373 == t378) || (!(t374.toList == t379.toList)))) = false := by simpa using c50
        clear c50
        by_cases c51 : t375 = t380
        ·rw [if_pos c51] at H
         have c51b0 : (t375 == t380) = true := beq_iff_eq.mpr c51
         have c51b1 : (t375 != t380) = false := bne_eq_false_iff_eq.mpr c51
         clear c51
         replace H := Option.bind_eq_some_iff.mp H
         obtain ⟨t387, A520, H⟩ := H
         replace H : ((spec_ValueOk.f t365 t366 t367).bind fun t388 => (if (t387 != t388) = true then (none) else ((impl_ValueText.f t365 t366 t367).bind fun t389 => ((spec_ValueText.f k t365 t366 t367).bind fun t390 => (if t389.toList = t390.toList then ((impl_NameOk.f t382).bind fun t391 => ((spec_NameOk.f k t382).bind fun t392 => (if (t391 != t392) = true then (none) else ((impl_DecText.f t383).bind fun t393 => ((spec_DecText.f k t383).bind fun t394 => (laws_FnValue.j0 k t364 t369 t370 t371 t375 (t393.toList != t394.toList) t356 t357 t358 t359 t360 t361 t365 t366 t367 t372 t373 t374)))))) else (none)))))) = some r := H
         have A52 := Aside0.mk A520
         clear A520
         replace H := Option.bind_eq_some_iff.mp H
         obtain ⟨t388, A530, H⟩ := H
         replace H : (if (t387 != t388) = true then (none) else ((impl_ValueText.f t365 t366 t367).bind fun t389 => ((spec_ValueText.f k t365 t366 t367).bind fun t390 => (if t389.toList = t390.toList then ((impl_NameOk.f t382).bind fun t391 => ((spec_NameOk.f k t382).bind fun t392 => (if (t391 != t392) = true then (none) else ((impl_DecText.f t383).bind fun t393 => ((spec_DecText.f k t383).bind fun t394 => (laws_FnValue.j0 k t364 t369 t370 t371 t375 (t393.toList != t394.toList) t356 t357 t358 t359 t360 t361 t365 t366 t367 t372 t373 t374)))))) else (none))))) = some r := H
         have A53 := Aside0.mk A530
         clear A530
         by_cases c54 : (t387 != t388) = true
         ·rw [if_pos c54] at H
          have c54b0 : (t387 != t388) = true := c54
          (try (have c54b1 : decide (t387 = t388) = false := by simpa using c54))
          (try (have c54b2 : (t387 == t388) = false := by simpa using c54))
          (try (have c54b3 : ¬ (t387 = t388) := by simpa using c54))
          clear c54
          exact absurd H (by simp)
         ·rw [if_neg c54] at H
          have c54b0 : (t387 != t388) = false := by simpa using c54
          (try (have c54b1 : decide (t387 = t388) = true := by simpa using c54))
          (try (have c54b2 : (t387 == t388) = true := by simpa using c54))
          clear c54
          replace H := Option.bind_eq_some_iff.mp H
          obtain ⟨t389, A550, H⟩ := H
          replace H : ((spec_ValueText.f k t365 t366 t367).bind fun t390 => (if t389.toList = t390.toList then ((impl_NameOk.f t382).bind fun t391 => ((spec_NameOk.f k t382).bind fun t392 => (if (t391 != t392) = true then (none) else ((impl_DecText.f t383).bind fun t393 => ((spec_DecText.f k t383).bind fun t394 => (laws_FnValue.j0 k t364 t369 t370 t371 t375 (t393.toList != t394.toList) t356 t357 t358 t359 t360 t361 t365 t366 t367 t372 t373 t374)))))) else (none))) = some r := H
          have A55 := Aside0.mk A550
          clear A550
          replace H := Option.bind_eq_some_iff.mp H
          obtain ⟨t390, A560, H⟩ := H
          replace H : (if t389.toList = t390.toList then ((impl_NameOk.f t382).bind fun t391 => ((spec_NameOk.f k t382).bind fun t392 => (if (t391 != t392) = true then (none) else ((impl_DecText.f t383).bind fun t393 => ((spec_DecText.f k t383).bind fun t394 => (laws_FnValue.j0 k t364 t369 t370 t371 t375 (t393.toList != t394.toList) t356 t357 t358 t359 t360 t361 t365 t366 t367 t372 t373 t374)))))) else (none)) = some r := H
          have A56 := Aside0.mk A560
          clear A560
          by_cases c57 : t389.toList = t390.toList
          ·rw [if_pos c57] at H
           have c57b0 : (t389.toList == t390.toList) = true := beq_iff_eq.mpr c57
           have c57b1 : (t389.toList != t390.toList) = false := bne_eq_false_iff_eq.mpr c57
           clear c57
           replace H := Option.bind_eq_some_iff.mp H
           obtain ⟨t391, A580, H⟩ := H
           replace H : ((spec_NameOk.f k t382).bind fun t392 => (if (t391 != t392) = true then (none) else ((impl_DecText.f t383).bind fun t393 => ((spec_DecText.f k t383).bind fun t394 => (laws_FnValue.j0 k t364 t369 t370 t371 t375 (t393.toList != t394.toList) t356 t357 t358 t359 t360 t361 t365 t366 t367 t372 t373 t374))))) = some r := H
           have A58 := Aside0.mk A580
           clear A580
           replace H := Option.bind_eq_some_iff.mp H
           obtain ⟨t392, A590, H⟩ := H
           replace H : (if (t391 != t392) = true then (none) else ((impl_DecText.f t383).bind fun t393 => ((spec_DecText.f k t383).bind fun t394 => (laws_FnValue.j0 k t364 t369 t370 t371 t375 (t393.toList != t394.toList) t356 t357 t358 t359 t360 t361 t365 t366 t367 t372 t373 t374)))) = some r := H
           have A59 := Aside0.mk A590
           clear A590
           by_cases c60 : (t391 != t392) = true
           ·rw [if_pos c60] at H
            have c60b0 : (t391 != t392) = true := c60
            (try (have c60b1 : decide (t391 = t392) = false := by simpa using c60))
            (try (have c60b2 : (t391 == t392) = false := by simpa using c60))
            (try (have c60b3 : ¬ (t391 = t392) := by simpa using c60))
            clear c60
            exact absurd H (by simp)
           ·rw [if_neg c60] at H
            have c60b0 : (t391 != t392) = false := by simpa using c60
            (try (have c60b1 : decide (t391 = t392) = true := by simpa using c60))
            (try (have c60b2 : (t391 == t392) = true := by simpa using c60))
            clear c60
            replace H := Option.bind_eq_some_iff.mp H
            obtain ⟨t393, A610, H⟩ := H
            replace H : ((spec_DecText.f k t383).bind fun t394 => (laws_FnValue.j0 k t364 t369 t370 t371 t375 (t393.toList != t394.toList) t356 t357 t358 t359 t360 t361 t365 t366 t367 t372 t373 t374)) = some r := H
            have A61 := Aside0.mk A610
            clear A610
            replace H := Option.bind_eq_some_iff.mp H
            obtain ⟨t394, A620, H⟩ := H
            replace H : (laws_FnValue.j0 k t364 t369 t370 t371 t375 (t393.toList != t394.toList) t356 t357 t358 t359 t360 t361 t365 t366 t367 t372 t373 t374) = some r := H
            have A62 := Aside0.mk A620
            clear A620
            have H' := Aside0.mk H
            clear H
            try go_wp2
            replace BK362 := Aside0.mk (blk_drew BK362.out)
            replace BK363 := Aside0.mk (blk_drew BK363.out)
            replace BK368 := Aside0.mk (blk_drew BK368.out)
            replace BK376 := Aside0.mk (blk_drew BK376.out)
            replace BK381 := Aside0.mk (blk_drew BK381.out)
            replace HB := Aside0.mk (below_drew1 HB.out)
            refine start_ (n := 65) (S := fun w' => w'.cell? ⟨gb362, 0, none⟩ = some (.int .i64 t356) ∧ w'.cell? ⟨gb362, 1, none⟩ = some (.int .i64 t357) ∧ w'.cell? ⟨gb362, 2, none⟩ = some (.string t358) ∧ w'.cell? ⟨gb363, 0, none⟩ = some (.int .i64 t359) ∧ w'.cell? ⟨gb363, 1, none⟩ = some (.int .i64 t360) ∧ w'.cell? ⟨gb363, 2, none⟩ = some (.string t361) ∧ w'.cell? ⟨gb368, 0, none⟩ = some (.int .i64 t365) ∧ w'.cell? ⟨gb368, 1, none⟩ = some (.int .i64 t366) ∧ w'.cell? ⟨gb368, 2, none⟩ = some (.string t367) ∧ w'.cell? ⟨gb376, 0, none⟩ = some (.int .i64 t372) ∧ w'.cell? ⟨gb376, 1, none⟩ = some (.int .i64 t373) ∧ w'.cell? ⟨gb376, 2, none⟩ = some (.string t374) ∧ w'.cell? ⟨gb381, 0, none⟩ = some (.int .i64 t377) ∧ w'.cell? ⟨gb381, 1, none⟩ = some (.int .i64 t378) ∧ w'.cell? ⟨gb381, 2, none⟩ = some (.string t379)) (ds := []) (tf 0 65) (by kernel_rfl) rfl rfl ⟨bc_ BK362 0, bc_ BK362 1, bc_ BK362 2, bc_ BK363 0, bc_ BK363 1, bc_ BK363 2, bc_ BK368 0, bc_ BK368 1, bc_ BK368 2, bc_ BK376 0, bc_ BK376 1, bc_ BK376 2, bc_ BK381 0, bc_ BK381 1, bc_ BK381 2⟩ (fun hHeld => ?_); refine with_tabW laws_FnValue.tab12 laws_FnValue.bits12 (fun HT_ HW_ => ?_)
            generalize w42.drew = w63 at BK362 BK363 BK368 BK376 BK381 HB hHeld ⊢
            refine pl_ ?_
            iterate 2 (refine tl_ ?_)
            refine one_ (i := 3) (N := some 56) (tf 4 61) rfl rfl (one_of HT_.out (by kernel_rfl)) (by decide) (fun K hK => ?_)
            refine gs_ Tryd.func22 #[.agg #[.int .i64 t356, .int .i64 t357, .string t358], .agg #[.int .i64 t359, .int .i64 t360, .string t361]] ?_
            with_reducible refine (spec_CompareValue.calls t356 t357 t358 t359 t360 t361 t384 _ A43.out).mono ?_
            rintro e w64 ⟨rfl, hb⟩
            refine ⟨_, rfl, ?_⟩
            replace BK362 := bkb_ BK362 hb
            replace BK363 := bkb_ BK363 hb
            replace BK368 := bkb_ BK368 hb
            replace BK376 := bkb_ BK376 hb
            replace BK381 := bkb_ BK381 hb
            replace HB := bs_ hb
            (try clear hb)
            (try clear hb2)
            (try clear hk)
            (try clear hi)
            refine hK.out _ _ ⟨bc_ BK362 0, bc_ BK362 1, bc_ BK362 2, bc_ BK363 0, bc_ BK363 1, bc_ BK363 2, bc_ BK368 0, bc_ BK368 1, bc_ BK368 2, bc_ BK376 0, bc_ BK376 1, bc_ BK376 2, bc_ BK381 0, bc_ BK381 1, bc_ BK381 2⟩ (fun hHeld => ?_)
            clear hK K
            refine nm_ ?_
            refine plx_ 4 (tf 5 60) ?_
            iterate 2 (refine pl_ ?_)
            iterate 2 (refine tl_ ?_)
            refine one_ (i := 9) (N := some 62) (tf 10 55) rfl rfl (one_of HT_.out (by kernel_rfl)) (by decide) (fun K hK => ?_)
            refine gs_ Tryd.func14 #[.agg #[.int .i64 t359, .int .i64 t360, .string t361], .agg #[.int .i64 t356, .int .i64 t357, .string t358]] ?_
            with_reducible refine (impl_CompareValue.calls k t359 t360 t361 t356 t357 t358 t385 _ A45.out).mono ?_
            rintro e w65 ⟨rfl, hb⟩
            refine ⟨_, rfl, ?_⟩
            replace BK362 := bkb_ BK362 hb
            replace BK363 := bkb_ BK363 hb
            replace BK368 := bkb_ BK368 hb
            replace BK376 := bkb_ BK376 hb
            replace BK381 := bkb_ BK381 hb
            replace HB := bs_ hb
            (try clear hb)
            (try clear hb2)
            (try clear hk)
            (try clear hi)
            refine hK.out _ _ ⟨bc_ BK362 0, bc_ BK362 1, bc_ BK362 2, bc_ BK363 0, bc_ BK363 1, bc_ BK363 2, bc_ BK368 0, bc_ BK368 1, bc_ BK368 2, bc_ BK376 0, bc_ BK376 1, bc_ BK376 2, bc_ BK381 0, bc_ BK381 1, bc_ BK381 2⟩ (fun hHeld => ?_)
            clear hK K
            refine nm_ ?_
            refine plx_ 10 (tf 11 54) ?_
            iterate 5 (refine pl_ ?_)
            iterate 2 (refine tl_ ?_)
            iterate 5 (refine pl_ ?_)
            refine tl_ ?_
            refine one_ (i := 24) (N := some 77) (tf 25 40) rfl rfl (one_of HT_.out (by kernel_rfl)) (by decide) (fun K hK => ?_)
            refine gs_ Tryd.func23 #[.agg #[.int .i64 t365, .int .i64 t366, .string t367]] ?_
            with_reducible refine (spec_PutValue.calls k t365 t366 t367 t386 _ A48.out).mono ?_
            rintro e w66 ⟨rfl, hb⟩
            refine ⟨_, rfl, ?_⟩
            replace BK362 := bkb_ BK362 hb
            replace BK363 := bkb_ BK363 hb
            replace BK368 := bkb_ BK368 hb
            replace BK376 := bkb_ BK376 hb
            replace BK381 := bkb_ BK381 hb
            replace HB := bs_ hb
            (try clear hb)
            (try clear hb2)
            (try clear hk)
            (try clear hi)
            refine hK.out _ _ ⟨bc_ BK362 0, bc_ BK362 1, bc_ BK362 2, bc_ BK363 0, bc_ BK363 1, bc_ BK363 2, bc_ BK368 0, bc_ BK368 1, bc_ BK368 2, bc_ BK376 0, bc_ BK376 1, bc_ BK376 2, bc_ BK381 0, bc_ BK381 1, bc_ BK381 2⟩ (fun hHeld => ?_)
            clear hK K
            refine nm_ ?_
            refine plx_ 25 (tf 26 39) ?_
            iterate 2 (refine pl_ ?_)
            iterate 2 (refine tl_ ?_)
            iterate 8 (refine pl_ ?_)
            refine tl_ ?_
            refine tlx_ 40 #[true, true, true, true, true, true, true, true, true, true, true, true, true, true, true, true, true, true, true, true, true, true, true, true, true, true, true, true, true, true, true, true, true, true, true, true, true, true, true, false, true, false, false, false, false, false, false, false, false, false, false, false, false, false, false, false, false, false, false, false, false, false, false, false, false] ?_
            refine one_ (i := 39) (N := some 92) (tf 41 24) rfl rfl (one_of HT_.out (by kernel_rfl)) (by decide) (fun K hK => ?_)
            refine gs_ Tryd.func24 #[.agg #[.int .i64 t365, .int .i64 t366, .string t367]] ?_
            with_reducible refine (impl_ValueOk.calls t365 t366 t367 t387 _ A52.out).mono ?_
            rintro e w67 ⟨rfl, hb⟩
            refine ⟨_, rfl, ?_⟩
            replace BK362 := bkb_ BK362 hb
            replace BK363 := bkb_ BK363 hb
            replace BK368 := bkb_ BK368 hb
            replace BK376 := bkb_ BK376 hb
            replace BK381 := bkb_ BK381 hb
            replace HB := bs_ hb
            (try clear hb)
            (try clear hb2)
            (try clear hk)
            (try clear hi)
            refine hK.out _ _ ⟨bc_ BK362 0, bc_ BK362 1, bc_ BK362 2, bc_ BK363 0, bc_ BK363 1, bc_ BK363 2, bc_ BK368 0, bc_ BK368 1, bc_ BK368 2, bc_ BK376 0, bc_ BK376 1, bc_ BK376 2, bc_ BK381 0, bc_ BK381 1, bc_ BK381 2⟩ (fun hHeld => ?_)
            clear hK K
            refine nm_ ?_
            refine one_ (i := 41) (N := some 94) (tf 42 23) rfl rfl (one_of HT_.out (by kernel_rfl)) (by decide) (fun K hK => ?_)
            refine gs_ Tryd.func25 #[.agg #[.int .i64 t365, .int .i64 t366, .string t367]] ?_
            with_reducible refine (spec_ValueOk.calls t365 t366 t367 t388 _ A53.out).mono ?_
            rintro e w68 ⟨rfl, hb⟩
            refine ⟨_, rfl, ?_⟩
            replace BK362 := bkb_ BK362 hb
            replace BK363 := bkb_ BK363 hb
            replace BK368 := bkb_ BK368 hb
            replace BK376 := bkb_ BK376 hb
            replace BK381 := bkb_ BK381 hb
            replace HB := bs_ hb
            (try clear hb)
            (try clear hb2)
            (try clear hk)
            (try clear hi)
            refine hK.out _ _ ⟨bc_ BK362 0, bc_ BK362 1, bc_ BK362 2, bc_ BK363 0, bc_ BK363 1, bc_ BK363 2, bc_ BK368 0, bc_ BK368 1, bc_ BK368 2, bc_ BK376 0, bc_ BK376 1, bc_ BK376 2, bc_ BK381 0, bc_ BK381 1, bc_ BK381 2⟩ (fun hHeld => ?_)
            clear hK K
            refine nm_ ?_
            refine plx_ 42 (tf 43 22) ?_
            iterate 2 (refine pl_ ?_)
            refine tl_ ?_
            refine tlx_ 47 #[true, true, true, true, true, true, true, true, true, true, true, true, true, true, true, true, true, true, true, true, true, true, true, true, true, true, true, true, true, true, true, true, true, true, true, true, true, true, true, true, true, true, true, true, true, true, false, true, false, false, false, false, false, false, false, false, false, false, false, false, false, false, false, false, false] ?_
            refine one_ (i := 46) (N := some 99) (tf 48 17) rfl rfl (one_of HT_.out (by kernel_rfl)) (by decide) (fun K hK => ?_)
            refine gs_ Tryd.func26 #[.agg #[.int .i64 t365, .int .i64 t366, .string t367]] ?_
            with_reducible refine (impl_ValueText.calls t365 t366 t367 t389 _ A55.out).mono ?_
            rintro e w69 ⟨rfl, hb⟩
            refine ⟨_, rfl, ?_⟩
            replace BK362 := bkb_ BK362 hb
            replace BK363 := bkb_ BK363 hb
            replace BK368 := bkb_ BK368 hb
            replace BK376 := bkb_ BK376 hb
            replace BK381 := bkb_ BK381 hb
            replace HB := bs_ hb
            (try clear hb)
            (try clear hb2)
            (try clear hk)
            (try clear hi)
            refine hK.out _ _ ⟨bc_ BK362 0, bc_ BK362 1, bc_ BK362 2, bc_ BK363 0, bc_ BK363 1, bc_ BK363 2, bc_ BK368 0, bc_ BK368 1, bc_ BK368 2, bc_ BK376 0, bc_ BK376 1, bc_ BK376 2, bc_ BK381 0, bc_ BK381 1, bc_ BK381 2⟩ (fun hHeld => ?_)
            clear hK K
            refine nm_ ?_
            refine one_ (i := 48) (N := some 101) (tf 49 16) rfl rfl (one_of HT_.out (by kernel_rfl)) (by decide) (fun K hK => ?_)
            refine gs_ Tryd.func27 #[.agg #[.int .i64 t365, .int .i64 t366, .string t367]] ?_
            with_reducible refine (spec_ValueText.calls k t365 t366 t367 t390 _ A56.out).mono ?_
            rintro e w70 ⟨rfl, hb⟩
            refine ⟨_, rfl, ?_⟩
            replace BK362 := bkb_ BK362 hb
            replace BK363 := bkb_ BK363 hb
            replace BK368 := bkb_ BK368 hb
            replace BK376 := bkb_ BK376 hb
            replace BK381 := bkb_ BK381 hb
            replace HB := bs_ hb
            (try clear hb)
            (try clear hb2)
            (try clear hk)
            (try clear hi)
            refine hK.out _ _ ⟨bc_ BK362 0, bc_ BK362 1, bc_ BK362 2, bc_ BK363 0, bc_ BK363 1, bc_ BK363 2, bc_ BK368 0, bc_ BK368 1, bc_ BK368 2, bc_ BK376 0, bc_ BK376 1, bc_ BK376 2, bc_ BK381 0, bc_ BK381 1, bc_ BK381 2⟩ (fun hHeld => ?_)
            clear hK K
            refine nm_ ?_
            refine plx_ 49 (tf 50 15) ?_
            iterate 3 (refine pl_ ?_)
            refine plx_ 54 #[true, true, true, true, true, true, true, true, true, true, true, true, true, true, true, true, true, true, true, true, true, true, true, true, true, true, true, true, true, true, true, true, true, true, true, true, true, true, true, true, true, true, true, true, true, true, true, true, true, true, true, true, true, false, true, false, false, false, false, false, false, false, false, false, false] ?_
            refine one_ (i := 53) (N := some 106) (tf 55 10) rfl rfl (one_of HT_.out (by kernel_rfl)) (by decide) (fun K hK => ?_)
            refine gs_ Tryd.func28 #[.string t382] ?_
            with_reducible refine (impl_NameOk.calls t382 t391 _ A58.out).mono ?_
            rintro e w71 ⟨rfl, hb⟩
            refine ⟨_, rfl, ?_⟩
            replace BK362 := bkb_ BK362 hb
            replace BK363 := bkb_ BK363 hb
            replace BK368 := bkb_ BK368 hb
            replace BK376 := bkb_ BK376 hb
            replace BK381 := bkb_ BK381 hb
            replace HB := bs_ hb
            (try clear hb)
            (try clear hb2)
            (try clear hk)
            (try clear hi)
            refine hK.out _ _ ⟨bc_ BK362 0, bc_ BK362 1, bc_ BK362 2, bc_ BK363 0, bc_ BK363 1, bc_ BK363 2, bc_ BK368 0, bc_ BK368 1, bc_ BK368 2, bc_ BK376 0, bc_ BK376 1, bc_ BK376 2, bc_ BK381 0, bc_ BK381 1, bc_ BK381 2⟩ (fun hHeld => ?_)
            clear hK K
            refine nm_ ?_
            refine one_ (i := 55) (N := some 108) (tf 56 9) rfl rfl (one_of HT_.out (by kernel_rfl)) (by decide) (fun K hK => ?_)
            refine gs_ Tryd.func29 #[.string t382] ?_
            with_reducible refine (spec_NameOk.calls k t382 t392 _ A59.out).mono ?_
            rintro e w' ⟨rfl, ⟨nd, rfl⟩⟩
            refine ⟨_, rfl, ?_⟩
            refine hK.out _ _ ⟨bc_ BK362 0, bc_ BK362 1, bc_ BK362 2, bc_ BK363 0, bc_ BK363 1, bc_ BK363 2, bc_ BK368 0, bc_ BK368 1, bc_ BK368 2, bc_ BK376 0, bc_ BK376 1, bc_ BK376 2, bc_ BK381 0, bc_ BK381 1, bc_ BK381 2⟩ (fun hHeld => ?_)
            clear hK K
            refine nm_ ?_
            refine plx_ 56 (tf 57 8) ?_
            iterate 3 (refine pl_ ?_)
            refine plx_ 61 #[true, true, true, true, true, true, true, true, true, true, true, true, true, true, true, true, true, true, true, true, true, true, true, true, true, true, true, true, true, true, true, true, true, true, true, true, true, true, true, true, true, true, true, true, true, true, true, true, true, true, true, true, true, true, true, true, true, true, true, true, false, true, false, false, false] ?_
            refine one_ (i := 60) (N := some 113) (tf 62 3) rfl rfl (one_of HT_.out (by kernel_rfl)) (by decide) (fun K hK => ?_)
            refine gs_ Tryd.func30 #[.int .i64 t383] ?_
            with_reducible refine (impl_DecText.calls t383 t393 _ A61.out).mono ?_
            rintro e w72 ⟨rfl, hb⟩
            refine ⟨_, rfl, ?_⟩
            replace BK362 := bkb_ BK362 hb
            replace BK363 := bkb_ BK363 hb
            replace BK368 := bkb_ BK368 hb
            replace BK376 := bkb_ BK376 hb
            replace BK381 := bkb_ BK381 hb
            replace HB := bs_ hb
            (try clear hb)
            (try clear hb2)
            (try clear hk)
            (try clear hi)
            refine hK.out _ _ ⟨bc_ BK362 0, bc_ BK362 1, bc_ BK362 2, bc_ BK363 0, bc_ BK363 1, bc_ BK363 2, bc_ BK368 0, bc_ BK368 1, bc_ BK368 2, bc_ BK376 0, bc_ BK376 1, bc_ BK376 2, bc_ BK381 0, bc_ BK381 1, bc_ BK381 2⟩ (fun hHeld => ?_)
            clear hK K
            refine nm_ ?_
            refine one_ (i := 62) (N := some 115) (tf 63 2) rfl rfl (one_of HT_.out (by kernel_rfl)) (by decide) (fun K hK => ?_)
            refine gs_ Tryd.func31 #[.int .i64 t383] ?_
            with_reducible refine (spec_DecText.calls k t383 t394 _ A62.out).mono ?_
            rintro e w' ⟨rfl, ⟨nd, rfl⟩⟩
            refine ⟨_, rfl, ?_⟩
            refine hK.out _ _ ⟨bc_ BK362 0, bc_ BK362 1, bc_ BK362 2, bc_ BK363 0, bc_ BK363 1, bc_ BK363 2, bc_ BK368 0, bc_ BK368 1, bc_ BK368 2, bc_ BK376 0, bc_ BK376 1, bc_ BK376 2, bc_ BK381 0, bc_ BK381 1, bc_ BK381 2⟩ (fun hHeld => ?_)
            clear hK K
            refine nm_ ?_
            refine plx_ 63 (tf 64 1) ?_
            refine pl_ ?_
            refine done_ (done_of HT_.out (by kernel_rfl)) ?_
            try go_wp2
            go_meet
            case rel => exact ⟨_, ((t393.toList != t394.toList)), rs_, H', ⟨by first | omega | exact Nat.le_refl _⟩, ⟨bkx_ BK362.out⟩, ⟨bkx_ BK363.out⟩, ⟨bkx_ BK368.out⟩, ⟨bkx_ BK376.out⟩, ⟨bkx_ BK381.out⟩, ⟨bb_⟩⟩
          ·rw [if_neg c57] at H
           have c57b0 : (t389.toList == t390.toList) = false := beq_eq_false_iff_ne.mpr c57
           have c57b1 : (t389.toList != t390.toList) = true := bne_iff_ne.mpr c57
           exact absurd H (by simp)
        ·rw [if_neg c51] at H
         have c51b0 : (t375 == t380) = false := beq_eq_false_iff_ne.mpr c51
         have c51b1 : (t375 != t380) = true := bne_iff_ne.mpr c51
         exact absurd H (by simp)
      ·rw [if_neg c49] at H
       have c49b0 : (t369.toList == t386.toList) = false := beq_eq_false_iff_ne.mpr c49
       have c49b1 : (t369.toList != t386.toList) = true := bne_iff_ne.mpr c49
       exact absurd H (by simp)
    ·rw [if_neg c46] at H
     have c46b0 : (t364 == (wrap64 (-t385))) = false := beq_eq_false_iff_ne.mpr c46
     have c46b1 : (t364 != (wrap64 (-t385))) = true := bne_iff_ne.mpr c46
     exact absurd H (by simp)
   ·rw [if_neg c44] at H
    have c44b0 : (t364 == t384) = false := beq_eq_false_iff_ne.mpr c44
    have c44b1 : (t364 != t384) = true := bne_iff_ne.mpr c44
    (first | rw [c44b0] | (simp only [i64_w, i32_w]; rw [c44b0]) | skip)
    exact absurd H (by simp)
  case rest =>
   clear HC13
   try clear c2
   try clear p2
   try clear c3
   try clear c4
   try clear c5
   try clear p6
   try clear c23
   try clear c24
   try clear c25
   try clear c26
   try clear c27
   try clear c28
   try clear c29
   try clear c30
   try clear c31
   try clear c44
   try clear c44b0
   try clear c44b1
   try clear c46
   try clear c46b0
   try clear c46b1
   try clear c49
   try clear c49b0
   try clear c49b1
   try clear c51
   try clear c51b0
   try clear c51b1
   try clear c57
   try clear c57b0
   try clear c57b1
   try clear p64
   obtain ⟨kq, x117_12, rfl, HA, HJ12, BK362, BK363, BK368, BK376, BK381, HB⟩ := hcut
   cases kq with
   | zero => exact absurd HA.out (by simp [laws_FnValue.j0])
   | succ kj12 =>
    have H := HA.out
    clear HA
    simp only [laws_FnValue.j0] at H
    by_cases c73 : x117_12 = true
    ·subst c73
     have H1 : (none) = some r := by rw [if_pos rfl] at H; exact H
     clear H
     have H := H1
     clear H1
     exact absurd H (by simp)
    ·replace c73 := Bool.eq_false_iff.mpr c73
     subst c73
     have H1 : (if t364 ≤ 0 then ((impl_CompareValue.f kj12 t359 t360 t361 t365 t366 t367).bind fun t395 => (if t395 ≤ 0 then ((impl_CompareValue.f kj12 t356 t357 t358 t365 t366 t367).bind fun t396 => (if t396 > 0 then (none) else (if t375 > 0 then ((impl_PutValue.f kj12 t372 t373 t374).bind fun t397 => (if 0 ≤ t371 then (if t371 ≤ t375 then (if t375 ≤ (t370.size : Int) then (laws_FnValue.j1 kj12 t369 (t397.toList != (t370.extract (t371 : Int).toNat (t375 : Int).toNat).toList) t365 t366 t367) else (none)) else (none)) else (none))) else (laws_FnValue.j1 kj12 t369 false t365 t366 t367)))) else (if t375 > 0 then ((impl_PutValue.f kj12 t372 t373 t374).bind fun t398 => (if 0 ≤ t371 then (if t371 ≤ t375 then (if t375 ≤ (t370.size : Int) then (laws_FnValue.j1 kj12 t369 (t398.toList != (t370.extract (t371 : Int).toNat (t375 : Int).toNat).toList) t365 t366 t367) else (none)) else (none)) else (none))) else (laws_FnValue.j1 kj12 t369 false t365 t366 t367)))) else (if t375 > 0 then ((impl_PutValue.f kj12 t372 t373 t374).bind fun t399 => (if 0 ≤ t371 then (if t371 ≤ t375 then (if t375 ≤ (t370.size : Int) then (laws_FnValue.j1 kj12 t369 (t399.toList != (t370.extract (t371 : Int).toNat (t375 : Int).toNat).toList) t365 t366 t367) else (none)) else (none)) else (none))) else (laws_FnValue.j1 kj12 t369 false t365 t366 t367))) = some r := by rw [if_neg (show ¬ (false = true) by decide)] at H; exact H
     clear H
     have H := H1
     clear H1
     have HC74 := Aside0.mk H
     clear H
     go_upto_region 14 with (fail)
     go_cut [144] (fun v144 wc => ∃ (kq : Nat) (x144_73 : Bool), v144 = .bool x144_73 ∧ Aside0 (laws_FnValue.j1 kq t369 x144_73 t365 t366 t367 = some r) ∧ Aside0 (kq ≤ kj12) ∧ Aside0 (wc.heap[gb362]? = some (.cells #[.int .i64 t356, .int .i64 t357, .string t358] 29 (0, 0))) ∧ Aside0 (wc.heap[gb363]? = some (.cells #[.int .i64 t359, .int .i64 t360, .string t361] 29 (0, 0))) ∧ Aside0 (wc.heap[gb368]? = some (.cells #[.int .i64 t365, .int .i64 t366, .string t367] 29 (0, 0))) ∧ Aside0 (wc.heap[gb376]? = some (.cells #[.int .i64 t372, .int .i64 t373, .string t374] 29 (0, 0))) ∧ Aside0 (wc.heap[gb381]? = some (.cells #[.int .i64 t377, .int .i64 t378, .string t379] 29 (0, 0))) ∧ Aside0 (Below w.heap.size w wc))
     case first =>
      have H := HC74.out
      clear HC74
      by_cases c75 : t364 ≤ 0
      ·rw [if_pos c75] at H
       have c75b0 : decide (t364 ≤ 0) = true := decide_eq_true c75
       clear c75
       (first | rw [c75b0] | (simp only [i64_w, i32_w]; rw [c75b0]) | skip)
       replace H := Option.bind_eq_some_iff.mp H
       obtain ⟨t395, A760, H⟩ := H
       replace H : (if t395 ≤ 0 then ((impl_CompareValue.f kj12 t356 t357 t358 t365 t366 t367).bind fun t396 => (if t396 > 0 then (none) else (if t375 > 0 then ((impl_PutValue.f kj12 t372 t373 t374).bind fun t397 => (if 0 ≤ t371 then (if t371 ≤ t375 then (if t375 ≤ (t370.size : Int) then (laws_FnValue.j1 kj12 t369 (t397.toList != (t370.extract (t371 : Int).toNat (t375 : Int).toNat).toList) t365 t366 t367) else (none)) else (none)) else (none))) else (laws_FnValue.j1 kj12 t369 false t365 t366 t367)))) else (if t375 > 0 then ((impl_PutValue.f kj12 t372 t373 t374).bind fun t398 => (if 0 ≤ t371 then (if t371 ≤ t375 then (if t375 ≤ (t370.size : Int) then (laws_FnValue.j1 kj12 t369 (t398.toList != (t370.extract (t371 : Int).toNat (t375 : Int).toNat).toList) t365 t366 t367) else (none)) else (none)) else (none))) else (laws_FnValue.j1 kj12 t369 false t365 t366 t367))) = some r := H
       have A76 := Aside0.mk A760
       clear A760
       by_cases c77 : t395 ≤ 0
       ·rw [if_pos c77] at H
        have c77b0 : decide (t395 ≤ 0) = true := decide_eq_true c77
        clear c77
        replace H := Option.bind_eq_some_iff.mp H
        obtain ⟨t396, A780, H⟩ := H
        replace H : (if t396 > 0 then (none) else (if t375 > 0 then ((impl_PutValue.f kj12 t372 t373 t374).bind fun t397 => (if 0 ≤ t371 then (if t371 ≤ t375 then (if t375 ≤ (t370.size : Int) then (laws_FnValue.j1 kj12 t369 (t397.toList != (t370.extract (t371 : Int).toNat (t375 : Int).toNat).toList) t365 t366 t367) else (none)) else (none)) else (none))) else (laws_FnValue.j1 kj12 t369 false t365 t366 t367))) = some r := H
        have A78 := Aside0.mk A780
        clear A780
        by_cases c79 : t396 > 0
        ·rw [if_pos c79] at H
         have c79b0 : decide (0 < t396) = true := decide_eq_true c79
         clear c79
         exact absurd H (by simp)
        ·rw [if_neg c79] at H
         have c79b0 : decide (0 < t396) = false := decide_eq_false c79
         clear c79
         by_cases c80 : t375 > 0
         ·rw [if_pos c80] at H
          have c80b0 : decide (0 < t375) = true := decide_eq_true c80
          clear c80
          replace H := Option.bind_eq_some_iff.mp H
          obtain ⟨t397, A810, H⟩ := H
          replace H : (if 0 ≤ t371 then (if t371 ≤ t375 then (if t375 ≤ (t370.size : Int) then (laws_FnValue.j1 kj12 t369 (t397.toList != (t370.extract (t371 : Int).toNat (t375 : Int).toNat).toList) t365 t366 t367) else (none)) else (none)) else (none)) = some r := H
          have A81 := Aside0.mk A810
          clear A810
          by_cases c82 : 0 ≤ t371
          ·rw [if_pos c82] at H
           have c82b0 := eq_true c82
           have c82b1 : decide (0 ≤ t371) = true := decide_eq_true c82
           clear c82
           by_cases c83 : t371 ≤ t375
           ·rw [if_pos c83] at H
            have c83b0 := eq_true c83
            have c83b1 : decide (t371 ≤ t375) = true := decide_eq_true c83
            clear c83
            by_cases c84 : t375 ≤ (t370.size : Int)
            ·rw [if_pos c84] at H
             have c84b0 := eq_true c84
             have c84b1 : decide (t375 ≤ (t370.size : Int)) = true := decide_eq_true c84
             clear c84
             have H' := Aside0.mk H
             clear H
             try go_wp2
             replace BK362 := Aside0.mk (blk_drew BK362.out)
             replace BK363 := Aside0.mk (blk_drew BK363.out)
             replace BK368 := Aside0.mk (blk_drew BK368.out)
             replace BK376 := Aside0.mk (blk_drew BK376.out)
             replace BK381 := Aside0.mk (blk_drew BK381.out)
             replace HB := Aside0.mk (below_drew1 HB.out)
             refine start_ (n := 27) (S := fun w' => w'.cell? ⟨gb363, 0, none⟩ = some (.int .i64 t359) ∧ w'.cell? ⟨gb363, 1, none⟩ = some (.int .i64 t360) ∧ w'.cell? ⟨gb363, 2, none⟩ = some (.string t361) ∧ w'.cell? ⟨gb368, 0, none⟩ = some (.int .i64 t365) ∧ w'.cell? ⟨gb368, 1, none⟩ = some (.int .i64 t366) ∧ w'.cell? ⟨gb368, 2, none⟩ = some (.string t367) ∧ w'.cell? ⟨gb362, 0, none⟩ = some (.int .i64 t356) ∧ w'.cell? ⟨gb362, 1, none⟩ = some (.int .i64 t357) ∧ w'.cell? ⟨gb362, 2, none⟩ = some (.string t358) ∧ w'.cell? ⟨gb376, 0, none⟩ = some (.int .i64 t372) ∧ w'.cell? ⟨gb376, 1, none⟩ = some (.int .i64 t373) ∧ w'.cell? ⟨gb376, 2, none⟩ = some (.string t374)) (ds := []) (tf 0 27) (by kernel_rfl) rfl rfl ⟨bc_ BK363 0, bc_ BK363 1, bc_ BK363 2, bc_ BK368 0, bc_ BK368 1, bc_ BK368 2, bc_ BK362 0, bc_ BK362 1, bc_ BK362 2, bc_ BK376 0, bc_ BK376 1, bc_ BK376 2⟩ (fun hHeld => ?_); refine with_tabW laws_FnValue.tab14 laws_FnValue.bits14 (fun HT_ HW_ => ?_)
             generalize wc.drew = w85 at BK362 BK363 BK368 BK376 BK381 HB hHeld ⊢
             iterate 3 (refine pl_ ?_)
             iterate 2 (refine tl_ ?_)
             refine one_ (i := 5) (N := some 123) (tf 6 21) rfl rfl (one_of HT_.out (by kernel_rfl)) (by decide) (fun K hK => ?_)
             refine gs_ Tryd.func14 #[.agg #[.int .i64 t359, .int .i64 t360, .string t361], .agg #[.int .i64 t365, .int .i64 t366, .string t367]] ?_
             with_reducible refine (impl_CompareValue.calls kj12 t359 t360 t361 t365 t366 t367 t395 _ A76.out).mono ?_
             rintro e w86 ⟨rfl, hb⟩
             refine ⟨_, rfl, ?_⟩
             replace BK362 := bkb_ BK362 hb
             replace BK363 := bkb_ BK363 hb
             replace BK368 := bkb_ BK368 hb
             replace BK376 := bkb_ BK376 hb
             replace BK381 := bkb_ BK381 hb
             replace HB := bs_ hb
             (try clear hb)
             (try clear hb2)
             (try clear hk)
             (try clear hi)
             refine hK.out _ _ ⟨bc_ BK363 0, bc_ BK363 1, bc_ BK363 2, bc_ BK368 0, bc_ BK368 1, bc_ BK368 2, bc_ BK362 0, bc_ BK362 1, bc_ BK362 2, bc_ BK376 0, bc_ BK376 1, bc_ BK376 2⟩ (fun hHeld => ?_)
             clear hK K
             refine nm_ ?_
             refine plx_ 6 (tf 7 20) ?_
             iterate 2 (refine pl_ ?_)
             iterate 2 (refine tl_ ?_)
             refine one_ (i := 11) (N := some 129) (tf 12 15) rfl rfl (one_of HT_.out (by kernel_rfl)) (by decide) (fun K hK => ?_)
             refine gs_ Tryd.func14 #[.agg #[.int .i64 t356, .int .i64 t357, .string t358], .agg #[.int .i64 t365, .int .i64 t366, .string t367]] ?_
             with_reducible refine (impl_CompareValue.calls kj12 t356 t357 t358 t365 t366 t367 t396 _ A78.out).mono ?_
             rintro e w87 ⟨rfl, hb⟩
             refine ⟨_, rfl, ?_⟩
             replace BK362 := bkb_ BK362 hb
             replace BK363 := bkb_ BK363 hb
             replace BK368 := bkb_ BK368 hb
             replace BK376 := bkb_ BK376 hb
             replace BK381 := bkb_ BK381 hb
             replace HB := bs_ hb
             (try clear hb)
             (try clear hb2)
             (try clear hk)
             (try clear hi)
             refine hK.out _ _ ⟨bc_ BK363 0, bc_ BK363 1, bc_ BK363 2, bc_ BK368 0, bc_ BK368 1, bc_ BK368 2, bc_ BK362 0, bc_ BK362 1, bc_ BK362 2, bc_ BK376 0, bc_ BK376 1, bc_ BK376 2⟩ (fun hHeld => ?_)
             clear hK K
             refine nm_ ?_
             refine plx_ 12 (tf 13 14) ?_
             iterate 5 (refine pl_ ?_)
             refine plx_ 20 #[true, true, true, true, true, true, true, true, true, true, true, true, true, true, true, true, true, true, false, false, true, false, false, false, false, false, false] ?_
             refine plx_ 21 #[true, true, true, true, true, true, true, true, true, true, true, true, true, true, true, true, true, true, false, false, true, true, false, false, false, false, false] ?_
             refine plx_ 22 #[true, true, true, true, true, true, true, true, true, true, true, true, true, true, true, true, true, true, false, false, true, true, true, false, false, false, false] ?_
             refine plx_ 23 #[true, true, true, true, true, true, true, true, true, true, true, true, true, true, true, true, true, true, false, false, true, true, true, true, false, false, false] ?_
             refine tlx_ 18 #[true, true, true, true, true, true, true, true, true, true, true, true, true, true, true, true, true, true, true, false, true, true, true, true, false, false, false] ?_
             refine one_ (i := 19) (N := some 137) (tf 24 3) rfl rfl (one_of HT_.out (by kernel_rfl)) (by decide) (fun K hK => ?_)
             refine gs_ Tryd.func16 #[.agg #[.int .i64 t372, .int .i64 t373, .string t374]] ?_
             with_reducible refine (impl_PutValue.calls kj12 t372 t373 t374 t397 _ A81.out).mono ?_
             rintro e w88 ⟨rfl, hb⟩
             refine ⟨_, rfl, ?_⟩
             replace BK362 := bkb_ BK362 hb
             replace BK363 := bkb_ BK363 hb
             replace BK368 := bkb_ BK368 hb
             replace BK376 := bkb_ BK376 hb
             replace BK381 := bkb_ BK381 hb
             replace HB := bs_ hb
             (try clear hb)
             (try clear hb2)
             (try clear hk)
             (try clear hi)
             refine hK.out _ _ ⟨bc_ BK363 0, bc_ BK363 1, bc_ BK363 2, bc_ BK368 0, bc_ BK368 1, bc_ BK368 2, bc_ BK362 0, bc_ BK362 1, bc_ BK362 2, bc_ BK376 0, bc_ BK376 1, bc_ BK376 2⟩ (fun hHeld => ?_)
             clear hK K
             refine nm_ ?_
             refine plx_ 24 (tf 25 2) ?_
             iterate 2 (refine pl_ ?_)
             refine done_ (done_of HT_.out (by kernel_rfl)) ?_
             try go_wp2
             go_meet
             case rel => exact ⟨_, ((t397.toList != (t370.extract (t371 : Int).toNat (t375 : Int).toNat).toList)), rs_, H', ⟨by have := HJ12.out; first | omega | exact Nat.le_refl _⟩, ⟨bkx_ BK362.out⟩, ⟨bkx_ BK363.out⟩, ⟨bkx_ BK368.out⟩, ⟨bkx_ BK376.out⟩, ⟨bkx_ BK381.out⟩, ⟨bb_⟩⟩
            ·rw [if_neg c84] at H
             exact absurd H (by simp)
           ·rw [if_neg c83] at H
            exact absurd H (by simp)
          ·rw [if_neg c82] at H
           exact absurd H (by simp)
         ·rw [if_neg c80] at H
          have c80b0 : decide (0 < t375) = false := decide_eq_false c80
          clear c80
          have H' := Aside0.mk H
          clear H
          try go_wp2
          replace BK362 := Aside0.mk (blk_drew BK362.out)
          replace BK363 := Aside0.mk (blk_drew BK363.out)
          replace BK368 := Aside0.mk (blk_drew BK368.out)
          replace BK376 := Aside0.mk (blk_drew BK376.out)
          replace BK381 := Aside0.mk (blk_drew BK381.out)
          replace HB := Aside0.mk (below_drew1 HB.out)
          refine start_ (n := 27) (S := fun w' => w'.cell? ⟨gb363, 0, none⟩ = some (.int .i64 t359) ∧ w'.cell? ⟨gb363, 1, none⟩ = some (.int .i64 t360) ∧ w'.cell? ⟨gb363, 2, none⟩ = some (.string t361) ∧ w'.cell? ⟨gb368, 0, none⟩ = some (.int .i64 t365) ∧ w'.cell? ⟨gb368, 1, none⟩ = some (.int .i64 t366) ∧ w'.cell? ⟨gb368, 2, none⟩ = some (.string t367) ∧ w'.cell? ⟨gb362, 0, none⟩ = some (.int .i64 t356) ∧ w'.cell? ⟨gb362, 1, none⟩ = some (.int .i64 t357) ∧ w'.cell? ⟨gb362, 2, none⟩ = some (.string t358)) (ds := []) (tf 0 27) (by kernel_rfl) rfl rfl ⟨bc_ BK363 0, bc_ BK363 1, bc_ BK363 2, bc_ BK368 0, bc_ BK368 1, bc_ BK368 2, bc_ BK362 0, bc_ BK362 1, bc_ BK362 2⟩ (fun hHeld => ?_); refine with_tabW laws_FnValue.tab14 laws_FnValue.bits14 (fun HT_ HW_ => ?_)
          generalize wc.drew = w89 at BK362 BK363 BK368 BK376 BK381 HB hHeld ⊢
          iterate 3 (refine pl_ ?_)
          iterate 2 (refine tl_ ?_)
          refine one_ (i := 5) (N := some 123) (tf 6 21) rfl rfl (one_of HT_.out (by kernel_rfl)) (by decide) (fun K hK => ?_)
          refine gs_ Tryd.func14 #[.agg #[.int .i64 t359, .int .i64 t360, .string t361], .agg #[.int .i64 t365, .int .i64 t366, .string t367]] ?_
          with_reducible refine (impl_CompareValue.calls kj12 t359 t360 t361 t365 t366 t367 t395 _ A76.out).mono ?_
          rintro e w90 ⟨rfl, hb⟩
          refine ⟨_, rfl, ?_⟩
          replace BK362 := bkb_ BK362 hb
          replace BK363 := bkb_ BK363 hb
          replace BK368 := bkb_ BK368 hb
          replace BK376 := bkb_ BK376 hb
          replace BK381 := bkb_ BK381 hb
          replace HB := bs_ hb
          (try clear hb)
          (try clear hb2)
          (try clear hk)
          (try clear hi)
          refine hK.out _ _ ⟨bc_ BK363 0, bc_ BK363 1, bc_ BK363 2, bc_ BK368 0, bc_ BK368 1, bc_ BK368 2, bc_ BK362 0, bc_ BK362 1, bc_ BK362 2⟩ (fun hHeld => ?_)
          clear hK K
          refine nm_ ?_
          refine plx_ 6 (tf 7 20) ?_
          iterate 2 (refine pl_ ?_)
          iterate 2 (refine tl_ ?_)
          refine one_ (i := 11) (N := some 129) (tf 12 15) rfl rfl (one_of HT_.out (by kernel_rfl)) (by decide) (fun K hK => ?_)
          refine gs_ Tryd.func14 #[.agg #[.int .i64 t356, .int .i64 t357, .string t358], .agg #[.int .i64 t365, .int .i64 t366, .string t367]] ?_
          with_reducible refine (impl_CompareValue.calls kj12 t356 t357 t358 t365 t366 t367 t396 _ A78.out).mono ?_
          rintro e w91 ⟨rfl, hb⟩
          refine ⟨_, rfl, ?_⟩
          replace BK362 := bkb_ BK362 hb
          replace BK363 := bkb_ BK363 hb
          replace BK368 := bkb_ BK368 hb
          replace BK376 := bkb_ BK376 hb
          replace BK381 := bkb_ BK381 hb
          replace HB := bs_ hb
          (try clear hb)
          (try clear hb2)
          (try clear hk)
          (try clear hi)
          refine hK.out _ _ ⟨bc_ BK363 0, bc_ BK363 1, bc_ BK363 2, bc_ BK368 0, bc_ BK368 1, bc_ BK368 2, bc_ BK362 0, bc_ BK362 1, bc_ BK362 2⟩ (fun hHeld => ?_)
          clear hK K
          refine nm_ ?_
          refine plx_ 12 (tf 13 14) ?_
          iterate 5 (refine pl_ ?_)
          iterate 7 (refine pd_ ?_)
          iterate 2 (refine pl_ ?_)
          refine done_ (done_of HT_.out (by kernel_rfl)) ?_
          try go_wp2
          go_meet
          case rel => exact ⟨_, (false), rs_, H', ⟨by have := HJ12.out; first | omega | exact Nat.le_refl _⟩, ⟨bkx_ BK362.out⟩, ⟨bkx_ BK363.out⟩, ⟨bkx_ BK368.out⟩, ⟨bkx_ BK376.out⟩, ⟨bkx_ BK381.out⟩, ⟨bb_⟩⟩
       ·rw [if_neg c77] at H
        have c77b0 : decide (t395 ≤ 0) = false := decide_eq_false c77
        clear c77
        by_cases c92 : t375 > 0
        ·rw [if_pos c92] at H
         have c92b0 : decide (0 < t375) = true := decide_eq_true c92
         clear c92
         replace H := Option.bind_eq_some_iff.mp H
         obtain ⟨t398, A930, H⟩ := H
         replace H : (if 0 ≤ t371 then (if t371 ≤ t375 then (if t375 ≤ (t370.size : Int) then (laws_FnValue.j1 kj12 t369 (t398.toList != (t370.extract (t371 : Int).toNat (t375 : Int).toNat).toList) t365 t366 t367) else (none)) else (none)) else (none)) = some r := H
         have A93 := Aside0.mk A930
         clear A930
         by_cases c94 : 0 ≤ t371
         ·rw [if_pos c94] at H
          have c94b0 := eq_true c94
          have c94b1 : decide (0 ≤ t371) = true := decide_eq_true c94
          clear c94
          by_cases c95 : t371 ≤ t375
          ·rw [if_pos c95] at H
           have c95b0 := eq_true c95
           have c95b1 : decide (t371 ≤ t375) = true := decide_eq_true c95
           clear c95
           by_cases c96 : t375 ≤ (t370.size : Int)
           ·rw [if_pos c96] at H
            have c96b0 := eq_true c96
            have c96b1 : decide (t375 ≤ (t370.size : Int)) = true := decide_eq_true c96
            clear c96
            have H' := Aside0.mk H
            clear H
            try go_wp2
            replace BK362 := Aside0.mk (blk_drew BK362.out)
            replace BK363 := Aside0.mk (blk_drew BK363.out)
            replace BK368 := Aside0.mk (blk_drew BK368.out)
            replace BK376 := Aside0.mk (blk_drew BK376.out)
            replace BK381 := Aside0.mk (blk_drew BK381.out)
            replace HB := Aside0.mk (below_drew1 HB.out)
            refine start_ (n := 27) (S := fun w' => w'.cell? ⟨gb363, 0, none⟩ = some (.int .i64 t359) ∧ w'.cell? ⟨gb363, 1, none⟩ = some (.int .i64 t360) ∧ w'.cell? ⟨gb363, 2, none⟩ = some (.string t361) ∧ w'.cell? ⟨gb368, 0, none⟩ = some (.int .i64 t365) ∧ w'.cell? ⟨gb368, 1, none⟩ = some (.int .i64 t366) ∧ w'.cell? ⟨gb368, 2, none⟩ = some (.string t367) ∧ w'.cell? ⟨gb376, 0, none⟩ = some (.int .i64 t372) ∧ w'.cell? ⟨gb376, 1, none⟩ = some (.int .i64 t373) ∧ w'.cell? ⟨gb376, 2, none⟩ = some (.string t374)) (ds := []) (tf 0 27) (by kernel_rfl) rfl rfl ⟨bc_ BK363 0, bc_ BK363 1, bc_ BK363 2, bc_ BK368 0, bc_ BK368 1, bc_ BK368 2, bc_ BK376 0, bc_ BK376 1, bc_ BK376 2⟩ (fun hHeld => ?_); refine with_tabW laws_FnValue.tab14 laws_FnValue.bits14 (fun HT_ HW_ => ?_)
            generalize wc.drew = w97 at BK362 BK363 BK368 BK376 BK381 HB hHeld ⊢
            iterate 3 (refine pl_ ?_)
            iterate 2 (refine tl_ ?_)
            refine one_ (i := 5) (N := some 123) (tf 6 21) rfl rfl (one_of HT_.out (by kernel_rfl)) (by decide) (fun K hK => ?_)
            refine gs_ Tryd.func14 #[.agg #[.int .i64 t359, .int .i64 t360, .string t361], .agg #[.int .i64 t365, .int .i64 t366, .string t367]] ?_
            with_reducible refine (impl_CompareValue.calls kj12 t359 t360 t361 t365 t366 t367 t395 _ A76.out).mono ?_
            rintro e w98 ⟨rfl, hb⟩
            refine ⟨_, rfl, ?_⟩
            replace BK362 := bkb_ BK362 hb
            replace BK363 := bkb_ BK363 hb
            replace BK368 := bkb_ BK368 hb
            replace BK376 := bkb_ BK376 hb
            replace BK381 := bkb_ BK381 hb
            replace HB := bs_ hb
            (try clear hb)
            (try clear hb2)
            (try clear hk)
            (try clear hi)
            refine hK.out _ _ ⟨bc_ BK363 0, bc_ BK363 1, bc_ BK363 2, bc_ BK368 0, bc_ BK368 1, bc_ BK368 2, bc_ BK376 0, bc_ BK376 1, bc_ BK376 2⟩ (fun hHeld => ?_)
            clear hK K
            refine nm_ ?_
            refine plx_ 6 (tf 7 20) ?_
            iterate 2 (refine pl_ ?_)
            iterate 4 (refine pd_ ?_)
            iterate 5 (refine pl_ ?_)
            refine plx_ 20 #[true, true, true, true, true, true, true, true, true, true, true, true, true, true, true, true, true, true, false, false, true, false, false, false, false, false, false] ?_
            refine plx_ 21 #[true, true, true, true, true, true, true, true, true, true, true, true, true, true, true, true, true, true, false, false, true, true, false, false, false, false, false] ?_
            refine plx_ 22 #[true, true, true, true, true, true, true, true, true, true, true, true, true, true, true, true, true, true, false, false, true, true, true, false, false, false, false] ?_
            refine plx_ 23 #[true, true, true, true, true, true, true, true, true, true, true, true, true, true, true, true, true, true, false, false, true, true, true, true, false, false, false] ?_
            refine tlx_ 18 #[true, true, true, true, true, true, true, true, true, true, true, true, true, true, true, true, true, true, true, false, true, true, true, true, false, false, false] ?_
            refine one_ (i := 19) (N := some 137) (tf 24 3) rfl rfl (one_of HT_.out (by kernel_rfl)) (by decide) (fun K hK => ?_)
            refine gs_ Tryd.func16 #[.agg #[.int .i64 t372, .int .i64 t373, .string t374]] ?_
            with_reducible refine (impl_PutValue.calls kj12 t372 t373 t374 t398 _ A93.out).mono ?_
            rintro e w99 ⟨rfl, hb⟩
            refine ⟨_, rfl, ?_⟩
            replace BK362 := bkb_ BK362 hb
            replace BK363 := bkb_ BK363 hb
            replace BK368 := bkb_ BK368 hb
            replace BK376 := bkb_ BK376 hb
            replace BK381 := bkb_ BK381 hb
            replace HB := bs_ hb
            (try clear hb)
            (try clear hb2)
            (try clear hk)
            (try clear hi)
            refine hK.out _ _ ⟨bc_ BK363 0, bc_ BK363 1, bc_ BK363 2, bc_ BK368 0, bc_ BK368 1, bc_ BK368 2, bc_ BK376 0, bc_ BK376 1, bc_ BK376 2⟩ (fun hHeld => ?_)
            clear hK K
            refine nm_ ?_
            refine plx_ 24 (tf 25 2) ?_
            iterate 2 (refine pl_ ?_)
            refine done_ (done_of HT_.out (by kernel_rfl)) ?_
            try go_wp2
            go_meet
            case rel => exact ⟨_, ((t398.toList != (t370.extract (t371 : Int).toNat (t375 : Int).toNat).toList)), rs_, H', ⟨by have := HJ12.out; first | omega | exact Nat.le_refl _⟩, ⟨bkx_ BK362.out⟩, ⟨bkx_ BK363.out⟩, ⟨bkx_ BK368.out⟩, ⟨bkx_ BK376.out⟩, ⟨bkx_ BK381.out⟩, ⟨bb_⟩⟩
           ·rw [if_neg c96] at H
            exact absurd H (by simp)
          ·rw [if_neg c95] at H
           exact absurd H (by simp)
         ·rw [if_neg c94] at H
          exact absurd H (by simp)
        ·rw [if_neg c92] at H
         have c92b0 : decide (0 < t375) = false := decide_eq_false c92
         clear c92
         have H' := Aside0.mk H
         clear H
         try go_wp2
         replace BK362 := Aside0.mk (blk_drew BK362.out)
         replace BK363 := Aside0.mk (blk_drew BK363.out)
         replace BK368 := Aside0.mk (blk_drew BK368.out)
         replace BK376 := Aside0.mk (blk_drew BK376.out)
         replace BK381 := Aside0.mk (blk_drew BK381.out)
         replace HB := Aside0.mk (below_drew1 HB.out)
         refine start_ (n := 27) (S := fun w' => w'.cell? ⟨gb363, 0, none⟩ = some (.int .i64 t359) ∧ w'.cell? ⟨gb363, 1, none⟩ = some (.int .i64 t360) ∧ w'.cell? ⟨gb363, 2, none⟩ = some (.string t361) ∧ w'.cell? ⟨gb368, 0, none⟩ = some (.int .i64 t365) ∧ w'.cell? ⟨gb368, 1, none⟩ = some (.int .i64 t366) ∧ w'.cell? ⟨gb368, 2, none⟩ = some (.string t367)) (ds := []) (tf 0 27) (by kernel_rfl) rfl rfl ⟨bc_ BK363 0, bc_ BK363 1, bc_ BK363 2, bc_ BK368 0, bc_ BK368 1, bc_ BK368 2⟩ (fun hHeld => ?_); refine with_tabW laws_FnValue.tab14 laws_FnValue.bits14 (fun HT_ HW_ => ?_)
         generalize wc.drew = w100 at BK362 BK363 BK368 BK376 BK381 HB hHeld ⊢
         iterate 3 (refine pl_ ?_)
         iterate 2 (refine tl_ ?_)
         refine one_ (i := 5) (N := some 123) (tf 6 21) rfl rfl (one_of HT_.out (by kernel_rfl)) (by decide) (fun K hK => ?_)
         refine gs_ Tryd.func14 #[.agg #[.int .i64 t359, .int .i64 t360, .string t361], .agg #[.int .i64 t365, .int .i64 t366, .string t367]] ?_
         with_reducible refine (impl_CompareValue.calls kj12 t359 t360 t361 t365 t366 t367 t395 _ A76.out).mono ?_
         rintro e w101 ⟨rfl, hb⟩
         refine ⟨_, rfl, ?_⟩
         replace BK362 := bkb_ BK362 hb
         replace BK363 := bkb_ BK363 hb
         replace BK368 := bkb_ BK368 hb
         replace BK376 := bkb_ BK376 hb
         replace BK381 := bkb_ BK381 hb
         replace HB := bs_ hb
         (try clear hb)
         (try clear hb2)
         (try clear hk)
         (try clear hi)
         refine hK.out _ _ ⟨bc_ BK363 0, bc_ BK363 1, bc_ BK363 2, bc_ BK368 0, bc_ BK368 1, bc_ BK368 2⟩ (fun hHeld => ?_)
         clear hK K
         refine nm_ ?_
         refine plx_ 6 (tf 7 20) ?_
         iterate 2 (refine pl_ ?_)
         iterate 4 (refine pd_ ?_)
         iterate 5 (refine pl_ ?_)
         iterate 7 (refine pd_ ?_)
         iterate 2 (refine pl_ ?_)
         refine done_ (done_of HT_.out (by kernel_rfl)) ?_
         try go_wp2
         go_meet
         case rel => exact ⟨_, (false), rs_, H', ⟨by have := HJ12.out; first | omega | exact Nat.le_refl _⟩, ⟨bkx_ BK362.out⟩, ⟨bkx_ BK363.out⟩, ⟨bkx_ BK368.out⟩, ⟨bkx_ BK376.out⟩, ⟨bkx_ BK381.out⟩, ⟨bb_⟩⟩
      ·rw [if_neg c75] at H
       have c75b0 : decide (t364 ≤ 0) = false := decide_eq_false c75
       clear c75
       (first | rw [c75b0] | (simp only [i64_w, i32_w]; rw [c75b0]) | skip)
       by_cases c102 : t375 > 0
       ·rw [if_pos c102] at H
        have c102b0 : decide (0 < t375) = true := decide_eq_true c102
        clear c102
        replace H := Option.bind_eq_some_iff.mp H
        obtain ⟨t399, A1030, H⟩ := H
        replace H : (if 0 ≤ t371 then (if t371 ≤ t375 then (if t375 ≤ (t370.size : Int) then (laws_FnValue.j1 kj12 t369 (t399.toList != (t370.extract (t371 : Int).toNat (t375 : Int).toNat).toList) t365 t366 t367) else (none)) else (none)) else (none)) = some r := H
        have A103 := Aside0.mk A1030
        clear A1030
        by_cases c104 : 0 ≤ t371
        ·rw [if_pos c104] at H
         have c104b0 := eq_true c104
         have c104b1 : decide (0 ≤ t371) = true := decide_eq_true c104
         clear c104
         by_cases c105 : t371 ≤ t375
         ·rw [if_pos c105] at H
          have c105b0 := eq_true c105
          have c105b1 : decide (t371 ≤ t375) = true := decide_eq_true c105
          clear c105
          by_cases c106 : t375 ≤ (t370.size : Int)
          ·rw [if_pos c106] at H
           have c106b0 := eq_true c106
           have c106b1 : decide (t375 ≤ (t370.size : Int)) = true := decide_eq_true c106
           clear c106
           have H' := Aside0.mk H
           clear H
           try go_wp2
           replace BK362 := Aside0.mk (blk_drew BK362.out)
           replace BK363 := Aside0.mk (blk_drew BK363.out)
           replace BK368 := Aside0.mk (blk_drew BK368.out)
           replace BK376 := Aside0.mk (blk_drew BK376.out)
           replace BK381 := Aside0.mk (blk_drew BK381.out)
           replace HB := Aside0.mk (below_drew1 HB.out)
           refine start_ (n := 27) (S := fun w' => w'.cell? ⟨gb376, 0, none⟩ = some (.int .i64 t372) ∧ w'.cell? ⟨gb376, 1, none⟩ = some (.int .i64 t373) ∧ w'.cell? ⟨gb376, 2, none⟩ = some (.string t374)) (ds := []) (tf 0 27) (by kernel_rfl) rfl rfl ⟨bc_ BK376 0, bc_ BK376 1, bc_ BK376 2⟩ (fun hHeld => ?_); refine with_tabW laws_FnValue.tab14 laws_FnValue.bits14 (fun HT_ HW_ => ?_)
           generalize wc.drew = w107 at BK362 BK363 BK368 BK376 BK381 HB hHeld ⊢
           iterate 3 (refine pl_ ?_)
           iterate 4 (refine pd_ ?_)
           iterate 2 (refine pl_ ?_)
           iterate 4 (refine pd_ ?_)
           iterate 5 (refine pl_ ?_)
           refine plx_ 20 #[true, true, true, true, true, true, true, true, true, true, true, true, true, true, true, true, true, true, false, false, true, false, false, false, false, false, false] ?_
           refine plx_ 21 #[true, true, true, true, true, true, true, true, true, true, true, true, true, true, true, true, true, true, false, false, true, true, false, false, false, false, false] ?_
           refine plx_ 22 #[true, true, true, true, true, true, true, true, true, true, true, true, true, true, true, true, true, true, false, false, true, true, true, false, false, false, false] ?_
           refine plx_ 23 #[true, true, true, true, true, true, true, true, true, true, true, true, true, true, true, true, true, true, false, false, true, true, true, true, false, false, false] ?_
           refine tlx_ 18 #[true, true, true, true, true, true, true, true, true, true, true, true, true, true, true, true, true, true, true, false, true, true, true, true, false, false, false] ?_
           refine one_ (i := 19) (N := some 137) (tf 24 3) rfl rfl (one_of HT_.out (by kernel_rfl)) (by decide) (fun K hK => ?_)
           refine gs_ Tryd.func16 #[.agg #[.int .i64 t372, .int .i64 t373, .string t374]] ?_
           with_reducible refine (impl_PutValue.calls kj12 t372 t373 t374 t399 _ A103.out).mono ?_
           rintro e w108 ⟨rfl, hb⟩
           refine ⟨_, rfl, ?_⟩
           replace BK362 := bkb_ BK362 hb
           replace BK363 := bkb_ BK363 hb
           replace BK368 := bkb_ BK368 hb
           replace BK376 := bkb_ BK376 hb
           replace BK381 := bkb_ BK381 hb
           replace HB := bs_ hb
           (try clear hb)
           (try clear hb2)
           (try clear hk)
           (try clear hi)
           refine hK.out _ _ ⟨bc_ BK376 0, bc_ BK376 1, bc_ BK376 2⟩ (fun hHeld => ?_)
           clear hK K
           refine nm_ ?_
           refine plx_ 24 (tf 25 2) ?_
           iterate 2 (refine pl_ ?_)
           refine done_ (done_of HT_.out (by kernel_rfl)) ?_
           try go_wp2
           go_meet
           case rel => exact ⟨_, ((t399.toList != (t370.extract (t371 : Int).toNat (t375 : Int).toNat).toList)), rs_, H', ⟨by have := HJ12.out; first | omega | exact Nat.le_refl _⟩, ⟨bkx_ BK362.out⟩, ⟨bkx_ BK363.out⟩, ⟨bkx_ BK368.out⟩, ⟨bkx_ BK376.out⟩, ⟨bkx_ BK381.out⟩, ⟨bb_⟩⟩
          ·rw [if_neg c106] at H
           exact absurd H (by simp)
         ·rw [if_neg c105] at H
          exact absurd H (by simp)
        ·rw [if_neg c104] at H
         exact absurd H (by simp)
       ·rw [if_neg c102] at H
        have c102b0 : decide (0 < t375) = false := decide_eq_false c102
        clear c102
        have H' := Aside0.mk H
        clear H
        try go_wp2
        replace BK362 := Aside0.mk (blk_drew BK362.out)
        replace BK363 := Aside0.mk (blk_drew BK363.out)
        replace BK368 := Aside0.mk (blk_drew BK368.out)
        replace BK376 := Aside0.mk (blk_drew BK376.out)
        replace BK381 := Aside0.mk (blk_drew BK381.out)
        replace HB := Aside0.mk (below_drew1 HB.out)
        refine start_ (n := 27) (S := fun w' => True) (ds := []) (tf 0 27) (by kernel_rfl) rfl rfl trivial (fun hHeld => ?_); refine with_tabW laws_FnValue.tab14 laws_FnValue.bits14 (fun HT_ HW_ => ?_)
        generalize wc.drew = w109 at BK362 BK363 BK368 BK376 BK381 HB hHeld ⊢
        iterate 3 (refine pl_ ?_)
        iterate 4 (refine pd_ ?_)
        iterate 2 (refine pl_ ?_)
        iterate 4 (refine pd_ ?_)
        iterate 5 (refine pl_ ?_)
        iterate 7 (refine pd_ ?_)
        iterate 2 (refine pl_ ?_)
        refine done_ (done_of HT_.out (by kernel_rfl)) ?_
        try go_wp2
        go_meet
        case rel => exact ⟨_, (false), rs_, H', ⟨by have := HJ12.out; first | omega | exact Nat.le_refl _⟩, ⟨bkx_ BK362.out⟩, ⟨bkx_ BK363.out⟩, ⟨bkx_ BK368.out⟩, ⟨bkx_ BK376.out⟩, ⟨bkx_ BK381.out⟩, ⟨bb_⟩⟩
     case rest =>
      clear HC74
      try clear c1
      try clear p2
      try clear c7
      try clear c10
      try clear c16
      try clear c75
      try clear c75b0
      try clear c102
      try clear c102b0
      try clear c104
      try clear c104b0
      try clear c104b1
      try clear c105
      try clear c105b0
      try clear c105b1
      try clear c106
      try clear c106b0
      try clear c106b1
      obtain ⟨kq, x144_73, rfl, HA, HJ73, BK362, BK363, BK368, BK376, BK381, HB⟩ := hcut
      cases kq with
      | zero => exact absurd HA.out (by simp [laws_FnValue.j1])
      | succ kj73 =>
       have H := HA.out
       clear HA
       simp only [laws_FnValue.j1] at H
       by_cases c110 : x144_73 = true
       ·subst c110
        have H1 : (none) = some r := by rw [if_pos rfl] at H; exact H
        clear H
        have H := H1
        clear H1
        exact absurd H (by simp)
       ·replace c110 := Bool.eq_false_iff.mpr c110
        subst c110
        have H1 : (if t369.toList = ([] : List UInt8) then ((spec_ValueOk.f t365 t366 t367).bind fun t400 => (some (!t400))) else (if 1 + t369.size ≤ 9223372036854775807 then (if ((⟨#[97]⟩ : ByteArray) ++ t369).size + 1 ≤ 9223372036854775807 then ((impl_GetValue.f (((⟨#[97]⟩ : ByteArray) ++ t369) ++ (⟨#[98]⟩ : ByteArray)) 1).bind fun bt401 => (if (bt401.1 == t365 && (bt401.2.1 == t366 && (bt401.2.2.1.toList == t367.toList))) = true then (some (bt401.2.2.2 == (1 + (t369.size : Int)))) else (none))) else (none)) else (none))) = some r := by rw [if_neg (show ¬ (false = true) by decide)] at H; exact H
        clear H
        have H := H1
        clear H1
        by_cases c111 : t369.toList = ([] : List UInt8)
        ·rw [if_pos c111] at H
         have c111b0 : (t369.toList == ([] : List UInt8)) = true := beq_iff_eq.mpr c111
         have c111b1 : (t369.toList != ([] : List UInt8)) = false := bne_eq_false_iff_eq.mpr c111
         clear c111
         replace H := Option.bind_eq_some_iff.mp H
         obtain ⟨t400, A1120, H⟩ := H
         replace H : (some (!t400)) = some r := H
         have A112 := Aside0.mk A1120
         clear A1120
         obtain rfl := Option.some.inj H
         have hnb113 := NB368_362.out
         have hnc113 := NB362_368.out
         have hnb114 := NB368_363.out
         have hnc114 := NB363_368.out
         have hnb115 := NB368_376.out
         have hnc115 := NB376_368.out
         have hnb116 := NB368_381.out
         have hnc116 := NB381_368.out
         obtain ⟨hcz117_0, hcz117_1, hcz117_2, hfz117_0, hfz117_1, hfz117_2⟩ := b3_ BK368
         go_wp2_with (first | ((with_reducible refine gate_callee (f := 25) rfl ?_); refine gsL_ (some 148) Tryd.func25 #[.agg #[.int .i64 t365, .int .i64 t366, .string t367]] ?_; (with_reducible refine (spec_ValueOk.calls t365 t366 t367 t400 _ A112.out).mono ?_); rintro e w118 ⟨rfl, hb⟩; refine ⟨_, rfl, ?_⟩; replace BK362 := bkb_ BK362 hb; replace BK363 := bkb_ BK363 hb; replace BK368 := bkb_ BK368 hb; replace BK376 := bkb_ BK376 hb; replace BK381 := bkb_ BK381 hb; replace HB := bs_ hb; (try clear hb); (try clear hb2); (try clear hk); (try clear hi)))
         go_ret
         exact ⟨er_, bb_⟩
        ·rw [if_neg c111] at H
         have c111b0 : (t369.toList == ([] : List UInt8)) = false := beq_eq_false_iff_ne.mpr c111
         have c111b1 : (t369.toList != ([] : List UInt8)) = true := bne_iff_ne.mpr c111
         by_cases c119 : 1 + t369.size ≤ 9223372036854775807
         ·rw [if_pos c119] at H
          have c119b0 := eq_true c119
          have c119b1 : decide (1 + t369.size ≤ 9223372036854775807) = true := decide_eq_true c119
          try have c119b2 : (9223372036854775807 < 1 + t369.size) = False := eq_false (Nat.not_lt.2 c119)
          by_cases c120 : ((⟨#[97]⟩ : ByteArray) ++ t369).size + 1 ≤ 9223372036854775807
          ·rw [if_pos c120] at H
           have c120b0 := eq_true c120
           have c120b1 : decide (((⟨#[97]⟩ : ByteArray) ++ t369).size + 1 ≤ 9223372036854775807) = true := decide_eq_true c120
           try have c120b2 : (9223372036854775807 < ((⟨#[97]⟩ : ByteArray) ++ t369).size + 1) = False := eq_false (Nat.not_lt.2 c120)
           (try (have c120b0z := c120b0; simp only [ByteArray.size_append] at c120b0z))
           (try (have c120b1z := c120b1; simp only [ByteArray.size_append] at c120b1z))
           (try (have c120b2z := c120b2; simp only [ByteArray.size_append] at c120b2z))
           (try (have c120b2y : (9223372036854775807 < 1 + t369.size + 1) = False := by (apply eq_false; have hq_ := c120; simp only [ByteArray.size_append, ByteArray.size_extract] at hq_; have hl0_ : (⟨#[97]⟩ : ByteArray).size = 1 := rfl; omega)))
           replace H := Option.bind_eq_some_iff.mp H
           obtain ⟨⟨t401, t402, t403, t404⟩, A1210, H⟩ := H
           replace H : (if (t401 == t365 && (t402 == t366 && (t403.toList == t367.toList))) = true then (some (t404 == (1 + (t369.size : Int)))) else (none)) = some r := H
           have A121 := Aside0.mk A1210
           clear A1210
           by_cases c122 : (t401 == t365 && (t402 == t366 && (t403.toList == t367.toList))) = true
           ·rw [if_pos c122] at H
            have c122b0 : (t401 == t365 && (t402 == t366 && (t403.toList == t367.toList))) = true := c122
            (try (have c122b1 : decide (t401 = t365 && (t402 == t366 && (t403.toList == t367.toList))) = true := by simpa using c122))
            (try (have c122b2 : (t401 == t365 && (t402 == t366 && (t403.toList == t367.toList))) = true := by simpa using c122))
            clear c122
            obtain rfl := Option.some.inj H
            go_wp2_with (first | ((with_reducible refine gate_callee (f := 18) rfl ?_); refine gsL_ (some 154) Tryd.func18 #[.string (((⟨#[97]⟩ : ByteArray) ++ t369) ++ (⟨#[98]⟩ : ByteArray)), .int .i64 1] ?_; (with_reducible refine (impl_GetValue.calls (((⟨#[97]⟩ : ByteArray) ++ t369) ++ (⟨#[98]⟩ : ByteArray)) 1 t401 t402 t403 t404 _ A121.out).mono ?_); rintro e w123 ⟨rfl, hb⟩; refine ⟨_, rfl, ?_⟩; replace BK362 := bkb_ BK362 hb; replace BK363 := bkb_ BK363 hb; replace BK368 := bkb_ BK368 hb; replace BK376 := bkb_ BK376 hb; replace BK381 := bkb_ BK381 hb; replace HB := bs_ hb; (try clear hb); (try clear hb2); (try clear hk); (try clear hi)) | ((with_reducible refine gate_dst (N := 16) rfl ?_); (try (refine gate_guard (by rfl) ?_; dsimp only)); refine bx_ 16 #[.int .i64 0, .int .i64 0, .string (⟨#[]⟩ : ByteArray)] 29 ?_; intro gb405 hg w124 hbox hb; have BK405 := Aside0.mk (hbox); have GW405 := gw_ hg; have GE405 := gw_ hg; have NB362_405 := nl_ hg BK362; have NB405_362 := ng_ hg BK362; have NB363_405 := nl_ hg BK363; have NB405_363 := ng_ hg BK363; have NB368_405 := nl_ hg BK368; have NB405_368 := ng_ hg BK368; have NB376_405 := nl_ hg BK376; have NB405_376 := ng_ hg BK376; have NB381_405 := nl_ hg BK381; have NB405_381 := ng_ hg BK381; replace BK362 := bkb_ BK362 hb; replace BK363 := bkb_ BK363 hb; replace BK368 := bkb_ BK368 hb; replace BK376 := bkb_ BK376 hb; replace BK381 := bkb_ BK381 hb; replace HB := bs_ hb; clear hb hbox hg; have hnb125 := NB405_362.out; have hnc125 := NB362_405.out; have hnb126 := NB405_363.out; have hnc126 := NB363_405.out; have hnb127 := NB405_368.out; have hnc127 := NB368_405.out; have hnb128 := NB405_376.out; have hnc128 := NB376_405.out; have hnb129 := NB405_381.out; have hnc129 := NB381_405.out; obtain ⟨hcz130_0, hcz130_1, hcz130_2, hfz130_0, hfz130_1, hfz130_2⟩ := b3_ BK405; have hnb131 := NB368_362.out; have hnc131 := NB362_368.out; have hnb132 := NB368_363.out; have hnc132 := NB363_368.out; have hnb133 := NB368_376.out; have hnc133 := NB376_368.out; have hnb134 := NB368_381.out; have hnc134 := NB381_368.out; obtain ⟨hcz135_0, hcz135_1, hcz135_2, hfz135_0, hfz135_1, hfz135_2⟩ := b3_ BK368))
            go_ret
            exact ⟨er_, bb_⟩
           ·rw [if_neg c122] at H
            exact absurd H (by simp)
          ·rw [if_neg c120] at H
           exact absurd H (by simp)
         ·rw [if_neg c119] at H
          exact absurd H (by simp)

end Go.Proofs.YthgdmdabdlgliaaDoor.PFnValue
