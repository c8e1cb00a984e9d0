-- WRITTEN BY xprint.py, a program of this session over the kit's printer: by nobody's hand
-- PRESSED TWICE
import Derived.Test.YthgdmdabdlgliaaPress
import Derived.Test.YthgdmdabdlgliaaPFnReckonx0
import Derived.Test.YthgdmdabdlgliaaPFnReckonx1
import Derived.Test.YthgdmdabdlgliaaPFnReckonx2
import Derived.Test.YthgdmdabdlgliaaPFnReckonx3
import Derived.Test.YthgdmdabdlgliaaPFnReckonx4
import Derived.Test.YthgdmdabdlgliaaPFnReckonx6
import Derived.Test.YthgdmdabdlgliaaPFnReckonx7
import Derived.Test.YthgdmdabdlgliaaPFnReckonx9
import Derived.Test.YthgdmdabdlgliaaPFnReckonx10
import Derived.Test.YthgdmdabdlgliaaPFnReckonx12
import Derived.Test.YthgdmdabdlgliaaPFnReckonx13
import Derived.Test.YthgdmdabdlgliaaPFnReckonx14
import Derived.Test.YthgdmdabdlgliaaPFnReckonx15
import Derived.Test.YthgdmdabdlgliaaPFnReckonx16
import Derived.Test.YthgdmdabdlgliaaPFnReckonx17
namespace Go.Proofs.Ythgdmdabdlgliaa.PFnReckon
open Go.RowKit Go.Proofs.YthgdmdabdlgliaaW.PrintWords Go.Proofs.YthgdmdabdlgliaaW.PrintLast Go.Proofs.YthgdmdabdlgliaaW.PrintMore
set_option linter.unusedVariables false
set_option linter.unusedSimpArgs false

attribute [local go_sem high] eqA25
theorem laws_FnReckon.calls (k : Nat) (A0 : Option Addr) (c0 : Nat) (l0 : List Int) (r : Bool) (w : World) (hr0 : Kd.C (Kd.int .u8) w A0 l0.length l0) (hc0 : l0.length ≤ c0) (h : laws_FnReckon.f k l0 = some r) (hM : MaxLenIn w := by first | assumption | exact MaxLenIn.drewN (by assumption) _ | exact MaxLenIn.later (by assumption) (by assumption) | exact MaxLenIn.drewN (MaxLenIn.later (by assumption) (by assumption)) _ | exact MaxLenIn.later (by assumption) ⟨by repeat (first | exact Aside0.out (by assumption) | apply below_alloc | apply pw_below_drewN | apply below_drew1 | refine below_set ?_ (Aside0.out (by assumption)))⟩) :
  Calls Try.prog 3 #[.slice A0 l0.length c0] w fun e w' => e = .returned (.bool r) ∧ Below w.heap.size w w' := by
 exact laws_FnReckon.calls_ (laws_FnReckon.rest69 (laws_FnReckon.rest87 (laws_FnReckon.rest115 (laws_FnReckon.rest141 laws_FnReckon.rest164)))) k A0 c0 l0 r w hr0 hc0 h hM
end Go.Proofs.Ythgdmdabdlgliaa.PFnReckon
