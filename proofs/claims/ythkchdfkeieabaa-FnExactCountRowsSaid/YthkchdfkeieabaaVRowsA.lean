/- FnExactCountRows: what both sides compute at given companies, told by the kernel's own computation. Conditions: those that stand at each theorem. -/
import Derived.Test.YthkchdfkeieabaaOpn
import Derived.Test.YthkchdfkeieabaaQGrx13
import Derived.Test.YthkchdfkeieabaaVRows0
namespace Go.Proofs.Ythkchdfkeieabaa.fnExactCountRows
open Go.RowKit Go.Proofs.YthkchdfkeieabaaW.PrintWords Go.Proofs.YthkchdfkeieabaaW.PrintLast Go.Proofs.YthkchdfkeieabaaW.PrintMore Go.Proofs.Ythkchdfkeieabaa.QGr
set_option linter.unusedVariables false
set_option linter.unusedSimpArgs false
set_option maxRecDepth 100000

set_option maxHeartbeats 8000000 in
def c11_D : List Int := [-1, 1, 1, -1, -1, -1, -1, 0]
theorem c11_f : frG (gT 2 1) 1000 (grN 2) [7] = some c11_D := by decide +kernel
theorem c11_s : spec_CountRows.f 2500 1 1 = some (0, true) := by decide +kernel
theorem c11_i : impl_CountRows.f 1001 1 1 = some (0, true) := implRows_no (co := 1) (m := 1) (D := c11_D) (q := 7) (by decide) (by decide) (by decide +kernel) c11_f (by decide +kernel) (by decide +kernel)
set_option maxHeartbeats 8000000 in
def c12_D : List Int := [1, 1, 1, -1, -1, 2, 2, 0]
set_option maxHeartbeats 8000000 in
def c12_W : List Int := [1, 1, 1, 0, 0, 1, 1, 1]
theorem c12_f : frG (gT 2 2) 1000 (grN 2) [7] = some c12_D := by decide +kernel
theorem c12_k : grOk (grE (gT 2 2)) (grN 2) 0 c12_D = true := by decide +kernel
theorem c12_w : certW (grE (gT 2 2)) (2 ^ 3) c12_D c12_W = true := by decide +kernel
theorem c12_s : spec_CountRows.f 2500 1 2 = some (1, true) := by decide +kernel
theorem c12_i : impl_CountRows.f 1001 1 2 = some (1, true) := implRows_yes (co := 1) (m := 2) (D := c12_D) (W := c12_W) (q := 7) (by decide) (by decide) (by decide +kernel) (by decide +kernel) c12_f (by decide +kernel) (by decide +kernel) c12_k c12_w
set_option maxHeartbeats 8000000 in
def c13_D : List Int := [1, 1, 1, -1, -1, 2, 2, 0]
set_option maxHeartbeats 8000000 in
def c13_W : List Int := [1, 1, 1, 0, 0, 1, 1, 1]
theorem c13_f : frG (gT 2 3) 1000 (grN 2) [7] = some c13_D := by decide +kernel
theorem c13_k : grOk (grE (gT 2 3)) (grN 2) 0 c13_D = true := by decide +kernel
theorem c13_w : certW (grE (gT 2 3)) (2 ^ 3) c13_D c13_W = true := by decide +kernel
theorem c13_s : spec_CountRows.f 2500 1 3 = some (1, true) := by decide +kernel
theorem c13_i : impl_CountRows.f 1001 1 3 = some (1, true) := implRows_yes (co := 1) (m := 3) (D := c13_D) (W := c13_W) (q := 7) (by decide) (by decide) (by decide +kernel) (by decide +kernel) c13_f (by decide +kernel) (by decide +kernel) c13_k c13_w
set_option maxHeartbeats 8000000 in
def c14_D : List Int := [1, 1, 1, -1, -1, 2, 2, 0]
set_option maxHeartbeats 8000000 in
def c14_W : List Int := [1, 1, 1, 0, 0, 1, 1, 1]
theorem c14_f : frG (gT 2 4) 1000 (grN 2) [7] = some c14_D := by decide +kernel
theorem c14_k : grOk (grE (gT 2 4)) (grN 2) 0 c14_D = true := by decide +kernel
theorem c14_w : certW (grE (gT 2 4)) (2 ^ 3) c14_D c14_W = true := by decide +kernel
theorem c14_s : spec_CountRows.f 2500 1 4 = some (1, true) := by decide +kernel
theorem c14_i : impl_CountRows.f 1001 1 4 = some (1, true) := implRows_yes (co := 1) (m := 4) (D := c14_D) (W := c14_W) (q := 7) (by decide) (by decide) (by decide +kernel) (by decide +kernel) c14_f (by decide +kernel) (by decide +kernel) c14_k c14_w
set_option maxHeartbeats 8000000 in
def c21_D : List Int := [-1, -1, -1, -1, -1, -1, -1, 1, -1, -1, -1, -1, -1, 1, -1, -1, -1, -1, -1, -1, -1, -1, -1, -1, -1, -1, -1, -1, -1, -1, -1, 0]
theorem c21_f : frG (gT 4 1) 1000 (grN 4) [31] = some c21_D := by decide +kernel
theorem c21_s : spec_CountRows.f 2500 2 1 = some (0, true) := by decide +kernel
theorem c21_i : impl_CountRows.f 1001 2 1 = some (0, true) := implRows_no (co := 2) (m := 1) (D := c21_D) (q := 31) (by decide) (by decide) (by decide +kernel) c21_f (by decide +kernel) (by decide +kernel)
set_option maxHeartbeats 8000000 in
def c22_D : List Int := [5, -1, 3, 1, -1, 1, -1, 1, 3, -1, 1, -1, 1, 1, -1, -1, -1, -1, 6, 4, -1, 6, -1, 2, 6, -1, 4, -1, 4, 2, -1, 0]
set_option maxHeartbeats 8000000 in
def c22_W : List Int := [8, 0, 2, 1, 0, 1, 0, 1, 2, 0, 1, 0, 1, 1, 0, 0, 0, 0, 8, 2, 0, 8, 0, 2, 8, 0, 4, 0, 2, 2, 0, 1]
theorem c22_f : frG (gT 4 2) 1000 (grN 4) [31] = some c22_D := by decide +kernel
theorem c22_k : grOk (grE (gT 4 2)) (grN 4) 0 c22_D = true := by decide +kernel
theorem c22_w : certW (grE (gT 4 2)) (2 ^ 5) c22_D c22_W = true := by decide +kernel
theorem c22_s : spec_CountRows.f 2500 2 2 = some (8, true) := by decide +kernel
theorem c22_i : impl_CountRows.f 1001 2 2 = some (8, true) := implRows_yes (co := 2) (m := 2) (D := c22_D) (W := c22_W) (q := 31) (by decide) (by decide) (by decide +kernel) (by decide +kernel) c22_f (by decide +kernel) (by decide +kernel) c22_k c22_w
set_option maxHeartbeats 8000000 in
def c23_D : List Int := [3, -1, 1, 1, -1, 1, -1, 1, 1, -1, 1, -1, 1, 1, -1, -1, -1, -1, 4, 2, -1, 4, -1, 2, 4, -1, 2, -1, 2, 2, -1, 0]
set_option maxHeartbeats 8000000 in
def c23_W : List Int := [10, 0, 1, 1, 0, 1, 0, 1, 1, 0, 1, 0, 1, 1, 0, 0, 0, 0, 10, 1, 0, 10, 0, 3, 10, 0, 2, 0, 1, 3, 0, 1]
theorem c23_f : frG (gT 4 3) 1000 (grN 4) [31] = some c23_D := by decide +kernel
theorem c23_k : grOk (grE (gT 4 3)) (grN 4) 0 c23_D = true := by decide +kernel
theorem c23_w : certW (grE (gT 4 3)) (2 ^ 5) c23_D c23_W = true := by decide +kernel
theorem c23_s : spec_CountRows.f 2500 2 3 = some (10, true) := by decide +kernel
theorem c23_i : impl_CountRows.f 1001 2 3 = some (10, true) := implRows_yes (co := 2) (m := 3) (D := c23_D) (W := c23_W) (q := 31) (by decide) (by decide) (by decide +kernel) (by decide +kernel) c23_f (by decide +kernel) (by decide +kernel) c23_k c23_w
set_option maxHeartbeats 8000000 in
def c24_D : List Int := [1, -1, 1, 1, -1, 1, -1, 1, 1, -1, 1, -1, 1, 1, -1, -1, -1, -1, 2, 2, -1, 2, -1, 2, 2, -1, 2, -1, 2, 2, -1, 0]
set_option maxHeartbeats 8000000 in
def c24_W : List Int := [1, 0, 1, 1, 0, 1, 0, 1, 1, 0, 1, 0, 1, 1, 0, 0, 0, 0, 1, 2, 0, 1, 0, 4, 1, 0, 3, 0, 2, 4, 0, 1]
theorem c24_f : frG (gT 4 4) 1000 (grN 4) [31] = some c24_D := by decide +kernel
theorem c24_k : grOk (grE (gT 4 4)) (grN 4) 0 c24_D = true := by decide +kernel
theorem c24_w : certW (grE (gT 4 4)) (2 ^ 5) c24_D c24_W = true := by decide +kernel
theorem c24_s : spec_CountRows.f 2500 2 4 = some (1, true) := by decide +kernel
theorem c24_i : impl_CountRows.f 1001 2 4 = some (1, true) := implRows_yes (co := 2) (m := 4) (D := c24_D) (W := c24_W) (q := 31) (by decide) (by decide) (by decide +kernel) (by decide +kernel) c24_f (by decide +kernel) (by decide +kernel) c24_k c24_w
set_option maxHeartbeats 8000000 in
def c31_D : List Int := [-1, -1, -1, -1, -1, -1, -1, -1, -1, -1, -1, -1, -1, -1, -1, -1, -1, -1, -1, -1, -1, -1, -1, -1, -1, -1, -1, -1, -1, -1, -1, 1, -1, -1, -1, -1, -1, -1, -1, -1, -1, -1, -1, -1, -1, -1, -1, -1, -1, -1, -1, -1, -1, -1, -1, 1, -1, -1, -1, -1, -1, 1, -1, -1, -1, -1, -1, -1, -1, -1, -1, -1, -1, -1, -1, -1, -1, -1, -1, -1, -1, -1, -1, -1, -1, -1, -1, -1, -1, -1, -1, -1, -1, -1, -1, -1, -1, -1, -1, -1, -1, -1, -1, -1, -1, -1, -1, -1, -1, -1, -1, -1, -1, -1, -1, -1, -1, -1, -1, -1, -1, -1, -1, -1, -1, -1, -1, 0]
theorem c31_f : frG (gT 6 1) 1000 (grN 6) [127] = some c31_D := by decide +kernel
theorem c31_s : spec_CountRows.f 2500 3 1 = some (0, true) := by decide +kernel
theorem c31_i : impl_CountRows.f 1001 3 1 = some (0, true) := implRows_no (co := 3) (m := 1) (D := c31_D) (q := 127) (by decide) (by decide) (by decide +kernel) c31_f (by decide +kernel) (by decide +kernel)
set_option maxHeartbeats 8000000 in
def c32_D : List Int := [11, -1, 9, 5, -1, -1, -1, -1, 9, -1, 7, -1, 5, -1, -1, 1, -1, -1, -1, -1, -1, 3, -1, 1, -1, -1, -1, -1, -1, 1, -1, 1, 9, -1, 7, -1, -1, -1, -1, -1, 7, -1, -1, -1, -1, -1, -1, -1, 5, -1, -1, 1, -1, 1, -1, 1, -1, -1, -1, -1, 1, 1, -1, -1, -1, -1, 12, 10, -1, -1, -1, -1, 12, -1, 10, -1, 10, -1, -1, 6, -1, -1, -1, -1, -1, -1, -1, 4, -1, -1, -1, -1, -1, 4, -1, 2, 12, -1, 10, -1, -1, -1, -1, -1, 10, -1, 8, -1, -1, -1, -1, -1, 10, -1, -1, 6, -1, 4, -1, 2, -1, -1, -1, -1, 6, 2, -1, 0]
set_option maxHeartbeats 8000000 in
def c32_W : List Int := [486, 0, 54, 9, 0, 0, 0, 0, 54, 0, 18, 0, 9, 0, 0, 1, 0, 0, 0, 0, 0, 9, 0, 1, 0, 0, 0, 0, 0, 1, 0, 1, 54, 0, 18, 0, 0, 0, 0, 0, 18, 0, 0, 0, 0, 0, 0, 0, 9, 0, 0, 1, 0, 1, 0, 1, 0, 0, 0, 0, 1, 1, 0, 0, 0, 0, 486, 54, 0, 0, 0, 0, 486, 0, 108, 0, 54, 0, 0, 18, 0, 0, 0, 0, 0, 0, 0, 9, 0, 0, 0, 0, 0, 9, 0, 3, 486, 0, 108, 0, 0, 0, 0, 0, 108, 0, 54, 0, 0, 0, 0, 0, 54, 0, 0, 18, 0, 9, 0, 3, 0, 0, 0, 0, 18, 3, 0, 1]
theorem c32_f : frG (gT 6 2) 1000 (grN 6) [127] = some c32_D := by decide +kernel
theorem c32_k : grOk (grE (gT 6 2)) (grN 6) 0 c32_D = true := by decide +kernel
theorem c32_w : certW (grE (gT 6 2)) (2 ^ 7) c32_D c32_W = true := by decide +kernel
theorem c32_s : spec_CountRows.f 2500 3 2 = some (486, true) := by decide +kernel
theorem c32_i : impl_CountRows.f 1001 3 2 = some (486, true) := implRows_yes (co := 3) (m := 2) (D := c32_D) (W := c32_W) (q := 127) (by decide) (by decide) (by decide +kernel) (by decide +kernel) c32_f (by decide +kernel) (by decide +kernel) c32_k c32_w
set_option maxHeartbeats 8000000 in
def c33_D : List Int := [5, -1, 3, 3, -1, -1, -1, -1, 3, -1, 3, -1, 3, -1, -1, 1, -1, -1, -1, -1, -1, 1, -1, 1, -1, -1, -1, -1, -1, 1, -1, 1, 3, -1, 3, -1, -1, -1, -1, -1, 3, -1, 1, -1, -1, -1, -1, -1, 3, -1, -1, 1, -1, 1, -1, 1, -1, -1, -1, -1, 1, 1, -1, -1, -1, -1, 6, 4, -1, -1, -1, -1, 6, -1, 4, -1, 4, -1, -1, 4, -1, -1, -1, -1, -1, 6, -1, 2, -1, -1, -1, -1, -1, 2, -1, 2, 6, -1, 4, -1, -1, -1, -1, -1, 4, -1, 4, -1, -1, -1, -1, -1, 4, -1, -1, 4, -1, 2, -1, 2, -1, -1, -1, -1, 4, 2, -1, 0]
set_option maxHeartbeats 8000000 in
def c33_W : List Int := [24, 0, 1, 9, 0, 0, 0, 0, 1, 0, 4, 0, 9, 0, 0, 1, 0, 0, 0, 0, 0, 1, 0, 1, 0, 0, 0, 0, 0, 1, 0, 1, 1, 0, 4, 0, 0, 0, 0, 0, 4, 0, 1, 0, 0, 0, 0, 0, 9, 0, 0, 1, 0, 1, 0, 1, 0, 0, 0, 0, 1, 1, 0, 0, 0, 0, 24, 1, 0, 0, 0, 0, 24, 0, 2, 0, 1, 0, 0, 24, 0, 0, 0, 0, 0, 24, 0, 1, 0, 0, 0, 0, 0, 1, 0, 4, 24, 0, 2, 0, 0, 0, 0, 0, 2, 0, 15, 0, 0, 0, 0, 0, 1, 0, 0, 24, 0, 1, 0, 4, 0, 0, 0, 0, 24, 4, 0, 1]
theorem c33_f : frG (gT 6 3) 1000 (grN 6) [127] = some c33_D := by decide +kernel
theorem c33_k : grOk (grE (gT 6 3)) (grN 6) 0 c33_D = true := by decide +kernel
theorem c33_w : certW (grE (gT 6 3)) (2 ^ 7) c33_D c33_W = true := by decide +kernel
theorem c33_s : spec_CountRows.f 2500 3 3 = some (24, true) := by decide +kernel
theorem c33_i : impl_CountRows.f 1001 3 3 = some (24, true) := implRows_yes (co := 3) (m := 3) (D := c33_D) (W := c33_W) (q := 127) (by decide) (by decide) (by decide +kernel) (by decide +kernel) c33_f (by decide +kernel) (by decide +kernel) c33_k c33_w
set_option maxHeartbeats 8000000 in
def c34_D : List Int := [3, -1, 3, 1, -1, -1, -1, -1, 3, -1, 1, -1, 1, -1, -1, 1, -1, -1, -1, -1, -1, 1, -1, 1, -1, -1, -1, -1, -1, 1, -1, 1, 3, -1, 1, -1, -1, -1, -1, -1, 1, -1, 1, -1, -1, -1, -1, -1, 1, -1, -1, 1, -1, 1, -1, 1, -1, -1, -1, -1, 1, 1, -1, -1, -1, -1, 4, 4, -1, -1, -1, -1, 4, -1, 4, -1, 4, -1, -1, 2, -1, -1, -1, -1, -1, 4, -1, 2, -1, -1, -1, -1, -1, 2, -1, 2, 4, -1, 4, -1, -1, -1, -1, -1, 4, -1, 2, -1, -1, -1, -1, -1, 4, -1, -1, 2, -1, 2, -1, 2, -1, -1, -1, -1, 2, 2, -1, 0]
set_option maxHeartbeats 8000000 in
def c34_W : List Int := [18, 0, 25, 1, 0, 0, 0, 0, 25, 0, 1, 0, 1, 0, 0, 1, 0, 0, 0, 0, 0, 1, 0, 1, 0, 0, 0, 0, 0, 1, 0, 1, 25, 0, 1, 0, 0, 0, 0, 0, 1, 0, 1, 0, 0, 0, 0, 0, 1, 0, 0, 1, 0, 1, 0, 1, 0, 0, 0, 0, 1, 1, 0, 0, 0, 0, 18, 43, 0, 0, 0, 0, 18, 0, 68, 0, 43, 0, 0, 3, 0, 0, 0, 0, 0, 18, 0, 2, 0, 0, 0, 0, 0, 2, 0, 7, 18, 0, 68, 0, 0, 0, 0, 0, 68, 0, 3, 0, 0, 0, 0, 0, 43, 0, 0, 3, 0, 2, 0, 7, 0, 0, 0, 0, 3, 7, 0, 1]
theorem c34_f : frG (gT 6 4) 1000 (grN 6) [127] = some c34_D := by decide +kernel
theorem c34_k : grOk (grE (gT 6 4)) (grN 6) 0 c34_D = true := by decide +kernel
theorem c34_w : certW (grE (gT 6 4)) (2 ^ 7) c34_D c34_W = true := by decide +kernel
theorem c34_s : spec_CountRows.f 2500 3 4 = some (18, true) := by decide +kernel
theorem c34_i : impl_CountRows.f 1001 3 4 = some (18, true) := implRows_yes (co := 3) (m := 4) (D := c34_D) (W := c34_W) (q := 127) (by decide) (by decide) (by decide +kernel) (by decide +kernel) c34_f (by decide +kernel) (by decide +kernel) c34_k c34_w

end Go.Proofs.Ythkchdfkeieabaa.fnExactCountRows
