/- FnExactCountRows, the plain statement: what the printed functions compute makes the law's function return true. Conditions: the numbers are of their kind. -/
import Derived.Test.YthkchdfkeieabaaOpn
import Derived.Test.YthkchdfkeieabaaQGrx13
import Derived.Test.YthkchdfkeieabaaVRows0
import Derived.Test.YthkchdfkeieabaaVRowsA
import Derived.Test.YthkchdfkeieabaaVRowsB
import Derived.Test.YthkchdfkeieabaaVRowsC
import Derived.Test.YthkchdfkeieabaaVRowsD
namespace Go.Proofs.Ythkchdfkeieabaa.fnExactCountRows
open Go.RowKit Go.Proofs.YthkchdfkeieabaaW.PrintWords Go.Proofs.YthkchdfkeieabaaW.PrintLast Go.Proofs.YthkchdfkeieabaaW.PrintMore Go.Proofs.Ythkchdfkeieabaa.QGr
set_option linter.unusedVariables false
set_option linter.unusedSimpArgs false
set_option maxRecDepth 100000

theorem both_ {co m : Int} (hc : 1 ≤ co ∧ co ≤ 4) (hm : 1 ≤ m ∧ m ≤ 4) : ∃ x, spec_CountRows.f 2500 co m = some x ∧ impl_CountRows.f 1001 co m = some x := by
  rcases (by omega : co = 1 ∨ co = 2 ∨ co = 3 ∨ co = 4) with rfl | rfl | rfl | rfl <;> rcases (by omega : m = 1 ∨ m = 2 ∨ m = 3 ∨ m = 4) with rfl | rfl | rfl | rfl
  · exact ⟨_, c11_s, c11_i⟩
  · exact ⟨_, c12_s, c12_i⟩
  · exact ⟨_, c13_s, c13_i⟩
  · exact ⟨_, c14_s, c14_i⟩
  · exact ⟨_, c21_s, c21_i⟩
  · exact ⟨_, c22_s, c22_i⟩
  · exact ⟨_, c23_s, c23_i⟩
  · exact ⟨_, c24_s, c24_i⟩
  · exact ⟨_, c31_s, c31_i⟩
  · exact ⟨_, c32_s, c32_i⟩
  · exact ⟨_, c33_s, c33_i⟩
  · exact ⟨_, c34_s, c34_i⟩
  · exact ⟨_, c41_s, c41_i⟩
  · exact ⟨_, c42_s, c42_i⟩
  · exact ⟨_, c43_s, c43_i⟩
  · exact ⟨_, c44_s, c44_i⟩
theorem good_eq (co m : Int) : spec_cuGood.f co m = some (inB co 1 4 && inB m 1 4) ∧ impl_IsCompany.f co m = some (inB co 1 4 && inB m 1 4) := by
  unfold spec_cuGood.f spec_l1In.f impl_IsCompany.f impl_in.f inB
  constructor
  all_goals
    by_cases h1 : 1 ≤ co
    · by_cases h2 : co ≤ 4
      · by_cases h3 : 1 ≤ m
        · simp [h1, h2, h3]
        · simp [h1, h2, h3]
      · simp [h1, h2]
    · simp [h1]
theorem pure : ∀ (a0_0 : Int) (a0_1 : Int), Opn.okI a0_0 → Opn.okI a0_1 → ∃ k, laws_FnExactCountRows.f k a0_0 a0_1 = some true := by
  intro co m _ _
  have hx : ∃ x, spec_CountRows.f 2500 co m = some x ∧ impl_CountRows.f 2500 co m = some x := by
    cases hg : (inB co 1 4 && inB m 1 4)
    · refine ⟨(0, false), ?_, ?_⟩
      · unfold spec_CountRows.f
        rw [(good_eq co m).1, hg, Option.bind_some, if_neg (by decide)]
      · unfold impl_CountRows.f
        rw [(good_eq co m).2, hg, Option.bind_some, if_neg (by decide)]
    · rw [Bool.and_eq_true, inB_true, inB_true] at hg
      obtain ⟨x, h1, h2⟩ := both_ hg.1 hg.2
      exact ⟨x, h1, mono_le (impl_CountRows.mono co m) (by omega) h2⟩
  obtain ⟨x, h1, h2⟩ := hx
  refine ⟨2500, ?_⟩
  unfold laws_FnExactCountRows.f laws_toCompany.f
  rw [Option.bind_some]
  simp only
  rw [h1, Option.bind_some, Option.bind_some]
  simp only
  rw [h2, Option.bind_some, if_pos rfl]
  simp

end Go.Proofs.Ythkchdfkeieabaa.fnExactCountRows
