/- FnExactIsClue, the plain statement: what the printed functions compute makes the law's function return true. Conditions: the numbers are of their kind. -/
import Derived.Test.YtglegmmpmcnpkaaOpn
import Derived.Test.YtglegmmpmcnpkaaQFnExactIsCluex1
namespace Go.Proofs.Ytglegmmpmcnpkaa.fnExactIsClue
open Go.RowKit Go.Proofs.YtglegmmpmcnpkaaW.PrintWords Go.Proofs.YtglegmmpmcnpkaaW.PrintLast Go.Proofs.YtglegmmpmcnpkaaW.PrintMore Go.Proofs.Ytglegmmpmcnpkaa.QFnExactIsClue

/-- x lies between a and b. -/
def inB (x a b : Int) : Bool := decide (a ≤ x) && decide (x ≤ b)
theorem l1In_eq (x a b : Int) : spec_l1In.f x a b = some (inB x a b) := by
  unfold spec_l1In.f inB
  by_cases h : a ≤ x <;> simp [h]
theorem in_eq (x a b : Int) : impl_in.f x a b = some (inB x a b) := by
  unfold impl_in.f inB
  by_cases h : a ≤ x <;> simp [h]
/-- A clue of so many people. -/
def clue (n kd a b : Int) : Bool :=
  inB n 1 4 && (if kd = 0 then inB a 0 (n - 1) && inB b 1 6 else if kd = 4 then inB a 0 (n - 1) && inB b 0 5 else if kd = 1 then inB a 1 24 && decide (b = 0)
    else if kd = 2 ∨ kd = 3 then inB a 1 100 && decide (b = 0) else if kd = 5 then inB a 0 n && decide (b = 0) else false)
theorem wrap_pred {n : Int} (h : inB n 1 4 = true) : wrap64 (n - 1) = n - 1 := by
  simp [inB] at h
  unfold wrap64
  omega
theorem spec_eq (k : Nat) (n kd a b : Int) : spec_IsClue.f (k + 1) n kd a b = some (clue n kd a b) := by
  unfold spec_IsClue.f spec_pzPeople.f spec_pzClue.f clue
  simp only [l1In_eq, Option.bind_some, spec_pzClue.j0]
  cases h : inB n 1 4
  · simp
  · rw [wrap_pred h]
    by_cases h0 : kd = 0
    · subst h0; cases inB a 0 (n - 1) <;> simp
    by_cases h4 : kd = 4
    · subst h4; cases inB a 0 (n - 1) <;> simp
    by_cases hb : b = 0
    · subst hb
      by_cases h1 : kd = 1
      · subst h1; simp
      by_cases h2 : kd = 2
      · subst h2; simp
      by_cases h3 : kd = 3
      · subst h3; simp
      by_cases h5 : kd = 5
      · subst h5; simp
      simp [h0, h1, h2, h3, h4, h5]
    · simp [h0, h4, hb]
theorem impl_eq (k : Nat) (n kd a b : Int) : impl_IsClue.f (k + 1) n kd a b = some (clue n kd a b) := by
  unfold impl_IsClue.f impl_isPeople.f clue
  simp only [in_eq, Option.bind_some, impl_IsClue.j0]
  cases h : inB n 1 4
  · simp
  · rw [wrap_pred h]
    by_cases h0 : kd = 0
    · subst h0; cases inB a 0 (n - 1) <;> simp
    by_cases h4 : kd = 4
    · subst h4; cases inB a 0 (n - 1) <;> simp
    by_cases h1 : kd = 1
    · subst h1; cases inB a 1 24 <;> simp <;> rfl
    by_cases h2 : kd = 2
    · subst h2; cases inB a 1 100 <;> simp <;> rfl
    by_cases h3 : kd = 3
    · subst h3; cases inB a 1 100 <;> simp <;> rfl
    by_cases h5 : kd = 5
    · subst h5; cases inB a 0 n <;> simp <;> rfl
    simp [h0, h1, h2, h3, h4, h5]

theorem pure : ∀ (a0 : Int) (a1_0 : Int) (a1_1 : Int) (a1_2 : Int), Opn.okI a0 → Opn.okI a1_0 → Opn.okI a1_1 → Opn.okI a1_2 → ∃ k, laws_FnExactIsClue.f k a0 a1_0 a1_1 a1_2 = some true := by
  intro n kd a b _ _ _ _
  refine ⟨1, ?_⟩
  unfold laws_FnExactIsClue.f laws_toClue.f
  simp only [Option.bind_some, spec_eq 0, impl_eq 0]
  simp

end Go.Proofs.Ytglegmmpmcnpkaa.fnExactIsClue
