/- A slice that lies in another value: its length too. Conditions: those that stand at each theorem. -/
import Derived.Test.YtmdbhpbogbekmaaOpn
namespace Go.Proofs.Ytmdbhpbogbekmaa.Opn
open Go.ChangeShapes Go.WideShapes Go.RowKit Go.Deep Go.Proofs.YtmdbhpbogbekmaaW.PrintWords
variable {P : Program}
theorem op_sliceN {t e : TypeId} {α : Type} {d : Kd α} {ok : α → Prop} (ht : P.underlying t = some (.slice e)) (hs : P.cellsOf t = 1) (he : Op P e d ok) : Op P t (Kd.slice e d) (fun xs => xs.length ≤ 9223372036854775807 ∧ ∀ x ∈ xs, ok x) :=
  ⟨hs, fun h => by
    obtain ⟨a, hk, ho⟩ := (op_slice ht hs he).out h
    refine ⟨a, hk, ?_, ho⟩
    obtain ⟨A, c, _, _, hC⟩ := hk
    exact hC.2.1⟩
end Go.Proofs.Ytmdbhpbogbekmaa.Opn
