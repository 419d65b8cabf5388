/- A world that stands some plain steps (new blocks, draws) behind another one: what is told of blocks and rows goes with it. Conditions: none. -/
import Derived.Test.YtmdbhpbogbekmaaWMore
import Derived.Test.YtmdbhpbogbekmaaWN
import Derived.Test.YtmdbhpbogbekmaaWApart
namespace Go.Proofs.YtmdbhpbogbekmaaW.PrintWords
open Go.RowKit
/-- w' stands behind w: all that lay, lies. -/
class Up (w w' : World) : Prop where
  out : Below w.heap.size w w'
instance (w : World) : Up w w := ⟨Below.refl _ _⟩
instance (w v : World) (m : Nat) [h : Up w v] : Up w (v.drewN m) := ⟨pw_below_drewN h.out m⟩
instance (w v : World) [h : Up w v] : Up w v.drew := ⟨below_drew1 h.out⟩
instance (w v : World) (o : Obj) [h : Up w v] : Up w (v.alloc o) := ⟨below_alloc h.out o⟩
theorem pk {w w' : World} {g : Nat} {o : Obj} [u : Up w w'] (h : w.heap[g]? = some o) : w'.heap[g]? = some o := blk_below h u.out
namespace Kd
variable {α : Type} {d : Kd α} {e : Nat} {w w' : World} {base : Nat} {ok : Nat → Prop} {v : Value} {xs : List α}
theorem pR [u : Up w w'] (h : d.R e w base ok v xs) : d.R e w' base ok v xs := Kd.R_below h u.out
theorem pS [u : Up w w'] (h : d.S e w base ok v xs) : d.S e w' base ok v xs := Kd.S_below h u.out
theorem pN [u : Up w w'] (h : d.N e w base ok v xs) : d.N e w' base ok v xs := Kd.N_below h u.out
theorem pV [u : Up w w'] (h : d.V e w base ok v xs) : d.V e w' base ok v xs := Kd.V_below h u.out
theorem pQ [u : Up w w'] (h : d.Q e w base ok v xs) : d.Q e w' base ok v xs := Kd.Q_below h u.out
end Kd
end Go.Proofs.YtmdbhpbogbekmaaW.PrintWords
