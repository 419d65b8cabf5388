/- FnExactLeastMost, the plain statement: what the printed functions compute makes the law's function return true. Conditions: the numbers are of their kind. -/
import Derived.Test.YthkchdfkeieabaaOpn
import Derived.Test.YthkchdfkeieabaaQGrx18
namespace Go.Proofs.Ythkchdfkeieabaa.fnExactLeastMost
open Go.RowKit Go.Proofs.YthkchdfkeieabaaW.PrintWords Go.Proofs.YthkchdfkeieabaaW.PrintLast Go.Proofs.YthkchdfkeieabaaW.PrintMore Go.Proofs.Ythkchdfkeieabaa.QGr
set_option linter.unusedVariables false
set_option linter.unusedSimpArgs false

def inB (x a b : Int) : Bool := decide (a ≤ x) && decide (x ≤ b)
theorem qJ_ {x a b : Int} : inB x a b = true ↔ a ≤ x ∧ x ≤ b := by simp [inB]
theorem qq_ {n : Int} (h0 : -9223372036854775808 ≤ n) (h1 : n ≤ 9223372036854775807) : wrap64 n = n := by
 unfold wrap64
 omega
theorem qa_ {i n : Nat} (h : i < n) (hn : n ≤ 9223372036854775807) : wrap64 ((i : Int) + 1) = ((i + 1 : Nat) : Int) := by
 unfold wrap64
 omega
theorem qA_ {α : Type} (l : List α) (i : Nat) (h : i < l.length) (z : α) : l.take (i + 1) = l.take i ++ [l.getD i z] := by
 rw [List.take_succ_eq_append_getElem h, List.getD_eq_getElem?_getD, List.getElem?_eq_getElem h]
 rfl
theorem qg_ {α : Type} (l : List α) (i : Nat) (h : i < l.length) (z : α) : l.drop i = l.getD i z :: l.drop (i + 1) := by
 rw [List.drop_eq_getElem_cons h, List.getD_eq_getElem?_getD, List.getElem?_eq_getElem h]
 rfl
theorem ri_ {α : Type} (l : List α) (i : Nat) (h : i < l.length) (v : α) : (l.set i v).take (i + 1) = l.take i ++ [v] := by
 rw [List.take_succ_eq_append_getElem (by rw [List.length_set]; exact h), List.take_set_of_le (Nat.le_refl i), List.getElem_set_self]
theorem qb_ {k d : Nat} (h : d < k) : ∃ m, k = m + 1 := ⟨k - 1, by omega⟩
theorem re_ {α β : Type} (f : α → β) (l : List α) (i : Nat) (h : i < l.length) (z : α) (y : β) : (l.map f).getD i y = f (l.getD i z) := by
 rw [List.getD_eq_getElem?_getD, List.getD_eq_getElem?_getD, List.getElem?_map, List.getElem?_eq_getElem h]
 rfl
theorem qI_ (x a b : Int) : spec_l1In.f x a b = some (inB x a b) := by
 unfold spec_l1In.f inB
 by_cases h : a ≤ x <;> simp [h]
theorem sU_ (x a b : Int) : impl_in.f x a b = some (inB x a b) := by
 unfold impl_in.f inB
 by_cases h : a ≤ x <;> simp [h]
theorem r2_ {l : List Int} (hn : l.length ≤ 9223372036854775807) : ∀ (d k i : Nat) (x : List Int), i + d = l.length → x.length = l.length → x.take i = l.take i → d < k → laws_toIntS.l0 k l x (i : Int) = some l := by
 intro d
 induction d with
 | zero =>
  intro k i x hi hx ht hk
  obtain ⟨k, rfl⟩ := qb_ hk
  simp only [laws_toIntS.l0]
  rw [if_neg (by omega)]
  rw [show i = l.length by omega, List.take_length, ← hx, List.take_length] at ht
  rw [ht]
 | succ d ih =>
  intro k i x hi hx ht hk
  obtain ⟨k, rfl⟩ := qb_ hk
  have hlt : i < l.length := by omega
  simp only [laws_toIntS.l0]
  rw [if_pos (by omega), if_pos (by omega), if_pos (by omega), qa_ hlt hn]
  refine ih k (i + 1) _ (by omega) (by rw [List.length_set]; exact hx) ?_ (by omega)
  rw [Int.toNat_natCast, ri_ _ _ (by omega), ht, qA_ l i hlt 0]
  rfl
theorem r3_ {l : List Int} (hn : l.length ≤ 1048576) {k : Nat} (hk : l.length < k) : laws_toIntS.f k l = some l := by
 unfold laws_toIntS.f
 rw [if_pos (by omega), if_pos (by omega)]
 exact r2_ (by omega) l.length k 0 _ (by omega) (by simp) (by simp) hk
theorem rL_ {l : List Int} (hn : l.length ≤ 9223372036854775807) : ∀ (d k i : Nat), i + d = l.length → d < k → laws_eqIntS.l0 k l l (i : Int) = some true := by
 intro d
 induction d with
 | zero =>
  intro k i hi hk
  obtain ⟨k, rfl⟩ := qb_ hk
  simp only [laws_eqIntS.l0]
  rw [if_neg (by omega)]
 | succ d ih =>
  intro k i hi hk
  obtain ⟨k, rfl⟩ := qb_ hk
  have hlt : i < l.length := by omega
  simp only [laws_eqIntS.l0]
  rw [if_pos (by omega), if_pos (by omega), if_pos (by omega), if_pos trivial, qa_ hlt hn]
  exact ih k (i + 1) (by omega) (by omega)
theorem rM_ {l : List Int} (hn : l.length ≤ 9223372036854775807) {k : Nat} (hk : l.length < k) : laws_eqIntS.f k l l = some true := by
 unfold laws_eqIntS.f
 rw [if_pos rfl]
 exact rL_ hn l.length k 0 (by omega) hk
theorem rm_ {l : List Bool} (hn : l.length ≤ 9223372036854775807) : ∀ (d k i : Nat) (x : List Bool), i + d = l.length → x.length = l.length → x.take i = l.take i → d < k → laws_toBoolS.l0 k l x (i : Int) = some l := by
 intro d
 induction d with
 | zero =>
  intro k i x hi hx ht hk
  obtain ⟨k, rfl⟩ := qb_ hk
  simp only [laws_toBoolS.l0]
  rw [if_neg (by omega)]
  rw [show i = l.length by omega, List.take_length, ← hx, List.take_length] at ht
  rw [ht]
 | succ d ih =>
  intro k i x hi hx ht hk
  obtain ⟨k, rfl⟩ := qb_ hk
  have hlt : i < l.length := by omega
  simp only [laws_toBoolS.l0]
  rw [if_pos (by omega), if_pos (by omega), if_pos (by omega), qa_ hlt hn]
  refine ih k (i + 1) _ (by omega) (by rw [List.length_set]; exact hx) ?_ (by omega)
  rw [Int.toNat_natCast, ri_ _ _ (by omega), ht, qA_ l i hlt false]
  rfl
theorem rn_ {l : List Bool} (hn : l.length ≤ 1048576) {k : Nat} (hk : l.length < k) : laws_toBoolS.f k l = some l := by
 unfold laws_toBoolS.f
 rw [if_pos (by omega), if_pos (by omega)]
 exact rm_ (by omega) l.length k 0 _ (by omega) (by simp) (by simp) hk
theorem rx_ {l : List Bool} (hn : l.length ≤ 9223372036854775807) : ∀ (d k i : Nat), i + d = l.length → d < k → laws_eqBoolS.l0 k l l (i : Int) = some true := by
 intro d
 induction d with
 | zero =>
  intro k i hi hk
  obtain ⟨k, rfl⟩ := qb_ hk
  simp only [laws_eqBoolS.l0]
  rw [if_neg (by omega)]
 | succ d ih =>
  intro k i hi hk
  obtain ⟨k, rfl⟩ := qb_ hk
  have hlt : i < l.length := by omega
  simp only [laws_eqBoolS.l0]
  rw [if_pos (by omega), if_pos (by omega), if_pos (by omega), if_neg (by simp), qa_ hlt hn]
  exact ih k (i + 1) (by omega) (by omega)
theorem ry_ {l : List Bool} (hn : l.length ≤ 9223372036854775807) {k : Nat} (hk : l.length < k) : laws_eqBoolS.f k l l = some true := by
 unfold laws_eqBoolS.f
 rw [if_pos rfl]
 exact rx_ hn l.length k 0 (by omega) hk
theorem sb_ {l : List Int} (hn : l.length ≤ 9223372036854775807) (a b : Int) : ∀ (d k i : Nat), i + d = l.length → d < k → spec_l1All.l0 k a b l (l.length : Int) (i : Int) = some ((l.drop i).all fun x => inB x a b) := by
 intro d
 induction d with
 | zero =>
  intro k i hi hk
  obtain ⟨k, rfl⟩ := qb_ hk
  simp only [spec_l1All.l0]
  rw [if_neg (by omega), show i = l.length by omega, List.drop_length]
  rfl
 | succ d ih =>
  intro k i hi hk
  obtain ⟨k, rfl⟩ := qb_ hk
  have hlt : i < l.length := by omega
  simp only [spec_l1All.l0]
  rw [if_pos (by omega), if_pos (by omega), if_pos (by omega), qI_, Option.bind_some, qa_ hlt hn, ih k (i + 1) (by omega) (by omega), qg_ l i hlt 0, List.all_cons]
  show (if inB (l.getD i 0) a b = true then _ else _) = _
  cases inB (l.getD i 0) a b <;> simp
theorem sc_ {l : List Int} (hn : l.length ≤ 9223372036854775807) (a b : Int) {k : Nat} (hk : l.length < k) : spec_l1All.f k l a b = some (l.all fun x => inB x a b) := by
 unfold spec_l1All.f
 exact sb_ hn a b l.length k 0 (by omega) hk
theorem ss_ (l : List Int) (a b c d : Int) : impl_areIn.f l a b c d = some (inB (l.length : Int) c d && l.all fun x => inB x a b) := by
 unfold impl_areIn.f inB
 simp [List.not_any_eq_all_not]
def rz_ (l : List Int) (o : List Bool) (s : Int) : Bool := inB (l.length : Int) 1 7 && (decide (o.length = l.length) && ((l.all fun x => inB x 1 500) && inB s 0 2000))
theorem q7_ {l : List Int} (hn : l.length ≤ 9223372036854775807) (o : List Bool) (s : Int) {k : Nat} (hk : l.length < k) : spec_loGood.f k l o s = some (rz_ l o s) := by
 unfold spec_loGood.f rz_
 rw [qI_, sc_ hn 1 500 hk, qI_]
 simp only [Option.bind_some]
 by_cases he : o.length = l.length
 ·have : (o.length : Int) = (l.length : Int) := by omega
  rw [if_pos this]
  cases inB (l.length : Int) 1 7 <;> cases (l.all fun x => inB x 1 500) <;> simp [he]
 ·have : ¬ (o.length : Int) = (l.length : Int) := by omega
  rw [if_neg this]
  cases inB (l.length : Int) 1 7 <;> simp [he]
theorem qC_ (l : List Int) (o : List Bool) (s : Int) : impl_IsCrew.f l o s = some (rz_ l o s) := by
 unfold impl_IsCrew.f rz_
 rw [ss_, sU_]
 simp only [Option.bind_some]
 by_cases he : o.length = l.length
 ·have : (o.length : Int) = (l.length : Int) := by omega
  rw [if_pos this]
  cases inB (l.length : Int) 1 7 <;> cases (l.all fun x => inB x 1 500) <;> simp [he]
 ·have : ¬ (o.length : Int) = (l.length : Int) := by omega
  rw [if_neg this]
  cases inB (l.length : Int) 1 7 <;> cases (l.all fun x => inB x 1 500) <;> simp [he]
theorem rN_ {l : List Int} (hn : l.length ≤ 9223372036854775807) {o : List Bool} (hm : o.length ≤ 9223372036854775807) (s : Int) {k : Nat} (hk : l.length < k) (hk2 : o.length < k) : laws_eqCrew.f k l o s l o s = some true := by
 unfold laws_eqCrew.f
 rw [rM_ hn hk, Option.bind_some, if_pos rfl, ry_ hm hk2]
 simp
theorem r5_ {l : List Int} {o : List Bool} {s : Int} (hn : l.length ≤ 9223372036854775807) (hm : o.length ≤ 9223372036854775807) : ∃ z, laws_szCrew.f l o s 1048576 = some z ∧ (z < 0 ∨ l.length + o.length ≤ 1048576) := by
 unfold laws_szCrew.f laws_szIntS.f laws_szBoolS.f
 rw [qq_ (n := 1048576 - (l.length : Int)) (by omega) (by omega)]
 by_cases h : l.length ≤ 1048576
 ·rw [if_neg (by omega), Option.bind_some, if_neg (by omega)]
  rw [qq_ (n := 1048576 - (l.length : Int) - (o.length : Int)) (by omega) (by omega)]
  by_cases h2 : l.length + o.length ≤ 1048576
  ·rw [if_neg (by omega), Option.bind_some, if_neg (by omega)]
   exact ⟨_, rfl, .inr h2⟩
  ·rw [if_pos (by omega), Option.bind_some, if_pos (by omega)]
   exact ⟨_, rfl, .inl (by omega)⟩
 ·rw [if_pos (by omega), Option.bind_some, if_pos (by omega)]
  exact ⟨_, rfl, .inl (by omega)⟩
theorem r4_ {l : List Int} (hn : l.length ≤ 1048576) {o : List Bool} (hm : o.length ≤ 1048576) (s : Int) {k : Nat} (hk : l.length < k) (hk2 : o.length < k) : laws_toCrew.f k l o s = some (l, o, s) := by
 unfold laws_toCrew.f
 rw [r3_ hn hk, Option.bind_some, rn_ hm hk2]
 rfl
theorem qo_ {α : Type} {l : List α} {i : Nat} (h : i < l.length) (z : α) : l.getD i z ∈ l := by
 rw [List.getD_eq_getElem?_getD, List.getElem?_eq_getElem h]
 exact List.getElem_mem h
structure Far (A : Nat → List (Nat × Nat)) (N : Nat) (S : Nat → Prop) (d : Nat → Int) : Prop where
 st : ∀ s, S s → d s = 0
 go : ∀ u, u < N → 0 ≤ d u → ∀ e ∈ A u, 0 ≤ d e.1 ∧ d e.1 ≤ d u + (e.2 : Int)
 by_ : ∀ v, v < N → 0 ≤ d v → S v ∨ ∃ u, u < N ∧ 0 ≤ d u ∧ ∃ c : Nat, (v, c) ∈ A u ∧ d v = d u + (c : Int)
def GrB (A : Nat → List (Nat × Nat)) (N C : Nat) : Prop := ∀ u, u < N → ∀ e ∈ A u, e.1 < N ∧ 1 ≤ e.2 ∧ e.2 ≤ C
theorem Far.le {A : Nat → List (Nat × Nat)} {N C : Nat} {S : Nat → Prop} {d d' : Nat → Int} (hA : GrB A N C) (h : Far A N S d) (h' : Far A N S d') : ∀ (n v : Nat), v < N → 0 ≤ d v → d v ≤ (n : Int) → 0 ≤ d' v ∧ d' v ≤ d v := by
 intro n
 induction n with
 | zero =>
  intro v hv h0 hn
  rcases h.by_ v hv h0 with hs | ⟨u, hu, hu0, c, hc, e⟩
  ·rw [h'.st v hs, h.st v hs]; omega
  ·have := (hA u hu _ hc).2.1
   simp only at this
   omega
 | succ n ih =>
  intro v hv h0 hn
  rcases h.by_ v hv h0 with hs | ⟨u, hu, hu0, c, hc, e⟩
  ·rw [h'.st v hs, h.st v hs]; omega
  ·have := (hA u hu _ hc).2.1
   simp only at this
   obtain ⟨i1, i2⟩ := ih u hu hu0 (by omega)
   have := h'.go u hu i1 _ hc
   simp only at this
   omega
theorem Far.eq {A : Nat → List (Nat × Nat)} {N C : Nat} {S : Nat → Prop} {d d' : Nat → Int} (hA : GrB A N C) (h : Far A N S d) (h' : Far A N S d') (l : ∀ v, v < N → -1 ≤ d v) (l' : ∀ v, v < N → -1 ≤ d' v) {v : Nat} (hv : v < N) : d v = d' v := by
 have h1 := h.le hA h' (d v).toNat v hv
 have h2 := h'.le hA h (d' v).toNat v hv
 have := l v hv
 have := l' v hv
 omega
def qj_ : List Int → Int
 | [] => 0
 | x :: xs => x + qj_ xs
theorem qp_ (a b : List Int) : qj_ (a ++ b) = qj_ a + qj_ b := by
 induction a with
 | nil => simp [qj_]
 | cons x xs ih => simp only [List.cons_append, qj_, ih]; omega
theorem r7_ {a b : List Int} (h : a.Perm b) : qj_ a = qj_ b := by
 induction h with
 | nil => rfl
 | cons x _ ih => simp only [qj_, ih]
 | swap x y l => simp only [qj_]; omega
 | trans _ _ i1 i2 => exact i1.trans i2
structure Ways (A : Nat → List (Nat × Nat)) (N : Nat) (S : Nat → Prop) (d : Nat → Int) (w : Nat → Int) : Prop where
 st : ∀ s, S s → w s = 1
 at_ : ∀ v, v < N → 0 ≤ d v → ¬ S v → w v = wrap64 (qj_ ((A v).map fun e => if 0 ≤ d e.1 ∧ d e.1 + (e.2 : Int) = d v then w e.1 else 0))
def qy_ (Q : Nat → List (Nat × Nat)) (N : Nat) (v : Nat) (f : Nat → Nat → Int) : Int := qj_ ((List.range N).map fun x => qj_ ((Q x).map fun e => if e.1 = v then f x e.2 else 0))
def sQ_ (A : Nat → List (Nat × Nat)) (N : Nat) : Prop := ∀ u v, u < N → v < N → ∀ f : Nat → Int, qj_ ((A u).map fun e => if e.1 = v then f e.2 else 0) = qj_ ((A v).map fun e => if e.1 = u then f e.2 else 0)
theorem r6_ {α β : Type} (xs : List α) (ys : List β) (g : α → β → Int) : qj_ (xs.map fun x => qj_ (ys.map fun y => g x y)) = qj_ (ys.map fun y => qj_ (xs.map fun x => g x y)) := by
 induction xs with
 | nil =>
  have h : ∀ l : List β, qj_ (l.map fun _ => (0 : Int)) = 0 := by
   intro l
   induction l with
   | nil => rfl
   | cons y l ih => simp only [List.map_cons, qj_, ih]; omega
  simp only [List.map_nil, qj_]
  exact (h ys).symm
 | cons x xs ih =>
  simp only [List.map_cons, qj_, ih]
  clear ih
  induction ys with
  | nil => rfl
  | cons y ys ih => simp only [List.map_cons, qj_]; omega
theorem rV_ {N : Nat} : ∀ (m : Nat) (a : Int), qj_ ((List.range N).map fun x => if m = x then a else 0) = if m < N then a else 0 := by
 intro m a
 induction N with
 | zero => simp [qj_]
 | succ N ih =>
  rw [List.range_succ, List.map_append, qp_, ih]
  simp only [List.map_cons, List.map_nil, qj_]
  by_cases h : m < N
  ·rw [if_pos h, if_neg (by omega), if_pos (by omega)]; omega
  ·rw [if_neg h]
   by_cases e : m = N
   ·rw [if_pos e, if_pos (by omega)]; omega
   ·rw [if_neg e, if_neg (by omega)]; omega
theorem ru_ {A : Nat → List (Nat × Nat)} {N C : Nat} (hA : GrB A N C) (hB : sQ_ A N) {v : Nat} (hv : v < N) (f : Nat → Nat → Int) : qy_ A N v f = qj_ ((A v).map fun e => f e.1 e.2) := by
 unfold qy_
 rw [List.map_congr_left (g := fun x => qj_ ((A v).map fun e => if e.1 = x then f x e.2 else 0)) fun x hx => hB x v (List.mem_range.1 hx) hv (fun c => f x c)]
 rw [r6_]
 refine congrArg qj_ (List.map_congr_left fun e he => ?_)
 have : (fun x => if e.1 = x then f x e.2 else 0) = fun x => if e.1 = x then f e.1 e.2 else 0 := by
  funext x
  by_cases h : e.1 = x
  ·rw [if_pos h, if_pos h, h]
  ·rw [if_neg h, if_neg h]
 rw [this, rV_, if_pos (hA v hv e he).1]
theorem Ways.of_in {A : Nat → List (Nat × Nat)} {N C : Nat} {S : Nat → Prop} {d w : Nat → Int} (hA : GrB A N C) (hB : sQ_ A N) (h1 : ∀ s, S s → w s = 1)
  (h : ∀ v, v < N → 0 ≤ d v → ¬ S v → w v = wrap64 (qy_ A N v fun x c => if 0 ≤ d x ∧ d x + (c : Int) = d v then w x else 0)) : Ways A N S d w :=
 ⟨h1, fun v hv h0 hs => by rw [h v hv h0 hs, ru_ hA hB hv]⟩
structure Sea (Q : Nat → List (Nat × Nat)) (N C s0 : Nat) (done : Nat → Bool) (d w : Nat → Int) (m : Int) (j : Nat) : Prop where
 st : d s0 = 0
 w0 : w s0 = 1
 low : ∀ v, v < N → -1 ≤ d v
 high : ∀ v, v < N → d v ≤ ((C * j : Nat) : Int)
 sub : GrB Q N C
 off : ∀ x, x < N → done x = false → Q x = []
 on : ∀ x, x < N → done x = true → 0 ≤ d x ∧ d x ≤ m
 up : ∀ v, v < N → done v = false → 0 ≤ d v → m ≤ d v
 go : ∀ x, x < N → ∀ e ∈ Q x, 0 ≤ d e.1 ∧ d e.1 ≤ d x + (e.2 : Int)
 by_ : ∀ v, v < N → 0 ≤ d v → v = s0 ∨ ∃ x, x < N ∧ ∃ c : Nat, (v, c) ∈ Q x ∧ d v = d x + (c : Int)
 ways : ∀ v, v < N → v ≠ s0 → w v = wrap64 (qy_ Q N v fun x c => if d x + (c : Int) = d v then w x else 0)
def upd {α : Type} (f : Nat → α) (u : Nat) (a : α) : Nat → α := fun x => if x = u then a else f x
theorem qc_ {α : Type} (f : Nat → α) (u : Nat) (a : α) : upd f u a u = a := if_pos rfl
theorem qd_ {α : Type} (f : Nat → α) {u x : Nat} (a : α) (h : x ≠ u) : upd f u a x = f x := if_neg h
theorem q8_ {Q : Nat → List (Nat × Nat)} {N v : Nat} {f g : Nat → Nat → Int} (h : ∀ x, x < N → ∀ e ∈ Q x, e.1 = v → f x e.2 = g x e.2) : qy_ Q N v f = qy_ Q N v g := by
 unfold qy_
 refine congrArg qj_ (List.map_congr_left fun x hx => congrArg qj_ (List.map_congr_left fun e he => ?_))
 by_cases q : e.1 = v
 ·rw [if_pos q, if_pos q, h x (List.mem_range.1 hx) e he q]
 ·rw [if_neg q, if_neg q]
theorem qw_ {α : Type} {g : α → Int} : ∀ l : List α, (∀ x ∈ l, g x = 0) → qj_ (l.map g) = 0
 | [], _ => rfl
 | x :: l, h => by
  simp only [List.map_cons, qj_]
  rw [h x (by simp), qw_ l fun y hy => h y (by simp [hy])]
  rfl
theorem q0_ {Q : Nat → List (Nat × Nat)} {N v : Nat} {f : Nat → Nat → Int} (h : ∀ x, x < N → ∀ e ∈ Q x, e.1 = v → f x e.2 = 0) : qy_ Q N v f = 0 := by
 refine qw_ _ fun x hx => qw_ _ fun e he => ?_
 by_cases q : e.1 = v
 ·rw [if_pos q, h x (List.mem_range.1 hx) e he q]
 ·rw [if_neg q]
theorem q9_ {Q : Nat → List (Nat × Nat)} {N v u t c : Nat} {f : Nat → Nat → Int} (hu : u < N) : qy_ (upd Q u (Q u ++ [(t, c)])) N v f = qy_ Q N v f + if t = v then f u c else 0 := by
 unfold qy_
 have h : ∀ M : Nat, qj_ ((List.range M).map fun x => qj_ ((upd Q u (Q u ++ [(t, c)]) x).map fun e => if e.1 = v then f x e.2 else 0)) = qj_ ((List.range M).map fun x => qj_ ((Q x).map fun e => if e.1 = v then f x e.2 else 0)) + if u < M then (if t = v then f u c else 0) else 0 := by
  intro M
  induction M with
  | zero => simp [qj_]
  | succ M ih =>
   rw [List.range_succ, List.map_append, List.map_append, qp_, qp_, ih]
   simp only [List.map_cons, List.map_nil, qj_]
   by_cases e : M = u
   ·subst e
    rw [qc_, List.map_append, qp_, if_neg (Nat.lt_irrefl _), if_pos (Nat.lt_succ_self _)]
    simp only [List.map_cons, List.map_nil, qj_]
    omega
   ·rw [qd_ _ _ e]
    by_cases q : u < M
    ·rw [if_pos q, if_pos (show u < M + 1 by omega)]; omega
    ·rw [if_neg q, if_neg (show ¬ u < M + 1 by omega)]; omega
 rw [h N, if_pos hu]
theorem rU_ (a b : Int) : wrap64 (wrap64 a + b) = wrap64 (a + b) := by
 unfold wrap64
 omega
theorem Sea.pick {Q : Nat → List (Nat × Nat)} {N C s0 u j : Nat} {done : Nat → Bool} {d w : Nat → Int} {m : Int} (h : Sea Q N C s0 done d w m j) (hu : u < N) (hd : done u = false) (h0 : 0 ≤ d u)
  (hm : ∀ v, v < N → done v = false → 0 ≤ d v → d u ≤ d v) : Sea Q N C s0 (upd done u true) d w (d u) (j + 1) ∧ d u + (C : Int) ≤ ((C * (j + 1) : Nat) : Int) ∧ Q u = [] := by
 have hup := h.up u hu hd h0
 have hj : (C * (j + 1) : Nat) = C * j + C := Nat.mul_succ C j
 refine ⟨⟨h.st, h.w0, h.low, fun v hv => ?_, h.sub, fun x hx hq => ?_, fun x hx hq => ?_, fun v hv hq h1 => ?_, h.go, h.by_, h.ways⟩, ?_, h.off u hu hd⟩
 ·have := h.high v hv
  rw [hj]; omega
 ·by_cases e : x = u
  ·rw [e, qc_] at hq; cases hq
  ·rw [qd_ _ _ e] at hq; exact h.off x hx hq
 ·by_cases e : x = u
  ·rw [e]; exact ⟨h0, Int.le_refl _⟩
  ·rw [qd_ _ _ e] at hq
   have := h.on x hx hq
   omega
 ·by_cases e : v = u
  ·rw [e]; exact Int.le_refl _
  ·rw [qd_ _ _ e] at hq; exact hm v hv hq h1
 ·have := h.high u hu
  rw [hj]; omega
def s5_ (d : Nat → Int) (u t c : Nat) : Nat → Int := if d t < 0 ∨ d u + (c : Int) < d t then upd d t (d u + (c : Int)) else d
def s9_ (d w : Nat → Int) (u t c : Nat) : Nat → Int := if d t < 0 ∨ d u + (c : Int) < d t then upd w t (wrap64 (0 + w u)) else if d u + (c : Int) = d t then upd w t (wrap64 (w t + w u)) else w
theorem Sea.edge {Q : Nat → List (Nat × Nat)} {N C s0 u t c j : Nat} {done : Nat → Bool} {d w : Nat → Int} (h : Sea Q N C s0 done d w (d u) j) (hu : u < N) (hd : done u = true) (ht : t < N) (hc : 1 ≤ c) (hc2 : c ≤ C) (hj : d u + (C : Int) ≤ ((C * j : Nat) : Int)) :
  Sea (upd Q u (Q u ++ [(t, c)])) N C s0 done (s5_ d u t c) (s9_ d w u t c) (s5_ d u t c u) j ∧ s5_ d u t c u = d u := by
 have hu0 := (h.on u hu hd).1
 have hsub : GrB (upd Q u (Q u ++ [(t, c)])) N C := by
  intro x hx e he
  by_cases q : x = u
  ·rw [q, qc_] at he
   rcases List.mem_append.1 he with he | he
   ·exact h.sub u hu e he
   ·rw [List.mem_singleton.1 he]; exact ⟨ht, hc, hc2⟩
  ·rw [qd_ _ _ q] at he; exact h.sub x hx e he
 have hoff : ∀ x, x < N → done x = false → upd Q u (Q u ++ [(t, c)]) x = [] := by
  intro x hx hq
  have : x ≠ u := fun e => by rw [e, hd] at hq; cases hq
  rw [qd_ _ _ this]; exact h.off x hx hq
 by_cases hA : d t < 0 ∨ d u + (c : Int) < d t
 ·have hD : s5_ d u t c = upd d t (d u + (c : Int)) := if_pos hA
  have hW : s9_ d w u t c = upd w t (wrap64 (0 + w u)) := if_pos hA
  have hdt : done t = false := by
   cases q : done t
   ·rfl
   ·have := h.on t ht q; omega
  have hut : u ≠ t := fun e => by rw [e, hdt] at hd; cases hd
  have hts : t ≠ s0 := fun e => by have := h.st; rw [e] at hA; omega
  have hQt := h.off t ht hdt
  have hdu : upd d t (d u + (c : Int)) u = d u := qd_ _ _ hut
  have hx : ∀ x, x < N → ∀ e ∈ Q x, x ≠ t := by
   intro x _ e he q
   rw [q, hQt] at he; cases he
  rw [hD, hW, hdu]
  refine ⟨⟨?_, ?_, fun v hv => ?_, fun v hv => ?_, hsub, hoff, fun x hx1 hq => ?_, fun v hv hq h1 => ?_, fun x hx1 e he => ?_, fun v hv h1 => ?_, fun v hv hvs => ?_⟩, rfl⟩
  ·rw [qd_ _ _ (Ne.symm hts)]; exact h.st
  ·rw [qd_ _ _ (Ne.symm hts)]; exact h.w0
  ·by_cases q : v = t
   ·rw [q, qc_]; omega
   ·rw [qd_ _ _ q]; exact h.low v hv
  ·by_cases q : v = t
   ·rw [q, qc_]; omega
   ·rw [qd_ _ _ q]; exact h.high v hv
  ·have : x ≠ t := fun e => by rw [e, hdt] at hq; cases hq
   rw [qd_ _ _ this]; exact h.on x hx1 hq
  ·by_cases q : v = t
   ·rw [q, qc_]; omega
   ·rw [qd_ _ _ q] at h1 ⊢; exact h.up v hv hq h1
  ·have key : ∀ x, x < N → ∀ e ∈ Q x, 0 ≤ upd d t (d u + (c : Int)) e.1 ∧ upd d t (d u + (c : Int)) e.1 ≤ upd d t (d u + (c : Int)) x + (e.2 : Int) := by
    intro x hx1 e he
    have hg := h.go x hx1 e he
    rw [qd_ (x := x) _ _ (hx x hx1 e he)]
    by_cases q : e.1 = t
    ·rw [q] at hg ⊢
     rw [qc_]; omega
    ·rw [qd_ _ _ q]; exact hg
   by_cases q : x = u
   ·rw [q, qc_] at he
    rw [q]
    rcases List.mem_append.1 he with he | he
    ·exact key u hu e he
    ·rw [List.mem_singleton.1 he]
     show 0 ≤ upd d t (d u + (c : Int)) t ∧ upd d t (d u + (c : Int)) t ≤ upd d t (d u + (c : Int)) u + (c : Int)
     rw [qc_, hdu]; omega
   ·rw [qd_ _ _ q] at he; exact key x hx1 e he
  ·by_cases q : v = t
   ·refine .inr ⟨u, hu, c, ?_, ?_⟩
    ·rw [qc_, q]; simp
    ·rw [q, qc_, hdu]
   ·rw [qd_ _ _ q] at h1
    rcases h.by_ v hv h1 with e | ⟨x, hx1, c', hm, he⟩
    ·exact .inl e
    ·refine .inr ⟨x, hx1, c', ?_, ?_⟩
     ·by_cases q2 : x = u
      ·rw [q2, qc_]; rw [q2] at hm; exact List.mem_append_left _ hm
      ·rw [qd_ _ _ q2]; exact hm
     ·rw [qd_ _ _ q, qd_ _ _ (hx x hx1 _ hm)]; exact he
  ·rw [q9_ hu]
   by_cases q : v = t
   ·rw [q, qc_, qc_, hdu, qd_ _ _ hut, if_pos rfl, if_pos rfl]
    rw [q0_ fun x hx1 e he e1 => ?_]
    have hg := h.go x hx1 e he
    rw [qd_ (x := x) _ _ (hx x hx1 e he)]
    rw [e1] at hg
    rw [if_neg (by omega)]
   ·rw [if_neg (Ne.symm q), qd_ _ _ q, qd_ (x := v) _ _ q, h.ways v hv hvs, Int.add_zero]
    refine congrArg wrap64 (q8_ fun x hx1 e he e1 => ?_)
    rw [qd_ (x := x) _ _ (hx x hx1 e he), qd_ (x := x) _ _ (hx x hx1 e he)]
 ·have hD : s5_ d u t c = d := if_neg hA
  have hgo : ∀ x, x < N → ∀ e ∈ upd Q u (Q u ++ [(t, c)]) x, 0 ≤ d e.1 ∧ d e.1 ≤ d x + (e.2 : Int) := by
   intro x hx1 e he
   by_cases q : x = u
   ·rw [q, qc_] at he
    rw [q]
    rcases List.mem_append.1 he with he | he
    ·exact h.go u hu e he
    ·rw [List.mem_singleton.1 he]
     show 0 ≤ d t ∧ d t ≤ d u + (c : Int)
     omega
   ·rw [qd_ _ _ q] at he; exact h.go x hx1 e he
  have hby : ∀ v, v < N → 0 ≤ d v → v = s0 ∨ ∃ x, x < N ∧ ∃ c' : Nat, (v, c') ∈ upd Q u (Q u ++ [(t, c)]) x ∧ d v = d x + (c' : Int) := by
   intro v hv h1
   rcases h.by_ v hv h1 with e | ⟨x, hx1, c', hm, he⟩
   ·exact .inl e
   ·refine .inr ⟨x, hx1, c', ?_, he⟩
    by_cases q2 : x = u
    ·rw [q2, qc_]; rw [q2] at hm; exact List.mem_append_left _ hm
    ·rw [qd_ _ _ q2]; exact hm
  rw [hD]
  refine ⟨?_, rfl⟩
  by_cases hB : d u + (c : Int) = d t
  ·have hW : s9_ d w u t c = upd w t (wrap64 (w t + w u)) := (if_neg hA).trans (if_pos hB)
   have hdt : done t = false := by
    cases q : done t
    ·rfl
    ·have := h.on t ht q; omega
   have hut : u ≠ t := fun e => by rw [e, hdt] at hd; cases hd
   have hts : t ≠ s0 := fun e => by have := h.st; rw [e] at hB; omega
   have hQt := h.off t ht hdt
   have hx : ∀ x, x < N → ∀ e ∈ Q x, x ≠ t := by
    intro x _ e he q
    rw [q, hQt] at he; cases he
   rw [hW]
   refine ⟨h.st, ?_, h.low, h.high, hsub, hoff, h.on, h.up, hgo, hby, fun v hv hvs => ?_⟩
   ·rw [qd_ _ _ (Ne.symm hts)]; exact h.w0
   ·rw [q9_ hu]
    have hsame : qy_ Q N v (fun x c_1 => if d x + (c_1 : Int) = d v then upd w t (wrap64 (w t + w u)) x else 0) = qy_ Q N v (fun x c => if d x + (c : Int) = d v then w x else 0) :=
     q8_ fun x hx1 e he e1 => by rw [qd_ _ _ (hx x hx1 e he)]
    rw [hsame]
    by_cases q : v = t
    ·rw [q, qc_, if_pos rfl, if_pos hB, qd_ _ _ hut, h.ways t ht hts, rU_]
    ·rw [if_neg (Ne.symm q), qd_ _ _ q, h.ways v hv hvs, Int.add_zero]
  ·have hW : s9_ d w u t c = w := (if_neg hA).trans (if_neg hB)
   rw [hW]
   refine ⟨h.st, h.w0, h.low, h.high, hsub, hoff, h.on, h.up, hgo, hby, fun v hv hvs => ?_⟩
   rw [q9_ hu]
   by_cases q : t = v
   ·rw [if_pos q, if_neg (by rw [← q]; exact hB), h.ways v hv hvs, Int.add_zero]
   ·rw [if_neg q, h.ways v hv hvs, Int.add_zero]
theorem Sea.end_ {A Q : Nat → List (Nat × Nat)} {N C s0 j : Nat} {done : Nat → Bool} {d w : Nat → Int} {m : Int} (h : Sea Q N C s0 done d w m j) (hs : s0 < N) (hA : GrB A N C) (hB : sQ_ A N) (hq : ∀ x, x < N → done x = true → Q x = A x) (he : ∀ v, v < N → done v = false → d v < 0) :
  Far A N (fun v => v = s0) d ∧ Ways A N (fun v => v = s0) d w := by
 have hd : ∀ x, x < N → 0 ≤ d x → Q x = A x := by
  intro x hx h0
  cases q : done x
  ·have := he x hx q; omega
  ·exact hq x hx q
 refine ⟨⟨fun s e => by rw [e]; exact h.st, fun u hu h0 e hm => h.go u hu e (by rw [hd u hu h0]; exact hm), fun v hv h0 => ?_⟩, Ways.of_in hA hB (fun s e => by rw [e]; exact h.w0) fun v hv h0 hvs => ?_⟩
 ·rcases h.by_ v hv h0 with e | ⟨x, hx, c, hm, e⟩
  ·exact .inl e
  ·have hx0 : 0 ≤ d x := by
    cases q : done x
    ·rw [h.off x hx q] at hm; cases hm
    ·exact (h.on x hx q).1
   exact .inr ⟨x, hx, hx0, c, by rw [← hd x hx hx0]; exact hm, e⟩
 ·rw [h.ways v hv hvs]
  unfold qy_
  refine congrArg (fun l => wrap64 (qj_ l)) (List.map_congr_left fun x hx => ?_)
  have hx := List.mem_range.1 hx
  by_cases h1 : 0 ≤ d x
  ·rw [hd x hx h1]
   refine congrArg qj_ (List.map_congr_left fun e he => ?_)
   simp only [h1, true_and]
  ·have hn : done x = false := by
    cases q : done x
    ·rfl
    ·have := (h.on x hx q).1; omega
   rw [h.off x hx hn]
   refine (qw_ _ fun e he => ?_).symm
   by_cases q : e.1 = v
   ·rw [if_pos q]
    exact if_neg fun h => h1 h.1
   ·rw [if_neg q]
theorem rc_ {t : List Int} (a b : Int) (hn : t.length ≤ 1048576) : ∀ (d k i : Nat), i + d = t.length → d < k → ∃ r, spec_l1Rising.l0 k t a b t (t.length : Int) (i : Int) = some r ∧ (r = true ↔ ∀ m : Nat, i ≤ m → m < t.length → (a ≤ rd t (m : Int) ∧ rd t (m : Int) ≤ b) ∧ (0 < m → rd t ((m : Int) - 1) < rd t (m : Int))) := by
 intro d
 induction d with
 | zero =>
  intro k i hi hk
  obtain ⟨k, rfl⟩ := qb_ hk
  simp only [spec_l1Rising.l0]
  rw [if_neg (by omega)]
  exact ⟨true, rfl, by simp only [true_iff]; intro m h1 h2; omega⟩
 | succ d ih =>
  intro k i hi hk
  obtain ⟨k, rfl⟩ := qb_ hk
  have hlt : i < t.length := by omega
  simp only [spec_l1Rising.l0]
  rw [if_pos (by omega), if_pos (by omega), if_pos (by omega), qI_, Option.bind_some, qa_ hlt (by omega)]
  obtain ⟨r, hr, hri⟩ := ih k (i + 1) (by omega) (by omega)
  cases hb : inB (rd t (i : Int)) a b
  ·rw [if_neg (by simp)]
   refine ⟨false, rfl, ?_⟩
   simp only [Bool.false_eq_true, false_iff]
   intro h
   have := (h i (Nat.le_refl _) hlt).1
   rw [← qJ_, hb] at this
   cases this
  ·rw [if_pos rfl]
   rw [qJ_] at hb
   by_cases h0 : (i : Int) > 0
   ·have hw : wrap64 ((i : Int) - 1) = (i : Int) - 1 := qq_ (by omega) (by omega)
    rw [if_pos h0, hw, if_pos (by omega), if_pos (by omega)]
    by_cases hg : rd t ((i : Int) - 1) ≥ rd t (i : Int)
    ·rw [if_pos hg]
     refine ⟨false, rfl, ?_⟩
     simp only [Bool.false_eq_true, false_iff]
     intro h
     have := (h i (Nat.le_refl _) hlt).2 (by omega)
     omega
    ·rw [if_neg hg]
     refine ⟨r, hr, hri.trans ⟨fun h m h1 h2 => ?_, fun h m h1 h2 => h m (by omega) h2⟩⟩
     by_cases e : m = i
     ·subst e
      exact ⟨hb, fun _ => by omega⟩
     ·exact h m (by omega) h2
   ·rw [if_neg h0]
    refine ⟨r, hr, hri.trans ⟨fun h m h1 h2 => ?_, fun h m h1 h2 => h m (by omega) h2⟩⟩
    by_cases e : m = i
    ·subst e
     exact ⟨hb, fun _ => by omega⟩
    ·exact h m (by omega) h2
theorem sB_ {t : List Int} {p : Int → Prop} : (∀ x ∈ t, p x) ↔ ∀ m : Nat, m < t.length → p (rd t (m : Int)) := by
 constructor
 ·intro h m hm
  refine h _ ?_
  unfold rd
  rw [Int.toNat_natCast]
  exact qo_ hm 0
 ·intro h x hx
  obtain ⟨m, hm, rfl⟩ := List.mem_iff_getElem.1 hx
  have := h m hm
  unfold rd at this
  rw [Int.toNat_natCast, List.getD_eq_getElem?_getD, List.getElem?_eq_getElem hm] at this
  exact this
def Aof (E : Int → List S110) (u : Nat) : List (Nat × Nat) := (E (u : Int)).map fun e => (e.f0.toNat, e.f1.toNat)
def dd (dist : List Int) (v : Nat) : Int := dist.getD v 0
theorem qZ_ (dist : List Int) {x : Int} (h : 0 ≤ x) : rdOf 0 dist x = dd dist x.toNat := rfl
theorem qW_ {dist : List Int} {u : Nat} (a : Int) (hu : u < dist.length) (v : Nat) : dd (dist.set u a) v = if v = u then a else dd dist v := by
 unfold dd
 rw [List.getD_eq_getElem?_getD, List.getD_eq_getElem?_getD, List.getElem?_set]
 by_cases h : v = u
 ·subst h
  simp [hu]
 ·rw [if_neg (fun e => h e.symm), if_neg h]
def GrI (E : Int → List S110) (N C G : Nat) : Prop := ∀ u : Nat, u < N → (E (u : Int)).length ≤ G ∧ ∀ e ∈ E (u : Int), 0 ≤ e.f0 ∧ e.f0 < (N : Int) ∧ 1 ≤ e.f1 ∧ e.f1 ≤ (C : Int)
theorem GrI.b {E : Int → List S110} {N C G : Nat} (h : GrI E N C G) : GrB (Aof E) N C := by
 intro u hu e he
 obtain ⟨x, hx, rfl⟩ := List.mem_map.1 he
 have := (h u hu).2 x hx
 simp only
 omega
theorem qU_ (n b : Nat) (w : List (List Int)) : (frPad n w).getD b [] = w.getD b [] := by
 unfold frPad
 rw [List.getD_eq_getElem?_getD, List.getD_eq_getElem?_getD, List.getElem?_append]
 by_cases h : b < w.length
 ·rw [if_pos h]
 ·rw [if_neg h, List.getElem?_eq_none (Nat.not_lt.1 h), List.getElem?_replicate]
  split <;> rfl
theorem qT_ (n : Nat) (w : List (List Int)) : (frPad n w).length = w.length + (n + 1 - w.length) := by
 unfold frPad
 rw [List.length_append, List.length_replicate]
theorem rJ_ {w : List (List Int)} {u : Nat} (a : List Int) (hu : u < w.length) (v : Nat) : (w.set u a).getD v [] = if v = u then a else w.getD v [] := by
 rw [List.getD_eq_getElem?_getD, List.getD_eq_getElem?_getD, List.getElem?_set]
 by_cases h : v = u
 ·subst h
  simp [hu]
 ·rw [if_neg (fun e => h e.symm), if_neg h]
theorem q1_ {N C W L d : Nat} {dist : List Int} (hl : dist.length = N) (hW : W < 1000000) (hd : d + C + 1 ≤ W) : ∀ (es : List S110) (w : List (List Int)), (∀ e ∈ es, 0 ≤ e.f0 ∧ e.f0 < (N : Int) ∧ 1 ≤ e.f1 ∧ e.f1 ≤ (C : Int)) → w.length ≤ W → L < 1000000 → (∀ b, (w.getD b []).length + es.length ≤ L) →
  ∃ w', frEdges d dist es w = some w' ∧ w.length ≤ w'.length ∧ w'.length ≤ W ∧ (∀ b, ∃ t, w'.getD b [] = w.getD b [] ++ t ∧ t.length ≤ es.length ∧ ∀ x ∈ t, ∃ e ∈ es, x = e.f0 ∧ b = d + e.f1.toNat) ∧ ∀ e ∈ es, dd dist e.f0.toNat < 0 → e.f0 ∈ w'.getD (d + e.f1.toNat) []
 | [], w, _, hw, _, _ => ⟨w, rfl, Nat.le_refl _, hw, fun b => ⟨[], (List.append_nil _).symm, Nat.le_refl _, fun _ h => by cases h⟩, fun _ h => by cases h⟩
 | e :: es, w, he, hw, hL, hb => by
  have h1 := he e (by simp)
  have hlen : (e :: es).length = es.length + 1 := rfl
  unfold frEdges
  rw [if_pos ⟨h1.1, by omega⟩, qZ_ _ h1.1]
  by_cases hs : dd dist e.f0.toNat ≥ 0
  ·rw [if_pos hs]
   obtain ⟨w', a1, a2, a3, a4, a5⟩ := q1_ (L := L) hl hW hd es w (fun x hx => he x (by simp [hx])) hw hL (fun b => by have := hb b; omega)
   refine ⟨w', a1, a2, a3, fun b => ?_, fun x hx hn => ?_⟩
   ·obtain ⟨t, t1, t2, t3⟩ := a4 b
    refine ⟨t, t1, by omega, fun x hx => ?_⟩
    obtain ⟨y, y1, y2⟩ := t3 x hx
    exact ⟨y, by simp [y1], y2⟩
   ·rcases List.mem_cons.1 hx with q | q
    ·rw [q] at hn; omega
    ·exact a5 x q hn
  ·rw [if_neg hs]
   have hp := qT_ (d + e.f1.toNat) w
   have hg := qU_ (d + e.f1.toNat) (d + e.f1.toNat) w
   have hbb := hb (d + e.f1.toNat)
   rw [hg, if_pos ⟨h1.2.2.1, by omega, by omega, by omega⟩]
   have hin : d + e.f1.toNat < (frPad (d + e.f1.toNat) w).length := by omega
   have hget : ∀ b, ((frPad (d + e.f1.toNat) w).set (d + e.f1.toNat) (w.getD (d + e.f1.toNat) [] ++ [e.f0])).getD b [] = if b = d + e.f1.toNat then w.getD (d + e.f1.toNat) [] ++ [e.f0] else w.getD b [] := by
    intro b
    rw [rJ_ _ hin, qU_]
   obtain ⟨w', a1, a2, a3, a4, a5⟩ := q1_ (L := L) hl hW hd es ((frPad (d + e.f1.toNat) w).set (d + e.f1.toNat) (w.getD (d + e.f1.toNat) [] ++ [e.f0])) (fun x hx => he x (by simp [hx])) (by rw [List.length_set]; omega) hL (fun b => by
    rw [hget]
    have := hb b
    split
    ·rw [List.length_append, List.length_singleton]; omega
    ·omega)
   rw [List.length_set] at a2
   refine ⟨w', a1, by omega, a3, fun b => ?_, fun x hx hn => ?_⟩
   ·obtain ⟨t, t1, t2, t3⟩ := a4 b
    rw [hget] at t1
    by_cases q : b = d + e.f1.toNat
    ·rw [if_pos q] at t1
     refine ⟨e.f0 :: t, ?_, by rw [List.length_cons]; omega, fun x hx => ?_⟩
     ·rw [t1, q, List.append_assoc]; rfl
     ·rcases List.mem_cons.1 hx with h | h
      ·exact ⟨e, by simp, h, q⟩
      ·obtain ⟨y, y1, y2⟩ := t3 x h
       exact ⟨y, by simp [y1], y2⟩
    ·rw [if_neg q] at t1
     refine ⟨t, t1, by omega, fun x hx => ?_⟩
     obtain ⟨y, y1, y2⟩ := t3 x hx
     exact ⟨y, by simp [y1], y2⟩
   ·rcases List.mem_cons.1 hx with q | q
    ·obtain ⟨t, t1, -, -⟩ := a4 (d + e.f1.toNat)
     rw [hget, if_pos rfl] at t1
     rw [q, t1]
     simp
    ·exact a5 x q hn
def rT_ (d i : Nat) (w : List (List Int)) (b v : Nat) : Prop := d ≤ b ∧ (v : Int) ∈ (if b = d then (w.getD b []).drop i else w.getD b [])
def q3_ (dist : List Int) : Nat := dist.countP fun x => decide (0 ≤ x)
theorem sm_ {dist : List Int} {u : Nat} {a : Int} (hu : u < dist.length) (h : dd dist u < 0) (ha : 0 ≤ a) : q3_ (dist.set u a) = q3_ dist + 1 := by
 induction dist generalizing u with
 | nil => simp at hu
 | cons x xs ih =>
  cases u with
  | zero =>
   have hx : x < 0 := h
   unfold q3_
   rw [List.set_cons_zero, List.countP_cons, List.countP_cons, if_pos (by simpa using ha), if_neg (by simp; omega)]
  | succ u =>
   have := ih (u := u) (by simpa using hu) h
   unfold q3_ at this ⊢
   rw [List.set_cons_succ, List.countP_cons, List.countP_cons, this]
   omega
structure Bk (E : Int → List S110) (N C G B : Nat) (S : Nat → Prop) (d i : Nat) (dist : List Int) (w : List (List Int)) : Prop where
 len : dist.length = N
 low : ∀ v, v < N → -1 ≤ dd dist v
 set_ : ∀ v, v < N → dd dist v ≤ (d : Int)
 hi : ∀ v, v < N → dd dist v ≤ ((C * q3_ dist : Nat) : Int)
 wl : w.length ≤ C * q3_ dist + 1
 dl : d ≤ w.length
 ent : ∀ b, ∀ x ∈ w.getD b [], 0 ≤ x ∧ x < (N : Int) ∧ ((S x.toNat ∧ b = 0) ∨ ∃ u, u < N ∧ 0 ≤ dd dist u ∧ ∃ c : Nat, (x.toNat, c) ∈ Aof E u ∧ (b : Int) = dd dist u + (c : Int))
 sz : ∀ b, (w.getD b []).length ≤ B + G * q3_ dist
 st : ∀ s, S s → s < N ∧ (dd dist s = 0 ∨ dd dist s < 0 ∧ rT_ d i w 0 s)
 go : ∀ u, u < N → 0 ≤ dd dist u → ∀ e ∈ Aof E u, (0 ≤ dd dist e.1 ∧ dd dist e.1 ≤ dd dist u + (e.2 : Int)) ∨ (dd dist e.1 < 0 ∧ ∃ b : Nat, (b : Int) = dd dist u + (e.2 : Int) ∧ rT_ d i w b e.1)
 by_ : ∀ v, v < N → 0 ≤ dd dist v → S v ∨ ∃ u, u < N ∧ 0 ≤ dd dist u ∧ ∃ c : Nat, (v, c) ∈ Aof E u ∧ dd dist v = dd dist u + (c : Int)
theorem rh_ (dist : List Int) : q3_ dist ≤ dist.length := List.countP_le_length
theorem Bk.end_ {E : Int → List S110} {N C G B : Nat} {S : Nat → Prop} {d i : Nat} {dist : List Int} {w : List (List Int)} (h : Bk E N C G B S d i dist w) (hd : ¬ d < w.length) : Far (Aof E) N S (dd dist) := by
 have hn : ∀ b v, ¬ rT_ d i w b v := by
  intro b v ⟨h1, h2⟩
  have : w.getD b [] = [] := by rw [List.getD_eq_getElem?_getD, List.getElem?_eq_none (by omega)]; rfl
  rw [this] at h2
  split at h2 <;> simp at h2
 refine ⟨fun s hs => ?_, fun u hu h0 e he => ?_, h.by_⟩
 ·rcases (h.st s hs).2 with e | ⟨-, e⟩
  ·exact e
  ·exact absurd e (hn _ _)
 ·rcases h.go u hu h0 e he with q | ⟨-, b, -, q⟩
  ·exact q
  ·exact absurd q (hn _ _)
theorem Bk.next {E : Int → List S110} {N C G B : Nat} {S : Nat → Prop} {d i : Nat} {dist : List Int} {w : List (List Int)} (h : Bk E N C G B S d i dist w) (hd : d < w.length) (hi : ¬ i < (w.getD d []).length) : Bk E N C G B S (d + 1) 0 dist w := by
 have hp : ∀ b v, rT_ d i w b v → rT_ (d + 1) 0 w b v := by
  intro b v ⟨h1, h2⟩
  by_cases e : b = d
  ·rw [if_pos e, e, List.drop_eq_nil_of_le (Nat.not_lt.1 hi)] at h2
   simp at h2
  ·rw [if_neg e] at h2
   refine ⟨by omega, ?_⟩
   split
   ·rw [List.drop_zero]; exact h2
   ·exact h2
 refine { h with set_ := fun v hv => ?_, dl := hd, st := fun s hs => ?_, go := fun u hu h0 e he => ?_ }
 ·have := h.set_ v hv
  omega
 ·obtain ⟨a, b⟩ := h.st s hs
  exact ⟨a, b.imp id fun ⟨q1, q2⟩ => ⟨q1, hp _ _ q2⟩⟩
 ·exact (h.go u hu h0 e he).imp id fun ⟨q1, b, q2, q3⟩ => ⟨q1, b, q2, hp _ _ q3⟩
theorem qR_ {d i : Nat} {w : List (List Int)} {b v : Nat} (hi : i < (w.getD d []).length) (h : rT_ d i w b v) : (b = d ∧ (v : Int) = (w.getD d []).getD i 0) ∨ rT_ d (i + 1) w b v := by
 obtain ⟨h1, h2⟩ := h
 by_cases e : b = d
 ·rw [if_pos e, e, qg_ _ i hi 0] at h2
  rcases List.mem_cons.1 h2 with q | q
  ·exact .inl ⟨e, q⟩
  ·exact .inr ⟨h1, by rw [if_pos e, e]; exact q⟩
 ·rw [if_neg e] at h2
  exact .inr ⟨h1, by rw [if_neg e]; exact h2⟩
theorem Bk.skip {E : Int → List S110} {N C G B : Nat} {S : Nat → Prop} {d i : Nat} {dist : List Int} {w : List (List Int)} (h : Bk E N C G B S d i dist w) (hi : i < (w.getD d []).length) (hs : 0 ≤ dd dist ((w.getD d []).getD i 0).toNat) : Bk E N C G B S d (i + 1) dist w := by
 have hx := h.ent d _ (qo_ hi 0)
 have hp : ∀ b v, dd dist v < 0 → rT_ d i w b v → rT_ d (i + 1) w b v := by
  intro b v hv hq
  rcases qR_ hi hq with ⟨-, e⟩ | q
  ·rw [← e, Int.toNat_natCast] at hs; omega
  ·exact q
 refine { h with st := fun s hs => ?_, go := fun u hu h0 e he => ?_ }
 ·obtain ⟨a, b⟩ := h.st s hs
  exact ⟨a, b.imp id fun ⟨q1, q2⟩ => ⟨q1, hp _ _ q1 q2⟩⟩
 ·exact (h.go u hu h0 e he).imp id fun ⟨q1, b, q2, q3⟩ => ⟨q1, b, q2, hp _ _ q1 q3⟩
theorem Bk.settle {E : Int → List S110} {N C G B : Nat} {S : Nat → Prop} {d i : Nat} {dist : List Int} {w : List (List Int)} (hE : GrI E N C G) (h : Bk E N C G B S d i dist w) (hd : d < w.length) (hi : i < (w.getD d []).length) {v : Nat} (hv : (w.getD d []).getD i 0 = (v : Int)) (hs : dd dist v < 0)
  (hC : C * N + 1 < 1000000) (hG : B + G * N < 1000000) : ∃ w', frEdges d (dist.set v (d : Int)) (E (v : Int)) w = some w' ∧ Bk E N C G B S d (i + 1) (dist.set v (d : Int)) w' ∧ q3_ (dist.set v (d : Int)) = q3_ dist + 1 := by
 have hx := h.ent d _ (qo_ hi 0)
 rw [hv, Int.toNat_natCast] at hx
 have hvN : v < N := by omega
 have hvl : v < dist.length := by rw [h.len]; exact hvN
 have hcnt := sm_ (a := (d : Int)) hvl hs (by omega)
 have hcN : q3_ dist + 1 ≤ N := by
  have := rh_ (dist.set v (d : Int))
  rw [List.length_set, h.len, hcnt] at this
  exact this
 have hmC : C * (q3_ dist + 1) ≤ C * N := Nat.mul_le_mul_left _ hcN
 have hmG : G * (q3_ dist + 1) ≤ G * N := Nat.mul_le_mul_left _ hcN
 have eC : C * (q3_ dist + 1) = C * q3_ dist + C := Nat.mul_succ _ _
 have eG : G * (q3_ dist + 1) = G * q3_ dist + G := Nat.mul_succ _ _
 have hwl := h.wl
 obtain ⟨hEl, hEe⟩ := hE v hvN
 obtain ⟨w', a1, a2, a3, a4, a5⟩ := q1_ (N := N) (C := C) (W := C * (q3_ dist + 1) + 1) (L := B + G * (q3_ dist + 1)) (d := d) (dist := dist.set v (d : Int)) (by rw [List.length_set]; exact h.len) (by omega) (by omega) (E (v : Int)) w hEe (by omega) (by omega) (fun b => by have := h.sz b; omega)
 have hD : ∀ x, dd (dist.set v (d : Int)) x = if x = v then (d : Int) else dd dist x := qW_ _ hvl
 have hDv : dd (dist.set v (d : Int)) v = (d : Int) := by rw [hD, if_pos rfl]
 have hDo : ∀ x, 0 ≤ dd dist x → dd (dist.set v (d : Int)) x = dd dist x := by
  intro x hx
  rw [hD, if_neg]
  intro e
  rw [e] at hx; omega
 have hw'd : w'.getD d [] = w.getD d [] := by
  obtain ⟨t, t1, -, t3⟩ := a4 d
  cases t with
  | nil => rw [t1, List.append_nil]
  | cons y t =>
   obtain ⟨e, e1, -, e2⟩ := t3 y (by simp)
   have := (hEe e e1).2.2.1
   omega
 have hp : ∀ b x, x ≠ v → rT_ d i w b x → rT_ d (i + 1) w' b x := by
  intro b x hxv hq
  rcases qR_ hi hq with ⟨-, e⟩ | ⟨q1, q2⟩
  ·rw [hv] at e; omega
  ·refine ⟨q1, ?_⟩
   by_cases e : b = d
   ·rw [if_pos e] at q2 ⊢
    rw [e] at q2 ⊢
    rw [hw'd]; exact q2
   ·rw [if_neg e] at q2 ⊢
    obtain ⟨t, t1, -, -⟩ := a4 b
    rw [t1]
    exact List.mem_append_left _ q2
 refine ⟨w', a1, ?_, hcnt⟩
 refine ⟨by rw [List.length_set]; exact h.len, fun x hx1 => ?_, fun x hx1 => ?_, fun x hx1 => ?_, by rw [hcnt]; exact a3, Nat.le_of_lt (Nat.lt_of_lt_of_le hd a2), fun b x hm => ?_, fun b => ?_, fun s hS => ?_, fun u hu h0 e he => ?_, fun x hx1 h0 => ?_⟩
 ·rw [hD]
  split
  ·omega
  ·exact h.low x hx1
 ·rw [hD]
  split
  ·omega
  ·exact h.set_ x hx1
 ·rw [hD, hcnt]
  have := h.hi x hx1
  split <;> omega
 ·obtain ⟨t, t1, -, t3⟩ := a4 b
  rw [t1] at hm
  rcases List.mem_append.1 hm with q | q
  ·obtain ⟨e1, e2, e3⟩ := h.ent b x q
   refine ⟨e1, e2, e3.imp id fun ⟨u, u1, u2, c, u3, u4⟩ => ⟨u, u1, ?_, c, u3, ?_⟩⟩
   ·rw [hDo u u2]; exact u2
   ·rw [hDo u u2]; exact u4
  ·obtain ⟨e, e1, e2, e3⟩ := t3 x q
   have he := hEe e e1
   refine ⟨by omega, by omega, .inr ⟨v, hvN, by rw [hDv]; omega, e.f1.toNat, ?_, by rw [hDv]; omega⟩⟩
   rw [e2]
   exact List.mem_map.2 ⟨e, e1, rfl⟩
 ·obtain ⟨t, t1, t2, -⟩ := a4 b
  have := h.sz b
  rw [t1, List.length_append, hcnt]
  omega
 ·obtain ⟨s1, s2⟩ := h.st s hS
  refine ⟨s1, ?_⟩
  by_cases e : s = v
  ·left
   rcases s2 with q | ⟨-, q⟩
   ·rw [e] at q; omega
   ·rw [e, hDv]
    have := q.1
    omega
  ·rw [hD, if_neg e]
   exact s2.imp id fun ⟨q1, q2⟩ => ⟨q1, hp _ _ e q2⟩
 ·by_cases q : u = v
  ·rw [q] at he
   obtain ⟨y, y1, y2⟩ := List.mem_map.1 he
   have hy := hEe y y1
   have hyN : y.f0.toNat < N := by omega
   rw [q, hDv, ← y2]
   simp only
   by_cases z : dd (dist.set v (d : Int)) y.f0.toNat < 0
   ·right
    refine ⟨z, d + y.f1.toNat, by omega, by omega, ?_⟩
    rw [if_neg (by omega), show ((y.f0.toNat : Nat) : Int) = y.f0 by omega]
    exact a5 y y1 z
   ·left
    refine ⟨by omega, ?_⟩
    have : dd (dist.set v (d : Int)) y.f0.toNat ≤ (d : Int) := by
     rw [hD]
     split
     ·exact Int.le_refl _
     ·exact h.set_ _ hyN
    omega
  ·have hu0 : 0 ≤ dd dist u := by
    rw [hD, if_neg q] at h0; exact h0
   rw [hDo u hu0]
   rcases h.go u hu hu0 e he with ⟨z1, z2⟩ | ⟨z1, b, z2, z3⟩
   ·left
    rw [hDo _ z1]; exact ⟨z1, z2⟩
   ·by_cases q2 : e.1 = v
    ·left
     rw [q2, hDv]
     have := z3.1
     omega
    ·right
     rw [hD, if_neg q2]
     exact ⟨z1, b, z2, hp _ _ q2 z3⟩
 ·by_cases q : x = v
  ·rcases hx.2.2 with ⟨z1, -⟩ | ⟨u, u1, u2, c, u3, u4⟩
   ·left; rw [q]; exact z1
   ·right
    refine ⟨u, u1, by rw [hDo u u2]; exact u2, c, by rw [q]; exact u3, ?_⟩
    rw [q, hDv, hDo u u2]; exact u4
  ·rw [hD, if_neg q] at h0
   rcases h.by_ x hx1 h0 with z | ⟨u, u1, u2, c, u3, u4⟩
   ·exact .inl z
   ·right
    refine ⟨u, u1, by rw [hDo u u2]; exact u2, c, u3, ?_⟩
    rw [hD, if_neg q, hDo u u2]; exact u4
theorem rK_ {E : Int → List S110} {N C G B : Nat} {S : Nat → Prop} (hE : GrI E N C G) (hC : C * N + 1 < 1000000) (hG : B + G * N < 1000000) : ∀ (a b l d i : Nat) (dist : List Int) (w : List (List Int)), N - q3_ dist ≤ a → C * N + 2 - d ≤ b → (w.getD d []).length - i ≤ l → Bk E N C G B S d i dist w →
  ∃ k r, frRun E (N : Int) k d i dist w = some r ∧ Far (Aof E) N S (dd r) ∧ r.length = N ∧ (∀ v, v < N → -1 ≤ dd r v) ∧ ∀ v, v < N → dd r v ≤ ((C * N : Nat) : Int) := by
 intro a
 induction a using Nat.strongRecOn with
 | _ a iha =>
 intro b
 induction b using Nat.strongRecOn with
 | _ b ihb =>
 intro l
 induction l using Nat.strongRecOn with
 | _ l ihl =>
 intro d i dist w ha hb hl h
 have hcl := rh_ dist
 rw [h.len] at hcl
 have hmC : C * q3_ dist ≤ C * N := Nat.mul_le_mul_left _ hcl
 have hmG : G * q3_ dist ≤ G * N := Nat.mul_le_mul_left _ hcl
 by_cases c1 : d < w.length
 ·have hwl := h.wl
  by_cases c2 : i < (w.getD d []).length
  ·obtain ⟨e1, e2, -⟩ := h.ent d _ (qo_ c2 0)
   obtain ⟨v, hv⟩ : ∃ v : Nat, (w.getD d []).getD i 0 = (v : Int) := ⟨((w.getD d []).getD i 0).toNat, by omega⟩
   have hvN : v < N := by omega
   have hEl := (hE v hvN).1
   have hG1 : 1 ≤ N := by omega
   have hGN : G * 1 ≤ G * N := Nat.mul_le_mul_left _ hG1
   have hsz := h.sz d
   have hrd : rdOf 0 (w.getD d []) (i : Int) = (v : Int) := hv
   have hcond : 0 ≤ (v : Int) ∧ (v : Int) < (N : Int) ∧ i < 1000000 ∧ d < 1000000 ∧ (E (v : Int)).length < 1000000 := ⟨by omega, by omega, by omega, by omega, by omega⟩
   by_cases c3 : dd dist v ≥ 0
   ·obtain ⟨k, r, hr, hq⟩ := ihl (l - 1) (by omega) d (i + 1) dist w ha hb (by omega) (h.skip c2 (by rw [hv]; exact c3))
    refine ⟨k + 1, r, ?_, hq⟩
    rw [frRun.eq_2, if_pos c1, if_pos c2, hrd, if_pos hcond, qZ_ _ (by omega), Int.toNat_natCast, if_pos c3]
    exact hr
   ·obtain ⟨w', hw', hB', hc'⟩ := h.settle hE c1 c2 hv (by omega) hC hG
    have hc2 := rh_ (dist.set v (d : Int))
    rw [List.length_set, h.len] at hc2
    obtain ⟨k, r, hr, hq⟩ := iha (N - q3_ (dist.set v (d : Int))) (by omega) _ _ d (i + 1) (dist.set v (d : Int)) w' (Nat.le_refl _) (Nat.le_refl _) (Nat.le_refl _) hB'
    refine ⟨k + 1, r, ?_, hq⟩
    rw [frRun.eq_2, if_pos c1, if_pos c2, hrd, if_pos hcond, qZ_ _ (by omega), Int.toNat_natCast, if_neg c3, hw', Option.bind_some]
    exact hr
  ·obtain ⟨k, r, hr, hq⟩ := ihb (b - 1) (by omega) _ (d + 1) 0 dist w ha (by omega) (Nat.le_refl _) (h.next c1 c2)
   refine ⟨k + 1, r, ?_, hq⟩
   rw [frRun.eq_2, if_pos c1, if_neg c2, if_pos (by omega)]
   exact hr
 ·refine ⟨1, dist, ?_, h.end_ c1, h.len, h.low, fun v hv => ?_⟩
  ·rw [frRun.eq_2, if_neg c1]
  ·have := h.hi v hv
   omega
theorem sf_ {E : Int → List S110} {N C G s : Nat} (hE : GrI E N C G) (hs : s < N) (hN : N ≤ 1000000) (hC : C * N + 1 < 1000000) (hG : 1 + G * N < 1000000) :
  ∃ k r, impl_graph_int_from.f E k (N : Int) [(s : Int)] = some r ∧ Far (Aof E) N (fun v => v = s) (dd r) ∧ r.length = N ∧ (∀ v, v < N → -1 ≤ dd r v) ∧ ∀ v, v < N → dd r v ≤ ((C * N : Nat) : Int) := by
 have hdd : ∀ v, v < N → dd (List.replicate N (-1)) v = -1 := by
  intro v hv
  unfold dd
  rw [List.getD_eq_getElem?_getD, List.getElem?_replicate, if_pos hv]
  rfl
 have hc0 : q3_ (List.replicate N (-1)) = 0 := by
  unfold q3_
  rw [List.countP_eq_zero]
  intro x hx
  rw [(List.mem_replicate.1 hx).2]
  decide
 have hB : Bk E N C G 1 (fun v => v = s) 0 0 (List.replicate N (-1)) [[(s : Int)]] := by
  refine ⟨by simp, fun v hv => by rw [hdd v hv]; omega, fun v hv => by rw [hdd v hv]; omega, fun v hv => by rw [hdd v hv]; omega, by simp, by simp, fun b x hx => ?_, fun b => ?_, fun t ht => ?_, fun u hu h0 => ?_, fun v hv h0 => ?_⟩
  ·cases b with
   | zero =>
    have : x = (s : Int) := by simpa using hx
    rw [this]
    exact ⟨by omega, by omega, .inl ⟨Int.toNat_natCast _, rfl⟩⟩
   | succ b => simp at hx
  ·cases b with
   | zero => simp
   | succ b => simp
  ·rw [ht]
   exact ⟨hs, .inr ⟨by rw [hdd s hs]; omega, Nat.le_refl _, by simp⟩⟩
  ·rw [hdd u hu] at h0; omega
  ·rw [hdd v hv] at h0; omega
 obtain ⟨k, r, hr, hq⟩ := rK_ hE hC hG N (C * N + 2) _ 0 0 (List.replicate N (-1)) [[(s : Int)]] (by omega) (by omega) (Nat.le_refl _) hB
 refine ⟨k, r, ?_, hq⟩
 unfold impl_graph_int_from.f slices_Repeat_int_int.f
 rw [if_pos (by omega), if_pos (show [-1].length = 1 from rfl), if_pos (by omega), if_pos (by omega)]
 show frRun E (N : Int) k 0 0 (List.replicate (N : Int).toNat (-1)) [[(s : Int)]] = some r
 rw [Int.toNat_natCast]
 exact hr
theorem qt_ {α : Type} (p : α → Bool) (f : α → Int) : ∀ l : List α, qj_ ((l.filter p).map f) = qj_ (l.map fun x => if p x = true then f x else 0)
 | [] => rfl
 | x :: l => by
  rw [List.filter_cons]
  cases h : p x
  ·simp only [Bool.false_eq_true, if_false, List.map_cons, qj_, h]
   rw [qt_ p f l]
   omega
  ·simp only [if_true, List.map_cons, qj_, h]
   rw [qt_ p f l]
def s6_ : Nat → List (List Bool)
 | 0 => [[]]
 | n + 1 => (s6_ n).flatMap fun l => [true :: l, false :: l]
theorem qG_ : ∀ o : List Bool, o ∈ s6_ o.length
 | [] => by simp [s6_]
 | b :: o => by
  simp only [List.length_cons, s6_, List.mem_flatMap]
  exact ⟨o, qG_ o, by cases b <;> simp⟩
def sM_ (n : Nat) : Bool := (s6_ n).all fun o => [true, false].all fun t => match impl_State_code.f 20 o t with
 | some c => decide (0 ≤ c) && (decide (c < 2 ^ (n + 1)) && (impl_stateOf.f 20 (n : Int) c == some (o, t)))
 | none => false
def sK_ (n : Nat) : Bool := (s6_ n).all fun o => [true, false].all fun t => match spec_seIndex.f 20 o t with
 | some c => decide (0 ≤ c) && (decide (c < 2 ^ (n + 1)) && (spec_seState.f 20 c (n : Int) == some (o, t)))
 | none => false
def sN_ (n : Nat) : Bool := (List.range (2 ^ (n + 1))).all fun c => match impl_stateOf.f 20 (n : Int) (c : Int) with
 | some s => decide (s.1.length = n) && (impl_State_code.f 20 s.1 s.2 == some (c : Int))
 | none => false
def sL_ (n : Nat) : Bool := (List.range (2 ^ (n + 1))).all fun c => match spec_seState.f 20 (c : Int) (n : Int) with
 | some s => decide (s.1.length = n) && (spec_seIndex.f 20 s.1 s.2 == some (c : Int))
 | none => false
set_option maxRecDepth 100000 in
theorem s3_ : ((List.range 8).all fun n => sM_ n && (sK_ n && (sN_ n && sL_ n))) = true := by decide +kernel
theorem sn_ {n : Nat} (h : n ≤ 7) : sM_ n = true ∧ sK_ n = true ∧ sN_ n = true ∧ sL_ n = true := by
 have := List.all_eq_true.1 s3_ n (List.mem_range.2 (by omega))
 simpa only [Bool.and_eq_true] using this
theorem sv_ (t : Bool) : t ∈ [true, false] := by cases t <;> simp
theorem sX_ {o : List Bool} (t : Bool) (h : o.length ≤ 7) : ∃ c : Nat, c < 2 ^ (o.length + 1) ∧ impl_State_code.f 20 o t = some (c : Int) ∧ impl_stateOf.f 20 (o.length : Int) (c : Int) = some (o, t) := by
 have h1 := List.all_eq_true.1 (List.all_eq_true.1 (sn_ h).1 o (qG_ o)) t (sv_ t)
 cases hc : impl_State_code.f 20 o t with
 | none => rw [hc] at h1; cases h1
 | some c =>
  rw [hc] at h1
  simp only [Bool.and_eq_true, decide_eq_true_eq, beq_iff_eq] at h1
  obtain ⟨a, b, d⟩ := h1
  refine ⟨c.toNat, ?_, by rw [Int.toNat_of_nonneg a], by rw [Int.toNat_of_nonneg a]; exact d⟩
  have : ((2 ^ (o.length + 1) : Nat) : Int) = (2 : Int) ^ (o.length + 1) := by simp
  omega
theorem sW_ {o : List Bool} (t : Bool) (h : o.length ≤ 7) : ∃ c : Nat, c < 2 ^ (o.length + 1) ∧ spec_seIndex.f 20 o t = some (c : Int) ∧ spec_seState.f 20 (c : Int) (o.length : Int) = some (o, t) := by
 have h1 := List.all_eq_true.1 (List.all_eq_true.1 (sn_ h).2.1 o (qG_ o)) t (sv_ t)
 cases hc : spec_seIndex.f 20 o t with
 | none => rw [hc] at h1; cases h1
 | some c =>
  rw [hc] at h1
  simp only [Bool.and_eq_true, decide_eq_true_eq, beq_iff_eq] at h1
  obtain ⟨a, b, d⟩ := h1
  refine ⟨c.toNat, ?_, by rw [Int.toNat_of_nonneg a], by rw [Int.toNat_of_nonneg a]; exact d⟩
  have : ((2 ^ (o.length + 1) : Nat) : Int) = (2 : Int) ^ (o.length + 1) := by simp
  omega
theorem s8_ {n c : Nat} (h : n ≤ 7) (hc : c < 2 ^ (n + 1)) : ∃ o t, impl_stateOf.f 20 (n : Int) (c : Int) = some (o, t) ∧ o.length = n ∧ impl_State_code.f 20 o t = some (c : Int) := by
 have h1 := List.all_eq_true.1 (sn_ h).2.2.1 c (List.mem_range.2 hc)
 cases hs : impl_stateOf.f 20 (n : Int) (c : Int) with
 | none => rw [hs] at h1; cases h1
 | some s =>
  rw [hs] at h1
  simp only [Bool.and_eq_true, decide_eq_true_eq, beq_iff_eq] at h1
  exact ⟨s.1, s.2, rfl, h1.1, h1.2⟩
theorem s7_ {n c : Nat} (h : n ≤ 7) (hc : c < 2 ^ (n + 1)) : ∃ o t, spec_seState.f 20 (c : Int) (n : Int) = some (o, t) ∧ o.length = n ∧ spec_seIndex.f 20 o t = some (c : Int) := by
 have h1 := List.all_eq_true.1 (sn_ h).2.2.2 c (List.mem_range.2 hc)
 cases hs : spec_seState.f 20 (c : Int) (n : Int) with
 | none => rw [hs] at h1; cases h1
 | some s =>
  rw [hs] at h1
  simp only [Bool.and_eq_true, decide_eq_true_eq, beq_iff_eq] at h1
  exact ⟨s.1, s.2, rfl, h1.1, h1.2⟩
theorem qr_ {α : Type} {f : Nat → Option α} (h : ∀ k, LeO (f k) (f (k + 1))) {k k' : Nat} (hk : k ≤ k') {r : α} (hr : f k = some r) : f k' = some r := by
 induction hk with
 | refl => exact hr
 | step _ ih => exact h _ _ ih
def sI (n c : Nat) : List Bool × Bool := (impl_stateOf.f 20 (n : Int) (c : Int)).getD ([], false)
def sS (n c : Nat) : List Bool × Bool := (spec_seState.f 20 (c : Int) (n : Int)).getD ([], false)
def cI (s : List Bool × Bool) : Nat := ((impl_State_code.f 20 s.1 s.2).getD 0).toNat
def cS (s : List Bool × Bool) : Nat := ((spec_seIndex.f 20 s.1 s.2).getD 0).toNat
theorem qQ_ {n c : Nat} (h : n ≤ 7) (hc : c < 2 ^ (n + 1)) {k : Nat} (hk : 20 ≤ k) : impl_stateOf.f k (n : Int) (c : Int) = some (sI n c) ∧ (sI n c).1.length = n ∧ cI (sI n c) = c := by
 obtain ⟨o, t, h1, h2, h3⟩ := s8_ h hc
 have e : sI n c = (o, t) := by unfold sI; rw [h1]; rfl
 rw [e]
 refine ⟨qr_ (impl_stateOf.mono _ _) hk h1, h2, ?_⟩
 unfold cI
 rw [h3]
 exact Int.toNat_natCast c
theorem qP_ {n c : Nat} (h : n ≤ 7) (hc : c < 2 ^ (n + 1)) {k : Nat} (hk : 20 ≤ k) : spec_seState.f k (c : Int) (n : Int) = some (sS n c) ∧ (sS n c).1.length = n ∧ cS (sS n c) = c := by
 obtain ⟨o, t, h1, h2, h3⟩ := s7_ h hc
 have e : sS n c = (o, t) := by unfold sS; rw [h1]; rfl
 rw [e]
 refine ⟨qr_ (spec_seState.mono _ _) hk h1, h2, ?_⟩
 unfold cS
 rw [h3]
 exact Int.toNat_natCast c
theorem sq_ {s : List Bool × Bool} (h : s.1.length ≤ 7) {k : Nat} (hk : 20 ≤ k) : impl_State_code.f k s.1 s.2 = some (cI s : Int) ∧ cI s < 2 ^ (s.1.length + 1) ∧ sI s.1.length (cI s) = s := by
 obtain ⟨c, h1, h2, h3⟩ := sX_ s.2 h
 have e : cI s = c := by unfold cI; rw [h2]; exact Int.toNat_natCast c
 rw [e]
 refine ⟨qr_ (impl_State_code.mono _ _) hk h2, h1, ?_⟩
 unfold sI
 rw [h3]
 rfl
theorem qY_ {s : List Bool × Bool} (h : s.1.length ≤ 7) {k : Nat} (hk : 20 ≤ k) : spec_seIndex.f k s.1 s.2 = some (cS s : Int) ∧ cS s < 2 ^ (s.1.length + 1) ∧ sS s.1.length (cS s) = s := by
 obtain ⟨c, h1, h2, h3⟩ := sW_ s.2 h
 have e : cS s = c := by unfold cS; rw [h2]; exact Int.toNat_natCast c
 rw [e]
 refine ⟨qr_ (spec_seIndex.mono _ _) hk h2, h1, ?_⟩
 unfold sS
 rw [h3]
 rfl
def ql_ : List Int → List Int → List (List Int)
 | [], _ => []
 | x :: P, l => (l ++ [x]) :: (ql_ P (l ++ [x]) ++ ql_ P l)
theorem qi_ {g : List Int} : ∀ (P l : List Int), g ∈ ql_ P l ↔ ∃ s, s ≠ [] ∧ s.Sublist P ∧ g = l ++ s
 | [], l => by
  simp only [ql_, List.not_mem_nil, List.sublist_nil, false_iff]
  rintro ⟨s, h1, h2, -⟩
  exact h1 h2
 | x :: P, l => by
  simp only [ql_, List.mem_cons, List.mem_append, qi_ P]
  constructor
  ·rintro (h | ⟨s, h1, h2, h3⟩ | ⟨s, h1, h2, h3⟩)
   ·exact ⟨[x], by simp, List.Sublist.cons_cons x (List.nil_sublist P), h⟩
   ·exact ⟨x :: s, by simp, List.Sublist.cons_cons x h2, by rw [h3, List.append_assoc]; rfl⟩
   ·exact ⟨s, h1, List.Sublist.cons x h2, h3⟩
  ·rintro ⟨s, h1, h2, h3⟩
   cases h2 with
   | cons _ h => exact .inr (.inr ⟨s, h1, h, h3⟩)
   | cons_cons _ h =>
    rename_i s'
    by_cases e : s' = []
    ·left; rw [h3, e]
    ·right; left
     exact ⟨s', e, h, by rw [h3, List.append_assoc]; rfl⟩
theorem qz_ : ∀ (P l : List Int), P.Nodup → (ql_ P l).Nodup
 | [], _, _ => by simp [ql_]
 | x :: P, l, h => by
  obtain ⟨h1, h2⟩ := List.nodup_cons.1 h
  simp only [ql_, List.nodup_cons, List.mem_append, qi_]
  refine ⟨?_, ?_⟩
  ·rintro (⟨s, a, b, c⟩ | ⟨s, a, b, c⟩)
   ·exact a (List.append_cancel_left ((List.append_nil _).trans c)).symm
   ·have : [x] = s := List.append_cancel_left c
    rw [← this] at b
    exact h1 (b.subset (by simp))
  ·rw [List.nodup_append]
   refine ⟨qz_ P _ h2, qz_ P _ h2, fun g hg g' hg' e => ?_⟩
   obtain ⟨s, a, b, c⟩ := (qi_ P _).1 hg
   obtain ⟨s', a', b', c'⟩ := (qi_ P _).1 hg'
   rw [c, c', List.append_assoc] at e
   have : [x] ++ s = s' := List.append_cancel_left e
   rw [← this] at b'
   exact h1 (b'.subset (by simp))
theorem qk_ : ∀ (P l : List Int), (ql_ P l).length + 1 = 2 ^ P.length
 | [], _ => rfl
 | x :: P, l => by
  have h1 := qk_ P (l ++ [x])
  have h2 := qk_ P l
  simp only [ql_, List.length_cons, List.length_append, Nat.pow_succ]
  omega
def qf_ (o : List Bool) (t : Bool) : List Int := ((List.range o.length).filter fun i => o.getD i false == t).map fun i : Nat => (i : Int)
theorem rd_ (o : List Bool) (t : Bool) : (qf_ o t).Nodup := by
 unfold qf_
 exact List.Pairwise.map _ (fun (a b : Nat) (h : a ≠ b) (e : (a : Int) = (b : Int)) => h (by omega)) (List.Pairwise.filter _ List.nodup_range)
theorem qn_ (o : List Bool) (t : Bool) : (qf_ o t).length ≤ o.length := by
 unfold qf_
 rw [List.length_map]
 have := List.length_filter_le (fun i => o.getD i false == t) (List.range o.length)
 rwa [List.length_range] at this
theorem mem_hereF {o : List Bool} {t : Bool} {x : Int} : x ∈ qf_ o t ↔ 0 ≤ x ∧ x < (o.length : Int) ∧ o.getD x.toNat false = t := by
 unfold qf_
 simp only [List.mem_map, List.mem_filter, List.mem_range, beq_iff_eq]
 constructor
 ·rintro ⟨i, ⟨h1, h2⟩, rfl⟩
  exact ⟨by omega, by omega, h2⟩
 ·rintro ⟨h1, h2, h3⟩
  exact ⟨x.toNat, ⟨by omega, h3⟩, by omega⟩
def mvO (o : List Bool) (t : Bool) (g : List Int) : List Bool := g.foldl (fun o x => o.set x.toNat (!t)) o
theorem qu_ (t : Bool) : ∀ (g : List Int) (o : List Bool), (mvO o t g).length = o.length
 | [], _ => rfl
 | x :: g, o => by
  show (mvO (o.set x.toNat (!t)) t g).length = _
  rw [qu_ t g, List.length_set]
theorem rb_ (t : Bool) : ∀ (g : List Int) (o : List Bool), (∀ x ∈ g, 0 ≤ x ∧ x < (o.length : Int)) → ∀ i : Nat, i < o.length → (mvO o t g).getD i false = if (i : Int) ∈ g then !t else o.getD i false
 | [], o, _, i, _ => by simp [mvO]
 | x :: g, o, h, i, hi => by
  have hx := h x (by simp)
  show (mvO (o.set x.toNat (!t)) t g).getD i false = _
  rw [rb_ t g _ (fun y hy => by rw [List.length_set]; exact h y (by simp [hy])) i (by rw [List.length_set]; exact hi)]
  have hs : (o.set x.toNat (!t)).getD i false = if (i : Int) = x then !t else o.getD i false := by
   rw [List.getD_eq_getElem?_getD, List.getD_eq_getElem?_getD, List.getElem?_set]
   by_cases e : x.toNat = i
   ·rw [if_pos e, if_pos (by omega), if_pos (by omega)]; rfl
   ·rw [if_neg e, if_neg (by omega)]
  rw [hs]
  by_cases e : (i : Int) ∈ g
  ·rw [if_pos e, if_pos (List.mem_cons_of_mem _ e)]
  ·rw [if_neg e]
   by_cases q : (i : Int) = x
   ·rw [if_pos q, if_pos (by rw [q]; exact List.mem_cons_self)]
   ·rw [if_neg q, if_neg (by simp [q, e])]
theorem rD_ {a b : List Bool} (h : a.length = b.length) (h2 : ∀ i : Nat, i < a.length → a.getD i false = b.getD i false) : a = b := by
 apply List.ext_getElem h
 intro i h3 h4
 have := h2 i h3
 rwa [List.getD_eq_getElem?_getD, List.getD_eq_getElem?_getD, List.getElem?_eq_getElem h3, List.getElem?_eq_getElem h4] at this
theorem rY_ {o : List Bool} {t : Bool} {g : List Int} (h : g.Sublist (qf_ o t)) : mvO (mvO o t g) (!t) g = o ∧ g.Sublist (qf_ (mvO o t g) (!t)) := by
 have hg : ∀ x ∈ g, 0 ≤ x ∧ x < (o.length : Int) ∧ o.getD x.toNat false = t := fun x hx => mem_hereF.1 (h.subset hx)
 have hlen := qu_ t g o
 have hget := rb_ t g o (fun x hx => ⟨(hg x hx).1, (hg x hx).2.1⟩)
 constructor
 ·refine rD_ (by rw [qu_, qu_]) fun i hi => ?_
  rw [qu_, qu_] at hi
  rw [rb_ (!t) g _ (fun x hx => by rw [hlen]; exact ⟨(hg x hx).1, (hg x hx).2.1⟩) i (by rw [hlen]; exact hi), hget i hi]
  by_cases e : (i : Int) ∈ g
  ·rw [if_pos e, Bool.not_not]
   have := (hg _ e).2.2
   rw [Int.toNat_natCast] at this
   exact this.symm
  ·rw [if_neg e, if_neg e]
 ·have h1 : g.Sublist ((List.range o.length).map fun i : Nat => (i : Int)) := h.trans (List.Sublist.map _ List.filter_sublist)
  have h2 := h1.filter fun x => (mvO o t g).getD x.toNat false == !t
  have h3 : g.filter (fun x => (mvO o t g).getD x.toNat false == !t) = g := by
   rw [List.filter_eq_self]
   intro x hx
   have := hg x hx
   rw [hget x.toNat (by omega), if_pos (by rw [Int.toNat_of_nonneg this.1]; exact hx)]
   simp
  rw [h3, List.filter_map] at h2
  unfold qf_
  rw [hlen]
  exact h2
def qL_ (o : List Bool) (t : Bool) (i d : Nat) : List Int := ((List.range' i d).filter fun j => o.getD j false == t).map fun j : Nat => (j : Int)
theorem rI_ (o : List Bool) (t : Bool) : qL_ o t 0 o.length = qf_ o t := by
 unfold qL_ qf_
 rw [List.range_eq_range']
theorem qE_ (o : List Bool) (t : Bool) (i d : Nat) : qL_ o t i (d + 1) = (if (o.getD i false == t) = true then [(i : Int)] else []) ++ qL_ o t (i + 1) d := by
 unfold qL_
 rw [List.range'_succ, List.filter_cons]
 split <;> simp
theorem sx_ {o : List Bool} (t : Bool) (hn : o.length ≤ 7) : ∀ (d k i : Nat) (acc : List Int), i + d = o.length → d < k → acc.length ≤ i → impl_State_side.l0 k t acc o (o.length : Int) (i : Int) = some (acc ++ qL_ o t i d) := by
 intro d
 induction d with
 | zero =>
  intro k i acc hi hk _
  obtain ⟨k, rfl⟩ := qb_ hk
  simp only [impl_State_side.l0]
  rw [if_neg (by omega)]
  simp [qL_]
 | succ d ih =>
  intro k i acc hi hk ha
  obtain ⟨k, rfl⟩ := qb_ hk
  have hlt : i < o.length := by omega
  simp only [impl_State_side.l0]
  rw [if_pos (by omega), if_pos (by omega), if_pos (by omega), qa_ hlt (by omega), qE_, if_pos (by omega : acc.length < 17592186044416)]
  show (if (o.getD i false == t) = true then _ else _) = _
  by_cases e : (o.getD i false == t) = true
  ·rw [if_pos e, if_pos e, ih k (i + 1) _ (by omega) (by omega) (by rw [List.length_append, List.length_singleton]; omega), List.append_assoc]
  ·rw [if_neg e, if_neg e, ih k (i + 1) _ (by omega) (by omega) (by omega)]
   rfl
theorem r8_ {o : List Bool} (b t : Bool) (hn : o.length ≤ 7) {k : Nat} (hk : 20 ≤ k) : impl_State_side.f k o b t = some (qf_ o t) := by
 unfold impl_State_side.f
 rw [show (0 : Int) = ((0 : Nat) : Int) by rfl, sx_ t hn o.length k 0 _ (by omega) (by omega) (Nat.le_refl _), rI_]
 rfl
def ldS (ws : List Int) (g : List Int) (a : Int) : Int := g.foldl (fun a x => wrap64 (a + rd ws x)) a
def qO_ (ws : List Int) (rs : List Bool) (most : Int) (g : List Int) : Bool := decide (ldS ws g 0 ≤ most) && g.any fun x => rdOf false rs x
def InN (n : Nat) (g : List Int) : Prop := ∀ x ∈ g, 0 ≤ x ∧ x < (n : Int)
theorem s1_ {ws : List Int} (rs : List Bool) (most : Int) {g : List Int} (hg : InN ws.length g) (hn : g.length ≤ 1000000) : ∀ (d k i : Nat) (a : Int), i + d = g.length → d < k → impl_Crew_load.l0 k a g (g.length : Int) (i : Int) ws rs most = some (ldS ws (g.drop i) a) ∧ spec_loLoad.l0 k a g (g.length : Int) (i : Int) ws rs most = some (ldS ws (g.drop i) a) := by
 intro d
 induction d with
 | zero =>
  intro k i a hi hk
  obtain ⟨k, rfl⟩ := qb_ hk
  simp only [impl_Crew_load.l0, spec_loLoad.l0]
  rw [if_neg (by omega), if_neg (by omega), show i = g.length by omega, List.drop_length]
  exact ⟨rfl, rfl⟩
 | succ d ih =>
  intro k i a hi hk
  obtain ⟨k, rfl⟩ := qb_ hk
  have hlt : i < g.length := by omega
  have hx : 0 ≤ rd g (i : Int) ∧ rd g (i : Int) < (ws.length : Int) := hg _ (qo_ hlt 0)
  have hi2 := ih k (i + 1) (wrap64 (a + rd ws (rd g (i : Int)))) (by omega) (by omega)
  simp only [impl_Crew_load.l0, spec_loLoad.l0]
  rw [qa_ hlt (by omega), qg_ g i hlt 0]
  constructor
  ·rw [if_pos (by omega), if_pos (by omega), if_pos (by omega), if_pos hx.1, if_pos hx.2]
   exact hi2.1
  ·rw [if_pos (by omega), if_pos (by omega), if_pos (by omega), if_pos hx.1, if_pos hx.2]
   exact hi2.2
theorem qH_ {ws : List Int} (rs : List Bool) (most : Int) {g : List Int} (hg : InN ws.length g) (hn : g.length ≤ 7) {k : Nat} (hk : 20 ≤ k) : impl_Crew_load.f k ws rs most g = some (ldS ws g 0) ∧ spec_loLoad.f k ws rs most g = some (ldS ws g 0) :=
 s1_ rs most hg (by omega) g.length k 0 0 (by omega) (by omega)
theorem rS_ {rs : List Bool} : ∀ (g : List Int), InN rs.length g → anyO (fun x => if 0 ≤ x then (if x < (rs.length : Int) then some (rdOf false rs x) else none) else none) g = some (g.any fun x => rdOf false rs x)
 | [], _ => rfl
 | x :: g, h => by
  have hx := h x (by simp)
  unfold anyO
  rw [if_pos hx.1, if_pos hx.2, Option.bind_some, rS_ g (fun y hy => h y (by simp [hy])), List.any_cons]
  cases rdOf false rs x <;> simp
theorem r1_ {ws : List Int} {rs : List Bool} (most : Int) (hr : rs.length = ws.length) {g : List Int} (hg : InN ws.length g) (hn : g.length ≤ 7) {k : Nat} (hk : 20 ≤ k) : impl_Crew_carries.f k ws rs most g = some (qO_ ws rs most g) := by
 unfold impl_Crew_carries.f qO_
 rw [(qH_ rs most hg hn hk).1, Option.bind_some, rS_ g (by rw [hr]; exact hg)]
 by_cases c : ldS ws g 0 ≤ most
 ·rw [if_pos c, decide_eq_true c, Bool.true_and]
 ·rw [if_neg c, decide_eq_false c, Bool.false_and]
theorem qM_ {ws : List Int} {rs : List Bool} (most : Int) (hr : rs.length = ws.length) (hn : ws.length ≤ 7) {k : Nat} (hk : 20 ≤ k) : ∀ (P l : List Int) (acc : List (List Int)), InN ws.length P → InN ws.length l → l.length + P.length ≤ ws.length → acc.length + 2 ^ P.length ≤ 1000000 →
  gOn (crewSt k ws rs most) (ws.length : Int) P l acc = some (acc ++ (ql_ P l).filter (qO_ ws rs most))
 | [], l, acc, _, _, _, _ => by simp [gOn, ql_]
 | x :: P, l, acc, hP, hl, hlen, hacc => by
  rw [List.length_cons] at hlen hacc
  have hx : InN ws.length (l ++ [x]) := by
   intro y hy
   rcases List.mem_append.1 hy with h | h
   ·exact hl y h
   ·rw [List.mem_singleton.1 h]; exact hP x (by simp)
  have hP2 : InN ws.length P := fun y hy => hP y (by simp [hy])
  have hl2 : (l ++ [x]).length = l.length + 1 := by simp
  have e2 : 2 ^ (P.length + 1) = 2 ^ P.length + 2 ^ P.length := by rw [Nat.pow_succ]; omega
  have h1 := qk_ P (l ++ [x])
  have hf := List.length_filter_le (qO_ ws rs most) (ql_ P (l ++ [x]))
  have hpos : 0 < 2 ^ P.length := Nat.pow_pos (by omega)
  simp only [gOn, ql_]
  rw [if_pos (by omega)]
  have hst : crewSt k ws rs most (l ++ [x]) acc = some (acc ++ if qO_ ws rs most (l ++ [x]) = true then [l ++ [x]] else []) := by
   unfold crewSt
   rw [r1_ most hr hx (by omega) hk, Option.bind_some]
   cases qO_ ws rs most (l ++ [x])
   ·simp
   ·rw [if_pos rfl, if_pos (by omega), if_pos rfl]
  rw [hst, Option.bind_some]
  have hq : (if qO_ ws rs most (l ++ [x]) = true then [l ++ [x]] else ([] : List (List Int))).length ≤ 1 := by split <;> simp
  rw [qM_ most hr hn hk P (l ++ [x]) _ hP2 hx (by omega) (by rw [List.length_append]; omega), Option.bind_some,
   qM_ most hr hn hk P l _ hP2 hl (by omega) (by rw [List.length_append, List.length_append]; omega)]
  rw [List.filter_cons, List.filter_append]
  cases qO_ ws rs most (l ++ [x]) <;> simp
def qe_ (ws : List Int) (rs : List Bool) (most : Int) (s : List Bool × Bool) : List (List Int) := (ql_ (qf_ s.1 s.2) []).filter (qO_ ws rs most)
theorem qK_ (o : List Bool) (t : Bool) : InN o.length (qf_ o t) := fun x hx => ⟨(mem_hereF.1 hx).1, (mem_hereF.1 hx).2.1⟩
theorem rX_ {ws : List Int} {rs : List Bool} (most : Int) (hr : rs.length = ws.length) (hn : ws.length ≤ 7) {k : Nat} (hk : 20 ≤ k) {s : List Bool × Bool} (hs : s.1.length = ws.length) : impl_Crew_rides.f k ws rs most s.1 s.2 = some (qe_ ws rs most s) := by
 have h1 := qn_ s.1 s.2
 have h2 : 2 ^ (qf_ s.1 s.2).length ≤ 2 ^ 7 := Nat.pow_le_pow_right (by decide) (by omega)
 unfold impl_Crew_rides.f
 rw [r8_ _ _ (by omega) hk, Option.bind_some, if_pos (by omega), qM_ most hr hn hk _ _ _ (by rw [← hs]; exact qK_ s.1 s.2) (fun _ h => by cases h) (by simp; omega) (by simp only [List.length_nil]; omega)]
 rfl
theorem ra_ {x0 : List Int} (h0 : x0.length ≤ 7) : ∀ (d : Nat), (∀ (k i : Nat) (l : List Int) (acc : List (List Int)), i + d = x0.length → 3 * d + 1 ≤ k → l.length + d ≤ x0.length → acc.length + 2 ^ d ≤ 1000000 → spec_paGroups.l0 k x0 l (x0.length : Int) acc (i : Int) = some (acc ++ ql_ (x0.drop i) l)) ∧
  ∀ (k i : Nat) (l : List Int), i + d = x0.length → 3 * d + 3 ≤ k → l.length + d ≤ x0.length → spec_paGroups.f k x0 l (i : Int) (x0.length : Int) = some ((if (l.length : Int) > 0 then [l] else []) ++ ql_ (x0.drop i) l) := by
 intro d
 induction d with
 | zero =>
  have A : ∀ (k i : Nat) (l : List Int) (acc : List (List Int)), i + 0 = x0.length → 3 * 0 + 1 ≤ k → l.length + 0 ≤ x0.length → acc.length + 2 ^ 0 ≤ 1000000 → spec_paGroups.l0 k x0 l (x0.length : Int) acc (i : Int) = some (acc ++ ql_ (x0.drop i) l) := by
   intro k i l acc hi hk hl ha
   obtain ⟨k, rfl⟩ := qb_ (d := 0) (by omega : 0 < k)
   simp only [spec_paGroups.l0]
   rw [if_neg (by omega), show i = x0.length by omega, List.drop_length]
   simp [ql_]
  refine ⟨A, fun k i l hi hk hl => ?_⟩
  obtain ⟨k, rfl⟩ := qb_ (d := 0) (by omega : 0 < k)
  obtain ⟨k, rfl⟩ := qb_ (d := 0) (by omega : 0 < k)
  have hj : ∀ acc : List (List Int), acc.length ≤ 1 → spec_paGroups.j0 (k + 1) x0 l (i : Int) (x0.length : Int) acc = some (acc ++ ql_ (x0.drop i) l) := by
   intro acc ha
   simp only [spec_paGroups.j0]
   have hd : x0.drop i = [] := by rw [show i = x0.length by omega, List.drop_length]
   by_cases e : (l.length : Int) = (x0.length : Int)
   ·rw [if_pos e, hd]; simp [ql_]
   ·rw [if_neg e, A k i l acc hi (by omega) hl (by omega)]
  rw [spec_paGroups.f.eq_2]
  unfold spec_l1Own.f
  by_cases e : (l.length : Int) > 0
  ·rw [if_pos e, if_pos e]
   simp only [Option.bind_some, List.nil_append, List.length_nil, List.length_singleton]
   rw [if_pos (by omega), Option.bind_some, if_pos (by omega)]
   exact hj [l] (by simp)
  ·rw [if_neg e, if_neg e]
   exact hj [] (by simp)
 | succ d ih =>
  have A : ∀ (k i : Nat) (l : List Int) (acc : List (List Int)), i + (d + 1) = x0.length → 3 * (d + 1) + 1 ≤ k → l.length + (d + 1) ≤ x0.length → acc.length + 2 ^ (d + 1) ≤ 1000000 → spec_paGroups.l0 k x0 l (x0.length : Int) acc (i : Int) = some (acc ++ ql_ (x0.drop i) l) := by
   intro k i l acc hi hk hl ha
   obtain ⟨k, rfl⟩ := qb_ (d := 0) (by omega : 0 < k)
   have hlt : i < x0.length := by omega
   have e2 : 2 ^ (d + 1) = 2 ^ d + 2 ^ d := by rw [Nat.pow_succ]; omega
   have hsl := qk_ (x0.drop (i + 1)) (l ++ [rd x0 (i : Int)])
   rw [List.length_drop, show x0.length - (i + 1) = d by omega] at hsl
   simp only [spec_paGroups.l0]
   unfold spec_l1Own.f
   rw [if_pos (by omega)]
   simp only [Option.bind_some, List.nil_append, List.length_nil, List.length_singleton]
   rw [if_pos (by omega), Option.bind_some, if_pos (by omega), if_pos (by omega), qa_ hlt (by omega),
    ih.2 k (i + 1) (l ++ [rd x0 (i : Int)]) (by omega) (by omega) (by rw [List.length_append, List.length_singleton]; omega), Option.bind_some,
    if_pos (by rw [List.length_append, List.length_singleton]; omega : ((l ++ [rd x0 (i : Int)]).length : Int) > 0)]
   rw [if_pos (by rw [List.length_append, List.length_singleton]; omega)]
   rw [ih.1 k (i + 1) l _ (by omega) (by omega) (by omega) (by rw [List.length_append, List.length_append, List.length_singleton]; omega)]
   rw [qg_ x0 i hlt 0]
   show some (acc ++ ([l ++ [rd x0 (i : Int)]] ++ ql_ (x0.drop (i + 1)) (l ++ [rd x0 (i : Int)])) ++ ql_ (x0.drop (i + 1)) l) = some (acc ++ ((l ++ [rd x0 (i : Int)]) :: (ql_ (x0.drop (i + 1)) (l ++ [rd x0 (i : Int)]) ++ ql_ (x0.drop (i + 1)) l)))
   simp
  refine ⟨A, fun k i l hi hk hl => ?_⟩
  obtain ⟨k, rfl⟩ := qb_ (d := 0) (by omega : 0 < k)
  obtain ⟨k, rfl⟩ := qb_ (d := 0) (by omega : 0 < k)
  have h27 : 2 ^ (d + 1) ≤ 2 ^ 7 := Nat.pow_le_pow_right (by decide) (by omega)
  have hj : ∀ acc : List (List Int), acc.length ≤ 1 → spec_paGroups.j0 (k + 1) x0 l (i : Int) (x0.length : Int) acc = some (acc ++ ql_ (x0.drop i) l) := by
   intro acc ha
   simp only [spec_paGroups.j0]
   rw [if_neg (by omega), A k i l acc hi (by omega) hl (by omega)]
  rw [spec_paGroups.f.eq_2]
  unfold spec_l1Own.f
  by_cases e : (l.length : Int) > 0
  ·rw [if_pos e, if_pos e]
   simp only [Option.bind_some, List.nil_append, List.length_nil, List.length_singleton]
   rw [if_pos (by omega), Option.bind_some, if_pos (by omega)]
   exact hj [l] (by simp)
  ·rw [if_neg e, if_neg e]
   exact hj [] (by simp)
theorem rv_ (o : List Bool) (t : Bool) : (qf_ o t).Pairwise (· < ·) := by
 unfold qf_
 exact List.Pairwise.map _ (fun (a b : Nat) (h : a < b) => (by omega : (a : Int) < (b : Int))) (List.Pairwise.filter _ List.pairwise_lt_range)
theorem sy_ {g : List Int} (h : g.Pairwise (· < ·)) {m : Nat} (h0 : 0 < m) (hm : m < g.length) : rd g ((m : Int) - 1) < rd g (m : Int) := by
 have h1 := List.pairwise_iff_getElem.1 h (m - 1) m (by omega) hm (by omega)
 unfold rd
 rw [show ((m : Int) - 1).toNat = m - 1 by omega, Int.toNat_natCast, List.getD_eq_getElem?_getD, List.getD_eq_getElem?_getD, List.getElem?_eq_getElem hm, List.getElem?_eq_getElem (by omega : m - 1 < g.length)]
 exact h1
theorem sO_ {ws : List Int} {rs : List Bool} (most : Int) {o : List Bool} {t : Bool} (hr : rs.length = o.length) {g : List Int} (hg : ∀ x ∈ g, x ∈ qf_ o t) (hn : g.length ≤ 1000000) : ∀ (d k i : Nat) (b : Bool), i + d = g.length → d < k → spec_loCan.l0 k b g (g.length : Int) (i : Int) ws rs most o t = some (b || (g.drop i).any fun x => rdOf false rs x) := by
 intro d
 induction d with
 | zero =>
  intro k i b hi hk
  obtain ⟨k, rfl⟩ := qb_ hk
  simp only [spec_loCan.l0]
  rw [if_neg (by omega), show i = g.length by omega, List.drop_length]
  simp
 | succ d ih =>
  intro k i b hi hk
  obtain ⟨k, rfl⟩ := qb_ hk
  have hlt : i < g.length := by omega
  have hx : 0 ≤ rd g (i : Int) ∧ rd g (i : Int) < (o.length : Int) ∧ rdOf false o (rd g (i : Int)) = t := mem_hereF.1 (hg _ (qo_ hlt 0))
  have hne : ((rdOf false o (rd g (i : Int))) != t) = false := by rw [hx.2.2]; simp
  simp only [spec_loCan.l0]
  rw [if_pos (by omega), if_pos (by omega), if_pos (by omega), if_pos hx.1, if_pos hx.2.1, hne, if_neg (by decide), if_pos (by omega : rd g (i : Int) < (rs.length : Int)), qa_ hlt (by omega), qg_ g i hlt 0, List.any_cons]
  cases b
  ·rw [if_neg (by decide), ih k (i + 1) _ (by omega) (by omega)]
   show some (rdOf false rs (rd g (i : Int)) || _) = some (false || (rdOf false rs (rd g (i : Int)) || _))
   rw [Bool.false_or]
  ·rw [if_pos rfl, ih k (i + 1) _ (by omega) (by omega)]
   simp
theorem sP_ {ws : List Int} {rs : List Bool} (most : Int) (hr : rs.length = ws.length) (hn : ws.length ≤ 7) {o : List Bool} {t : Bool} (ho : o.length = ws.length) {g : List Int} (h0 : g ≠ []) (hg : g.Sublist (qf_ o t)) {k : Nat} (hk : 20 ≤ k) : spec_loCan.f k ws rs most o t g = some (qO_ ws rs most g) := by
 have hlen := hg.length_le
 have hl2 := qn_ o t
 have hin : InN ws.length g := fun x hx => by rw [← ho]; exact qK_ o t x (hg.subset hx)
 have hpos : 0 < g.length := List.length_pos_iff.2 h0
 have hw : wrap64 ((ws.length : Int) - 1) = (ws.length : Int) - 1 := qq_ (by omega) (by omega)
 obtain ⟨r, h1, h2⟩ := rc_ (t := g) 0 ((ws.length : Int) - 1) (by omega) g.length k 0 (by omega) (by omega)
 have hr1 : r = true := h2.2 fun m _ hm => ⟨by have := (sB_ (p := fun x => 0 ≤ x ∧ x < (ws.length : Int))).1 hin m hm; omega, fun h => sy_ ((rv_ o t).sublist hg) h hm⟩
 rw [hr1] at h1
 have h1' : spec_l1Rising.f k g 0 ((ws.length : Int) - 1) = some true := h1
 obtain ⟨k', rfl⟩ := qb_ (by omega : 19 < k)
 unfold spec_loCan.f qO_
 rw [if_neg (by omega), hw, h1', Option.bind_some, if_pos rfl, (qH_ rs most hin (by omega) hk).2, Option.bind_some]
 simp only [spec_loCan.j0]
 by_cases c : ldS ws g 0 > most
 ·rw [decide_eq_true c, if_pos rfl, decide_eq_false (by omega), Bool.false_and]
 ·rw [decide_eq_false c, if_neg (by decide), decide_eq_true (by omega), Bool.true_and]
  have := sO_ (ws := ws) (rs := rs) most (o := o) (t := t) (by omega) (g := g) (fun x hx => hg.subset hx) (by omega) g.length k' 0 false (by omega) (by omega)
  rw [show ((0 : Nat) : Int) = 0 by rfl] at this
  rw [this, Bool.false_or, List.drop_zero]
theorem rW_ {ws : List Int} {rs : List Bool} (most : Int) (hr : rs.length = ws.length) (hn : ws.length ≤ 7) {o : List Bool} {t : Bool} (ho : o.length = ws.length) {L : List (List Int)} (hL : ∀ g ∈ L, g ≠ [] ∧ g.Sublist (qf_ o t)) (hl : L.length ≤ 1000) : ∀ (d k i : Nat) (acc : List (List Int)), i + d = L.length → 20 + d < k → acc.length ≤ i → spec_loRides.l1 k acc L (L.length : Int) (i : Int) ws rs most o t = some (acc ++ (L.drop i).filter (qO_ ws rs most)) := by
 intro d
 induction d with
 | zero =>
  intro k i acc hi hk ha
  obtain ⟨k, rfl⟩ := qb_ hk
  simp only [spec_loRides.l1]
  rw [if_neg (by omega), show i = L.length by omega, List.drop_length]
  simp
 | succ d ih =>
  intro k i acc hi hk ha
  obtain ⟨k, rfl⟩ := qb_ hk
  have hlt : i < L.length := by omega
  have hg : rd_L2 L (i : Int) ≠ [] ∧ (rd_L2 L (i : Int)).Sublist (qf_ o t) := hL _ (qo_ hlt [])
  simp only [spec_loRides.l1]
  rw [if_pos (by omega), if_pos (by omega), if_pos (by omega), sP_ most hr hn ho hg.1 hg.2 (by omega), Option.bind_some, qa_ hlt (by omega), qg_ L i hlt [], List.filter_cons]
  show _ = some (acc ++ if qO_ ws rs most (rd_L2 L (i : Int)) = true then rd_L2 L (i : Int) :: _ else _)
  cases qO_ ws rs most (rd_L2 L (i : Int))
  ·rw [if_neg (by decide), if_neg (by decide), ih k (i + 1) _ (by omega) (by omega) (by omega)]
  ·rw [if_pos rfl, if_pos rfl, if_pos (by omega), ih k (i + 1) _ (by omega) (by omega) (by rw [List.length_append, List.length_singleton]; omega)]
   simp
theorem sR_ {ws : List Int} {rs : List Bool} (most : Int) {o : List Bool} {t : Bool} (ho : o.length ≤ 7) : ∀ (d k i : Nat) (acc : List Int), i + d = o.length → d ≤ k → acc.length ≤ i → spec_loRides.l0 (k + 1) acc o (o.length : Int) (i : Int) ws rs most o t = spec_loRides.l0 (k + 1 - d) (acc ++ qL_ o t i d) o (o.length : Int) (o.length : Int) ws rs most o t := by
 intro d
 induction d with
 | zero =>
  intro k i acc hi hk ha
  rw [show i = o.length by omega]
  simp [qL_]
 | succ d ih =>
  intro k i acc hi hk ha
  have hlt : i < o.length := by omega
  rw [spec_loRides.l0.eq_2, if_pos (by omega), if_pos (by omega), if_pos (by omega), qa_ hlt (by omega), if_pos (by omega : acc.length < 17592186044416), qE_]
  show (if (o.getD i false == t) = true then _ else _) = _
  obtain ⟨k, rfl⟩ := qb_ (by omega : d < k)
  by_cases e : (o.getD i false == t) = true
  ·rw [if_pos e, if_pos e, ih k (i + 1) _ (by omega) (by omega) (by rw [List.length_append, List.length_singleton]; omega), List.append_assoc, show k + 1 + 1 - (d + 1) = k + 1 - d by omega]
  ·rw [if_neg e, if_neg e, ih k (i + 1) _ (by omega) (by omega) (by omega), List.nil_append, show k + 1 + 1 - (d + 1) = k + 1 - d by omega]
theorem rr_ {ws : List Int} {rs : List Bool} (most : Int) (hr : rs.length = ws.length) (hn : ws.length ≤ 7) {k : Nat} (hk : 300 ≤ k) {s : List Bool × Bool} (hs : s.1.length = ws.length) : spec_loRides.f k ws rs most s.1 s.2 = some (qe_ ws rs most s) := by
 obtain ⟨k, rfl⟩ := qb_ (by omega : 0 < k)
 have h1 := qn_ s.1 s.2
 have h2 : 2 ^ (qf_ s.1 s.2).length ≤ 2 ^ 7 := Nat.pow_le_pow_right (by decide) (by omega)
 have h3 := qk_ (qf_ s.1 s.2) []
 unfold spec_loRides.f
 have h := sR_ (ws := ws) (rs := rs) most (o := s.1) (t := s.2) (by omega) s.1.length k 0 [] (by omega) (by omega) (Nat.le_refl _)
 rw [show ((0 : Nat) : Int) = 0 by rfl] at h
 rw [h, rI_, List.nil_append]
 obtain ⟨q, hq⟩ : ∃ q, k + 1 - s.1.length = q + 1 := ⟨k - s.1.length, by omega⟩
 rw [hq, spec_loRides.l0.eq_2, if_neg (by omega)]
 have hp := (ra_ (x0 := qf_ s.1 s.2) (by omega) (qf_ s.1 s.2).length).2 q 0 [] (by omega) (by omega) (by simp)
 rw [show ((0 : Nat) : Int) = 0 by rfl] at hp
 rw [hp, Option.bind_some, if_neg (by simp), List.nil_append, List.drop_zero]
 have := rW_ (ws := ws) (rs := rs) most hr hn hs (L := ql_ (qf_ s.1 s.2) []) (fun g hg => by
  obtain ⟨u, a, b, c⟩ := (qi_ _ _).1 hg
  rw [List.nil_append] at c
  rw [c]
  exact ⟨a, b⟩) (by omega) (ql_ (qf_ s.1 s.2) []).length q 0 [] (by omega) (by omega) (Nat.le_refl _)
 rw [show ((0 : Nat) : Int) = 0 by rfl] at this
 rw [this, List.drop_zero]
 rfl
def mv (s : List Bool × Bool) (g : List Int) : List Bool × Bool := (mvO s.1 s.2 g, !s.2)
theorem rZ_ {g : List Int} {n : Nat} (hg : InN n g) (hn : g.length ≤ 1000000) (b : Bool) : ∀ (d k i : Nat) (o : List Bool), o.length = n → i + d = g.length → d < k → impl_State_moved.l0 k g (g.length : Int) (i : Int) o (!b) = some (mvO o b (g.drop i), !b) := by
 intro d
 induction d with
 | zero =>
  intro k i o ho hi hk
  obtain ⟨k, rfl⟩ := qb_ hk
  simp only [impl_State_moved.l0]
  rw [if_neg (by omega), show i = g.length by omega, List.drop_length]
  rfl
 | succ d ih =>
  intro k i o ho hi hk
  obtain ⟨k, rfl⟩ := qb_ hk
  have hlt : i < g.length := by omega
  have hx : 0 ≤ rd g (i : Int) ∧ rd g (i : Int) < (n : Int) := hg _ (qo_ hlt 0)
  simp only [impl_State_moved.l0]
  rw [if_pos (by omega), if_pos (by omega), if_pos (by omega), if_pos hx.1, if_pos (by omega), qa_ hlt (by omega), qg_ g i hlt 0, ih k (i + 1) _ (by rw [List.length_set]; exact ho) (by omega) (by omega)]
  rfl
theorem sa_ {s : List Bool × Bool} (hn : s.1.length ≤ 7) {g : List Int} (hg : g.Sublist (qf_ s.1 s.2)) {k : Nat} (hk : 20 ≤ k) : impl_State_moved.f k s.1 s.2 g = some (mv s g) := by
 have hlen := hg.length_le
 have hl2 := qn_ s.1 s.2
 unfold impl_State_moved.f slices_Clone_bool_bool.f
 rw [if_pos (by omega), Option.bind_some]
 exact rZ_ (n := s.1.length) (fun x hx => qK_ s.1 s.2 x (hg.subset hx)) (by omega) s.2 g.length k 0 s.1 rfl (by omega) (by omega)
theorem sj_ {g : List Int} {o : List Bool} {b : Bool} (hg : ∀ x ∈ g, x ∈ qf_ o b) (hn : g.length ≤ 1000000) : ∀ (d k i : Nat) (y : List Bool), y.length = o.length → i + d = g.length → d < k → spec_paCross.l0 k g (g.length : Int) (i : Int) o b y (!b) = some (mvO y b (g.drop i), !b) := by
 intro d
 induction d with
 | zero =>
  intro k i y hy hi hk
  obtain ⟨k, rfl⟩ := qb_ hk
  simp only [spec_paCross.l0]
  rw [if_neg (by omega), show i = g.length by omega, List.drop_length]
  rfl
 | succ d ih =>
  intro k i y hy hi hk
  obtain ⟨k, rfl⟩ := qb_ hk
  have hlt : i < g.length := by omega
  have hx : 0 ≤ rd g (i : Int) ∧ rd g (i : Int) < (o.length : Int) ∧ rdOf false o (rd g (i : Int)) = b := mem_hereF.1 (hg _ (qo_ hlt 0))
  simp only [spec_paCross.l0]
  rw [if_pos (by omega), if_pos (by omega), if_pos (by omega), if_pos hx.1, if_pos (by omega), if_pos (by omega), qa_ hlt (by omega), qg_ g i hlt 0, ih k (i + 1) _ (by rw [List.length_set]; exact hy) (by omega) (by omega), hx.2.2]
  rfl
theorem sk_ {s : List Bool × Bool} (hn : s.1.length ≤ 7) {g : List Int} (hg : g.Sublist (qf_ s.1 s.2)) {k : Nat} (hk : 20 ≤ k) : spec_paCross.f k s.1 s.2 g = some (mv s g) := by
 have hlen := hg.length_le
 have hl2 := qn_ s.1 s.2
 unfold spec_paCross.f
 rw [Option.bind_some, List.nil_append, List.length_nil, if_pos (by omega)]
 exact sj_ (fun x hx => hg.subset hx) (by omega) g.length k 0 s.1 rfl (by omega) (by omega)
theorem qs_ (s : List Bool × Bool) (g : List Int) : (mv s g).1.length = s.1.length := qu_ _ _ _
theorem mem_rides {ws : List Int} {rs : List Bool} {most : Int} {s : List Bool × Bool} {g : List Int} : g ∈ qe_ ws rs most s ↔ g ≠ [] ∧ g.Sublist (qf_ s.1 s.2) ∧ qO_ ws rs most g = true := by
 unfold qe_
 rw [List.mem_filter, qi_]
 constructor
 ·rintro ⟨⟨u, a, b, c⟩, d⟩
  rw [List.nil_append] at c
  rw [c] at d ⊢
  exact ⟨a, b, d⟩
 ·rintro ⟨a, b, c⟩
  exact ⟨⟨g, a, b, (List.nil_append g).symm⟩, c⟩
theorem q4_ (ws : List Int) (rs : List Bool) (most : Int) (s : List Bool × Bool) : (qe_ ws rs most s).Nodup := List.Pairwise.filter _ (qz_ _ _ (rd_ _ _))
theorem qx_ {ws : List Int} {rs : List Bool} {most : Int} {s : List Bool × Bool} (h : s.1.length ≤ 7) : (qe_ ws rs most s).length ≤ 127 := by
 have h1 := qn_ s.1 s.2
 have h2 : 2 ^ (qf_ s.1 s.2).length ≤ 2 ^ 7 := Nat.pow_le_pow_right (by decide) (by omega)
 have h3 := qk_ (qf_ s.1 s.2) []
 have h4 := List.length_filter_le (qO_ ws rs most) (ql_ (qf_ s.1 s.2) [])
 unfold qe_
 omega
theorem ro_ {ws : List Int} {rs : List Bool} {most : Int} {s : List Bool × Bool} {g : List Int} (h : g ∈ qe_ ws rs most s) : g ∈ qe_ ws rs most (mv s g) ∧ mv (mv s g) g = s := by
 obtain ⟨a, b, c⟩ := mem_rides.1 h
 obtain ⟨h1, h2⟩ := rY_ b
 refine ⟨mem_rides.2 ⟨a, h2, c⟩, ?_⟩
 show (mvO (mvO s.1 s.2 g) (!s.2) g, !(!s.2)) = s
 rw [h1, Bool.not_not]
theorem Far.names {A B : Nat → List (Nat × Nat)} {N C s0 : Nat} {d : Nat → Int} (f : Nat → Nat) (h : Far B N (fun v => v = f s0) d) (hA : GrB A N C) (hf : ∀ u, u < N → f u < N) (hi : ∀ u v, u < N → v < N → f u = f v → u = v) (hs : ∀ x, x < N → ∃ u, u < N ∧ f u = x) (h0 : s0 < N)
  (hB : ∀ u, u < N → B (f u) = (A u).map fun e => (f e.1, e.2)) : Far A N (fun v => v = s0) fun v => d (f v) := by
 refine ⟨fun s e => h.st _ (by rw [e]), fun u hu h1 e he => ?_, fun v hv h1 => ?_⟩
 ·exact h.go (f u) (hf u hu) h1 (f e.1, e.2) (by rw [hB u hu]; exact List.mem_map.2 ⟨e, he, rfl⟩)
 ·rcases h.by_ (f v) (hf v hv) h1 with e | ⟨x, hx, hx0, c, hm, e⟩
  ·exact .inl (hi v s0 hv h0 e)
  ·right
   obtain ⟨u, hu, rfl⟩ := hs x hx
   rw [hB u hu] at hm
   obtain ⟨y, hy, hye⟩ := List.mem_map.1 hm
   have e1 : f y.1 = f v := congrArg Prod.fst hye
   have e2 : y.2 = c := congrArg Prod.snd hye
   refine ⟨u, hu, hx0, c, ?_, e⟩
   rw [← hi y.1 v (hA u hu y hy).1 hv e1, ← e2]
   exact hy
def edI (ws : List Int) (rs : List Bool) (most : Int) (c : Int) : List S110 := (qe_ ws rs most (sI ws.length c.toNat)).map fun g => ⟨(cI (mv (sI ws.length c.toNat) g) : Int), 1, g⟩
theorem qX_ {s : List Bool × Bool} (hn : s.1.length ≤ 7) {k : Nat} (hk : 20 ≤ k) : ∀ (L : List (List Int)) (acc : List S110), (∀ g ∈ L, g.Sublist (qf_ s.1 s.2)) → acc.length + L.length ≤ 1000000 → crewEd k s.1 s.2 L acc = some (acc ++ L.map fun g => ⟨(cI (mv s g) : Int), 1, g⟩)
 | [], acc, _, _ => by simp [crewEd]
 | g :: L, acc, h, ha => by
  rw [List.length_cons] at ha
  unfold crewEd
  rw [sa_ hn (h g (by simp)) hk, Option.bind_some, (sq_ (s := mv s g) (by rw [qs_]; exact hn) hk).1, Option.bind_some, if_pos (by omega), qX_ hn hk L _ (fun x hx => h x (by simp [hx])) (by rw [List.length_append, List.length_singleton]; omega)]
  simp
theorem sl_ {ws : List Int} {rs : List Bool} (most : Int) (hr : rs.length = ws.length) (hn : ws.length ≤ 7) {k : Nat} (hk : 20 ≤ k) {c : Nat} (hc : c < 2 ^ (ws.length + 1)) : crewG k ws rs most (c : Int) = some (edI ws rs most (c : Int)) := by
 obtain ⟨h1, h2, -⟩ := qQ_ hn hc hk
 have h3 := qx_ (ws := ws) (rs := rs) (most := most) (s := sI ws.length c) (by omega)
 unfold crewG
 rw [h1, Option.bind_some, rX_ most hr hn hk h2, Option.bind_some, if_pos (by omega), qX_ (by omega) hk _ _ (fun g hg => (mem_rides.1 hg).2.1) (by simp only [List.length_nil]; omega)]
 unfold edI
 rw [Int.toNat_natCast]
 rfl
theorem su_ {ws : List Int} (rs : List Bool) (most : Int) (hn : ws.length ≤ 7) : GrI (edI ws rs most) (2 ^ (ws.length + 1)) 1 127 := by
 intro u hu
 obtain ⟨-, h2, -⟩ := qQ_ hn hu (Nat.le_refl 20)
 unfold edI
 rw [Int.toNat_natCast, List.length_map]
 refine ⟨qx_ (by omega), fun e he => ?_⟩
 obtain ⟨g, -, rfl⟩ := List.mem_map.1 he
 have := (sq_ (s := mv (sI ws.length u) g) (by rw [qs_]; omega) (Nat.le_refl 20)).2.1
 rw [qs_, h2] at this
 simp only
 omega
def edS (cs : List Int → Nat) (ws : List Int) (rs : List Bool) (most : Int) (u : Nat) : List (Nat × Nat) := (qe_ ws rs most (sS ws.length u)).map fun g => (cS (mv (sS ws.length u) g), cs g)
theorem sH_ {cs : List Int → Nat} {ws : List Int} (rs : List Bool) (most : Int) (hn : ws.length ≤ 7) {C : Nat} (hC : ∀ u : Nat, u < 2 ^ (ws.length + 1) → ∀ g ∈ qe_ ws rs most (sS ws.length u), 1 ≤ cs g ∧ cs g ≤ C) : GrB (edS cs ws rs most) (2 ^ (ws.length + 1)) C := by
 intro u hu e he
 obtain ⟨-, h2, -⟩ := qP_ hn hu (Nat.le_refl 20)
 obtain ⟨g, hg, rfl⟩ := List.mem_map.1 he
 have h1 := (qY_ (s := mv (sS ws.length u) g) (by rw [qs_]; omega) (Nat.le_refl 20)).2.1
 rw [qs_, h2] at h1
 exact ⟨h1, hC u hu g hg⟩
theorem rp_ {α : Type} [BEq α] [LawfulBEq α] : ∀ {a b : List α}, a.Nodup → b.Nodup → (∀ x, x ∈ a ↔ x ∈ b) → a.Perm b := by
 intro a b ha hb h
 rw [List.perm_iff_count]
 intro x
 rw [ha.count, hb.count]
 by_cases c : x ∈ a
 ·rw [if_pos c, if_pos ((h x).1 c)]
 ·rw [if_neg c, if_neg fun q => c ((h x).2 q)]
theorem sh_ {cs : List Int → Nat} {ws : List Int} (rs : List Bool) (most : Int) (hn : ws.length ≤ 7) : sQ_ (edS cs ws rs most) (2 ^ (ws.length + 1)) := by
 intro u v hu hv f
 obtain ⟨-, u1, u2⟩ := qP_ hn hu (Nat.le_refl 20)
 obtain ⟨-, v1, v2⟩ := qP_ hn hv (Nat.le_refl 20)
 have key : ∀ (u v : Nat), u < 2 ^ (ws.length + 1) → v < 2 ^ (ws.length + 1) → ∀ g, g ∈ qe_ ws rs most (sS ws.length u) → cS (mv (sS ws.length u) g) = v → g ∈ qe_ ws rs most (sS ws.length v) ∧ cS (mv (sS ws.length v) g) = u := by
  intro u v hu hv g hg e
  obtain ⟨-, u1, u2⟩ := qP_ hn hu (Nat.le_refl 20)
  have h3 := (qY_ (s := mv (sS ws.length u) g) (by rw [qs_]; omega) (Nat.le_refl 20)).2.2
  rw [qs_, u1, e] at h3
  obtain ⟨b1, b2⟩ := ro_ hg
  rw [h3]
  exact ⟨b1, by rw [b2, u2]⟩
 have hsum : ∀ (u v : Nat), qj_ ((edS cs ws rs most u).map fun e => if e.1 = v then f e.2 else 0) = qj_ (((qe_ ws rs most (sS ws.length u)).filter fun g => decide (cS (mv (sS ws.length u) g) = v)).map fun g => f (cs g)) := by
  intro u v
  unfold edS
  rw [List.map_map, qt_]
  refine congrArg qj_ (List.map_congr_left fun g _ => ?_)
  simp only [Function.comp_apply, decide_eq_true_eq]
 rw [hsum u v, hsum v u]
 refine r7_ (List.Perm.map _ (rp_ (List.Pairwise.filter _ (q4_ _ _ _ _)) (List.Pairwise.filter _ (q4_ _ _ _ _)) fun g => ?_))
 simp only [List.mem_filter, decide_eq_true_eq]
 exact ⟨fun h => key u v hu hv g h.1 h.2, fun h => key v u hv hu g h.1 h.2⟩
def nmS (n c : Nat) : Nat := cS (sI n c)
theorem rj_ {n : Nat} (hn : n ≤ 7) (u : Nat) (hu : u < 2 ^ (n + 1)) : nmS n u < 2 ^ (n + 1) := by
 obtain ⟨-, h2, -⟩ := qQ_ hn hu (Nat.le_refl 20)
 have := (qY_ (s := sI n u) (by omega) (Nat.le_refl 20)).2.1
 rwa [h2] at this
theorem rC_ {n : Nat} (hn : n ≤ 7) {u : Nat} (hu : u < 2 ^ (n + 1)) : sS n (nmS n u) = sI n u := by
 obtain ⟨-, h2, -⟩ := qQ_ hn hu (Nat.le_refl 20)
 have := (qY_ (s := sI n u) (by omega) (Nat.le_refl 20)).2.2
 rwa [h2] at this
theorem s0_ {n : Nat} (hn : n ≤ 7) (u v : Nat) (hu : u < 2 ^ (n + 1)) (hv : v < 2 ^ (n + 1)) (e : nmS n u = nmS n v) : u = v := by
 have h1 := rC_ hn hu
 have h2 := rC_ hn hv
 rw [e] at h1
 obtain ⟨-, -, e1⟩ := qQ_ hn hu (Nat.le_refl 20)
 obtain ⟨-, -, e2⟩ := qQ_ hn hv (Nat.le_refl 20)
 rw [← e1, ← e2, ← h1, ← h2]
theorem sz_ {n : Nat} (hn : n ≤ 7) (x : Nat) (hx : x < 2 ^ (n + 1)) : ∃ u, u < 2 ^ (n + 1) ∧ nmS n u = x := by
 obtain ⟨-, h2, h3⟩ := qP_ hn hx (Nat.le_refl 20)
 have h := sq_ (s := sS n x) (by omega) (Nat.le_refl 20)
 refine ⟨cI (sS n x), by have h5 := h.2.1; rwa [h2] at h5, ?_⟩
 unfold nmS
 have h4 := h.2.2
 rw [h2] at h4
 rw [h4, h3]
theorem rO_ {ws : List Int} (rs : List Bool) (most : Int) (hn : ws.length ≤ 7) (u : Nat) (hu : u < 2 ^ (ws.length + 1)) : edS (fun _ => 1) ws rs most (nmS ws.length u) = (Aof (edI ws rs most) u).map fun e => (nmS ws.length e.1, e.2) := by
 obtain ⟨-, h2, -⟩ := qQ_ hn hu (Nat.le_refl 20)
 unfold edS Aof edI
 rw [rC_ hn hu, Int.toNat_natCast, List.map_map, List.map_map]
 refine List.map_congr_left fun g _ => ?_
 have h3 := (sq_ (s := mv (sI ws.length u) g) (by rw [qs_]; omega) (Nat.le_refl 20)).2.2
 rw [qs_, h2] at h3
 simp only [Function.comp_apply, Int.toNat_natCast]
 unfold nmS
 rw [h3]
 rfl
def dn (l : List Bool) (v : Nat) : Bool := l.getD v false
theorem sI_ {l : List Bool} {u : Nat} (a : Bool) (hu : u < l.length) : dn (l.set u a) = upd (dn l) u a := by
 funext v
 show (l.set u a).getD v false = if v = u then a else l.getD v false
 rw [List.getD_eq_getElem?_getD, List.getD_eq_getElem?_getD, List.getElem?_set]
 by_cases h : v = u
 ·subst h
  simp [hu]
 ·rw [if_neg (fun e => h e.symm), if_neg h]
theorem qV_ {l : List Int} {u : Nat} (a : Int) (hu : u < l.length) : dd (l.set u a) = upd (dd l) u a := by
 funext v
 exact qW_ a hu v
theorem q5_ (l : List Int) (v : Nat) : rd l (v : Int) = dd l v := rfl
def Pk (x7 : List Int) (x9 : List Bool) (i : Nat) (b : Int) : Prop := (b = -1 ∧ ∀ v, v < i → dn x9 v = false → dd x7 v < 0) ∨ ∃ u : Nat, b = (u : Int) ∧ u < i ∧ dn x9 u = false ∧ 0 ≤ dd x7 u ∧ ∀ v, v < i → dn x9 v = false → 0 ≤ dd x7 v → dd x7 u ≤ dd x7 v
theorem qh_ {v i : Nat} (h : v < i + 1) : v < i ∨ v = i := by omega
theorem st_ (x1 : Bool) (x6 : Int) (ws : List Int) (rs : List Bool) (most : Int) {N : Nat} (hN : N ≤ 1000000) {x7 : List Int} (x8 : List Int) {x9 : List Bool} (h7 : x7.length = N) (h9 : x9.length = N) : ∀ (d i : Nat) (b : Int), i + d = N → Pk x7 x9 i b → ∃ b', Pk x7 x9 N b' ∧ ∀ K, spec_loFar.l2 (K + 1 + d) x1 x6 x7 x8 x9 b x7 (x7.length : Int) (i : Int) ws rs most = spec_loFar.l2 (K + 1) x1 x6 x7 x8 x9 b' x7 (x7.length : Int) (x7.length : Int) ws rs most := by
 intro d
 induction d with
 | zero =>
  intro i b hi hb
  refine ⟨b, by rw [← hi]; exact hb, fun K => ?_⟩
  rw [show i = x7.length by omega]
 | succ d ih =>
  intro i b hi hb
  have hlt : i < x7.length := by omega
  have step : ∀ K, spec_loFar.l2 (K + 1 + (d + 1)) x1 x6 x7 x8 x9 b x7 (x7.length : Int) (i : Int) ws rs most = if dn x9 i = true then spec_loFar.l2 (K + 1 + d) x1 x6 x7 x8 x9 b x7 (x7.length : Int) ((i + 1 : Nat) : Int) ws rs most else (if dd x7 i ≥ 0 then (if b < 0 then spec_loFar.l2 (K + 1 + d) x1 x6 x7 x8 x9 (i : Int) x7 (x7.length : Int) ((i + 1 : Nat) : Int) ws rs most else (if 0 ≤ b then (if b < (x7.length : Int) then (if dd x7 i < rd x7 b then spec_loFar.l2 (K + 1 + d) x1 x6 x7 x8 x9 (i : Int) x7 (x7.length : Int) ((i + 1 : Nat) : Int) ws rs most else spec_loFar.l2 (K + 1 + d) x1 x6 x7 x8 x9 b x7 (x7.length : Int) ((i + 1 : Nat) : Int) ws rs most) else none) else none)) else spec_loFar.l2 (K + 1 + d) x1 x6 x7 x8 x9 b x7 (x7.length : Int) ((i + 1 : Nat) : Int) ws rs most) := by
   intro K
   rw [show K + 1 + (d + 1) = (K + 1 + d) + 1 by omega, spec_loFar.l2.eq_2, if_pos (by omega), if_pos (by omega), if_pos (by omega), if_pos (by omega), qa_ hlt (by omega)]
   rfl
  simp only [step]
  have keep : ∀ (hskip : dn x9 i = true ∨ dd x7 i < 0), Pk x7 x9 (i + 1) b := by
   intro hskip
   rcases hb with ⟨e, h⟩ | ⟨u, e, hu, h1, h2, h3⟩
   ·refine .inl ⟨e, fun v hv hq => ?_⟩
    rcases qh_ hv with q | q
    ·exact h v q hq
    ·rw [q] at hq ⊢
     rcases hskip with z | z
     ·rw [z] at hq; cases hq
     ·exact z
   ·refine .inr ⟨u, e, by omega, h1, h2, fun v hv hq h0 => ?_⟩
    rcases qh_ hv with q | q
    ·exact h3 v q hq h0
    ·rw [q] at hq h0
     rcases hskip with z | z
     ·rw [z] at hq; cases hq
     ·omega
  by_cases c1 : dn x9 i = true
  ·simp only [if_pos c1]
   exact ih (i + 1) b (by omega) (keep (.inl c1))
  ·simp only [if_neg c1]
   have c1' : dn x9 i = false := by simpa using c1
   by_cases c2 : dd x7 i ≥ 0
   ·simp only [if_pos c2]
    rcases hb with ⟨e, h⟩ | ⟨u, e, hu, h1, h2, h3⟩
    ·simp only [if_pos (by omega : b < 0)]
     refine ih (i + 1) (i : Int) (by omega) (.inr ⟨i, rfl, by omega, c1', c2, fun v hv hq h0 => ?_⟩)
     rcases qh_ hv with q | q
     ·have := h v q hq; omega
     ·rw [q]; exact Int.le_refl _
    ·subst e
     simp only [if_neg (by omega : ¬ (u : Int) < 0), if_pos (by omega : (0 : Int) ≤ (u : Int)), if_pos (by omega : (u : Int) < (x7.length : Int)), q5_]
     by_cases c3 : dd x7 i < dd x7 u
     ·simp only [c3, if_true]
      refine ih (i + 1) (i : Int) (by omega) (.inr ⟨i, rfl, by omega, c1', c2, fun v hv hq h0 => ?_⟩)
      rcases qh_ hv with q | q
      ·have := h3 v q hq h0; omega
      ·rw [q]; exact Int.le_refl _
     ·simp only [c3, if_false]
      refine ih (i + 1) (u : Int) (by omega) (.inr ⟨u, rfl, by omega, h1, h2, fun v hv hq h0 => ?_⟩)
      rcases qh_ hv with q | q
      ·exact h3 v q hq h0
      ·rw [q]; omega
   ·simp only [if_neg c2]
    exact ih (i + 1) b (by omega) (keep (.inr (by omega)))
theorem sG_ (x1 : Bool) (x6 : Int) (ws : List Int) (rs : List Bool) (most : Int) {N : Nat} {x7 x8 : List Int} (x9 : List Bool) (h7 : x7.length = N) (h8 : x8.length = N) {u t c : Nat} (hu : u < N) (ht : t < N) (hc : 1 ≤ c) (h0 : 0 ≤ dd x7 u) (L : List (List Int)) (i : Nat) (o : List Bool) (b : Bool) (hi : (i : Int) < (L.length : Int)) (hL : L.length ≤ 1000000) :
  ∃ x7' x8', x7'.length = N ∧ x8'.length = N ∧ dd x7' = s5_ (dd x7) u t c ∧ dd x8' = s9_ (dd x7) (dd x8) u t c ∧ ∀ k,
   (if (rd x7 (t : Int)) < 0 then (spec_loFar.j4 (k + 1) x1 x6 x7 x8 x9 (u : Int) (t : Int) (dd x7 u + (c : Int)) L (L.length : Int) (i : Int) true ws rs most o b) else (spec_loFar.j4 (k + 1) x1 x6 x7 x8 x9 (u : Int) (t : Int) (dd x7 u + (c : Int)) L (L.length : Int) (i : Int) (decide ((dd x7 u + (c : Int)) < (rd x7 (t : Int)))) ws rs most o b)) = spec_loFar.l3 k x1 x6 x7' x8' x9 (u : Int) L (L.length : Int) ((i + 1 : Nat) : Int) ws rs most o b := by
 have hw : wrap64 ((i : Int) + 1) = ((i + 1 : Nat) : Int) := qa_ (by omega : i < L.length) (by omega)
 by_cases hA : dd x7 t < 0 ∨ dd x7 u + (c : Int) < dd x7 t
 ·have hut : u ≠ t := by intro e; rw [e] at hA h0; omega
  refine ⟨x7.set t (dd x7 u + (c : Int)), (x8.set t 0).set t (wrap64 (0 + dd x8 u)), by rw [List.length_set]; exact h7, by rw [List.length_set, List.length_set]; exact h8, ?_, ?_, fun k => ?_⟩
  ·rw [qV_ _ (by omega)]; exact (if_pos hA).symm
  ·rw [List.set_set, qV_ _ (by omega)]; exact (if_pos hA).symm
  ·have hs : (if (rd x7 (t : Int)) < 0 then (spec_loFar.j4 (k + 1) x1 x6 x7 x8 x9 (u : Int) (t : Int) (dd x7 u + (c : Int)) L (L.length : Int) (i : Int) true ws rs most o b) else (spec_loFar.j4 (k + 1) x1 x6 x7 x8 x9 (u : Int) (t : Int) (dd x7 u + (c : Int)) L (L.length : Int) (i : Int) (decide ((dd x7 u + (c : Int)) < (rd x7 (t : Int)))) ws rs most o b)) = spec_loFar.j4 (k + 1) x1 x6 x7 x8 x9 (u : Int) (t : Int) (dd x7 u + (c : Int)) L (L.length : Int) (i : Int) true ws rs most o b := by
    rw [q5_]
    by_cases q : dd x7 t < 0
    ·rw [if_pos q]
    ·rw [if_neg q, decide_eq_true (by omega)]
   rw [hs, spec_loFar.j4.eq_2, if_pos rfl, if_pos (by omega), if_pos (by omega), Option.bind_some, if_pos (by omega), Option.bind_some, Int.toNat_natCast, q5_ (x7.set t _) t, qV_ _ (by omega), qc_, if_pos rfl, if_pos (by omega), if_pos (by omega), q5_, q5_, qV_ _ (by omega), qc_, qd_ _ _ hut, hw]
 ·have hs : ∀ k, (if (rd x7 (t : Int)) < 0 then (spec_loFar.j4 (k + 1) x1 x6 x7 x8 x9 (u : Int) (t : Int) (dd x7 u + (c : Int)) L (L.length : Int) (i : Int) true ws rs most o b) else (spec_loFar.j4 (k + 1) x1 x6 x7 x8 x9 (u : Int) (t : Int) (dd x7 u + (c : Int)) L (L.length : Int) (i : Int) (decide ((dd x7 u + (c : Int)) < (rd x7 (t : Int)))) ws rs most o b)) = spec_loFar.j4 (k + 1) x1 x6 x7 x8 x9 (u : Int) (t : Int) (dd x7 u + (c : Int)) L (L.length : Int) (i : Int) false ws rs most o b := by
   intro k
   rw [q5_, if_neg (by omega), decide_eq_false (by omega)]
  by_cases hB : dd x7 u + (c : Int) = dd x7 t
  ·refine ⟨x7, x8.set t (wrap64 (dd x8 t + dd x8 u)), h7, by rw [List.length_set]; exact h8, (if_neg hA).symm, ?_, fun k => ?_⟩
   ·rw [qV_ _ (by omega)]; exact ((if_neg hA).trans (if_pos hB)).symm
   ·rw [hs, spec_loFar.j4.eq_2, if_neg (by decide), if_pos (by omega), if_pos (by omega), q5_, if_pos hB, if_pos (by omega), if_pos (by omega), if_pos (by omega), Int.toNat_natCast, q5_, q5_, hw]
  ·refine ⟨x7, x8, h7, h8, (if_neg hA).symm, ((if_neg hA).trans (if_neg hB)).symm, fun k => ?_⟩
   rw [hs, spec_loFar.j4.eq_2, if_neg (by decide), if_pos (by omega), if_pos (by omega), q5_, if_neg hB, hw]
def QA (A : Nat → List (Nat × Nat)) (done : Nat → Bool) : Nat → List (Nat × Nat) := fun x => if done x = true then A x else []
theorem sw_ {α : Type} (f : Nat → α) (u : Nat) (a b : α) : upd (upd f u a) u b = upd f u b := by
 funext x
 unfold upd
 split <;> rfl
structure CrewQ (x1 : Bool) (ws : List Int) (rs : List Bool) (most : Int) (cs : List Int → Nat) (C : Nat) : Prop where
 n : ws.length ≤ 7
 r : rs.length = ws.length
 c : ∀ u : Nat, u < 2 ^ (ws.length + 1) → ∀ g ∈ qe_ ws rs most (sS ws.length u), 1 ≤ cs g ∧ cs g ≤ C
 cost : ∀ u : Nat, u < 2 ^ (ws.length + 1) → ∀ g ∈ qe_ ws rs most (sS ws.length u), ∀ k, 20 ≤ k → spec_loCost.f k ws rs most g x1 = some (cs g : Int)
 b : C ≤ 1000000
theorem sA_ {n : Nat} (h : n ≤ 7) : 2 ^ (n + 1) ≤ 256 := Nat.le_trans (Nat.pow_le_pow_right (by decide) (by omega : n + 1 ≤ 8)) (by decide)
theorem sD_ {x1 : Bool} {ws : List Int} {rs : List Bool} {most : Int} {cs : List Int → Nat} {C : Nat} (hq : CrewQ x1 ws rs most cs C) (x6 : Int) {x9 : List Bool} {s0 j u : Nat} {m : Int} (hu : u < 2 ^ (ws.length + 1)) (hd : dn x9 u = true) (hj : m + (C : Int) ≤ ((C * j : Nat) : Int)) (hj2 : j ≤ 256) : ∀ (d i : Nat) (x7 x8 : List Int), i + d = (qe_ ws rs most (sS ws.length u)).length → x7.length = 2 ^ (ws.length + 1) → x8.length = 2 ^ (ws.length + 1) → dd x7 u = m →
  Sea (upd (QA (edS cs ws rs most) (dn x9)) u ((edS cs ws rs most u).take i)) (2 ^ (ws.length + 1)) C s0 (dn x9) (dd x7) (dd x8) m j →
  ∃ x7' x8', x7'.length = 2 ^ (ws.length + 1) ∧ x8'.length = 2 ^ (ws.length + 1) ∧ Sea (upd (QA (edS cs ws rs most) (dn x9)) u (edS cs ws rs most u)) (2 ^ (ws.length + 1)) C s0 (dn x9) (dd x7') (dd x8') m j ∧ ∀ K, 20 ≤ K →
   spec_loFar.l3 (K + 1 + 2 * d) x1 x6 x7 x8 x9 (u : Int) (qe_ ws rs most (sS ws.length u)) ((qe_ ws rs most (sS ws.length u)).length : Int) (i : Int) ws rs most (sS ws.length u).1 (sS ws.length u).2 = spec_loFar.l1 K x1 x6 x7' x8' x9 ws rs most := by
 intro d
 induction d with
 | zero =>
  intro i x7 x8 hi h7 h8 hm h
  have hl : (edS cs ws rs most u).length = (qe_ ws rs most (sS ws.length u)).length := by unfold edS; rw [List.length_map]
  refine ⟨x7, x8, h7, h8, ?_, fun K hK => ?_⟩
  ·rw [List.take_of_length_le (by omega)] at h; exact h
  ·rw [show K + 1 + 2 * 0 = K + 1 by omega, spec_loFar.l3.eq_2, if_neg (by omega)]
 | succ d ih =>
  intro i x7 x8 hi h7 h8 hm h
  obtain ⟨-, s1, -⟩ := qP_ hq.n hu (Nat.le_refl 20)
  have hR := qx_ (ws := ws) (rs := rs) (most := most) (s := sS ws.length u) (by have := hq.n; omega)
  have hlt : i < (qe_ ws rs most (sS ws.length u)).length := by omega
  have hle : i < (edS cs ws rs most u).length := by unfold edS; rw [List.length_map]; exact hlt
  have hgm : rd_L2 (qe_ ws rs most (sS ws.length u)) (i : Int) ∈ qe_ ws rs most (sS ws.length u) := qo_ hlt []
  obtain ⟨g, hg⟩ : ∃ g, g = rd_L2 (qe_ ws rs most (sS ws.length u)) (i : Int) := ⟨_, rfl⟩
  rw [← hg] at hgm
  have hmv : (mv (sS ws.length u) g).1.length = ws.length := (qs_ _ _).trans s1
  have hc1 := hq.c u hu g hgm
  have ht := (qY_ (s := mv (sS ws.length u) g) (by rw [hmv]; exact hq.n) (Nat.le_refl 20)).2.1
  rw [hmv] at ht
  have hu0 : 0 ≤ dd x7 u := (h.on u hu hd).1
  have hhi := h.high u hu
  have hCj : C * j ≤ 1000000 * 256 := Nat.mul_le_mul hq.b hj2
  have e9 : (edS cs ws rs most u).take (i + 1) = (edS cs ws rs most u).take i ++ [(cS (mv (sS ws.length u) g), cs g)] := by
   rw [qA_ _ i hle (0, 0)]
   congr 2
   unfold edS
   rw [re_ _ _ i hlt []]
   rw [hg]
   rfl
  obtain ⟨y7, y8, l7, l8, e7, e8, er⟩ := sG_ x1 x6 ws rs most (x7 := x7) (x8 := x8) x9 h7 h8 hu ht hc1.1 hu0 (qe_ ws rs most (sS ws.length u)) i (sS ws.length u).1 (sS ws.length u).2 (by omega) (by omega)
  rw [← hm] at h
  obtain ⟨hS, hSu⟩ := h.edge hu hd ht hc1.1 hc1.2 (by rw [hm]; exact hj)
  rw [qc_, sw_, ← e9, ← e7, ← e8] at hS
  rw [← e7] at hSu
  rw [hSu, hm] at hS
  obtain ⟨z7, z8, k7, k8, hZ, eZ⟩ := ih (i + 1) y7 y8 (by omega) l7 l8 (hSu.trans hm) hS
  refine ⟨z7, z8, k7, k8, hZ, fun K hK => ?_⟩
  rw [← eZ K hK, ← er]
  have hw : wrap64 (dd x7 u + (cs g : Int)) = dd x7 u + (cs g : Int) := qq_ (by omega) (by omega)
  rw [show K + 1 + 2 * (d + 1) = (K + 1 + 2 * d + 1) + 1 by omega, spec_loFar.l3.eq_2, if_pos (by omega), if_pos (by omega), if_pos (by omega), ← hg, sk_ (by have := hq.n; omega) (mem_rides.1 hgm).2.1 (by omega), Option.bind_some, (qY_ (s := mv (sS ws.length u) g) (by rw [hmv]; exact hq.n) (by omega : 20 ≤ K + 1 + 2 * d + 1)).1, Option.bind_some,
   if_pos (by omega), if_pos (by omega), hq.cost u hu g hgm _ (by omega), Option.bind_some, if_pos (by omega), if_pos (by omega), q5_ x7 u, hw]
def rP_ (l : List Bool) : Nat := l.countP fun b => b
theorem qN_ : ∀ {l : List Bool} {u : Nat}, u < l.length → dn l u = false → rP_ (l.set u true) = rP_ l + 1
 | [], u, h, _ => by simp at h
 | b :: l, 0, _, h => by
  have hb : b = false := h
  unfold rP_
  rw [List.set_cons_zero, List.countP_cons, List.countP_cons, hb]
  simp
 | b :: l, u + 1, h, h2 => by
  have := qN_ (l := l) (u := u) (by simpa using h) h2
  unfold rP_ at this ⊢
  rw [List.set_cons_succ, List.countP_cons, List.countP_cons, this]
  omega
theorem s4_ (A : Nat → List (Nat × Nat)) (done : Nat → Bool) (u : Nat) (hd : done u = false) : upd (QA A (upd done u true)) u [] = QA A done ∧ upd (QA A (upd done u true)) u (A u) = QA A (upd done u true) := by
 constructor
 ·funext x
  unfold QA upd
  by_cases e : x = u
  ·rw [if_pos e, e, hd]; simp
  ·simp only [if_neg e]
 ·funext x
  unfold QA upd
  by_cases e : x = u
  ·rw [if_pos e, if_pos e, e]; simp
  ·simp only [if_neg e]
theorem rk_ {cs : List Int → Nat} {ws : List Int} {rs : List Bool} {most : Int} {x1 : Bool} {C : Nat} (hq : CrewQ x1 ws rs most cs C) {s0 j : Nat} (hs : s0 < 2 ^ (ws.length + 1)) {x7 x8 : List Int} {x9 : List Bool} {m : Int} (h : Sea (QA (edS cs ws rs most) (dn x9)) (2 ^ (ws.length + 1)) C s0 (dn x9) (dd x7) (dd x8) m j)
  (hno : ∀ v, v < 2 ^ (ws.length + 1) → dn x9 v = false → dd x7 v < 0) : Far (edS cs ws rs most) (2 ^ (ws.length + 1)) (fun v => v = s0) (dd x7) ∧ Ways (edS cs ws rs most) (2 ^ (ws.length + 1)) (fun v => v = s0) (dd x7) (dd x8) ∧
   (∀ v, v < 2 ^ (ws.length + 1) → -1 ≤ dd x7 v) ∧ (∀ v, v < 2 ^ (ws.length + 1) → dd x7 v < 0 → dd x8 v = 0) := by
 obtain ⟨h1, h2⟩ := h.end_ hs (sH_ rs most hq.n hq.c) (sh_ rs most hq.n) (fun x hx hd => if_pos hd) hno
 refine ⟨h1, h2, h.low, fun v hv h0 => ?_⟩
 have hvs : v ≠ s0 := by
  intro e
  have := h.st
  rw [e] at h0; omega
 rw [h.ways v hv hvs, q0_ fun x hx e he e1 => ?_]
 ·exact qq_ (by omega) (by omega)
 ·have := h.go x hx e he
  rw [e1] at this
  omega
theorem sE_ {x1 : Bool} {ws : List Int} {rs : List Bool} {most : Int} {cs : List Int → Nat} {C : Nat} (hq : CrewQ x1 ws rs most cs C) {s0 : Nat} (hs : s0 < 2 ^ (ws.length + 1)) : ∀ (a : Nat) (x7 x8 : List Int) (x9 : List Bool) (m : Int), 2 ^ (ws.length + 1) - rP_ x9 ≤ a → x7.length = 2 ^ (ws.length + 1) → x8.length = 2 ^ (ws.length + 1) → x9.length = 2 ^ (ws.length + 1) →
  Sea (QA (edS cs ws rs most) (dn x9)) (2 ^ (ws.length + 1)) C s0 (dn x9) (dd x7) (dd x8) m (rP_ x9) →
  ∃ k z7 z8, spec_loFar.l1 k x1 (ws.length : Int) x7 x8 x9 ws rs most = some (z7, z8) ∧ z7.length = 2 ^ (ws.length + 1) ∧ z8.length = 2 ^ (ws.length + 1) ∧ Far (edS cs ws rs most) (2 ^ (ws.length + 1)) (fun v => v = s0) (dd z7) ∧ Ways (edS cs ws rs most) (2 ^ (ws.length + 1)) (fun v => v = s0) (dd z7) (dd z8) ∧
   (∀ v, v < 2 ^ (ws.length + 1) → -1 ≤ dd z7 v) ∧ (∀ v, v < 2 ^ (ws.length + 1) → dd z7 v < 0 → dd z8 v = 0) := by
 intro a
 induction a with
 | zero =>
  intro x7 x8 x9 m ha h7 h8 h9 h
  have hN := sA_ hq.n
  have hno : ∀ v, v < 2 ^ (ws.length + 1) → dn x9 v = false → False := by
   intro v hv hn
   have h1 := qN_ (l := x9) (u := v) (by omega) hn
   have h2 : rP_ (x9.set v true) ≤ (x9.set v true).length := List.countP_le_length
   rw [List.length_set] at h2
   omega
  obtain ⟨b', hb', eb⟩ := st_ x1 (ws.length : Int) ws rs most (N := 2 ^ (ws.length + 1)) (by omega) (x7 := x7) x8 (x9 := x9) h7 h9 (2 ^ (ws.length + 1)) 0 (-1) (by omega) (.inl ⟨rfl, fun v hv => by omega⟩)
  rcases hb' with ⟨e, -⟩ | ⟨u, e, hu, h1, -⟩
  ·refine ⟨0 + 1 + 2 ^ (ws.length + 1) + 1, x7, x8, ?_, h7, h8, rk_ hq hs h fun v hv hn => (hno v hv hn).elim⟩
   rw [spec_loFar.l1.eq_2]
   refine (eb 0).trans ?_
   rw [spec_loFar.l2.eq_2, if_neg (by omega), if_pos (by omega)]
  ·exact (hno u hu h1).elim
 | succ a ih =>
  intro x7 x8 x9 m ha h7 h8 h9 h
  have hN := sA_ hq.n
  obtain ⟨b', hb', eb⟩ := st_ x1 (ws.length : Int) ws rs most (N := 2 ^ (ws.length + 1)) (by omega) (x7 := x7) x8 (x9 := x9) h7 h9 (2 ^ (ws.length + 1)) 0 (-1) (by omega) (.inl ⟨rfl, fun v hv => by omega⟩)
  rcases hb' with ⟨e, hno⟩ | ⟨u, e, hu, h1, h2, h3⟩
  ·refine ⟨0 + 1 + 2 ^ (ws.length + 1) + 1, x7, x8, ?_, h7, h8, rk_ hq hs h hno⟩
   rw [spec_loFar.l1.eq_2]
   refine (eb 0).trans ?_
   rw [spec_loFar.l2.eq_2, if_neg (by omega), if_pos (by omega)]
  ·obtain ⟨hS, hj, hQ⟩ := h.pick hu h1 h2 h3
   have hc := qN_ (l := x9) (u := u) (by omega) h1
   have hcl : rP_ (x9.set u true) ≤ (x9.set u true).length := List.countP_le_length
   rw [List.length_set] at hcl
   obtain ⟨q1, q2⟩ := s4_ (edS cs ws rs most) (dn x9) u h1
   have hdn := sI_ (l := x9) (u := u) true (by omega)
   rw [← hc, ← hdn] at hS
   rw [← hdn] at q1 q2
   rw [← q1] at hS
   rw [← hc] at hj
   have hs1 := (qP_ hq.n hu (Nat.le_refl 20)).2.1
   have hR := qx_ (ws := ws) (rs := rs) (most := most) (s := sS ws.length u) (by have := hq.n; omega)
   obtain ⟨y7, y8, l7, l8, hS2, e3⟩ := sD_ hq (ws.length : Int) (x9 := x9.set u true) (s0 := s0) (j := rP_ (x9.set u true)) (u := u) (m := dd x7 u) hu (by rw [hdn, qc_]) hj (by omega) (qe_ ws rs most (sS ws.length u)).length 0 x7 x8 (by omega) h7 h8 rfl (by rw [List.take_zero]; exact hS)
   rw [q2] at hS2
   obtain ⟨k, z7, z8, hr, hz⟩ := ih y7 y8 (x9.set u true) (dd x7 u) (by omega) l7 l8 (by rw [List.length_set]; exact h9) hS2
   have hr2 : spec_loFar.l1 (k + 400) x1 (ws.length : Int) y7 y8 (x9.set u true) ws rs most = some (z7, z8) := qr_ (f := fun k => spec_loFar.l1 k x1 (ws.length : Int) y7 y8 (x9.set u true) ws rs most) (fun k => (spec_loFar.mono_l k).2.1 _ _ _ _ _ _ _ _) (by omega) hr
   have e4 := e3 (k + 400) (by omega)
   refine ⟨(k + 400 + 1 + 2 * (qe_ ws rs most (sS ws.length u)).length) + 1 + 2 ^ (ws.length + 1) + 1, z7, z8, ?_, hz⟩
   rw [spec_loFar.l1.eq_2]
   refine (eb _).trans ?_
   rw [e, spec_loFar.l2.eq_2, if_neg (by omega), if_neg (by omega), if_pos (by omega), if_pos (by omega), (qP_ hq.n hu (by omega)).1, Option.bind_some, rr_ most hq.r hq.n (by omega) hs1, Option.bind_some, Int.toNat_natCast]
   exact e4.trans hr2
def chkF (n : Nat) : Bool := decide (shl .i64 2 (n : Int) = ((2 ^ (n + 1) : Nat) : Int)) && (decide (impl_last.f (n : Int) = some (((2 ^ (n + 1) - 1 : Nat)) : Int)) && (decide (grN n = ((2 ^ (n + 1) : Nat) : Int)) && (decide (sI n (2 ^ (n + 1) - 1) = (List.replicate n true, true)) && decide (sI n 0 = (List.replicate n false, false)))))
set_option maxRecDepth 100000 in
theorem so_ : ((List.range 8).all chkF) = true := by decide +kernel
theorem rR_ {n : Nat} (h : n ≤ 7) : shl .i64 2 (n : Int) = ((2 ^ (n + 1) : Nat) : Int) ∧ impl_last.f (n : Int) = some (((2 ^ (n + 1) - 1 : Nat)) : Int) ∧ grN n = ((2 ^ (n + 1) : Nat) : Int) ∧ sI n (2 ^ (n + 1) - 1) = (List.replicate n true, true) ∧ sI n 0 = (List.replicate n false, false) := by
 have := List.all_eq_true.1 so_ n (List.mem_range.2 (by omega))
 unfold chkF at this
 simpa only [Bool.and_eq_true, decide_eq_true_eq] using this
theorem rA_ {n : Nat} (hn : n ≤ 1000000) : ∀ (d k i : Nat), i + d = n → d < k → spec_paLast.l0 k (n : Int) (i : Int) (List.replicate i true) true = some (List.replicate n true, true) := by
 intro d
 induction d with
 | zero =>
  intro k i hi hk
  obtain ⟨k, rfl⟩ := qb_ hk
  simp only [spec_paLast.l0]
  rw [if_neg (by omega), show i = n by omega]
 | succ d ih =>
  intro k i hi hk
  obtain ⟨k, rfl⟩ := qb_ hk
  have hlt : i < n := by omega
  simp only [spec_paLast.l0]
  rw [if_pos (by omega), if_pos (by rw [List.length_replicate]; omega), qa_ hlt (by omega), ← List.replicate_succ']
  exact ih k (i + 1) (by omega) (by omega)
theorem rB_ {ws : List Int} (hn : ws.length ≤ 7) (s : Int) {k : Nat} (hk : 20 ≤ k) : spec_paLast.f k ws s = some (List.replicate ws.length true, true) :=
 rA_ (by omega) ws.length k 0 (by omega) (by omega)
theorem sF_ (x1 : Bool) (x6 : Int) (ws : List Int) (rs : List Bool) (most : Int) {N : Nat} (hN : N ≤ 1000000) (x8 : List Int) (x9 : List Bool) : ∀ (d i : Nat) (x7 : List Int), i + d = N → x7.length = N → (∀ v, v < i → dd x7 v = -1) → ∃ z7, z7.length = N ∧ (∀ v, v < N → dd z7 v = -1) ∧ ∀ K, spec_loFar.l0 (K + 1 + d) x1 x6 x7 x8 x9 (N : Int) (i : Int) ws rs most = spec_loFar.l0 (K + 1) x1 x6 z7 x8 x9 (N : Int) (N : Int) ws rs most := by
 intro d
 induction d with
 | zero =>
  intro i x7 hi h7 h
  refine ⟨x7, h7, fun v hv => h v (by omega), fun K => ?_⟩
  rw [show i = N by omega]
 | succ d ih =>
  intro i x7 hi h7 h
  obtain ⟨z7, a, b, c⟩ := ih (i + 1) (x7.set i (-1)) (by omega) (by rw [List.length_set]; exact h7) (fun v hv => by
   rw [qW_ _ (by omega)]
   split
   ·rfl
   ·exact h v (by omega))
  refine ⟨z7, a, b, fun K => ?_⟩
  rw [← c K, show K + 1 + (d + 1) = (K + 1 + d) + 1 by omega, spec_loFar.l0.eq_2, if_pos (by omega), if_pos (by omega), if_pos (by omega), qa_ (by omega : i < N) (by omega), Int.toNat_natCast]
theorem r0_ (n : Nat) : rP_ (List.replicate n false) = 0 := by
 unfold rP_
 rw [List.countP_eq_zero]
 intro x hx
 rw [(List.mem_replicate.1 hx).2]
 decide
theorem si_ (n : Nat) : dn (List.replicate n false) = fun _ => false := by
 funext v
 show (List.replicate n false).getD v false = false
 rw [List.getD_eq_getElem?_getD, List.getElem?_replicate]
 split <;> rfl
theorem s2_ (n v : Nat) : dd (List.replicate n 0) v = 0 := by
 show (List.replicate n (0 : Int)).getD v 0 = 0
 rw [List.getD_eq_getElem?_getD, List.getElem?_replicate]
 split <;> rfl
theorem r9_ {N C s0 : Nat} {d w : Nat → Int} (hs : s0 < N) (hd : ∀ v, v < N → d v = if v = s0 then 0 else -1) (hw : ∀ v, v < N → w v = if v = s0 then 1 else 0) : Sea (fun _ => []) N C s0 (fun _ => false) d w 0 0 where
 st := by rw [hd s0 hs, if_pos rfl]
 w0 := by rw [hw s0 hs, if_pos rfl]
 low := fun v hv => by rw [hd v hv]; by_cases h : v = s0 <;> simp [h]
 high := fun v hv => by rw [hd v hv]; by_cases h : v = s0 <;> simp [h]
 sub := fun _ _ _ h => by cases h
 off := fun _ _ _ => rfl
 on := fun _ _ h => by cases h
 up := fun v _ _ h => h
 go := fun _ _ _ h => by cases h
 by_ := fun v hv h => by
  rw [hd v hv] at h
  by_cases e : v = s0
  ·exact .inl e
  ·rw [if_neg e] at h; omega
 ways := fun v hv e => by
  rw [hw v hv, if_neg e, q0_ (fun _ _ _ h => by cases h)]
  exact (qq_ (by omega) (by omega)).symm
theorem sV_ {x1 : Bool} {ws : List Int} {rs : List Bool} {most : Int} {cs : List Int → Nat} {C : Nat} (hq : CrewQ x1 ws rs most cs C) : ∃ k z7 z8, spec_loFar.f k ws rs most x1 = some (z7, z8) ∧ z7.length = 2 ^ (ws.length + 1) ∧ z8.length = 2 ^ (ws.length + 1) ∧ Far (edS cs ws rs most) (2 ^ (ws.length + 1)) (fun v => v = nmS ws.length (2 ^ (ws.length + 1) - 1)) (dd z7) ∧ Ways (edS cs ws rs most) (2 ^ (ws.length + 1)) (fun v => v = nmS ws.length (2 ^ (ws.length + 1) - 1)) (dd z7) (dd z8) ∧
   (∀ v, v < 2 ^ (ws.length + 1) → -1 ≤ dd z7 v) ∧ (∀ v, v < 2 ^ (ws.length + 1) → dd z7 v < 0 → dd z8 v = 0) := by
 have hN := sA_ hq.n
 obtain ⟨f1, -, -, f4, -⟩ := rR_ hq.n
 have hpos : 0 < 2 ^ (ws.length + 1) := Nat.pow_pos (by omega)
 have hs0 : cS (List.replicate ws.length true, true) = nmS ws.length (2 ^ (ws.length + 1) - 1) := by
  unfold nmS
  rw [f4]
 have hs := rj_ hq.n (2 ^ (ws.length + 1) - 1) (by omega)
 obtain ⟨y7, a, b, c⟩ := sF_ x1 (ws.length : Int) ws rs most (N := 2 ^ (ws.length + 1)) (by omega) (List.replicate (2 ^ (ws.length + 1)) 0) (List.replicate (2 ^ (ws.length + 1)) false) (2 ^ (ws.length + 1)) 0 (List.replicate (2 ^ (ws.length + 1)) 0) (by omega) (by simp) (fun v hv => by omega)
 obtain ⟨k, z7, z8, hr, hz⟩ := sE_ hq hs (2 ^ (ws.length + 1)) (y7.set (nmS ws.length (2 ^ (ws.length + 1) - 1)) 0) ((List.replicate (2 ^ (ws.length + 1)) 0).set (nmS ws.length (2 ^ (ws.length + 1) - 1)) 1) (List.replicate (2 ^ (ws.length + 1)) false) 0 (by omega) (by rw [List.length_set]; exact a) (by simp) (by simp) (by
  rw [r0_, si_]
  refine r9_ hs (fun v hv => ?_) (fun v hv => ?_)
  ·rw [qW_ _ (by omega), b v hv]
  ·rw [qW_ _ (by rw [List.length_replicate]; exact hs), s2_])
 have hr2 := qr_ (f := fun k => spec_loFar.l1 k x1 (ws.length : Int) (y7.set (nmS ws.length (2 ^ (ws.length + 1) - 1)) 0) ((List.replicate (2 ^ (ws.length + 1)) 0).set (nmS ws.length (2 ^ (ws.length + 1) - 1)) 1) (List.replicate (2 ^ (ws.length + 1)) false) ws rs most) (fun k => (spec_loFar.mono_l k).2.1 _ _ _ _ _ _ _ _) (by omega : k ≤ k + 400) hr
 refine ⟨k + 400 + 1 + 2 ^ (ws.length + 1), z7, z8, ?_, hz⟩
 unfold spec_loFar.f
 rw [f1, if_pos (by omega), Int.toNat_natCast, if_pos (by omega), Option.bind_some, if_pos (by omega), List.length_replicate]
 refine (c (k + 400)).trans ?_
 have hi := (qY_ (s := (List.replicate ws.length true, true)) (by simp only [List.length_replicate]; exact hq.n) (by omega : 20 ≤ k + 400)).1
 rw [spec_loFar.l0.eq_2, if_neg (by omega)]
 unfold spec_loParty.f
 rw [Option.bind_some, rB_ hq.n _ (by omega), Option.bind_some, hi, Option.bind_some, hs0, if_pos (by omega), if_pos (by omega), if_pos (by rw [List.length_replicate]; omega), Int.toNat_natCast]
 exact hr2
theorem sJ_ {ws : List Int} {rs : List Bool} (most : Int) (hn : ws.length ≤ 7) (hr : rs.length = ws.length) : CrewQ false ws rs most (fun _ => 1) 1 :=
 ⟨hn, hr, fun _ _ _ _ => ⟨Nat.le_refl _, Nat.le_refl _⟩, fun _ _ _ _ k _ => by unfold spec_loCost.f; rw [if_neg (by decide)]; rfl, by decide⟩
theorem rw_ {E E' : Int → List S110} {N : Int} (h : ∀ s, 0 ≤ s → s < N → E s = E' s) (k : Nat) (starts : List Int) : impl_graph_int_from.f E k N starts = impl_graph_int_from.f E' k N starts := by
 unfold impl_graph_int_from.f
 simp only [frRun_congr h]
theorem se_ {g : Int → Option (List S110)} {E : Int → List S110} {N : Nat} (h : ∀ c : Nat, c < N → g (c : Int) = some (E (c : Int))) : grAll g (N : Int) = true ∧ ∀ s, 0 ≤ s → s < (N : Int) → grE g s = E s := by
 constructor
 ·unfold grAll
  rw [Int.toNat_natCast, List.all_eq_true]
  intro c hc
  rw [h c (List.mem_range.1 hc)]
  rfl
 ·intro s h0 h1
  obtain ⟨c, rfl⟩ : ∃ c : Nat, s = (c : Int) := ⟨s.toNat, by omega⟩
  unfold grE
  rw [h c (by omega)]
  rfl
theorem rq_ {ws : List Int} (hn : ws.length ≤ 7) (s : Int) : spec_paFirst.f ws s = some (List.replicate ws.length false, false) := by
 unfold spec_paFirst.f
 rw [if_pos (by omega), if_pos (by omega), Int.toNat_natCast]
theorem rs_ {ws : List Int} {rs : List Bool} (hn : ws.length ≤ 7) (hr : rs.length = ws.length) (most : Int) : ∃ (d : Int) (k0 : Nat) (dist : List Int), Far (Aof (edI ws rs most)) (2 ^ (ws.length + 1)) (fun v => v = 2 ^ (ws.length + 1) - 1) (dd dist) ∧ d = dd dist 0 ∧
  ∀ k, k0 ≤ k → spec_loLeast.f k ws rs most false = some d ∧ impl_Crew_plans.f k ws rs most = some (decide (0 ≤ d)) := by
 have hN := sA_ hn
 have hpos : 0 < 2 ^ (ws.length + 1) := Nat.pow_pos (by omega)
 obtain ⟨f1, f2, f3, f4, f5⟩ := rR_ hn
 have hE := su_ rs most hn
 obtain ⟨k1, z7, z8, s1, l7, l8, sF, sW, slo, sz⟩ := sV_ (sJ_ most hn hr)
 obtain ⟨k2, dist, i1, iF, il, ilo, ihi⟩ := sf_ hE (s := 2 ^ (ws.length + 1) - 1) (by omega) (by omega) (by omega) (by omega)
 have e7 : ∀ v, v < 2 ^ (ws.length + 1) → dd z7 (nmS ws.length v) = dd dist v := fun v hv =>
  Far.eq hE.b (Far.names (nmS ws.length) sF hE.b (rj_ hn) (s0_ hn) (sz_ hn) (by omega) (rO_ rs most hn)) iF (fun v hv => slo _ (rj_ hn v hv)) ilo hv
 have hn0 : cS (List.replicate ws.length false, false) = nmS ws.length 0 := by
  unfold nmS
  rw [f5]
 have hlt0 := rj_ hn 0 hpos
 refine ⟨dd dist 0, k1 + k2 + 20, dist, iF, rfl, fun k hk => ?_⟩
 have s2 := qr_ (f := fun k => spec_loFar.f k ws rs most false) (fun k => spec_loFar.mono _ _ _ _ k) (by omega : k1 ≤ k) s1
 have i2 := qr_ (f := fun k => impl_graph_int_from.f (edI ws rs most) k ((2 ^ (ws.length + 1) : Nat) : Int) [((2 ^ (ws.length + 1) - 1 : Nat) : Int)]) (fun k => impl_graph_int_from.mono _ _ _ k) (by omega : k2 ≤ k) i1
 have hst := (qY_ (s := (List.replicate ws.length false, false)) (by simp only [List.length_replicate]; exact hn) (by omega : 20 ≤ k)).1
 obtain ⟨g1, g2⟩ := se_ (g := crewG k ws rs most) (E := edI ws rs most) (N := 2 ^ (ws.length + 1)) fun c hc => sl_ most hr hn (by omega) hc
 have hcost : impl_Crew_costs.f k ws rs most = some (dist, decide (0 ≤ dd dist 0)) := by
  unfold impl_Crew_costs.f frG
  rw [f2, Option.bind_some, f3, if_pos g1, rw_ g2]
  have i3 : impl_graph_int_from.f (edI ws rs most) k ((2 ^ (ws.length + 1) : Nat) : Int) [((2 ^ (ws.length + 1) - 1 : Nat) : Int)] = some dist := i2
  rw [i3, Option.bind_some, if_pos (by omega)]
  rfl
 have hspec : spec_loStart.f k ws rs most = some (nmS ws.length 0 : Int) := by
  unfold spec_loStart.f spec_loParty.f
  rw [Option.bind_some, rq_ hn, Option.bind_some, hst, Option.bind_some, hn0]
 have s3 : spec_loFar.f k ws rs most false = some (z7, z8) := s2
 have hleast : spec_loLeast.f k ws rs most false = some (dd dist 0) := by
  unfold spec_loLeast.f
  rw [s3, Option.bind_some, hspec, Option.bind_some, if_pos (by omega), if_pos (by show (nmS ws.length 0 : Int) < (z7.length : Int); omega), ← e7 0 hpos]
  rfl
 refine ⟨hleast, ?_⟩
 unfold impl_Crew_plans.f
 rw [hcost, Option.bind_some]
def rt_ (L : List Int) (p : Int → Bool) (x : Int) : Prop := x ∈ L ∧ p x = true ∧ ∀ y ∈ L, p y = true → x ≤ y
theorem sd_ {L M : List Int} {p : Int → Bool} {x y : Int} (h : rt_ L p x) (h' : rt_ M p y) (e : ∀ z, z ∈ L ↔ z ∈ M) : x = y := by
 have h1 := h.2.2 y ((e y).2 h'.1) h'.2.1
 have h2 := h'.2.2 x ((e x).1 h.1) h.2.1
 omega
theorem qv_ (zs : List Int) : (Lib.compact zs).Sublist zs := by
 have h : ((List.range zs.toArray.size).filter (Lib.keeps zs.toArray)).map (zs.toArray[·]!) |>.Sublist ((List.range zs.toArray.size).map (zs.toArray[·]!)) := List.Sublist.map _ List.filter_sublist
 rw [Lib.range_map_get] at h
 exact h
theorem q6_ (zs : List Int) (x : Int) : x ∈ Lib.compact zs ↔ x ∈ zs := by
 refine ⟨fun h => (qv_ zs).subset h, fun h => ?_⟩
 have key : ∀ j, j < zs.toArray.size → zs.toArray[j]! ∈ Lib.compactUpTo zs.toArray zs.toArray.size := by
  intro j
  induction j with
  | zero =>
   intro hj
   exact List.mem_map.2 ⟨0, List.mem_filter.2 ⟨List.mem_range.2 hj, Lib.keeps_lt_one _ 0 (by omega)⟩, rfl⟩
  | succ j ih =>
   intro hj
   by_cases e : zs.toArray[j + 1]! = zs.toArray[j]!
   ·rw [e]
    exact ih (by omega)
   ·exact List.mem_map.2 ⟨j + 1, List.mem_filter.2 ⟨List.mem_range.2 hj, Lib.keeps_pos e⟩, rfl⟩
 obtain ⟨i, hi, rfl⟩ := List.mem_iff_getElem.1 h
 have h2 := key i (by simpa using hi)
 have e : zs.toArray[i]! = zs[i] := by simp [hi]
 rw [e] at h2
 exact h2
theorem rF_ {k : Nat} {ws : List Int} {rs : List Bool} {L : List Int} (p : Int → Bool) (hp : ∀ x ∈ L, impl_Crew_plans.f k ws rs x = some (p x)) (hs : L.Pairwise (· ≤ ·)) (hm : ∀ x y, x ≤ y → p x = true → p y = true) : ∀ (g low high : Nat), low ≤ high → high < L.length → high - low < g → p (L.getD high 0) = true → (∀ i, i < low → p (L.getD i 0) = false) →
  ∃ x, leRun k ws rs L g (low : Int) (high : Int) = some x ∧ rt_ L p x := by
 have hle : ∀ i j, i ≤ j → j < L.length → L.getD i 0 ≤ L.getD j 0 := by
  intro i j hij hj
  rcases Nat.lt_or_eq_of_le hij with h | h
  ·have := List.pairwise_iff_getElem.1 hs i j (by omega) hj h
   rw [List.getD_eq_getElem?_getD, List.getD_eq_getElem?_getD, List.getElem?_eq_getElem hj, List.getElem?_eq_getElem (by omega : i < L.length)]
   exact this
  ·rw [h]; exact Int.le_refl _
 intro g
 induction g with
 | zero => intro low high _ _ h; omega
 | succ g ih =>
  intro low high h1 h2 h3 h4 h5
  rw [leRun.eq_2]
  by_cases c : low < high
  ·obtain ⟨mid, hmid⟩ : ∃ mid, mid = (low + high) / 2 := ⟨_, rfl⟩
   have e : Int.tdiv ((low : Int) + (high : Int)) 2 = (mid : Int) := by
    rw [Int.tdiv_eq_ediv_of_nonneg (by omega)]
    omega
   have hml : mid < L.length := by omega
   have er : rdOf 0 L (mid : Int) = L.getD mid 0 := rfl
   rw [if_pos (by omega), if_pos ⟨by omega, by omega⟩, e, er, hp _ (qo_ hml 0), Option.bind_some]
   cases hpm : p (L.getD mid 0)
   ·rw [if_neg (by decide)]
    refine ih (mid + 1) high (by omega) h2 (by omega) h4 fun i hi => ?_
    cases hq : p (L.getD i 0)
    ·rfl
    ·have := hm _ _ (hle i mid (by omega) hml) hq
     rw [hpm] at this
     cases this
   ·rw [if_pos rfl]
    exact ih low mid (by omega) hml (by omega) hpm h5
  ·have e : low = high := by omega
   subst e
   rw [if_neg (by omega), if_pos ⟨by omega, by omega⟩]
   refine ⟨_, rfl, qo_ h2 0, h4, fun y hy hpy => ?_⟩
   obtain ⟨i, hi, rfl⟩ := List.mem_iff_getElem.1 hy
   have ei : L.getD i 0 = L[i] := by rw [List.getD_eq_getElem?_getD, List.getElem?_eq_getElem hi]; rfl
   by_cases q : i < low
   ·have := h5 i q
    rw [ei, hpy] at this
    cases this
   ·have := hle low i (by omega) hi
    rw [ei] at this
    exact this
def qD_ (p : Int → Bool) (b m : Int) : Int := if b ≥ 0 ∧ m ≥ b then b else if p m = true then m else b
theorem sg_ (p : Int → Bool) : ∀ (l done : List Int) (b : Int), (∀ m ∈ done ++ l, 0 ≤ m) → ((b = -1 ∧ ∀ m ∈ done, p m = false) ∨ rt_ done p b) → ((l.foldl (qD_ p) b = -1 ∧ ∀ m ∈ done ++ l, p m = false) ∨ rt_ (done ++ l) p (l.foldl (qD_ p) b)) := by
 intro l
 induction l with
 | nil => intro done b _ h; rw [List.append_nil]; exact h
 | cons m l ih =>
  intro done b h0 h
  have ha : done ++ m :: l = (done ++ [m]) ++ l := by rw [List.append_assoc]; rfl
  rw [ha] at h0 ⊢
  refine ih (done ++ [m]) (qD_ p b m) h0 ?_
  have hm0 := h0 m (by simp)
  unfold qD_
  rcases h with ⟨hb, hd⟩ | hb
  ·rw [if_neg (by omega)]
   cases hp : p m
   ·refine .inl ⟨by rw [if_neg (by decide)]; exact hb, fun x hx => ?_⟩
    rcases List.mem_append.1 hx with hx | hx
    ·exact hd x hx
    ·rw [List.mem_singleton.1 hx]; exact hp
   ·refine .inr ?_
    rw [if_pos rfl]
    refine ⟨by simp, hp, fun y hy hpy => ?_⟩
    rcases List.mem_append.1 hy with hy | hy
    ·rw [hd y hy] at hpy; cases hpy
    ·rw [List.mem_singleton.1 hy]; exact Int.le_refl _
  ·refine .inr ?_
   have hb0 := h0 b (List.mem_append_left _ (List.mem_append_left _ hb.1))
   by_cases c : b ≥ 0 ∧ m ≥ b
   ·rw [if_pos c]
    refine ⟨List.mem_append_left _ hb.1, hb.2.1, fun y hy hpy => ?_⟩
    rcases List.mem_append.1 hy with hy | hy
    ·exact hb.2.2 y hy hpy
    ·rw [List.mem_singleton.1 hy]; exact c.2
   ·rw [if_neg c]
    cases hp : p m
    ·rw [if_neg (by decide)]
     refine ⟨List.mem_append_left _ hb.1, hb.2.1, fun y hy hpy => ?_⟩
     rcases List.mem_append.1 hy with hy | hy
     ·exact hb.2.2 y hy hpy
     ·rw [List.mem_singleton.1 hy, hp] at hpy; cases hpy
    ·rw [if_pos rfl]
     refine ⟨by simp, hp, fun y hy hpy => ?_⟩
     rcases List.mem_append.1 hy with hy | hy
     ·have := hb.2.2 y hy hpy
      omega
     ·rw [List.mem_singleton.1 hy]; exact Int.le_refl _
theorem Far.sub {A A' : Nat → List (Nat × Nat)} {N C : Nat} {S : Nat → Prop} {d d' : Nat → Int} (hA : GrB A N C) (hs : ∀ u, u < N → ∀ e ∈ A u, e ∈ A' u) (h : Far A N S d) (h' : Far A' N S d') : ∀ (n v : Nat), v < N → 0 ≤ d v → d v ≤ (n : Int) → 0 ≤ d' v := by
 intro n
 induction n with
 | zero =>
  intro v hv h0 hn
  rcases h.by_ v hv h0 with e | ⟨u, hu, hu0, c, hc, e⟩
  ·rw [h'.st v e]; exact Int.le_refl _
  ·have := (hA u hu _ hc).2.1
   simp only at this
   omega
 | succ n ih =>
  intro v hv h0 hn
  rcases h.by_ v hv h0 with e | ⟨u, hu, hu0, c, hc, e⟩
  ·rw [h'.st v e]; exact Int.le_refl _
  ·have := (hA u hu _ hc).2.1
   simp only at this
   exact (h'.go u hu (ih u hu hu0 (by omega)) _ (hs u hu _ hc)).1
def q2_ (n : Nat) : List Int := (List.range' 0 n).map fun j : Nat => (j : Int)
def blD (b i d : Nat) : List Int := ((List.range' i d).filter fun j : Nat => decide (Go.bits .and .i64 (shr .i64 (b : Int) (j : Int)) 1 = 1)).map fun j : Nat => (j : Int)
theorem sr_ (b i d : Nat) : blD b i (d + 1) = (if decide (Go.bits .and .i64 (shr .i64 (b : Int) (i : Int)) 1 = 1) = true then [(i : Int)] else []) ++ blD b (i + 1) d := by
 unfold blD
 rw [List.range'_succ, List.filter_cons]
 split <;> simp
def rg_ (g : List Int) : Nat := g.foldl (fun a x => a + 2 ^ x.toNat) 0
def chkB (n : Nat) : Bool := decide (qf_ (List.replicate n false) false = q2_ n) && (decide (qf_ (List.replicate n true) true = q2_ n) && (decide (mv (List.replicate n true, true) (q2_ n) = (List.replicate n false, false)) && (decide (shl .i64 1 (n : Int) = ((2 ^ n : Nat) : Int)) && (((List.range' 1 (2 ^ n - 1)).all fun b => !(blD b 0 n).isEmpty) && ((ql_ (q2_ n) []).all fun g => decide (1 ≤ rg_ g) && (decide (rg_ g < 2 ^ n) && (blD (rg_ g) 0 n == g)))))))
set_option maxRecDepth 100000 in
theorem sp_ : ((List.range 8).all chkB) = true := by decide +kernel
theorem rl_ {n : Nat} (h : n ≤ 7) : qf_ (List.replicate n false) false = q2_ n ∧ qf_ (List.replicate n true) true = q2_ n ∧ mv (List.replicate n true, true) (q2_ n) = (List.replicate n false, false) ∧ shl .i64 1 (n : Int) = ((2 ^ n : Nat) : Int) ∧ (∀ b, 1 ≤ b → b < 2 ^ n → blD b 0 n ≠ []) ∧ ∀ g ∈ ql_ (q2_ n) [], 1 ≤ rg_ g ∧ rg_ g < 2 ^ n ∧ blD (rg_ g) 0 n = g := by
 have := List.all_eq_true.1 sp_ n (List.mem_range.2 (by omega))
 unfold chkB at this
 simp only [Bool.and_eq_true, decide_eq_true_eq, List.all_eq_true, beq_iff_eq] at this
 obtain ⟨h1, h2, h3, h4, h5, h6⟩ := this
 refine ⟨h1, h2, h3, h4, fun b b0 b1 e => ?_, fun g hg => h6 g hg⟩
 have := h5 b (List.mem_range'_1.2 ⟨b0, by omega⟩)
 rw [e] at this
 cases this
theorem rH_ (n : Nat) : InN n (q2_ n) := fun x hx => by
 unfold q2_ at hx
 obtain ⟨j, hj, rfl⟩ := List.mem_map.1 hx
 have := List.mem_range'_1.1 hj
 omega
theorem qm_ (n : Nat) : (q2_ n).length = n := by unfold q2_; rw [List.length_map, List.length_range']
theorem qS_ {ws : List Int} (hn : ws.length ≤ 7) (x : Int) : x ∈ ((ql_ (q2_ ws.length) []).map fun g => ldS ws g 0) ↔ x ∈ ((List.range' 1 (2 ^ ws.length - 1)).map fun b => ldS ws (blD b 0 ws.length) 0) := by
 obtain ⟨-, -, -, -, h5, h6⟩ := rl_ hn
 constructor
 ·intro h
  obtain ⟨g, hg, rfl⟩ := List.mem_map.1 h
  obtain ⟨a, b, c⟩ := h6 g hg
  exact List.mem_map.2 ⟨rg_ g, List.mem_range'_1.2 ⟨a, by omega⟩, by rw [c]⟩
 ·intro h
  obtain ⟨b, hb, rfl⟩ := List.mem_map.1 h
  have hb' := List.mem_range'_1.1 hb
  refine List.mem_map.2 ⟨blD b 0 ws.length, (qi_ _ _).2 ⟨blD b 0 ws.length, h5 b hb'.1 (by omega), ?_, rfl⟩, rfl⟩
  unfold blD q2_
  exact List.Sublist.map _ List.filter_sublist
theorem rG_ {ws : List Int} (hw : ∀ x ∈ ws, 1 ≤ x ∧ x ≤ 500) : ∀ (g : List Int) (a : Int), InN ws.length g → 0 ≤ a → a + 500 * g.length ≤ 1000000 → 0 ≤ ldS ws g a
 | [], a, _, h, _ => h
 | x :: g, a, hg, h, hb => by
  have hx := hg x List.mem_cons_self
  have h1 : rd ws x ∈ ws := by
   unfold rd
   exact qo_ (by omega) 0
  have h2 := hw _ h1
  rw [List.length_cons] at hb
  show 0 ≤ ldS ws g (wrap64 (a + rd ws x))
  rw [qq_ (by omega) (by omega)]
  exact rG_ hw g _ (fun y hy => hg y (List.mem_cons_of_mem _ hy)) (by omega) (by omega)
theorem sS_ {ws : List Int} (rs : List Bool) (most : Int) (hn : ws.length ≤ 7) (b : Nat) (x7 : Int) : ∀ (d i : Nat) (x9 : Int), i + d = ws.length → ∀ K, spec_LeastMost.l2 (K + 1 + d) x7 (b : Int) x9 ws (ws.length : Int) (i : Int) ws rs most = spec_LeastMost.l2 (K + 1) x7 (b : Int) (ldS ws (blD b i d) x9) ws (ws.length : Int) (ws.length : Int) ws rs most := by
 intro d
 induction d with
 | zero =>
  intro i x9 hi K
  rw [show i = ws.length by omega]
  rfl
 | succ d ih =>
  intro i x9 hi K
  rw [show K + 1 + (d + 1) = (K + 1 + d) + 1 by omega, sr_]
  have hw : wrap64 ((i : Int) + 1) = ((i + 1 : Nat) : Int) := qa_ (n := ws.length) (by omega) (by omega)
  rw [spec_LeastMost.l2.eq_2, if_pos (by omega), if_pos (by omega), if_pos (by omega), hw]
  by_cases c : Go.bits .and .i64 (shr .i64 (b : Int) (i : Int)) 1 = 1
  ·rw [if_pos c, if_pos (decide_eq_true c), ih (i + 1) _ (by omega) K]
   rfl
  ·rw [if_neg c, if_neg (by simpa using c), ih (i + 1) _ (by omega) K]
   rfl
theorem sT_ {ws : List Int} {rs : List Bool} (most : Int) (hn : ws.length ≤ 7) (D : Int → Int) {K0 : Nat} (hp : ∀ b, 1 ≤ b → b < 2 ^ ws.length → ∀ k, K0 ≤ k → spec_loLeast.f k ws rs (ldS ws (blD b 0 ws.length) 0) false = some (D (ldS ws (blD b 0 ws.length) 0))) : ∀ (d b : Nat) (x7 : Int), b + d = 2 ^ ws.length → 1 ≤ b → ∀ F, K0 ≤ F →
  spec_LeastMost.l1 (F + 1 + (ws.length + 3) * d) x7 (b : Int) ws rs most = some (((List.range' b d).map fun b => ldS ws (blD b 0 ws.length) 0).foldl (qD_ fun m => decide (0 ≤ D m)) x7, true) := by
 obtain ⟨-, -, -, h4, -, -⟩ := rl_ hn
 have hN : 2 ^ ws.length ≤ 128 := Nat.le_trans (Nat.pow_le_pow_right (by decide) hn) (by decide)
 obtain ⟨N, hNe⟩ : ∃ N, N = 2 ^ ws.length := ⟨_, rfl⟩
 rw [← hNe] at hN h4 hp ⊢
 intro d
 induction d with
 | zero =>
  intro b x7 hb b1 F hF
  rw [Nat.mul_zero, Nat.add_zero, spec_LeastMost.l1.eq_2, h4, if_neg (by omega)]
  rfl
 | succ d ih =>
  intro b x7 hb b1 F hF
  obtain ⟨G, hG⟩ : ∃ G, G = F + 1 + (ws.length + 3) * d := ⟨_, rfl⟩
  have e1 : F + 1 + (ws.length + 3) * (d + 1) = ((G + 1) + 1 + ws.length) + 1 := by rw [Nat.mul_succ]; omega
  have hr : ∀ y : Int, spec_LeastMost.l1 G y ((b + 1 : Nat) : Int) ws rs most = some (((List.range' (b + 1) d).map fun b => ldS ws (blD b 0 ws.length) 0).foldl (qD_ fun m => decide (0 ≤ D m)) y, true) := fun y => by rw [hG]; exact ih (b + 1) y (by omega) (by omega) F hF
  have hK : K0 ≤ G := by rw [hG]; exact Nat.le_trans hF (by rw [Nat.add_assoc]; exact Nat.le_add_right _ _)
  have hw : wrap64 ((b : Int) + 1) = ((b + 1 : Nat) : Int) := qa_ (n := N) (by omega) (by omega)
  have hl := hp b b1 (by omega) G hK
  rw [e1, spec_LeastMost.l1.eq_2, h4, if_pos (by omega)]
  refine Eq.trans (sS_ rs most hn b x7 ws.length 0 0 (by omega) (G + 1)) ?_
  rw [List.range'_succ, List.map_cons, List.foldl_cons]
  obtain ⟨m, hm⟩ : ∃ m, m = ldS ws (blD b 0 ws.length) 0 := ⟨_, rfl⟩
  rw [← hm] at hl ⊢
  have hj : ∀ q : Bool, spec_LeastMost.j3 (G + 1) x7 (b : Int) m q ws rs most = if q = true then spec_LeastMost.l1 G x7 ((b + 1 : Nat) : Int) ws rs most else if D m ≥ 0 then spec_LeastMost.l1 G m ((b + 1 : Nat) : Int) ws rs most else spec_LeastMost.l1 G x7 ((b + 1 : Nat) : Int) ws rs most := by
   intro q
   rw [spec_LeastMost.j3.eq_2, hl, Option.bind_some, hw]
  have es : qD_ (fun m => decide (0 ≤ D m)) x7 m = if x7 ≥ 0 ∧ m ≥ x7 then x7 else if 0 ≤ D m then m else x7 := by
   unfold qD_
   simp only [decide_eq_true_eq]
  rw [spec_LeastMost.l2.eq_2, if_neg (by omega), hj, hj, hr, hr, es]
  by_cases c : x7 ≥ 0
  ·rw [if_pos c]
   by_cases c2 : m ≥ x7
   ·rw [if_pos (decide_eq_true c2), if_pos ⟨c, c2⟩]
   ·rw [if_neg (by simpa using c2), show (if x7 ≥ 0 ∧ m ≥ x7 then x7 else if 0 ≤ D m then m else x7) = if 0 ≤ D m then m else x7 from if_neg (fun q => c2 q.2)]
    by_cases c3 : 0 ≤ D m
    ·rw [if_pos (show D m ≥ 0 from c3), if_pos c3]
    ·rw [if_neg (show ¬ D m ≥ 0 from c3), if_neg c3]
  ·rw [if_neg c, if_neg (by decide), show (if x7 ≥ 0 ∧ m ≥ x7 then x7 else if 0 ≤ D m then m else x7) = if 0 ≤ D m then m else x7 from if_neg (fun q => c q.1)]
   by_cases c3 : 0 ≤ D m
   ·rw [if_pos (show D m ≥ 0 from c3), if_pos c3]
   ·rw [if_neg (show ¬ D m ≥ 0 from c3), if_neg c3]
theorem sC_ {ws : List Int} {rs : List Bool} (most : Int) (hr : rs.length ≤ 1000000) : ∀ (d i : Nat) (x4 : Bool), i + d = rs.length → ∀ K, spec_LeastMost.l0 (K + 1 + d) x4 rs (rs.length : Int) (i : Int) ws rs most = if (x4 || (rs.drop i).any id) = true then spec_LeastMost.l1 K (-1) 1 ws rs most else some (0, false) := by
 intro d
 induction d with
 | zero =>
  intro i x4 hi K
  rw [Nat.add_zero, spec_LeastMost.l0.eq_2, if_neg (by omega), List.drop_of_length_le (by omega)]
  simp
 | succ d ih =>
  intro i x4 hi K
  have hlt : i < rs.length := by omega
  rw [show K + 1 + (d + 1) = (K + 1 + d) + 1 by omega, spec_LeastMost.l0.eq_2, if_pos (by omega), if_pos (by omega), if_pos (by omega), qa_ hlt (by omega), qg_ rs i hlt false, List.any_cons]
  cases x4
  ·rw [if_neg (by decide), ih (i + 1) _ (by omega) K]
   rfl
  ·rw [if_pos rfl, ih (i + 1) _ (by omega) K]
   simp
theorem qB_ {rs : List Bool} (hr : rs.length ≤ 1000000) {k : Nat} (hk : rs.length < k) : slices_Contains_bool_bool.f k rs true = some (rs.any id) := by
 have key : ∀ (d i k : Nat), i + d = rs.length → d < k → ∃ r : Int, slices_Index_bool_bool.l0 k rs true (rs.length : Int) (i : Int) = some r ∧ decide (r ≥ 0) = (rs.drop i).any id := by
  intro d
  induction d with
  | zero =>
   intro i k hi hk
   obtain ⟨k, rfl⟩ := qb_ hk
   rw [slices_Index_bool_bool.l0.eq_2, if_neg (by omega), List.drop_of_length_le (by omega)]
   exact ⟨-1, rfl, rfl⟩
  | succ d ih =>
   intro i k hi hk
   obtain ⟨k, rfl⟩ := qb_ hk
   have hlt : i < rs.length := by omega
   obtain ⟨r, h1, h2⟩ := ih (i + 1) k (by omega) (by omega)
   rw [slices_Index_bool_bool.l0.eq_2, if_pos (by omega), if_pos (by omega), if_pos (by omega), qa_ hlt (by omega), qg_ rs i hlt false, List.any_cons]
   have e : rdOf false rs (i : Int) = rs.getD i false := rfl
   rw [e]
   cases hq : rs.getD i false
   ·rw [if_neg (by decide)]
    exact ⟨r, h1, by rw [h2]; rfl⟩
   ·rw [if_pos (by decide)]
    exact ⟨(i : Int), rfl, by rw [decide_eq_true (by omega)]; rfl⟩
 obtain ⟨r, h1, h2⟩ := key rs.length 0 k (by omega) hk
 unfold slices_Contains_bool_bool.f slices_Index_bool_bool.f
 have h1' : slices_Index_bool_bool.l0 k rs true (rs.length : Int) 0 = some r := h1
 rw [h1', Option.bind_some, h2]
 rfl
theorem rf_ (f : List Int → Int) {st : List Int → List Int → Option (List Int)} (m : Int) : ∀ (P l : List Int) (acc : List Int), (∀ g ∈ ql_ P l, ∀ a : List Int, a.length < 1000000 → st g a = some (a ++ [f g])) → (l.length : Int) + P.length ≤ m → acc.length + 2 ^ P.length ≤ 1000000 → gOn st m P l acc = some (acc ++ (ql_ P l).map f)
 | [], l, acc, _, _, _ => by simp [gOn, ql_]
 | x :: P, l, acc, hst, hm, ha => by
  rw [List.length_cons, Nat.pow_succ] at ha
  rw [List.length_cons] at hm
  have hp : 0 < 2 ^ P.length := Nat.pow_pos (by omega)
  have hs := qk_ P (l ++ [x])
  simp only [gOn, ql_]
  rw [if_pos (by omega), hst (l ++ [x]) (by simp [ql_]) acc (by omega), Option.bind_some,
   rf_ f m P (l ++ [x]) (acc ++ [f (l ++ [x])]) (fun g hg => hst g (by simp only [ql_]; exact List.mem_cons_of_mem _ (List.mem_append_left _ hg))) (by rw [List.length_append, List.length_singleton]; omega) (by rw [List.length_append, List.length_singleton]; omega), Option.bind_some,
   rf_ f m P l _ (fun g hg => hst g (by simp only [ql_]; exact List.mem_cons_of_mem _ (List.mem_append_right _ hg))) (by omega) (by rw [List.length_append, List.length_append, List.length_singleton, List.length_map]; omega)]
  simp
theorem rQ_ {ws : List Int} (rs : List Bool) (most : Int) (hn : ws.length ≤ 7) (h0 : 1 ≤ ws.length) {k : Nat} (hk : 20 ≤ k) : impl_Crew_loads.f k ws rs most = some (Lib.compact (((ql_ (q2_ ws.length) []).map fun g => ldS ws g 0).mergeSort fun x y => decide (x ≤ y))) := by
 obtain ⟨h1, -, -, -, -, -⟩ := rl_ hn
 have hall : impl_allAt.f (ws.length : Int) false = some (List.replicate ws.length false, false) := by
  unfold impl_allAt.f slices_Repeat_bool_bool.f
  rw [if_pos (show ([false] : List Bool).length = 1 from rfl), if_pos (by omega), if_pos (by omega), Int.toNat_natCast]
  rfl
 have hp : 2 ^ ws.length ≤ 128 := Nat.le_trans (Nat.pow_le_pow_right (by decide) hn) (by decide)
 have hp2 : 2 ^ 1 ≤ 2 ^ ws.length := Nat.pow_le_pow_right (by decide) h0
 have hs := qk_ (q2_ ws.length) []
 rw [qm_] at hs
 unfold impl_Crew_loads.f
 rw [hall, Option.bind_some, r8_ false false (by rw [List.length_replicate]; exact hn) hk, Option.bind_some, h1, if_pos (by rw [qm_]; omega), rf_ (fun g => ldS ws g 0) _ (q2_ ws.length) [] [] (fun g hg a ha => by
  obtain ⟨s, -, hsub, e⟩ := (qi_ _ _).1 hg
  rw [List.nil_append] at e
  subst e
  have hl := hsub.length_le
  rw [qm_] at hl
  unfold loadSt
  rw [(qH_ rs most (fun x hx => rH_ _ x (hsub.subset hx)) (by omega) hk).1, Option.bind_some, if_pos ha]) (by rw [qm_]; simp) (by rw [qm_, List.length_nil]; omega), Option.bind_some, List.nil_append, if_pos ⟨by rw [List.length_map]; omega, by rw [List.length_map]; omega⟩]
theorem qF_ (kk : Int → Nat) : ∀ l : List Int, ∃ K, ∀ m ∈ l, kk m ≤ K
 | [] => ⟨0, fun m h => by cases h⟩
 | x :: l => by
  obtain ⟨K, h⟩ := qF_ kk l
  refine ⟨K + kk x, fun m hm => ?_⟩
  rcases List.mem_cons.1 hm with rfl | hm
  ·omega
  ·have := h m hm
   omega
theorem rE_ {ws : List Int} {rs : List Bool} (most : Int) (hn : ws.length ≤ 7) (h0 : 1 ≤ ws.length) (hr : rs.length = ws.length) (hw : ∀ x ∈ ws, 1 ≤ x ∧ x ≤ 500) (ha : rs.any id = true) : ∃ k0, ∀ k, k0 ≤ k → ∃ x : Int,
  spec_LeastMost.l0 k false rs (rs.length : Int) 0 ws rs most = some (x, true) ∧ ((impl_Crew_loads.f k ws rs most).bind fun list => if list.length ≤ 1000 then (leRun k ws rs list (list.length + 1) 0 ((list.length : Int) - 1)).bind fun r => some (r, true) else none) = some (x, true) := by
 obtain ⟨D, hD⟩ := Classical.axiomOfChoice (rs_ hn hr)
 obtain ⟨kk, hk0⟩ := Classical.axiomOfChoice hD
 obtain ⟨dist, hd⟩ := Classical.axiomOfChoice hk0
 obtain ⟨i1, i2, i3, i4, i5, i6⟩ := rl_ hn
 obtain ⟨f1, f2, f3, f4, f5⟩ := rR_ hn
 have hN := sA_ hn
 have hpos : 0 < 2 ^ (ws.length + 1) := Nat.pow_pos (by omega)
 have hp : 2 ^ ws.length ≤ 128 := Nat.le_trans (Nat.pow_le_pow_right (by decide) hn) (by decide)
 have hp2 : 2 ^ 1 ≤ 2 ^ ws.length := Nat.pow_le_pow_right (by decide) h0
 obtain ⟨p, hpe⟩ : ∃ p : Int → Bool, p = fun m => decide (0 ≤ D m) := ⟨_, rfl⟩
 have hmono : ∀ x y : Int, x ≤ y → p x = true → p y = true := by
  intro x y hxy hx
  rw [hpe] at hx ⊢
  have hx' := of_decide_eq_true hx
  refine decide_eq_true ?_
  rw [(hd x).2.1] at hx'
  rw [(hd y).2.1]
  refine Far.sub (su_ rs x hn).b (fun u hu e he => ?_) (hd x).1 (hd y).1 (dd (dist x) 0).toNat 0 hpos hx' (by omega)
  unfold Aof edI at he ⊢
  obtain ⟨q, hq, rfl⟩ := List.mem_map.1 he
  obtain ⟨g, hg, rfl⟩ := List.mem_map.1 hq
  refine List.mem_map.2 ⟨_, List.mem_map.2 ⟨g, mem_rides.2 ?_, rfl⟩, rfl⟩
  obtain ⟨a, b, c⟩ := mem_rides.1 hg
  refine ⟨a, b, ?_⟩
  unfold qO_ at c ⊢
  simp only [Bool.and_eq_true, decide_eq_true_eq] at c ⊢
  exact ⟨by omega, c.2⟩
 obtain ⟨T, hT⟩ : ∃ T, T = ldS ws (q2_ ws.length) 0 := ⟨_, rfl⟩
 have hne : q2_ ws.length ≠ [] := fun e => by
  have := qm_ ws.length
  rw [e] at this
  simp only [List.length_nil] at this
  omega
 have hiota : q2_ ws.length ∈ ql_ (q2_ ws.length) [] := (qi_ _ _).2 ⟨_, hne, List.Sublist.refl _, rfl⟩
 have hpT : p T = true := by
  rw [hpe]
  refine decide_eq_true ?_
  rw [(hd T).2.1]
  have hF := (hd T).1
  have he : (0, 1) ∈ Aof (edI ws rs T) (2 ^ (ws.length + 1) - 1) := by
   unfold Aof edI
   rw [Int.toNat_natCast, f4]
   refine List.mem_map.2 ⟨⟨(cI (mv (List.replicate ws.length true, true) (q2_ ws.length)) : Int), 1, q2_ ws.length⟩, List.mem_map.2 ⟨_, mem_rides.2 ⟨hne, by rw [i2]; exact List.Sublist.refl _, ?_⟩, rfl⟩, ?_⟩
   ·unfold qO_
    rw [← hT, decide_eq_true (Int.le_refl T), Bool.true_and, List.any_eq_true]
    obtain ⟨b, hb, hbt⟩ := List.any_eq_true.1 ha
    obtain ⟨i, hi, rfl⟩ := List.mem_iff_getElem.1 hb
    refine ⟨(i : Int), List.mem_map.2 ⟨i, List.mem_range'_1.2 ⟨by omega, by omega⟩, rfl⟩, ?_⟩
    show rs.getD (i : Int).toNat false = true
    rw [Int.toNat_natCast, List.getD_eq_getElem?_getD, List.getElem?_eq_getElem hi]
    exact hbt
   ·rw [i3]
    have hi0 : cI (List.replicate ws.length false, false) = 0 := by
     rw [← f5]
     exact (qQ_ hn hpos (Nat.le_refl 20)).2.2
    rw [hi0]
    rfl
  exact (hF.go _ (by omega) (by rw [hF.st _ rfl]; exact Int.le_refl _) _ he).1
 obtain ⟨Ms, hMs⟩ : ∃ Ms, Ms = (List.range' 1 (2 ^ ws.length - 1)).map fun b => ldS ws (blD b 0 ws.length) 0 := ⟨_, rfl⟩
 obtain ⟨Ls, hLs⟩ : ∃ Ls, Ls = Lib.compact (((ql_ (q2_ ws.length) []).map fun g => ldS ws g 0).mergeSort fun x y => decide (x ≤ y)) := ⟨_, rfl⟩
 have hmem : ∀ x, x ∈ Ls ↔ x ∈ Ms := fun x => by
  rw [hLs, hMs, q6_, (List.mergeSort_perm _ _).mem_iff]
  exact qS_ hn x
 have hTL : T ∈ Ls := by
  rw [hLs, q6_, (List.mergeSort_perm _ _).mem_iff, hT]
  exact List.mem_map.2 ⟨_, hiota, rfl⟩
 have hsort : Ls.Pairwise (· ≤ ·) := by
  rw [hLs]
  refine List.Pairwise.sublist (qv_ _) ?_
  refine (List.pairwise_mergeSort (le := fun x y : Int => decide (x ≤ y)) (fun a b c h1 h2 => ?_) (fun a b => ?_) _).imp fun h => of_decide_eq_true h
  ·simp only [decide_eq_true_eq] at h1 h2 ⊢; omega
  ·simp only [Bool.or_eq_true, decide_eq_true_eq]; omega
 have hlen : Ls.length ≤ 1000 := by
  have h1 := (qv_ (((ql_ (q2_ ws.length) []).map fun g => ldS ws g 0).mergeSort fun x y => decide (x ≤ y))).length_le
  have hs := qk_ (q2_ ws.length) []
  rw [qm_] at hs
  rw [← hLs, List.length_mergeSort, List.length_map] at h1
  omega
 have hL0 : 0 < Ls.length := List.length_pos_of_mem hTL
 obtain ⟨K0, hK0⟩ := qF_ kk Ls
 refine ⟨K0 + 1 + (ws.length + 3) * (2 ^ ws.length - 1) + 1 + rs.length + 20, fun k hk => ?_⟩
 have hkl : impl_Crew_loads.f k ws rs most = some Ls := by rw [hLs]; exact rQ_ rs most hn h0 (by omega)
 have hkp : ∀ x ∈ Ls, impl_Crew_plans.f k ws rs x = some (p x) := fun x hx => by
  rw [hpe]
  exact ((hd x).2.2 k (by have := hK0 x hx; omega)).2
 have hmax : p (Ls.getD (Ls.length - 1) 0) = true := by
  obtain ⟨i, hi, e⟩ := List.mem_iff_getElem.1 hTL
  refine hmono T _ ?_ hpT
  rw [← e, List.getD_eq_getElem?_getD, List.getElem?_eq_getElem (by omega : Ls.length - 1 < Ls.length)]
  rcases Nat.lt_or_eq_of_le (by omega : i ≤ Ls.length - 1) with h | h
  ·exact List.pairwise_iff_getElem.1 hsort i (Ls.length - 1) hi (by omega) h
  ·simp only [h]; exact Int.le_refl _
 obtain ⟨x, hx, hxm⟩ := rF_ p hkp hsort hmono (Ls.length + 1) 0 (Ls.length - 1) (by omega) (by omega) (by omega) hmax (fun i hi => absurd hi (Nat.not_lt_zero i))
 have hspec : ∀ b, 1 ≤ b → b < 2 ^ ws.length → ∀ k, K0 ≤ k → spec_loLeast.f k ws rs (ldS ws (blD b 0 ws.length) 0) false = some (D (ldS ws (blD b 0 ws.length) 0)) := fun b b1 b2 k hk => by
  have hm : ldS ws (blD b 0 ws.length) 0 ∈ Ls := (hmem _).2 (by rw [hMs]; exact List.mem_map.2 ⟨b, List.mem_range'_1.2 ⟨b1, by omega⟩, rfl⟩)
  exact ((hd _).2.2 k (by have := hK0 _ hm; omega)).1
 obtain ⟨F, hF⟩ : ∃ F, k = F + 1 + (ws.length + 3) * (2 ^ ws.length - 1) + 1 + rs.length := ⟨k - (1 + (ws.length + 3) * (2 ^ ws.length - 1) + 1 + rs.length), by omega⟩
 have hs1 : spec_LeastMost.l0 k false rs (rs.length : Int) 0 ws rs most = some (Ms.foldl (qD_ p) (-1), true) := by
  rw [hF]
  have h := sC_ (ws := ws) (rs := rs) most (by omega) rs.length 0 false (by omega) (F + 1 + (ws.length + 3) * (2 ^ ws.length - 1))
  refine Eq.trans h ?_
  rw [List.drop_zero, ha, if_pos (by decide), hMs, hpe]
  exact sT_ most hn D hspec (2 ^ ws.length - 1) 1 (-1) (by omega) (Nat.le_refl _) F (by omega)
 have hfold := sg_ p Ms [] (-1) (fun m hm => by
  rw [List.nil_append] at hm
  obtain ⟨g, hg, rfl⟩ := List.mem_map.1 ((qS_ hn m).2 (by rw [← hMs]; exact hm))
  obtain ⟨s, -, hsub, e⟩ := (qi_ _ _).1 hg
  rw [List.nil_append] at e
  subst e
  have hl := hsub.length_le
  rw [qm_] at hl
  exact rG_ hw _ _ (fun y hy => rH_ _ y (hsub.subset hy)) (Int.le_refl _) (by omega)) (.inl ⟨rfl, fun m hm => by cases hm⟩)
 rw [List.nil_append] at hfold
 have hmin : rt_ Ms p (Ms.foldl (qD_ p) (-1)) := by
  rcases hfold with ⟨-, h⟩ | h
  ·have := h T ((hmem T).1 hTL)
   rw [hpT] at this
   cases this
  ·exact h
 refine ⟨x, ?_, ?_⟩
 ·rw [hs1, sd_ hxm hmin hmem]
 ·rw [hkl, Option.bind_some, if_pos hlen]
  have e : ((Ls.length : Int) - 1) = ((Ls.length - 1 : Nat) : Int) := by omega
  rw [e]
  have hx' : leRun k ws rs Ls (Ls.length + 1) 0 ((Ls.length - 1 : Nat) : Int) = some x := hx
  rw [hx', Option.bind_some]
theorem both {l : List Int} (hl : l.length ≤ 1048576) (o : List Bool) (s : Int) : ∃ k0, ∀ k, k0 ≤ k → ∃ x, spec_LeastMost.f k l o s = some x ∧ impl_LeastMost.f k l o s = some x := by
 cases hg : rz_ l o s
 ·refine ⟨l.length + 1, fun k hk => ⟨(0, false), ?_, ?_⟩⟩
  ·unfold spec_LeastMost.f
   rw [q7_ (by omega) o s (by omega), hg, Option.bind_some, if_neg (by decide)]
  ·unfold impl_LeastMost.f
   rw [qC_, hg, Option.bind_some, if_neg (by decide)]
 ·have h := hg
  unfold rz_ at h
  simp only [Bool.and_eq_true, decide_eq_true_eq, qJ_, List.all_eq_true] at h
  have hw : ∀ x ∈ l, 1 ≤ x ∧ x ≤ 500 := h.2.2.1
  have hn7 : l.length ≤ 7 := by omega
  have hn1 : 1 ≤ l.length := by omega
  cases ha : o.any id
  ·refine ⟨l.length + o.length + 5, fun k hk => ⟨(0, false), ?_, ?_⟩⟩
   ·unfold spec_LeastMost.f
    rw [q7_ (by omega) o s (by omega), hg, Option.bind_some, if_pos rfl]
    obtain ⟨K, rfl⟩ : ∃ K, k = K + 1 + o.length := ⟨k - 1 - o.length, by omega⟩
    have h1 := sC_ (ws := l) (rs := o) s (by omega) o.length 0 false (by omega) K
    rw [List.drop_zero, ha, if_neg (by decide)] at h1
    exact h1
   ·unfold impl_LeastMost.f
    rw [qC_, hg, Option.bind_some, if_pos rfl, qB_ (by omega) (by omega), ha, Option.bind_some, if_neg (by decide)]
  ·obtain ⟨k0, hk0⟩ := rE_ (ws := l) (rs := o) s hn7 hn1 h.2.1 hw ha
   refine ⟨k0 + l.length + o.length + 5, fun k hk => ?_⟩
   obtain ⟨x, h1, h2⟩ := hk0 k (by omega)
   refine ⟨(x, true), ?_, ?_⟩
   ·unfold spec_LeastMost.f
    rw [q7_ (by omega) o s (by omega), hg, Option.bind_some, if_pos rfl]
    exact h1
   ·unfold impl_LeastMost.f
    rw [qC_, hg, Option.bind_some, if_pos rfl, qB_ (by omega) (by omega), ha, Option.bind_some, if_pos rfl]
    exact h2
theorem pure : ∀ (l0_0 : List Int) (l0_1 : List Bool) (a0_2 : Int), (∀ y0 ∈ l0_0, Opn.okI y0) → l0_0.length ≤ 9223372036854775807 → (∀ y0 ∈ l0_1, True) → l0_1.length ≤ 9223372036854775807 → Opn.okI a0_2 → ∃ k, laws_FnExactLeastMost.f k l0_0 l0_1 a0_2 = some true := by
 intro l o s _ hl _ ho _
 obtain ⟨z, hz, hs⟩ := r5_ (s := s) hl ho
 rcases hs with hneg | hsz
 ·refine ⟨0, ?_⟩
  unfold laws_FnExactLeastMost.f
  rw [hz, Option.bind_some, if_pos hneg]
 ·obtain ⟨k0, hk0⟩ := both (l := l) (by omega) o s
  obtain ⟨k, hk⟩ : ∃ k, k = k0 + l.length + o.length + 5 := ⟨_, rfl⟩
  obtain ⟨x, h1, h2⟩ := hk0 (k + 1) (by omega)
  refine ⟨k + 1, ?_⟩
  have ht : ∀ k', l.length + o.length < k' → laws_toCrew.f k' l o s = some (l, o, s) := fun k' h' => r4_ (by omega) (by omega) s (by omega) (by omega)
  unfold laws_FnExactLeastMost.f
  rw [hz, Option.bind_some]
  by_cases c : z < 0
  ·rw [if_pos c]
  ·rw [if_neg c, ht _ (by omega), Option.bind_some, h1, Option.bind_some, Option.bind_some, h2, Option.bind_some, if_pos rfl]
   simp only [laws_FnExactLeastMost.j0]
   rw [show (x.2 != x.2) = false by simp, if_neg (by decide), ht _ (by omega), Option.bind_some, rN_ (by omega) (by omega) s (by omega) (by omega), Option.bind_some, if_pos rfl]
end Go.Proofs.Ythkchdfkeieabaa.fnExactLeastMost
