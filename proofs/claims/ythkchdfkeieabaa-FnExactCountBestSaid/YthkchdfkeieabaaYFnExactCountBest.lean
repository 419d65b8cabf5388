/- FnExactCountBest, the plain statement: what the printed functions compute makes the law's function return true. Conditions: the numbers are of their kind. -/
import Derived.Test.YthkchdfkeieabaaOpn
import Derived.Test.YthkchdfkeieabaaQGrx17
namespace Go.Proofs.Ythkchdfkeieabaa.fnExactCountBest
open Go.RowKit Go.Proofs.YthkchdfkeieabaaW.PrintWords Go.Proofs.YthkchdfkeieabaaW.PrintLast Go.Proofs.YthkchdfkeieabaaW.PrintMore Go.Proofs.Ythkchdfkeieabaa.QGr

def inB (x a b : Int) : Bool := decide (a ≤ x) && decide (x ≤ b)
theorem rj_ {x a b : Int} : inB x a b = true ↔ a ≤ x ∧ x ≤ b := by simp [inB]
theorem qs_ {n : Int} (h0 : -9223372036854775808 ≤ n) (h1 : n ≤ 9223372036854775807) : wrap64 n = n := by
 unfold wrap64
 omega
theorem qb_ {i n : Nat} (h : i < n) (hn : n ≤ 9223372036854775807) : wrap64 ((i : Int) + 1) = ((i + 1 : Nat) : Int) := by
 unfold wrap64
 omega
theorem qv_ {α : Type} (l : List α) (i : Nat) (h : i < l.length) (z : α) : l.take (i + 1) = l.take i ++ [l.getD i z] := by
 rw [List.take_succ_eq_append_getElem h, List.getD_eq_getElem?_getD, List.getElem?_eq_getElem h]
 rfl
theorem qe_ {α : Type} (l : List α) (i : Nat) (h : i < l.length) (z : α) : l.drop i = l.getD i z :: l.drop (i + 1) := by
 rw [List.drop_eq_getElem_cons h, List.getD_eq_getElem?_getD, List.getElem?_eq_getElem h]
 rfl
theorem rJ_ {α : Type} (l : List α) (i : Nat) (h : i < l.length) (v : α) : (l.set i v).take (i + 1) = l.take i ++ [v] := by
 rw [List.take_succ_eq_append_getElem (by rw [List.length_set]; exact h), List.take_set_of_le (Nat.le_refl i), List.getElem_set_self]
theorem qf_ {k d : Nat} (h : d < k) : ∃ m, k = m + 1 := ⟨k - 1, by omega⟩
theorem rg_ {α β : Type} (f : α → β) (l : List α) (i : Nat) (h : i < l.length) (z : α) (y : β) : (l.map f).getD i y = f (l.getD i z) := by
 rw [List.getD_eq_getElem?_getD, List.getD_eq_getElem?_getD, List.getElem?_map, List.getElem?_eq_getElem h]
 rfl
theorem re_ (x a b : Int) : spec_l1In.f x a b = some (inB x a b) := by
 unfold spec_l1In.f inB
 by_cases h : a ≤ x <;> simp [h]
theorem s9_ (x a b : Int) : impl_in.f x a b = some (inB x a b) := by
 unfold impl_in.f inB
 by_cases h : a ≤ x <;> simp [h]
theorem ru_ {l : List Int} (hn : l.length ≤ 9223372036854775807) : ∀ (d k i : Nat) (x : List Int), i + d = l.length → x.length = l.length → x.take i = l.take i → d < k → laws_toIntS.l0 k l x (i : Int) = some l := by
 intro d
 induction d with
 | zero =>
  intro k i x hi hx ht hk
  obtain ⟨k, rfl⟩ := qf_ hk
  simp only [laws_toIntS.l0]
  rw [if_neg (by omega)]
  rw [show i = l.length by omega, List.take_length, ← hx, List.take_length] at ht
  rw [ht]
 | succ d ih =>
  intro k i x hi hx ht hk
  obtain ⟨k, rfl⟩ := qf_ hk
  have hlt : i < l.length := by omega
  simp only [laws_toIntS.l0]
  rw [if_pos (by omega), if_pos (by omega), if_pos (by omega), qb_ hlt hn]
  refine ih k (i + 1) _ (by omega) (by rw [List.length_set]; exact hx) ?_ (by omega)
  rw [Int.toNat_natCast, rJ_ _ _ (by omega), ht, qv_ l i hlt 0]
  rfl
theorem rv_ {l : List Int} (hn : l.length ≤ 1048576) {k : Nat} (hk : l.length < k) : laws_toIntS.f k l = some l := by
 unfold laws_toIntS.f
 rw [if_pos (by omega), if_pos (by omega)]
 exact ru_ (by omega) l.length k 0 _ (by omega) (by simp) (by simp) hk
theorem rA_ {l : List Int} (hn : l.length ≤ 9223372036854775807) : ∀ (d k i : Nat), i + d = l.length → d < k → laws_eqIntS.l0 k l l (i : Int) = some true := by
 intro d
 induction d with
 | zero =>
  intro k i hi hk
  obtain ⟨k, rfl⟩ := qf_ hk
  simp only [laws_eqIntS.l0]
  rw [if_neg (by omega)]
 | succ d ih =>
  intro k i hi hk
  obtain ⟨k, rfl⟩ := qf_ hk
  have hlt : i < l.length := by omega
  simp only [laws_eqIntS.l0]
  rw [if_pos (by omega), if_pos (by omega), if_pos (by omega), if_pos trivial, qb_ hlt hn]
  exact ih k (i + 1) (by omega) (by omega)
theorem rB_ {l : List Int} (hn : l.length ≤ 9223372036854775807) {k : Nat} (hk : l.length < k) : laws_eqIntS.f k l l = some true := by
 unfold laws_eqIntS.f
 rw [if_pos rfl]
 exact rA_ hn l.length k 0 (by omega) hk
theorem rN_ {l : List Int} (hn : l.length ≤ 9223372036854775807) (a b : Int) : ∀ (d k i : Nat), i + d = l.length → d < k → spec_l1All.l0 k a b l (l.length : Int) (i : Int) = some ((l.drop i).all fun x => inB x a b) := by
 intro d
 induction d with
 | zero =>
  intro k i hi hk
  obtain ⟨k, rfl⟩ := qf_ hk
  simp only [spec_l1All.l0]
  rw [if_neg (by omega), show i = l.length by omega, List.drop_length]
  rfl
 | succ d ih =>
  intro k i hi hk
  obtain ⟨k, rfl⟩ := qf_ hk
  have hlt : i < l.length := by omega
  simp only [spec_l1All.l0]
  rw [if_pos (by omega), if_pos (by omega), if_pos (by omega), re_, Option.bind_some, qb_ hlt hn, ih k (i + 1) (by omega) (by omega), qe_ l i hlt 0, List.all_cons]
  show (if inB (l.getD i 0) a b = true then _ else _) = _
  cases inB (l.getD i 0) a b <;> simp
theorem rO_ {l : List Int} (hn : l.length ≤ 9223372036854775807) (a b : Int) {k : Nat} (hk : l.length < k) : spec_l1All.f k l a b = some (l.all fun x => inB x a b) := by
 unfold spec_l1All.f
 exact rN_ hn a b l.length k 0 (by omega) hk
theorem rX_ (l : List Int) (a b c d : Int) : impl_areIn.f l a b c d = some (inB (l.length : Int) c d && l.all fun x => inB x a b) := by
 unfold impl_areIn.f inB
 simp [List.not_any_eq_all_not]
theorem qF_ {l : List Int} {s : Int} {b : Nat} (hb : b ≤ 1048576) (hn : l.length ≤ 9223372036854775807) : laws_szParty.f l s (b : Int) = some (if l.length ≤ b then ((b - l.length : Nat) : Int) else -1) := by
 unfold laws_szParty.f laws_szIntS.f
 rw [qs_ (by omega) (by omega)]
 by_cases h : l.length ≤ b
 ·rw [if_neg (by omega), Option.bind_some, if_neg (by omega), if_pos h]
  congr 1
  omega
 ·rw [if_pos (by omega), Option.bind_some, if_pos (by omega), if_neg h]
def qA_ (l : List Int) (s : Int) : Bool := inB (l.length : Int) 1 8 && ((l.all fun x => inB x 1 1000) && inB s 1 3)
theorem qV_ {l : List Int} (hn : l.length ≤ 9223372036854775807) (s : Int) {k : Nat} (hk : l.length < k) : spec_paGood.f k l s = some (qA_ l s) := by
 unfold spec_paGood.f qA_
 rw [re_, rO_ hn 1 1000 hk, re_]
 simp only [Option.bind_some]
 cases inB (l.length : Int) 1 8 <;> cases (l.all fun x => inB x 1 1000) <;> simp
theorem q5_ (l : List Int) (s : Int) : impl_IsParty.f l s = some (qA_ l s) := by
 unfold impl_IsParty.f qA_
 rw [rX_, s9_]
 simp only [Option.bind_some]
 cases inB (l.length : Int) 1 8 <;> cases (l.all fun x => inB x 1 1000) <;> simp
theorem qD_ {l : List Int} (hn : l.length ≤ 1048576) (s : Int) {k : Nat} (hk : l.length < k) : laws_toParty.f k l s = some (l, s) := by
 unfold laws_toParty.f
 rw [rv_ hn hk]
 rfl
theorem rs_ {l : List Int} (hn : l.length ≤ 9223372036854775807) (s : Int) {k : Nat} (hk : l.length < k) : laws_eqParty.f k l s l s = some true := by
 unfold laws_eqParty.f
 rw [rB_ hn hk]
 simp
theorem qo_ {α : Type} {l : List α} {i : Nat} (h : i < l.length) (z : α) : l.getD i z ∈ l := by
 rw [List.getD_eq_getElem?_getD, List.getElem?_eq_getElem h]
 exact List.getElem_mem h
structure Far (A : Nat → List (Nat × Nat)) (N : Nat) (S : Nat → Prop) (d : Nat → Int) : Prop where
 st : ∀ s, S s → d s = 0
 go : ∀ u, u < N → 0 ≤ d u → ∀ e ∈ A u, 0 ≤ d e.1 ∧ d e.1 ≤ d u + (e.2 : Int)
 by_ : ∀ v, v < N → 0 ≤ d v → S v ∨ ∃ u, u < N ∧ 0 ≤ d u ∧ ∃ c : Nat, (v, c) ∈ A u ∧ d v = d u + (c : Int)
def GrB (A : Nat → List (Nat × Nat)) (N C : Nat) : Prop := ∀ u, u < N → ∀ e ∈ A u, e.1 < N ∧ 1 ≤ e.2 ∧ e.2 ≤ C
theorem Far.le {A : Nat → List (Nat × Nat)} {N C : Nat} {S : Nat → Prop} {d d' : Nat → Int} (hA : GrB A N C) (h : Far A N S d) (h' : Far A N S d') : ∀ (n v : Nat), v < N → 0 ≤ d v → d v ≤ (n : Int) → 0 ≤ d' v ∧ d' v ≤ d v := by
 intro n
 induction n with
 | zero =>
  intro v hv h0 hn
  rcases h.by_ v hv h0 with hs | ⟨u, hu, hu0, c, hc, e⟩
  ·rw [h'.st v hs, h.st v hs]; omega
  ·have := (hA u hu _ hc).2.1
   simp only at this
   omega
 | succ n ih =>
  intro v hv h0 hn
  rcases h.by_ v hv h0 with hs | ⟨u, hu, hu0, c, hc, e⟩
  ·rw [h'.st v hs, h.st v hs]; omega
  ·have := (hA u hu _ hc).2.1
   simp only at this
   obtain ⟨i1, i2⟩ := ih u hu hu0 (by omega)
   have := h'.go u hu i1 _ hc
   simp only at this
   omega
theorem Far.eq {A : Nat → List (Nat × Nat)} {N C : Nat} {S : Nat → Prop} {d d' : Nat → Int} (hA : GrB A N C) (h : Far A N S d) (h' : Far A N S d') (l : ∀ v, v < N → -1 ≤ d v) (l' : ∀ v, v < N → -1 ≤ d' v) {v : Nat} (hv : v < N) : d v = d' v := by
 have h1 := h.le hA h' (d v).toNat v hv
 have h2 := h'.le hA h (d' v).toNat v hv
 have := l v hv
 have := l' v hv
 omega
def qg_ : List Int → Int
 | [] => 0
 | x :: xs => x + qg_ xs
theorem qp_ (a b : List Int) : qg_ (a ++ b) = qg_ a + qg_ b := by
 induction a with
 | nil => simp [qg_]
 | cons x xs ih => simp only [List.cons_append, qg_, ih]; omega
theorem rx_ {a b : List Int} (h : a.Perm b) : qg_ a = qg_ b := by
 induction h with
 | nil => rfl
 | cons x _ ih => simp only [qg_, ih]
 | swap x y l => simp only [qg_]; omega
 | trans _ _ i1 i2 => exact i1.trans i2
structure Ways (A : Nat → List (Nat × Nat)) (N : Nat) (S : Nat → Prop) (d : Nat → Int) (w : Nat → Int) : Prop where
 st : ∀ s, S s → w s = 1
 at_ : ∀ v, v < N → 0 ≤ d v → ¬ S v → w v = wrap64 (qg_ ((A v).map fun e => if 0 ≤ d e.1 ∧ d e.1 + (e.2 : Int) = d v then w e.1 else 0))
theorem Ways.eq {A : Nat → List (Nat × Nat)} {N C : Nat} {S : Nat → Prop} {d w w' : Nat → Int} (hA : GrB A N C) (h : Ways A N S d w) (h' : Ways A N S d w') : ∀ (n v : Nat), v < N → 0 ≤ d v → d v ≤ (n : Int) → w v = w' v := by
 intro n
 induction n with
 | zero =>
  intro v hv h0 hn
  by_cases hs : S v
  ·rw [h.st v hs, h'.st v hs]
  ·rw [h.at_ v hv h0 hs, h'.at_ v hv h0 hs]
   refine congrArg (fun l => wrap64 (qg_ l)) (List.map_congr_left fun e he => ?_)
   have := hA v hv e he
   rw [if_neg (by omega), if_neg (by omega)]
 | succ n ih =>
  intro v hv h0 hn
  by_cases hs : S v
  ·rw [h.st v hs, h'.st v hs]
  ·rw [h.at_ v hv h0 hs, h'.at_ v hv h0 hs]
   refine congrArg (fun l => wrap64 (qg_ l)) (List.map_congr_left fun e he => ?_)
   have hb := hA v hv e he
   by_cases hq : 0 ≤ d e.1 ∧ d e.1 + (e.2 : Int) = d v
   ·rw [if_pos hq, if_pos hq, ih e.1 hb.1 hq.1 (by omega)]
   ·rw [if_neg hq, if_neg hq]
def q1_ (Q : Nat → List (Nat × Nat)) (N : Nat) (v : Nat) (f : Nat → Nat → Int) : Int := qg_ ((List.range N).map fun x => qg_ ((Q x).map fun e => if e.1 = v then f x e.2 else 0))
def s7_ (A : Nat → List (Nat × Nat)) (N : Nat) : Prop := ∀ u v, u < N → v < N → ∀ f : Nat → Int, qg_ ((A u).map fun e => if e.1 = v then f e.2 else 0) = qg_ ((A v).map fun e => if e.1 = u then f e.2 else 0)
theorem rw_ {α β : Type} (xs : List α) (ys : List β) (g : α → β → Int) : qg_ (xs.map fun x => qg_ (ys.map fun y => g x y)) = qg_ (ys.map fun y => qg_ (xs.map fun x => g x y)) := by
 induction xs with
 | nil =>
  have h : ∀ l : List β, qg_ (l.map fun _ => (0 : Int)) = 0 := by
   intro l
   induction l with
   | nil => rfl
   | cons y l ih => simp only [List.map_cons, qg_, ih]; omega
  simp only [List.map_nil, qg_]
  exact (h ys).symm
 | cons x xs ih =>
  simp only [List.map_cons, qg_, ih]
  clear ih
  induction ys with
  | nil => rfl
  | cons y ys ih => simp only [List.map_cons, qg_]; omega
theorem rI_ {N : Nat} : ∀ (m : Nat) (a : Int), qg_ ((List.range N).map fun x => if m = x then a else 0) = if m < N then a else 0 := by
 intro m a
 induction N with
 | zero => simp [qg_]
 | succ N ih =>
  rw [List.range_succ, List.map_append, qp_, ih]
  simp only [List.map_cons, List.map_nil, qg_]
  by_cases h : m < N
  ·rw [if_pos h, if_neg (by omega), if_pos (by omega)]; omega
  ·rw [if_neg h]
   by_cases e : m = N
   ·rw [if_pos e, if_pos (by omega)]; omega
   ·rw [if_neg e, if_neg (by omega)]; omega
theorem rq_ {A : Nat → List (Nat × Nat)} {N C : Nat} (hA : GrB A N C) (hB : s7_ A N) {v : Nat} (hv : v < N) (f : Nat → Nat → Int) : q1_ A N v f = qg_ ((A v).map fun e => f e.1 e.2) := by
 unfold q1_
 rw [List.map_congr_left (g := fun x => qg_ ((A v).map fun e => if e.1 = x then f x e.2 else 0)) fun x hx => hB x v (List.mem_range.1 hx) hv (fun c => f x c)]
 rw [rw_]
 refine congrArg qg_ (List.map_congr_left fun e he => ?_)
 have : (fun x => if e.1 = x then f x e.2 else 0) = fun x => if e.1 = x then f e.1 e.2 else 0 := by
  funext x
  by_cases h : e.1 = x
  ·rw [if_pos h, if_pos h, h]
  ·rw [if_neg h, if_neg h]
 rw [this, rI_, if_pos (hA v hv e he).1]
theorem Ways.of_in {A : Nat → List (Nat × Nat)} {N C : Nat} {S : Nat → Prop} {d w : Nat → Int} (hA : GrB A N C) (hB : s7_ A N) (h1 : ∀ s, S s → w s = 1)
  (h : ∀ v, v < N → 0 ≤ d v → ¬ S v → w v = wrap64 (q1_ A N v fun x c => if 0 ≤ d x ∧ d x + (c : Int) = d v then w x else 0)) : Ways A N S d w :=
 ⟨h1, fun v hv h0 hs => by rw [h v hv h0 hs, rq_ hA hB hv]⟩
structure Sea (Q : Nat → List (Nat × Nat)) (N C s0 : Nat) (done : Nat → Bool) (d w : Nat → Int) (m : Int) (j : Nat) : Prop where
 st : d s0 = 0
 w0 : w s0 = 1
 low : ∀ v, v < N → -1 ≤ d v
 high : ∀ v, v < N → d v ≤ ((C * j : Nat) : Int)
 sub : GrB Q N C
 off : ∀ x, x < N → done x = false → Q x = []
 on : ∀ x, x < N → done x = true → 0 ≤ d x ∧ d x ≤ m
 up : ∀ v, v < N → done v = false → 0 ≤ d v → m ≤ d v
 go : ∀ x, x < N → ∀ e ∈ Q x, 0 ≤ d e.1 ∧ d e.1 ≤ d x + (e.2 : Int)
 by_ : ∀ v, v < N → 0 ≤ d v → v = s0 ∨ ∃ x, x < N ∧ ∃ c : Nat, (v, c) ∈ Q x ∧ d v = d x + (c : Int)
 ways : ∀ v, v < N → v ≠ s0 → w v = wrap64 (q1_ Q N v fun x c => if d x + (c : Int) = d v then w x else 0)
def upd {α : Type} (f : Nat → α) (u : Nat) (a : α) : Nat → α := fun x => if x = u then a else f x
theorem qc_ {α : Type} (f : Nat → α) (u : Nat) (a : α) : upd f u a u = a := if_pos rfl
theorem qd_ {α : Type} (f : Nat → α) {u x : Nat} (a : α) (h : x ≠ u) : upd f u a x = f x := if_neg h
theorem qB_ {Q : Nat → List (Nat × Nat)} {N v : Nat} {f g : Nat → Nat → Int} (h : ∀ x, x < N → ∀ e ∈ Q x, e.1 = v → f x e.2 = g x e.2) : q1_ Q N v f = q1_ Q N v g := by
 unfold q1_
 refine congrArg qg_ (List.map_congr_left fun x hx => congrArg qg_ (List.map_congr_left fun e he => ?_))
 by_cases q : e.1 = v
 ·rw [if_pos q, if_pos q, h x (List.mem_range.1 hx) e he q]
 ·rw [if_neg q, if_neg q]
theorem qt_ {α : Type} {g : α → Int} : ∀ l : List α, (∀ x ∈ l, g x = 0) → qg_ (l.map g) = 0
 | [], _ => rfl
 | x :: l, h => by
  simp only [List.map_cons, qg_]
  rw [h x (by simp), qt_ l fun y hy => h y (by simp [hy])]
  rfl
theorem qJ_ {Q : Nat → List (Nat × Nat)} {N v : Nat} {f : Nat → Nat → Int} (h : ∀ x, x < N → ∀ e ∈ Q x, e.1 = v → f x e.2 = 0) : q1_ Q N v f = 0 := by
 refine qt_ _ fun x hx => qt_ _ fun e he => ?_
 by_cases q : e.1 = v
 ·rw [if_pos q, h x (List.mem_range.1 hx) e he q]
 ·rw [if_neg q]
theorem qC_ {Q : Nat → List (Nat × Nat)} {N v u t c : Nat} {f : Nat → Nat → Int} (hu : u < N) : q1_ (upd Q u (Q u ++ [(t, c)])) N v f = q1_ Q N v f + if t = v then f u c else 0 := by
 unfold q1_
 have h : ∀ M : Nat, qg_ ((List.range M).map fun x => qg_ ((upd Q u (Q u ++ [(t, c)]) x).map fun e => if e.1 = v then f x e.2 else 0)) = qg_ ((List.range M).map fun x => qg_ ((Q x).map fun e => if e.1 = v then f x e.2 else 0)) + if u < M then (if t = v then f u c else 0) else 0 := by
  intro M
  induction M with
  | zero => simp [qg_]
  | succ M ih =>
   rw [List.range_succ, List.map_append, List.map_append, qp_, qp_, ih]
   simp only [List.map_cons, List.map_nil, qg_]
   by_cases e : M = u
   ·subst e
    rw [qc_, List.map_append, qp_, if_neg (Nat.lt_irrefl _), if_pos (Nat.lt_succ_self _)]
    simp only [List.map_cons, List.map_nil, qg_]
    omega
   ·rw [qd_ _ _ e]
    by_cases q : u < M
    ·rw [if_pos q, if_pos (show u < M + 1 by omega)]; omega
    ·rw [if_neg q, if_neg (show ¬ u < M + 1 by omega)]; omega
 rw [h N, if_pos hu]
theorem qz_ (a b : Int) : wrap64 (wrap64 a + b) = wrap64 (a + b) := by
 unfold wrap64
 omega
theorem Sea.pick {Q : Nat → List (Nat × Nat)} {N C s0 u j : Nat} {done : Nat → Bool} {d w : Nat → Int} {m : Int} (h : Sea Q N C s0 done d w m j) (hu : u < N) (hd : done u = false) (h0 : 0 ≤ d u)
  (hm : ∀ v, v < N → done v = false → 0 ≤ d v → d u ≤ d v) : Sea Q N C s0 (upd done u true) d w (d u) (j + 1) ∧ d u + (C : Int) ≤ ((C * (j + 1) : Nat) : Int) ∧ Q u = [] := by
 have hup := h.up u hu hd h0
 have hj : (C * (j + 1) : Nat) = C * j + C := Nat.mul_succ C j
 refine ⟨⟨h.st, h.w0, h.low, fun v hv => ?_, h.sub, fun x hx hq => ?_, fun x hx hq => ?_, fun v hv hq h1 => ?_, h.go, h.by_, h.ways⟩, ?_, h.off u hu hd⟩
 ·have := h.high v hv
  rw [hj]; omega
 ·by_cases e : x = u
  ·rw [e, qc_] at hq; cases hq
  ·rw [qd_ _ _ e] at hq; exact h.off x hx hq
 ·by_cases e : x = u
  ·rw [e]; exact ⟨h0, Int.le_refl _⟩
  ·rw [qd_ _ _ e] at hq
   have := h.on x hx hq
   omega
 ·by_cases e : v = u
  ·rw [e]; exact Int.le_refl _
  ·rw [qd_ _ _ e] at hq; exact hm v hv hq h1
 ·have := h.high u hu
  rw [hj]; omega
def sh_ (d : Nat → Int) (u t c : Nat) : Nat → Int := if d t < 0 ∨ d u + (c : Int) < d t then upd d t (d u + (c : Int)) else d
def s8_ (d w : Nat → Int) (u t c : Nat) : Nat → Int := if d t < 0 ∨ d u + (c : Int) < d t then upd w t (wrap64 (0 + w u)) else if d u + (c : Int) = d t then upd w t (wrap64 (w t + w u)) else w
theorem Sea.edge {Q : Nat → List (Nat × Nat)} {N C s0 u t c j : Nat} {done : Nat → Bool} {d w : Nat → Int} (h : Sea Q N C s0 done d w (d u) j) (hu : u < N) (hd : done u = true) (ht : t < N) (hc : 1 ≤ c) (hc2 : c ≤ C) (hj : d u + (C : Int) ≤ ((C * j : Nat) : Int)) :
  Sea (upd Q u (Q u ++ [(t, c)])) N C s0 done (sh_ d u t c) (s8_ d w u t c) (sh_ d u t c u) j ∧ sh_ d u t c u = d u := by
 have hu0 := (h.on u hu hd).1
 have hsub : GrB (upd Q u (Q u ++ [(t, c)])) N C := by
  intro x hx e he
  by_cases q : x = u
  ·rw [q, qc_] at he
   rcases List.mem_append.1 he with he | he
   ·exact h.sub u hu e he
   ·rw [List.mem_singleton.1 he]; exact ⟨ht, hc, hc2⟩
  ·rw [qd_ _ _ q] at he; exact h.sub x hx e he
 have hoff : ∀ x, x < N → done x = false → upd Q u (Q u ++ [(t, c)]) x = [] := by
  intro x hx hq
  have : x ≠ u := fun e => by rw [e, hd] at hq; cases hq
  rw [qd_ _ _ this]; exact h.off x hx hq
 by_cases hA : d t < 0 ∨ d u + (c : Int) < d t
 ·have hD : sh_ d u t c = upd d t (d u + (c : Int)) := if_pos hA
  have hW : s8_ d w u t c = upd w t (wrap64 (0 + w u)) := if_pos hA
  have hdt : done t = false := by
   cases q : done t
   ·rfl
   ·have := h.on t ht q; omega
  have hut : u ≠ t := fun e => by rw [e, hdt] at hd; cases hd
  have hts : t ≠ s0 := fun e => by have := h.st; rw [e] at hA; omega
  have hQt := h.off t ht hdt
  have hdu : upd d t (d u + (c : Int)) u = d u := qd_ _ _ hut
  have hx : ∀ x, x < N → ∀ e ∈ Q x, x ≠ t := by
   intro x _ e he q
   rw [q, hQt] at he; cases he
  rw [hD, hW, hdu]
  refine ⟨⟨?_, ?_, fun v hv => ?_, fun v hv => ?_, hsub, hoff, fun x hx1 hq => ?_, fun v hv hq h1 => ?_, fun x hx1 e he => ?_, fun v hv h1 => ?_, fun v hv hvs => ?_⟩, rfl⟩
  ·rw [qd_ _ _ (Ne.symm hts)]; exact h.st
  ·rw [qd_ _ _ (Ne.symm hts)]; exact h.w0
  ·by_cases q : v = t
   ·rw [q, qc_]; omega
   ·rw [qd_ _ _ q]; exact h.low v hv
  ·by_cases q : v = t
   ·rw [q, qc_]; omega
   ·rw [qd_ _ _ q]; exact h.high v hv
  ·have : x ≠ t := fun e => by rw [e, hdt] at hq; cases hq
   rw [qd_ _ _ this]; exact h.on x hx1 hq
  ·by_cases q : v = t
   ·rw [q, qc_]; omega
   ·rw [qd_ _ _ q] at h1 ⊢; exact h.up v hv hq h1
  ·have key : ∀ x, x < N → ∀ e ∈ Q x, 0 ≤ upd d t (d u + (c : Int)) e.1 ∧ upd d t (d u + (c : Int)) e.1 ≤ upd d t (d u + (c : Int)) x + (e.2 : Int) := by
    intro x hx1 e he
    have hg := h.go x hx1 e he
    rw [qd_ (x := x) _ _ (hx x hx1 e he)]
    by_cases q : e.1 = t
    ·rw [q] at hg ⊢
     rw [qc_]; omega
    ·rw [qd_ _ _ q]; exact hg
   by_cases q : x = u
   ·rw [q, qc_] at he
    rw [q]
    rcases List.mem_append.1 he with he | he
    ·exact key u hu e he
    ·rw [List.mem_singleton.1 he]
     show 0 ≤ upd d t (d u + (c : Int)) t ∧ upd d t (d u + (c : Int)) t ≤ upd d t (d u + (c : Int)) u + (c : Int)
     rw [qc_, hdu]; omega
   ·rw [qd_ _ _ q] at he; exact key x hx1 e he
  ·by_cases q : v = t
   ·refine .inr ⟨u, hu, c, ?_, ?_⟩
    ·rw [qc_, q]; simp
    ·rw [q, qc_, hdu]
   ·rw [qd_ _ _ q] at h1
    rcases h.by_ v hv h1 with e | ⟨x, hx1, c', hm, he⟩
    ·exact .inl e
    ·refine .inr ⟨x, hx1, c', ?_, ?_⟩
     ·by_cases q2 : x = u
      ·rw [q2, qc_]; rw [q2] at hm; exact List.mem_append_left _ hm
      ·rw [qd_ _ _ q2]; exact hm
     ·rw [qd_ _ _ q, qd_ _ _ (hx x hx1 _ hm)]; exact he
  ·rw [qC_ hu]
   by_cases q : v = t
   ·rw [q, qc_, qc_, hdu, qd_ _ _ hut, if_pos rfl, if_pos rfl]
    rw [qJ_ fun x hx1 e he e1 => ?_]
    have hg := h.go x hx1 e he
    rw [qd_ (x := x) _ _ (hx x hx1 e he)]
    rw [e1] at hg
    rw [if_neg (by omega)]
   ·rw [if_neg (Ne.symm q), qd_ _ _ q, qd_ (x := v) _ _ q, h.ways v hv hvs, Int.add_zero]
    refine congrArg wrap64 (qB_ fun x hx1 e he e1 => ?_)
    rw [qd_ (x := x) _ _ (hx x hx1 e he), qd_ (x := x) _ _ (hx x hx1 e he)]
 ·have hD : sh_ d u t c = d := if_neg hA
  have hgo : ∀ x, x < N → ∀ e ∈ upd Q u (Q u ++ [(t, c)]) x, 0 ≤ d e.1 ∧ d e.1 ≤ d x + (e.2 : Int) := by
   intro x hx1 e he
   by_cases q : x = u
   ·rw [q, qc_] at he
    rw [q]
    rcases List.mem_append.1 he with he | he
    ·exact h.go u hu e he
    ·rw [List.mem_singleton.1 he]
     show 0 ≤ d t ∧ d t ≤ d u + (c : Int)
     omega
   ·rw [qd_ _ _ q] at he; exact h.go x hx1 e he
  have hby : ∀ v, v < N → 0 ≤ d v → v = s0 ∨ ∃ x, x < N ∧ ∃ c' : Nat, (v, c') ∈ upd Q u (Q u ++ [(t, c)]) x ∧ d v = d x + (c' : Int) := by
   intro v hv h1
   rcases h.by_ v hv h1 with e | ⟨x, hx1, c', hm, he⟩
   ·exact .inl e
   ·refine .inr ⟨x, hx1, c', ?_, he⟩
    by_cases q2 : x = u
    ·rw [q2, qc_]; rw [q2] at hm; exact List.mem_append_left _ hm
    ·rw [qd_ _ _ q2]; exact hm
  rw [hD]
  refine ⟨?_, rfl⟩
  by_cases hB : d u + (c : Int) = d t
  ·have hW : s8_ d w u t c = upd w t (wrap64 (w t + w u)) := (if_neg hA).trans (if_pos hB)
   have hdt : done t = false := by
    cases q : done t
    ·rfl
    ·have := h.on t ht q; omega
   have hut : u ≠ t := fun e => by rw [e, hdt] at hd; cases hd
   have hts : t ≠ s0 := fun e => by have := h.st; rw [e] at hB; omega
   have hQt := h.off t ht hdt
   have hx : ∀ x, x < N → ∀ e ∈ Q x, x ≠ t := by
    intro x _ e he q
    rw [q, hQt] at he; cases he
   rw [hW]
   refine ⟨h.st, ?_, h.low, h.high, hsub, hoff, h.on, h.up, hgo, hby, fun v hv hvs => ?_⟩
   ·rw [qd_ _ _ (Ne.symm hts)]; exact h.w0
   ·rw [qC_ hu]
    have hsame : q1_ Q N v (fun x c_1 => if d x + (c_1 : Int) = d v then upd w t (wrap64 (w t + w u)) x else 0) = q1_ Q N v (fun x c => if d x + (c : Int) = d v then w x else 0) :=
     qB_ fun x hx1 e he e1 => by rw [qd_ _ _ (hx x hx1 e he)]
    rw [hsame]
    by_cases q : v = t
    ·rw [q, qc_, if_pos rfl, if_pos hB, qd_ _ _ hut, h.ways t ht hts, qz_]
    ·rw [if_neg (Ne.symm q), qd_ _ _ q, h.ways v hv hvs, Int.add_zero]
  ·have hW : s8_ d w u t c = w := (if_neg hA).trans (if_neg hB)
   rw [hW]
   refine ⟨h.st, h.w0, h.low, h.high, hsub, hoff, h.on, h.up, hgo, hby, fun v hv hvs => ?_⟩
   rw [qC_ hu]
   by_cases q : t = v
   ·rw [if_pos q, if_neg (by rw [← q]; exact hB), h.ways v hv hvs, Int.add_zero]
   ·rw [if_neg q, h.ways v hv hvs, Int.add_zero]
theorem Sea.end_ {A Q : Nat → List (Nat × Nat)} {N C s0 j : Nat} {done : Nat → Bool} {d w : Nat → Int} {m : Int} (h : Sea Q N C s0 done d w m j) (hs : s0 < N) (hA : GrB A N C) (hB : s7_ A N) (hq : ∀ x, x < N → done x = true → Q x = A x) (he : ∀ v, v < N → done v = false → d v < 0) :
  Far A N (fun v => v = s0) d ∧ Ways A N (fun v => v = s0) d w := by
 have hd : ∀ x, x < N → 0 ≤ d x → Q x = A x := by
  intro x hx h0
  cases q : done x
  ·have := he x hx q; omega
  ·exact hq x hx q
 refine ⟨⟨fun s e => by rw [e]; exact h.st, fun u hu h0 e hm => h.go u hu e (by rw [hd u hu h0]; exact hm), fun v hv h0 => ?_⟩, Ways.of_in hA hB (fun s e => by rw [e]; exact h.w0) fun v hv h0 hvs => ?_⟩
 ·rcases h.by_ v hv h0 with e | ⟨x, hx, c, hm, e⟩
  ·exact .inl e
  ·have hx0 : 0 ≤ d x := by
    cases q : done x
    ·rw [h.off x hx q] at hm; cases hm
    ·exact (h.on x hx q).1
   exact .inr ⟨x, hx, hx0, c, by rw [← hd x hx hx0]; exact hm, e⟩
 ·rw [h.ways v hv hvs]
  unfold q1_
  refine congrArg (fun l => wrap64 (qg_ l)) (List.map_congr_left fun x hx => ?_)
  have hx := List.mem_range.1 hx
  by_cases h1 : 0 ≤ d x
  ·rw [hd x hx h1]
   refine congrArg qg_ (List.map_congr_left fun e he => ?_)
   simp only [h1, true_and]
  ·have hn : done x = false := by
    cases q : done x
    ·rfl
    ·have := (h.on x hx q).1; omega
   rw [h.off x hx hn]
   refine (qt_ _ fun e he => ?_).symm
   by_cases q : e.1 = v
   ·rw [if_pos q]
    exact if_neg fun h => h1 h.1
   ·rw [if_neg q]
def Aof (E : Int → List S110) (u : Nat) : List (Nat × Nat) := (E (u : Int)).map fun e => (e.f0.toNat, e.f1.toNat)
def dd (dist : List Int) (v : Nat) : Int := dist.getD v 0
theorem qu_ (dist : List Int) {x : Int} (h : 0 ≤ x) : rdOf 0 dist x = dd dist x.toNat := rfl
theorem rm_ {dist : List Int} {u : Nat} (a : Int) (hu : u < dist.length) (v : Nat) : dd (dist.set u a) v = if v = u then a else dd dist v := by
 unfold dd
 rw [List.getD_eq_getElem?_getD, List.getD_eq_getElem?_getD, List.getElem?_set]
 by_cases h : v = u
 ·subst h
  simp [hu]
 ·rw [if_neg (fun e => h e.symm), if_neg h]
def GrI (E : Int → List S110) (N C G : Nat) : Prop := ∀ u : Nat, u < N → (E (u : Int)).length ≤ G ∧ ∀ e ∈ E (u : Int), 0 ≤ e.f0 ∧ e.f0 < (N : Int) ∧ 1 ≤ e.f1 ∧ e.f1 ≤ (C : Int)
theorem GrI.b {E : Int → List S110} {N C G : Nat} (h : GrI E N C G) : GrB (Aof E) N C := by
 intro u hu e he
 obtain ⟨x, hx, rfl⟩ := List.mem_map.1 he
 have := (h u hu).2 x hx
 simp only
 omega
theorem qZ_ (n b : Nat) (w : List (List Int)) : (frPad n w).getD b [] = w.getD b [] := by
 unfold frPad
 rw [List.getD_eq_getElem?_getD, List.getD_eq_getElem?_getD, List.getElem?_append]
 by_cases h : b < w.length
 ·rw [if_pos h]
 ·rw [if_neg h, List.getElem?_eq_none (Nat.not_lt.1 h), List.getElem?_replicate]
  split <;> rfl
theorem qY_ (n : Nat) (w : List (List Int)) : (frPad n w).length = w.length + (n + 1 - w.length) := by
 unfold frPad
 rw [List.length_append, List.length_replicate]
theorem r8_ {w : List (List Int)} {u : Nat} (a : List Int) (hu : u < w.length) (v : Nat) : (w.set u a).getD v [] = if v = u then a else w.getD v [] := by
 rw [List.getD_eq_getElem?_getD, List.getD_eq_getElem?_getD, List.getElem?_set]
 by_cases h : v = u
 ·subst h
  simp [hu]
 ·rw [if_neg (fun e => h e.symm), if_neg h]
theorem q4_ {N C W L d : Nat} {dist : List Int} (hl : dist.length = N) (hW : W < 1000000) (hd : d + C + 1 ≤ W) : ∀ (es : List S110) (w : List (List Int)), (∀ e ∈ es, 0 ≤ e.f0 ∧ e.f0 < (N : Int) ∧ 1 ≤ e.f1 ∧ e.f1 ≤ (C : Int)) → w.length ≤ W → L < 1000000 → (∀ b, (w.getD b []).length + es.length ≤ L) →
  ∃ w', frEdges d dist es w = some w' ∧ w.length ≤ w'.length ∧ w'.length ≤ W ∧ (∀ b, ∃ t, w'.getD b [] = w.getD b [] ++ t ∧ t.length ≤ es.length ∧ ∀ x ∈ t, ∃ e ∈ es, x = e.f0 ∧ b = d + e.f1.toNat) ∧ ∀ e ∈ es, dd dist e.f0.toNat < 0 → e.f0 ∈ w'.getD (d + e.f1.toNat) []
 | [], w, _, hw, _, _ => ⟨w, rfl, Nat.le_refl _, hw, fun b => ⟨[], (List.append_nil _).symm, Nat.le_refl _, fun _ h => by cases h⟩, fun _ h => by cases h⟩
 | e :: es, w, he, hw, hL, hb => by
  have h1 := he e (by simp)
  have hlen : (e :: es).length = es.length + 1 := rfl
  unfold frEdges
  rw [if_pos ⟨h1.1, by omega⟩, qu_ _ h1.1]
  by_cases hs : dd dist e.f0.toNat ≥ 0
  ·rw [if_pos hs]
   obtain ⟨w', a1, a2, a3, a4, a5⟩ := q4_ (L := L) hl hW hd es w (fun x hx => he x (by simp [hx])) hw hL (fun b => by have := hb b; omega)
   refine ⟨w', a1, a2, a3, fun b => ?_, fun x hx hn => ?_⟩
   ·obtain ⟨t, t1, t2, t3⟩ := a4 b
    refine ⟨t, t1, by omega, fun x hx => ?_⟩
    obtain ⟨y, y1, y2⟩ := t3 x hx
    exact ⟨y, by simp [y1], y2⟩
   ·rcases List.mem_cons.1 hx with q | q
    ·rw [q] at hn; omega
    ·exact a5 x q hn
  ·rw [if_neg hs]
   have hp := qY_ (d + e.f1.toNat) w
   have hg := qZ_ (d + e.f1.toNat) (d + e.f1.toNat) w
   have hbb := hb (d + e.f1.toNat)
   rw [hg, if_pos ⟨h1.2.2.1, by omega, by omega, by omega⟩]
   have hin : d + e.f1.toNat < (frPad (d + e.f1.toNat) w).length := by omega
   have hget : ∀ b, ((frPad (d + e.f1.toNat) w).set (d + e.f1.toNat) (w.getD (d + e.f1.toNat) [] ++ [e.f0])).getD b [] = if b = d + e.f1.toNat then w.getD (d + e.f1.toNat) [] ++ [e.f0] else w.getD b [] := by
    intro b
    rw [r8_ _ hin, qZ_]
   obtain ⟨w', a1, a2, a3, a4, a5⟩ := q4_ (L := L) hl hW hd es ((frPad (d + e.f1.toNat) w).set (d + e.f1.toNat) (w.getD (d + e.f1.toNat) [] ++ [e.f0])) (fun x hx => he x (by simp [hx])) (by rw [List.length_set]; omega) hL (fun b => by
    rw [hget]
    have := hb b
    split
    ·rw [List.length_append, List.length_singleton]; omega
    ·omega)
   rw [List.length_set] at a2
   refine ⟨w', a1, by omega, a3, fun b => ?_, fun x hx hn => ?_⟩
   ·obtain ⟨t, t1, t2, t3⟩ := a4 b
    rw [hget] at t1
    by_cases q : b = d + e.f1.toNat
    ·rw [if_pos q] at t1
     refine ⟨e.f0 :: t, ?_, by rw [List.length_cons]; omega, fun x hx => ?_⟩
     ·rw [t1, q, List.append_assoc]; rfl
     ·rcases List.mem_cons.1 hx with h | h
      ·exact ⟨e, by simp, h, q⟩
      ·obtain ⟨y, y1, y2⟩ := t3 x h
       exact ⟨y, by simp [y1], y2⟩
    ·rw [if_neg q] at t1
     refine ⟨t, t1, by omega, fun x hx => ?_⟩
     obtain ⟨y, y1, y2⟩ := t3 x hx
     exact ⟨y, by simp [y1], y2⟩
   ·rcases List.mem_cons.1 hx with q | q
    ·obtain ⟨t, t1, -, -⟩ := a4 (d + e.f1.toNat)
     rw [hget, if_pos rfl] at t1
     rw [q, t1]
     simp
    ·exact a5 x q hn
def rF_ (d i : Nat) (w : List (List Int)) (b v : Nat) : Prop := d ≤ b ∧ (v : Int) ∈ (if b = d then (w.getD b []).drop i else w.getD b [])
def q6_ (dist : List Int) : Nat := dist.countP fun x => decide (0 ≤ x)
theorem rT_ {dist : List Int} {u : Nat} {a : Int} (hu : u < dist.length) (h : dd dist u < 0) (ha : 0 ≤ a) : q6_ (dist.set u a) = q6_ dist + 1 := by
 induction dist generalizing u with
 | nil => simp at hu
 | cons x xs ih =>
  cases u with
  | zero =>
   have hx : x < 0 := h
   unfold q6_
   rw [List.set_cons_zero, List.countP_cons, List.countP_cons, if_pos (by simpa using ha), if_neg (by simp; omega)]
  | succ u =>
   have := ih (u := u) (by simpa using hu) h
   unfold q6_ at this ⊢
   rw [List.set_cons_succ, List.countP_cons, List.countP_cons, this]
   omega
structure Bk (E : Int → List S110) (N C G B : Nat) (S : Nat → Prop) (d i : Nat) (dist : List Int) (w : List (List Int)) : Prop where
 len : dist.length = N
 low : ∀ v, v < N → -1 ≤ dd dist v
 set_ : ∀ v, v < N → dd dist v ≤ (d : Int)
 hi : ∀ v, v < N → dd dist v ≤ ((C * q6_ dist : Nat) : Int)
 wl : w.length ≤ C * q6_ dist + 1
 dl : d ≤ w.length
 ent : ∀ b, ∀ x ∈ w.getD b [], 0 ≤ x ∧ x < (N : Int) ∧ ((S x.toNat ∧ b = 0) ∨ ∃ u, u < N ∧ 0 ≤ dd dist u ∧ ∃ c : Nat, (x.toNat, c) ∈ Aof E u ∧ (b : Int) = dd dist u + (c : Int))
 sz : ∀ b, (w.getD b []).length ≤ B + G * q6_ dist
 st : ∀ s, S s → s < N ∧ (dd dist s = 0 ∨ dd dist s < 0 ∧ rF_ d i w 0 s)
 go : ∀ u, u < N → 0 ≤ dd dist u → ∀ e ∈ Aof E u, (0 ≤ dd dist e.1 ∧ dd dist e.1 ≤ dd dist u + (e.2 : Int)) ∨ (dd dist e.1 < 0 ∧ ∃ b : Nat, (b : Int) = dd dist u + (e.2 : Int) ∧ rF_ d i w b e.1)
 by_ : ∀ v, v < N → 0 ≤ dd dist v → S v ∨ ∃ u, u < N ∧ 0 ≤ dd dist u ∧ ∃ c : Nat, (v, c) ∈ Aof E u ∧ dd dist v = dd dist u + (c : Int)
theorem ri_ (dist : List Int) : q6_ dist ≤ dist.length := List.countP_le_length
theorem Bk.end_ {E : Int → List S110} {N C G B : Nat} {S : Nat → Prop} {d i : Nat} {dist : List Int} {w : List (List Int)} (h : Bk E N C G B S d i dist w) (hd : ¬ d < w.length) : Far (Aof E) N S (dd dist) := by
 have hn : ∀ b v, ¬ rF_ d i w b v := by
  intro b v ⟨h1, h2⟩
  have : w.getD b [] = [] := by rw [List.getD_eq_getElem?_getD, List.getElem?_eq_none (by omega)]; rfl
  rw [this] at h2
  split at h2 <;> simp at h2
 refine ⟨fun s hs => ?_, fun u hu h0 e he => ?_, h.by_⟩
 ·rcases (h.st s hs).2 with e | ⟨-, e⟩
  ·exact e
  ·exact absurd e (hn _ _)
 ·rcases h.go u hu h0 e he with q | ⟨-, b, -, q⟩
  ·exact q
  ·exact absurd q (hn _ _)
theorem Bk.next {E : Int → List S110} {N C G B : Nat} {S : Nat → Prop} {d i : Nat} {dist : List Int} {w : List (List Int)} (h : Bk E N C G B S d i dist w) (hd : d < w.length) (hi : ¬ i < (w.getD d []).length) : Bk E N C G B S (d + 1) 0 dist w := by
 have hp : ∀ b v, rF_ d i w b v → rF_ (d + 1) 0 w b v := by
  intro b v ⟨h1, h2⟩
  by_cases e : b = d
  ·rw [if_pos e, e, List.drop_eq_nil_of_le (Nat.not_lt.1 hi)] at h2
   simp at h2
  ·rw [if_neg e] at h2
   refine ⟨by omega, ?_⟩
   split
   ·rw [List.drop_zero]; exact h2
   ·exact h2
 refine { h with set_ := fun v hv => ?_, dl := hd, st := fun s hs => ?_, go := fun u hu h0 e he => ?_ }
 ·have := h.set_ v hv
  omega
 ·obtain ⟨a, b⟩ := h.st s hs
  exact ⟨a, b.imp id fun ⟨q1, q2⟩ => ⟨q1, hp _ _ q2⟩⟩
 ·exact (h.go u hu h0 e he).imp id fun ⟨q1, b, q2, q3⟩ => ⟨q1, b, q2, hp _ _ q3⟩
theorem qT_ {d i : Nat} {w : List (List Int)} {b v : Nat} (hi : i < (w.getD d []).length) (h : rF_ d i w b v) : (b = d ∧ (v : Int) = (w.getD d []).getD i 0) ∨ rF_ d (i + 1) w b v := by
 obtain ⟨h1, h2⟩ := h
 by_cases e : b = d
 ·rw [if_pos e, e, qe_ _ i hi 0] at h2
  rcases List.mem_cons.1 h2 with q | q
  ·exact .inl ⟨e, q⟩
  ·exact .inr ⟨h1, by rw [if_pos e, e]; exact q⟩
 ·rw [if_neg e] at h2
  exact .inr ⟨h1, by rw [if_neg e]; exact h2⟩
theorem Bk.skip {E : Int → List S110} {N C G B : Nat} {S : Nat → Prop} {d i : Nat} {dist : List Int} {w : List (List Int)} (h : Bk E N C G B S d i dist w) (hi : i < (w.getD d []).length) (hs : 0 ≤ dd dist ((w.getD d []).getD i 0).toNat) : Bk E N C G B S d (i + 1) dist w := by
 have hx := h.ent d _ (qo_ hi 0)
 have hp : ∀ b v, dd dist v < 0 → rF_ d i w b v → rF_ d (i + 1) w b v := by
  intro b v hv hq
  rcases qT_ hi hq with ⟨-, e⟩ | q
  ·rw [← e, Int.toNat_natCast] at hs; omega
  ·exact q
 refine { h with st := fun s hs => ?_, go := fun u hu h0 e he => ?_ }
 ·obtain ⟨a, b⟩ := h.st s hs
  exact ⟨a, b.imp id fun ⟨q1, q2⟩ => ⟨q1, hp _ _ q1 q2⟩⟩
 ·exact (h.go u hu h0 e he).imp id fun ⟨q1, b, q2, q3⟩ => ⟨q1, b, q2, hp _ _ q1 q3⟩
theorem Bk.settle {E : Int → List S110} {N C G B : Nat} {S : Nat → Prop} {d i : Nat} {dist : List Int} {w : List (List Int)} (hE : GrI E N C G) (h : Bk E N C G B S d i dist w) (hd : d < w.length) (hi : i < (w.getD d []).length) {v : Nat} (hv : (w.getD d []).getD i 0 = (v : Int)) (hs : dd dist v < 0)
  (hC : C * N + 1 < 1000000) (hG : B + G * N < 1000000) : ∃ w', frEdges d (dist.set v (d : Int)) (E (v : Int)) w = some w' ∧ Bk E N C G B S d (i + 1) (dist.set v (d : Int)) w' ∧ q6_ (dist.set v (d : Int)) = q6_ dist + 1 := by
 have hx := h.ent d _ (qo_ hi 0)
 rw [hv, Int.toNat_natCast] at hx
 have hvN : v < N := by omega
 have hvl : v < dist.length := by rw [h.len]; exact hvN
 have hcnt := rT_ (a := (d : Int)) hvl hs (by omega)
 have hcN : q6_ dist + 1 ≤ N := by
  have := ri_ (dist.set v (d : Int))
  rw [List.length_set, h.len, hcnt] at this
  exact this
 have hmC : C * (q6_ dist + 1) ≤ C * N := Nat.mul_le_mul_left _ hcN
 have hmG : G * (q6_ dist + 1) ≤ G * N := Nat.mul_le_mul_left _ hcN
 have eC : C * (q6_ dist + 1) = C * q6_ dist + C := Nat.mul_succ _ _
 have eG : G * (q6_ dist + 1) = G * q6_ dist + G := Nat.mul_succ _ _
 have hwl := h.wl
 obtain ⟨hEl, hEe⟩ := hE v hvN
 obtain ⟨w', a1, a2, a3, a4, a5⟩ := q4_ (N := N) (C := C) (W := C * (q6_ dist + 1) + 1) (L := B + G * (q6_ dist + 1)) (d := d) (dist := dist.set v (d : Int)) (by rw [List.length_set]; exact h.len) (by omega) (by omega) (E (v : Int)) w hEe (by omega) (by omega) (fun b => by have := h.sz b; omega)
 have hD : ∀ x, dd (dist.set v (d : Int)) x = if x = v then (d : Int) else dd dist x := rm_ _ hvl
 have hDv : dd (dist.set v (d : Int)) v = (d : Int) := by rw [hD, if_pos rfl]
 have hDo : ∀ x, 0 ≤ dd dist x → dd (dist.set v (d : Int)) x = dd dist x := by
  intro x hx
  rw [hD, if_neg]
  intro e
  rw [e] at hx; omega
 have hw'd : w'.getD d [] = w.getD d [] := by
  obtain ⟨t, t1, -, t3⟩ := a4 d
  cases t with
  | nil => rw [t1, List.append_nil]
  | cons y t =>
   obtain ⟨e, e1, -, e2⟩ := t3 y (by simp)
   have := (hEe e e1).2.2.1
   omega
 have hp : ∀ b x, x ≠ v → rF_ d i w b x → rF_ d (i + 1) w' b x := by
  intro b x hxv hq
  rcases qT_ hi hq with ⟨-, e⟩ | ⟨q1, q2⟩
  ·rw [hv] at e; omega
  ·refine ⟨q1, ?_⟩
   by_cases e : b = d
   ·rw [if_pos e] at q2 ⊢
    rw [e] at q2 ⊢
    rw [hw'd]; exact q2
   ·rw [if_neg e] at q2 ⊢
    obtain ⟨t, t1, -, -⟩ := a4 b
    rw [t1]
    exact List.mem_append_left _ q2
 refine ⟨w', a1, ?_, hcnt⟩
 refine ⟨by rw [List.length_set]; exact h.len, fun x hx1 => ?_, fun x hx1 => ?_, fun x hx1 => ?_, by rw [hcnt]; exact a3, Nat.le_of_lt (Nat.lt_of_lt_of_le hd a2), fun b x hm => ?_, fun b => ?_, fun s hS => ?_, fun u hu h0 e he => ?_, fun x hx1 h0 => ?_⟩
 ·rw [hD]
  split
  ·omega
  ·exact h.low x hx1
 ·rw [hD]
  split
  ·omega
  ·exact h.set_ x hx1
 ·rw [hD, hcnt]
  have := h.hi x hx1
  split <;> omega
 ·obtain ⟨t, t1, -, t3⟩ := a4 b
  rw [t1] at hm
  rcases List.mem_append.1 hm with q | q
  ·obtain ⟨e1, e2, e3⟩ := h.ent b x q
   refine ⟨e1, e2, e3.imp id fun ⟨u, u1, u2, c, u3, u4⟩ => ⟨u, u1, ?_, c, u3, ?_⟩⟩
   ·rw [hDo u u2]; exact u2
   ·rw [hDo u u2]; exact u4
  ·obtain ⟨e, e1, e2, e3⟩ := t3 x q
   have he := hEe e e1
   refine ⟨by omega, by omega, .inr ⟨v, hvN, by rw [hDv]; omega, e.f1.toNat, ?_, by rw [hDv]; omega⟩⟩
   rw [e2]
   exact List.mem_map.2 ⟨e, e1, rfl⟩
 ·obtain ⟨t, t1, t2, -⟩ := a4 b
  have := h.sz b
  rw [t1, List.length_append, hcnt]
  omega
 ·obtain ⟨s1, s2⟩ := h.st s hS
  refine ⟨s1, ?_⟩
  by_cases e : s = v
  ·left
   rcases s2 with q | ⟨-, q⟩
   ·rw [e] at q; omega
   ·rw [e, hDv]
    have := q.1
    omega
  ·rw [hD, if_neg e]
   exact s2.imp id fun ⟨q1, q2⟩ => ⟨q1, hp _ _ e q2⟩
 ·by_cases q : u = v
  ·rw [q] at he
   obtain ⟨y, y1, y2⟩ := List.mem_map.1 he
   have hy := hEe y y1
   have hyN : y.f0.toNat < N := by omega
   rw [q, hDv, ← y2]
   simp only
   by_cases z : dd (dist.set v (d : Int)) y.f0.toNat < 0
   ·right
    refine ⟨z, d + y.f1.toNat, by omega, by omega, ?_⟩
    rw [if_neg (by omega), show ((y.f0.toNat : Nat) : Int) = y.f0 by omega]
    exact a5 y y1 z
   ·left
    refine ⟨by omega, ?_⟩
    have : dd (dist.set v (d : Int)) y.f0.toNat ≤ (d : Int) := by
     rw [hD]
     split
     ·exact Int.le_refl _
     ·exact h.set_ _ hyN
    omega
  ·have hu0 : 0 ≤ dd dist u := by
    rw [hD, if_neg q] at h0; exact h0
   rw [hDo u hu0]
   rcases h.go u hu hu0 e he with ⟨z1, z2⟩ | ⟨z1, b, z2, z3⟩
   ·left
    rw [hDo _ z1]; exact ⟨z1, z2⟩
   ·by_cases q2 : e.1 = v
    ·left
     rw [q2, hDv]
     have := z3.1
     omega
    ·right
     rw [hD, if_neg q2]
     exact ⟨z1, b, z2, hp _ _ q2 z3⟩
 ·by_cases q : x = v
  ·rcases hx.2.2 with ⟨z1, -⟩ | ⟨u, u1, u2, c, u3, u4⟩
   ·left; rw [q]; exact z1
   ·right
    refine ⟨u, u1, by rw [hDo u u2]; exact u2, c, by rw [q]; exact u3, ?_⟩
    rw [q, hDv, hDo u u2]; exact u4
  ·rw [hD, if_neg q] at h0
   rcases h.by_ x hx1 h0 with z | ⟨u, u1, u2, c, u3, u4⟩
   ·exact .inl z
   ·right
    refine ⟨u, u1, by rw [hDo u u2]; exact u2, c, u3, ?_⟩
    rw [hD, if_neg q, hDo u u2]; exact u4
theorem r9_ {E : Int → List S110} {N C G B : Nat} {S : Nat → Prop} (hE : GrI E N C G) (hC : C * N + 1 < 1000000) (hG : B + G * N < 1000000) : ∀ (a b l d i : Nat) (dist : List Int) (w : List (List Int)), N - q6_ dist ≤ a → C * N + 2 - d ≤ b → (w.getD d []).length - i ≤ l → Bk E N C G B S d i dist w →
  ∃ k r, frRun E (N : Int) k d i dist w = some r ∧ Far (Aof E) N S (dd r) ∧ r.length = N ∧ (∀ v, v < N → -1 ≤ dd r v) ∧ ∀ v, v < N → dd r v ≤ ((C * N : Nat) : Int) := by
 intro a
 induction a using Nat.strongRecOn with
 | _ a iha =>
 intro b
 induction b using Nat.strongRecOn with
 | _ b ihb =>
 intro l
 induction l using Nat.strongRecOn with
 | _ l ihl =>
 intro d i dist w ha hb hl h
 have hcl := ri_ dist
 rw [h.len] at hcl
 have hmC : C * q6_ dist ≤ C * N := Nat.mul_le_mul_left _ hcl
 have hmG : G * q6_ dist ≤ G * N := Nat.mul_le_mul_left _ hcl
 by_cases c1 : d < w.length
 ·have hwl := h.wl
  by_cases c2 : i < (w.getD d []).length
  ·obtain ⟨e1, e2, -⟩ := h.ent d _ (qo_ c2 0)
   obtain ⟨v, hv⟩ : ∃ v : Nat, (w.getD d []).getD i 0 = (v : Int) := ⟨((w.getD d []).getD i 0).toNat, by omega⟩
   have hvN : v < N := by omega
   have hEl := (hE v hvN).1
   have hG1 : 1 ≤ N := by omega
   have hGN : G * 1 ≤ G * N := Nat.mul_le_mul_left _ hG1
   have hsz := h.sz d
   have hrd : rdOf 0 (w.getD d []) (i : Int) = (v : Int) := hv
   have hcond : 0 ≤ (v : Int) ∧ (v : Int) < (N : Int) ∧ i < 1000000 ∧ d < 1000000 ∧ (E (v : Int)).length < 1000000 := ⟨by omega, by omega, by omega, by omega, by omega⟩
   by_cases c3 : dd dist v ≥ 0
   ·obtain ⟨k, r, hr, hq⟩ := ihl (l - 1) (by omega) d (i + 1) dist w ha hb (by omega) (h.skip c2 (by rw [hv]; exact c3))
    refine ⟨k + 1, r, ?_, hq⟩
    rw [frRun.eq_2, if_pos c1, if_pos c2, hrd, if_pos hcond, qu_ _ (by omega), Int.toNat_natCast, if_pos c3]
    exact hr
   ·obtain ⟨w', hw', hB', hc'⟩ := h.settle hE c1 c2 hv (by omega) hC hG
    have hc2 := ri_ (dist.set v (d : Int))
    rw [List.length_set, h.len] at hc2
    obtain ⟨k, r, hr, hq⟩ := iha (N - q6_ (dist.set v (d : Int))) (by omega) _ _ d (i + 1) (dist.set v (d : Int)) w' (Nat.le_refl _) (Nat.le_refl _) (Nat.le_refl _) hB'
    refine ⟨k + 1, r, ?_, hq⟩
    rw [frRun.eq_2, if_pos c1, if_pos c2, hrd, if_pos hcond, qu_ _ (by omega), Int.toNat_natCast, if_neg c3, hw', Option.bind_some]
    exact hr
  ·obtain ⟨k, r, hr, hq⟩ := ihb (b - 1) (by omega) _ (d + 1) 0 dist w ha (by omega) (Nat.le_refl _) (h.next c1 c2)
   refine ⟨k + 1, r, ?_, hq⟩
   rw [frRun.eq_2, if_pos c1, if_neg c2, if_pos (by omega)]
   exact hr
 ·refine ⟨1, dist, ?_, h.end_ c1, h.len, h.low, fun v hv => ?_⟩
  ·rw [frRun.eq_2, if_neg c1]
  ·have := h.hi v hv
   omega
theorem rQ_ {E : Int → List S110} {N C G s : Nat} (hE : GrI E N C G) (hs : s < N) (hN : N ≤ 1000000) (hC : C * N + 1 < 1000000) (hG : 1 + G * N < 1000000) :
  ∃ k r, impl_graph_int_from.f E k (N : Int) [(s : Int)] = some r ∧ Far (Aof E) N (fun v => v = s) (dd r) ∧ r.length = N ∧ (∀ v, v < N → -1 ≤ dd r v) ∧ ∀ v, v < N → dd r v ≤ ((C * N : Nat) : Int) := by
 have hdd : ∀ v, v < N → dd (List.replicate N (-1)) v = -1 := by
  intro v hv
  unfold dd
  rw [List.getD_eq_getElem?_getD, List.getElem?_replicate, if_pos hv]
  rfl
 have hc0 : q6_ (List.replicate N (-1)) = 0 := by
  unfold q6_
  rw [List.countP_eq_zero]
  intro x hx
  rw [(List.mem_replicate.1 hx).2]
  decide
 have hB : Bk E N C G 1 (fun v => v = s) 0 0 (List.replicate N (-1)) [[(s : Int)]] := by
  refine ⟨by simp, fun v hv => by rw [hdd v hv]; omega, fun v hv => by rw [hdd v hv]; omega, fun v hv => by rw [hdd v hv]; omega, by simp, by simp, fun b x hx => ?_, fun b => ?_, fun t ht => ?_, fun u hu h0 => ?_, fun v hv h0 => ?_⟩
  ·cases b with
   | zero =>
    have : x = (s : Int) := by simpa using hx
    rw [this]
    exact ⟨by omega, by omega, .inl ⟨Int.toNat_natCast _, rfl⟩⟩
   | succ b => simp at hx
  ·cases b with
   | zero => simp
   | succ b => simp
  ·rw [ht]
   exact ⟨hs, .inr ⟨by rw [hdd s hs]; omega, Nat.le_refl _, by simp⟩⟩
  ·rw [hdd u hu] at h0; omega
  ·rw [hdd v hv] at h0; omega
 obtain ⟨k, r, hr, hq⟩ := r9_ hE hC hG N (C * N + 2) _ 0 0 (List.replicate N (-1)) [[(s : Int)]] (by omega) (by omega) (Nat.le_refl _) hB
 refine ⟨k, r, ?_, hq⟩
 unfold impl_graph_int_from.f slices_Repeat_int_int.f
 rw [if_pos (by omega), if_pos (show [-1].length = 1 from rfl), if_pos (by omega), if_pos (by omega)]
 show frRun E (N : Int) k 0 0 (List.replicate (N : Int).toNat (-1)) [[(s : Int)]] = some r
 rw [Int.toNat_natCast]
 exact hr
def st_ : Int → Int → Bool → Int := fun a b _ => wrap64 (a + b)
theorem qE_ (T : Int → Int) : ∀ (es : List S110) (i : Nat) (n : Int), wrap64 n = n → tlFold st_ T es i n = wrap64 (n + qg_ (es.map fun e => T e.f0))
 | [], _, n, h => by
  simp only [tlFold, List.map_nil, qg_, Int.add_zero, h]
 | e :: es, i, n, h => by
  have h2 : wrap64 (wrap64 (n + T e.f0)) = wrap64 (n + T e.f0) := by
   have := qz_ (n + T e.f0) 0
   rwa [Int.add_zero, Int.add_zero] at this
  simp only [tlFold, List.map_cons, qg_]
  show tlFold st_ T es (i + 1) (wrap64 (n + T e.f0)) = _
  rw [qE_ T es (i + 1) _ h2, qz_, Int.add_assoc]
theorem ql_ {α : Type} (p : α → Bool) (f : α → Int) : ∀ l : List α, qg_ ((l.filter p).map f) = qg_ (l.map fun x => if p x = true then f x else 0)
 | [] => rfl
 | x :: l => by
  rw [List.filter_cons]
  cases h : p x
  ·simp only [Bool.false_eq_true, if_false, List.map_cons, qg_, h]
   rw [ql_ p f l]
   omega
  ·simp only [if_true, List.map_cons, qg_, h]
   rw [ql_ p f l]
theorem r1_ {dist : List Int} {N C : Nat} (hC : C * N + 1 < 1000000) (hc : C < 1000000) (hi : ∀ v, v < N → dd dist v ≤ ((C * N : Nat) : Int)) (lo : ∀ v, v < N → -1 ≤ dd dist v) {v : Nat} (hv : v < N) {e : S110} (he : 0 ≤ e.f0 ∧ e.f0 < (N : Int) ∧ 1 ≤ e.f1 ∧ e.f1 ≤ (C : Int)) :
  (!offWay dist (v : Int) e.f0 e.f1) = decide (0 ≤ dd dist e.f0.toNat ∧ dd dist e.f0.toNat + (e.f1.toNat : Int) = dd dist v) := by
 have h1 := hi e.f0.toNat (by omega)
 have h2 := lo e.f0.toNat (by omega)
 unfold offWay
 rw [qu_ _ he.1, qu_ _ (by omega : (0 : Int) ≤ (v : Int)), Int.toNat_natCast, qs_ (by omega) (by omega)]
 have h3 : (e.f1.toNat : Int) = e.f1 := by omega
 rw [h3]
 by_cases c : 0 ≤ dd dist e.f0.toNat
 ·rw [decide_eq_false (by omega : ¬ dd dist e.f0.toNat < 0)]
  by_cases q : dd dist e.f0.toNat + e.f1 = dd dist v
  ·simp [q, c]
  ·simp [q]
 ·rw [decide_eq_true (by omega : dd dist e.f0.toNat < 0)]
  simp [c]
theorem so_ {E : Int → List S110} {N C G : Nat} {dist : List Int} (hE : GrI E N C G) (hN : N ≤ 1000000) (hC : C * N + 1 < 1000000) (hc : C < 1000000) (hG : G < 1000000) (hl : dist.length = N) (hi : ∀ v, v < N → dd dist v ≤ ((C * N : Nat) : Int)) {s : Nat} (hs : s < N) (h0 : 0 ≤ dd dist s) : grOk E (N : Int) (s : Int) dist = true := by
 unfold grOk
 rw [qu_ _ (by omega : (0 : Int) ≤ (s : Int)), Int.toNat_natCast, decide_eq_true (by omega : (N : Int) ≤ 1000000), decide_eq_true (by omega : (0 : Int) ≤ (s : Int)), decide_eq_true (by omega : (s : Int) < (N : Int)), decide_eq_true (by omega : (dist.length : Int) = (N : Int)), decide_eq_true h0]
 simp only [Bool.true_and, Bool.and_eq_true]
 refine ⟨?_, ?_⟩
 ·rw [List.all_eq_true]
  intro x hx
  obtain ⟨m, hm, rfl⟩ := List.mem_iff_getElem.1 hx
  have h2 := hi m (by omega)
  unfold dd at h2
  rw [List.getD_eq_getElem?_getD, List.getElem?_eq_getElem hm] at h2
  have h3 : dist[m] ≤ ((C * N : Nat) : Int) := h2
  exact decide_eq_true (by omega)
 ·rw [List.all_eq_true]
  intro i hi
  rw [Int.toNat_natCast, List.mem_range] at hi
  obtain ⟨e1, e2⟩ := hE i hi
  rw [decide_eq_true (by omega : (E (i : Int)).length < 1000000), Bool.true_and, List.all_eq_true]
  intro e he
  have := e2 e he
  rw [decide_eq_true this.1, decide_eq_true this.2.1, decide_eq_true this.2.2.1, decide_eq_true (by omega : e.f1 < 1000000)]
  rfl
theorem rH_ {E : Int → List S110} {N C G s : Nat} {dist : List Int} (hE : GrI E N C G) (hF : Far (Aof E) N (fun v => v = s) (dd dist)) (hC : C * N + 1 < 1000000) (hc : C < 1000000) (hi : ∀ v, v < N → dd dist v ≤ ((C * N : Nat) : Int)) (lo : ∀ v, v < N → -1 ≤ dd dist v) (hf : tlFalls E (N : Int) dist) :
  Ways (Aof E) N (fun v => v = s) (dd dist) (fun v => tlT E dist st_ 1 (v : Int)) := by
 refine ⟨fun v hv => ?_, fun v hv h0 hvs => ?_⟩
 ·refine tlT_zero _ ?_
  rw [qu_ _ (by omega : (0 : Int) ≤ (v : Int)), Int.toNat_natCast]
  exact hF.st v hv
 ·have hz : dd dist v ≠ 0 := by
   rcases hF.by_ v hv h0 with e | ⟨u, hu, hu0, c, hm, e⟩
   ·exact absurd e hvs
   ·have := (hE.b u hu _ hm).2.1
    simp only at this
    omega
  show tlT E dist st_ 1 (v : Int) = _
  rw [tlT_eq hf (v : Int) (by omega) (by omega) (by rw [qu_ _ (by omega : (0 : Int) ≤ (v : Int)), Int.toNat_natCast]; exact hz), qE_ _ _ _ _ (qs_ (by omega) (by omega)), Int.zero_add]
  unfold tlBest Aof
  rw [ql_, List.map_map]
  refine congrArg (fun l => wrap64 (qg_ l)) (List.map_congr_left fun e he => ?_)
  have hee := (hE v hv).2 e he
  rw [r1_ hC hc hi lo hv hee]
  simp only [decide_eq_true_eq, Function.comp_apply]
  rw [show ((e.f0.toNat : Nat) : Int) = e.f0 by omega]
def ss_ : Nat → List (List Bool)
 | 0 => [[]]
 | n + 1 => (ss_ n).flatMap fun l => [true :: l, false :: l]
theorem qN_ : ∀ o : List Bool, o ∈ ss_ o.length
 | [] => by simp [ss_]
 | b :: o => by
  simp only [List.length_cons, ss_, List.mem_flatMap]
  exact ⟨o, qN_ o, by cases b <;> simp⟩
def s5_ (n : Nat) : Bool := (ss_ n).all fun o => [true, false].all fun t => match impl_State_code.f 20 o t with
 | some c => decide (0 ≤ c) && (decide (c < 2 ^ (n + 1)) && (impl_stateOf.f 20 (n : Int) c == some (o, t)))
 | none => false
def s3_ (n : Nat) : Bool := (ss_ n).all fun o => [true, false].all fun t => match spec_seIndex.f 20 o t with
 | some c => decide (0 ≤ c) && (decide (c < 2 ^ (n + 1)) && (spec_seState.f 20 c (n : Int) == some (o, t)))
 | none => false
def s6_ (n : Nat) : Bool := (List.range (2 ^ (n + 1))).all fun c => match impl_stateOf.f 20 (n : Int) (c : Int) with
 | some s => decide (s.1.length = n) && (impl_State_code.f 20 s.1 s.2 == some (c : Int))
 | none => false
def s4_ (n : Nat) : Bool := (List.range (2 ^ (n + 1))).all fun c => match spec_seState.f 20 (c : Int) (n : Int) with
 | some s => decide (s.1.length = n) && (spec_seIndex.f 20 s.1 s.2 == some (c : Int))
 | none => false
set_option maxRecDepth 100000 in
theorem sq_ : ((List.range 9).all fun n => s5_ n && (s3_ n && (s6_ n && s4_ n))) = true := by decide +kernel
theorem rU_ {n : Nat} (h : n ≤ 8) : s5_ n = true ∧ s3_ n = true ∧ s6_ n = true ∧ s4_ n = true := by
 have := List.all_eq_true.1 sq_ n (List.mem_range.2 (by omega))
 simpa only [Bool.and_eq_true] using this
theorem sc_ (t : Bool) : t ∈ [true, false] := by cases t <;> simp
theorem sB_ {o : List Bool} (t : Bool) (h : o.length ≤ 8) : ∃ c : Nat, c < 2 ^ (o.length + 1) ∧ impl_State_code.f 20 o t = some (c : Int) ∧ impl_stateOf.f 20 (o.length : Int) (c : Int) = some (o, t) := by
 have h1 := List.all_eq_true.1 (List.all_eq_true.1 (rU_ h).1 o (qN_ o)) t (sc_ t)
 cases hc : impl_State_code.f 20 o t with
 | none => rw [hc] at h1; cases h1
 | some c =>
  rw [hc] at h1
  simp only [Bool.and_eq_true, decide_eq_true_eq, beq_iff_eq] at h1
  obtain ⟨a, b, d⟩ := h1
  refine ⟨c.toNat, ?_, by rw [Int.toNat_of_nonneg a], by rw [Int.toNat_of_nonneg a]; exact d⟩
  have : ((2 ^ (o.length + 1) : Nat) : Int) = (2 : Int) ^ (o.length + 1) := by simp
  omega
theorem sA_ {o : List Bool} (t : Bool) (h : o.length ≤ 8) : ∃ c : Nat, c < 2 ^ (o.length + 1) ∧ spec_seIndex.f 20 o t = some (c : Int) ∧ spec_seState.f 20 (c : Int) (o.length : Int) = some (o, t) := by
 have h1 := List.all_eq_true.1 (List.all_eq_true.1 (rU_ h).2.1 o (qN_ o)) t (sc_ t)
 cases hc : spec_seIndex.f 20 o t with
 | none => rw [hc] at h1; cases h1
 | some c =>
  rw [hc] at h1
  simp only [Bool.and_eq_true, decide_eq_true_eq, beq_iff_eq] at h1
  obtain ⟨a, b, d⟩ := h1
  refine ⟨c.toNat, ?_, by rw [Int.toNat_of_nonneg a], by rw [Int.toNat_of_nonneg a]; exact d⟩
  have : ((2 ^ (o.length + 1) : Nat) : Int) = (2 : Int) ^ (o.length + 1) := by simp
  omega
theorem qj_ {α : Type} {f : Nat → Option α} (h : ∀ k, LeO (f k) (f (k + 1))) {k k' : Nat} (hk : k ≤ k') {r : α} (hr : f k = some r) : f k' = some r := by
 induction hk with
 | refl => exact hr
 | step _ ih => exact h _ _ ih
theorem sv_ {n c : Nat} (h : n ≤ 8) (hc : c < 2 ^ (n + 1)) : ∃ o t, impl_stateOf.f 20 (n : Int) (c : Int) = some (o, t) ∧ o.length = n ∧ impl_State_code.f 20 o t = some (c : Int) := by
 have h1 := List.all_eq_true.1 (rU_ h).2.2.1 c (List.mem_range.2 hc)
 cases hs : impl_stateOf.f 20 (n : Int) (c : Int) with
 | none => rw [hs] at h1; cases h1
 | some s =>
  rw [hs] at h1
  simp only [Bool.and_eq_true, decide_eq_true_eq, beq_iff_eq] at h1
  exact ⟨s.1, s.2, rfl, h1.1, h1.2⟩
theorem su_ {n c : Nat} (h : n ≤ 8) (hc : c < 2 ^ (n + 1)) : ∃ o t, spec_seState.f 20 (c : Int) (n : Int) = some (o, t) ∧ o.length = n ∧ spec_seIndex.f 20 o t = some (c : Int) := by
 have h1 := List.all_eq_true.1 (rU_ h).2.2.2 c (List.mem_range.2 hc)
 cases hs : spec_seState.f 20 (c : Int) (n : Int) with
 | none => rw [hs] at h1; cases h1
 | some s =>
  rw [hs] at h1
  simp only [Bool.and_eq_true, decide_eq_true_eq, beq_iff_eq] at h1
  exact ⟨s.1, s.2, rfl, h1.1, h1.2⟩
def sI (n c : Nat) : List Bool × Bool := (impl_stateOf.f 20 (n : Int) (c : Int)).getD ([], false)
def sS (n c : Nat) : List Bool × Bool := (spec_seState.f 20 (c : Int) (n : Int)).getD ([], false)
def cI (s : List Bool × Bool) : Nat := ((impl_State_code.f 20 s.1 s.2).getD 0).toNat
def cS (s : List Bool × Bool) : Nat := ((spec_seIndex.f 20 s.1 s.2).getD 0).toNat
theorem rc_ {n c : Nat} (h : n ≤ 8) (hc : c < 2 ^ (n + 1)) {k : Nat} (hk : 20 ≤ k) : impl_stateOf.f k (n : Int) (c : Int) = some (sI n c) ∧ (sI n c).1.length = n ∧ cI (sI n c) = c := by
 obtain ⟨o, t, h1, h2, h3⟩ := sv_ h hc
 have e : sI n c = (o, t) := by unfold sI; rw [h1]; rfl
 rw [e]
 refine ⟨qj_ (impl_stateOf.mono _ _) hk h1, h2, ?_⟩
 unfold cI
 rw [h3]
 exact Int.toNat_natCast c
theorem qS_ {n c : Nat} (h : n ≤ 8) (hc : c < 2 ^ (n + 1)) {k : Nat} (hk : 20 ≤ k) : spec_seState.f k (c : Int) (n : Int) = some (sS n c) ∧ (sS n c).1.length = n ∧ cS (sS n c) = c := by
 obtain ⟨o, t, h1, h2, h3⟩ := su_ h hc
 have e : sS n c = (o, t) := by unfold sS; rw [h1]; rfl
 rw [e]
 refine ⟨qj_ (spec_seState.mono _ _) hk h1, h2, ?_⟩
 unfold cS
 rw [h3]
 exact Int.toNat_natCast c
theorem rW_ {s : List Bool × Bool} (h : s.1.length ≤ 8) {k : Nat} (hk : 20 ≤ k) : impl_State_code.f k s.1 s.2 = some (cI s : Int) ∧ cI s < 2 ^ (s.1.length + 1) ∧ sI s.1.length (cI s) = s := by
 obtain ⟨c, h1, h2, h3⟩ := sB_ s.2 h
 have e : cI s = c := by unfold cI; rw [h2]; exact Int.toNat_natCast c
 rw [e]
 refine ⟨qj_ (impl_State_code.mono _ _) hk h2, h1, ?_⟩
 unfold sI
 rw [h3]
 rfl
theorem qw_ {s : List Bool × Bool} (h : s.1.length ≤ 8) {k : Nat} (hk : 20 ≤ k) : spec_seIndex.f k s.1 s.2 = some (cS s : Int) ∧ cS s < 2 ^ (s.1.length + 1) ∧ sS s.1.length (cS s) = s := by
 obtain ⟨c, h1, h2, h3⟩ := sA_ s.2 h
 have e : cS s = c := by unfold cS; rw [h2]; exact Int.toNat_natCast c
 rw [e]
 refine ⟨qj_ (spec_seIndex.mono _ _) hk h2, h1, ?_⟩
 unfold sS
 rw [h3]
 rfl
def qM_ : List Int → List Int → List (List Int)
 | [], _ => []
 | x :: P, l => (l ++ [x]) :: (qM_ P (l ++ [x]) ++ qM_ P l)
theorem qq_ {g : List Int} : ∀ (P l : List Int), g ∈ qM_ P l ↔ ∃ s, s ≠ [] ∧ s.Sublist P ∧ g = l ++ s
 | [], l => by
  simp only [qM_, List.not_mem_nil, List.sublist_nil, false_iff]
  rintro ⟨s, h1, h2, -⟩
  exact h1 h2
 | x :: P, l => by
  simp only [qM_, List.mem_cons, List.mem_append, qq_ P]
  constructor
  ·rintro (h | ⟨s, h1, h2, h3⟩ | ⟨s, h1, h2, h3⟩)
   ·exact ⟨[x], by simp, List.Sublist.cons_cons x (List.nil_sublist P), h⟩
   ·exact ⟨x :: s, by simp, List.Sublist.cons_cons x h2, by rw [h3, List.append_assoc]; rfl⟩
   ·exact ⟨s, h1, List.Sublist.cons x h2, h3⟩
  ·rintro ⟨s, h1, h2, h3⟩
   cases h2 with
   | cons _ h => exact .inr (.inr ⟨s, h1, h, h3⟩)
   | cons_cons _ h =>
    rename_i s'
    by_cases e : s' = []
    ·left; rw [h3, e]
    ·right; left
     exact ⟨s', e, h, by rw [h3, List.append_assoc]; rfl⟩
theorem q3_ : ∀ (P l : List Int), P.Nodup → (qM_ P l).Nodup
 | [], _, _ => by simp [qM_]
 | x :: P, l, h => by
  obtain ⟨h1, h2⟩ := List.nodup_cons.1 h
  simp only [qM_, List.nodup_cons, List.mem_append, qq_]
  refine ⟨?_, ?_⟩
  ·rintro (⟨s, a, b, c⟩ | ⟨s, a, b, c⟩)
   ·exact a (List.append_cancel_left ((List.append_nil _).trans c)).symm
   ·have : [x] = s := List.append_cancel_left c
    rw [← this] at b
    exact h1 (b.subset (by simp))
  ·rw [List.nodup_append]
   refine ⟨q3_ P _ h2, q3_ P _ h2, fun g hg g' hg' e => ?_⟩
   obtain ⟨s, a, b, c⟩ := (qq_ P _).1 hg
   obtain ⟨s', a', b', c'⟩ := (qq_ P _).1 hg'
   rw [c, c', List.append_assoc] at e
   have : [x] ++ s = s' := List.append_cancel_left e
   rw [← this] at b'
   exact h1 (b'.subset (by simp))
theorem qL_ : ∀ (P l : List Int), (qM_ P l).length + 1 = 2 ^ P.length
 | [], _ => rfl
 | x :: P, l => by
  have h1 := qL_ P (l ++ [x])
  have h2 := qL_ P l
  simp only [qM_, List.length_cons, List.length_append, Nat.pow_succ]
  omega
def qk_ (o : List Bool) (t : Bool) : List Int := ((List.range o.length).filter fun i => o.getD i false == t).map fun i : Nat => (i : Int)
theorem rf_ (o : List Bool) (t : Bool) : (qk_ o t).Nodup := by
 unfold qk_
 exact List.Pairwise.map _ (fun (a b : Nat) (h : a ≠ b) (e : (a : Int) = (b : Int)) => h (by omega)) (List.Pairwise.filter _ List.nodup_range)
theorem qn_ (o : List Bool) (t : Bool) : (qk_ o t).length ≤ o.length := by
 unfold qk_
 rw [List.length_map]
 have := List.length_filter_le (fun i => o.getD i false == t) (List.range o.length)
 rwa [List.length_range] at this
theorem mem_hereF {o : List Bool} {t : Bool} {x : Int} : x ∈ qk_ o t ↔ 0 ≤ x ∧ x < (o.length : Int) ∧ o.getD x.toNat false = t := by
 unfold qk_
 simp only [List.mem_map, List.mem_filter, List.mem_range, beq_iff_eq]
 constructor
 ·rintro ⟨i, ⟨h1, h2⟩, rfl⟩
  exact ⟨by omega, by omega, h2⟩
 ·rintro ⟨h1, h2, h3⟩
  exact ⟨x.toNat, ⟨by omega, h3⟩, by omega⟩
def mvO (o : List Bool) (t : Bool) (g : List Int) : List Bool := g.foldl (fun o x => o.set x.toNat (!t)) o
theorem qy_ (t : Bool) : ∀ (g : List Int) (o : List Bool), (mvO o t g).length = o.length
 | [], _ => rfl
 | x :: g, o => by
  show (mvO (o.set x.toNat (!t)) t g).length = _
  rw [qy_ t g, List.length_set]
theorem rd_ (t : Bool) : ∀ (g : List Int) (o : List Bool), (∀ x ∈ g, 0 ≤ x ∧ x < (o.length : Int)) → ∀ i : Nat, i < o.length → (mvO o t g).getD i false = if (i : Int) ∈ g then !t else o.getD i false
 | [], o, _, i, _ => by simp [mvO]
 | x :: g, o, h, i, hi => by
  have hx := h x (by simp)
  show (mvO (o.set x.toNat (!t)) t g).getD i false = _
  rw [rd_ t g _ (fun y hy => by rw [List.length_set]; exact h y (by simp [hy])) i (by rw [List.length_set]; exact hi)]
  have hs : (o.set x.toNat (!t)).getD i false = if (i : Int) = x then !t else o.getD i false := by
   rw [List.getD_eq_getElem?_getD, List.getD_eq_getElem?_getD, List.getElem?_set]
   by_cases e : x.toNat = i
   ·rw [if_pos e, if_pos (by omega), if_pos (by omega)]; rfl
   ·rw [if_neg e, if_neg (by omega)]
  rw [hs]
  by_cases e : (i : Int) ∈ g
  ·rw [if_pos e, if_pos (List.mem_cons_of_mem _ e)]
  ·rw [if_neg e]
   by_cases q : (i : Int) = x
   ·rw [if_pos q, if_pos (by rw [q]; exact List.mem_cons_self)]
   ·rw [if_neg q, if_neg (by simp [q, e])]
theorem r5_ {a b : List Bool} (h : a.length = b.length) (h2 : ∀ i : Nat, i < a.length → a.getD i false = b.getD i false) : a = b := by
 apply List.ext_getElem h
 intro i h3 h4
 have := h2 i h3
 rwa [List.getD_eq_getElem?_getD, List.getD_eq_getElem?_getD, List.getElem?_eq_getElem h3, List.getElem?_eq_getElem h4] at this
theorem rK_ {o : List Bool} {t : Bool} {g : List Int} (h : g.Sublist (qk_ o t)) : mvO (mvO o t g) (!t) g = o ∧ g.Sublist (qk_ (mvO o t g) (!t)) := by
 have hg : ∀ x ∈ g, 0 ≤ x ∧ x < (o.length : Int) ∧ o.getD x.toNat false = t := fun x hx => mem_hereF.1 (h.subset hx)
 have hlen := qy_ t g o
 have hget := rd_ t g o (fun x hx => ⟨(hg x hx).1, (hg x hx).2.1⟩)
 constructor
 ·refine r5_ (by rw [qy_, qy_]) fun i hi => ?_
  rw [qy_, qy_] at hi
  rw [rd_ (!t) g _ (fun x hx => by rw [hlen]; exact ⟨(hg x hx).1, (hg x hx).2.1⟩) i (by rw [hlen]; exact hi), hget i hi]
  by_cases e : (i : Int) ∈ g
  ·rw [if_pos e, Bool.not_not]
   have := (hg _ e).2.2
   rw [Int.toNat_natCast] at this
   exact this.symm
  ·rw [if_neg e, if_neg e]
 ·have h1 : g.Sublist ((List.range o.length).map fun i : Nat => (i : Int)) := h.trans (List.Sublist.map _ List.filter_sublist)
  have h2 := h1.filter fun x => (mvO o t g).getD x.toNat false == !t
  have h3 : g.filter (fun x => (mvO o t g).getD x.toNat false == !t) = g := by
   rw [List.filter_eq_self]
   intro x hx
   have := hg x hx
   rw [hget x.toNat (by omega), if_pos (by rw [Int.toNat_of_nonneg this.1]; exact hx)]
   simp
  rw [h3, List.filter_map] at h2
  unfold qk_
  rw [hlen]
  exact h2
def qP_ (o : List Bool) (t : Bool) (i d : Nat) : List Int := ((List.range' i d).filter fun j => o.getD j false == t).map fun j : Nat => (j : Int)
theorem r7_ (o : List Bool) (t : Bool) : qP_ o t 0 o.length = qk_ o t := by
 unfold qP_ qk_
 rw [List.range_eq_range']
theorem qK_ (o : List Bool) (t : Bool) (i d : Nat) : qP_ o t i (d + 1) = (if (o.getD i false == t) = true then [(i : Int)] else []) ++ qP_ o t (i + 1) d := by
 unfold qP_
 rw [List.range'_succ, List.filter_cons]
 split <;> simp
theorem sf_ {o : List Bool} (t : Bool) (hn : o.length ≤ 8) : ∀ (d k i : Nat) (acc : List Int), i + d = o.length → d < k → acc.length ≤ i → impl_State_side.l0 k t acc o (o.length : Int) (i : Int) = some (acc ++ qP_ o t i d) := by
 intro d
 induction d with
 | zero =>
  intro k i acc hi hk _
  obtain ⟨k, rfl⟩ := qf_ hk
  simp only [impl_State_side.l0]
  rw [if_neg (by omega)]
  simp [qP_]
 | succ d ih =>
  intro k i acc hi hk ha
  obtain ⟨k, rfl⟩ := qf_ hk
  have hlt : i < o.length := by omega
  simp only [impl_State_side.l0]
  rw [if_pos (by omega), if_pos (by omega), if_pos (by omega), qb_ hlt (by omega), qK_, if_pos (by omega : acc.length < 17592186044416)]
  show (if (o.getD i false == t) = true then _ else _) = _
  by_cases e : (o.getD i false == t) = true
  ·rw [if_pos e, if_pos e, ih k (i + 1) _ (by omega) (by omega) (by rw [List.length_append, List.length_singleton]; omega), List.append_assoc]
  ·rw [if_neg e, if_neg e, ih k (i + 1) _ (by omega) (by omega) (by omega)]
   rfl
theorem sg_ {o : List Bool} (b t : Bool) (hn : o.length ≤ 8) {k : Nat} (hk : 20 ≤ k) : impl_State_side.f k o b t = some (qk_ o t) := by
 unfold impl_State_side.f
 rw [show (0 : Int) = ((0 : Nat) : Int) by rfl, sf_ t hn o.length k 0 _ (by omega) (by omega) (Nat.le_refl _), r7_]
 rfl
def InN (n : Nat) (g : List Int) : Prop := ∀ x ∈ g, 0 ≤ x ∧ x < (n : Int)
theorem qO_ (o : List Bool) (t : Bool) : InN o.length (qk_ o t) := fun x hx => ⟨(mem_hereF.1 hx).1, (mem_hereF.1 hx).2.1⟩
def mv (s : List Bool × Bool) (g : List Int) : List Bool × Bool := (mvO s.1 s.2 g, !s.2)
theorem rL_ {g : List Int} {n : Nat} (hg : InN n g) (hn : g.length ≤ 1000000) (b : Bool) : ∀ (d k i : Nat) (o : List Bool), o.length = n → i + d = g.length → d < k → impl_State_moved.l0 k g (g.length : Int) (i : Int) o (!b) = some (mvO o b (g.drop i), !b) := by
 intro d
 induction d with
 | zero =>
  intro k i o ho hi hk
  obtain ⟨k, rfl⟩ := qf_ hk
  simp only [impl_State_moved.l0]
  rw [if_neg (by omega), show i = g.length by omega, List.drop_length]
  rfl
 | succ d ih =>
  intro k i o ho hi hk
  obtain ⟨k, rfl⟩ := qf_ hk
  have hlt : i < g.length := by omega
  have hx : 0 ≤ rd g (i : Int) ∧ rd g (i : Int) < (n : Int) := hg _ (qo_ hlt 0)
  simp only [impl_State_moved.l0]
  rw [if_pos (by omega), if_pos (by omega), if_pos (by omega), if_pos hx.1, if_pos (by omega), qb_ hlt (by omega), qe_ g i hlt 0, ih k (i + 1) _ (by rw [List.length_set]; exact ho) (by omega) (by omega)]
  rfl
theorem rM_ {s : List Bool × Bool} (hn : s.1.length ≤ 8) {g : List Int} (hg : g.Sublist (qk_ s.1 s.2)) {k : Nat} (hk : 20 ≤ k) : impl_State_moved.f k s.1 s.2 g = some (mv s g) := by
 have hlen := hg.length_le
 have hl2 := qn_ s.1 s.2
 unfold impl_State_moved.f slices_Clone_bool_bool.f
 rw [if_pos (by omega), Option.bind_some]
 exact rL_ (n := s.1.length) (fun x hx => qO_ s.1 s.2 x (hg.subset hx)) (by omega) s.2 g.length k 0 s.1 rfl (by omega) (by omega)
theorem rS_ {g : List Int} {o : List Bool} {b : Bool} (hg : ∀ x ∈ g, x ∈ qk_ o b) (hn : g.length ≤ 1000000) : ∀ (d k i : Nat) (y : List Bool), y.length = o.length → i + d = g.length → d < k → spec_paCross.l0 k g (g.length : Int) (i : Int) o b y (!b) = some (mvO y b (g.drop i), !b) := by
 intro d
 induction d with
 | zero =>
  intro k i y hy hi hk
  obtain ⟨k, rfl⟩ := qf_ hk
  simp only [spec_paCross.l0]
  rw [if_neg (by omega), show i = g.length by omega, List.drop_length]
  rfl
 | succ d ih =>
  intro k i y hy hi hk
  obtain ⟨k, rfl⟩ := qf_ hk
  have hlt : i < g.length := by omega
  have hx : 0 ≤ rd g (i : Int) ∧ rd g (i : Int) < (o.length : Int) ∧ rdOf false o (rd g (i : Int)) = b := mem_hereF.1 (hg _ (qo_ hlt 0))
  simp only [spec_paCross.l0]
  rw [if_pos (by omega), if_pos (by omega), if_pos (by omega), if_pos hx.1, if_pos (by omega), if_pos (by omega), qb_ hlt (by omega), qe_ g i hlt 0, ih k (i + 1) _ (by rw [List.length_set]; exact hy) (by omega) (by omega), hx.2.2]
  rfl
theorem qQ_ {s : List Bool × Bool} (hn : s.1.length ≤ 8) {g : List Int} (hg : g.Sublist (qk_ s.1 s.2)) {k : Nat} (hk : 20 ≤ k) : spec_paCross.f k s.1 s.2 g = some (mv s g) := by
 have hlen := hg.length_le
 have hl2 := qn_ s.1 s.2
 unfold spec_paCross.f
 rw [Option.bind_some, List.nil_append, List.length_nil, if_pos (by omega)]
 exact rS_ (fun x hx => hg.subset hx) (by omega) g.length k 0 s.1 rfl (by omega) (by omega)
theorem qr_ (s : List Bool × Bool) (g : List Int) : (mv s g).1.length = s.1.length := qy_ _ _ _
theorem Far.names {A B : Nat → List (Nat × Nat)} {N C s0 : Nat} {d : Nat → Int} (f : Nat → Nat) (h : Far B N (fun v => v = f s0) d) (hA : GrB A N C) (hf : ∀ u, u < N → f u < N) (hi : ∀ u v, u < N → v < N → f u = f v → u = v) (hs : ∀ x, x < N → ∃ u, u < N ∧ f u = x) (h0 : s0 < N)
  (hB : ∀ u, u < N → B (f u) = (A u).map fun e => (f e.1, e.2)) : Far A N (fun v => v = s0) fun v => d (f v) := by
 refine ⟨fun s e => h.st _ (by rw [e]), fun u hu h1 e he => ?_, fun v hv h1 => ?_⟩
 ·exact h.go (f u) (hf u hu) h1 (f e.1, e.2) (by rw [hB u hu]; exact List.mem_map.2 ⟨e, he, rfl⟩)
 ·rcases h.by_ (f v) (hf v hv) h1 with e | ⟨x, hx, hx0, c, hm, e⟩
  ·exact .inl (hi v s0 hv h0 e)
  ·right
   obtain ⟨u, hu, rfl⟩ := hs x hx
   rw [hB u hu] at hm
   obtain ⟨y, hy, hye⟩ := List.mem_map.1 hm
   have e1 : f y.1 = f v := congrArg Prod.fst hye
   have e2 : y.2 = c := congrArg Prod.snd hye
   refine ⟨u, hu, hx0, c, ?_, e⟩
   rw [← hi y.1 v (hA u hu y hy).1 hv e1, ← e2]
   exact hy
theorem Ways.names {A B : Nat → List (Nat × Nat)} {N s0 : Nat} {d w : Nat → Int} (f : Nat → Nat) (h : Ways B N (fun v => v = f s0) d w) (hf : ∀ u, u < N → f u < N) (hi : ∀ u v, u < N → v < N → f u = f v → u = v) (h0 : s0 < N)
  (hB : ∀ u, u < N → B (f u) = (A u).map fun e => (f e.1, e.2)) : Ways A N (fun v => v = s0) (fun v => d (f v)) fun v => w (f v) := by
 refine ⟨fun s e => h.st _ (by rw [e]), fun v hv h1 h2 => ?_⟩
 rw [h.at_ (f v) (hf v hv) h1 (fun e => h2 (hi v s0 hv h0 e)), hB v hv, List.map_map]
 rfl
theorem ro_ {α : Type} [BEq α] [LawfulBEq α] : ∀ {a b : List α}, a.Nodup → b.Nodup → (∀ x, x ∈ a ↔ x ∈ b) → a.Perm b := by
 intro a b ha hb h
 rw [List.perm_iff_count]
 intro x
 rw [ha.count, hb.count]
 by_cases c : x ∈ a
 ·rw [if_pos c, if_pos ((h x).1 c)]
 ·rw [if_neg c, if_neg fun q => c ((h x).2 q)]
def nmS (n c : Nat) : Nat := cS (sI n c)
theorem qW_ {n : Nat} (hn : n ≤ 8) (u : Nat) (hu : u < 2 ^ (n + 1)) : nmS n u < 2 ^ (n + 1) := by
 obtain ⟨-, h2, -⟩ := rc_ hn hu (Nat.le_refl 20)
 have := (qw_ (s := sI n u) (by omega) (Nat.le_refl 20)).2.1
 rwa [h2] at this
theorem r3_ {n : Nat} (hn : n ≤ 8) {u : Nat} (hu : u < 2 ^ (n + 1)) : sS n (nmS n u) = sI n u := by
 obtain ⟨-, h2, -⟩ := rc_ hn hu (Nat.le_refl 20)
 have := (qw_ (s := sI n u) (by omega) (Nat.le_refl 20)).2.2
 rwa [h2] at this
theorem r4_ {n : Nat} (hn : n ≤ 8) (u v : Nat) (hu : u < 2 ^ (n + 1)) (hv : v < 2 ^ (n + 1)) (e : nmS n u = nmS n v) : u = v := by
 have h1 := r3_ hn hu
 have h2 := r3_ hn hv
 rw [e] at h1
 obtain ⟨-, -, e1⟩ := rc_ hn hu (Nat.le_refl 20)
 obtain ⟨-, -, e2⟩ := rc_ hn hv (Nat.le_refl 20)
 rw [← e1, ← e2, ← h1, ← h2]
theorem r2_ {n : Nat} (hn : n ≤ 8) (x : Nat) (hx : x < 2 ^ (n + 1)) : ∃ u, u < 2 ^ (n + 1) ∧ nmS n u = x := by
 obtain ⟨-, h2, h3⟩ := qS_ hn hx (Nat.le_refl 20)
 have h := rW_ (s := sS n x) (by omega) (Nat.le_refl 20)
 refine ⟨cI (sS n x), by have h5 := h.2.1; rwa [h2] at h5, ?_⟩
 unfold nmS
 have h4 := h.2.2
 rw [h2] at h4
 rw [h4, h3]
def dn (l : List Bool) (v : Nat) : Bool := l.getD v false
theorem s0_ {l : List Bool} {u : Nat} (a : Bool) (hu : u < l.length) : dn (l.set u a) = upd (dn l) u a := by
 funext v
 show (l.set u a).getD v false = if v = u then a else l.getD v false
 rw [List.getD_eq_getElem?_getD, List.getD_eq_getElem?_getD, List.getElem?_set]
 by_cases h : v = u
 ·subst h
  simp [hu]
 ·rw [if_neg (fun e => h e.symm), if_neg h]
theorem rC_ {l : List Int} {u : Nat} (a : Int) (hu : u < l.length) : dd (l.set u a) = upd (dd l) u a := by
 funext v
 exact rm_ a hu v
theorem qx_ (l : List Int) (v : Nat) : rd l (v : Int) = dd l v := rfl
def Pk (x7 : List Int) (x9 : List Bool) (i : Nat) (b : Int) : Prop := (b = -1 ∧ ∀ v, v < i → dn x9 v = false → dd x7 v < 0) ∨ ∃ u : Nat, b = (u : Int) ∧ u < i ∧ dn x9 u = false ∧ 0 ≤ dd x7 u ∧ ∀ v, v < i → dn x9 v = false → 0 ≤ dd x7 v → dd x7 u ≤ dd x7 v
theorem qh_ {v i : Nat} (h : v < i + 1) : v < i ∨ v = i := by omega
def QA (A : Nat → List (Nat × Nat)) (done : Nat → Bool) : Nat → List (Nat × Nat) := fun x => if done x = true then A x else []
theorem sd_ {α : Type} (f : Nat → α) (u : Nat) (a b : α) : upd (upd f u a) u b = upd f u b := by
 funext x
 unfold upd
 split <;> rfl
theorem si_ {n : Nat} (h : n ≤ 8) : 2 ^ (n + 1) ≤ 512 := Nat.le_trans (Nat.pow_le_pow_right (by decide) (by omega : n + 1 ≤ 9)) (by decide)
def rD_ (l : List Bool) : Nat := l.countP fun b => b
theorem qR_ : ∀ {l : List Bool} {u : Nat}, u < l.length → dn l u = false → rD_ (l.set u true) = rD_ l + 1
 | [], u, h, _ => by simp at h
 | b :: l, 0, _, h => by
  have hb : b = false := h
  unfold rD_
  rw [List.set_cons_zero, List.countP_cons, List.countP_cons, hb]
  simp
 | b :: l, u + 1, h, h2 => by
  have := qR_ (l := l) (u := u) (by simpa using h) h2
  unfold rD_ at this ⊢
  rw [List.set_cons_succ, List.countP_cons, List.countP_cons, this]
  omega
theorem sr_ (A : Nat → List (Nat × Nat)) (done : Nat → Bool) (u : Nat) (hd : done u = false) : upd (QA A (upd done u true)) u [] = QA A done ∧ upd (QA A (upd done u true)) u (A u) = QA A (upd done u true) := by
 constructor
 ·funext x
  unfold QA upd
  by_cases e : x = u
  ·rw [if_pos e, e, hd]; simp
  ·simp only [if_neg e]
 ·funext x
  unfold QA upd
  by_cases e : x = u
  ·rw [if_pos e, if_pos e, e]; simp
  ·simp only [if_neg e]
def chkF (n : Nat) : Bool := decide (shl .i64 2 (n : Int) = ((2 ^ (n + 1) : Nat) : Int)) && (decide (impl_last.f (n : Int) = some (((2 ^ (n + 1) - 1 : Nat)) : Int)) && (decide (grN n = ((2 ^ (n + 1) : Nat) : Int)) && (decide (sI n (2 ^ (n + 1) - 1) = (List.replicate n true, true)) && decide (sI n 0 = (List.replicate n false, false)))))
set_option maxRecDepth 100000 in
theorem rV_ : ((List.range 9).all chkF) = true := by decide +kernel
theorem sb_ {n : Nat} (h : n ≤ 8) : shl .i64 2 (n : Int) = ((2 ^ (n + 1) : Nat) : Int) ∧ impl_last.f (n : Int) = some (((2 ^ (n + 1) - 1 : Nat)) : Int) ∧ grN n = ((2 ^ (n + 1) : Nat) : Int) ∧ sI n (2 ^ (n + 1) - 1) = (List.replicate n true, true) ∧ sI n 0 = (List.replicate n false, false) := by
 have := List.all_eq_true.1 rV_ n (List.mem_range.2 (by omega))
 unfold chkF at this
 simpa only [Bool.and_eq_true, decide_eq_true_eq] using this
theorem r0_ {n : Nat} (hn : n ≤ 1000000) : ∀ (d k i : Nat), i + d = n → d < k → spec_paLast.l0 k (n : Int) (i : Int) (List.replicate i true) true = some (List.replicate n true, true) := by
 intro d
 induction d with
 | zero =>
  intro k i hi hk
  obtain ⟨k, rfl⟩ := qf_ hk
  simp only [spec_paLast.l0]
  rw [if_neg (by omega), show i = n by omega]
 | succ d ih =>
  intro k i hi hk
  obtain ⟨k, rfl⟩ := qf_ hk
  have hlt : i < n := by omega
  simp only [spec_paLast.l0]
  rw [if_pos (by omega), if_pos (by rw [List.length_replicate]; omega), qb_ hlt (by omega), ← List.replicate_succ']
  exact ih k (i + 1) (by omega) (by omega)
theorem qU_ {ws : List Int} (hn : ws.length ≤ 8) (s : Int) {k : Nat} (hk : 20 ≤ k) : spec_paLast.f k ws s = some (List.replicate ws.length true, true) :=
 r0_ (by omega) ws.length k 0 (by omega) (by omega)
theorem rt_ (n : Nat) : rD_ (List.replicate n false) = 0 := by
 unfold rD_
 rw [List.countP_eq_zero]
 intro x hx
 rw [(List.mem_replicate.1 hx).2]
 decide
theorem rR_ (n : Nat) : dn (List.replicate n false) = fun _ => false := by
 funext v
 show (List.replicate n false).getD v false = false
 rw [List.getD_eq_getElem?_getD, List.getElem?_replicate]
 split <;> rfl
theorem sp_ (n v : Nat) : dd (List.replicate n 0) v = 0 := by
 show (List.replicate n (0 : Int)).getD v 0 = 0
 rw [List.getD_eq_getElem?_getD, List.getElem?_replicate]
 split <;> rfl
theorem ry_ {N C s0 : Nat} {d w : Nat → Int} (hs : s0 < N) (hd : ∀ v, v < N → d v = if v = s0 then 0 else -1) (hw : ∀ v, v < N → w v = if v = s0 then 1 else 0) : Sea (fun _ => []) N C s0 (fun _ => false) d w 0 0 where
 st := by rw [hd s0 hs, if_pos rfl]
 w0 := by rw [hw s0 hs, if_pos rfl]
 low := fun v hv => by rw [hd v hv]; by_cases h : v = s0 <;> simp [h]
 high := fun v hv => by rw [hd v hv]; by_cases h : v = s0 <;> simp [h]
 sub := fun _ _ _ h => by cases h
 off := fun _ _ _ => rfl
 on := fun _ _ h => by cases h
 up := fun v _ _ h => h
 go := fun _ _ _ h => by cases h
 by_ := fun v hv h => by
  rw [hd v hv] at h
  by_cases e : v = s0
  ·exact .inl e
  ·rw [if_neg e] at h; omega
 ways := fun v hv e => by
  rw [hw v hv, if_neg e, qJ_ (fun _ _ _ h => by cases h)]
  exact (qs_ (by omega) (by omega)).symm
theorem Ways.congr {A : Nat → List (Nat × Nat)} {N C : Nat} {S : Nat → Prop} {d d' w : Nat → Int} (hA : GrB A N C) (h : Ways A N S d w) (e : ∀ v, v < N → d v = d' v) : Ways A N S d' w := by
 refine ⟨h.st, fun v hv h0 hs => ?_⟩
 rw [h.at_ v hv (by rw [e v hv]; exact h0) hs]
 refine congrArg (fun l => wrap64 (qg_ l)) (List.map_congr_left fun x hx => ?_)
 rw [e x.1 (hA v hv x hx).1, e v hv]
theorem rr_ {E E' : Int → List S110} {N : Int} (h : ∀ s, 0 ≤ s → s < N → E s = E' s) (k : Nat) (starts : List Int) : impl_graph_int_from.f E k N starts = impl_graph_int_from.f E' k N starts := by
 unfold impl_graph_int_from.f
 simp only [frRun_congr h]
theorem rP_ {g : Int → Option (List S110)} {E : Int → List S110} {N : Nat} (h : ∀ c : Nat, c < N → g (c : Int) = some (E (c : Int))) : grAll g (N : Int) = true ∧ ∀ s, 0 ≤ s → s < (N : Int) → grE g s = E s := by
 constructor
 ·unfold grAll
  rw [Int.toNat_natCast, List.all_eq_true]
  intro c hc
  rw [h c (List.mem_range.1 hc)]
  rfl
 ·intro s h0 h1
  obtain ⟨c, rfl⟩ : ∃ c : Nat, s = (c : Int) := ⟨s.toNat, by omega⟩
  unfold grE
  rw [h c (by omega)]
  rfl
theorem qI_ {ws : List Int} (hn : ws.length ≤ 8) (s : Int) : spec_paFirst.f ws s = some (List.replicate ws.length false, false) := by
 unfold spec_paFirst.f
 rw [if_pos (by omega), if_pos (by omega), Int.toNat_natCast]
def qi_ (m : Nat) : List Int → List Int → List (List Int)
 | [], _ => []
 | x :: P, l => if l.length < m then (l ++ [x]) :: (qi_ m P (l ++ [x]) ++ qi_ m P l) else []
theorem q0_ (m : Nat) : ∀ (P l : List Int), (qi_ m P l).Sublist (qM_ P l)
 | [], _ => List.Sublist.refl _
 | x :: P, l => by
  unfold qi_ qM_
  split
  ·exact List.Sublist.cons_cons _ (List.Sublist.append (q0_ m P _) (q0_ m P _))
  ·exact List.nil_sublist _
theorem qG_ {m : Nat} (P : List Int) {l : List Int} (h : ¬ l.length < m) : qi_ m P l = [] := by
 cases P with
 | nil => rfl
 | cons x P => exact if_neg h
theorem qX_ {g : List Int} (m : Nat) : ∀ (P l : List Int), g ∈ qi_ m P l ↔ g ∈ qM_ P l ∧ g.length ≤ m
 | [], l => by simp [qi_, qM_]
 | x :: P, l => by
  by_cases h : l.length < m
  ·unfold qi_
   rw [if_pos h]
   simp only [qM_, List.mem_cons, List.mem_append, qX_ m P]
   constructor
   ·rintro (e | e | e)
    ·exact ⟨.inl e, by rw [e, List.length_append, List.length_singleton]; omega⟩
    ·exact ⟨.inr (.inl e.1), e.2⟩
    ·exact ⟨.inr (.inr e.1), e.2⟩
   ·rintro ⟨e | e | e, q⟩
    ·exact .inl e
    ·exact .inr (.inl ⟨e, q⟩)
    ·exact .inr (.inr ⟨e, q⟩)
  ·rw [qG_ _ h]
   constructor
   ·intro e; cases e
   ·rintro ⟨e, q⟩
    obtain ⟨s, h1, -, h3⟩ := (qq_ _ _).1 e
    rw [h3, List.length_append] at q
    have := List.length_pos_iff.2 h1
    omega
theorem q9_ (m : Nat) (P l : List Int) : (qi_ m P l).length + 1 ≤ 2 ^ P.length := by
 have h1 := qL_ P l
 have h2 := (q0_ m P l).length_le
 omega
theorem rh_ {α : Type} {st : List Int → List α → Option (List α)} {F : List Int → α} (m : Nat) : ∀ (P l : List Int) (acc : List α), (∀ g ∈ qM_ P l, ∀ a : List α, a.length < 1000000 → st g a = some (a ++ [F g])) → acc.length + 2 ^ P.length ≤ 1000000 →
  gOn st (m : Int) P l acc = some (acc ++ (qi_ m P l).map F)
 | [], l, acc, _, _ => by simp [gOn, qi_]
 | x :: P, l, acc, H, hacc => by
  rw [List.length_cons, Nat.pow_succ] at hacc
  have hpos : 0 < 2 ^ P.length := Nat.pow_pos (by omega)
  unfold gOn qi_
  by_cases hm : l.length < m
  ·rw [if_pos (by omega), if_pos hm, H (l ++ [x]) (by simp [qM_]) acc (by omega), Option.bind_some]
   have h2 := q9_ m P (l ++ [x])
   rw [rh_ m P (l ++ [x]) _ (fun g hg => H g (by simp [qM_, hg])) (by rw [List.length_append, List.length_singleton]; omega), Option.bind_some,
    rh_ m P l _ (fun g hg => H g (by simp [qM_, hg])) (by rw [List.length_append, List.length_append, List.length_map, List.length_singleton]; omega)]
   simp
  ·rw [if_neg (by omega), if_neg hm]
   simp
theorem rp_ {x0 : List Int} (h0 : x0.length ≤ 8) (m : Nat) : ∀ (d : Nat), (∀ (k i : Nat) (l : List Int) (acc : List (List Int)), i + d = x0.length → 3 * d + 1 ≤ k → l.length < m → l.length + d ≤ x0.length → acc.length + 2 ^ d ≤ 1000000 → spec_paGroups.l0 k x0 l (m : Int) acc (i : Int) = some (acc ++ qi_ m (x0.drop i) l)) ∧
  ∀ (k i : Nat) (l : List Int), i + d = x0.length → 3 * d + 3 ≤ k → l.length ≤ m → l.length + d ≤ x0.length → spec_paGroups.f k x0 l (i : Int) (m : Int) = some ((if (l.length : Int) > 0 then [l] else []) ++ qi_ m (x0.drop i) l) := by
 have J : ∀ (d : Nat), (∀ (k i : Nat) (l : List Int) (acc : List (List Int)), i + d = x0.length → 3 * d + 1 ≤ k → l.length < m → l.length + d ≤ x0.length → acc.length + 2 ^ d ≤ 1000000 → spec_paGroups.l0 k x0 l (m : Int) acc (i : Int) = some (acc ++ qi_ m (x0.drop i) l)) →
   ∀ (k i : Nat) (l : List Int), i + d = x0.length → 3 * d + 3 ≤ k → l.length ≤ m → l.length + d ≤ x0.length → spec_paGroups.f k x0 l (i : Int) (m : Int) = some ((if (l.length : Int) > 0 then [l] else []) ++ qi_ m (x0.drop i) l) := by
  intro d A k i l hi hk hm hl
  have hd8 : 2 ^ d ≤ 2 ^ 8 := Nat.pow_le_pow_right (by decide) (by omega)
  obtain ⟨k, rfl⟩ := qf_ (d := 0) (by omega : 0 < k)
  obtain ⟨k, rfl⟩ := qf_ (d := 0) (by omega : 0 < k)
  have hj : ∀ acc : List (List Int), acc.length ≤ 1 → spec_paGroups.j0 (k + 1) x0 l (i : Int) (m : Int) acc = some (acc ++ qi_ m (x0.drop i) l) := by
   intro acc ha
   simp only [spec_paGroups.j0]
   by_cases e : l.length < m
   ·rw [if_neg (by omega), A k i l acc hi (by omega) e (by omega) (by omega)]
   ·rw [if_pos (by omega), qG_ _ e, List.append_nil]
  rw [spec_paGroups.f.eq_2]
  unfold spec_l1Own.f
  by_cases e : (l.length : Int) > 0
  ·rw [if_pos e, if_pos e]
   simp only [Option.bind_some, List.nil_append, List.length_nil, List.length_singleton]
   rw [if_pos (by omega), Option.bind_some, if_pos (by omega)]
   exact hj [l] (by simp)
  ·rw [if_neg e, if_neg e]
   exact hj [] (by simp)
 intro d
 induction d with
 | zero =>
  have A : ∀ (k i : Nat) (l : List Int) (acc : List (List Int)), i + 0 = x0.length → 3 * 0 + 1 ≤ k → l.length < m → l.length + 0 ≤ x0.length → acc.length + 2 ^ 0 ≤ 1000000 → spec_paGroups.l0 k x0 l (m : Int) acc (i : Int) = some (acc ++ qi_ m (x0.drop i) l) := by
   intro k i l acc hi hk hm hl ha
   obtain ⟨k, rfl⟩ := qf_ (d := 0) (by omega : 0 < k)
   simp only [spec_paGroups.l0]
   rw [if_neg (by omega), show i = x0.length by omega, List.drop_length]
   simp [qi_]
  exact ⟨A, J 0 A⟩
 | succ d ih =>
  have A : ∀ (k i : Nat) (l : List Int) (acc : List (List Int)), i + (d + 1) = x0.length → 3 * (d + 1) + 1 ≤ k → l.length < m → l.length + (d + 1) ≤ x0.length → acc.length + 2 ^ (d + 1) ≤ 1000000 → spec_paGroups.l0 k x0 l (m : Int) acc (i : Int) = some (acc ++ qi_ m (x0.drop i) l) := by
   intro k i l acc hi hk hm hl ha
   obtain ⟨k, rfl⟩ := qf_ (d := 0) (by omega : 0 < k)
   have hlt : i < x0.length := by omega
   have e2 : 2 ^ (d + 1) = 2 ^ d + 2 ^ d := by rw [Nat.pow_succ]; omega
   have hsl := q9_ m (x0.drop (i + 1)) (l ++ [rd x0 (i : Int)])
   rw [List.length_drop, show x0.length - (i + 1) = d by omega] at hsl
   have hd8 : 2 ^ d ≤ 2 ^ 8 := Nat.pow_le_pow_right (by decide) (by omega)
   simp only [spec_paGroups.l0]
   unfold spec_l1Own.f
   rw [if_pos (by omega)]
   simp only [Option.bind_some, List.nil_append, List.length_nil, List.length_singleton]
   rw [if_pos (by omega), Option.bind_some, if_pos (by omega), if_pos (by omega), qb_ hlt (by omega),
    ih.2 k (i + 1) (l ++ [rd x0 (i : Int)]) (by omega) (by omega) (by rw [List.length_append, List.length_singleton]; omega) (by rw [List.length_append, List.length_singleton]; omega), Option.bind_some,
    if_pos (by rw [List.length_append, List.length_singleton]; omega : ((l ++ [rd x0 (i : Int)]).length : Int) > 0)]
   rw [if_pos (by rw [List.length_append, List.length_singleton]; omega)]
   rw [ih.1 k (i + 1) l _ (by omega) (by omega) hm (by omega) (by rw [List.length_append, List.length_append, List.length_singleton]; omega)]
   rw [qe_ x0 i hlt 0]
   show some (acc ++ ([l ++ [rd x0 (i : Int)]] ++ qi_ m (x0.drop (i + 1)) (l ++ [rd x0 (i : Int)])) ++ qi_ m (x0.drop (i + 1)) l) = some (acc ++ qi_ m (rd x0 (i : Int) :: x0.drop (i + 1)) l)
   rw [show qi_ m (rd x0 (i : Int) :: x0.drop (i + 1)) l = (l ++ [rd x0 (i : Int)]) :: (qi_ m (x0.drop (i + 1)) (l ++ [rd x0 (i : Int)]) ++ qi_ m (x0.drop (i + 1)) l) from if_pos hm]
   simp
  exact ⟨A, J (d + 1) A⟩
def qa_ (m : Nat) (s : List Bool × Bool) : List (List Int) := qi_ m (qk_ s.1 s.2) []
theorem rG_ (ts : List Int) {o : List Bool} (t : Bool) (hn : o.length ≤ 8) {m : Nat} : ∀ (d k i : Nat) (acc : List Int), i + d = o.length → d + 40 ≤ k → acc.length ≤ i → acc ++ qP_ o t i d = qk_ o t → spec_paTrips.l0 k acc o (o.length : Int) (i : Int) ts (m : Int) o t = some (qa_ m (o, t)) := by
 intro d
 induction d with
 | zero =>
  intro k i acc hi hk _ he
  obtain ⟨k, rfl⟩ := qf_ (d := 0) (by omega : 0 < k)
  have hl := qn_ o t
  simp only [spec_paTrips.l0]
  have ha : acc = qk_ o t := by rw [← he]; simp [qP_]
  have hg := (rp_ (x0 := qk_ o t) (by omega) m (qk_ o t).length).2 k 0 [] (by omega) (by omega) (by simp) (by simp)
  rw [show ((0 : Nat) : Int) = 0 by rfl] at hg
  rw [if_neg (by omega), ha, hg, Option.bind_some, if_neg (by simp), List.nil_append, List.drop_zero]
  rfl
 | succ d ih =>
  intro k i acc hi hk ha he
  obtain ⟨k, rfl⟩ := qf_ (d := 0) (by omega : 0 < k)
  have hlt : i < o.length := by omega
  rw [qK_] at he
  simp only [spec_paTrips.l0]
  rw [if_pos (by omega), if_pos (by omega), if_pos (by omega), qb_ hlt (by omega), if_pos (by omega : acc.length < 17592186044416)]
  show (if (o.getD i false == t) = true then _ else _) = _
  by_cases e : (o.getD i false == t) = true
  ·rw [if_pos e] at he ⊢
   exact ih k (i + 1) _ (by omega) (by omega) (by rw [List.length_append, List.length_singleton]; omega) (by rw [List.append_assoc]; exact he)
  ·rw [if_neg e] at he ⊢
   exact ih k (i + 1) _ (by omega) (by omega) (by omega) he
theorem qH_ (ts : List Int) (m : Nat) {s : List Bool × Bool} (hn : s.1.length ≤ 8) {k : Nat} (hk : 60 ≤ k) : spec_paTrips.f k ts (m : Int) s.1 s.2 = some (qa_ m s) :=
 rG_ ts s.2 hn s.1.length k 0 [] (by omega) (by omega) (Nat.le_refl _) (by rw [List.nil_append, r7_])
theorem mem_trips {m : Nat} {s : List Bool × Bool} {g : List Int} : g ∈ qa_ m s ↔ g ≠ [] ∧ g.Sublist (qk_ s.1 s.2) ∧ g.length ≤ m := by
 unfold qa_
 rw [qX_, qq_]
 constructor
 ·rintro ⟨⟨u, h1, h2, h3⟩, h4⟩
  rw [List.nil_append] at h3
  rw [← h3] at h1 h2
  exact ⟨h1, h2, h4⟩
 ·rintro ⟨h1, h2, h3⟩
  exact ⟨⟨g, h1, h2, rfl⟩, h3⟩
theorem qm_ {m : Nat} {s : List Bool × Bool} (h : s.1.length ≤ 8) : (qa_ m s).length ≤ 255 := by
 have h1 := q9_ m (qk_ s.1 s.2) []
 have h2 : 2 ^ (qk_ s.1 s.2).length ≤ 2 ^ 8 := Nat.pow_le_pow_right (by decide) (Nat.le_trans (qn_ _ _) h)
 unfold qa_
 omega
theorem q8_ (m : Nat) (s : List Bool × Bool) : (qa_ m s).Nodup := (q3_ _ _ (rf_ _ _)).sublist (q0_ _ _ _)
theorem rn_ {m : Nat} {s : List Bool × Bool} {g : List Int} (h : g ∈ qa_ m s) : g ∈ qa_ m (mv s g) ∧ mv (mv s g) g = s := by
 obtain ⟨a, b, c⟩ := mem_trips.1 h
 obtain ⟨h1, h2⟩ := rK_ b
 refine ⟨mem_trips.2 ⟨a, h2, c⟩, ?_⟩
 show (mvO (mvO s.1 s.2 g) (!s.2) g, !(!s.2)) = s
 rw [h1, Bool.not_not]
def tmX (ts : List Int) (g : List Int) (a : Int) : Int := g.foldl (fun a x => mx a (rd ts x)) a
theorem r6_ (a b : Int) : spec_l1Most.f a b = some (mx a b) := by
 unfold spec_l1Most.f mx
 by_cases h : a > b
 ·rw [if_pos h, if_neg (by omega)]
 ·rw [if_neg h]
  by_cases e : a < b
  ·rw [if_pos e]
  ·rw [if_neg e, show a = b by omega]
theorem se_ {ts : List Int} (se : Int) {g : List Int} (hg : InN ts.length g) (hn : g.length ≤ 1000000) : ∀ (d k i : Nat) (a : Int), i + d = g.length → d < k → impl_slowest.l0 k ts a g (g.length : Int) (i : Int) = some (tmX ts (g.drop i) a) ∧ spec_paTime.l0 k a g (g.length : Int) (i : Int) ts se = some (tmX ts (g.drop i) a) := by
 intro d
 induction d with
 | zero =>
  intro k i a hi hk
  obtain ⟨k, rfl⟩ := qf_ hk
  simp only [impl_slowest.l0, spec_paTime.l0]
  rw [if_neg (by omega), if_neg (by omega), show i = g.length by omega, List.drop_length]
  exact ⟨rfl, rfl⟩
 | succ d ih =>
  intro k i a hi hk
  obtain ⟨k, rfl⟩ := qf_ hk
  have hlt : i < g.length := by omega
  have hx : 0 ≤ rd g (i : Int) ∧ rd g (i : Int) < (ts.length : Int) := hg _ (qo_ hlt 0)
  have hi2 := ih k (i + 1) (mx a (rd ts (rd g (i : Int)))) (by omega) (by omega)
  simp only [impl_slowest.l0, spec_paTime.l0, r6_, Option.bind_some]
  rw [qb_ hlt (by omega), qe_ g i hlt 0]
  constructor
  ·rw [if_pos (by omega), if_pos (by omega), if_pos (by omega), if_pos hx.1, if_pos hx.2]
   exact hi2.1
  ·rw [if_pos (by omega), if_pos (by omega), if_pos (by omega), if_pos hx.1, if_pos hx.2]
   exact hi2.2
theorem rb_ {ts : List Int} (se : Int) {g : List Int} (hg : InN ts.length g) (hn : g.length ≤ 8) {k : Nat} (hk : 20 ≤ k) : impl_slowest.f k ts g = some (tmX ts g 0) ∧ spec_paTime.f k ts se g = some (tmX ts g 0) :=
 se_ se hg (by omega) g.length k 0 0 (by omega) (by omega)
theorem rZ_ (ts : List Int) : ∀ (g : List Int) (a : Int), a ≤ tmX ts g a ∧ ∀ x ∈ g, rd ts x ≤ tmX ts g a
 | [], a => ⟨Int.le_refl _, fun _ h => by cases h⟩
 | x :: g, a => by
  have h := rZ_ ts g (mx a (rd ts x))
  have h1 : a ≤ mx a (rd ts x) ∧ rd ts x ≤ mx a (rd ts x) := by
   unfold mx
   by_cases e : a < rd ts x
   ·rw [if_pos e]; omega
   ·rw [if_neg e]; omega
  refine ⟨Int.le_trans h1.1 h.1, fun y hy => ?_⟩
  rcases List.mem_cons.1 hy with e | e
  ·rw [e]; exact Int.le_trans h1.2 h.1
  ·exact h.2 y e
theorem rY_ (ts : List Int) {C : Int} : ∀ (g : List Int) (a : Int), a ≤ C → (∀ x ∈ g, rd ts x ≤ C) → tmX ts g a ≤ C
 | [], a, h, _ => h
 | x :: g, a, h, hg => by
  refine rY_ ts g (mx a (rd ts x)) ?_ fun y hy => hg y (by simp [hy])
  have := hg x (by simp)
  unfold mx
  split <;> omega
structure PtQ (ts : List Int) : Prop where
 n : ts.length ≤ 8
 c : ∀ x ∈ ts, 1 ≤ x ∧ x ≤ 1000
theorem PtQ.tm {ts : List Int} (h : PtQ ts) {g : List Int} (hg : InN ts.length g) (h0 : g ≠ []) : 1 ≤ tmX ts g 0 ∧ tmX ts g 0 ≤ 1000 := by
 have hr : ∀ x ∈ g, 1 ≤ rd ts x ∧ rd ts x ≤ 1000 := by
  intro x hx
  have := hg x hx
  exact h.c _ (qo_ (i := x.toNat) (by omega) 0)
 obtain ⟨y, hy⟩ := List.exists_mem_of_ne_nil g h0
 have h1 := (rZ_ ts g 0).2 y hy
 have h2 := hr y hy
 exact ⟨by omega, rY_ ts g 0 (by omega) fun x hx => (hr x hx).2⟩
def edT (ts : List Int) (m : Nat) (c : Int) : List S110 := (qa_ m (sI ts.length c.toNat)).map fun g => ⟨(cI (mv (sI ts.length c.toNat) g) : Int), tmX ts g 0, g⟩
def edU (ts : List Int) (m : Nat) (u : Nat) : List (Nat × Nat) := (qa_ m (sS ts.length u)).map fun g => (cS (mv (sS ts.length u) g), (tmX ts g 0).toNat)
theorem q2_ {m : Nat} {s : List Bool × Bool} {g : List Int} (h : g ∈ qa_ m s) : InN s.1.length g ∧ g ≠ [] ∧ g.length ≤ s.1.length := by
 obtain ⟨a, b, -⟩ := mem_trips.1 h
 exact ⟨fun x hx => qO_ s.1 s.2 x (b.subset hx), a, Nat.le_trans b.length_le (qn_ _ _)⟩
theorem sw_ {ts : List Int} (hq : PtQ ts) (m : Nat) {k : Nat} (hk : 20 ≤ k) {c : Nat} (hc : c < 2 ^ (ts.length + 1)) : ptG k ts (m : Int) (c : Int) = some (edT ts m (c : Int)) := by
 have hn := hq.n
 obtain ⟨h1, h2, -⟩ := rc_ hn hc hk
 have hP := qn_ (sI ts.length c).1 (sI ts.length c).2
 have hp : 2 ^ (qk_ (sI ts.length c).1 (sI ts.length c).2).length ≤ 2 ^ 8 := Nat.pow_le_pow_right (by decide) (by omega)
 unfold ptG
 rw [h1, Option.bind_some, sg_ _ _ (by omega) (by omega), Option.bind_some, if_pos (by omega), rh_ (F := fun g => (⟨(cI (mv (sI ts.length c) g) : Int), tmX ts g 0, g⟩ : S110)) m _ _ _ ?_ (by simp only [List.length_nil]; omega), List.nil_append]
 ·rfl
 ·intro g hg a ha
  obtain ⟨s, e1, e2, e3⟩ := (qq_ _ _).1 hg
  rw [List.nil_append] at e3
  rw [← e3] at e2
  have hin : InN ts.length g := fun x hx => by rw [← h2]; exact qO_ _ _ x (e2.subset hx)
  have hgl : g.length ≤ 8 := by have := e2.length_le; omega
  unfold ptSt
  rw [(rb_ 0 hin hgl hk).1, Option.bind_some, rM_ (by omega) e2 hk, Option.bind_some, (rW_ (s := mv (sI ts.length c) g) (by rw [qr_]; omega) hk).1, Option.bind_some, if_pos ha]
theorem sz_ {ts : List Int} (hq : PtQ ts) (m : Nat) : GrI (edT ts m) (2 ^ (ts.length + 1)) 1000 255 := by
 intro u hu
 have hn := hq.n
 obtain ⟨-, h2, -⟩ := rc_ hn hu (Nat.le_refl 20)
 unfold edT
 rw [Int.toNat_natCast, List.length_map]
 refine ⟨qm_ (by omega), fun e he => ?_⟩
 obtain ⟨g, hg, rfl⟩ := List.mem_map.1 he
 obtain ⟨a, b, -⟩ := q2_ hg
 rw [h2] at a
 have h3 := hq.tm a b
 have := (rW_ (s := mv (sI ts.length u) g) (by rw [qr_]; omega) (Nat.le_refl 20)).2.1
 rw [qr_, h2] at this
 simp only
 omega
theorem rl_ {ts : List Int} (hq : PtQ ts) (m : Nat) : GrB (edU ts m) (2 ^ (ts.length + 1)) 1000 := by
 intro u hu e he
 have hn := hq.n
 obtain ⟨-, h2, -⟩ := qS_ hn hu (Nat.le_refl 20)
 obtain ⟨g, hg, rfl⟩ := List.mem_map.1 he
 obtain ⟨a, b, -⟩ := q2_ hg
 rw [h2] at a
 have h3 := hq.tm a b
 have h1 := (qw_ (s := mv (sS ts.length u) g) (by rw [qr_]; omega) (Nat.le_refl 20)).2.1
 rw [qr_, h2] at h1
 simp only
 omega
theorem q7_ {ts : List Int} (hq : PtQ ts) (m : Nat) : s7_ (edU ts m) (2 ^ (ts.length + 1)) := by
 intro u v hu hv f
 have hn := hq.n
 have key : ∀ (u v : Nat), u < 2 ^ (ts.length + 1) → v < 2 ^ (ts.length + 1) → ∀ g, g ∈ qa_ m (sS ts.length u) → cS (mv (sS ts.length u) g) = v → g ∈ qa_ m (sS ts.length v) ∧ cS (mv (sS ts.length v) g) = u := by
  intro u v hu hv g hg e
  obtain ⟨-, u1, u2⟩ := qS_ hn hu (Nat.le_refl 20)
  have h3 := (qw_ (s := mv (sS ts.length u) g) (by rw [qr_]; omega) (Nat.le_refl 20)).2.2
  rw [qr_, u1, e] at h3
  obtain ⟨b1, b2⟩ := rn_ hg
  rw [h3]
  exact ⟨b1, by rw [b2, u2]⟩
 have hsum : ∀ (u v : Nat), qg_ ((edU ts m u).map fun e => if e.1 = v then f e.2 else 0) = qg_ (((qa_ m (sS ts.length u)).filter fun g => decide (cS (mv (sS ts.length u) g) = v)).map fun g => f (tmX ts g 0).toNat) := by
  intro u v
  unfold edU
  rw [List.map_map, ql_]
  refine congrArg qg_ (List.map_congr_left fun g _ => ?_)
  simp only [Function.comp_apply, decide_eq_true_eq]
 rw [hsum u v, hsum v u]
 refine rx_ (List.Perm.map _ (ro_ (List.Pairwise.filter _ (q8_ _ _)) (List.Pairwise.filter _ (q8_ _ _)) fun g => ?_))
 simp only [List.mem_filter, decide_eq_true_eq]
 exact ⟨fun h => key u v hu hv g h.1 h.2, fun h => key v u hv hu g h.1 h.2⟩
theorem ra_ {ts : List Int} (hq : PtQ ts) (m : Nat) (u : Nat) (hu : u < 2 ^ (ts.length + 1)) : edU ts m (nmS ts.length u) = (Aof (edT ts m) u).map fun e => (nmS ts.length e.1, e.2) := by
 have hn := hq.n
 obtain ⟨-, h2, -⟩ := rc_ hn hu (Nat.le_refl 20)
 unfold edU Aof edT
 rw [r3_ hn hu, Int.toNat_natCast, List.map_map, List.map_map]
 refine List.map_congr_left fun g _ => ?_
 have h3 := (rW_ (s := mv (sI ts.length u) g) (by rw [qr_]; omega) (Nat.le_refl 20)).2.2
 rw [qr_, h2] at h3
 simp only [Function.comp_apply, Int.toNat_natCast]
 unfold nmS
 rw [h3]
theorem rz_ (ts : List Int) (se : Int) {N : Nat} (hN : N ≤ 1000000) {x7 : List Int} {x9 : List Bool} (h7 : x7.length = N) (h9 : x9.length = N) : ∀ (d i : Nat) (b : Int), i + d = N → Pk x7 x9 i b → ∃ b', Pk x7 x9 N b' ∧ ∀ K, spec_seFar.l2 (K + 1 + d) x7 x9 b x7 (x7.length : Int) (i : Int) ts se = spec_seFar.l2 (K + 1) x7 x9 b' x7 (x7.length : Int) (x7.length : Int) ts se := by
 intro d
 induction d with
 | zero =>
  intro i b hi hb
  refine ⟨b, by rw [← hi]; exact hb, fun K => ?_⟩
  rw [show i = x7.length by omega]
 | succ d ih =>
  intro i b hi hb
  have hlt : i < x7.length := by omega
  have step : ∀ K, spec_seFar.l2 (K + 1 + (d + 1)) x7 x9 b x7 (x7.length : Int) (i : Int) ts se = if dn x9 i = true then spec_seFar.l2 (K + 1 + d) x7 x9 b x7 (x7.length : Int) ((i + 1 : Nat) : Int) ts se else (if dd x7 i ≥ 0 then (if b < 0 then spec_seFar.l2 (K + 1 + d) x7 x9 (i : Int) x7 (x7.length : Int) ((i + 1 : Nat) : Int) ts se else (if 0 ≤ b then (if b < (x7.length : Int) then (if dd x7 i < rd x7 b then spec_seFar.l2 (K + 1 + d) x7 x9 (i : Int) x7 (x7.length : Int) ((i + 1 : Nat) : Int) ts se else spec_seFar.l2 (K + 1 + d) x7 x9 b x7 (x7.length : Int) ((i + 1 : Nat) : Int) ts se) else none) else none)) else spec_seFar.l2 (K + 1 + d) x7 x9 b x7 (x7.length : Int) ((i + 1 : Nat) : Int) ts se) := by
   intro K
   rw [show K + 1 + (d + 1) = (K + 1 + d) + 1 by omega, spec_seFar.l2.eq_2, if_pos (by omega), if_pos (by omega), if_pos (by omega), if_pos (by omega), qb_ hlt (by omega)]
   rfl
  simp only [step]
  have keep : ∀ (hskip : dn x9 i = true ∨ dd x7 i < 0), Pk x7 x9 (i + 1) b := by
   intro hskip
   rcases hb with ⟨e, h⟩ | ⟨u, e, hu, h1, h2, h3⟩
   ·refine .inl ⟨e, fun v hv hq => ?_⟩
    rcases qh_ hv with q | q
    ·exact h v q hq
    ·rw [q] at hq ⊢
     rcases hskip with z | z
     ·rw [z] at hq; cases hq
     ·exact z
   ·refine .inr ⟨u, e, by omega, h1, h2, fun v hv hq h0 => ?_⟩
    rcases qh_ hv with q | q
    ·exact h3 v q hq h0
    ·rw [q] at hq h0
     rcases hskip with z | z
     ·rw [z] at hq; cases hq
     ·omega
  by_cases c1 : dn x9 i = true
  ·simp only [if_pos c1]
   exact ih (i + 1) b (by omega) (keep (.inl c1))
  ·simp only [if_neg c1]
   have c1' : dn x9 i = false := by simpa using c1
   by_cases c2 : dd x7 i ≥ 0
   ·simp only [if_pos c2]
    rcases hb with ⟨e, h⟩ | ⟨u, e, hu, h1, h2, h3⟩
    ·simp only [if_pos (by omega : b < 0)]
     refine ih (i + 1) (i : Int) (by omega) (.inr ⟨i, rfl, by omega, c1', c2, fun v hv hq h0 => ?_⟩)
     rcases qh_ hv with q | q
     ·have := h v q hq; omega
     ·rw [q]; exact Int.le_refl _
    ·subst e
     simp only [if_neg (by omega : ¬ (u : Int) < 0), if_pos (by omega : (0 : Int) ≤ (u : Int)), if_pos (by omega : (u : Int) < (x7.length : Int)), qx_]
     by_cases c3 : dd x7 i < dd x7 u
     ·simp only [c3, if_true]
      refine ih (i + 1) (i : Int) (by omega) (.inr ⟨i, rfl, by omega, c1', c2, fun v hv hq h0 => ?_⟩)
      rcases qh_ hv with q | q
      ·have := h3 v q hq h0; omega
      ·rw [q]; exact Int.le_refl _
     ·simp only [c3, if_false]
      refine ih (i + 1) (u : Int) (by omega) (.inr ⟨u, rfl, by omega, h1, h2, fun v hv hq h0 => ?_⟩)
      rcases qh_ hv with q | q
      ·exact h3 v q hq h0
      ·rw [q]; omega
   ·simp only [if_neg c2]
    exact ih (i + 1) b (by omega) (keep (.inr (by omega)))
theorem sj_ {ts : List Int} (hq : PtQ ts) (m : Nat) {x9 : List Bool} {s0 j u : Nat} {md : Int} (hu : u < 2 ^ (ts.length + 1)) (hd : dn x9 u = true) (hj : md + ((1000 : Nat) : Int) ≤ ((1000 * j : Nat) : Int)) (hj2 : j ≤ 512) : ∀ (d i : Nat) (x7 : List Int) (w : Nat → Int), i + d = (qa_ m (sS ts.length u)).length → x7.length = 2 ^ (ts.length + 1) → dd x7 u = md →
  Sea (upd (QA (edU ts m) (dn x9)) u ((edU ts m u).take i)) (2 ^ (ts.length + 1)) 1000 s0 (dn x9) (dd x7) w md j →
  ∃ x7' w', x7'.length = 2 ^ (ts.length + 1) ∧ Sea (upd (QA (edU ts m) (dn x9)) u (edU ts m u)) (2 ^ (ts.length + 1)) 1000 s0 (dn x9) (dd x7') w' md j ∧ ∀ K, 20 ≤ K →
   spec_seFar.l3 (K + 1 + d) x7 x9 (u : Int) (qa_ m (sS ts.length u)) ((qa_ m (sS ts.length u)).length : Int) (i : Int) ts (m : Int) (sS ts.length u).1 (sS ts.length u).2 = spec_seFar.l1 K x7' x9 ts (m : Int) := by
 intro d
 induction d with
 | zero =>
  intro i x7 w hi h7 hm h
  have hl : (edU ts m u).length = (qa_ m (sS ts.length u)).length := by unfold edU; rw [List.length_map]
  refine ⟨x7, w, h7, ?_, fun K hK => ?_⟩
  ·rw [List.take_of_length_le (by omega)] at h; exact h
  ·rw [show K + 1 + 0 = K + 1 by omega, spec_seFar.l3.eq_2, if_neg (by omega)]
 | succ d ih =>
  intro i x7 w hi h7 hm h
  have hn := hq.n
  obtain ⟨-, s1, -⟩ := qS_ hn hu (Nat.le_refl 20)
  have hR := qm_ (m := m) (s := sS ts.length u) (by omega)
  have hlt : i < (qa_ m (sS ts.length u)).length := by omega
  have hle : i < (edU ts m u).length := by unfold edU; rw [List.length_map]; exact hlt
  have hgm : rd_L2 (qa_ m (sS ts.length u)) (i : Int) ∈ qa_ m (sS ts.length u) := qo_ hlt []
  obtain ⟨g, hg⟩ : ∃ g, g = rd_L2 (qa_ m (sS ts.length u)) (i : Int) := ⟨_, rfl⟩
  rw [← hg] at hgm
  obtain ⟨gi, gne, gl⟩ := q2_ hgm
  rw [s1] at gi gl
  have hmv : (mv (sS ts.length u) g).1.length = ts.length := (qr_ _ _).trans s1
  have hc1 := hq.tm gi gne
  obtain ⟨c, hc⟩ : ∃ c, c = (tmX ts g 0).toNat := ⟨_, rfl⟩
  have hcc : tmX ts g 0 = (c : Int) := by omega
  obtain ⟨t, htt⟩ : ∃ t, t = cS (mv (sS ts.length u) g) := ⟨_, rfl⟩
  have ht := (qw_ (s := mv (sS ts.length u) g) (by rw [hmv]; exact hn) (Nat.le_refl 20)).2.1
  rw [hmv, ← htt] at ht
  have hN := si_ hn
  have hu0 : 0 ≤ dd x7 u := (h.on u hu hd).1
  have hhi := h.high u hu
  have e9 : (edU ts m u).take (i + 1) = (edU ts m u).take i ++ [(t, c)] := by
   rw [qv_ _ i hle (0, 0)]
   congr 2
   unfold edU
   rw [rg_ _ _ i hlt []]
   rw [htt, hc, hg]
   rfl
  rw [← hm] at h
  obtain ⟨hS, hSu⟩ := h.edge hu hd ht (by omega) (by omega : c ≤ 1000) (by rw [hm]; exact hj)
  rw [qc_, sd_, ← e9] at hS
  obtain ⟨y7, hy⟩ : ∃ y7, y7 = if dd x7 t < 0 ∨ dd x7 u + (c : Int) < dd x7 t then x7.set t (dd x7 u + (c : Int)) else x7 := ⟨_, rfl⟩
  have l7 : y7.length = 2 ^ (ts.length + 1) := by rw [hy]; split <;> simp [h7]
  have e7 : dd y7 = sh_ (dd x7) u t c := by
   rw [hy]
   unfold sh_
   split
   ·exact rC_ _ (by omega)
   ·rfl
  rw [← e7] at hS hSu
  rw [hSu, hm] at hS
  obtain ⟨z7, w', k7, hZ, eZ⟩ := ih (i + 1) y7 _ (by omega) l7 (hSu.trans hm) hS
  refine ⟨z7, w', k7, hZ, fun K hK => ?_⟩
  rw [← eZ K hK]
  have hw : wrap64 (dd x7 u + (c : Int)) = dd x7 u + (c : Int) := qs_ (by omega) (by omega)
  rw [show K + 1 + (d + 1) = (K + 1 + d) + 1 by omega, spec_seFar.l3.eq_2, if_pos (by omega), if_pos (by omega), if_pos (by omega), ← hg, qQ_ (by omega) (mem_trips.1 hgm).2.1 (by omega), Option.bind_some, (qw_ (s := mv (sS ts.length u) g) (by rw [hmv]; exact hn) (by omega : 20 ≤ K + 1 + d)).1, Option.bind_some,
   ← htt, if_pos (by omega), if_pos (by omega), (rb_ (m : Int) gi (by omega) (by omega)).2, Option.bind_some, if_pos (by omega), if_pos (by omega), qx_ x7 u, qx_ x7 t, hcc, hw, qb_ hlt (by omega), Int.toNat_natCast]
  by_cases q1 : dd x7 t < 0
  ·rw [if_pos q1, hy, if_pos (.inl q1)]
  ·rw [if_neg q1]
   by_cases q2 : dd x7 u + (c : Int) < dd x7 t
   ·rw [if_pos q2, hy, if_pos (.inr q2)]
   ·rw [if_neg q2, hy, if_neg (fun e => e.elim q1 q2)]
theorem sk_ {ts : List Int} (hq : PtQ ts) (m : Nat) {s0 : Nat} (hs : s0 < 2 ^ (ts.length + 1)) : ∀ (a : Nat) (x7 : List Int) (x9 : List Bool) (w : Nat → Int) (md : Int), 2 ^ (ts.length + 1) - rD_ x9 ≤ a → x7.length = 2 ^ (ts.length + 1) → x9.length = 2 ^ (ts.length + 1) →
  Sea (QA (edU ts m) (dn x9)) (2 ^ (ts.length + 1)) 1000 s0 (dn x9) (dd x7) w md (rD_ x9) →
  ∃ k z7, spec_seFar.l1 k x7 x9 ts (m : Int) = some z7 ∧ z7.length = 2 ^ (ts.length + 1) ∧ Far (edU ts m) (2 ^ (ts.length + 1)) (fun v => v = s0) (dd z7) ∧ ∀ v, v < 2 ^ (ts.length + 1) → -1 ≤ dd z7 v := by
 intro a
 induction a with
 | zero =>
  intro x7 x9 w md ha h7 h9 h
  have hN := si_ hq.n
  have hno : ∀ v, v < 2 ^ (ts.length + 1) → dn x9 v = false → False := by
   intro v hv hn
   have h1 := qR_ (l := x9) (u := v) (by omega) hn
   have h2 : rD_ (x9.set v true) ≤ (x9.set v true).length := List.countP_le_length
   rw [List.length_set] at h2
   omega
  obtain ⟨b', hb', eb⟩ := rz_ ts (m : Int) (N := 2 ^ (ts.length + 1)) (by omega) (x7 := x7) (x9 := x9) h7 h9 (2 ^ (ts.length + 1)) 0 (-1) (by omega) (.inl ⟨rfl, fun v hv => by omega⟩)
  rcases hb' with ⟨e, -⟩ | ⟨u, e, hu, h1, -⟩
  ·refine ⟨0 + 1 + 2 ^ (ts.length + 1) + 1, x7, ?_, h7, (h.end_ hs (rl_ hq m) (q7_ hq m) (fun x hx hd => if_pos hd) fun v hv hn => (hno v hv hn).elim).1, h.low⟩
   rw [spec_seFar.l1.eq_2]
   refine (eb 0).trans ?_
   rw [spec_seFar.l2.eq_2, if_neg (by omega), if_pos (by omega)]
  ·exact (hno u hu h1).elim
 | succ a ih =>
  intro x7 x9 w md ha h7 h9 h
  have hn := hq.n
  have hN := si_ hn
  obtain ⟨b', hb', eb⟩ := rz_ ts (m : Int) (N := 2 ^ (ts.length + 1)) (by omega) (x7 := x7) (x9 := x9) h7 h9 (2 ^ (ts.length + 1)) 0 (-1) (by omega) (.inl ⟨rfl, fun v hv => by omega⟩)
  rcases hb' with ⟨e, hno⟩ | ⟨u, e, hu, h1, h2, h3⟩
  ·refine ⟨0 + 1 + 2 ^ (ts.length + 1) + 1, x7, ?_, h7, (h.end_ hs (rl_ hq m) (q7_ hq m) (fun x hx hd => if_pos hd) hno).1, h.low⟩
   rw [spec_seFar.l1.eq_2]
   refine (eb 0).trans ?_
   rw [spec_seFar.l2.eq_2, if_neg (by omega), if_pos (by omega)]
  ·obtain ⟨hS, hj, hQ⟩ := h.pick hu h1 h2 h3
   have hc := qR_ (l := x9) (u := u) (by omega) h1
   have hcl : rD_ (x9.set u true) ≤ (x9.set u true).length := List.countP_le_length
   rw [List.length_set] at hcl
   obtain ⟨q1, q2⟩ := sr_ (edU ts m) (dn x9) u h1
   have hdn := s0_ (l := x9) (u := u) true (by omega)
   rw [← hc, ← hdn] at hS
   rw [← hdn] at q1 q2
   rw [← q1] at hS
   rw [← hc] at hj
   have hs1 := (qS_ hn hu (Nat.le_refl 20)).2.1
   have hR := qm_ (m := m) (s := sS ts.length u) (by omega)
   obtain ⟨y7, w', l7, hS2, e3⟩ := sj_ hq m (x9 := x9.set u true) (s0 := s0) (j := rD_ (x9.set u true)) (u := u) (md := dd x7 u) hu (by rw [hdn, qc_]) hj (by omega) (qa_ m (sS ts.length u)).length 0 x7 w (by omega) h7 rfl (by rw [List.take_zero]; exact hS)
   rw [q2] at hS2
   obtain ⟨k, z7, hr, hz⟩ := ih y7 (x9.set u true) w' (dd x7 u) (by omega) l7 (by rw [List.length_set]; exact h9) hS2
   have hr2 : spec_seFar.l1 (k + 400) y7 (x9.set u true) ts (m : Int) = some z7 := qj_ (f := fun k => spec_seFar.l1 k y7 (x9.set u true) ts (m : Int)) (fun k => (spec_seFar.mono_l k).2.1 _ _ _ _) (by omega) hr
   have e4 := e3 (k + 400) (by omega)
   refine ⟨(k + 400 + 1 + (qa_ m (sS ts.length u)).length) + 1 + 2 ^ (ts.length + 1) + 1, z7, ?_, hz⟩
   rw [spec_seFar.l1.eq_2]
   refine (eb _).trans ?_
   rw [e, spec_seFar.l2.eq_2, if_neg (by omega), if_neg (by omega), if_pos (by omega), if_pos (by omega), (qS_ hn hu (by omega)).1, Option.bind_some, qH_ ts m (by omega) (by omega), Option.bind_some, Int.toNat_natCast]
   exact e4.trans hr2
theorem sl_ (ts : List Int) (se : Int) (o : List Bool) (t : Bool) {N : Nat} (hN : N ≤ 1000000) (x9 : List Bool) : ∀ (d i : Nat) (x7 : List Int), i + d = N → x7.length = N → (∀ v, v < i → dd x7 v = -1) → ∃ z7, z7.length = N ∧ (∀ v, v < N → dd z7 v = -1) ∧ ∀ K, spec_seFar.l0 (K + 1 + d) x7 x9 (N : Int) (i : Int) ts se o t = spec_seFar.l0 (K + 1) z7 x9 (N : Int) (N : Int) ts se o t := by
 intro d
 induction d with
 | zero =>
  intro i x7 hi h7 h
  refine ⟨x7, h7, fun v hv => h v (by omega), fun K => ?_⟩
  rw [show i = N by omega]
 | succ d ih =>
  intro i x7 hi h7 h
  obtain ⟨z7, a, b, c⟩ := ih (i + 1) (x7.set i (-1)) (by omega) (by rw [List.length_set]; exact h7) (fun v hv => by
   rw [rm_ _ (by omega)]
   split
   ·rfl
   ·exact h v (by omega))
  refine ⟨z7, a, b, fun K => ?_⟩
  rw [← c K, show K + 1 + (d + 1) = (K + 1 + d) + 1 by omega, spec_seFar.l0.eq_2, if_pos (by omega), if_pos (by omega), if_pos (by omega), qb_ (by omega : i < N) (by omega), Int.toNat_natCast]
theorem sa_ {ts : List Int} (hq : PtQ ts) (m : Nat) {s : List Bool × Bool} (hl : s.1.length = ts.length) : ∃ k z7, spec_seFar.f k ts (m : Int) s.1 s.2 = some z7 ∧ z7.length = 2 ^ (ts.length + 1) ∧ Far (edU ts m) (2 ^ (ts.length + 1)) (fun v => v = cS s) (dd z7) ∧ ∀ v, v < 2 ^ (ts.length + 1) → -1 ≤ dd z7 v := by
 have hn := hq.n
 have hN := si_ hn
 obtain ⟨f1, -, -, -, -⟩ := sb_ hn
 have hc := qw_ (s := s) (by omega) (Nat.le_refl 20)
 have hs := hc.2.1
 rw [hl] at hs
 obtain ⟨y7, a, b, c⟩ := sl_ ts (m : Int) s.1 s.2 (N := 2 ^ (ts.length + 1)) (by omega) (List.replicate (2 ^ (ts.length + 1)) false) (2 ^ (ts.length + 1)) 0 (List.replicate (2 ^ (ts.length + 1)) 0) (by omega) (by simp) (fun v hv => by omega)
 obtain ⟨k, z7, hr, hz⟩ := sk_ hq m hs (2 ^ (ts.length + 1)) (y7.set (cS s) 0) (List.replicate (2 ^ (ts.length + 1)) false) (fun v => if v = cS s then 1 else 0) 0 (by omega) (by rw [List.length_set]; exact a) (by simp) (by
  rw [rt_, rR_]
  have e : QA (edU ts m) (fun _ => false) = fun _ => [] := by funext x; unfold QA; simp
  rw [e]
  refine ry_ hs (fun v hv => ?_) (fun v hv => rfl)
  rw [rm_ _ (by omega), b v hv])
 have hr2 := qj_ (f := fun k => spec_seFar.l1 k (y7.set (cS s) 0) (List.replicate (2 ^ (ts.length + 1)) false) ts (m : Int)) (fun k => (spec_seFar.mono_l k).2.1 _ _ _ _) (by omega : k ≤ k + 400) hr
 refine ⟨k + 400 + 1 + 2 ^ (ts.length + 1), z7, ?_, hz⟩
 unfold spec_seFar.f
 rw [f1, if_pos (by omega), Int.toNat_natCast, if_pos (by omega), Option.bind_some, List.length_replicate, if_pos (by omega), Int.toNat_natCast, if_pos (by omega)]
 refine (c (k + 400)).trans ?_
 rw [spec_seFar.l0.eq_2, if_neg (by omega), (qw_ (s := s) (by omega) (by omega : 20 ≤ k + 400)).1, Option.bind_some, if_pos (by omega), if_pos (by omega), Int.toNat_natCast]
 exact hr2
theorem rk_ {A : Nat → List (Nat × Nat)} {N C a b : Nat} (hA : GrB A N C) (hB : s7_ A N) {d e : Nat → Int} (h : Far A N (fun v => v = a) d) (h' : Far A N (fun v => v = b) e) : ∀ (n v : Nat), v < N → 0 ≤ d v → d v ≤ (n : Int) → 0 ≤ e v → 0 ≤ e a := by
 intro n
 induction n with
 | zero =>
  intro v hv h0 hn he
  rcases h.by_ v hv h0 with q | ⟨u, hu, hu0, c, hc, q⟩
  ·rw [← q]; exact he
  ·have := (hA u hu _ hc).2.1
   simp only at this
   omega
 | succ n ih =>
  intro v hv h0 hn he
  rcases h.by_ v hv h0 with q | ⟨u, hu, hu0, c, hc, q⟩
  ·rw [← q]; exact he
  ·have h1 := (hA u hu _ hc).2.1
   simp only at h1
   refine ih u hu hu0 (by omega) ?_
   have hb := hB u v hu hv fun _ => 1
   have hpos : ∀ l : List (Nat × Nat), (v, c) ∈ l → 0 < qg_ (l.map fun e => if e.1 = v then (1 : Int) else 0) := by
    intro l hl
    have hnn : ∀ l : List (Nat × Nat), 0 ≤ qg_ (l.map fun e => if e.1 = v then (1 : Int) else 0) := by
     intro l
     induction l with
     | nil => exact Int.le_refl _
     | cons x l ih => simp only [List.map_cons, qg_]; split <;> omega
    induction l with
    | nil => cases hl
    | cons x l ih =>
     simp only [List.map_cons, qg_]
     rcases List.mem_cons.1 hl with e | e
     ·rw [← e, if_pos rfl]
      have := hnn l
      omega
     ·have := ih e
      split <;> omega
   have hp := hpos _ hc
   rw [hb] at hp
   have hex : ∃ x ∈ A v, x.1 = u := by
    by_cases q : ∃ x ∈ A v, x.1 = u
    ·exact q
    ·rw [qt_ _ fun x hx => if_neg fun e => q ⟨x, hx, e⟩] at hp
     omega
   obtain ⟨x, hx, rfl⟩ := hex
   exact (h'.go v hv he x hx).1
structure Ord (D : List Int) (i : Nat) (L : List Int) : Prop where
 mem : ∀ x, x ∈ L ↔ ∃ u : Nat, x = (u : Int) ∧ u < i ∧ 0 ≤ dd D u
 nd : L.Nodup
 so : L.Pairwise fun x y => dd D x.toNat ≤ dd D y.toNat
 len : L.length ≤ i
theorem Ord.skip {D : List Int} {i : Nat} {L : List Int} (h : Ord D i L) (h0 : ¬ 0 ≤ dd D i) : Ord D (i + 1) L := by
 refine ⟨fun x => ?_, h.nd, h.so, by have := h.len; omega⟩
 rw [h.mem x]
 constructor
 ·rintro ⟨u, e, hu, hd⟩
  exact ⟨u, e, by omega, hd⟩
 ·rintro ⟨u, e, hu, hd⟩
  refine ⟨u, e, ?_, hd⟩
  by_cases q : u = i
  ·rw [q] at hd; exact absurd hd h0
  ·omega
theorem Ord.put {D : List Int} {i : Nat} {L : List Int} (h : Ord D i L) (h0 : 0 ≤ dd D i) {j : Nat} (h1 : ∀ x ∈ L.take j, dd D x.toNat ≤ dd D i) (h2 : ∀ x ∈ L.drop j, dd D i ≤ dd D x.toNat) : Ord D (i + 1) ((L.take j ++ [(i : Int)]) ++ L.drop j) := by
 have hp : ((L.take j ++ [(i : Int)]) ++ L.drop j).Perm ((i : Int) :: L) := by
  rw [List.append_assoc, List.singleton_append]
  refine List.perm_middle.trans ?_
  rw [List.take_append_drop]
 refine ⟨fun x => ?_, ?_, ?_, by rw [hp.length_eq, List.length_cons]; have := h.len; omega⟩
 ·rw [hp.mem_iff, List.mem_cons, h.mem x]
  constructor
  ·rintro (e | ⟨u, e, hu, hd⟩)
   ·exact ⟨i, e, by omega, h0⟩
   ·exact ⟨u, e, by omega, hd⟩
  ·rintro ⟨u, e, hu, hd⟩
   by_cases q : u = i
   ·left; rw [e, q]
   ·exact .inr ⟨u, e, by omega, hd⟩
 ·rw [hp.nodup_iff, List.nodup_cons]
  refine ⟨fun hm => ?_, h.nd⟩
  obtain ⟨u, e, hu, -⟩ := (h.mem _).1 hm
  omega
 ·have hs := h.so
  rw [← List.take_append_drop j L, List.pairwise_append] at hs
  rw [List.pairwise_append, List.pairwise_append]
  refine ⟨⟨hs.1, List.pairwise_singleton _ _, fun x hx y hy => ?_⟩, hs.2.1, fun x hx y hy => ?_⟩
  ·rw [List.mem_singleton.1 hy, Int.toNat_natCast]
   exact h1 x hx
  ·rcases List.mem_append.1 hx with q | q
   ·exact hs.2.2 x q y hy
   ·rw [List.mem_singleton.1 q, Int.toNat_natCast]
    exact h2 y hy
theorem sx_ {D : List Int} {n i : Nat} (hn : n ≤ 100000) (hD : D.length = n) (hi : i < n) {L : List Int} (h : Ord D i L) (h0 : 0 ≤ dd D i) : ∀ (j : Nat), j ≤ L.length → (∀ x ∈ L.drop j, dd D i ≤ dd D x.toNat) →
  ∃ c L', Ord D (i + 1) L' ∧ ∀ K, spec_seOrder.l1 (K + 1 + c) D L (i : Int) (dd D i) (j : Int) D (n : Int) (i : Int) = spec_seOrder.l0 K D L' D (n : Int) ((i + 1 : Nat) : Int) := by
 have hlen := h.len
 have fin : ∀ j : Nat, j ≤ L.length → ∀ K, (if (0 : Int) ≤ (j : Int) then (if (j : Int) ≤ (L.length : Int) then ((spec_l1Own.f (L.take (j : Int).toNat)).bind fun t304 => (if t304.length < 17592186044416 then ((some (t304 ++ [(i : Int)] : List Int)).bind fun y307 => ((some (L.drop (j : Int).toNat : List Int)).bind fun y310 => (if y307.length + y310.length < 17592186044416 then (spec_seOrder.l0 K D (y307 ++ y310) D (n : Int) (wrap64 ((i : Int) + 1))) else (none)))) else (none))) else (none)) else (none)) = spec_seOrder.l0 K D ((L.take j ++ [(i : Int)]) ++ L.drop j) D (n : Int) ((i + 1 : Nat) : Int) := by
  intro j hj K
  unfold spec_l1Own.f
  have ht : (L.take j).length ≤ L.length := by rw [List.length_take]; omega
  rw [if_pos (by omega), if_pos (by omega), Int.toNat_natCast, Option.bind_some, List.nil_append, if_pos (by simp only [List.length_nil]; omega), Option.bind_some, if_pos (by omega), Option.bind_some, Option.bind_some, if_pos (by rw [List.length_append, List.length_singleton, List.length_drop]; omega), qb_ hi (by omega)]
 intro j
 induction j with
 | zero =>
  intro hj h2
  refine ⟨0, (L.take 0 ++ [(i : Int)]) ++ L.drop 0, h.put h0 (fun x hx => by simp at hx) h2, fun K => ?_⟩
  rw [← fin 0 (by omega) K, show K + 1 + 0 = K + 1 from rfl]
  simp only [spec_seOrder.l1]
  rw [if_neg (by omega)]
 | succ j ih =>
  intro hj h2
  have hlt : j < L.length := by omega
  have hx := qo_ hlt (0 : Int)
  obtain ⟨u, e, hu, hd⟩ := (h.mem _).1 hx
  have e2 : rd L (j : Int) = (u : Int) := e
  have hw : wrap64 (((j + 1 : Nat) : Int) - 1) = (j : Int) := by rw [qs_ (by omega) (by omega)]; omega
  by_cases c : dd D i < dd D u
  ·obtain ⟨c1, L', h3, h4⟩ := ih (by omega) (fun x hx => by
    rw [qe_ L j hlt 0] at hx
    rcases List.mem_cons.1 hx with q | q
    ·rw [q]
     show dd D i ≤ dd D (L.getD j 0).toNat
     rw [show L.getD j 0 = (u : Int) from e, Int.toNat_natCast]
     omega
    ·exact h2 x q)
   refine ⟨c1 + 1, L', h3, fun K => ?_⟩
   rw [← h4 K, show K + 1 + (c1 + 1) = (K + 1 + c1) + 1 by omega]
   simp only [spec_seOrder.l1, hw, e2]
   rw [if_pos (by omega), if_pos (by omega), if_pos (by omega), if_pos (by omega), if_pos (by omega), if_pos (by rw [qx_]; exact c)]
  ·refine ⟨0, (L.take (j + 1) ++ [(i : Int)]) ++ L.drop (j + 1), h.put h0 (fun x hx => ?_) h2, fun K => ?_⟩
   ·rw [qv_ L j hlt 0] at hx
    have hju : dd D (L.getD j 0).toNat ≤ dd D i := by
     rw [show L.getD j 0 = (u : Int) from e, Int.toNat_natCast]
     omega
    rcases List.mem_append.1 hx with q | q
    ·have hs := h.so
     rw [← List.take_append_drop j L, qe_ L j hlt 0, List.pairwise_append] at hs
     exact Int.le_trans (hs.2.2 x q _ List.mem_cons_self) hju
    ·rw [List.mem_singleton.1 q]; exact hju
   ·rw [← fin (j + 1) (by omega) K, show K + 1 + 0 = K + 1 from rfl]
    simp only [spec_seOrder.l1, hw, e2]
    rw [if_pos (by omega), if_pos (by omega), if_pos (by omega), if_pos (by omega), if_pos (by omega), if_neg (by rw [qx_]; exact c)]
theorem sy_ {D : List Int} {n : Nat} (hn : n ≤ 100000) (hD : D.length = n) : ∀ (d i : Nat) (L : List Int), i + d = n → Ord D i L → ∃ k L', Ord D n L' ∧ spec_seOrder.l0 k D L D (n : Int) (i : Int) = some L' := by
 intro d
 induction d with
 | zero =>
  intro i L hi h
  refine ⟨1, L, by rw [show n = i by omega]; exact h, ?_⟩
  simp only [spec_seOrder.l0]
  rw [if_neg (by omega)]
 | succ d ih =>
  intro i L hi h
  by_cases c : 0 ≤ dd D i
  ·obtain ⟨c1, L1, h1, h2⟩ := sx_ hn hD (by omega) h c L.length (Nat.le_refl _) (fun x hx => by rw [List.drop_length] at hx; cases hx)
   obtain ⟨k, L', h3, h4⟩ := ih (i + 1) L1 (by omega) h1
   refine ⟨(k + 1 + c1) + 1, L', h3, ?_⟩
   simp only [spec_seOrder.l0]
   rw [if_pos (by omega), if_pos (by omega), if_pos (by omega), qx_, if_neg (by omega)]
   exact (h2 k).trans h4
  ·obtain ⟨k, L', h3, h4⟩ := ih (i + 1) L (by omega) (h.skip c)
   refine ⟨k + 1, L', h3, ?_⟩
   simp only [spec_seOrder.l0]
   rw [if_pos (by omega), if_pos (by omega), if_pos (by omega), qx_, if_pos (by omega), qb_ (by omega : i < n) (by omega)]
   exact h4
def nxt (ts : List Int) (D : List Int) (s : List Bool × Bool) (g : List Int) : Bool := decide (0 ≤ dd D (cS (mv s g))) && decide (dd D (cS (mv s g)) + tmX ts g 0 = dd D (cS s))
structure PtD (ts : List Int) (D : List Int) : Prop where
 l : D.length = 2 ^ (ts.length + 1)
 hi : ∀ v, v < 2 ^ (ts.length + 1) → dd D v ≤ 1000000
theorem sm_ {ts : List Int} (hq : PtQ ts) (m : Nat) {D : List Int} (hD : PtD ts D) {s : List Bool × Bool} (hs : s.1.length = ts.length) : ∀ (d k i : Nat) (acc : List (List Int)), i + d = (qa_ m s).length → d + 60 ≤ k → acc.length ≤ i →
  spec_seNext.l0 k D acc (qa_ m s) ((qa_ m s).length : Int) (i : Int) ts (m : Int) s.1 s.2 = some (acc ++ ((qa_ m s).drop i).filter (nxt ts D s)) := by
 have hn := hq.n
 have hR := qm_ (m := m) (s := s) (by omega)
 have hD1 := hD.l
 have hc := qw_ (s := s) (by omega) (Nat.le_refl 20)
 rw [hs] at hc
 intro d
 induction d with
 | zero =>
  intro k i acc hi hk ha
  obtain ⟨k, rfl⟩ := qf_ (d := 0) (by omega : 0 < k)
  simp only [spec_seNext.l0]
  rw [if_neg (by omega), show i = (qa_ m s).length by omega, List.drop_length]
  simp
 | succ d ih =>
  intro k i acc hi hk ha
  obtain ⟨k, rfl⟩ := qf_ (d := 0) (by omega : 0 < k)
  have hlt : i < (qa_ m s).length := by omega
  have hgm : rd_L2 (qa_ m s) (i : Int) ∈ qa_ m s := qo_ hlt []
  have hgd : (qa_ m s).drop i = rd_L2 (qa_ m s) (i : Int) :: (qa_ m s).drop (i + 1) := qe_ _ i hlt []
  obtain ⟨g, hg⟩ : ∃ g, g = rd_L2 (qa_ m s) (i : Int) := ⟨_, rfl⟩
  rw [← hg] at hgm hgd
  obtain ⟨gi, gne, gl⟩ := q2_ hgm
  rw [hs] at gi gl
  have hmv : (mv s g).1.length = ts.length := (qr_ _ _).trans hs
  have ht := (qw_ (s := mv s g) (by rw [hmv]; exact hn) (Nat.le_refl 20)).2.1
  rw [hmv] at ht
  have htm := hq.tm gi gne
  have h1 := hD.hi _ ht
  simp only [spec_seNext.l0]
  rw [if_pos (by omega), if_pos (by omega), if_pos (by omega), ← hg, qQ_ (by omega) (mem_trips.1 hgm).2.1 (by omega), Option.bind_some, (qw_ (s := mv s g) (by rw [hmv]; exact hn) (by omega : 20 ≤ k)).1, Option.bind_some, if_pos (by omega), if_pos (by omega), qx_, qb_ hlt (by omega), hgd, List.filter_cons]
  by_cases c1 : 0 ≤ dd D (cS (mv s g))
  ·rw [if_pos (by omega), (rb_ (m : Int) gi (by omega) (by omega)).2, Option.bind_some, (qw_ (s := s) (by omega) (by omega : 20 ≤ k)).1, Option.bind_some, if_pos (by omega), if_pos (by omega), qx_, qs_ (by omega) (by omega)]
   by_cases c2 : dd D (cS (mv s g)) + tmX ts g 0 = dd D (cS s)
   ·have hb : nxt ts D s g = true := by unfold nxt; rw [decide_eq_true c1, decide_eq_true c2]; rfl
    rw [if_pos c2, if_pos (by omega), ih k (i + 1) _ (by omega) (by omega) (by rw [List.length_append, List.length_singleton]; omega), if_pos hb, List.append_assoc]
    rfl
   ·have hb : nxt ts D s g = false := by unfold nxt; rw [decide_eq_false c2, Bool.and_false]
    rw [if_neg c2, ih k (i + 1) _ (by omega) (by omega) (by omega), hb, if_neg (by decide)]
  ·have hb : nxt ts D s g = false := by unfold nxt; rw [decide_eq_false c1]; rfl
   rw [if_neg (by omega), ih k (i + 1) _ (by omega) (by omega) (by omega), hb, if_neg (by decide)]
theorem sn_ {ts : List Int} (hq : PtQ ts) (m : Nat) {D : List Int} (hD : PtD ts D) {s : List Bool × Bool} (hs : s.1.length = ts.length) {k : Nat} (hk : 400 ≤ k) : spec_seNext.f k ts (m : Int) D s.1 s.2 = some ((qa_ m s).filter (nxt ts D s)) := by
 have hn := hq.n
 have hR := qm_ (m := m) (s := s) (by omega)
 unfold spec_seNext.f
 rw [qH_ ts m (by omega) (by omega), Option.bind_some]
 have h := sm_ hq m hD hs (qa_ m s).length k 0 [] (by omega) (by omega) (Nat.le_refl _)
 rw [List.drop_zero, List.nil_append] at h
 exact h
theorem s1_ {ts : List Int} (hq : PtQ ts) (m : Nat) {D L : List Int} {n2 i v : Nat} (hi : i < 1000000) {s : List Bool × Bool} (hs : s.1.length = ts.length) (hv : v < 2 ^ (ts.length + 1)) {G : List (List Int)} (hG : ∀ g ∈ G, g ∈ qa_ m s ∧ cS (mv s g) ≠ v) (hGl : G.length ≤ 255) : ∀ (d j : Nat) (x5 x6 : List Int), j + d = G.length → x5.length = 2 ^ (ts.length + 1) → x6.length = 2 ^ (ts.length + 1) → wrap64 (dd x5 v) = dd x5 v →
  ∃ x5' x6', x5'.length = 2 ^ (ts.length + 1) ∧ x6'.length = 2 ^ (ts.length + 1) ∧ dd x5' v = wrap64 (dd x5 v + qg_ ((G.drop j).map fun g => dd x5 (cS (mv s g)))) ∧ (∀ u, u ≠ v → dd x5' u = dd x5 u) ∧
   ∀ K, 20 ≤ K → spec_seCount.l1 (K + 1 + d) D x5 x6 (v : Int) L (n2 : Int) (i : Int) G (G.length : Int) (j : Int) ts (m : Int) s.1 s.2 = spec_seCount.l0 K D x5' x6' L (n2 : Int) ((i + 1 : Nat) : Int) ts (m : Int) := by
 have hn := hq.n
 have hN := si_ hn
 intro d
 induction d with
 | zero =>
  intro j x5 x6 hj h5 h6 hw
  refine ⟨x5, x6, h5, h6, ?_, fun _ _ => rfl, fun K hK => ?_⟩
  ·rw [show j = G.length by omega, List.drop_length, List.map_nil]
   simp only [qg_, Int.add_zero]
   exact hw.symm
  ·rw [show K + 1 + 0 = K + 1 from rfl]
   simp only [spec_seCount.l1]
   rw [if_neg (by omega), qb_ (by omega : i < 1000000) (by omega)]
 | succ d ih =>
  intro j x5 x6 hj h5 h6 hw
  have hlt : j < G.length := by omega
  have hgm : rd_L2 G (j : Int) ∈ G := qo_ hlt []
  have hgd : G.drop j = rd_L2 G (j : Int) :: G.drop (j + 1) := qe_ _ j hlt []
  obtain ⟨g, hg⟩ : ∃ g, g = rd_L2 G (j : Int) := ⟨_, rfl⟩
  rw [← hg] at hgm hgd
  obtain ⟨hgt, hne⟩ := hG g hgm
  have hmv : (mv s g).1.length = ts.length := (qr_ _ _).trans hs
  have ht := (qw_ (s := mv s g) (by rw [hmv]; exact hn) (Nat.le_refl 20)).2.1
  rw [hmv] at ht
  obtain ⟨t, htt⟩ : ∃ t, t = cS (mv s g) := ⟨_, rfl⟩
  rw [← htt] at ht hne
  have ww : ∀ a : Int, wrap64 (wrap64 a) = wrap64 a := fun a => by
   have := qz_ a 0
   rwa [Int.add_zero, Int.add_zero] at this
  obtain ⟨y6, hy6, l6⟩ : ∃ y6, y6 = (if rd x6 (v : Int) = 0 then x6.set v (wrap64 (rd x6 (t : Int) + 1)) else if wrap64 (rd x6 (t : Int) + 1) < rd x6 (v : Int) then x6.set v (wrap64 (rd x6 (t : Int) + 1)) else x6) ∧ y6.length = 2 ^ (ts.length + 1) := by
   refine ⟨_, rfl, ?_⟩
   split
   ·rw [List.length_set]; exact h6
   ·split
    ·rw [List.length_set]; exact h6
    ·exact h6
  have e5 := rC_ (l := x5) (u := v) (wrap64 (dd x5 v + dd x5 t)) (by omega)
  obtain ⟨z5, z6, k5, k6, hz, ho, hr⟩ := ih (j + 1) (x5.set v (wrap64 (dd x5 v + dd x5 t))) y6 (by omega) (by rw [List.length_set]; exact h5) l6 (by rw [e5, qc_]; exact ww _)
  refine ⟨z5, z6, k5, k6, ?_, fun u hu => by rw [ho u hu, e5, qd_ _ _ hu], fun K hK => ?_⟩
  ·rw [hz, e5, qc_, hgd, List.map_cons]
   simp only [qg_]
   rw [qz_, ← htt, Int.add_assoc]
   congr 3
   refine congrArg qg_ (List.map_congr_left fun x hx => ?_)
   have := hG x (List.mem_of_mem_drop hx)
   exact qd_ _ _ this.2
  ·rw [← hr K hK, show K + 1 + (d + 1) = (K + 1 + d) + 1 by omega]
   simp only [spec_seCount.l1]
   rw [if_pos (by omega), if_pos (by omega), if_pos (by omega), ← hg, qQ_ (by omega) (mem_trips.1 hgt).2.1 (by omega), Option.bind_some, (qw_ (s := mv s g) (by rw [hmv]; exact hn) (by omega : 20 ≤ K + 1 + d)).1, Option.bind_some, ← htt,
    if_pos (by omega), if_pos (by omega), if_pos (by omega), if_pos (by omega), Option.bind_some, if_pos (by omega), Int.toNat_natCast, qx_ x5 v, qx_ x5 t, qb_ hlt (by omega), hy6]
   by_cases q1 : rd x6 (v : Int) = 0
   ·rw [if_pos q1, if_pos q1, if_pos (by omega)]
   ·rw [if_neg q1, if_neg q1, if_pos (by omega)]
    by_cases q2 : wrap64 (rd x6 (t : Int) + 1) < rd x6 (v : Int)
    ·rw [if_pos q2, if_pos q2]
    ·rw [if_neg q2, if_neg q2]
structure Cnt (A : Nat → List (Nat × Nat)) (N e0 : Nat) (D : Nat → Int) (L : List Int) (i : Nat) (w : Nat → Int) : Prop where
 done : ∀ v : Nat, (v : Int) ∈ L.take i → w v = if v = e0 then 1 else wrap64 (qg_ ((A v).map fun e => if 0 ≤ D e.1 ∧ D e.1 + (e.2 : Int) = D v then w e.1 else 0))
 zero : ∀ v, v < N → (v : Int) ∉ L.take i → w v = 0
theorem Cnt.step {A : Nat → List (Nat × Nat)} {N C e0 : Nat} (hA : GrB A N C) {D : List Int} {L : List Int} {i v : Nat} {w w' : Nat → Int} (h : Cnt A N e0 (dd D) L i w) (hO : Ord D N L) (hi : i < L.length) (hv : L.getD i 0 = (v : Int))
  (h1 : w' v = if v = e0 then 1 else wrap64 (qg_ ((A v).map fun e => if 0 ≤ dd D e.1 ∧ dd D e.1 + (e.2 : Int) = dd D v then w e.1 else 0))) (h2 : ∀ u, u ≠ v → w' u = w u) : Cnt A N e0 (dd D) L (i + 1) w' := by
 have hs := hO.so
 rw [← List.take_append_drop i L, qe_ L i hi 0, hv, List.pairwise_append] at hs
 have hvN : v < N := by
  obtain ⟨u, e, hu, -⟩ := (hO.mem _).1 (qo_ hi (0 : Int))
  have : L.getD i 0 = (u : Int) := e
  omega
 have key : ∀ u : Nat, u < N → dd D u ≤ dd D v → ∀ e ∈ A u, 0 ≤ dd D e.1 ∧ dd D e.1 + (e.2 : Int) = dd D u → e.1 ≠ v := by
  intro u hu hle e he hc q
  have := (hA u hu e he).2.1
  rw [q] at hc
  omega
 have same : ∀ u : Nat, u < N → dd D u ≤ dd D v → qg_ ((A u).map fun e => if 0 ≤ dd D e.1 ∧ dd D e.1 + (e.2 : Int) = dd D u then w' e.1 else 0) = qg_ ((A u).map fun e => if 0 ≤ dd D e.1 ∧ dd D e.1 + (e.2 : Int) = dd D u then w e.1 else 0) := by
  intro u hu hle
  refine congrArg qg_ (List.map_congr_left fun e he => ?_)
  by_cases c : 0 ≤ dd D e.1 ∧ dd D e.1 + (e.2 : Int) = dd D u
  ·rw [if_pos c, if_pos c, h2 _ (key u hu hle e he c)]
  ·rw [if_neg c, if_neg c]
 refine ⟨fun u hu => ?_, fun u hu hn => ?_⟩
 ·rw [qv_ L i hi 0, hv, List.mem_append, List.mem_singleton] at hu
  rcases hu with hu | hu
  ·have hle : dd D u ≤ dd D v := by
    have := hs.2.2 _ hu _ List.mem_cons_self
    rwa [Int.toNat_natCast, Int.toNat_natCast] at this
   have huN : u < N := by
    obtain ⟨x, e, hx, -⟩ := (hO.mem _).1 (List.mem_of_mem_take hu)
    omega
   have hne : u ≠ v := by
    intro e
    have hnd := hO.nd
    rw [← List.take_append_drop i L, qe_ L i hi 0, hv, List.nodup_append] at hnd
    exact hnd.2.2 _ hu _ List.mem_cons_self (by rw [e])
   rw [h2 u hne, h.done u hu, same u huN hle]
  ·have : u = v := by omega
   rw [this, h1, same v hvN (Int.le_refl _)]
 ·rw [qv_ L i hi 0, hv, List.mem_append, List.mem_singleton] at hn
  rw [h2 u (fun e => hn (.inr (by rw [e])))]
  exact h.zero u hu fun e => hn (.inl e)
theorem s2_ {ts : List Int} (hq : PtQ ts) (m : Nat) {D L : List Int} {e0 : Nat} (hD : PtD ts D) (hF : Far (edU ts m) (2 ^ (ts.length + 1)) (fun v => v = e0) (dd D)) (hO : Ord D (2 ^ (ts.length + 1)) L) : ∀ (d i : Nat) (x5 x6 : List Int), i + d = L.length → x5.length = 2 ^ (ts.length + 1) → x6.length = 2 ^ (ts.length + 1) → Cnt (edU ts m) (2 ^ (ts.length + 1)) e0 (dd D) L i (dd x5) →
  ∃ k x5' r2, x5'.length = 2 ^ (ts.length + 1) ∧ Cnt (edU ts m) (2 ^ (ts.length + 1)) e0 (dd D) L L.length (dd x5') ∧ spec_seCount.l0 k D x5 x6 L (L.length : Int) (i : Int) ts (m : Int) = some (dd x5' (cS (List.replicate ts.length false, false)), r2) := by
 have hn := hq.n
 have hN := si_ hn
 have hA := rl_ hq m
 have hD1 := hD.l
 have hlen := hO.len
 intro d
 induction d with
 | zero =>
  intro i x5 x6 hi h5 h6 h
  have hc := qw_ (s := (List.replicate ts.length false, false)) (by simp only [List.length_replicate]; exact hn) (Nat.le_refl 20)
  have hcl := hc.2.1
  simp only [List.length_replicate] at hcl
  refine ⟨21, x5, rd x6 (cS (List.replicate ts.length false, false) : Int), h5, by rw [show L.length = i by omega]; exact h, ?_⟩
  simp only [spec_seCount.l0]
  rw [if_neg (by omega), qI_ hn, Option.bind_some, hc.1, Option.bind_some, if_pos (by omega), if_pos (by omega), if_pos (by omega), qx_]
 | succ d ih =>
  intro i x5 x6 hi h5 h6 h
  have hlt : i < L.length := by omega
  obtain ⟨v, hv, hvN, hv0⟩ := (hO.mem _).1 (qo_ hlt (0 : Int))
  have hv' : L.getD i 0 = (v : Int) := hv
  have hvr : rd L (i : Int) = (v : Int) := hv
  by_cases c : dd D v = 0
  ·have hve : v = e0 := by
    rcases hF.by_ v hvN hv0 with e | ⟨u, hu, hu0, c', hm, e⟩
    ·exact e
    ·have := (hA u hu _ hm).2.1
     simp only at this
     omega
   have hset := rC_ (l := x5) (u := v) 1 (by omega)
   have hC := h.step hA hO hlt hv' (w' := dd (x5.set v 1)) (by rw [hset, qc_, if_pos hve]) (fun u hu => by rw [hset, qd_ _ _ hu])
   obtain ⟨k, z5, r2, k5, kC, kr⟩ := ih (i + 1) (x5.set v 1) x6 (by omega) (by rw [List.length_set]; exact h5) h6 hC
   refine ⟨k + 1, z5, r2, k5, kC, ?_⟩
   simp only [spec_seCount.l0, hvr]
   rw [if_pos (by omega), if_pos (by omega), if_pos (by omega), if_pos (by omega), if_pos (by omega), qx_, if_pos c, if_pos (by omega), qb_ hlt (by omega), Int.toNat_natCast]
   exact kr
  ·have hve : v ≠ e0 := fun e => c (hF.st v e)
   obtain ⟨hsk, hsl, hsc⟩ := qS_ hn hvN (Nat.le_refl 20)
   have hvi : (v : Int) ∉ L.take i := by
    intro hm
    have hnd := hO.nd
    rw [← List.take_append_drop i L, qe_ L i hlt 0, hv', List.nodup_append] at hnd
    exact hnd.2.2 _ hm _ List.mem_cons_self rfl
   have hz := h.zero v hvN hvi
   have hG : ∀ g ∈ (qa_ m (sS ts.length v)).filter (nxt ts D (sS ts.length v)), g ∈ qa_ m (sS ts.length v) ∧ cS (mv (sS ts.length v) g) ≠ v := by
    intro g hg
    obtain ⟨h1, h2⟩ := List.mem_filter.1 hg
    obtain ⟨gi, gne, -⟩ := q2_ h1
    rw [hsl] at gi
    have htm := hq.tm gi gne
    unfold nxt at h2
    simp only [Bool.and_eq_true, decide_eq_true_eq] at h2
    refine ⟨h1, fun e => ?_⟩
    rw [hsc, e] at h2
    omega
   have hR := qm_ (m := m) (s := sS ts.length v) (by omega)
   have hGl := List.length_filter_le (nxt ts D (sS ts.length v)) (qa_ m (sS ts.length v))
   have w0 : wrap64 0 = 0 := qs_ (by omega) (by omega)
   obtain ⟨z5, z6, k5, k6, hz5, ho, hr⟩ := s1_ hq m (D := D) (L := L) (n2 := L.length) (i := i) (v := v) (by omega) hsl hvN hG (by omega) ((qa_ m (sS ts.length v)).filter (nxt ts D (sS ts.length v))).length 0 x5 x6 (by omega) h5 h6 (by rw [hz]; exact w0)
   have hC := h.step hA hO hlt hv' (w' := dd z5) (by
    rw [hz5, if_neg hve, hz, Int.zero_add, List.drop_zero, ql_]
    congr 1
    unfold edU
    rw [List.map_map]
    refine congrArg qg_ (List.map_congr_left fun g hg => ?_)
    obtain ⟨gi, gne, -⟩ := q2_ hg
    rw [hsl] at gi
    have htm := hq.tm gi gne
    simp only [Function.comp_apply]
    have e1 : ((tmX ts g 0).toNat : Int) = tmX ts g 0 := by omega
    rw [e1]
    unfold nxt
    rw [hsc]
    simp only [Bool.and_eq_true, decide_eq_true_eq]) ho
   obtain ⟨k, y5, r2, l5, lC, lr⟩ := ih (i + 1) z5 z6 (by omega) k5 k6 hC
   have lr2 := qj_ (f := fun k => spec_seCount.l0 k D z5 z6 L (L.length : Int) ((i + 1 : Nat) : Int) ts (m : Int)) (fun k => (spec_seCount.mono_l k).1 _ _ _ _ _ _ _ _) (by omega : k ≤ k + 400) lr
   refine ⟨(k + 400 + 1 + ((qa_ m (sS ts.length v)).filter (nxt ts D (sS ts.length v))).length) + 1, y5, r2, l5, lC, ?_⟩
   simp only [spec_seCount.l0, hvr]
   rw [if_pos (by omega), if_pos (by omega), if_pos (by omega), if_pos (by omega), if_pos (by omega), qx_, if_neg c, (qS_ hn hvN (by omega)).1, Option.bind_some, sn_ hq m hD hsl (by omega), Option.bind_some]
   exact (hr (k + 400) (by omega)).trans lr2
theorem Cnt.ways {A : Nat → List (Nat × Nat)} {N e0 : Nat} {D : List Int} {L : List Int} {w : Nat → Int} (h : Cnt A N e0 (dd D) L L.length w) (hO : Ord D N L) (he : e0 < N) (h0 : dd D e0 = 0) : Ways A N (fun v => v = e0) (dd D) w := by
 have hm : ∀ v, v < N → 0 ≤ dd D v → (v : Int) ∈ L.take L.length := fun v hv h1 => by rw [List.take_length]; exact (hO.mem _).2 ⟨v, rfl, hv, h1⟩
 refine ⟨fun s e => ?_, fun v hv h1 hs => ?_⟩
 ·rw [e, h.done e0 (hm e0 he (by omega)), if_pos rfl]
 ·rw [h.done v (hm v hv h1), if_neg hs]
theorem rE_ {ts : List Int} (hq : PtQ ts) (m : Nat) (hP : qA_ ts (m : Int) = true) : ∃ k0, ∀ k, k0 ≤ k → ∃ a : Int,
  ((spec_seLeast.f k ts (m : Int)).bind fun t457 => (if t457 < 0 then (some (0, true)) else ((spec_seCount.f k ts (m : Int)).bind fun bt458 => (some (bt458.1, true))))) = some (a, true) ∧
  ((impl_Party_costs.f k ts (m : Int)).bind fun p => if p.2 = true then (coG (ptG k ts (m : Int)) (grN ts.length) 0 p.1).bind fun r => some (r, true) else some (0, true)) = some (a, true) := by
 have hn := hq.n
 have hN := si_ hn
 have hpos : 0 < 2 ^ (ts.length + 1) := Nat.pow_pos (by omega)
 obtain ⟨f1, f2, f3, f4, f5⟩ := sb_ hn
 have hE := sz_ hq m
 have hU := rl_ hq m
 obtain ⟨k1, D, s1, l1, sF, slo⟩ := sa_ hq m (s := (List.replicate ts.length true, true)) (by simp)
 obtain ⟨k1', D', s1', l1', sF', slo'⟩ := sa_ hq m (s := (List.replicate ts.length false, false)) (by simp)
 have hnL : cS (List.replicate ts.length true, true) = nmS ts.length (2 ^ (ts.length + 1) - 1) := by
  unfold nmS
  rw [f4]
 have hn0 : cS (List.replicate ts.length false, false) = nmS ts.length 0 := by
  unfold nmS
  rw [f5]
 have hltL := qW_ hn (2 ^ (ts.length + 1) - 1) (by omega)
 have hlt0 := qW_ hn 0 hpos
 rw [hnL] at sF
 obtain ⟨k2, dist, i1, iF, il, ilo, ihi⟩ := rQ_ hE (s := 2 ^ (ts.length + 1) - 1) (by omega) (by omega) (by omega) (by omega)
 have e7 : ∀ v, v < 2 ^ (ts.length + 1) → dd D (nmS ts.length v) = dd dist v := fun v hv =>
  Far.eq hE.b (Far.names (nmS ts.length) sF hE.b (qW_ hn) (r4_ hn) (r2_ hn) (by omega) (ra_ hq m)) iF (fun v hv => slo _ (qW_ hn v hv)) ilo hv
 have hD : PtD ts D := ⟨l1, fun v hv => by
  obtain ⟨u, hu, rfl⟩ := r2_ hn v hv
  have := ihi u hu
  rw [e7 u hu]
  omega⟩
 have hback : 0 ≤ dd D' (nmS ts.length (2 ^ (ts.length + 1) - 1)) ↔ 0 ≤ dd D (nmS ts.length 0) := by
  rw [hn0] at sF'
  constructor
  ·intro h
   exact rk_ hU (q7_ hq m) sF' sF (dd D' (nmS ts.length (2 ^ (ts.length + 1) - 1))).toNat _ hltL h (by omega) (by rw [sF.st _ rfl]; omega)
  ·intro h
   exact rk_ hU (q7_ hq m) sF sF' (dd D (nmS ts.length 0)).toNat _ hlt0 h (by omega) (by rw [sF'.st _ rfl]; omega)
 have hO0 : Ord D 0 [] := by
  refine ⟨fun x => ?_, List.nodup_nil, List.Pairwise.nil, Nat.le_refl _⟩
  constructor
  ·intro h; cases h
  ·rintro ⟨u, -, hu, -⟩; omega
 obtain ⟨k3, L, hO, s3⟩ := sy_ (D := D) (n := 2 ^ (ts.length + 1)) (by omega) l1 (2 ^ (ts.length + 1)) 0 [] (by omega) hO0
 have hdz : ∀ v, dd (List.replicate (2 ^ (ts.length + 1)) 0) v = 0 := sp_ _
 have hC0 : Cnt (edU ts m) (2 ^ (ts.length + 1)) (nmS ts.length (2 ^ (ts.length + 1) - 1)) (dd D) L 0 (dd (List.replicate (2 ^ (ts.length + 1)) 0)) := by
  refine ⟨fun v hv => ?_, fun v _ _ => hdz v⟩
  rw [List.take_zero] at hv
  cases hv
 obtain ⟨k4, x5, r2, l5, hC, s4⟩ := s2_ hq m hD sF hO L.length 0 (List.replicate (2 ^ (ts.length + 1)) 0) (List.replicate (2 ^ (ts.length + 1)) 0) (by omega) (by simp) (by simp) hC0
 have sW := hC.ways hO hltL (sF.st _ rfl)
 have sW2 := Ways.congr hE.b (Ways.names (nmS ts.length) sW (qW_ hn) (r4_ hn) (by omega) (ra_ hq m)) e7
 refine ⟨k1 + k1' + k2 + k3 + k4 + 60, fun k hk => ?_⟩
 have s2 : spec_seFar.f k ts (m : Int) (List.replicate ts.length true) true = some D := qj_ (f := fun k => spec_seFar.f k ts (m : Int) (List.replicate ts.length true) true) (fun k => spec_seFar.mono _ _ _ _ k) (by omega : k1 ≤ k) s1
 have s2' : spec_seFar.f k ts (m : Int) (List.replicate ts.length false) false = some D' := qj_ (f := fun k => spec_seFar.f k ts (m : Int) (List.replicate ts.length false) false) (fun k => spec_seFar.mono _ _ _ _ k) (by omega : k1' ≤ k) s1'
 have i2 := qj_ (f := fun k => impl_graph_int_from.f (edT ts m) k ((2 ^ (ts.length + 1) : Nat) : Int) [((2 ^ (ts.length + 1) - 1 : Nat) : Int)]) (fun k => impl_graph_int_from.mono _ _ _ k) (by omega : k2 ≤ k) i1
 have s5 : spec_seOrder.l0 k D [] D ((2 ^ (ts.length + 1) : Nat) : Int) 0 = some L := qj_ (f := fun k => spec_seOrder.l0 k D [] D ((2 ^ (ts.length + 1) : Nat) : Int) 0) (fun k => (spec_seOrder.mono_l k).1 _ _ _ _ _) (by omega : k3 ≤ k) s3
 have s6 := qj_ (f := fun k => spec_seCount.l0 k D (List.replicate (2 ^ (ts.length + 1)) 0) (List.replicate (2 ^ (ts.length + 1)) 0) L (L.length : Int) ((0 : Nat) : Int) ts (m : Int)) (fun k => (spec_seCount.mono_l k).1 _ _ _ _ _ _ _ _) (by omega : k4 ≤ k) s4
 have hcL := (qw_ (s := (List.replicate ts.length true, true)) (by simp only [List.length_replicate]; exact hn) (by omega : 20 ≤ k)).1
 obtain ⟨g1, g2⟩ := rP_ (g := ptG k ts (m : Int)) (E := edT ts m) (N := 2 ^ (ts.length + 1)) fun c hc => sw_ hq m (by omega) hc
 have hcost : impl_Party_costs.f k ts (m : Int) = some (dist, decide (0 ≤ dd dist 0)) := by
  unfold impl_Party_costs.f frG
  rw [q5_, hP, Option.bind_some, if_pos rfl, f2, Option.bind_some, f3, if_pos g1, rr_ g2]
  have i3 : impl_graph_int_from.f (edT ts m) k ((2 ^ (ts.length + 1) : Nat) : Int) [((2 ^ (ts.length + 1) - 1 : Nat) : Int)] = some dist := i2
  rw [i3, Option.bind_some, if_pos (by omega)]
  rfl
 have hleast : spec_seLeast.f k ts (m : Int) = some (dd D' (nmS ts.length (2 ^ (ts.length + 1) - 1))) := by
  unfold spec_seLeast.f
  rw [qI_ hn, Option.bind_some, s2', Option.bind_some, qU_ hn _ (by omega), Option.bind_some, hcL, Option.bind_some, hnL, if_pos (by omega), if_pos (by omega), qx_]
 have hcount : spec_seCount.f k ts (m : Int) = some (dd x5 (nmS ts.length 0), r2) := by
  unfold spec_seCount.f spec_seOrder.f
  rw [qU_ hn _ (by omega), Option.bind_some, s2, Option.bind_some, if_pos (by omega), Int.toNat_natCast, if_pos (by omega), l1, s5, Option.bind_some, ← hn0]
  exact s6
 have ez := e7 0 hpos
 by_cases c : 0 ≤ dd dist 0
 ·refine ⟨dd x5 (nmS ts.length 0), ?_, ?_⟩
  ·have h0 := hback.2 (by omega)
   rw [hleast, Option.bind_some, if_neg (by omega), hcount, Option.bind_some]
  ·rw [hcost, Option.bind_some, if_pos (by exact decide_eq_true c), f3]
   have hok := so_ hE (dist := dist) (s := 0) (by omega) (by omega) (by decide) (by decide) il ihi hpos c
   have hok2 : grOk (grE (ptG k ts (m : Int))) ((2 ^ (ts.length + 1) : Nat) : Int) 0 dist = true := by
    rw [grOk_congr g2]; exact hok
   have hf := (grOk_iff hok).falls
   have hW := rH_ hE iF (by omega) (by decide) ihi ilo hf
   have hw := Ways.eq hE.b hW sW2 (dd dist 0).toNat 0 hpos c (by omega)
   unfold coG impl_graph_int_count.f
   rw [if_pos g1, if_pos hok2, Option.bind_some]
   have ht : tlT (grE (ptG k ts (m : Int))) dist st_ 1 0 = tlT (edT ts m) dist st_ 1 0 := by
    unfold tlT
    exact (tlV_congr (fun s h0 h1 => (g2 s h0 h1).symm) hf _ 0 (by omega) (by omega)).symm
   have ht2 : tlT (grE (ptG k ts (m : Int))) dist (fun a b _ => wrap64 (a + b)) 1 0 = dd x5 (nmS ts.length 0) := ht.trans hw
   show some (tlT (grE (ptG k ts (m : Int))) dist (fun a b _ => wrap64 (a + b)) 1 0, true) = _
   rw [ht2]
 ·refine ⟨0, ?_, ?_⟩
  ·have h0 : ¬ 0 ≤ dd D' (nmS ts.length (2 ^ (ts.length + 1) - 1)) := fun h => c (by have := hback.1 h; omega)
   rw [hleast, Option.bind_some, if_pos (by omega)]
  ·rw [hcost, Option.bind_some, if_neg (by simp only [decide_eq_true_eq]; exact c)]
theorem both (l : List Int) (hl : l.length ≤ 1048576) (s : Int) : ∃ k0, ∀ k, k0 ≤ k → ∃ x, spec_CountBest.f k l s = some x ∧ impl_CountBest.f k l s = some x := by
 cases hg : qA_ l s
 ·refine ⟨l.length + 1, fun k hk => ⟨(0, false), ?_, ?_⟩⟩
  ·unfold spec_CountBest.f
   rw [qV_ (by omega) s (by omega), hg, Option.bind_some, if_neg (by decide)]
  ·unfold impl_CountBest.f
   rw [q5_, hg, Option.bind_some, if_neg (by decide)]
 ·have h := hg
  unfold qA_ at h
  simp only [Bool.and_eq_true, rj_] at h
  obtain ⟨h1, h2, h3⟩ := h
  obtain ⟨m, rfl⟩ : ∃ m : Nat, s = (m : Int) := ⟨s.toNat, by omega⟩
  have hq : PtQ l := ⟨by omega, fun x hx => by
   have := List.all_eq_true.1 h2 x hx
   rwa [rj_] at this⟩
  obtain ⟨k0, hk0⟩ := rE_ hq m hg
  refine ⟨k0 + l.length + 1, fun k hk => ?_⟩
  obtain ⟨a, e1, e2⟩ := hk0 k (by omega)
  refine ⟨(a, true), ?_, ?_⟩
  ·unfold spec_CountBest.f
   rw [qV_ (by omega) (m : Int) (by omega), hg, Option.bind_some, if_pos rfl]
   exact e1
  ·unfold impl_CountBest.f
   rw [q5_, hg, Option.bind_some, if_pos rfl]
   exact e2
theorem pure : ∀ (l0_0 : List Int) (a0_1 : Int), (∀ y0 ∈ l0_0, Opn.okI y0) → l0_0.length ≤ 9223372036854775807 → Opn.okI a0_1 → ∃ k, laws_FnExactCountBest.f k l0_0 a0_1 = some true := by
 intro l s _ hl _
 by_cases h1 : l.length ≤ 1048576
 ·obtain ⟨k0, hk0⟩ := both l h1 s
  obtain ⟨K, hK⟩ : ∃ K, K = k0 + l.length + 8 := ⟨_, rfl⟩
  obtain ⟨x, e1, e2⟩ := hk0 (K + 1) (by omega)
  refine ⟨K + 1, ?_⟩
  unfold laws_FnExactCountBest.f
  rw [show (1048576 : Int) = ((1048576 : Nat) : Int) by rfl, qF_ (Nat.le_refl _) hl, Option.bind_some, if_pos h1, if_neg (by omega), qD_ h1 s (by omega)]
  simp only [Option.bind_some, e1, e2]
  rw [if_pos trivial]
  simp only [laws_FnExactCountBest.j0]
  rw [if_neg (by simp), qD_ h1 s (by omega)]
  simp only [Option.bind_some]
  rw [rs_ hl s (by omega), Option.bind_some, if_pos rfl]
 ·refine ⟨0, ?_⟩
  unfold laws_FnExactCountBest.f
  rw [show (1048576 : Int) = ((1048576 : Nat) : Int) by rfl, qF_ (Nat.le_refl _) hl, Option.bind_some, if_neg h1, if_pos (by omega)]
end Go.Proofs.Ythkchdfkeieabaa.fnExactCountBest
