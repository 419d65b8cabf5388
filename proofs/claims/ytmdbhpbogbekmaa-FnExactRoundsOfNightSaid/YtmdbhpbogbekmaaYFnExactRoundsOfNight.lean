/- FnExactRoundsOfNight, the plain statement: what the printed functions compute makes the law's function return true. Conditions: the numbers are of their kind. -/
import Derived.Test.YtmdbhpbogbekmaaOpn
import Derived.Test.YtmdbhpbogbekmaaQNtx12
namespace Go.Proofs.Ytmdbhpbogbekmaa.fnExactRoundsOfNight
open Go.RowKit Go.Proofs.YtmdbhpbogbekmaaW.PrintWords Go.Proofs.YtmdbhpbogbekmaaW.PrintLast Go.Proofs.YtmdbhpbogbekmaaW.PrintMore Go.Proofs.Ytmdbhpbogbekmaa.QNt
set_option linter.unusedVariables false
set_option linter.unusedSimpArgs false

def inB (x a b : Int) : Bool := decide (a ≤ x) && decide (x ≤ b)
theorem inB_true {x a b : Int} : inB x a b = true ↔ a ≤ x ∧ x ≤ b := by simp [inB]
theorem qc_ {n : Int} (h0 : -9223372036854775808 ≤ n) (h1 : n ≤ 9223372036854775807) : wrap64 n = n := by
 unfold wrap64
 omega
theorem qa_ {i n : Nat} (h : i < n) (hn : n ≤ 9223372036854775807) : wrap64 ((i : Int) + 1) = ((i + 1 : Nat) : Int) := by
 unfold wrap64
 omega
theorem q9_ {α : Type} (l : List α) (i : Nat) (h : i < l.length) (z : α) : l.take (i + 1) = l.take i ++ [l.getD i z] := by
 rw [List.take_succ_eq_append_getElem h, List.getD_eq_getElem?_getD, List.getElem?_eq_getElem h]
 rfl
theorem qe_ {α : Type} (l : List α) (i : Nat) (h : i < l.length) (z : α) : l.drop i = l.getD i z :: l.drop (i + 1) := by
 rw [List.drop_eq_getElem_cons h, List.getD_eq_getElem?_getD, List.getElem?_eq_getElem h]
 rfl
theorem qN_ {α : Type} (l : List α) (i : Nat) (h : i < l.length) (v : α) : (l.set i v).take (i + 1) = l.take i ++ [v] := by
 rw [List.take_succ_eq_append_getElem (by rw [List.length_set]; exact h), List.take_set_of_le (Nat.le_refl i), List.getElem_set_self]
theorem qb_ {k d : Nat} (h : d < k) : ∃ m, k = m + 1 := ⟨k - 1, by omega⟩
theorem qi_ (x a b : Int) : spec_l1In.f x a b = some (inB x a b) := by
 unfold spec_l1In.f inB
 by_cases h : a ≤ x <;> simp [h]
theorem rK_ (x a b : Int) : impl_in.f x a b = some (inB x a b) := by
 unfold impl_in.f inB
 by_cases h : a ≤ x <;> simp [h]
theorem rh_ {l : List Int} (hn : l.length ≤ 9223372036854775807) : ∀ (d k i : Nat) (x : List Int), i + d = l.length → x.length = l.length → x.take i = l.take i → d < k → laws_toIntS.l0 k l x (i : Int) = some l := by
 intro d
 induction d with
 | zero =>
  intro k i x hi hx ht hk
  obtain ⟨k, rfl⟩ := qb_ hk
  simp only [laws_toIntS.l0]
  rw [if_neg (by omega)]
  rw [show i = l.length by omega, List.take_length, ← hx, List.take_length] at ht
  rw [ht]
 | succ d ih =>
  intro k i x hi hx ht hk
  obtain ⟨k, rfl⟩ := qb_ hk
  have hlt : i < l.length := by omega
  simp only [laws_toIntS.l0]
  rw [if_pos (by omega), if_pos (by omega), if_pos (by omega), qa_ hlt hn]
  refine ih k (i + 1) _ (by omega) (by rw [List.length_set]; exact hx) ?_ (by omega)
  rw [Int.toNat_natCast, qN_ _ _ (by omega), ht, q9_ l i hlt 0]
  rfl
theorem ri_ {l : List Int} (hn : l.length ≤ 1048576) {k : Nat} (hk : l.length < k) : laws_toIntS.f k l = some l := by
 unfold laws_toIntS.f
 rw [if_pos (by omega), if_pos (by omega)]
 exact rh_ (by omega) l.length k 0 _ (by omega) (by simp) (by simp) hk
theorem rx_ {l : List Int} (hn : l.length ≤ 9223372036854775807) : ∀ (d k i : Nat), i + d = l.length → d < k → laws_eqIntS.l0 k l l (i : Int) = some true := by
 intro d
 induction d with
 | zero =>
  intro k i hi hk
  obtain ⟨k, rfl⟩ := qb_ hk
  simp only [laws_eqIntS.l0]
  rw [if_neg (by omega)]
 | succ d ih =>
  intro k i hi hk
  obtain ⟨k, rfl⟩ := qb_ hk
  have hlt : i < l.length := by omega
  simp only [laws_eqIntS.l0]
  rw [if_pos (by omega), if_pos (by omega), if_pos (by omega), if_pos trivial, qa_ hlt hn]
  exact ih k (i + 1) (by omega) (by omega)
theorem qA_ {l : List Int} (hn : l.length ≤ 9223372036854775807) {k : Nat} (hk : l.length < k) : laws_eqIntS.f k l l = some true := by
 unfold laws_eqIntS.f
 rw [if_pos rfl]
 exact rx_ hn l.length k 0 (by omega) hk
theorem qS_ {l : List Bool} (hn : l.length ≤ 9223372036854775807) : ∀ (d k i : Nat) (x : List Bool), i + d = l.length → x.length = l.length → x.take i = l.take i → d < k → laws_toBoolS.l0 k l x (i : Int) = some l := by
 intro d
 induction d with
 | zero =>
  intro k i x hi hx ht hk
  obtain ⟨k, rfl⟩ := qb_ hk
  simp only [laws_toBoolS.l0]
  rw [if_neg (by omega)]
  rw [show i = l.length by omega, List.take_length, ← hx, List.take_length] at ht
  rw [ht]
 | succ d ih =>
  intro k i x hi hx ht hk
  obtain ⟨k, rfl⟩ := qb_ hk
  have hlt : i < l.length := by omega
  simp only [laws_toBoolS.l0]
  rw [if_pos (by omega), if_pos (by omega), if_pos (by omega), qa_ hlt hn]
  refine ih k (i + 1) _ (by omega) (by rw [List.length_set]; exact hx) ?_ (by omega)
  rw [Int.toNat_natCast, qN_ _ _ (by omega), ht, q9_ l i hlt false]
  rfl
theorem qT_ {l : List Bool} (hn : l.length ≤ 1048576) {k : Nat} (hk : l.length < k) : laws_toBoolS.f k l = some l := by
 unfold laws_toBoolS.f
 rw [if_pos (by omega), if_pos (by omega)]
 exact qS_ (by omega) l.length k 0 _ (by omega) (by simp) (by simp) hk
theorem rd_ {l : List Bool} (hn : l.length ≤ 9223372036854775807) : ∀ (d k i : Nat), i + d = l.length → d < k → laws_eqBoolS.l0 k l l (i : Int) = some true := by
 intro d
 induction d with
 | zero =>
  intro k i hi hk
  obtain ⟨k, rfl⟩ := qb_ hk
  simp only [laws_eqBoolS.l0]
  rw [if_neg (by omega)]
 | succ d ih =>
  intro k i hi hk
  obtain ⟨k, rfl⟩ := qb_ hk
  have hlt : i < l.length := by omega
  simp only [laws_eqBoolS.l0]
  rw [if_pos (by omega), if_pos (by omega), if_pos (by omega), if_neg (by simp), qa_ hlt hn]
  exact ih k (i + 1) (by omega) (by omega)
theorem re_ {l : List Bool} (hn : l.length ≤ 9223372036854775807) {k : Nat} (hk : l.length < k) : laws_eqBoolS.f k l l = some true := by
 unfold laws_eqBoolS.f
 rw [if_pos rfl]
 exact rd_ hn l.length k 0 (by omega) hk
theorem r2_ {l : List Int} (hn : l.length ≤ 9223372036854775807) (a b : Int) : ∀ (d k i : Nat), i + d = l.length → d < k → spec_l1All.l0 k a b l (l.length : Int) (i : Int) = some ((l.drop i).all fun x => inB x a b) := by
 intro d
 induction d with
 | zero =>
  intro k i hi hk
  obtain ⟨k, rfl⟩ := qb_ hk
  simp only [spec_l1All.l0]
  rw [if_neg (by omega), show i = l.length by omega, List.drop_length]
  rfl
 | succ d ih =>
  intro k i hi hk
  obtain ⟨k, rfl⟩ := qb_ hk
  have hlt : i < l.length := by omega
  simp only [spec_l1All.l0]
  rw [if_pos (by omega), if_pos (by omega), if_pos (by omega), qi_, Option.bind_some, qa_ hlt hn, ih k (i + 1) (by omega) (by omega), qe_ l i hlt 0, List.all_cons]
  show (if inB (l.getD i 0) a b = true then _ else _) = _
  cases inB (l.getD i 0) a b <;> simp
theorem r3_ {l : List Int} (hn : l.length ≤ 9223372036854775807) (a b : Int) {k : Nat} (hk : l.length < k) : spec_l1All.f k l a b = some (l.all fun x => inB x a b) := by
 unfold spec_l1All.f
 exact r2_ hn a b l.length k 0 (by omega) hk
theorem r7_ (l : List Int) (a b c d : Int) : impl_areIn.f l a b c d = some (inB (l.length : Int) c d && l.all fun x => inB x a b) := by
 unfold impl_areIn.f inB
 simp [List.not_any_eq_all_not]
def qm_ (l : List Int) (s t : Int) : Bool := inB (l.length : Int) 1 6 && ((l.all fun x => inB x 1 1000) && (inB s 1 3 && inB t 1 2))
theorem rj_ {l : List Int} (hn : l.length ≤ 9223372036854775807) (s t : Int) {k : Nat} (hk : l.length < k) : spec_toGood.f k l s t = some (qm_ l s t) := by
 unfold spec_toGood.f qm_
 rw [qi_, r3_ hn 1 1000 hk, qi_, qi_]
 simp only [Option.bind_some]
 cases inB (l.length : Int) 1 6 <;> cases (l.all fun x => inB x 1 1000) <;> cases inB s 1 3 <;> simp
theorem rf_ (l : List Int) (s t : Int) : impl_IsNight.f l s t = some (qm_ l s t) := by
 unfold impl_IsNight.f qm_
 rw [r7_, rK_, rK_]
 simp only [Option.bind_some]
 cases inB (l.length : Int) 1 6 <;> cases (l.all fun x => inB x 1 1000) <;> cases inB s 1 3 <;> simp
theorem ra_ {l : List Int} (hn : l.length ≤ 9223372036854775807) (s t : Int) {k : Nat} (hk : l.length < k) : laws_eqNight.f k l s t l s t = some true := by
 unfold laws_eqNight.f
 rw [qA_ hn hk]
 simp
theorem rs_ {l : List Int} {s t : Int} (hg : qm_ l s t = true) : (∀ x ∈ l, 1 ≤ x ∧ x ≤ 1000) ∧ 1 ≤ l.length ∧ l.length ≤ 6 ∧ 1 ≤ s ∧ s ≤ 3 ∧ 1 ≤ t ∧ t ≤ 2 := by
 unfold qm_ at hg
 simp only [Bool.and_eq_true] at hg
 obtain ⟨g1, g2, g3, g4⟩ := hg
 have hx : ∀ x ∈ l, 1 ≤ x ∧ x ≤ 1000 := fun x h => inB_true.1 (List.all_eq_true.1 g2 x h)
 rw [inB_true] at g1 g3 g4
 exact ⟨hx, by omega⟩
def qv_ : List Int → List Int → List (List Int)
 | [], _ => []
 | x :: P, l => (l ++ [x]) :: (qv_ P (l ++ [x]) ++ qv_ P l)
theorem qg_ {g : List Int} : ∀ (P l : List Int), g ∈ qv_ P l ↔ ∃ s, s ≠ [] ∧ s.Sublist P ∧ g = l ++ s
 | [], l => by
  simp only [qv_, List.not_mem_nil, List.sublist_nil, false_iff]
  rintro ⟨s, h1, h2, -⟩
  exact h1 h2
 | x :: P, l => by
  simp only [qv_, List.mem_cons, List.mem_append, qg_ P]
  constructor
  ·rintro (h | ⟨s, h1, h2, h3⟩ | ⟨s, h1, h2, h3⟩)
   ·exact ⟨[x], by simp, List.Sublist.cons_cons x (List.nil_sublist P), h⟩
   ·exact ⟨x :: s, by simp, List.Sublist.cons_cons x h2, by rw [h3, List.append_assoc]; rfl⟩
   ·exact ⟨s, h1, List.Sublist.cons x h2, h3⟩
  ·rintro ⟨s, h1, h2, h3⟩
   cases h2 with
   | cons _ h => exact .inr (.inr ⟨s, h1, h, h3⟩)
   | cons_cons _ h =>
    rename_i s'
    by_cases e : s' = []
    ·left; rw [h3, e]
    ·right; left
     exact ⟨s', e, h, by rw [h3, List.append_assoc]; rfl⟩
theorem ql_ : ∀ (P l : List Int), P.Nodup → (qv_ P l).Nodup
 | [], _, _ => by simp [qv_]
 | x :: P, l, h => by
  obtain ⟨h1, h2⟩ := List.nodup_cons.1 h
  simp only [qv_, List.nodup_cons, List.mem_append, qg_]
  refine ⟨?_, ?_⟩
  ·rintro (⟨s, a, b, c⟩ | ⟨s, a, b, c⟩)
   ·exact a (List.append_cancel_left ((List.append_nil _).trans c)).symm
   ·have : [x] = s := List.append_cancel_left c
    rw [← this] at b
    exact h1 (b.subset (by simp))
  ·rw [List.nodup_append]
   refine ⟨ql_ P _ h2, ql_ P _ h2, fun g hg g' hg' e => ?_⟩
   obtain ⟨s, a, b, c⟩ := (qg_ P _).1 hg
   obtain ⟨s', a', b', c'⟩ := (qg_ P _).1 hg'
   rw [c, c', List.append_assoc] at e
   have : [x] ++ s = s' := List.append_cancel_left e
   rw [← this] at b'
   exact h1 (b'.subset (by simp))
theorem qp_ : ∀ (P l : List Int), (qv_ P l).length + 1 = 2 ^ P.length
 | [], _ => rfl
 | x :: P, l => by
  have h1 := qp_ P (l ++ [x])
  have h2 := qp_ P l
  simp only [qv_, List.length_cons, List.length_append, Nat.pow_succ]
  omega
def qj_ (o : List Bool) (t : Bool) : List Int := ((List.range o.length).filter fun i => o.getD i false == t).map fun i : Nat => (i : Int)
theorem qF_ (o : List Bool) (t : Bool) : (qj_ o t).Nodup := by
 unfold qj_
 exact List.Pairwise.map _ (fun (a b : Nat) (h : a ≠ b) (e : (a : Int) = (b : Int)) => h (by omega)) (List.Pairwise.filter _ List.nodup_range)
theorem q7_ (o : List Bool) (t : Bool) : (qj_ o t).length ≤ o.length := by
 unfold qj_
 rw [List.length_map]
 have := List.length_filter_le (fun i => o.getD i false == t) (List.range o.length)
 rwa [List.length_range] at this
def mvO (o : List Bool) (t : Bool) (g : List Int) : List Bool := g.foldl (fun o x => o.set x.toNat (!t)) o
theorem rI_ (t : Bool) : ∀ (g : List Int) (o : List Bool), (mvO o t g).length = o.length
 | [], _ => rfl
 | x :: g, o => by
  show (mvO (o.set x.toNat (!t)) t g).length = _
  rw [rI_ t g, List.length_set]
theorem rJ_ (t : Bool) : ∀ (g : List Int) (o : List Bool), (∀ x ∈ g, 0 ≤ x ∧ x < (o.length : Int)) → ∀ i : Nat, i < o.length → (mvO o t g).getD i false = if (i : Int) ∈ g then !t else o.getD i false
 | [], o, _, i, _ => by simp [mvO]
 | x :: g, o, h, i, hi => by
  have hx := h x (by simp)
  show (mvO (o.set x.toNat (!t)) t g).getD i false = _
  rw [rJ_ t g _ (fun y hy => by rw [List.length_set]; exact h y (by simp [hy])) i (by rw [List.length_set]; exact hi)]
  have hs : (o.set x.toNat (!t)).getD i false = if (i : Int) = x then !t else o.getD i false := by
   rw [List.getD_eq_getElem?_getD, List.getD_eq_getElem?_getD, List.getElem?_set]
   by_cases e : x.toNat = i
   ·rw [if_pos e, if_pos (by omega), if_pos (by omega)]; rfl
   ·rw [if_neg e, if_neg (by omega)]
  rw [hs]
  by_cases e : (i : Int) ∈ g
  ·rw [if_pos e, if_pos (List.mem_cons_of_mem _ e)]
  ·rw [if_neg e]
   by_cases q : (i : Int) = x
   ·rw [if_pos q, if_pos (by rw [q]; exact List.mem_cons_self)]
   ·rw [if_neg q, if_neg (by simp [q, e])]
def qd_ (m : Nat) : List Int → List Int → List (List Int)
 | [], _ => []
 | x :: P, l => if l.length < m then (l ++ [x]) :: (qd_ m P (l ++ [x]) ++ qd_ m P l) else []
theorem qf_ (m : Nat) : ∀ (P l : List Int), (qd_ m P l).Sublist (qv_ P l)
 | [], _ => List.Sublist.refl _
 | x :: P, l => by
  unfold qd_ qv_
  split
  ·exact List.Sublist.cons_cons _ (List.Sublist.append (qf_ m P _) (qf_ m P _))
  ·exact List.nil_sublist _
theorem qx_ {m : Nat} (P : List Int) {l : List Int} (h : ¬ l.length < m) : qd_ m P l = [] := by
 cases P with
 | nil => rfl
 | cons x P => exact if_neg h
theorem qs_ {g : List Int} (m : Nat) : ∀ (P l : List Int), g ∈ qd_ m P l ↔ g ∈ qv_ P l ∧ g.length ≤ m
 | [], l => by simp [qd_, qv_]
 | x :: P, l => by
  by_cases h : l.length < m
  ·unfold qd_
   rw [if_pos h]
   simp only [qv_, List.mem_cons, List.mem_append, qs_ m P]
   constructor
   ·rintro (e | e | e)
    ·exact ⟨.inl e, by rw [e, List.length_append, List.length_singleton]; omega⟩
    ·exact ⟨.inr (.inl e.1), e.2⟩
    ·exact ⟨.inr (.inr e.1), e.2⟩
   ·rintro ⟨e | e | e, q⟩
    ·exact .inl e
    ·exact .inr (.inl ⟨e, q⟩)
    ·exact .inr (.inr ⟨e, q⟩)
  ·rw [qx_ _ h]
   constructor
   ·intro e; cases e
   ·rintro ⟨e, q⟩
    obtain ⟨s, h1, -, h3⟩ := (qg_ _ _).1 e
    rw [h3, List.length_append] at q
    have := List.length_pos_iff.2 h1
    omega
theorem qr_ (m : Nat) (P l : List Int) : (qd_ m P l).length + 1 ≤ 2 ^ P.length := by
 have h1 := qp_ P l
 have h2 := (qf_ m P l).length_le
 omega
theorem qV_ {x0 : List Int} (h0 : x0.length ≤ 8) (m : Nat) : ∀ (d : Nat), (∀ (k i : Nat) (l : List Int) (acc : List (List Int)), i + d = x0.length → 3 * d + 1 ≤ k → l.length < m → l.length + d ≤ x0.length → acc.length + 2 ^ d ≤ 1000000 → spec_paGroups.l0 k x0 l (m : Int) acc (i : Int) = some (acc ++ qd_ m (x0.drop i) l)) ∧
  ∀ (k i : Nat) (l : List Int), i + d = x0.length → 3 * d + 3 ≤ k → l.length ≤ m → l.length + d ≤ x0.length → spec_paGroups.f k x0 l (i : Int) (m : Int) = some ((if (l.length : Int) > 0 then [l] else []) ++ qd_ m (x0.drop i) l) := by
 have J : ∀ (d : Nat), (∀ (k i : Nat) (l : List Int) (acc : List (List Int)), i + d = x0.length → 3 * d + 1 ≤ k → l.length < m → l.length + d ≤ x0.length → acc.length + 2 ^ d ≤ 1000000 → spec_paGroups.l0 k x0 l (m : Int) acc (i : Int) = some (acc ++ qd_ m (x0.drop i) l)) →
   ∀ (k i : Nat) (l : List Int), i + d = x0.length → 3 * d + 3 ≤ k → l.length ≤ m → l.length + d ≤ x0.length → spec_paGroups.f k x0 l (i : Int) (m : Int) = some ((if (l.length : Int) > 0 then [l] else []) ++ qd_ m (x0.drop i) l) := by
  intro d A k i l hi hk hm hl
  have hd8 : 2 ^ d ≤ 2 ^ 8 := Nat.pow_le_pow_right (by decide) (by omega)
  obtain ⟨k, rfl⟩ := qb_ (d := 0) (by omega : 0 < k)
  obtain ⟨k, rfl⟩ := qb_ (d := 0) (by omega : 0 < k)
  have hj : ∀ acc : List (List Int), acc.length ≤ 1 → spec_paGroups.j0 (k + 1) x0 l (i : Int) (m : Int) acc = some (acc ++ qd_ m (x0.drop i) l) := by
   intro acc ha
   simp only [spec_paGroups.j0]
   by_cases e : l.length < m
   ·rw [if_neg (by omega), A k i l acc hi (by omega) e (by omega) (by omega)]
   ·rw [if_pos (by omega), qx_ _ e, List.append_nil]
  rw [spec_paGroups.f.eq_2]
  unfold spec_l1Own.f
  by_cases e : (l.length : Int) > 0
  ·rw [if_pos e, if_pos e]
   simp only [Option.bind_some, List.nil_append, List.length_nil, List.length_singleton]
   rw [if_pos (by omega), Option.bind_some, if_pos (by omega)]
   exact hj [l] (by simp)
  ·rw [if_neg e, if_neg e]
   exact hj [] (by simp)
 intro d
 induction d with
 | zero =>
  have A : ∀ (k i : Nat) (l : List Int) (acc : List (List Int)), i + 0 = x0.length → 3 * 0 + 1 ≤ k → l.length < m → l.length + 0 ≤ x0.length → acc.length + 2 ^ 0 ≤ 1000000 → spec_paGroups.l0 k x0 l (m : Int) acc (i : Int) = some (acc ++ qd_ m (x0.drop i) l) := by
   intro k i l acc hi hk hm hl ha
   obtain ⟨k, rfl⟩ := qb_ (d := 0) (by omega : 0 < k)
   simp only [spec_paGroups.l0]
   rw [if_neg (by omega), show i = x0.length by omega, List.drop_length]
   simp [qd_]
  exact ⟨A, J 0 A⟩
 | succ d ih =>
  have A : ∀ (k i : Nat) (l : List Int) (acc : List (List Int)), i + (d + 1) = x0.length → 3 * (d + 1) + 1 ≤ k → l.length < m → l.length + (d + 1) ≤ x0.length → acc.length + 2 ^ (d + 1) ≤ 1000000 → spec_paGroups.l0 k x0 l (m : Int) acc (i : Int) = some (acc ++ qd_ m (x0.drop i) l) := by
   intro k i l acc hi hk hm hl ha
   obtain ⟨k, rfl⟩ := qb_ (d := 0) (by omega : 0 < k)
   have hlt : i < x0.length := by omega
   have e2 : 2 ^ (d + 1) = 2 ^ d + 2 ^ d := by rw [Nat.pow_succ]; omega
   have hsl := qr_ m (x0.drop (i + 1)) (l ++ [rd x0 (i : Int)])
   rw [List.length_drop, show x0.length - (i + 1) = d by omega] at hsl
   have hd8 : 2 ^ d ≤ 2 ^ 8 := Nat.pow_le_pow_right (by decide) (by omega)
   simp only [spec_paGroups.l0]
   unfold spec_l1Own.f
   rw [if_pos (by omega)]
   simp only [Option.bind_some, List.nil_append, List.length_nil, List.length_singleton]
   rw [if_pos (by omega), Option.bind_some, if_pos (by omega), if_pos (by omega), qa_ hlt (by omega),
    ih.2 k (i + 1) (l ++ [rd x0 (i : Int)]) (by omega) (by omega) (by rw [List.length_append, List.length_singleton]; omega) (by rw [List.length_append, List.length_singleton]; omega), Option.bind_some,
    if_pos (by rw [List.length_append, List.length_singleton]; omega : ((l ++ [rd x0 (i : Int)]).length : Int) > 0)]
   rw [if_pos (by rw [List.length_append, List.length_singleton]; omega)]
   rw [ih.1 k (i + 1) l _ (by omega) (by omega) hm (by omega) (by rw [List.length_append, List.length_append, List.length_singleton]; omega)]
   rw [qe_ x0 i hlt 0]
   show some (acc ++ ([l ++ [rd x0 (i : Int)]] ++ qd_ m (x0.drop (i + 1)) (l ++ [rd x0 (i : Int)])) ++ qd_ m (x0.drop (i + 1)) l) = some (acc ++ qd_ m (rd x0 (i : Int) :: x0.drop (i + 1)) l)
   rw [show qd_ m (rd x0 (i : Int) :: x0.drop (i + 1)) l = (l ++ [rd x0 (i : Int)]) :: (qd_ m (x0.drop (i + 1)) (l ++ [rd x0 (i : Int)]) ++ qd_ m (x0.drop (i + 1)) l) from if_pos hm]
   simp
  exact ⟨A, J (d + 1) A⟩
theorem rw_ {st : List Int → List (List Int) → Option (List (List Int))} {ok : List Int → Bool} (m : Nat) : ∀ (P l : List Int) (acc : List (List Int)), (∀ g ∈ qv_ P l, ∀ a : List (List Int), a.length < 1000000 → st g a = some (a ++ if ok g = true then [g] else [])) → acc.length + 2 ^ P.length ≤ 1000000 →
  gOn st (m : Int) P l acc = some (acc ++ (qd_ m P l).filter ok)
 | [], l, acc, _, _ => by simp [gOn, qd_]
 | x :: P, l, acc, H, hacc => by
  rw [List.length_cons, Nat.pow_succ] at hacc
  have hpos : 0 < 2 ^ P.length := Nat.pow_pos (by omega)
  unfold gOn qd_
  by_cases hm : l.length < m
  ·rw [if_pos (by omega), if_pos hm, H (l ++ [x]) (by simp [qv_]) acc (by omega), Option.bind_some]
   have hq : (if ok (l ++ [x]) = true then [l ++ [x]] else ([] : List (List Int))).length ≤ 1 := by split <;> simp
   have h1 := qp_ P (l ++ [x])
   have h2 := Nat.le_trans (List.length_filter_le ok (qd_ m P (l ++ [x]))) (qf_ m P (l ++ [x])).length_le
   rw [rw_ m P (l ++ [x]) _ (fun g hg => H g (by simp [qv_, hg])) (by rw [List.length_append]; omega), Option.bind_some,
    rw_ m P l _ (fun g hg => H g (by simp [qv_, hg])) (by rw [List.length_append, List.length_append]; omega), List.filter_cons, List.filter_append]
   cases ok (l ++ [x]) <;> simp
  ·rw [if_neg (by omega), if_neg hm]
   simp
def qG_ (o : List Bool) (t : Bool) (i d : Nat) : List Int := ((List.range' i d).filter fun j => o.getD j false == t).map fun j : Nat => (j : Int)
theorem rL_ (o : List Bool) (t : Bool) : qG_ o t 0 o.length = qj_ o t := by
 unfold qG_ qj_
 rw [List.range_eq_range']
theorem qY_ (o : List Bool) (t : Bool) (i d : Nat) : qG_ o t i (d + 1) = (if (o.getD i false == t) = true then [(i : Int)] else []) ++ qG_ o t (i + 1) d := by
 unfold qG_
 rw [List.range'_succ, List.filter_cons]
 split <;> simp
theorem rF_ {o : List Bool} (t : Bool) (hn : o.length ≤ 8) : ∀ (d k i : Nat) (acc : List Int), i + d = o.length → d < k → acc.length ≤ i → impl_State_side.l0 k t acc o (o.length : Int) (i : Int) = some (acc ++ qG_ o t i d) := by
 intro d
 induction d with
 | zero =>
  intro k i acc hi hk _
  obtain ⟨k, rfl⟩ := qb_ hk
  simp only [impl_State_side.l0]
  rw [if_neg (by omega)]
  simp [qG_]
 | succ d ih =>
  intro k i acc hi hk ha
  obtain ⟨k, rfl⟩ := qb_ hk
  have hlt : i < o.length := by omega
  simp only [impl_State_side.l0]
  rw [if_pos (by omega), if_pos (by omega), if_pos (by omega), qa_ hlt (by omega), qY_, if_pos (by omega : acc.length < 17592186044416)]
  show (if (o.getD i false == t) = true then _ else _) = _
  by_cases e : (o.getD i false == t) = true
  ·rw [if_pos e, if_pos e, ih k (i + 1) _ (by omega) (by omega) (by rw [List.length_append, List.length_singleton]; omega), List.append_assoc]
  ·rw [if_neg e, if_neg e, ih k (i + 1) _ (by omega) (by omega) (by omega)]
   rfl
theorem rG_ {o : List Bool} (b t : Bool) (hn : o.length ≤ 8) {k : Nat} (hk : 20 ≤ k) : impl_State_side.f k o b t = some (qj_ o t) := by
 unfold impl_State_side.f
 rw [show (0 : Int) = ((0 : Nat) : Int) by rfl, rF_ t hn o.length k 0 _ (by omega) (by omega) (Nat.le_refl _), rL_]
 rfl
theorem qD_ {α : Type} {f : Nat → Option α} (h : ∀ k, LeO (f k) (f (k + 1))) {k k' : Nat} (hk : k ≤ k') {r : α} (hr : f k = some r) : f k' = some r := by
 induction hk with
 | refl => exact hr
 | step _ ih => exact h _ _ ih
def Rn (n : Nat) : List Int := (List.range n).map fun i : Nat => (i : Int)
def Gn (n m : Nat) : List (List Int) := qd_ m (Rn n) []
def pwB {α : Type} (p : α → α → Bool) : List α → Bool
 | [] => true
 | x :: xs => xs.all (p x) && pwB p xs
theorem rB_ {α : Type} {p : α → α → Bool} : ∀ {l : List α}, pwB p l = true → l.Pairwise fun a b => p a b = true
 | [], _ => List.Pairwise.nil
 | x :: xs, h => by
  unfold pwB at h
  rw [Bool.and_eq_true] at h
  exact List.pairwise_cons.2 ⟨fun y hy => List.all_eq_true.1 h.1 y hy, rB_ h.2⟩
def S6 : List (List Int) := qv_ (Rn 6) []
def cb (a : List Int) : Int := (spec_cuBits.f 20 a).getD 0
def dj (a b : List Int) : Bool := !(a.any fun x => decide (x ∈ b))
set_option maxRecDepth 100000 in
theorem chkA : (S6.all fun a => (spec_cuBits.f 20 a == some (cb a)) && decide (Go.bits .and .i64 0 (cb a) = 0)) = true := by decide +kernel
set_option maxRecDepth 100000 in
theorem chkB : (S6.all fun a => S6.all fun b => (decide (Go.bits .and .i64 (Go.bits .or .i64 0 (cb a)) (cb b) = 0) == dj a b) && (spec_cuBefore.f 20 a b == some (decide (cmpL a b < 0)))) = true := by decide +kernel
set_option maxRecDepth 100000 in
theorem chkR : ((List.range 7).all fun n => ((qv_ (Rn n) []).all fun g => spec_l1Rising.f 20 g 0 ((n : Int) - 1) == some true) && pwB (fun a b => decide (cmpL a b < 0)) (qv_ (Rn n) [])) = true := by decide +kernel
theorem mem_Gn {n m : Nat} {g : List Int} : g ∈ Gn n m ↔ g ≠ [] ∧ g.Sublist (Rn n) ∧ g.length ≤ m := by
 unfold Gn
 rw [qs_, qg_]
 constructor
 ·rintro ⟨⟨s, h1, h2, h3⟩, h4⟩
  rw [List.nil_append] at h3
  rw [h3] at h4 ⊢
  exact ⟨h1, h2, h4⟩
 ·rintro ⟨h1, h2, h4⟩
  exact ⟨⟨g, h1, h2, rfl⟩, h4⟩
theorem rU_ {n : Nat} (hn : n ≤ 6) : (Rn n).Sublist (Rn 6) := by
 unfold Rn
 refine List.Sublist.map _ ?_
 rw [show (6 : Nat) = n + (6 - n) by omega, List.range_add]
 exact List.sublist_append_left _ _
theorem rO_ {n m : Nat} (hn : n ≤ 6) {g : List Int} (h : g ∈ Gn n m) : g ∈ S6 := by
 obtain ⟨h1, h2, -⟩ := mem_Gn.1 h
 exact (qg_ _ _).2 ⟨g, h1, h2.trans (rU_ hn), rfl⟩
theorem rE_ {n : Nat} (m : Nat) (hn : n ≤ 6) : (Gn n m).Pairwise fun a b => cmpL a b < 0 := by
 have h := List.all_eq_true.1 chkR n (List.mem_range.2 (by omega))
 rw [Bool.and_eq_true] at h
 exact (List.Pairwise.sublist (qf_ m _ _) (rB_ h.2)).imp fun h => of_decide_eq_true h
theorem mem_Rn {n : Nat} {x : Int} : x ∈ Rn n ↔ 0 ≤ x ∧ x < (n : Int) := by
 unfold Rn
 simp only [List.mem_map, List.mem_range]
 constructor
 ·rintro ⟨i, h, rfl⟩; omega
 ·rintro ⟨h1, h2⟩; exact ⟨x.toNat, by omega, by omega⟩
theorem r8_ {n m : Nat} {g : List Int} (h : g ∈ Gn n m) : ∀ x ∈ g, 0 ≤ x ∧ x < (n : Int) := fun x hx => mem_Rn.1 ((mem_Gn.1 h).2.1.subset hx)
theorem qh_ {n m : Nat} {g : List Int} (h : g ∈ Gn n m) : 0 < g.length ∧ g.length ≤ m ∧ g.length ≤ n := by
 obtain ⟨h1, h2, h3⟩ := mem_Gn.1 h
 have := h2.length_le
 unfold Rn at this
 rw [List.length_map, List.length_range] at this
 exact ⟨List.length_pos_iff.2 h1, h3, this⟩
theorem r4_ {b : List Int} (hb : b.length ≤ 1000000) (x : Int) : ∀ (d k i : Nat), i + d = b.length → d < k → ∃ r, slices_Index_int_int.l0 k b x (b.length : Int) (i : Int) = some r ∧ (0 ≤ r ↔ x ∈ b.drop i) := by
 intro d
 induction d with
 | zero =>
  intro k i hi hk
  obtain ⟨k, rfl⟩ := qb_ hk
  simp only [slices_Index_int_int.l0]
  rw [if_neg (by omega)]
  refine ⟨-1, rfl, ?_⟩
  rw [List.drop_of_length_le (by omega)]
  simp
 | succ d ih =>
  intro k i hi hk
  obtain ⟨k, rfl⟩ := qb_ hk
  have hlt : i < b.length := by omega
  simp only [slices_Index_int_int.l0]
  rw [if_pos (by omega), if_pos (by omega), if_pos (by omega), qe_ b i hlt 0]
  by_cases e : x = rd b (i : Int)
  ·rw [if_pos e]
   refine ⟨_, rfl, ?_⟩
   have e2 : x = b.getD i 0 := e
   rw [e2]
   simp
  ·rw [if_neg e, qa_ hlt (by omega)]
   obtain ⟨r, h1, h2⟩ := ih k (i + 1) (by omega) (by omega)
   refine ⟨r, h1, h2.trans ?_⟩
   have e2 : x ≠ b.getD i 0 := e
   rw [List.mem_cons]
   exact ⟨.inr, fun h => h.resolve_left e2⟩
theorem qL_ {b : List Int} (hb : b.length ≤ 1000000) (x : Int) {k : Nat} (hk : b.length < k) : slices_Contains_int_int.f k b x = some (decide (x ∈ b)) := by
 obtain ⟨r, h1, h2⟩ := r4_ hb x b.length k 0 (by omega) hk
 unfold slices_Contains_int_int.f slices_Index_int_int.f
 rw [show (0 : Int) = ((0 : Nat) : Int) from rfl, h1, Option.bind_some]
 rw [List.drop_zero] at h2
 exact congrArg some (decide_eq_decide.2 h2)
theorem r1_ {a b : List Int} (hb : b.length ≤ 1000000) {k : Nat} (hk : b.length < k) : impl_share.f k a b = some (!(dj a b)) := by
 unfold impl_share.f dj
 simp only [qL_ hb _ hk]
 rw [Bool.not_not]
 exact anyO_some _ _
def rg_ (tq t : Int) (s : Bool) : Int := if s = true then t else tq - t
def sd (ov : List Bool) (g : List Int) : Bool := rdOf false ov (rd g 0)
def okO (ov : List Bool) (g : List Int) : Bool := g.all fun x => rdOf false ov x == sd ov g
def okG (tq : Int) (ov : List Bool) (t : Int) (g : List Int) : Bool := okO ov g && decide (0 < rg_ tq t (sd ov g))
def tg (tq : Int) (ov : List Bool) (t : Int) (a b : List Int) : Bool := decide (1 < tq) && (dj a b && ((sd ov a != sd ov b) || decide (1 < rg_ tq t (sd ov a))))
theorem rD_ {α : Type} {R : α → α → Prop} (ha : ∀ a b, R a b → ¬ R b a) : ∀ {l l' : List α}, l.Pairwise R → l'.Pairwise R → (∀ x, x ∈ l ↔ x ∈ l') → l = l'
 | [], [], _, _, _ => rfl
 | [], y :: ys, _, _, h => absurd ((h y).2 (by simp)) (by simp)
 | x :: xs, [], _, _, h => absurd ((h x).1 (by simp)) (by simp)
 | x :: xs, y :: ys, h1, h2, h => by
  rw [List.pairwise_cons] at h1 h2
  have e : x = y := by
   rcases List.mem_cons.1 ((h x).1 (by simp)) with e | e
   ·exact e
   ·rcases List.mem_cons.1 ((h y).2 (by simp)) with e' | e'
    ·exact e'.symm
    ·exact absurd (h2.1 x e) (ha _ _ (h1.1 y e'))
  subst e
  refine congrArg (x :: ·) (rD_ ha h1.2 h2.2 fun z => ?_)
  constructor
  ·intro hz
   rcases List.mem_cons.1 ((h z).1 (by simp [hz])) with e | e
   ·rw [e] at hz; exact absurd (h1.1 x hz) (fun q => ha _ _ q q)
   ·exact e
  ·intro hz
   rcases List.mem_cons.1 ((h z).2 (by simp [hz])) with e | e
   ·rw [e] at hz; exact absurd (h2.1 x hz) (fun q => ha _ _ q q)
   ·exact e
theorem sub_filter {α : Type} {g L : List α} {p : α → Bool} : g.Sublist (L.filter p) ↔ g.Sublist L ∧ ∀ x ∈ g, p x = true := by
 constructor
 ·intro h
  exact ⟨h.trans List.filter_sublist, fun x hx => (List.mem_filter.1 (h.subset hx)).2⟩
 ·rintro ⟨h1, h2⟩
  have := h1.filter p
  rwa [List.filter_eq_self.2 h2] at this
theorem r5_ (ov : List Bool) (s : Bool) : qj_ ov s = (Rn ov.length).filter fun x => rdOf false ov x == s := by
 unfold qj_ Rn
 rw [List.filter_map]
 rfl
theorem mem_side {ov : List Bool} {m : Nat} {s : Bool} {g : List Int} : g ∈ qd_ m (qj_ ov s) [] ↔ g ∈ Gn ov.length m ∧ okO ov g = true ∧ sd ov g = s := by
 rw [qs_, qg_, mem_Gn, r5_]
 constructor
 ·rintro ⟨⟨q, h1, h2, h3⟩, h4⟩
  rw [List.nil_append] at h3
  subst h3
  obtain ⟨h5, h6⟩ := sub_filter.1 h2
  have hs : sd ov g = s := by
   cases g with
   | nil => exact absurd rfl h1
   | cons x g => exact beq_iff_eq.1 (h6 x (by simp))
  refine ⟨⟨h1, h5, h4⟩, List.all_eq_true.2 fun x hx => ?_, hs⟩
  rw [hs]
  exact h6 x hx
 ·rintro ⟨⟨h1, h2, h4⟩, h5, h6⟩
  refine ⟨⟨g, h1, sub_filter.2 ⟨h2, fun x hx => ?_⟩, rfl⟩, h4⟩
  have := List.all_eq_true.1 h5 x hx
  rwa [h6] at this
def gpL (m : Nat) (tq : Int) (ov : List Bool) (t : Int) : List (List Int) := (Gn ov.length m).filter (okG tq ov t)
def ptL (m : Nat) (tq : Int) (ov : List Bool) (t : Int) (s : Bool) : List (List Int) := if 0 < rg_ tq t s then qd_ m (qj_ ov s) [] else []
theorem qw_ {tq t : Int} (h0 : 0 ≤ t) (h1 : t ≤ tq) (h2 : tq ≤ 2) (ts : List Int) (se : Int) (ov : List Bool) (s : Bool) : impl_Night_torches.f ts se tq ov t s = some (rg_ tq t s) := by
 unfold impl_Night_torches.f rg_
 cases s
 ·simp [qc_ (show -9223372036854775808 ≤ tq - t by omega) (by omega)]
 ·rfl
theorem q8_ {tq t : Int} (h0 : 0 ≤ t) (h1 : t ≤ tq) (h2 : tq ≤ 2) (ts : List Int) (m : Nat) {ov : List Bool} (hn : ov.length ≤ 6) (s : Bool) {acc : List (List Int)} (ha : acc.length ≤ 1000) {k : Nat} (hk : 20 ≤ k) : grPart k ts (m : Int) tq ov t s acc = some (acc ++ ptL m tq ov t s) := by
 unfold grPart ptL
 rw [qw_ h0 h1 h2, Option.bind_some]
 by_cases c : 0 < rg_ tq t s
 ·have hl := q7_ ov s
  have h3 : 2 ^ (qj_ ov s).length ≤ 2 ^ 6 := Nat.pow_le_pow_right (by decide) (by omega)
  rw [if_pos c, if_pos c, rG_ s s (by omega) hk, Option.bind_some, if_pos (by omega), rw_ (ok := fun _ => true) m _ [] acc (fun g _ a ha => by unfold grSt; rw [if_pos ha]; rfl) (by omega), List.filter_eq_self.2 fun _ _ => rfl]
 ·rw [if_neg c, if_neg c, List.append_nil]
theorem rq_ (m : Nat) (tq : Int) {ov : List Bool} (hn : ov.length ≤ 6) (t : Int) (s : Bool) : (ptL m tq ov t s).length ≤ 63 := by
 unfold ptL
 have hl := q7_ ov s
 have h3 : 2 ^ (qj_ ov s).length ≤ 2 ^ 6 := Nat.pow_le_pow_right (by decide) (by omega)
 have := qr_ m (qj_ ov s) []
 split
 ·omega
 ·simp
theorem rv_ {tq t : Int} (h0 : 0 ≤ t) (h1 : t ≤ tq) (h2 : tq ≤ 2) (ts : List Int) (m : Nat) {ov : List Bool} (hn : ov.length ≤ 6) {k : Nat} (hk : 20 ≤ k) : impl_Night_groups.f k ts (m : Int) tq ov t = some (gpL m tq ov t) := by
 have l1 := rq_ m tq hn t false
 have l2 := rq_ m tq hn t true
 have hmem : ∀ g, g ∈ ptL m tq ov t false ++ ptL m tq ov t true ↔ g ∈ gpL m tq ov t := by
  intro g
  have hp : ∀ s, g ∈ ptL m tq ov t s ↔ g ∈ Gn ov.length m ∧ (okO ov g = true ∧ sd ov g = s) ∧ 0 < rg_ tq t s := by
   intro s
   unfold ptL
   by_cases c : 0 < rg_ tq t s
   ·rw [if_pos c, mem_side]; exact ⟨fun h => ⟨h.1, h.2, c⟩, fun h => ⟨h.1, h.2.1⟩⟩
   ·rw [if_neg c]; exact ⟨fun h => absurd h (by simp), fun h => absurd h.2.2 c⟩
  unfold gpL
  rw [List.mem_append, hp, hp, List.mem_filter]
  unfold okG
  rw [Bool.and_eq_true, decide_eq_true_eq]
  constructor
  ·rintro (⟨a, ⟨b, c⟩, d⟩ | ⟨a, ⟨b, c⟩, d⟩) <;> exact ⟨a, b, by rw [c]; exact d⟩
  ·rintro ⟨a, b, c⟩
   cases e : sd ov g
   ·rw [e] at c; exact .inl ⟨a, ⟨b, rfl⟩, c⟩
   ·rw [e] at c; exact .inr ⟨a, ⟨b, rfl⟩, c⟩
 have hnd : (ptL m tq ov t false ++ ptL m tq ov t true).Nodup := by
  have hp : ∀ s, (ptL m tq ov t s).Nodup := by
   intro s
   unfold ptL
   split
   ·exact (ql_ _ _ (qF_ ov s)).sublist (qf_ m _ _)
   ·exact List.nodup_nil
  rw [List.nodup_append]
  refine ⟨hp _, hp _, fun a ha b hb e => ?_⟩
  have q : ∀ s, ∀ g ∈ ptL m tq ov t s, sd ov g = s := by
   intro s g hg
   unfold ptL at hg
   split at hg
   ·exact (mem_side.1 hg).2.2
   ·cases hg
  have e1 := q _ a ha
  have e2 := q _ b hb
  rw [e, e2] at e1
  cases e1
 have hlen : ∀ g ∈ ptL m tq ov t false ++ ptL m tq ov t true, g.length ≤ 6 := fun g hg => by
  have := (qh_ (List.mem_filter.1 ((hmem g).1 hg)).1).2.2
  omega
 have hsort : (ptL m tq ov t false ++ ptL m tq ov t true).mergeSort leL = gpL m tq ov t := by
  refine rD_ (R := fun a b => cmpL a b < 0) (fun a b h => by rw [cmpL_flip a b]; omega) ?_ ((rE_ m hn).sublist List.filter_sublist) fun x => by rw [List.mem_mergeSort]; exact hmem x
  have p1 : ((ptL m tq ov t false ++ ptL m tq ov t true).mergeSort leL).Pairwise fun a b => leL a b = true := List.pairwise_mergeSort (fun a b c h1 h2 => by
   unfold leL at *
   rw [decide_eq_true_eq] at *
   exact cmpL_trans a b c h1 h2) (fun a b => by
   unfold leL
   rw [Bool.or_eq_true, decide_eq_true_eq, decide_eq_true_eq, cmpL_flip a b]
   omega) _
  have p2 : ((ptL m tq ov t false ++ ptL m tq ov t true).mergeSort leL).Pairwise (· ≠ ·) := (List.mergeSort_perm _ _).nodup_iff.2 hnd
  refine (p1.and p2).imp fun {a b} h => ?_
  have h3 : cmpL a b ≤ 0 := of_decide_eq_true h.1
  have h4 : cmpL a b ≠ 0 := fun e => h.2 (cmpL_zero a b e)
  omega
 unfold impl_Night_groups.f
 rw [q8_ h0 h1 h2 ts m hn false (by simp) hk, Option.bind_some, List.nil_append, q8_ h0 h1 h2 ts m hn true (by omega) hk, Option.bind_some]
 unfold grSort
 by_cases c : (ptL m tq ov t false ++ ptL m tq ov t true).length = 0
 ·rw [if_pos c]
  have e := List.length_eq_zero_iff.1 c
  have : gpL m tq ov t = [] := List.eq_nil_iff_forall_not_mem.2 fun x hx => by
   have := (hmem x).2 hx
   rw [e] at this
   cases this
  rw [this]
 ·rw [if_neg c, if_pos ⟨by rw [List.length_append]; omega, List.all_eq_true.2 fun x hx => decide_eq_true (by have := hlen x hx; omega)⟩, hsort]
theorem qM_ {α : Type} {l : List α} {i : Nat} {z : α} (h : i < l.length) : l.getD ((i : Int).toNat) z ∈ l := by
 rw [Int.toNat_natCast, List.getD_eq_getElem?_getD, List.getElem?_eq_getElem h]
 exact List.getElem_mem h
def qU_ (p : List Int → List Int → Bool) : List (List Int) → List (List (List Int))
 | [] => []
 | a :: ls => [a] :: (((ls.filter (p a)).map fun b => [a, b]) ++ qU_ p ls)
def roL (m : Nat) (tq : Int) (ov : List Bool) (t : Int) : List (List (List Int)) := qU_ (tg tq ov t) (gpL m tq ov t)
theorem rV_ {n m : Nat} {g : List Int} (h : g ∈ Gn n m) : 0 ≤ rd g 0 ∧ rd g 0 < (n : Int) := r8_ h _ (by
 have := (qh_ h).1
 unfold rd
 rw [List.getD_eq_getElem?_getD, List.getElem?_eq_getElem (by omega)]
 exact List.getElem_mem _)
theorem qB_ {tq t : Int} (h0 : 0 ≤ t) (h1 : t ≤ tq) (h2 : tq ≤ 2) (ts : List Int) (se : Int) {ov : List Bool} (hn : ov.length ≤ 6) {m : Nat} {a b : List Int} (ha : a ∈ Gn ov.length m) (hb : b ∈ Gn ov.length m) {k : Nat} (hk : 20 ≤ k) :
  impl_Night_together.f k ts se tq ov t a b = some (dj a b && ((sd ov a != sd ov b) || decide (1 < rg_ tq t (sd ov a)))) := by
 have a1 := rV_ ha
 have b1 := rV_ hb
 have a2 := qh_ ha
 have b2 := qh_ hb
 unfold impl_Night_together.f
 rw [if_pos (by omega), if_pos a1.1, if_pos a1.2, r1_ (by omega) (by omega), Option.bind_some]
 cases hd : dj a b
 ·rfl
 ·rw [if_neg (by decide), if_pos (by omega), if_pos b1.1, if_pos b1.2]
  show (if ((sd ov a) != (sd ov b)) = true then some true else (impl_Night_torches.f ts se tq ov t (sd ov a)).bind fun t349 => some (decide (t349 > 1))) = _
  cases he : sd ov a != sd ov b
  ·rw [if_neg (by decide), qw_ h0 h1 h2, Option.bind_some]
   rfl
  ·rfl
theorem qz_ {tq t : Int} (h0 : 0 ≤ t) (h1 : t ≤ tq) (h2 : tq ≤ 2) (ts : List Int) (se : Int) {ov : List Bool} (hn : ov.length ≤ 6) {m : Nat} {a : List Int} (ha : a ∈ Gn ov.length m) {k : Nat} (hk : 20 ≤ k) : ∀ (bs : List (List Int)) (acc : List (List (List Int))), (∀ b ∈ bs, b ∈ Gn ov.length m) → acc.length + bs.length ≤ 999999 →
  nrIn k ts se tq ov t a bs acc = some (acc ++ ((bs.filter (tg tq ov t a)).map fun b => [a, b]))
 | [], acc, _, _ => by simp [nrIn]
 | b :: bs, acc, hb, hl => by
  rw [List.length_cons] at hl
  have hb1 := hb b (by simp)
  have b2 := qh_ hb1
  have hb2 : ∀ x ∈ bs, x ∈ Gn ov.length m := fun x hx => hb x (by simp [hx])
  unfold nrIn
  by_cases c : 1 < tq
  ·rw [if_pos c, qB_ h0 h1 h2 ts se hn ha hb1 hk, Option.bind_some]
   have e : tg tq ov t a b = (dj a b && ((sd ov a != sd ov b) || decide (1 < rg_ tq t (sd ov a)))) := by unfold tg; rw [decide_eq_true c, Bool.true_and]
   rw [← e]
   cases hq : tg tq ov t a b
   ·rw [if_neg (by decide), qz_ h0 h1 h2 ts se hn ha hk bs acc hb2 (by omega), List.filter_cons_of_neg (by rw [hq]; decide)]
   ·rw [if_pos rfl, if_pos (by omega), qz_ h0 h1 h2 ts se hn ha hk bs _ hb2 (by rw [List.length_append, List.length_singleton]; omega), List.filter_cons_of_pos hq]
    simp
  ·have e : ∀ b, tg tq ov t a b = false := fun b => by unfold tg; rw [decide_eq_false c, Bool.false_and]
   rw [if_neg c, qz_ h0 h1 h2 ts se hn ha hk bs acc hb2 (by omega), List.filter_cons_of_neg (by rw [e]; decide)]
theorem qP_ {tq t : Int} (h0 : 0 ≤ t) (h1 : t ≤ tq) (h2 : tq ≤ 2) (ts : List Int) (se : Int) {ov : List Bool} (hn : ov.length ≤ 6) {m : Nat} {k : Nat} (hk : 20 ≤ k) : ∀ (ls : List (List Int)) (acc : List (List (List Int))), (∀ b ∈ ls, b ∈ Gn ov.length m) → ls.length ≤ 63 → acc.length + 100 * ls.length ≤ 100000 →
  nrOut k ts se tq ov t ls acc = some (acc ++ qU_ (tg tq ov t) ls)
 | [], acc, _, _, _ => by simp [nrOut, qU_]
 | a :: ls, acc, hb, h63, hl => by
  rw [List.length_cons] at hl h63
  have ha := hb a (by simp)
  have a2 := qh_ ha
  have hb2 : ∀ x ∈ ls, x ∈ Gn ov.length m := fun x hx => hb x (by simp [hx])
  have hf := List.length_filter_le (tg tq ov t a) ls
  unfold nrOut
  rw [if_pos (by omega), qz_ h0 h1 h2 ts se hn ha hk ls _ hb2 (by rw [List.length_append, List.length_singleton]; omega), Option.bind_some,
   qP_ h0 h1 h2 ts se hn hk ls _ hb2 (by omega) (by rw [List.length_append, List.length_append, List.length_map, List.length_singleton]; omega)]
  simp [qU_]
theorem rC_ {m : Nat} {tq : Int} {ov : List Bool} {t : Int} {g : List Int} (h : g ∈ gpL m tq ov t) : g ∈ Gn ov.length m ∧ okG tq ov t g = true := List.mem_filter.1 h
theorem r9_ {n : Nat} (m : Nat) (hn : n ≤ 6) : (Gn n m).length ≤ 63 := by
 have h1 := qr_ m (Rn n) []
 have h2 : (Rn n).length = n := by unfold Rn; rw [List.length_map, List.length_range]
 have h3 : 2 ^ n ≤ 2 ^ 6 := Nat.pow_le_pow_right (by decide) hn
 rw [h2] at h1
 unfold Gn
 omega
theorem rl_ {tq t : Int} (h0 : 0 ≤ t) (h1 : t ≤ tq) (h2 : tq ≤ 2) (ts : List Int) (m : Nat) {ov : List Bool} (hn : ov.length ≤ 6) {k : Nat} (hk : 20 ≤ k) : impl_Night_rounds.f k ts (m : Int) tq ov t = some (roL m tq ov t) := by
 have h3 := r9_ m hn
 have h4 : (gpL m tq ov t).length ≤ (Gn ov.length m).length := List.length_filter_le _ _
 unfold impl_Night_rounds.f
 rw [rv_ h0 h1 h2 ts m hn hk, Option.bind_some, if_pos (by omega), qP_ h0 h1 h2 ts (m : Int) hn hk _ _ (fun b hb => (rC_ hb).1) (by omega) (by simp; omega), List.nil_append]
 rfl
/-! What the model lists. -/
theorem rz_ {n m : Nat} (hn : n ≤ 6) {g : List Int} (h : g ∈ Gn n m) {k : Nat} (hk : 20 ≤ k) : spec_cuBits.f k g = some (cb g) ∧ Go.bits .and .i64 0 (cb g) = 0 := by
 have h1 := List.all_eq_true.1 chkA g (rO_ hn h)
 rw [Bool.and_eq_true, beq_iff_eq, decide_eq_true_eq] at h1
 exact ⟨qD_ (spec_cuBits.mono _) hk h1.1, h1.2⟩
theorem qQ_ {n m : Nat} (hn : n ≤ 6) {a b : List Int} (ha : a ∈ Gn n m) (hb : b ∈ Gn n m) {k : Nat} (hk : 20 ≤ k) : spec_cuBefore.f k a b = some (decide (cmpL a b < 0)) ∧ (Go.bits .and .i64 (Go.bits .or .i64 0 (cb a)) (cb b) = 0 ↔ dj a b = true) := by
 have h1 := List.all_eq_true.1 (List.all_eq_true.1 chkB a (rO_ hn ha)) b (rO_ hn hb)
 rw [Bool.and_eq_true, beq_iff_eq, beq_iff_eq] at h1
 refine ⟨qD_ (spec_cuBefore.mono _ _) hk h1.2, ?_⟩
 rw [← h1.1, decide_eq_true_eq]
theorem ro_ {n m : Nat} (hn : n ≤ 6) {g : List Int} (h : g ∈ Gn n m) {k : Nat} (hk : 20 ≤ k) : spec_l1Rising.f k g 0 ((n : Int) - 1) = some true := by
 have h1 := List.all_eq_true.1 chkR n (List.mem_range.2 (by omega))
 rw [Bool.and_eq_true] at h1
 exact qD_ (spec_l1Rising.mono _ _ _) hk (beq_iff_eq.1 (List.all_eq_true.1 h1.1 g ((qf_ m _ _).subset h)))
theorem qy_ {ts : List Int} (hn : ts.length ≤ 6) {m : Nat} (tq : Int) {L : List (List Int)} (hL : L.length ≤ 2) {i : Nat} (hi : i < L.length) {g : List Int} (hg : rd_L2 L (i : Int) = g) (h : g ∈ Gn ts.length m) (x : Int) {k : Nat} (hk : 20 ≤ k) :
  spec_toGroups.l0 (k + 1) x L (L.length : Int) (i : Int) ts (m : Int) tq = if Go.bits .and .i64 x (cb g) = 0 then spec_toGroups.l0 k (Go.bits .or .i64 x (cb g)) L (L.length : Int) ((i + 1 : Nat) : Int) ts (m : Int) tq else some false := by
 have l := qh_ h
 simp only [spec_toGroups.l0]
 rw [if_pos (by omega), if_pos (by omega), if_pos (by omega), hg, qi_, Option.bind_some, if_pos (by rw [inB_true]; omega), show wrap64 ((ts.length : Int) - 1) = (ts.length : Int) - 1 from qc_ (by omega) (by omega), ro_ hn h hk, Option.bind_some, if_pos rfl, (rz_ hn h hk).1, Option.bind_some, Option.bind_some, qa_ hi (by omega)]
theorem toG1 {ts : List Int} (hn : ts.length ≤ 6) {m : Nat} {tq : Int} (h1 : 1 ≤ tq) {a : List Int} (ha : a ∈ Gn ts.length m) {k : Nat} (hk : 30 ≤ k) : spec_toGroups.f k ts (m : Int) tq [a] = some true := by
 obtain ⟨k, rfl⟩ : ∃ k', k = k' + 2 := ⟨k - 2, by omega⟩
 unfold spec_toGroups.f
 rw [qi_, Option.bind_some, if_pos (by rw [inB_true]; simp; omega), show (0 : Int) = ((0 : Nat) : Int) from rfl, qy_ hn tq (by simp) (i := 0) (by simp) (g := a) rfl ha _ (by omega), if_pos (by exact (rz_ hn ha (Nat.le_refl 20)).2)]
 simp only [spec_toGroups.l0]
 rw [if_neg (by simp)]
theorem toG2 {ts : List Int} (hn : ts.length ≤ 6) {m : Nat} {tq : Int} (h1 : 1 ≤ tq) {a b : List Int} (ha : a ∈ Gn ts.length m) (hb : b ∈ Gn ts.length m) {k : Nat} (hk : 30 ≤ k) : spec_toGroups.f k ts (m : Int) tq [a, b] = some (decide (1 < tq) && dj a b) := by
 obtain ⟨k, rfl⟩ : ∃ k', k = k' + 3 := ⟨k - 3, by omega⟩
 unfold spec_toGroups.f
 rw [qi_, Option.bind_some]
 by_cases c : 1 < tq
 ·rw [if_pos (by rw [inB_true]; simp; omega), decide_eq_true c, Bool.true_and, show (0 : Int) = ((0 : Nat) : Int) from rfl, qy_ hn tq (by simp) (i := 0) (by simp) (g := a) rfl ha _ (by omega), if_pos (by exact (rz_ hn ha (Nat.le_refl 20)).2),
   qy_ hn tq (by simp) (i := 0 + 1) (by simp) (g := b) rfl hb _ (by omega)]
  have h3 : Go.bits .and .i64 (Go.bits .or .i64 ((0 : Nat) : Int) (cb a)) (cb b) = 0 ↔ dj a b = true := (qQ_ hn ha hb (Nat.le_refl 20)).2
  cases hd : dj a b
  ·rw [if_neg (fun e => by have := h3.1 e; rw [hd] at this; cases this)]
  ·rw [if_pos (h3.2 hd)]
   simp only [spec_toGroups.l0]
   rw [if_neg (by simp)]
 ·rw [if_neg (fun e => by rw [inB_true] at e; simp at e; omega), decide_eq_false c]
  rfl
theorem w01 : wrap64 ((0 : Int) + 1) = ((1 : Nat) : Int) := (qc_ (by omega) (by omega)).trans (by omega)
theorem w12 : wrap64 (((1 : Nat) : Int) + 1) = ((2 : Nat) : Int) := (qc_ (by omega) (by omega)).trans (by omega)
theorem w10 : wrap64 (((1 : Nat) : Int) - 1) = 0 := (qc_ (by omega) (by omega)).trans (by omega)
theorem rM_ {ov : List Bool} (t : Int) (x2 L : List (List Int)) (x7 x8 len0 i0 : Int) {g : List Int} (hg : ∀ x ∈ g, 0 ≤ x ∧ x < (ov.length : Int)) (h0 : 0 < g.length) (hl : g.length ≤ 100) : ∀ (d K i : Nat), i + d = g.length →
  spec_toCan.l1 (K + 1 + d) x2 x7 x8 g L len0 i0 g (g.length : Int) (i : Int) ov t = if ((g.drop i).all fun x => rdOf false ov x == sd ov g) = true then (if sd ov g = true then spec_toCan.l0 K x2 x7 (wrap64 (x8 - 1)) L len0 (wrap64 (i0 + 1)) ov t else spec_toCan.l0 K x2 (wrap64 (x7 - 1)) x8 L len0 (wrap64 (i0 + 1)) ov t) else some false := by
 have hr : 0 ≤ rd g 0 ∧ rd g 0 < (ov.length : Int) := hg _ (by
  unfold rd
  rw [List.getD_eq_getElem?_getD, List.getElem?_eq_getElem (by omega)]
  exact List.getElem_mem _)
 intro d
 induction d with
 | zero =>
  intro K i hi
  rw [show K + 1 + 0 = K + 1 by omega, spec_toCan.l1.eq_2, if_neg (by omega), if_pos (by omega), if_pos hr.1, if_pos hr.2, List.drop_of_length_le (by omega)]
  rfl
 | succ d ih =>
  intro K i hi
  have hlt : i < g.length := by omega
  have hx : 0 ≤ rd g (i : Int) ∧ rd g (i : Int) < (ov.length : Int) := hg _ (qM_ hlt)
  rw [show K + 1 + (d + 1) = (K + 1 + d) + 1 by omega, spec_toCan.l1.eq_2, if_pos (by omega), if_pos (by omega), if_pos (by omega), if_pos hx.1, if_pos hx.2, if_pos (by omega), if_pos hr.1, if_pos hr.2, qa_ hlt (by omega), ih K (i + 1) (by omega), qe_ g i hlt 0, List.all_cons]
  show (if (rdOf false ov (rd g (i : Int)) != sd ov g) = true then some false else _) = if ((rdOf false ov (rd g (i : Int)) == sd ov g) && _) = true then _ else _
  cases e : rdOf false ov (rd g (i : Int)) == sd ov g
  ·rw [if_pos (by unfold bne; rw [e]; rfl), Bool.false_and, if_neg (by decide)]
  ·rw [if_neg (by unfold bne; rw [e]; decide), Bool.true_and]
theorem q1_ {ov : List Bool} (t : Int) (L : List (List Int)) (hL : L.length ≤ 2) (x7 x8 : Int) (k : Nat) : spec_toCan.l0 (k + 1) L x7 x8 L (L.length : Int) (L.length : Int) ov t = some (decide (x7 ≥ 0) && decide (x8 ≥ 0)) := by
 rw [spec_toCan.l0.eq_2, if_neg (by omega)]
 by_cases c : x7 ≥ 0
 ·rw [if_pos c, decide_eq_true c, Bool.true_and]
 ·rw [if_neg c, decide_eq_false c, Bool.false_and]
theorem can1 {tq t : Int} (h0 : 0 ≤ t) (h1 : t ≤ tq) (h2 : tq ≤ 2) (h3 : 1 ≤ tq) {ts : List Int} {m : Nat} {ov : List Bool} (hl : ov.length = ts.length) (hn : ts.length ≤ 6) {a : List Int} (ha : a ∈ Gn ts.length m) {k : Nat} (hk : 60 ≤ k) : spec_toCan.f k ts (m : Int) tq ov t [a] = some (okG tq ov t a) := by
 have al := qh_ ha
 obtain ⟨K, hK⟩ : ∃ K, k = (K + 10 + 1 + a.length) + 1 + 1 := ⟨k - 13 - a.length, by omega⟩
 unfold spec_toCan.f
 rw [toG1 hn h3 ha (by omega), Option.bind_some, if_pos rfl, hK, spec_toCan.l0.eq_2, if_pos (by simp), if_pos (by omega), if_pos (by simp), if_neg (by omega), spec_toCan.j1.eq_2, if_neg (by decide)]
 show spec_toCan.l1 (K + 10 + 1 + a.length) [a] (wrap64 (tq - t)) t a [a] _ 0 a (a.length : Int) ((0 : Nat) : Int) ov t = _
 rw [rM_ t [a] [a] _ _ _ 0 (by rw [hl]; exact r8_ ha) al.1 (by omega) a.length (K + 10) 0 (by omega), List.drop_zero]
 unfold okG okO
 cases e : a.all fun x => rdOf false ov x == sd ov a
 ·rw [if_neg (by decide), Bool.false_and]
 ·rw [if_pos rfl, Bool.true_and, show wrap64 ((0 : Int) + 1) = (([a] : List (List Int)).length : Int) from w01, show wrap64 (tq - t) = tq - t from qc_ (by omega) (by omega)]
  rw [show wrap64 (t - 1) = t - 1 from qc_ (by omega) (by omega), show wrap64 (tq - t - 1) = tq - t - 1 from qc_ (by omega) (by omega), q1_ t [a] (by simp), q1_ t [a] (by simp)]
  unfold rg_
  cases e2 : sd ov a
  ·rw [if_neg (by decide), if_neg (by decide)]
   refine congrArg some ?_
   rw [decide_eq_true (by omega : t ≥ 0), Bool.and_true]
   exact decide_eq_decide.2 (by omega)
  ·rw [if_pos rfl, if_pos rfl]
   refine congrArg some ?_
   rw [decide_eq_true (by omega : tq - t ≥ 0), Bool.true_and]
   exact decide_eq_decide.2 (by omega)
def cn2 (tq : Int) (ov : List Bool) (t : Int) (a b : List Int) : Bool := okG tq ov t a && (okG tq ov t b && tg tq ov t a b)
theorem can2 {tq t : Int} (h0 : 0 ≤ t) (h1 : t ≤ tq) (h2 : tq ≤ 2) (h3 : 1 ≤ tq) {ts : List Int} {m : Nat} {ov : List Bool} (hl : ov.length = ts.length) (hn : ts.length ≤ 6) {a b : List Int} (ha : a ∈ Gn ts.length m) (hb : b ∈ Gn ts.length m) (hab : cmpL a b < 0) {k : Nat} (hk : 60 ≤ k) : spec_toCan.f k ts (m : Int) tq ov t [a, b] = some (cn2 tq ov t a b) := by
 have al := qh_ ha
 have bl := qh_ hb
 obtain ⟨K, hK⟩ : ∃ K, k = (K + 30 + 1 + b.length + 1 + 1 + 1 + a.length) + 1 + 1 := ⟨k - 36 - a.length - b.length, by omega⟩
 unfold spec_toCan.f
 rw [toG2 hn h3 ha hb (by omega), Option.bind_some]
 by_cases c : 1 < tq ∧ dj a b = true
 rotate_left
 ·have e : (decide (1 < tq) && dj a b) = false := by
   cases hd : dj a b
   ·rw [Bool.and_false]
   ·rw [decide_eq_false (fun q => c ⟨q, hd⟩), Bool.false_and]
  have e2 : cn2 tq ov t a b = false := by
   unfold cn2 tg
   rw [← Bool.and_assoc (decide (1 < tq)), e, Bool.false_and, Bool.and_false, Bool.and_false]
  rw [e, if_neg (by decide), e2]
 have e : (decide (1 < tq) && dj a b) = true := by rw [decide_eq_true c.1, c.2]; rfl
 rw [e, if_pos rfl, hK, spec_toCan.l0.eq_2, if_pos (by simp), if_pos (by omega), if_pos (by simp), if_neg (by omega), spec_toCan.j1.eq_2, if_neg (by decide)]
 show spec_toCan.l1 (K + 30 + 1 + b.length + 1 + 1 + 1 + a.length) [a, b] (wrap64 (tq - t)) t a [a, b] _ 0 a (a.length : Int) ((0 : Nat) : Int) ov t = _
 have w1 : wrap64 (tq - t) = tq - t := qc_ (by omega) (by omega)
 have w2 : wrap64 (t - 1) = t - 1 := qc_ (by omega) (by omega)
 have w3 : wrap64 (tq - t - 1) = tq - t - 1 := qc_ (by omega) (by omega)
 have w4 : wrap64 (t - 1 - 1) = t - 2 := by rw [qc_ (by omega) (by omega)]; omega
 have w5 : wrap64 (tq - t - 1 - 1) = tq - t - 2 := by rw [qc_ (by omega) (by omega)]; omega
 have second : ∀ x7 x8, spec_toCan.l0 (K + 30 + 1 + b.length + 1 + 1) [a, b] x7 x8 [a, b] (([a, b] : List (List Int)).length : Int) (wrap64 (0 + 1)) ov t = if okO ov b = true then (if sd ov b = true then some (decide (x7 ≥ 0) && decide (wrap64 (x8 - 1) ≥ 0)) else some (decide (wrap64 (x7 - 1) ≥ 0) && decide (x8 ≥ 0))) else some false := by
  intro x7 x8
  rw [w01, spec_toCan.l0.eq_2, if_pos (by simp), if_pos (by omega), if_pos (by simp), if_pos (by omega), w10, if_pos (by omega), if_pos (by simp)]
  show (spec_cuBefore.f _ a b).bind _ = _
  rw [(qQ_ hn ha hb (by omega)).1, Option.bind_some, decide_eq_true hab, spec_toCan.j1.eq_2, if_neg (by decide)]
  show spec_toCan.l1 (K + 30 + 1 + b.length) [a, b] x7 x8 b [a, b] _ ((1 : Nat) : Int) b (b.length : Int) ((0 : Nat) : Int) ov t = _
  rw [rM_ t [a, b] [a, b] _ _ _ ((1 : Nat) : Int) (by rw [hl]; exact r8_ hb) bl.1 (by omega) b.length (K + 30) 0 (by omega), List.drop_zero, show wrap64 (((1 : Nat) : Int) + 1) = (([a, b] : List (List Int)).length : Int) from w12, q1_ t [a, b] (by simp), q1_ t [a, b] (by simp)]
  rfl
 rw [w1, rM_ t [a, b] [a, b] _ _ _ 0 (by rw [hl]; exact r8_ ha) al.1 (by omega) a.length (K + 30 + 1 + b.length + 1 + 1) 0 (by omega), List.drop_zero, second, second]
 unfold cn2 okG tg
 rw [decide_eq_true c.1, c.2, Bool.true_and, Bool.true_and]
 show (if okO ov a = true then _ else _) = _
 cases ea : okO ov a
 ·rfl
 cases eb : okO ov b
 ·simp
 simp only [if_true, Bool.true_and, w2, w3]
 unfold rg_
 cases sa : sd ov a <;> cases sb : sd ov b
 ·simp only [Bool.false_eq_true, if_false, w5, bne_self_eq_false, Bool.false_or]
  refine congrArg some ?_
  rw [Bool.eq_iff_iff]
  simp only [Bool.and_eq_true, decide_eq_true_eq]
  omega
 ·simp only [Bool.false_eq_true, if_false, if_true, w2, w3]
  refine congrArg some ?_
  rw [Bool.eq_iff_iff]
  simp
  omega
 ·simp only [Bool.false_eq_true, if_false, if_true, w2, w3]
  refine congrArg some ?_
  rw [Bool.eq_iff_iff]
  simp
  omega
 ·simp only [if_true, w4, bne_self_eq_false, Bool.false_or]
  refine congrArg some ?_
  rw [Bool.eq_iff_iff]
  simp only [Bool.and_eq_true, decide_eq_true_eq]
  omega
def rP_ (c1 : List Int → Bool) (c2 : List Int → List Int → Bool) : List (List Int) → List (List (List Int))
 | [] => []
 | a :: ls => (if c1 a = true then [[a]] else []) ++ (((ls.filter (c2 a)).map fun b => [a, b]) ++ rP_ c1 c2 ls)
theorem rm_ (tq : Int) (ov : List Bool) (t : Int) : ∀ ls : List (List Int), rP_ (okG tq ov t) (cn2 tq ov t) ls = qU_ (tg tq ov t) (ls.filter (okG tq ov t))
 | [] => rfl
 | a :: ls => by
  unfold rP_
  rw [rm_ tq ov t ls]
  cases e : okG tq ov t a
  ·rw [if_neg (by decide), List.filter_cons_of_neg (by rw [e]; decide), List.filter_eq_nil_iff.2 (fun b _ => by unfold cn2; rw [e]; simp)]
   rfl
  ·rw [if_pos rfl, List.filter_cons_of_pos e]
   show _ = [a] :: ((((ls.filter (okG tq ov t)).filter (tg tq ov t a)).map fun b => [a, b]) ++ qU_ (tg tq ov t) (ls.filter (okG tq ov t)))
   rw [List.filter_filter, show (ls.filter fun x => tg tq ov t a x && okG tq ov t x) = ls.filter (cn2 tq ov t a) from List.filter_congr fun b _ => by unfold cn2; rw [e, Bool.true_and, Bool.and_comm]]
   rfl
theorem rr_ {l : List Int} (h : l.length ≤ 1000000) : spec_l1Own.f l = some l := by
 unfold spec_l1Own.f
 rw [Option.bind_some, if_pos (by simp only [List.length_nil]; omega), List.nil_append]
theorem rQ_ {tq t : Int} (h0 : 0 ≤ t) (h1 : t ≤ tq) (h2 : tq ≤ 2) (h3 : 1 ≤ tq) {ts : List Int} {m : Nat} {ov : List Bool} (hl : ov.length = ts.length) (hn : ts.length ≤ 6) {a : List Int} (ha : a ∈ Gn ts.length m) (G L : List (List Int)) (x31 x32 : Int) {rest : List (List Int)} (hr : ∀ b ∈ rest, b ∈ Gn ts.length m ∧ cmpL a b < 0) (h63 : rest.length ≤ 63) : ∀ (d k i : Nat) (acc : List (List (List Int))), i + d = rest.length → 100 ≤ k → acc.length + d ≤ 1000000 →
  spec_toRounds.l2 (k + 1 + d) G acc a L x31 x32 rest (rest.length : Int) (i : Int) ts (m : Int) tq ov t = spec_toRounds.l1 k G (acc ++ (((rest.drop i).filter (cn2 tq ov t a)).map fun b => [a, b])) L x31 (wrap64 (x32 + 1)) ts (m : Int) tq ov t := by
 intro d
 induction d with
 | zero =>
  intro k i acc hi hk _
  rw [show k + 1 + 0 = k + 1 by omega, spec_toRounds.l2.eq_2, if_neg (by omega), List.drop_of_length_le (by omega)]
  simp
 | succ d ih =>
  intro k i acc hi hk hac
  have hlt : i < rest.length := by omega
  have hb := hr (rd_L2 rest (i : Int)) (qM_ hlt)
  have al := qh_ ha
  have bl := qh_ hb.1
  rw [show k + 1 + (d + 1) = (k + 1 + d) + 1 by omega, spec_toRounds.l2.eq_2, if_pos (by omega), if_pos (by omega), if_pos (by omega), rr_ (by omega), Option.bind_some, rr_ (by omega), Option.bind_some, Option.bind_some, can2 h0 h1 h2 h3 hl hn ha hb.1 hb.2 (by omega), Option.bind_some, qa_ hlt (by omega), qe_ rest i hlt []]
  show (if cn2 tq ov t a (rest.getD i []) = true then _ else _) = _
  cases e : cn2 tq ov t a (rest.getD i [])
  ·rw [if_neg (by decide), ih k (i + 1) acc (by omega) hk (by omega), List.filter_cons_of_neg (by rw [e]; decide)]
  ·rw [if_pos rfl, if_pos (by omega), ih k (i + 1) _ (by omega) hk (by rw [List.length_append, List.length_singleton]; omega), List.filter_cons_of_pos e]
   simp
   rfl
theorem rR_ {tq t : Int} (h0 : 0 ≤ t) (h1 : t ≤ tq) (h2 : tq ≤ 2) (h3 : 1 ≤ tq) {ts : List Int} {m : Nat} {ov : List Bool} (hl : ov.length = ts.length) (hn : ts.length ≤ 6) {G : List (List Int)} (hG : G = Gn ts.length m) : ∀ (d k i : Nat) (acc : List (List (List Int))), i + d = G.length → 101 + 70 * d ≤ k → acc.length + 100 * d ≤ 100000 →
  spec_toRounds.l1 k G acc G (G.length : Int) (i : Int) ts (m : Int) tq ov t = some (acc ++ rP_ (okG tq ov t) (cn2 tq ov t) (G.drop i)) := by
 have h63 : G.length ≤ 63 := by rw [hG]; exact r9_ m hn
 have hasc : G.Pairwise fun a b => cmpL a b < 0 := by rw [hG]; exact rE_ m hn
 intro d
 induction d with
 | zero =>
  intro k i acc hi hk _
  obtain ⟨k, rfl⟩ : ∃ k', k = k' + 1 := ⟨k - 1, by omega⟩
  rw [spec_toRounds.l1.eq_2, if_neg (by omega), List.drop_of_length_le (by omega)]
  simp [rP_]
 | succ d ih =>
  intro k i acc hi hk hac
  have hlt : i < G.length := by omega
  have ha : rd_L2 G (i : Int) ∈ Gn ts.length m := by rw [← hG]; exact qM_ hlt
  have al := qh_ ha
  have hdl : (G.drop (i + 1)).length = d := by rw [List.length_drop]; omega
  obtain ⟨k, rfl⟩ : ∃ k', k = k' + 1 + d + 1 := ⟨k - 2 - d, by omega⟩
  have hdrop := qe_ G i hlt []
  have hpw : ∀ b ∈ G.drop (i + 1), b ∈ Gn ts.length m ∧ cmpL (rd_L2 G (i : Int)) b < 0 := by
   intro b hb
   refine ⟨by rw [← hG]; exact List.mem_of_mem_drop hb, ?_⟩
   have h4 := hasc.sublist (List.drop_sublist i G)
   rw [hdrop, List.pairwise_cons] at h4
   exact h4.1 b hb
  have hf : ∀ c : List Int → Bool, ((G.drop (i + 1)).filter c).length ≤ d := fun c => by have := List.length_filter_le c (G.drop (i + 1)); omega
  rw [spec_toRounds.l1.eq_2, if_pos (by omega), if_pos (by omega), if_pos (by omega), rr_ (by omega), Option.bind_some, Option.bind_some, can1 h0 h1 h2 h3 hl hn ha (by omega), Option.bind_some, qa_ hlt (by omega), Int.toNat_natCast, if_pos (by omega : acc.length < 5864062014805)]
  simp only [if_pos (by omega : (0 : Int) ≤ ((i + 1 : Nat) : Int)), if_pos (by omega : ((i + 1 : Nat) : Int) ≤ (G.length : Int)), Option.bind_some]
  have key : ∀ acc2 : List (List (List Int)), acc2.length + d ≤ 1000000 → spec_toRounds.l2 (k + 1 + d) G acc2 (rd_L2 G (i : Int)) G (G.length : Int) (i : Int) (G.drop (i + 1)) ((G.drop (i + 1)).length : Int) 0 ts (m : Int) tq ov t = spec_toRounds.l1 k G (acc2 ++ (((G.drop (i + 1)).filter (cn2 tq ov t (rd_L2 G (i : Int)))).map fun b => [rd_L2 G (i : Int), b])) G (G.length : Int) ((i + 1 : Nat) : Int) ts (m : Int) tq ov t := by
   intro acc2 h2c
   have h5 := rQ_ h0 h1 h2 h3 hl hn ha G G (G.length : Int) (i : Int) hpw (by omega) d k 0 acc2 (by omega) (by omega) h2c
   rw [List.drop_zero, qa_ hlt (by omega)] at h5
   exact h5
  rw [hdrop]
  unfold rP_
  have hfl := hf (cn2 tq ov t (rd_L2 G (i : Int)))
  show (if okG tq ov t (G.getD i []) = true then _ else _) = _
  cases e : okG tq ov t (G.getD i [])
  ·rw [if_neg (by decide), key acc (by omega), ih k (i + 1) _ (by omega) (by omega) (by rw [List.length_append, List.length_map]; omega), if_neg (by decide), List.append_assoc]
   rfl
  ·rw [if_pos rfl, key _ (by rw [List.length_append, List.length_singleton]; omega), ih k (i + 1) _ (by omega) (by omega) (by rw [List.length_append, List.length_append, List.length_map, List.length_singleton]; omega), if_pos rfl, List.append_assoc, List.append_assoc]
   rfl
theorem rN_ (i : Nat) : Rn (i + 1) = Rn i ++ [(i : Int)] := by unfold Rn; rw [List.range_succ, List.map_append]; rfl
theorem rS_ {tq t : Int} (h0 : 0 ≤ t) (h1 : t ≤ tq) (h2 : tq ≤ 2) (h3 : 1 ≤ tq) {ts : List Int} {m : Nat} {ov : List Bool} (hl : ov.length = ts.length) (hn : ts.length ≤ 6) : ∀ (d k i : Nat), i + d = ts.length → 6000 ≤ k →
  spec_toRounds.l0 (k + 1 + d) (Rn i) (ts.length : Int) (i : Int) ts (m : Int) tq ov t = some (roL m tq ov t) := by
 intro d
 induction d with
 | zero =>
  intro k i hi hk
  have h63 := r9_ m hn
  have hRl : (Rn i).length = i := by unfold Rn; rw [List.length_map, List.length_range]
  have hp := (qV_ (x0 := Rn i) (by omega) m (Rn i).length).2 k 0 [] (by omega) (by omega) (by simp) (by simp)
  rw [List.drop_zero, if_neg (by simp), List.nil_append] at hp
  rw [show k + 1 + 0 = k + 1 by omega, spec_toRounds.l0.eq_2, if_neg (by omega), show (0 : Int) = ((0 : Nat) : Int) from rfl, hp, Option.bind_some]
  have hi2 : i = ts.length := by omega
  subst hi2
  show spec_toRounds.l1 k (Gn ts.length m) [] (Gn ts.length m) ((Gn ts.length m).length : Int) ((0 : Nat) : Int) ts (m : Int) tq ov t = _
  rw [rR_ h0 h1 h2 h3 hl hn rfl (Gn ts.length m).length k 0 [] (by omega) (by omega) (by simp; omega), List.nil_append, List.drop_zero, rm_]
  unfold roL gpL
  rw [hl]
 | succ d ih =>
  intro k i hi hk
  have hRl : (Rn i).length = i := by unfold Rn; rw [List.length_map, List.length_range]
  have hlt : i < ts.length := by omega
  rw [show k + 1 + (d + 1) = (k + 1 + d) + 1 by omega, spec_toRounds.l0.eq_2, if_pos (by omega), if_pos (by omega), qa_ hlt (by omega), ← rN_, ih k (i + 1) (by omega) hk]
theorem qC_ {tq t : Int} (h0 : 0 ≤ t) (h1 : t ≤ tq) (h2 : tq ≤ 2) (h3 : 1 ≤ tq) {ts : List Int} (m : Nat) {ov : List Bool} (hl : ov.length = ts.length) (hn : ts.length ≤ 6) {k : Nat} (hk : 7000 ≤ k) : spec_toRounds.f k ts (m : Int) tq ov t = some (roL m tq ov t) := by
 obtain ⟨K, hK⟩ : ∃ K, k = K + 1 + ts.length := ⟨k - 1 - ts.length, by omega⟩
 unfold spec_toRounds.f
 rw [hK]
 exact rS_ h0 h1 h2 h3 hl hn ts.length K 0 (by omega) (by omega)
theorem rn_ {p : List Int → List Int → Bool} {r : List (List Int)} : ∀ {L : List (List Int)}, r ∈ qU_ p L → r.length ≤ 2 ∧ ∀ g ∈ r, g ∈ L
 | [], h => by simp [qU_] at h
 | a :: L, h => by
  unfold qU_ at h
  rcases List.mem_cons.1 h with e | h
  ·rw [e]
   exact ⟨by simp, fun g hg => by simp [List.mem_singleton.1 hg]⟩
  rcases List.mem_append.1 h with h | h
  ·obtain ⟨b, hb, e⟩ := List.mem_map.1 h
   rw [← e]
   have := (List.mem_filter.1 hb).1
   refine ⟨by simp, fun g hg => ?_⟩
   rcases List.mem_cons.1 hg with e | e
   ·simp [e]
   ·simp [List.mem_singleton.1 e, this]
  ·obtain ⟨h1, h2⟩ := rn_ h
   exact ⟨h1, fun g hg => List.mem_cons_of_mem _ (h2 g hg)⟩
theorem rT_ {m : Nat} {tq : Int} {ov : List Bool} (hn : ov.length ≤ 6) {t : Int} {r : List (List Int)} (h : r ∈ roL m tq ov t) : r.length ≤ 2 ∧ ∀ g ∈ r, g.length ≤ 10 := by
 obtain ⟨h1, h2⟩ := rn_ h
 exact ⟨h1, fun g hg => by have := qh_ (rC_ (h2 g hg)).1; omega⟩
theorem qO_ (p : List Int → List Int → Bool) : ∀ L : List (List Int), L.length ≤ 63 → (qU_ p L).length ≤ 64 * L.length
 | [], _ => by simp [qU_]
 | a :: L, h => by
  rw [List.length_cons] at h
  have := qO_ p L (by omega)
  have := List.length_filter_le (p a) L
  simp only [qU_, List.length_cons, List.length_append, List.length_map]
  omega
theorem rH_ (m : Nat) (tq : Int) {ov : List Bool} (hn : ov.length ≤ 6) (t : Int) : (roL m tq ov t).length ≤ 4032 := by
 have h1 : (gpL m tq ov t).length ≤ (Gn ov.length m).length := List.length_filter_le _ _
 have h2 := r9_ m hn
 have := qO_ (tg tq ov t) (gpL m tq ov t) (by omega)
 unfold roL
 omega
theorem qk_ {l : List Int} {s t : Int} {b : Nat} (hb : b ≤ 1048576) (hn : l.length ≤ 9223372036854775807) : laws_szNight.f l s t (b : Int) = some (if l.length ≤ b then ((b - l.length : Nat) : Int) else -1) := by
 unfold laws_szNight.f laws_szIntS.f
 rw [qc_ (by omega) (by omega)]
 by_cases h : l.length ≤ b
 ·rw [if_neg (by omega), Option.bind_some, if_neg (by omega), if_pos h]
  congr 1
  omega
 ·rw [if_pos (by omega), Option.bind_some, if_pos (by omega), if_neg h]
theorem qR_ {l : List Int} (hn : l.length ≤ 1048576) (s t : Int) {k : Nat} (hk : l.length < k) : laws_toNight.f k l s t = some (l, s, t) := by
 unfold laws_toNight.f
 rw [ri_ hn hk]
 rfl
theorem qq_ {α : Type} {l : List α} {i : Nat} (h : i < l.length) (z : α) : l.getD i z ∈ l := by
 rw [List.getD_eq_getElem?_getD, List.getElem?_eq_getElem h]
 exact List.getElem_mem h
theorem rA_ (l : List (List Int)) (i : Nat) : rd_L2 l (i : Int) = l.getD i [] := by
 unfold rd_L2
 rw [Int.toNat_natCast]
theorem rb_ {l : List (List Int)} (hn : l.length ≤ 1048576) (hl : ∀ x ∈ l, x.length ≤ 1048576) : ∀ (d k i : Nat), i + d = l.length → d + 1048577 < k → laws_eqIntSS.l0 k l l (i : Int) = some true := by
 intro d
 induction d with
 | zero =>
  intro k i hi hk
  obtain ⟨k, rfl⟩ := qb_ hk
  simp only [laws_eqIntSS.l0]
  rw [if_neg (by omega)]
 | succ d ih =>
  intro k i hi hk
  obtain ⟨k, rfl⟩ := qb_ hk
  have hlt : i < l.length := by omega
  have hm := hl _ (qq_ hlt [])
  simp only [laws_eqIntSS.l0, rA_]
  rw [if_pos (by omega), if_pos (by omega), if_pos (by omega), qA_ (by omega) (by omega), Option.bind_some, if_pos rfl, qa_ hlt (by omega)]
  exact ih k (i + 1) (by omega) (by omega)
theorem rc_ {l : List (List Int)} (hn : l.length ≤ 1048576) (hl : ∀ x ∈ l, x.length ≤ 1048576) {k : Nat} (hk : l.length + 1048577 < k) : laws_eqIntSS.f k l l = some true := by
 unfold laws_eqIntSS.f
 rw [if_pos rfl]
 exact rb_ hn hl l.length k 0 (by omega) hk
theorem qE_ {m : Nat} (hm : m ≤ 100000000) : ∀ (d k i : Nat) (l : List Int), i + d = l.length → l.length ≤ 1048576 → (∀ j, j < i → l.getD j 0 = ((m + j : Nat) : Int)) → d < k →
  ∃ l', laws_markIntS.l0 k l ((m + i : Nat) : Int) (i : Int) = some (((m + l.length : Nat) : Int), l') ∧ l'.length = l.length ∧ ∀ j, j < l.length → l'.getD j 0 = ((m + j : Nat) : Int) := by
 intro d
 induction d with
 | zero =>
  intro k i l hi hn hp hk
  obtain ⟨k, rfl⟩ := qb_ hk
  simp only [laws_markIntS.l0]
  refine ⟨l, ?_, rfl, fun j hj => hp j (by omega)⟩
  rw [if_neg (by omega), show m + i = m + l.length by omega]
 | succ d ih =>
  intro k i l hi hn hp hk
  obtain ⟨k, rfl⟩ := qb_ hk
  have hlt : i < l.length := by omega
  have e1 : wrap64 (((m + i : Nat) : Int) + 1) = ((m + (i + 1) : Nat) : Int) := by unfold wrap64; omega
  have e2 : ((i : Int)).toNat = i := by omega
  simp only [laws_markIntS.l0]
  rw [if_pos (by omega), if_pos (by omega), qa_ hlt (by omega), e1, e2]
  obtain ⟨l', h1, h2, h3⟩ := ih k (i + 1) (l.set i ((m + i : Nat) : Int)) (by rw [List.length_set]; omega) (by rw [List.length_set]; exact hn) (by
   intro j hj
   by_cases h : j = i
   ·subst h
    rw [List.getD_eq_getElem?_getD, List.getElem?_set_self hlt]
    rfl
   ·rw [List.getD_eq_getElem?_getD, List.getElem?_set_ne (Ne.symm h), ← List.getD_eq_getElem?_getD]
    exact hp j (by omega)) (by omega)
  rw [List.length_set] at h1 h2 h3
  exact ⟨l', h1, h2, h3⟩
theorem qt_ {m : Nat} (hm : m ≤ 100000000) {l : List Int} (hn : l.length ≤ 1048576) {k : Nat} (hk : l.length < k) :
  ∃ l', laws_markIntS.f k l (m : Int) = some (((m + l.length : Nat) : Int), l') ∧ l'.length = l.length ∧ ∀ j, j < l.length → l'.getD j 0 = ((m + j : Nat) : Int) := by
 unfold laws_markIntS.f
 exact qE_ hm l.length k 0 l (by omega) hn (fun j hj => absurd hj (Nat.not_lt_zero j)) hk
theorem qH_ {m : Nat} (hm : m ≤ 100000000) {l : List Int} (hn : l.length ≤ 1048576) (h : ∀ j, j < l.length → l.getD j 0 = ((m + j : Nat) : Int)) : ∀ (d k i : Nat), i + d = l.length → d < k →
  laws_heldIntS.l0 k l ((m + i : Nat) : Int) (i : Int) = some ((m + l.length : Nat) : Int) := by
 intro d
 induction d with
 | zero =>
  intro k i hi hk
  obtain ⟨k, rfl⟩ := qb_ hk
  simp only [laws_heldIntS.l0]
  rw [if_neg (by omega), show m + i = m + l.length by omega]
 | succ d ih =>
  intro k i hi hk
  obtain ⟨k, rfl⟩ := qb_ hk
  have hlt : i < l.length := by omega
  have e1 : wrap64 (((m + i : Nat) : Int) + 1) = ((m + (i + 1) : Nat) : Int) := by unfold wrap64; omega
  simp only [laws_heldIntS.l0]
  rw [if_pos (by omega), if_pos (by omega), if_pos (show rd l (i : Int) = _ from h i hlt), qa_ hlt (by omega), e1]
  exact ih k (i + 1) (by omega) (by omega)
theorem qI_ {m : Nat} (hm : m ≤ 100000000) {l : List Int} (hn : l.length ≤ 1048576) (h : ∀ j, j < l.length → l.getD j 0 = ((m + j : Nat) : Int)) {k : Nat} (hk : l.length < k) : laws_heldIntS.f k l (m : Int) = some ((m + l.length : Nat) : Int) := by
 unfold laws_heldIntS.f
 exact qH_ hm hn h l.length k 0 (by omega) hk
def qu_ : Nat → List (List Int) → Nat → Prop
 | m, [], m' => m = m'
 | m, r :: rs, m' => (∀ j, j < r.length → r.getD j 0 = ((m + j : Nat) : Int)) ∧ qu_ (m + r.length) rs m'
theorem qo_ : ∀ (a b : List (List Int)) (m m1 m2 : Nat), qu_ m a m1 → qu_ m1 b m2 → qu_ m (a ++ b) m2
 | [], _, _, _, _, h, k => by
  have e : _ = _ := h
  subst e
  exact k
 | r :: a, b, m, m1, m2, h, k => ⟨h.1, qo_ a b (m + r.length) m1 m2 h.2 k⟩
theorem rt_ : ∀ (rest done : List (List Int)) (k m0 m : Nat), qu_ m0 done m → (∀ r ∈ rest, r.length ≤ 10) → done.length + rest.length ≤ 2000 → m + 10 * rest.length ≤ 100000 → rest.length + 12 < k →
  ∃ (m' : Nat) (rest' : List (List Int)), laws_markIntSS.l0 k (done ++ rest) (m : Int) (done.length : Int) = some ((m' : Int), done ++ rest') ∧ rest'.length = rest.length ∧ (∀ r ∈ rest', r.length ≤ 10) ∧ qu_ m0 (done ++ rest') m' ∧ m' ≤ 100000 := by
 intro rest
 induction rest with
 | nil =>
  intro done k m0 m hd hr hl hm hk
  obtain ⟨k, rfl⟩ := qb_ hk
  simp only [laws_markIntSS.l0]
  rw [List.append_nil, if_neg (by omega)]
  exact ⟨m, [], by rw [List.append_nil], rfl, by simp, by rw [List.append_nil]; exact hd, by omega⟩
 | cons r rest ih =>
  intro done k m0 m hd hr hl hm hk
  obtain ⟨k, rfl⟩ := qb_ hk
  have hr0 := hr r List.mem_cons_self
  simp only [List.length_cons] at hl hm hk
  have hlen : (done ++ r :: rest).length = done.length + (rest.length + 1) := by simp
  obtain ⟨r', e1, e2, e3⟩ := qt_ (m := m) (by omega) (l := r) (by omega) (k := k) (by omega)
  have eg : (done ++ r :: rest).getD (done.length : Int).toNat [] = r := by
   rw [Int.toNat_natCast, List.getD_eq_getElem?_getD, List.getElem?_append_right (Nat.le_refl _), Nat.sub_self]
   rfl
  have es : (done ++ r :: rest).set (done.length : Int).toNat r' = (done ++ [r']) ++ rest := by
   rw [Int.toNat_natCast, List.set_append_right _ _ (Nat.le_refl _), Nat.sub_self, List.append_assoc]
   rfl
  simp only [laws_markIntSS.l0]
  rw [if_pos (by omega), if_pos (by omega), eg, e1, Option.bind_some]
  dsimp only
  rw [es, qa_ (n := (done ++ r :: rest).length) (by omega) (by omega)]
  have hd2 : qu_ m0 (done ++ [r']) (m + r.length) := qo_ done [r'] m0 m _ hd ⟨by rw [e2]; exact e3, by rw [e2]; rfl⟩
  obtain ⟨m', rest', f1, f2, f3, f4, f5⟩ := ih (done ++ [r']) k m0 (m + r.length) hd2 (fun q hq => hr q (List.mem_cons_of_mem _ hq)) (by simp; omega) (by omega) (by omega)
  have hdl : (done ++ [r']).length = done.length + 1 := by simp
  rw [hdl] at f1
  refine ⟨m', r' :: rest', ?_, by simp [f2], ?_, ?_, f5⟩
  ·rw [f1, List.append_assoc]
   rfl
  ·intro q hq
   rcases List.mem_cons.1 hq with rfl | hq
   ·omega
   ·exact f3 q hq
  ·rw [List.append_assoc] at f4
   exact f4
theorem ru_ {l : List (List Int)} (hn : l.length ≤ 2000) (hr : ∀ r ∈ l, r.length ≤ 10) : ∀ (d k i m m' : Nat), i + d = l.length → qu_ m (l.drop i) m' → m + 10 * d ≤ 100000 → d + 12 < k → laws_heldIntSS.l0 k l (m : Int) (i : Int) = some (m' : Int) := by
 intro d
 induction d with
 | zero =>
  intro k i m m' hi h hm hk
  obtain ⟨k, rfl⟩ := qb_ hk
  simp only [laws_heldIntSS.l0]
  rw [List.drop_of_length_le (by omega)] at h
  have e : m = m' := h
  rw [if_neg (by omega), e]
 | succ d ih =>
  intro k i m m' hi h hm hk
  obtain ⟨k, rfl⟩ := qb_ hk
  have hlt : i < l.length := by omega
  rw [qe_ l i hlt []] at h
  have hr0 := hr _ (qq_ hlt [])
  simp only [laws_heldIntSS.l0]
  rw [if_pos (by omega), if_pos (by omega), rA_, qI_ (m := m) (by omega) (by omega) h.1 (by omega), Option.bind_some, if_neg (by omega), qa_ hlt (by omega)]
  exact ih k (i + 1) _ m' (by omega) h.2 (by omega) (by omega)
theorem q5_ {m : Nat} (hm : m ≤ 100000000) : ∀ (d k i : Nat) (l : List Bool), i + d = l.length → l.length ≤ 1048576 → (∀ j, j < i → l.getD j false = (Int.tmod ((m + j : Nat) : Int) 3 == 0)) → d < k →
  ∃ l', laws_markBoolS.l0 k l ((m + i : Nat) : Int) (i : Int) = some (((m + l.length : Nat) : Int), l') ∧ l'.length = l.length ∧ ∀ j, j < l.length → l'.getD j false = (Int.tmod ((m + j : Nat) : Int) 3 == 0) := by
 intro d
 induction d with
 | zero =>
  intro k i l hi hn hp hk
  obtain ⟨k, rfl⟩ := qb_ hk
  simp only [laws_markBoolS.l0]
  refine ⟨l, ?_, rfl, fun j hj => hp j (by omega)⟩
  rw [if_neg (by omega), show m + i = m + l.length by omega]
 | succ d ih =>
  intro k i l hi hn hp hk
  obtain ⟨k, rfl⟩ := qb_ hk
  have hlt : i < l.length := by omega
  have e1 : wrap64 (((m + i : Nat) : Int) + 1) = ((m + (i + 1) : Nat) : Int) := by unfold wrap64; omega
  have e2 : ((i : Int)).toNat = i := by omega
  simp only [laws_markBoolS.l0]
  rw [if_pos (by omega), if_pos (by omega), qa_ hlt (by omega), e1, e2]
  obtain ⟨l', h1, h2, h3⟩ := ih k (i + 1) (l.set i (Int.tmod ((m + i : Nat) : Int) 3 == 0)) (by rw [List.length_set]; omega) (by rw [List.length_set]; exact hn) (by
   intro j hj
   by_cases h : j = i
   ·subst h
    rw [List.getD_eq_getElem?_getD, List.getElem?_set_self hlt]
    rfl
   ·rw [List.getD_eq_getElem?_getD, List.getElem?_set_ne (Ne.symm h), ← List.getD_eq_getElem?_getD]
    exact hp j (by omega)) (by omega)
  rw [List.length_set] at h1 h2 h3
  exact ⟨l', h1, h2, h3⟩
theorem q6_ {m : Nat} (hm : m ≤ 100000000) {l : List Bool} (hn : l.length ≤ 1048576) {k : Nat} (hk : l.length < k) :
  ∃ l', laws_markBoolS.f k l (m : Int) = some (((m + l.length : Nat) : Int), l') ∧ l'.length = l.length ∧ ∀ j, j < l.length → l'.getD j false = (Int.tmod ((m + j : Nat) : Int) 3 == 0) := by
 unfold laws_markBoolS.f
 exact q5_ hm l.length k 0 l (by omega) hn (fun j hj => absurd hj (Nat.not_lt_zero j)) hk
theorem rp_ (l : List (List (List Int))) (i : Nat) : rd_L3 l (i : Int) = l.getD i [] := by
 unfold rd_L3
 rw [Int.toNat_natCast]
theorem qJ_ {l : List (List (List Int))} (hn : l.length ≤ 1048576) (hl : ∀ x ∈ l, x.length ≤ 2 ∧ ∀ y ∈ x, y.length ≤ 10) : ∀ (d k i : Nat), i + d = l.length → d + 1048600 < k → laws_eqIntSSS.l0 k l l (i : Int) = some true := by
 intro d
 induction d with
 | zero =>
  intro k i hi hk
  obtain ⟨k, rfl⟩ := qb_ hk
  simp only [laws_eqIntSSS.l0]
  rw [if_neg (by omega)]
 | succ d ih =>
  intro k i hi hk
  obtain ⟨k, rfl⟩ := qb_ hk
  have hlt : i < l.length := by omega
  have hr := hl _ (qq_ hlt [])
  simp only [laws_eqIntSSS.l0]
  rw [if_pos (by omega), if_pos (by omega), if_pos (by omega), rp_, rc_ (by omega) (fun y hy => by have := hr.2 y hy; omega) (by omega), Option.bind_some, if_pos rfl, qa_ hlt (by omega)]
  exact ih k (i + 1) (by omega) (by omega)
theorem qK_ {l : List (List (List Int))} (hn : l.length ≤ 1048576) (hl : ∀ x ∈ l, x.length ≤ 2 ∧ ∀ y ∈ x, y.length ≤ 10) {k : Nat} (hk : l.length + 1048600 < k) : laws_eqIntSSS.f k l l = some true := by
 unfold laws_eqIntSSS.f
 rw [if_pos rfl]
 exact qJ_ hn hl l.length k 0 (by omega) hk
theorem q0_ : ∀ (l : List (List Int)) (m m' : Nat), qu_ m l m' → (∀ r ∈ l, r.length ≤ 10) → m' ≤ m + 10 * l.length
 | [], m, m', h, _ => by
  have e : m = m' := h
  simp only [List.length_nil]
  omega
 | r :: l, m, m', h, hr => by
  have h1 := q0_ l _ m' h.2 (fun x hx => hr x (List.mem_cons_of_mem _ hx))
  have h2 := hr r List.mem_cons_self
  simp only [List.length_cons]
  omega
def q3_ : Nat → List (List (List Int)) → Nat → Prop
 | m, [], m' => m = m'
 | m, r :: rs, m' => ∃ m1, qu_ m r m1 ∧ q3_ m1 rs m'
theorem qn_ : ∀ (a b : List (List (List Int))) (m m1 m2 : Nat), q3_ m a m1 → q3_ m1 b m2 → q3_ m (a ++ b) m2
 | [], _, _, _, _, h, k => by
  have e : _ = _ := h
  subst e
  exact k
 | r :: a, b, m, m1, m2, ⟨m3, h1, h2⟩, k => ⟨m3, h1, qn_ a b m3 m1 m2 h2 k⟩
theorem qW_ : ∀ (rest done : List (List (List Int))) (k m0 m : Nat), q3_ m0 done m → (∀ r ∈ rest, r.length ≤ 2 ∧ ∀ x ∈ r, x.length ≤ 10) → done.length + rest.length ≤ 4500 → m + 20 * rest.length ≤ 99900 → rest.length + 40 < k →
  ∃ (m' : Nat) (rest' : List (List (List Int))), laws_markIntSSS.l0 k (done ++ rest) (m : Int) (done.length : Int) = some ((m' : Int), done ++ rest') ∧ rest'.length = rest.length ∧ (∀ r ∈ rest', r.length ≤ 2 ∧ ∀ x ∈ r, x.length ≤ 10) ∧ q3_ m0 (done ++ rest') m' := by
 intro rest
 induction rest with
 | nil =>
  intro done k m0 m hd hr hl hm hk
  obtain ⟨k, rfl⟩ := qb_ hk
  simp only [laws_markIntSSS.l0]
  rw [List.append_nil, if_neg (by omega)]
  exact ⟨m, [], by rw [List.append_nil], rfl, by simp, by rw [List.append_nil]; exact hd⟩
 | cons r rest ih =>
  intro done k m0 m hd hr hl hm hk
  obtain ⟨k, rfl⟩ := qb_ hk
  have hr0 := hr r List.mem_cons_self
  simp only [List.length_cons] at hl hm hk
  have hlen : (done ++ r :: rest).length = done.length + (rest.length + 1) := by simp
  obtain ⟨m1, r', e1, e2, e3, e4, -⟩ := rt_ r [] k m m rfl hr0.2 (by simp only [List.length_nil]; omega) (by omega) (by omega)
  rw [List.nil_append, List.nil_append] at e1
  rw [List.nil_append] at e4
  have eb := q0_ r' m m1 e4 e3
  have eg : (done ++ r :: rest).getD (done.length : Int).toNat [] = r := by
   rw [Int.toNat_natCast, List.getD_eq_getElem?_getD, List.getElem?_append_right (Nat.le_refl _), Nat.sub_self]
   rfl
  have es : (done ++ r :: rest).set (done.length : Int).toNat r' = (done ++ [r']) ++ rest := by
   rw [Int.toNat_natCast, List.set_append_right _ _ (Nat.le_refl _), Nat.sub_self, List.append_assoc]
   rfl
  have e1' : laws_markIntSS.f k r (m : Int) = some ((m1 : Int), r') := e1
  simp only [laws_markIntSSS.l0]
  rw [if_pos (by omega), if_pos (by omega), eg, e1', Option.bind_some]
  dsimp only
  rw [es, qa_ (n := (done ++ r :: rest).length) (by omega) (by omega)]
  have hd2 : q3_ m0 (done ++ [r']) m1 := qn_ done [r'] m0 m _ hd ⟨m1, e4, rfl⟩
  obtain ⟨m', rest', f1, f2, f3, f4⟩ := ih (done ++ [r']) k m0 m1 hd2 (fun q hq => hr q (List.mem_cons_of_mem _ hq)) (by simp; omega) (by omega) (by omega)
  have hdl : (done ++ [r']).length = done.length + 1 := by simp
  rw [hdl] at f1
  refine ⟨m', r' :: rest', ?_, by simp [f2], ?_, ?_⟩
  ·rw [f1, List.append_assoc]
   rfl
  ·intro q hq
   rcases List.mem_cons.1 hq with rfl | hq
   ·exact ⟨by omega, e3⟩
   ·exact f3 q hq
  ·rw [List.append_assoc] at f4
   exact f4
theorem r6_ : ∀ (l : List (List (List Int))) (m m' : Nat), q3_ m l m' → m ≤ m'
 | [], m, m', h => by
  have e : m = m' := h
  omega
 | r :: l, m, m', ⟨m1, h1, h2⟩ => by
  have h3 := r6_ l m1 m' h2
  have h4 : ∀ (l : List (List Int)) (m m' : Nat), qu_ m l m' → m ≤ m' := by
   intro l
   induction l with
   | nil => intro m m' h; have e : m = m' := h; omega
   | cons r l ih => intro m m' h; have := ih _ _ h.2; omega
  have h5 := h4 r m m1 h1
  omega
theorem qZ_ {l : List (List (List Int))} (hn : l.length ≤ 4500) (hr : ∀ r ∈ l, r.length ≤ 2 ∧ ∀ x ∈ r, x.length ≤ 10) : ∀ (d k i m m' : Nat), i + d = l.length → q3_ m (l.drop i) m' → m + 20 * d ≤ 99900 → d + 40 < k → laws_heldIntSSS.l0 k l (m : Int) (i : Int) = some (m' : Int) := by
 intro d
 induction d with
 | zero =>
  intro k i m m' hi h hm hk
  obtain ⟨k, rfl⟩ := qb_ hk
  simp only [laws_heldIntSSS.l0]
  rw [List.drop_of_length_le (by omega)] at h
  have e : m = m' := h
  rw [if_neg (by omega), e]
 | succ d ih =>
  intro k i m m' hi h hm hk
  obtain ⟨k, rfl⟩ := qb_ hk
  have hlt : i < l.length := by omega
  rw [qe_ l i hlt []] at h
  obtain ⟨m1, h1, h2⟩ := h
  have hr0 := hr _ (qq_ hlt [])
  have hb := q0_ _ m m1 h1 hr0.2
  have hh : laws_heldIntSS.f k (l.getD i []) (m : Int) = some (m1 : Int) := ru_ (by omega) hr0.2 _ k 0 m m1 (Nat.zero_add _) h1 (by omega) (by omega)
  simp only [laws_heldIntSSS.l0]
  rw [if_pos (by omega), if_pos (by omega), rp_, hh, Option.bind_some, if_neg (by omega), qa_ hlt (by omega)]
  exact ih k (i + 1) _ m' (by omega) h2 (by omega) (by omega)
theorem qX_ {l : List (List (List Int))} (hn : l.length ≤ 4500) (hr : ∀ r ∈ l, r.length ≤ 2 ∧ ∀ x ∈ r, x.length ≤ 10) {k : Nat} (hk : l.length + 50 < k) :
  ∃ (m : Nat) (l' : List (List (List Int))), laws_markIntSSS.f k l 1 = some ((m : Int), l') ∧ laws_heldIntSSS.f k l' 1 = some (m : Int) := by
 obtain ⟨m, l', e1, e2, e3, e4⟩ := qW_ l [] k 1 1 rfl hr (by simp only [List.length_nil]; omega) (by omega) (by omega)
 refine ⟨m, l', e1, ?_⟩
 exact qZ_ (by omega) e3 l'.length k 0 1 m (by omega) e4 (by omega) (by omega)
theorem q4_ {o : List Bool} {q : Int} {b : Nat} (hb : b ≤ 1048576) (hn : o.length ≤ 9223372036854775807) : laws_szCamp.f o q (b : Int) = some (if o.length ≤ b then ((b - o.length : Nat) : Int) else -1) := by
 unfold laws_szCamp.f laws_szBoolS.f
 rw [qc_ (by omega) (by omega)]
 by_cases h : o.length ≤ b
 ·rw [if_neg (by omega), Option.bind_some, if_neg (by omega), if_pos h]
  congr 1
  omega
 ·rw [if_pos (by omega), Option.bind_some, if_pos (by omega), if_neg h]
theorem rk_ {o : List Bool} (hn : o.length ≤ 1048576) (q : Int) {k : Nat} (hk : o.length < k) : laws_toCamp.f k o q = some (o, q) := by
 unfold laws_toCamp.f
 rw [qT_ hn hk]
 rfl
theorem ry_ {o : List Bool} (hn : o.length ≤ 9223372036854775807) (q : Int) {k : Nat} (hk : o.length < k) : laws_eqCamp.f k o q o q = some true := by
 unfold laws_eqCamp.f
 rw [re_ hn hk]
 simp
def r0_ (l : List Int) (s t : Int) (o : List Bool) (q : Int) : Bool := qm_ l s t && (decide ((o.length : Int) = (l.length : Int)) && inB q 0 t)
theorem q2_ {l : List Int} (hn : l.length ≤ 9223372036854775807) (s t : Int) (o : List Bool) (q : Int) {k : Nat} (hk : l.length < k) : spec_toCamp.f k l s t o q = some (r0_ l s t o q) ∧ impl_IsCamp.f l s t o q = some (r0_ l s t o q) := by
 unfold spec_toCamp.f impl_IsCamp.f impl_Night_hasCamp.f r0_
 rw [rj_ hn s t hk, rf_, qi_, rK_]
 simp only [Option.bind_some]
 cases qm_ l s t
 ·exact ⟨rfl, rfl⟩
 ·by_cases c : (o.length : Int) = (l.length : Int)
  ·simp [c]
  ·simp [c]
theorem both {l : List Int} (hl : l.length ≤ 1048576) (s t : Int) (o : List Bool) (q : Int) : ∃ k0, ∀ k, k0 ≤ k → ∃ x : List (List (List Int)) × Bool, x.1.length ≤ 4500 ∧ (∀ r ∈ x.1, r.length ≤ 2 ∧ ∀ y ∈ r, y.length ≤ 10) ∧ spec_RoundsOfNight.f k l s t o q = some x ∧ impl_RoundsOfNight.f k l s t o q = some x := by
 cases hc : r0_ l s t o q
 ·refine ⟨l.length + 1, fun k hk => ⟨([], false), by simp, by simp, ?_, ?_⟩⟩
  ·unfold spec_RoundsOfNight.f
   rw [(q2_ (by omega) s t o q (by omega)).1, hc, Option.bind_some, if_neg (by decide)]
  ·unfold impl_RoundsOfNight.f
   rw [(q2_ (by omega) s t o q (by omega : l.length < k)).2, hc, Option.bind_some, if_neg (by decide)]
 ·have hc2 := hc
  unfold r0_ at hc2
  simp only [Bool.and_eq_true, decide_eq_true_eq, inB_true] at hc2
  obtain ⟨hg, c1, c2, c3⟩ := hc2
  obtain ⟨g1, g2, g3, g4, g5, g6, g7⟩ := rs_ hg
  have hlo : o.length = l.length := by omega
  have hm : s = ((s.toNat : Nat) : Int) := by omega
  refine ⟨7000 + l.length, fun k hk => ⟨(roL s.toNat t o q, true), ?_, fun r hr => ?_, ?_, ?_⟩⟩
  ·have := rH_ s.toNat t (ov := o) (by omega) q
   show (roL s.toNat t o q).length ≤ 4500
   omega
  ·exact rT_ (by omega) hr
  ·unfold spec_RoundsOfNight.f
   rw [(q2_ (by omega) s t o q (by omega)).1, hc, Option.bind_some, if_pos rfl, hm, qC_ c2 c3 g7 g6 s.toNat hlo g3 (by omega)]
   rfl
  ·unfold impl_RoundsOfNight.f
   rw [(q2_ (by omega) s t o q (by omega : l.length < k)).2, hc, Option.bind_some, if_pos rfl, hm, rl_ c2 c3 g7 l s.toNat (by omega) (by omega)]
   rfl
theorem pure : ∀ (l0_0 : List Int) (a0_1 : Int) (a0_2 : Int) (l1_0 : List Bool) (a1_1 : Int), (∀ y0 ∈ l0_0, Opn.okI y0) → l0_0.length ≤ 9223372036854775807 → Opn.okI a0_1 → Opn.okI a0_2 → (∀ y0 ∈ l1_0, True) → l1_0.length ≤ 9223372036854775807 → Opn.okI a1_1 → ∃ k, laws_FnExactRoundsOfNight.f k l0_0 a0_1 a0_2 l1_0 a1_1 = some true := by
 intro l s t o q _ hl _ _ _ ho _
 by_cases h1 : l.length ≤ 1048576
 rotate_left
 ·refine ⟨1, ?_⟩
  unfold laws_FnExactRoundsOfNight.f
  rw [show (1048576 : Int) = ((1048576 : Nat) : Int) by rfl, qk_ (Nat.le_refl _) hl, Option.bind_some, if_neg h1, if_pos (by omega)]
 by_cases h2 : o.length ≤ 1048576 - l.length
 rotate_left
 ·refine ⟨1, ?_⟩
  unfold laws_FnExactRoundsOfNight.f
  rw [show (1048576 : Int) = ((1048576 : Nat) : Int) by rfl, qk_ (Nat.le_refl _) hl, Option.bind_some, if_pos h1, if_neg (by omega), q4_ (by omega) ho, Option.bind_some, if_neg h2, if_pos (by omega)]
 obtain ⟨k0, hk0⟩ := both h1 s t o q
 obtain ⟨k, hk⟩ : ∃ k, k = k0 + l.length + o.length + 1100000 := ⟨_, rfl⟩
 obtain ⟨x, x1, x2, e1, e2⟩ := hk0 k (by omega)
 refine ⟨k, ?_⟩
 obtain ⟨m, l', m1, m2⟩ := qX_ x1 x2 (k := k) (by omega)
 obtain ⟨y1, n1, -, -⟩ := qt_ (m := 1) (by decide) (l := l) (by omega) (k := k) (by omega)
 obtain ⟨y2, n2, -, -⟩ := q6_ (m := 1 + l.length) (by omega) (l := o) (by omega) (k := k) (by omega)
 have n3 : laws_markNight.f k l s t 1 = some (((1 + l.length : Nat) : Int), y1) := by
  unfold laws_markNight.f
  rw [show (1 : Int) = ((1 : Nat) : Int) from rfl, n1, Option.bind_some]
 have n4 : laws_markCamp.f k o q ((1 + l.length : Nat) : Int) = some (((1 + l.length + o.length : Nat) : Int), y2) := by
  unfold laws_markCamp.f
  rw [n2, Option.bind_some]
 unfold laws_FnExactRoundsOfNight.f
 rw [show (1048576 : Int) = ((1048576 : Nat) : Int) by rfl, qk_ (Nat.le_refl _) hl, Option.bind_some, if_pos h1, if_neg (by omega), q4_ (by omega) ho, Option.bind_some, if_pos h2, if_neg (by omega), qR_ h1 s t (by omega), Option.bind_some, rk_ (by omega) q (by omega), Option.bind_some]
 dsimp only
 rw [e1, Option.bind_some, e2, Option.bind_some, if_pos rfl, qK_ (by omega) x2 (by omega), Option.bind_some, if_pos rfl, ra_ hl s t (by omega), Option.bind_some, if_pos rfl, ry_ ho q (by omega), Option.bind_some, if_pos rfl, n3, Option.bind_some]
 dsimp only
 rw [n4, Option.bind_some]
 dsimp only
 rw [if_neg (by omega), m1, Option.bind_some]
 dsimp only
 rw [m2, Option.bind_some, if_neg (by omega), if_pos rfl]
end Go.Proofs.Ytmdbhpbogbekmaa.fnExactRoundsOfNight
