/- FnExactTorchGain, the plain statement: what the printed functions compute makes the law's function return true. Conditions: the numbers are of their kind. -/
import Derived.Test.YtmdbhpbogbekmaaOpn
import Derived.Test.YtmdbhpbogbekmaaQNtx20
namespace Go.Proofs.Ytmdbhpbogbekmaa.fnExactTorchGain
open Go.RowKit Go.Proofs.YtmdbhpbogbekmaaW.PrintWords Go.Proofs.YtmdbhpbogbekmaaW.PrintLast Go.Proofs.YtmdbhpbogbekmaaW.PrintMore Go.Proofs.Ytmdbhpbogbekmaa.QNt
open List (getD_eq_getElem?_getD length_set length_append length_singleton map_cons nil_append getElem?_eq_getElem append_assoc mem_cons countP_cons all_eq_true length_cons mem_map length_nil append_nil mem_append mem_range getElem?_set drop_zero length_map)
set_option linter.unusedVariables false
set_option linter.unusedSimpArgs false

def inB (x a b : Int) : Bool := decide (a ≤ x) && decide (x ≤ b)
theorem inB_true {x a b : Int} : inB x a b = true ↔ a ≤ x ∧ x ≤ b := by simp [inB]
theorem qb_ {n : Int} (h0 : -9223372036854775808 ≤ n) (h1 : n ≤ 9223372036854775807) : wrap64 n = n := by
 unfold wrap64
 omega
theorem qa_ {i n : Nat} (h : i < n) (hn : n ≤ 9223372036854775807) : wrap64 ((i : Int) + 1) = ((i + 1 : Nat) : Int) := by
 unfold wrap64
 omega
theorem r4_ {α : Type} (l : List α) (i : Nat) (h : i < l.length) (z : α) : l.take (i + 1) = l.take i ++ [l.getD i z] := by
 rw [List.take_succ_eq_append_getElem h, getD_eq_getElem?_getD, getElem?_eq_getElem h]
 rfl
theorem qe_ {α : Type} (l : List α) (i : Nat) (h : i < l.length) (z : α) : l.drop i = l.getD i z :: l.drop (i + 1) := by
 rw [List.drop_eq_getElem_cons h, getD_eq_getElem?_getD, getElem?_eq_getElem h]
 rfl
theorem rK_ {α : Type} (l : List α) (i : Nat) (h : i < l.length) (v : α) : (l.set i v).take (i + 1) = l.take i ++ [v] := by
 rw [List.take_succ_eq_append_getElem (by rw [length_set]; exact h), List.take_set_of_le (Nat.le_refl i), List.getElem_set_self]
theorem qg_ {k d : Nat} (h : d < k) : ∃ m, k = m + 1 := ⟨k - 1, by omega⟩
theorem qp_ (x a b : Int) : spec_l1In.f x a b = some (inB x a b) := by
 unfold spec_l1In.f inB
 by_cases h : a ≤ x <;> simp [h]
theorem s2_ (x a b : Int) : impl_in.f x a b = some (inB x a b) := by
 unfold impl_in.f inB
 by_cases h : a ≤ x <;> simp [h]
theorem rt_ {l : List Int} (hn : l.length ≤ 9223372036854775807) : ∀ (d k i : Nat) (x : List Int), i + d = l.length → x.length = l.length → x.take i = l.take i → d < k → laws_toIntS.l0 k l x (i : Int) = some l := by
 intro d
 induction d with
 | zero =>
  intro k i x hi hx ht hk
  obtain ⟨k, rfl⟩ := qg_ hk
  simp only [laws_toIntS.l0]
  rw [if_neg (by omega)]
  rw [show i = l.length by omega, List.take_length, ← hx, List.take_length] at ht
  rw [ht]
 | succ d ih =>
  intro k i x hi hx ht hk
  obtain ⟨k, rfl⟩ := qg_ hk
  have hlt : i < l.length := by omega
  simp only [laws_toIntS.l0]
  rw [if_pos (by omega), if_pos (by omega), if_pos (by omega), qa_ hlt hn]
  refine ih k (i + 1) _ (by omega) (by rw [length_set]; exact hx) ?_ (by omega)
  rw [Int.toNat_natCast, rK_ _ _ (by omega), ht, r4_ l i hlt 0]
  rfl
theorem ru_ {l : List Int} (hn : l.length ≤ 1048576) {k : Nat} (hk : l.length < k) : laws_toIntS.f k l = some l := by
 unfold laws_toIntS.f
 rw [if_pos (by omega), if_pos (by omega)]
 exact rt_ (by omega) l.length k 0 _ (by omega) (by simp) (by simp) hk
theorem r9_ {l : List Int} (hn : l.length ≤ 9223372036854775807) : ∀ (d k i : Nat), i + d = l.length → d < k → laws_eqIntS.l0 k l l (i : Int) = some true := by
 intro d
 induction d with
 | zero =>
  intro k i hi hk
  obtain ⟨k, rfl⟩ := qg_ hk
  simp only [laws_eqIntS.l0]
  rw [if_neg (by omega)]
 | succ d ih =>
  intro k i hi hk
  obtain ⟨k, rfl⟩ := qg_ hk
  have hlt : i < l.length := by omega
  simp only [laws_eqIntS.l0]
  rw [if_pos (by omega), if_pos (by omega), if_pos (by omega), if_pos trivial, qa_ hlt hn]
  exact ih k (i + 1) (by omega) (by omega)
theorem rA_ {l : List Int} (hn : l.length ≤ 9223372036854775807) {k : Nat} (hk : l.length < k) : laws_eqIntS.f k l l = some true := by
 unfold laws_eqIntS.f
 rw [if_pos rfl]
 exact r9_ hn l.length k 0 (by omega) hk
theorem rM_ {l : List Int} (hn : l.length ≤ 9223372036854775807) (a b : Int) : ∀ (d k i : Nat), i + d = l.length → d < k → spec_l1All.l0 k a b l (l.length : Int) (i : Int) = some ((l.drop i).all fun x => inB x a b) := by
 intro d
 induction d with
 | zero =>
  intro k i hi hk
  obtain ⟨k, rfl⟩ := qg_ hk
  simp only [spec_l1All.l0]
  rw [if_neg (by omega), show i = l.length by omega, List.drop_length]
  rfl
 | succ d ih =>
  intro k i hi hk
  obtain ⟨k, rfl⟩ := qg_ hk
  have hlt : i < l.length := by omega
  simp only [spec_l1All.l0]
  rw [if_pos (by omega), if_pos (by omega), if_pos (by omega), qp_, Option.bind_some, qa_ hlt hn, ih k (i + 1) (by omega) (by omega), qe_ l i hlt 0, List.all_cons]
  show (if inB (l.getD i 0) a b = true then _ else _) = _
  cases inB (l.getD i 0) a b <;> simp
theorem rN_ {l : List Int} (hn : l.length ≤ 9223372036854775807) (a b : Int) {k : Nat} (hk : l.length < k) : spec_l1All.f k l a b = some (l.all fun x => inB x a b) := by
 unfold spec_l1All.f
 exact rM_ hn a b l.length k 0 (by omega) hk
theorem rT_ (l : List Int) (a b c d : Int) : impl_areIn.f l a b c d = some (inB (l.length : Int) c d && l.all fun x => inB x a b) := by
 unfold impl_areIn.f inB
 simp [List.not_any_eq_all_not]
def qn_ (l : List Int) (s t : Int) : Bool := inB (l.length : Int) 1 6 && ((l.all fun x => inB x 1 1000) && (inB s 1 3 && inB t 1 2))
theorem qI_ {l : List Int} (hn : l.length ≤ 9223372036854775807) (s t : Int) {k : Nat} (hk : l.length < k) : spec_toGood.f k l s t = some (qn_ l s t) := by
 unfold spec_toGood.f qn_
 rw [qp_, rN_ hn 1 1000 hk, qp_, qp_]
 simp only [Option.bind_some]
 cases inB (l.length : Int) 1 6 <;> cases (l.all fun x => inB x 1 1000) <;> cases inB s 1 3 <;> simp
theorem qu_ (l : List Int) (s t : Int) : impl_IsNight.f l s t = some (qn_ l s t) := by
 unfold impl_IsNight.f qn_
 rw [rT_, s2_, s2_]
 simp only [Option.bind_some]
 cases inB (l.length : Int) 1 6 <;> cases (l.all fun x => inB x 1 1000) <;> cases inB s 1 3 <;> simp
theorem rq_ {l : List Int} (hn : l.length ≤ 9223372036854775807) (s t : Int) {k : Nat} (hk : l.length < k) : laws_eqNight.f k l s t l s t = some true := by
 unfold laws_eqNight.f
 rw [rA_ hn hk]
 simp
theorem qL_ {l : List Int} {s t : Int} (hg : qn_ l s t = true) : (∀ x ∈ l, 1 ≤ x ∧ x ≤ 1000) ∧ 1 ≤ l.length ∧ l.length ≤ 6 ∧ 1 ≤ s ∧ s ≤ 3 ∧ 1 ≤ t ∧ t ≤ 2 := by
 unfold qn_ at hg
 simp only [Bool.and_eq_true] at hg
 obtain ⟨g1, g2, g3, g4⟩ := hg
 have hx : ∀ x ∈ l, 1 ≤ x ∧ x ≤ 1000 := fun x h => inB_true.1 (all_eq_true.1 g2 x h)
 rw [inB_true] at g1 g3 g4
 exact ⟨hx, by omega⟩
def q3_ : List Int → List Int → List (List Int)
 | [], _ => []
 | x :: P, l => (l ++ [x]) :: (q3_ P (l ++ [x]) ++ q3_ P l)
theorem ql_ {g : List Int} : ∀ (P l : List Int), g ∈ q3_ P l ↔ ∃ s, s ≠ [] ∧ s.Sublist P ∧ g = l ++ s
 | [], l => by
  simp only [q3_, List.not_mem_nil, List.sublist_nil, false_iff]
  rintro ⟨s, h1, h2, -⟩
  exact h1 h2
 | x :: P, l => by
  simp only [q3_, mem_cons, mem_append, ql_ P]
  constructor
  ·rintro (h | ⟨s, h1, h2, h3⟩ | ⟨s, h1, h2, h3⟩)
   ·exact ⟨[x], by simp, List.Sublist.cons_cons x (List.nil_sublist P), h⟩
   ·exact ⟨x :: s, by simp, List.Sublist.cons_cons x h2, by rw [h3, append_assoc]; rfl⟩
   ·exact ⟨s, h1, List.Sublist.cons x h2, h3⟩
  ·rintro ⟨s, h1, h2, h3⟩
   cases h2 with
   | cons _ h => exact .inr (.inr ⟨s, h1, h, h3⟩)
   | cons_cons _ h =>
    rename_i s'
    by_cases e : s' = []
    ·left; rw [h3, e]
    ·right; left
     exact ⟨s', e, h, by rw [h3, append_assoc]; rfl⟩
theorem qs_ : ∀ (P l : List Int), P.Nodup → (q3_ P l).Nodup
 | [], _, _ => by simp [q3_]
 | x :: P, l, h => by
  obtain ⟨h1, h2⟩ := List.nodup_cons.1 h
  simp only [q3_, List.nodup_cons, mem_append, ql_]
  refine ⟨?_, ?_⟩
  ·rintro (⟨s, a, b, c⟩ | ⟨s, a, b, c⟩)
   ·exact a (List.append_cancel_left ((append_nil _).trans c)).symm
   ·have : [x] = s := List.append_cancel_left c
    rw [← this] at b
    exact h1 (b.subset (by simp))
  ·rw [List.nodup_append]
   refine ⟨qs_ P _ h2, qs_ P _ h2, fun g hg g' hg' e => ?_⟩
   obtain ⟨s, a, b, c⟩ := (ql_ P _).1 hg
   obtain ⟨s', a', b', c'⟩ := (ql_ P _).1 hg'
   rw [c, c', append_assoc] at e
   have : [x] ++ s = s' := List.append_cancel_left e
   rw [← this] at b'
   exact h1 (b'.subset (by simp))
theorem qv_ : ∀ (P l : List Int), (q3_ P l).length + 1 = 2 ^ P.length
 | [], _ => rfl
 | x :: P, l => by
  have h1 := qv_ P (l ++ [x])
  have h2 := qv_ P l
  simp only [q3_, length_cons, length_append, Nat.pow_succ]
  omega
def qq_ (o : List Bool) (t : Bool) : List Int := ((List.range o.length).filter fun i => o.getD i false == t).map fun i : Nat => (i : Int)
theorem qX_ (o : List Bool) (t : Bool) : (qq_ o t).Nodup := by
 unfold qq_
 exact List.Pairwise.map _ (fun (a b : Nat) (h : a ≠ b) (e : (a : Int) = (b : Int)) => h (by omega)) (List.Pairwise.filter _ List.nodup_range)
theorem qM_ (o : List Bool) (t : Bool) : (qq_ o t).length ≤ o.length := by
 unfold qq_
 rw [length_map]
 have := List.length_filter_le (fun i => o.getD i false == t) (List.range o.length)
 rwa [List.length_range] at this
def mvO (o : List Bool) (t : Bool) (g : List Int) : List Bool := g.foldl (fun o x => o.set x.toNat (!t)) o
theorem sf_ (t : Bool) : ∀ (g : List Int) (o : List Bool), (mvO o t g).length = o.length
 | [], _ => rfl
 | x :: g, o => by
  show (mvO (o.set x.toNat (!t)) t g).length = _
  rw [sf_ t g, length_set]
theorem sg_ (t : Bool) : ∀ (g : List Int) (o : List Bool), (∀ x ∈ g, 0 ≤ x ∧ x < (o.length : Int)) → ∀ i : Nat, i < o.length → (mvO o t g).getD i false = if (i : Int) ∈ g then !t else o.getD i false
 | [], o, _, i, _ => by simp [mvO]
 | x :: g, o, h, i, hi => by
  have hx := h x (by simp)
  show (mvO (o.set x.toNat (!t)) t g).getD i false = _
  rw [sg_ t g _ (fun y hy => by rw [length_set]; exact h y (by simp [hy])) i (by rw [length_set]; exact hi)]
  have hs : (o.set x.toNat (!t)).getD i false = if (i : Int) = x then !t else o.getD i false := by
   rw [getD_eq_getElem?_getD, getD_eq_getElem?_getD, getElem?_set]
   by_cases e : x.toNat = i
   ·rw [if_pos e, if_pos (by omega), if_pos (by omega)]; rfl
   ·rw [if_neg e, if_neg (by omega)]
  rw [hs]
  by_cases e : (i : Int) ∈ g
  ·rw [if_pos e, if_pos (List.mem_cons_of_mem _ e)]
  ·rw [if_neg e]
   by_cases q : (i : Int) = x
   ·rw [if_pos q, if_pos (by rw [q]; exact List.mem_cons_self)]
   ·rw [if_neg q, if_neg (by simp [q, e])]
theorem r2_ {a b : List Bool} (h : a.length = b.length) (h2 : ∀ i : Nat, i < a.length → a.getD i false = b.getD i false) : a = b := by
 apply List.ext_getElem h
 intro i h3 h4
 have := h2 i h3
 rwa [getD_eq_getElem?_getD, getD_eq_getElem?_getD, getElem?_eq_getElem h3, getElem?_eq_getElem h4] at this
def qd_ (m : Nat) : List Int → List Int → List (List Int)
 | [], _ => []
 | x :: P, l => if l.length < m then (l ++ [x]) :: (qd_ m P (l ++ [x]) ++ qd_ m P l) else []
theorem qh_ (m : Nat) : ∀ (P l : List Int), (qd_ m P l).Sublist (q3_ P l)
 | [], _ => List.Sublist.refl _
 | x :: P, l => by
  unfold qd_ q3_
  split
  ·exact List.Sublist.cons_cons _ (List.Sublist.append (qh_ m P _) (qh_ m P _))
  ·exact List.nil_sublist _
theorem q7_ {m : Nat} (P : List Int) {l : List Int} (h : ¬ l.length < m) : qd_ m P l = [] := by
 cases P with
 | nil => rfl
 | cons x P => exact if_neg h
theorem q0_ {g : List Int} (m : Nat) : ∀ (P l : List Int), g ∈ qd_ m P l ↔ g ∈ q3_ P l ∧ g.length ≤ m
 | [], l => by simp [qd_, q3_]
 | x :: P, l => by
  by_cases h : l.length < m
  ·unfold qd_
   rw [if_pos h]
   simp only [q3_, mem_cons, mem_append, q0_ m P]
   constructor
   ·rintro (e | e | e)
    ·exact ⟨.inl e, by rw [e, length_append, length_singleton]; omega⟩
    ·exact ⟨.inr (.inl e.1), e.2⟩
    ·exact ⟨.inr (.inr e.1), e.2⟩
   ·rintro ⟨e | e | e, q⟩
    ·exact .inl e
    ·exact .inr (.inl ⟨e, q⟩)
    ·exact .inr (.inr ⟨e, q⟩)
  ·rw [q7_ _ h]
   constructor
   ·intro e; cases e
   ·rintro ⟨e, q⟩
    obtain ⟨s, h1, -, h3⟩ := (ql_ _ _).1 e
    rw [h3, length_append] at q
    have := List.length_pos_iff.2 h1
    omega
theorem qz_ (m : Nat) (P l : List Int) : (qd_ m P l).length + 1 ≤ 2 ^ P.length := by
 have h1 := qv_ P l
 have h2 := (qh_ m P l).length_le
 omega
theorem ro_ {x0 : List Int} (h0 : x0.length ≤ 8) (m : Nat) : ∀ (d : Nat), (∀ (k i : Nat) (l : List Int) (acc : List (List Int)), i + d = x0.length → 3 * d + 1 ≤ k → l.length < m → l.length + d ≤ x0.length → acc.length + 2 ^ d ≤ 1000000 → spec_paGroups.l0 k x0 l (m : Int) acc (i : Int) = some (acc ++ qd_ m (x0.drop i) l)) ∧
  ∀ (k i : Nat) (l : List Int), i + d = x0.length → 3 * d + 3 ≤ k → l.length ≤ m → l.length + d ≤ x0.length → spec_paGroups.f k x0 l (i : Int) (m : Int) = some ((if (l.length : Int) > 0 then [l] else []) ++ qd_ m (x0.drop i) l) := by
 have J : ∀ (d : Nat), (∀ (k i : Nat) (l : List Int) (acc : List (List Int)), i + d = x0.length → 3 * d + 1 ≤ k → l.length < m → l.length + d ≤ x0.length → acc.length + 2 ^ d ≤ 1000000 → spec_paGroups.l0 k x0 l (m : Int) acc (i : Int) = some (acc ++ qd_ m (x0.drop i) l)) →
   ∀ (k i : Nat) (l : List Int), i + d = x0.length → 3 * d + 3 ≤ k → l.length ≤ m → l.length + d ≤ x0.length → spec_paGroups.f k x0 l (i : Int) (m : Int) = some ((if (l.length : Int) > 0 then [l] else []) ++ qd_ m (x0.drop i) l) := by
  intro d A k i l hi hk hm hl
  have hd8 : 2 ^ d ≤ 2 ^ 8 := Nat.pow_le_pow_right (by decide) (by omega)
  obtain ⟨k, rfl⟩ := qg_ (d := 0) (by omega : 0 < k)
  obtain ⟨k, rfl⟩ := qg_ (d := 0) (by omega : 0 < k)
  have hj : ∀ acc : List (List Int), acc.length ≤ 1 → spec_paGroups.j0 (k + 1) x0 l (i : Int) (m : Int) acc = some (acc ++ qd_ m (x0.drop i) l) := by
   intro acc ha
   simp only [spec_paGroups.j0]
   by_cases e : l.length < m
   ·rw [if_neg (by omega), A k i l acc hi (by omega) e (by omega) (by omega)]
   ·rw [if_pos (by omega), q7_ _ e, append_nil]
  rw [spec_paGroups.f.eq_2]
  unfold spec_l1Own.f
  by_cases e : (l.length : Int) > 0
  ·rw [if_pos e, if_pos e]
   simp only [Option.bind_some, nil_append, length_nil, length_singleton]
   rw [if_pos (by omega), Option.bind_some, if_pos (by omega)]
   exact hj [l] (by simp)
  ·rw [if_neg e, if_neg e]
   exact hj [] (by simp)
 intro d
 induction d with
 | zero =>
  have A : ∀ (k i : Nat) (l : List Int) (acc : List (List Int)), i + 0 = x0.length → 3 * 0 + 1 ≤ k → l.length < m → l.length + 0 ≤ x0.length → acc.length + 2 ^ 0 ≤ 1000000 → spec_paGroups.l0 k x0 l (m : Int) acc (i : Int) = some (acc ++ qd_ m (x0.drop i) l) := by
   intro k i l acc hi hk hm hl ha
   obtain ⟨k, rfl⟩ := qg_ (d := 0) (by omega : 0 < k)
   simp only [spec_paGroups.l0]
   rw [if_neg (by omega), show i = x0.length by omega, List.drop_length]
   simp [qd_]
  exact ⟨A, J 0 A⟩
 | succ d ih =>
  have A : ∀ (k i : Nat) (l : List Int) (acc : List (List Int)), i + (d + 1) = x0.length → 3 * (d + 1) + 1 ≤ k → l.length < m → l.length + (d + 1) ≤ x0.length → acc.length + 2 ^ (d + 1) ≤ 1000000 → spec_paGroups.l0 k x0 l (m : Int) acc (i : Int) = some (acc ++ qd_ m (x0.drop i) l) := by
   intro k i l acc hi hk hm hl ha
   obtain ⟨k, rfl⟩ := qg_ (d := 0) (by omega : 0 < k)
   have hlt : i < x0.length := by omega
   have e2 : 2 ^ (d + 1) = 2 ^ d + 2 ^ d := by rw [Nat.pow_succ]; omega
   have hsl := qz_ m (x0.drop (i + 1)) (l ++ [rd x0 (i : Int)])
   rw [List.length_drop, show x0.length - (i + 1) = d by omega] at hsl
   have hd8 : 2 ^ d ≤ 2 ^ 8 := Nat.pow_le_pow_right (by decide) (by omega)
   simp only [spec_paGroups.l0]
   unfold spec_l1Own.f
   rw [if_pos (by omega)]
   simp only [Option.bind_some, nil_append, length_nil, length_singleton]
   rw [if_pos (by omega), Option.bind_some, if_pos (by omega), if_pos (by omega), qa_ hlt (by omega),
    ih.2 k (i + 1) (l ++ [rd x0 (i : Int)]) (by omega) (by omega) (by rw [length_append, length_singleton]; omega) (by rw [length_append, length_singleton]; omega), Option.bind_some,
    if_pos (by rw [length_append, length_singleton]; omega : ((l ++ [rd x0 (i : Int)]).length : Int) > 0)]
   rw [if_pos (by rw [length_append, length_singleton]; omega)]
   rw [ih.1 k (i + 1) l _ (by omega) (by omega) hm (by omega) (by rw [length_append, length_append, length_singleton]; omega)]
   rw [qe_ x0 i hlt 0]
   show some (acc ++ ([l ++ [rd x0 (i : Int)]] ++ qd_ m (x0.drop (i + 1)) (l ++ [rd x0 (i : Int)])) ++ qd_ m (x0.drop (i + 1)) l) = some (acc ++ qd_ m (rd x0 (i : Int) :: x0.drop (i + 1)) l)
   rw [show qd_ m (rd x0 (i : Int) :: x0.drop (i + 1)) l = (l ++ [rd x0 (i : Int)]) :: (qd_ m (x0.drop (i + 1)) (l ++ [rd x0 (i : Int)]) ++ qd_ m (x0.drop (i + 1)) l) from if_pos hm]
   simp
  exact ⟨A, J (d + 1) A⟩
theorem r6_ {st : List Int → List (List Int) → Option (List (List Int))} {ok : List Int → Bool} (m : Nat) : ∀ (P l : List Int) (acc : List (List Int)), (∀ g ∈ q3_ P l, ∀ a : List (List Int), a.length < 1000000 → st g a = some (a ++ if ok g = true then [g] else [])) → acc.length + 2 ^ P.length ≤ 1000000 →
  gOn st (m : Int) P l acc = some (acc ++ (qd_ m P l).filter ok)
 | [], l, acc, _, _ => by simp [gOn, qd_]
 | x :: P, l, acc, H, hacc => by
  rw [length_cons, Nat.pow_succ] at hacc
  have hpos : 0 < 2 ^ P.length := Nat.pow_pos (by omega)
  unfold gOn qd_
  by_cases hm : l.length < m
  ·rw [if_pos (by omega), if_pos hm, H (l ++ [x]) (by simp [q3_]) acc (by omega), Option.bind_some]
   have hq : (if ok (l ++ [x]) = true then [l ++ [x]] else ([] : List (List Int))).length ≤ 1 := by split <;> simp
   have h1 := qv_ P (l ++ [x])
   have h2 := Nat.le_trans (List.length_filter_le ok (qd_ m P (l ++ [x]))) (qh_ m P (l ++ [x])).length_le
   rw [r6_ m P (l ++ [x]) _ (fun g hg => H g (by simp [q3_, hg])) (by rw [length_append]; omega), Option.bind_some,
    r6_ m P l _ (fun g hg => H g (by simp [q3_, hg])) (by rw [length_append, length_append]; omega), List.filter_cons, List.filter_append]
   cases ok (l ++ [x]) <;> simp
  ·rw [if_neg (by omega), if_neg hm]
   simp
def qY_ (o : List Bool) (t : Bool) (i d : Nat) : List Int := ((List.range' i d).filter fun j => o.getD j false == t).map fun j : Nat => (j : Int)
theorem si_ (o : List Bool) (t : Bool) : qY_ o t 0 o.length = qq_ o t := by
 unfold qY_ qq_
 rw [List.range_eq_range']
theorem rp_ (o : List Bool) (t : Bool) (i d : Nat) : qY_ o t i (d + 1) = (if (o.getD i false == t) = true then [(i : Int)] else []) ++ qY_ o t (i + 1) d := by
 unfold qY_
 rw [List.range'_succ, List.filter_cons]
 split <;> simp
theorem sd_ {o : List Bool} (t : Bool) (hn : o.length ≤ 8) : ∀ (d k i : Nat) (acc : List Int), i + d = o.length → d < k → acc.length ≤ i → impl_State_side.l0 k t acc o (o.length : Int) (i : Int) = some (acc ++ qY_ o t i d) := by
 intro d
 induction d with
 | zero =>
  intro k i acc hi hk _
  obtain ⟨k, rfl⟩ := qg_ hk
  simp only [impl_State_side.l0]
  rw [if_neg (by omega)]
  simp [qY_]
 | succ d ih =>
  intro k i acc hi hk ha
  obtain ⟨k, rfl⟩ := qg_ hk
  have hlt : i < o.length := by omega
  simp only [impl_State_side.l0]
  rw [if_pos (by omega), if_pos (by omega), if_pos (by omega), qa_ hlt (by omega), rp_, if_pos (by omega : acc.length < 17592186044416)]
  show (if (o.getD i false == t) = true then _ else _) = _
  by_cases e : (o.getD i false == t) = true
  ·rw [if_pos e, if_pos e, ih k (i + 1) _ (by omega) (by omega) (by rw [length_append, length_singleton]; omega), append_assoc]
  ·rw [if_neg e, if_neg e, ih k (i + 1) _ (by omega) (by omega) (by omega)]
   rfl
theorem se_ {o : List Bool} (b t : Bool) (hn : o.length ≤ 8) {k : Nat} (hk : 20 ≤ k) : impl_State_side.f k o b t = some (qq_ o t) := by
 unfold impl_State_side.f
 rw [show (0 : Int) = ((0 : Nat) : Int) by rfl, sd_ t hn o.length k 0 _ (by omega) (by omega) (Nat.le_refl _), si_]
 rfl
theorem qf_ {α : Type} {f : Nat → Option α} (h : ∀ k, LeO (f k) (f (k + 1))) {k k' : Nat} (hk : k ≤ k') {r : α} (hr : f k = some r) : f k' = some r := by
 induction hk with
 | refl => exact hr
 | step _ ih => exact h _ _ ih
def Rn (n : Nat) : List Int := (List.range n).map fun i : Nat => (i : Int)
def Gn (n m : Nat) : List (List Int) := qd_ m (Rn n) []
def pwB {α : Type} (p : α → α → Bool) : List α → Bool
 | [] => true
 | x :: xs => xs.all (p x) && pwB p xs
theorem rY_ {α : Type} {p : α → α → Bool} : ∀ {l : List α}, pwB p l = true → l.Pairwise fun a b => p a b = true
 | [], _ => List.Pairwise.nil
 | x :: xs, h => by
  unfold pwB at h
  rw [Bool.and_eq_true] at h
  exact List.pairwise_cons.2 ⟨fun y hy => all_eq_true.1 h.1 y hy, rY_ h.2⟩
def S6 : List (List Int) := q3_ (Rn 6) []
def cb (a : List Int) : Int := (spec_cuBits.f 20 a).getD 0
def dj (a b : List Int) : Bool := !(a.any fun x => decide (x ∈ b))
set_option maxRecDepth 100000 in
theorem chkA : (S6.all fun a => (spec_cuBits.f 20 a == some (cb a)) && decide (Go.bits .and .i64 0 (cb a) = 0)) = true := by decide +kernel
set_option maxRecDepth 100000 in
theorem chkB : (S6.all fun a => S6.all fun b => (decide (Go.bits .and .i64 (Go.bits .or .i64 0 (cb a)) (cb b) = 0) == dj a b) && (spec_cuBefore.f 20 a b == some (decide (cmpL a b < 0)))) = true := by decide +kernel
set_option maxRecDepth 100000 in
theorem chkR : ((List.range 7).all fun n => ((q3_ (Rn n) []).all fun g => spec_l1Rising.f 20 g 0 ((n : Int) - 1) == some true) && pwB (fun a b => decide (cmpL a b < 0)) (q3_ (Rn n) [])) = true := by decide +kernel
theorem mem_Gn {n m : Nat} {g : List Int} : g ∈ Gn n m ↔ g ≠ [] ∧ g.Sublist (Rn n) ∧ g.length ≤ m := by
 unfold Gn
 rw [q0_, ql_]
 constructor
 ·rintro ⟨⟨s, h1, h2, h3⟩, h4⟩
  rw [nil_append] at h3
  rw [h3] at h4 ⊢
  exact ⟨h1, h2, h4⟩
 ·rintro ⟨h1, h2, h4⟩
  exact ⟨⟨g, h1, h2, rfl⟩, h4⟩
theorem s7_ {n : Nat} (hn : n ≤ 6) : (Rn n).Sublist (Rn 6) := by
 unfold Rn
 refine List.Sublist.map _ ?_
 rw [show (6 : Nat) = n + (6 - n) by omega, List.range_add]
 exact List.sublist_append_left _ _
theorem sr_ {n m : Nat} (hn : n ≤ 6) {g : List Int} (h : g ∈ Gn n m) : g ∈ S6 := by
 obtain ⟨h1, h2, -⟩ := mem_Gn.1 h
 exact (ql_ _ _).2 ⟨g, h1, h2.trans (s7_ hn), rfl⟩
theorem rH_ {n : Nat} (m : Nat) (hn : n ≤ 6) : (Gn n m).Pairwise fun a b => cmpL a b < 0 := by
 have h := all_eq_true.1 chkR n (mem_range.2 (by omega))
 rw [Bool.and_eq_true] at h
 exact (List.Pairwise.sublist (qh_ m _ _) (rY_ h.2)).imp fun h => of_decide_eq_true h
theorem mem_Rn {n : Nat} {x : Int} : x ∈ Rn n ↔ 0 ≤ x ∧ x < (n : Int) := by
 unfold Rn
 simp only [mem_map, mem_range]
 constructor
 ·rintro ⟨i, h, rfl⟩; omega
 ·rintro ⟨h1, h2⟩; exact ⟨x.toNat, by omega, by omega⟩
theorem rG_ {n m : Nat} {g : List Int} (h : g ∈ Gn n m) : ∀ x ∈ g, 0 ≤ x ∧ x < (n : Int) := fun x hx => mem_Rn.1 ((mem_Gn.1 h).2.1.subset hx)
theorem qk_ {n m : Nat} {g : List Int} (h : g ∈ Gn n m) : 0 < g.length ∧ g.length ≤ m ∧ g.length ≤ n := by
 obtain ⟨h1, h2, h3⟩ := mem_Gn.1 h
 have := h2.length_le
 unfold Rn at this
 rw [length_map, List.length_range] at this
 exact ⟨List.length_pos_iff.2 h1, h3, this⟩
theorem rO_ {b : List Int} (hb : b.length ≤ 1000000) (x : Int) : ∀ (d k i : Nat), i + d = b.length → d < k → ∃ r, slices_Index_int_int.l0 k b x (b.length : Int) (i : Int) = some r ∧ (0 ≤ r ↔ x ∈ b.drop i) := by
 intro d
 induction d with
 | zero =>
  intro k i hi hk
  obtain ⟨k, rfl⟩ := qg_ hk
  simp only [slices_Index_int_int.l0]
  rw [if_neg (by omega)]
  refine ⟨-1, rfl, ?_⟩
  rw [List.drop_of_length_le (by omega)]
  simp
 | succ d ih =>
  intro k i hi hk
  obtain ⟨k, rfl⟩ := qg_ hk
  have hlt : i < b.length := by omega
  simp only [slices_Index_int_int.l0]
  rw [if_pos (by omega), if_pos (by omega), if_pos (by omega), qe_ b i hlt 0]
  by_cases e : x = rd b (i : Int)
  ·rw [if_pos e]
   refine ⟨_, rfl, ?_⟩
   have e2 : x = b.getD i 0 := e
   rw [e2]
   simp
  ·rw [if_neg e, qa_ hlt (by omega)]
   obtain ⟨r, h1, h2⟩ := ih k (i + 1) (by omega) (by omega)
   refine ⟨r, h1, h2.trans ?_⟩
   have e2 : x ≠ b.getD i 0 := e
   rw [mem_cons]
   exact ⟨.inr, fun h => h.resolve_left e2⟩
theorem qZ_ {b : List Int} (hb : b.length ≤ 1000000) (x : Int) {k : Nat} (hk : b.length < k) : slices_Contains_int_int.f k b x = some (decide (x ∈ b)) := by
 obtain ⟨r, h1, h2⟩ := rO_ hb x b.length k 0 (by omega) hk
 unfold slices_Contains_int_int.f slices_Index_int_int.f
 rw [show (0 : Int) = ((0 : Nat) : Int) from rfl, h1, Option.bind_some]
 rw [drop_zero] at h2
 exact congrArg some (decide_eq_decide.2 h2)
theorem rJ_ {a b : List Int} (hb : b.length ≤ 1000000) {k : Nat} (hk : b.length < k) : impl_share.f k a b = some (!(dj a b)) := by
 unfold impl_share.f dj
 simp only [qZ_ hb _ hk]
 rw [Bool.not_not]
 exact anyO_some _ _
def rc_ (tq t : Int) (s : Bool) : Int := if s = true then t else tq - t
def sd (ov : List Bool) (g : List Int) : Bool := rdOf false ov (rd g 0)
def okO (ov : List Bool) (g : List Int) : Bool := g.all fun x => rdOf false ov x == sd ov g
def okG (tq : Int) (ov : List Bool) (t : Int) (g : List Int) : Bool := okO ov g && decide (0 < rc_ tq t (sd ov g))
def tg (tq : Int) (ov : List Bool) (t : Int) (a b : List Int) : Bool := decide (1 < tq) && (dj a b && ((sd ov a != sd ov b) || decide (1 < rc_ tq t (sd ov a))))
theorem rZ_ {α : Type} {R : α → α → Prop} (ha : ∀ a b, R a b → ¬ R b a) : ∀ {l l' : List α}, l.Pairwise R → l'.Pairwise R → (∀ x, x ∈ l ↔ x ∈ l') → l = l'
 | [], [], _, _, _ => rfl
 | [], y :: ys, _, _, h => absurd ((h y).2 (by simp)) (by simp)
 | x :: xs, [], _, _, h => absurd ((h x).1 (by simp)) (by simp)
 | x :: xs, y :: ys, h1, h2, h => by
  rw [List.pairwise_cons] at h1 h2
  have e : x = y := by
   rcases mem_cons.1 ((h x).1 (by simp)) with e | e
   ·exact e
   ·rcases mem_cons.1 ((h y).2 (by simp)) with e' | e'
    ·exact e'.symm
    ·exact absurd (h2.1 x e) (ha _ _ (h1.1 y e'))
  subst e
  refine congrArg (x :: ·) (rZ_ ha h1.2 h2.2 fun z => ?_)
  constructor
  ·intro hz
   rcases mem_cons.1 ((h z).1 (by simp [hz])) with e | e
   ·rw [e] at hz; exact absurd (h1.1 x hz) (fun q => ha _ _ q q)
   ·exact e
  ·intro hz
   rcases mem_cons.1 ((h z).2 (by simp [hz])) with e | e
   ·rw [e] at hz; exact absurd (h2.1 x hz) (fun q => ha _ _ q q)
   ·exact e
theorem sub_filter {α : Type} {g L : List α} {p : α → Bool} : g.Sublist (L.filter p) ↔ g.Sublist L ∧ ∀ x ∈ g, p x = true := by
 constructor
 ·intro h
  exact ⟨h.trans List.filter_sublist, fun x hx => (List.mem_filter.1 (h.subset hx)).2⟩
 ·rintro ⟨h1, h2⟩
  have := h1.filter p
  rwa [List.filter_eq_self.2 h2] at this
theorem rP_ (ov : List Bool) (s : Bool) : qq_ ov s = (Rn ov.length).filter fun x => rdOf false ov x == s := by
 unfold qq_ Rn
 rw [List.filter_map]
 rfl
theorem mem_side {ov : List Bool} {m : Nat} {s : Bool} {g : List Int} : g ∈ qd_ m (qq_ ov s) [] ↔ g ∈ Gn ov.length m ∧ okO ov g = true ∧ sd ov g = s := by
 rw [q0_, ql_, mem_Gn, rP_]
 constructor
 ·rintro ⟨⟨q, h1, h2, h3⟩, h4⟩
  rw [nil_append] at h3
  subst h3
  obtain ⟨h5, h6⟩ := sub_filter.1 h2
  have hs : sd ov g = s := by
   cases g with
   | nil => exact absurd rfl h1
   | cons x g => exact beq_iff_eq.1 (h6 x (by simp))
  refine ⟨⟨h1, h5, h4⟩, all_eq_true.2 fun x hx => ?_, hs⟩
  rw [hs]
  exact h6 x hx
 ·rintro ⟨⟨h1, h2, h4⟩, h5, h6⟩
  refine ⟨⟨g, h1, sub_filter.2 ⟨h2, fun x hx => ?_⟩, rfl⟩, h4⟩
  have := all_eq_true.1 h5 x hx
  rwa [h6] at this
def gpL (m : Nat) (tq : Int) (ov : List Bool) (t : Int) : List (List Int) := (Gn ov.length m).filter (okG tq ov t)
def ptL (m : Nat) (tq : Int) (ov : List Bool) (t : Int) (s : Bool) : List (List Int) := if 0 < rc_ tq t s then qd_ m (qq_ ov s) [] else []
theorem q4_ {tq t : Int} (h0 : 0 ≤ t) (h1 : t ≤ tq) (h2 : tq ≤ 2) (ts : List Int) (se : Int) (ov : List Bool) (s : Bool) : impl_Night_torches.f ts se tq ov t s = some (rc_ tq t s) := by
 unfold impl_Night_torches.f rc_
 cases s
 ·simp [qb_ (show -9223372036854775808 ≤ tq - t by omega) (by omega)]
 ·rfl
theorem qN_ {tq t : Int} (h0 : 0 ≤ t) (h1 : t ≤ tq) (h2 : tq ≤ 2) (ts : List Int) (m : Nat) {ov : List Bool} (hn : ov.length ≤ 6) (s : Bool) {acc : List (List Int)} (ha : acc.length ≤ 1000) {k : Nat} (hk : 20 ≤ k) : grPart k ts (m : Int) tq ov t s acc = some (acc ++ ptL m tq ov t s) := by
 unfold grPart ptL
 rw [q4_ h0 h1 h2, Option.bind_some]
 by_cases c : 0 < rc_ tq t s
 ·have hl := qM_ ov s
  have h3 : 2 ^ (qq_ ov s).length ≤ 2 ^ 6 := Nat.pow_le_pow_right (by decide) (by omega)
  rw [if_pos c, if_pos c, se_ s s (by omega) hk, Option.bind_some, if_pos (by omega), r6_ (ok := fun _ => true) m _ [] acc (fun g _ a ha => by unfold grSt; rw [if_pos ha]; rfl) (by omega), List.filter_eq_self.2 fun _ _ => rfl]
 ·rw [if_neg c, if_neg c, append_nil]
theorem rz_ (m : Nat) (tq : Int) {ov : List Bool} (hn : ov.length ≤ 6) (t : Int) (s : Bool) : (ptL m tq ov t s).length ≤ 63 := by
 unfold ptL
 have hl := qM_ ov s
 have h3 : 2 ^ (qq_ ov s).length ≤ 2 ^ 6 := Nat.pow_le_pow_right (by decide) (by omega)
 have := qz_ m (qq_ ov s) []
 split
 ·omega
 ·simp
theorem r3_ {tq t : Int} (h0 : 0 ≤ t) (h1 : t ≤ tq) (h2 : tq ≤ 2) (ts : List Int) (m : Nat) {ov : List Bool} (hn : ov.length ≤ 6) {k : Nat} (hk : 20 ≤ k) : impl_Night_groups.f k ts (m : Int) tq ov t = some (gpL m tq ov t) := by
 have l1 := rz_ m tq hn t false
 have l2 := rz_ m tq hn t true
 have hmem : ∀ g, g ∈ ptL m tq ov t false ++ ptL m tq ov t true ↔ g ∈ gpL m tq ov t := by
  intro g
  have hp : ∀ s, g ∈ ptL m tq ov t s ↔ g ∈ Gn ov.length m ∧ (okO ov g = true ∧ sd ov g = s) ∧ 0 < rc_ tq t s := by
   intro s
   unfold ptL
   by_cases c : 0 < rc_ tq t s
   ·rw [if_pos c, mem_side]; exact ⟨fun h => ⟨h.1, h.2, c⟩, fun h => ⟨h.1, h.2.1⟩⟩
   ·rw [if_neg c]; exact ⟨fun h => absurd h (by simp), fun h => absurd h.2.2 c⟩
  unfold gpL
  rw [mem_append, hp, hp, List.mem_filter]
  unfold okG
  rw [Bool.and_eq_true, decide_eq_true_eq]
  constructor
  ·rintro (⟨a, ⟨b, c⟩, d⟩ | ⟨a, ⟨b, c⟩, d⟩) <;> exact ⟨a, b, by rw [c]; exact d⟩
  ·rintro ⟨a, b, c⟩
   cases e : sd ov g
   ·rw [e] at c; exact .inl ⟨a, ⟨b, rfl⟩, c⟩
   ·rw [e] at c; exact .inr ⟨a, ⟨b, rfl⟩, c⟩
 have hnd : (ptL m tq ov t false ++ ptL m tq ov t true).Nodup := by
  have hp : ∀ s, (ptL m tq ov t s).Nodup := by
   intro s
   unfold ptL
   split
   ·exact (qs_ _ _ (qX_ ov s)).sublist (qh_ m _ _)
   ·exact List.nodup_nil
  rw [List.nodup_append]
  refine ⟨hp _, hp _, fun a ha b hb e => ?_⟩
  have q : ∀ s, ∀ g ∈ ptL m tq ov t s, sd ov g = s := by
   intro s g hg
   unfold ptL at hg
   split at hg
   ·exact (mem_side.1 hg).2.2
   ·cases hg
  have e1 := q _ a ha
  have e2 := q _ b hb
  rw [e, e2] at e1
  cases e1
 have hlen : ∀ g ∈ ptL m tq ov t false ++ ptL m tq ov t true, g.length ≤ 6 := fun g hg => by
  have := (qk_ (List.mem_filter.1 ((hmem g).1 hg)).1).2.2
  omega
 have hsort : (ptL m tq ov t false ++ ptL m tq ov t true).mergeSort leL = gpL m tq ov t := by
  refine rZ_ (R := fun a b => cmpL a b < 0) (fun a b h => by rw [cmpL_flip a b]; omega) ?_ ((rH_ m hn).sublist List.filter_sublist) fun x => by rw [List.mem_mergeSort]; exact hmem x
  have p1 : ((ptL m tq ov t false ++ ptL m tq ov t true).mergeSort leL).Pairwise fun a b => leL a b = true := List.pairwise_mergeSort (fun a b c h1 h2 => by
   unfold leL at *
   rw [decide_eq_true_eq] at *
   exact cmpL_trans a b c h1 h2) (fun a b => by
   unfold leL
   rw [Bool.or_eq_true, decide_eq_true_eq, decide_eq_true_eq, cmpL_flip a b]
   omega) _
  have p2 : ((ptL m tq ov t false ++ ptL m tq ov t true).mergeSort leL).Pairwise (· ≠ ·) := (List.mergeSort_perm _ _).nodup_iff.2 hnd
  refine (p1.and p2).imp fun {a b} h => ?_
  have h3 : cmpL a b ≤ 0 := of_decide_eq_true h.1
  have h4 : cmpL a b ≠ 0 := fun e => h.2 (cmpL_zero a b e)
  omega
 unfold impl_Night_groups.f
 rw [qN_ h0 h1 h2 ts m hn false (by simp) hk, Option.bind_some, nil_append, qN_ h0 h1 h2 ts m hn true (by omega) hk, Option.bind_some]
 unfold grSort
 by_cases c : (ptL m tq ov t false ++ ptL m tq ov t true).length = 0
 ·rw [if_pos c]
  have e := List.length_eq_zero_iff.1 c
  have : gpL m tq ov t = [] := List.eq_nil_iff_forall_not_mem.2 fun x hx => by
   have := (hmem x).2 hx
   rw [e] at this
   cases this
  rw [this]
 ·rw [if_neg c, if_pos ⟨by rw [length_append]; omega, all_eq_true.2 fun x hx => decide_eq_true (by have := hlen x hx; omega)⟩, hsort]
theorem qj_ {α : Type} {l : List α} {i : Nat} {z : α} (h : i < l.length) : l.getD ((i : Int).toNat) z ∈ l := by
 rw [Int.toNat_natCast, getD_eq_getElem?_getD, getElem?_eq_getElem h]
 exact List.getElem_mem h
def rn_ (p : List Int → List Int → Bool) : List (List Int) → List (List (List Int))
 | [] => []
 | a :: ls => [a] :: (((ls.filter (p a)).map fun b => [a, b]) ++ rn_ p ls)
def roL (m : Nat) (tq : Int) (ov : List Bool) (t : Int) : List (List (List Int)) := rn_ (tg tq ov t) (gpL m tq ov t)
theorem s8_ {n m : Nat} {g : List Int} (h : g ∈ Gn n m) : 0 ≤ rd g 0 ∧ rd g 0 < (n : Int) := rG_ h _ (by
 have := (qk_ h).1
 unfold rd
 rw [getD_eq_getElem?_getD, getElem?_eq_getElem (by omega)]
 exact List.getElem_mem _)
theorem qS_ {tq t : Int} (h0 : 0 ≤ t) (h1 : t ≤ tq) (h2 : tq ≤ 2) (ts : List Int) (se : Int) {ov : List Bool} (hn : ov.length ≤ 6) {m : Nat} {a b : List Int} (ha : a ∈ Gn ov.length m) (hb : b ∈ Gn ov.length m) {k : Nat} (hk : 20 ≤ k) :
  impl_Night_together.f k ts se tq ov t a b = some (dj a b && ((sd ov a != sd ov b) || decide (1 < rc_ tq t (sd ov a)))) := by
 have a1 := s8_ ha
 have b1 := s8_ hb
 have a2 := qk_ ha
 have b2 := qk_ hb
 unfold impl_Night_together.f
 rw [if_pos (by omega), if_pos a1.1, if_pos a1.2, rJ_ (by omega) (by omega), Option.bind_some]
 cases hd : dj a b
 ·rfl
 ·rw [if_neg (by decide), if_pos (by omega), if_pos b1.1, if_pos b1.2]
  show (if ((sd ov a) != (sd ov b)) = true then some true else (impl_Night_torches.f ts se tq ov t (sd ov a)).bind fun t349 => some (decide (t349 > 1))) = _
  cases he : sd ov a != sd ov b
  ·rw [if_neg (by decide), q4_ h0 h1 h2, Option.bind_some]
   rfl
  ·rfl
theorem qE_ {tq t : Int} (h0 : 0 ≤ t) (h1 : t ≤ tq) (h2 : tq ≤ 2) (ts : List Int) (se : Int) {ov : List Bool} (hn : ov.length ≤ 6) {m : Nat} {a : List Int} (ha : a ∈ Gn ov.length m) {k : Nat} (hk : 20 ≤ k) : ∀ (bs : List (List Int)) (acc : List (List (List Int))), (∀ b ∈ bs, b ∈ Gn ov.length m) → acc.length + bs.length ≤ 999999 →
  nrIn k ts se tq ov t a bs acc = some (acc ++ ((bs.filter (tg tq ov t a)).map fun b => [a, b]))
 | [], acc, _, _ => by simp [nrIn]
 | b :: bs, acc, hb, hl => by
  rw [length_cons] at hl
  have hb1 := hb b (by simp)
  have b2 := qk_ hb1
  have hb2 : ∀ x ∈ bs, x ∈ Gn ov.length m := fun x hx => hb x (by simp [hx])
  unfold nrIn
  by_cases c : 1 < tq
  ·rw [if_pos c, qS_ h0 h1 h2 ts se hn ha hb1 hk, Option.bind_some]
   have e : tg tq ov t a b = (dj a b && ((sd ov a != sd ov b) || decide (1 < rc_ tq t (sd ov a)))) := by unfold tg; rw [decide_eq_true c, Bool.true_and]
   rw [← e]
   cases hq : tg tq ov t a b
   ·rw [if_neg (by decide), qE_ h0 h1 h2 ts se hn ha hk bs acc hb2 (by omega), List.filter_cons_of_neg (by rw [hq]; decide)]
   ·rw [if_pos rfl, if_pos (by omega), qE_ h0 h1 h2 ts se hn ha hk bs _ hb2 (by rw [length_append, length_singleton]; omega), List.filter_cons_of_pos hq]
    simp
  ·have e : ∀ b, tg tq ov t a b = false := fun b => by unfold tg; rw [decide_eq_false c, Bool.false_and]
   rw [if_neg c, qE_ h0 h1 h2 ts se hn ha hk bs acc hb2 (by omega), List.filter_cons_of_neg (by rw [e]; decide)]
theorem rg_ {tq t : Int} (h0 : 0 ≤ t) (h1 : t ≤ tq) (h2 : tq ≤ 2) (ts : List Int) (se : Int) {ov : List Bool} (hn : ov.length ≤ 6) {m : Nat} {k : Nat} (hk : 20 ≤ k) : ∀ (ls : List (List Int)) (acc : List (List (List Int))), (∀ b ∈ ls, b ∈ Gn ov.length m) → ls.length ≤ 63 → acc.length + 100 * ls.length ≤ 100000 →
  nrOut k ts se tq ov t ls acc = some (acc ++ rn_ (tg tq ov t) ls)
 | [], acc, _, _, _ => by simp [nrOut, rn_]
 | a :: ls, acc, hb, h63, hl => by
  rw [length_cons] at hl h63
  have ha := hb a (by simp)
  have a2 := qk_ ha
  have hb2 : ∀ x ∈ ls, x ∈ Gn ov.length m := fun x hx => hb x (by simp [hx])
  have hf := List.length_filter_le (tg tq ov t a) ls
  unfold nrOut
  rw [if_pos (by omega), qE_ h0 h1 h2 ts se hn ha hk ls _ hb2 (by rw [length_append, length_singleton]; omega), Option.bind_some,
   rg_ h0 h1 h2 ts se hn hk ls _ hb2 (by omega) (by rw [length_append, length_append, length_map, length_singleton]; omega)]
  simp [rn_]
theorem s3_ {m : Nat} {tq : Int} {ov : List Bool} {t : Int} {g : List Int} (h : g ∈ gpL m tq ov t) : g ∈ Gn ov.length m ∧ okG tq ov t g = true := List.mem_filter.1 h
theorem rV_ {n : Nat} (m : Nat) (hn : n ≤ 6) : (Gn n m).length ≤ 63 := by
 have h1 := qz_ m (Rn n) []
 have h2 : (Rn n).length = n := by unfold Rn; rw [length_map, List.length_range]
 have h3 : 2 ^ n ≤ 2 ^ 6 := Nat.pow_le_pow_right (by decide) hn
 rw [h2] at h1
 unfold Gn
 omega
theorem rw_ {tq t : Int} (h0 : 0 ≤ t) (h1 : t ≤ tq) (h2 : tq ≤ 2) (ts : List Int) (m : Nat) {ov : List Bool} (hn : ov.length ≤ 6) {k : Nat} (hk : 20 ≤ k) : impl_Night_rounds.f k ts (m : Int) tq ov t = some (roL m tq ov t) := by
 have h3 := rV_ m hn
 have h4 : (gpL m tq ov t).length ≤ (Gn ov.length m).length := List.length_filter_le _ _
 unfold impl_Night_rounds.f
 rw [r3_ h0 h1 h2 ts m hn hk, Option.bind_some, if_pos (by omega), rg_ h0 h1 h2 ts (m : Int) hn hk _ _ (fun b hb => (s3_ hb).1) (by omega) (by simp; omega), nil_append]
 rfl
/-! What the model lists. -/
theorem rC_ {n m : Nat} (hn : n ≤ 6) {g : List Int} (h : g ∈ Gn n m) {k : Nat} (hk : 20 ≤ k) : spec_cuBits.f k g = some (cb g) ∧ Go.bits .and .i64 0 (cb g) = 0 := by
 have h1 := all_eq_true.1 chkA g (sr_ hn h)
 rw [Bool.and_eq_true, beq_iff_eq, decide_eq_true_eq] at h1
 exact ⟨qf_ (spec_cuBits.mono _) hk h1.1, h1.2⟩
theorem ri_ {n m : Nat} (hn : n ≤ 6) {a b : List Int} (ha : a ∈ Gn n m) (hb : b ∈ Gn n m) {k : Nat} (hk : 20 ≤ k) : spec_cuBefore.f k a b = some (decide (cmpL a b < 0)) ∧ (Go.bits .and .i64 (Go.bits .or .i64 0 (cb a)) (cb b) = 0 ↔ dj a b = true) := by
 have h1 := all_eq_true.1 (all_eq_true.1 chkB a (sr_ hn ha)) b (sr_ hn hb)
 rw [Bool.and_eq_true, beq_iff_eq, beq_iff_eq] at h1
 refine ⟨qf_ (spec_cuBefore.mono _ _) hk h1.2, ?_⟩
 rw [← h1.1, decide_eq_true_eq]
theorem ry_ {n m : Nat} (hn : n ≤ 6) {g : List Int} (h : g ∈ Gn n m) {k : Nat} (hk : 20 ≤ k) : spec_l1Rising.f k g 0 ((n : Int) - 1) = some true := by
 have h1 := all_eq_true.1 chkR n (mem_range.2 (by omega))
 rw [Bool.and_eq_true] at h1
 exact qf_ (spec_l1Rising.mono _ _ _) hk (beq_iff_eq.1 (all_eq_true.1 h1.1 g ((qh_ m _ _).subset h)))
theorem qC_ {ts : List Int} (hn : ts.length ≤ 6) {m : Nat} (tq : Int) {L : List (List Int)} (hL : L.length ≤ 2) {i : Nat} (hi : i < L.length) {g : List Int} (hg : rd_L1 L (i : Int) = g) (h : g ∈ Gn ts.length m) (x : Int) {k : Nat} (hk : 20 ≤ k) :
  spec_toGroups.l0 (k + 1) x L (L.length : Int) (i : Int) ts (m : Int) tq = if Go.bits .and .i64 x (cb g) = 0 then spec_toGroups.l0 k (Go.bits .or .i64 x (cb g)) L (L.length : Int) ((i + 1 : Nat) : Int) ts (m : Int) tq else some false := by
 have l := qk_ h
 simp only [spec_toGroups.l0]
 rw [if_pos (by omega), if_pos (by omega), if_pos (by omega), hg, qp_, Option.bind_some, if_pos (by rw [inB_true]; omega), show wrap64 ((ts.length : Int) - 1) = (ts.length : Int) - 1 from qb_ (by omega) (by omega), ry_ hn h hk, Option.bind_some, if_pos rfl, (rC_ hn h hk).1, Option.bind_some, Option.bind_some, qa_ hi (by omega)]
theorem toG1 {ts : List Int} (hn : ts.length ≤ 6) {m : Nat} {tq : Int} (h1 : 1 ≤ tq) {a : List Int} (ha : a ∈ Gn ts.length m) {k : Nat} (hk : 30 ≤ k) : spec_toGroups.f k ts (m : Int) tq [a] = some true := by
 obtain ⟨k, rfl⟩ : ∃ k', k = k' + 2 := ⟨k - 2, by omega⟩
 unfold spec_toGroups.f
 rw [qp_, Option.bind_some, if_pos (by rw [inB_true]; simp; omega), show (0 : Int) = ((0 : Nat) : Int) from rfl, qC_ hn tq (by simp) (i := 0) (by simp) (g := a) rfl ha _ (by omega), if_pos (by exact (rC_ hn ha (Nat.le_refl 20)).2)]
 simp only [spec_toGroups.l0]
 rw [if_neg (by simp)]
theorem toG2 {ts : List Int} (hn : ts.length ≤ 6) {m : Nat} {tq : Int} (h1 : 1 ≤ tq) {a b : List Int} (ha : a ∈ Gn ts.length m) (hb : b ∈ Gn ts.length m) {k : Nat} (hk : 30 ≤ k) : spec_toGroups.f k ts (m : Int) tq [a, b] = some (decide (1 < tq) && dj a b) := by
 obtain ⟨k, rfl⟩ : ∃ k', k = k' + 3 := ⟨k - 3, by omega⟩
 unfold spec_toGroups.f
 rw [qp_, Option.bind_some]
 by_cases c : 1 < tq
 ·rw [if_pos (by rw [inB_true]; simp; omega), decide_eq_true c, Bool.true_and, show (0 : Int) = ((0 : Nat) : Int) from rfl, qC_ hn tq (by simp) (i := 0) (by simp) (g := a) rfl ha _ (by omega), if_pos (by exact (rC_ hn ha (Nat.le_refl 20)).2),
   qC_ hn tq (by simp) (i := 0 + 1) (by simp) (g := b) rfl hb _ (by omega)]
  have h3 : Go.bits .and .i64 (Go.bits .or .i64 ((0 : Nat) : Int) (cb a)) (cb b) = 0 ↔ dj a b = true := (ri_ hn ha hb (Nat.le_refl 20)).2
  cases hd : dj a b
  ·rw [if_neg (fun e => by have := h3.1 e; rw [hd] at this; cases this)]
  ·rw [if_pos (h3.2 hd)]
   simp only [spec_toGroups.l0]
   rw [if_neg (by simp)]
 ·rw [if_neg (fun e => by rw [inB_true] at e; simp at e; omega), decide_eq_false c]
  rfl
theorem w01 : wrap64 ((0 : Int) + 1) = ((1 : Nat) : Int) := (qb_ (by omega) (by omega)).trans (by omega)
theorem w12 : wrap64 (((1 : Nat) : Int) + 1) = ((2 : Nat) : Int) := (qb_ (by omega) (by omega)).trans (by omega)
theorem w10 : wrap64 (((1 : Nat) : Int) - 1) = 0 := (qb_ (by omega) (by omega)).trans (by omega)
theorem sn_ {ov : List Bool} (t : Int) (x2 L : List (List Int)) (x7 x8 len0 i0 : Int) {g : List Int} (hg : ∀ x ∈ g, 0 ≤ x ∧ x < (ov.length : Int)) (h0 : 0 < g.length) (hl : g.length ≤ 100) : ∀ (d K i : Nat), i + d = g.length →
  spec_toCan.l1 (K + 1 + d) x2 x7 x8 g L len0 i0 g (g.length : Int) (i : Int) ov t = if ((g.drop i).all fun x => rdOf false ov x == sd ov g) = true then (if sd ov g = true then spec_toCan.l0 K x2 x7 (wrap64 (x8 - 1)) L len0 (wrap64 (i0 + 1)) ov t else spec_toCan.l0 K x2 (wrap64 (x7 - 1)) x8 L len0 (wrap64 (i0 + 1)) ov t) else some false := by
 have hr : 0 ≤ rd g 0 ∧ rd g 0 < (ov.length : Int) := hg _ (by
  unfold rd
  rw [getD_eq_getElem?_getD, getElem?_eq_getElem (by omega)]
  exact List.getElem_mem _)
 intro d
 induction d with
 | zero =>
  intro K i hi
  rw [show K + 1 + 0 = K + 1 by omega, spec_toCan.l1.eq_2, if_neg (by omega), if_pos (by omega), if_pos hr.1, if_pos hr.2, List.drop_of_length_le (by omega)]
  rfl
 | succ d ih =>
  intro K i hi
  have hlt : i < g.length := by omega
  have hx : 0 ≤ rd g (i : Int) ∧ rd g (i : Int) < (ov.length : Int) := hg _ (qj_ hlt)
  rw [show K + 1 + (d + 1) = (K + 1 + d) + 1 by omega, spec_toCan.l1.eq_2, if_pos (by omega), if_pos (by omega), if_pos (by omega), if_pos hx.1, if_pos hx.2, if_pos (by omega), if_pos hr.1, if_pos hr.2, qa_ hlt (by omega), ih K (i + 1) (by omega), qe_ g i hlt 0, List.all_cons]
  show (if (rdOf false ov (rd g (i : Int)) != sd ov g) = true then some false else _) = if ((rdOf false ov (rd g (i : Int)) == sd ov g) && _) = true then _ else _
  cases e : rdOf false ov (rd g (i : Int)) == sd ov g
  ·rw [if_pos (by unfold bne; rw [e]; rfl), Bool.false_and, if_neg (by decide)]
  ·rw [if_neg (by unfold bne; rw [e]; decide), Bool.true_and]
theorem qH_ {ov : List Bool} (t : Int) (L : List (List Int)) (hL : L.length ≤ 2) (x7 x8 : Int) (k : Nat) : spec_toCan.l0 (k + 1) L x7 x8 L (L.length : Int) (L.length : Int) ov t = some (decide (x7 ≥ 0) && decide (x8 ≥ 0)) := by
 rw [spec_toCan.l0.eq_2, if_neg (by omega)]
 by_cases c : x7 ≥ 0
 ·rw [if_pos c, decide_eq_true c, Bool.true_and]
 ·rw [if_neg c, decide_eq_false c, Bool.false_and]
theorem can1 {tq t : Int} (h0 : 0 ≤ t) (h1 : t ≤ tq) (h2 : tq ≤ 2) (h3 : 1 ≤ tq) {ts : List Int} {m : Nat} {ov : List Bool} (hl : ov.length = ts.length) (hn : ts.length ≤ 6) {a : List Int} (ha : a ∈ Gn ts.length m) {k : Nat} (hk : 60 ≤ k) : spec_toCan.f k ts (m : Int) tq ov t [a] = some (okG tq ov t a) := by
 have al := qk_ ha
 obtain ⟨K, hK⟩ : ∃ K, k = (K + 10 + 1 + a.length) + 1 + 1 := ⟨k - 13 - a.length, by omega⟩
 unfold spec_toCan.f
 rw [toG1 hn h3 ha (by omega), Option.bind_some, if_pos rfl, hK, spec_toCan.l0.eq_2, if_pos (by simp), if_pos (by omega), if_pos (by simp), if_neg (by omega), spec_toCan.j1.eq_2, if_neg (by decide)]
 show spec_toCan.l1 (K + 10 + 1 + a.length) [a] (wrap64 (tq - t)) t a [a] _ 0 a (a.length : Int) ((0 : Nat) : Int) ov t = _
 rw [sn_ t [a] [a] _ _ _ 0 (by rw [hl]; exact rG_ ha) al.1 (by omega) a.length (K + 10) 0 (by omega), drop_zero]
 unfold okG okO
 cases e : a.all fun x => rdOf false ov x == sd ov a
 ·rw [if_neg (by decide), Bool.false_and]
 ·rw [if_pos rfl, Bool.true_and, show wrap64 ((0 : Int) + 1) = (([a] : List (List Int)).length : Int) from w01, show wrap64 (tq - t) = tq - t from qb_ (by omega) (by omega)]
  rw [show wrap64 (t - 1) = t - 1 from qb_ (by omega) (by omega), show wrap64 (tq - t - 1) = tq - t - 1 from qb_ (by omega) (by omega), qH_ t [a] (by simp), qH_ t [a] (by simp)]
  unfold rc_
  cases e2 : sd ov a
  ·rw [if_neg (by decide), if_neg (by decide)]
   refine congrArg some ?_
   rw [decide_eq_true (by omega : t ≥ 0), Bool.and_true]
   exact decide_eq_decide.2 (by omega)
  ·rw [if_pos rfl, if_pos rfl]
   refine congrArg some ?_
   rw [decide_eq_true (by omega : tq - t ≥ 0), Bool.true_and]
   exact decide_eq_decide.2 (by omega)
def cn2 (tq : Int) (ov : List Bool) (t : Int) (a b : List Int) : Bool := okG tq ov t a && (okG tq ov t b && tg tq ov t a b)
theorem can2 {tq t : Int} (h0 : 0 ≤ t) (h1 : t ≤ tq) (h2 : tq ≤ 2) (h3 : 1 ≤ tq) {ts : List Int} {m : Nat} {ov : List Bool} (hl : ov.length = ts.length) (hn : ts.length ≤ 6) {a b : List Int} (ha : a ∈ Gn ts.length m) (hb : b ∈ Gn ts.length m) (hab : cmpL a b < 0) {k : Nat} (hk : 60 ≤ k) : spec_toCan.f k ts (m : Int) tq ov t [a, b] = some (cn2 tq ov t a b) := by
 have al := qk_ ha
 have bl := qk_ hb
 obtain ⟨K, hK⟩ : ∃ K, k = (K + 30 + 1 + b.length + 1 + 1 + 1 + a.length) + 1 + 1 := ⟨k - 36 - a.length - b.length, by omega⟩
 unfold spec_toCan.f
 rw [toG2 hn h3 ha hb (by omega), Option.bind_some]
 by_cases c : 1 < tq ∧ dj a b = true
 rotate_left
 ·have e : (decide (1 < tq) && dj a b) = false := by
   cases hd : dj a b
   ·rw [Bool.and_false]
   ·rw [decide_eq_false (fun q => c ⟨q, hd⟩), Bool.false_and]
  have e2 : cn2 tq ov t a b = false := by
   unfold cn2 tg
   rw [← Bool.and_assoc (decide (1 < tq)), e, Bool.false_and, Bool.and_false, Bool.and_false]
  rw [e, if_neg (by decide), e2]
 have e : (decide (1 < tq) && dj a b) = true := by rw [decide_eq_true c.1, c.2]; rfl
 rw [e, if_pos rfl, hK, spec_toCan.l0.eq_2, if_pos (by simp), if_pos (by omega), if_pos (by simp), if_neg (by omega), spec_toCan.j1.eq_2, if_neg (by decide)]
 show spec_toCan.l1 (K + 30 + 1 + b.length + 1 + 1 + 1 + a.length) [a, b] (wrap64 (tq - t)) t a [a, b] _ 0 a (a.length : Int) ((0 : Nat) : Int) ov t = _
 have w1 : wrap64 (tq - t) = tq - t := qb_ (by omega) (by omega)
 have w2 : wrap64 (t - 1) = t - 1 := qb_ (by omega) (by omega)
 have w3 : wrap64 (tq - t - 1) = tq - t - 1 := qb_ (by omega) (by omega)
 have w4 : wrap64 (t - 1 - 1) = t - 2 := by rw [qb_ (by omega) (by omega)]; omega
 have w5 : wrap64 (tq - t - 1 - 1) = tq - t - 2 := by rw [qb_ (by omega) (by omega)]; omega
 have second : ∀ x7 x8, spec_toCan.l0 (K + 30 + 1 + b.length + 1 + 1) [a, b] x7 x8 [a, b] (([a, b] : List (List Int)).length : Int) (wrap64 (0 + 1)) ov t = if okO ov b = true then (if sd ov b = true then some (decide (x7 ≥ 0) && decide (wrap64 (x8 - 1) ≥ 0)) else some (decide (wrap64 (x7 - 1) ≥ 0) && decide (x8 ≥ 0))) else some false := by
  intro x7 x8
  rw [w01, spec_toCan.l0.eq_2, if_pos (by simp), if_pos (by omega), if_pos (by simp), if_pos (by omega), w10, if_pos (by omega), if_pos (by simp)]
  show (spec_cuBefore.f _ a b).bind _ = _
  rw [(ri_ hn ha hb (by omega)).1, Option.bind_some, decide_eq_true hab, spec_toCan.j1.eq_2, if_neg (by decide)]
  show spec_toCan.l1 (K + 30 + 1 + b.length) [a, b] x7 x8 b [a, b] _ ((1 : Nat) : Int) b (b.length : Int) ((0 : Nat) : Int) ov t = _
  rw [sn_ t [a, b] [a, b] _ _ _ ((1 : Nat) : Int) (by rw [hl]; exact rG_ hb) bl.1 (by omega) b.length (K + 30) 0 (by omega), drop_zero, show wrap64 (((1 : Nat) : Int) + 1) = (([a, b] : List (List Int)).length : Int) from w12, qH_ t [a, b] (by simp), qH_ t [a, b] (by simp)]
  rfl
 rw [w1, sn_ t [a, b] [a, b] _ _ _ 0 (by rw [hl]; exact rG_ ha) al.1 (by omega) a.length (K + 30 + 1 + b.length + 1 + 1) 0 (by omega), drop_zero, second, second]
 unfold cn2 okG tg
 rw [decide_eq_true c.1, c.2, Bool.true_and, Bool.true_and]
 show (if okO ov a = true then _ else _) = _
 cases ea : okO ov a
 ·rfl
 cases eb : okO ov b
 ·simp
 simp only [if_true, Bool.true_and, w2, w3]
 unfold rc_
 cases sa : sd ov a <;> cases sb : sd ov b
 ·simp only [Bool.false_eq_true, if_false, w5, bne_self_eq_false, Bool.false_or]
  refine congrArg some ?_
  rw [Bool.eq_iff_iff]
  simp only [Bool.and_eq_true, decide_eq_true_eq]
  omega
 ·simp only [Bool.false_eq_true, if_false, if_true, w2, w3]
  refine congrArg some ?_
  rw [Bool.eq_iff_iff]
  simp
  omega
 ·simp only [Bool.false_eq_true, if_false, if_true, w2, w3]
  refine congrArg some ?_
  rw [Bool.eq_iff_iff]
  simp
  omega
 ·simp only [if_true, w4, bne_self_eq_false, Bool.false_or]
  refine congrArg some ?_
  rw [Bool.eq_iff_iff]
  simp only [Bool.and_eq_true, decide_eq_true_eq]
  omega
def ss_ (c1 : List Int → Bool) (c2 : List Int → List Int → Bool) : List (List Int) → List (List (List Int))
 | [] => []
 | a :: ls => (if c1 a = true then [[a]] else []) ++ (((ls.filter (c2 a)).map fun b => [a, b]) ++ ss_ c1 c2 ls)
theorem rx_ (tq : Int) (ov : List Bool) (t : Int) : ∀ ls : List (List Int), ss_ (okG tq ov t) (cn2 tq ov t) ls = rn_ (tg tq ov t) (ls.filter (okG tq ov t))
 | [] => rfl
 | a :: ls => by
  unfold ss_
  rw [rx_ tq ov t ls]
  cases e : okG tq ov t a
  ·rw [if_neg (by decide), List.filter_cons_of_neg (by rw [e]; decide), List.filter_eq_nil_iff.2 (fun b _ => by unfold cn2; rw [e]; simp)]
   rfl
  ·rw [if_pos rfl, List.filter_cons_of_pos e]
   show _ = [a] :: ((((ls.filter (okG tq ov t)).filter (tg tq ov t a)).map fun b => [a, b]) ++ rn_ (tg tq ov t) (ls.filter (okG tq ov t)))
   rw [List.filter_filter, show (ls.filter fun x => tg tq ov t a x && okG tq ov t x) = ls.filter (cn2 tq ov t a) from List.filter_congr fun b _ => by unfold cn2; rw [e, Bool.true_and, Bool.and_comm]]
   rfl
theorem r0_ {l : List Int} (h : l.length ≤ 1000000) : spec_l1Own.f l = some l := by
 unfold spec_l1Own.f
 rw [Option.bind_some, if_pos (by simp only [length_nil]; omega), nil_append]
theorem su_ {tq t : Int} (h0 : 0 ≤ t) (h1 : t ≤ tq) (h2 : tq ≤ 2) (h3 : 1 ≤ tq) {ts : List Int} {m : Nat} {ov : List Bool} (hl : ov.length = ts.length) (hn : ts.length ≤ 6) {a : List Int} (ha : a ∈ Gn ts.length m) (G L : List (List Int)) (x31 x32 : Int) {rest : List (List Int)} (hr : ∀ b ∈ rest, b ∈ Gn ts.length m ∧ cmpL a b < 0) (h63 : rest.length ≤ 63) : ∀ (d k i : Nat) (acc : List (List (List Int))), i + d = rest.length → 100 ≤ k → acc.length + d ≤ 1000000 →
  spec_toRounds.l2 (k + 1 + d) G acc a L x31 x32 rest (rest.length : Int) (i : Int) ts (m : Int) tq ov t = spec_toRounds.l1 k G (acc ++ (((rest.drop i).filter (cn2 tq ov t a)).map fun b => [a, b])) L x31 (wrap64 (x32 + 1)) ts (m : Int) tq ov t := by
 intro d
 induction d with
 | zero =>
  intro k i acc hi hk _
  rw [show k + 1 + 0 = k + 1 by omega, spec_toRounds.l2.eq_2, if_neg (by omega), List.drop_of_length_le (by omega)]
  simp
 | succ d ih =>
  intro k i acc hi hk hac
  have hlt : i < rest.length := by omega
  have hb := hr (rd_L1 rest (i : Int)) (qj_ hlt)
  have al := qk_ ha
  have bl := qk_ hb.1
  rw [show k + 1 + (d + 1) = (k + 1 + d) + 1 by omega, spec_toRounds.l2.eq_2, if_pos (by omega), if_pos (by omega), if_pos (by omega), r0_ (by omega), Option.bind_some, r0_ (by omega), Option.bind_some, Option.bind_some, can2 h0 h1 h2 h3 hl hn ha hb.1 hb.2 (by omega), Option.bind_some, qa_ hlt (by omega), qe_ rest i hlt []]
  show (if cn2 tq ov t a (rest.getD i []) = true then _ else _) = _
  cases e : cn2 tq ov t a (rest.getD i [])
  ·rw [if_neg (by decide), ih k (i + 1) acc (by omega) hk (by omega), List.filter_cons_of_neg (by rw [e]; decide)]
  ·rw [if_pos rfl, if_pos (by omega), ih k (i + 1) _ (by omega) hk (by rw [length_append, length_singleton]; omega), List.filter_cons_of_pos e]
   simp
   rfl
theorem sv_ {tq t : Int} (h0 : 0 ≤ t) (h1 : t ≤ tq) (h2 : tq ≤ 2) (h3 : 1 ≤ tq) {ts : List Int} {m : Nat} {ov : List Bool} (hl : ov.length = ts.length) (hn : ts.length ≤ 6) {G : List (List Int)} (hG : G = Gn ts.length m) : ∀ (d k i : Nat) (acc : List (List (List Int))), i + d = G.length → 101 + 70 * d ≤ k → acc.length + 100 * d ≤ 100000 →
  spec_toRounds.l1 k G acc G (G.length : Int) (i : Int) ts (m : Int) tq ov t = some (acc ++ ss_ (okG tq ov t) (cn2 tq ov t) (G.drop i)) := by
 have h63 : G.length ≤ 63 := by rw [hG]; exact rV_ m hn
 have hasc : G.Pairwise fun a b => cmpL a b < 0 := by rw [hG]; exact rH_ m hn
 intro d
 induction d with
 | zero =>
  intro k i acc hi hk _
  obtain ⟨k, rfl⟩ : ∃ k', k = k' + 1 := ⟨k - 1, by omega⟩
  rw [spec_toRounds.l1.eq_2, if_neg (by omega), List.drop_of_length_le (by omega)]
  simp [ss_]
 | succ d ih =>
  intro k i acc hi hk hac
  have hlt : i < G.length := by omega
  have ha : rd_L1 G (i : Int) ∈ Gn ts.length m := by rw [← hG]; exact qj_ hlt
  have al := qk_ ha
  have hdl : (G.drop (i + 1)).length = d := by rw [List.length_drop]; omega
  obtain ⟨k, rfl⟩ : ∃ k', k = k' + 1 + d + 1 := ⟨k - 2 - d, by omega⟩
  have hdrop := qe_ G i hlt []
  have hpw : ∀ b ∈ G.drop (i + 1), b ∈ Gn ts.length m ∧ cmpL (rd_L1 G (i : Int)) b < 0 := by
   intro b hb
   refine ⟨by rw [← hG]; exact List.mem_of_mem_drop hb, ?_⟩
   have h4 := hasc.sublist (List.drop_sublist i G)
   rw [hdrop, List.pairwise_cons] at h4
   exact h4.1 b hb
  have hf : ∀ c : List Int → Bool, ((G.drop (i + 1)).filter c).length ≤ d := fun c => by have := List.length_filter_le c (G.drop (i + 1)); omega
  rw [spec_toRounds.l1.eq_2, if_pos (by omega), if_pos (by omega), if_pos (by omega), r0_ (by omega), Option.bind_some, Option.bind_some, can1 h0 h1 h2 h3 hl hn ha (by omega), Option.bind_some, qa_ hlt (by omega), Int.toNat_natCast, if_pos (by omega : acc.length < 5864062014805)]
  simp only [if_pos (by omega : (0 : Int) ≤ ((i + 1 : Nat) : Int)), if_pos (by omega : ((i + 1 : Nat) : Int) ≤ (G.length : Int)), Option.bind_some]
  have key : ∀ acc2 : List (List (List Int)), acc2.length + d ≤ 1000000 → spec_toRounds.l2 (k + 1 + d) G acc2 (rd_L1 G (i : Int)) G (G.length : Int) (i : Int) (G.drop (i + 1)) ((G.drop (i + 1)).length : Int) 0 ts (m : Int) tq ov t = spec_toRounds.l1 k G (acc2 ++ (((G.drop (i + 1)).filter (cn2 tq ov t (rd_L1 G (i : Int)))).map fun b => [rd_L1 G (i : Int), b])) G (G.length : Int) ((i + 1 : Nat) : Int) ts (m : Int) tq ov t := by
   intro acc2 h2c
   have h5 := su_ h0 h1 h2 h3 hl hn ha G G (G.length : Int) (i : Int) hpw (by omega) d k 0 acc2 (by omega) (by omega) h2c
   rw [drop_zero, qa_ hlt (by omega)] at h5
   exact h5
  rw [hdrop]
  unfold ss_
  have hfl := hf (cn2 tq ov t (rd_L1 G (i : Int)))
  show (if okG tq ov t (G.getD i []) = true then _ else _) = _
  cases e : okG tq ov t (G.getD i [])
  ·rw [if_neg (by decide), key acc (by omega), ih k (i + 1) _ (by omega) (by omega) (by rw [length_append, length_map]; omega), if_neg (by decide), append_assoc]
   rfl
  ·rw [if_pos rfl, key _ (by rw [length_append, length_singleton]; omega), ih k (i + 1) _ (by omega) (by omega) (by rw [length_append, length_append, length_map, length_singleton]; omega), if_pos rfl, append_assoc, append_assoc]
   rfl
theorem sq_ (i : Nat) : Rn (i + 1) = Rn i ++ [(i : Int)] := by unfold Rn; rw [List.range_succ, List.map_append]; rfl
theorem sw_ {tq t : Int} (h0 : 0 ≤ t) (h1 : t ≤ tq) (h2 : tq ≤ 2) (h3 : 1 ≤ tq) {ts : List Int} {m : Nat} {ov : List Bool} (hl : ov.length = ts.length) (hn : ts.length ≤ 6) : ∀ (d k i : Nat), i + d = ts.length → 6000 ≤ k →
  spec_toRounds.l0 (k + 1 + d) (Rn i) (ts.length : Int) (i : Int) ts (m : Int) tq ov t = some (roL m tq ov t) := by
 intro d
 induction d with
 | zero =>
  intro k i hi hk
  have h63 := rV_ m hn
  have hRl : (Rn i).length = i := by unfold Rn; rw [length_map, List.length_range]
  have hp := (ro_ (x0 := Rn i) (by omega) m (Rn i).length).2 k 0 [] (by omega) (by omega) (by simp) (by simp)
  rw [drop_zero, if_neg (by simp), nil_append] at hp
  rw [show k + 1 + 0 = k + 1 by omega, spec_toRounds.l0.eq_2, if_neg (by omega), show (0 : Int) = ((0 : Nat) : Int) from rfl, hp, Option.bind_some]
  have hi2 : i = ts.length := by omega
  subst hi2
  show spec_toRounds.l1 k (Gn ts.length m) [] (Gn ts.length m) ((Gn ts.length m).length : Int) ((0 : Nat) : Int) ts (m : Int) tq ov t = _
  rw [sv_ h0 h1 h2 h3 hl hn rfl (Gn ts.length m).length k 0 [] (by omega) (by omega) (by simp; omega), nil_append, drop_zero, rx_]
  unfold roL gpL
  rw [hl]
 | succ d ih =>
  intro k i hi hk
  have hRl : (Rn i).length = i := by unfold Rn; rw [length_map, List.length_range]
  have hlt : i < ts.length := by omega
  rw [show k + 1 + (d + 1) = (k + 1 + d) + 1 by omega, spec_toRounds.l0.eq_2, if_pos (by omega), if_pos (by omega), qa_ hlt (by omega), ← sq_, ih k (i + 1) (by omega) hk]
theorem qT_ {tq t : Int} (h0 : 0 ≤ t) (h1 : t ≤ tq) (h2 : tq ≤ 2) (h3 : 1 ≤ tq) {ts : List Int} (m : Nat) {ov : List Bool} (hl : ov.length = ts.length) (hn : ts.length ≤ 6) {k : Nat} (hk : 7000 ≤ k) : spec_toRounds.f k ts (m : Int) tq ov t = some (roL m tq ov t) := by
 obtain ⟨K, hK⟩ : ∃ K, k = K + 1 + ts.length := ⟨k - 1 - ts.length, by omega⟩
 unfold spec_toRounds.f
 rw [hK]
 exact sw_ h0 h1 h2 h3 hl hn ts.length K 0 (by omega) (by omega)
def stO (ov o : List Bool) (g : List Int) : List Bool := g.foldl (fun o x => o.set x.toNat (!(rdOf false ov x))) o
def afO (ov : List Bool) (r : List (List Int)) : List Bool := r.foldl (stO ov) ov
def afT (ov : List Bool) (t : Int) (r : List (List Int)) : Int := r.foldl (fun t g => if sd ov g = true then t - 1 else t + 1) t
theorem qD_ (ov : List Bool) : ∀ (g : List Int) (o : List Bool), (stO ov o g).length = o.length
 | [], _ => rfl
 | x :: g, o => by
  show (stO ov (o.set x.toNat _) g).length = _
  rw [qD_ ov g, length_set]
theorem qi_ {α : Type} (l : List α) (i : Nat) (h : i < l.length) (z : α) : l.drop i = l.getD i z :: l.drop (i + 1) := qe_ l i h z
theorem sa_ {ov : List Bool} (t t2 : Int) (L : List (List Int)) (len i0 : Int) {g : List Int} (hg : ∀ x ∈ g, 0 ≤ x ∧ x < (ov.length : Int)) (hl : g.length ≤ 100) : ∀ (d K i : Nat) (o : List Bool), i + d = g.length → o.length = ov.length →
  impl_Camp_after.l1 (K + 1 + d) L len i0 g (g.length : Int) (i : Int) ov t o t2 = impl_Camp_after.l0 K L len (wrap64 (i0 + 1)) ov t (stO ov o (g.drop i)) t2 ∧ spec_toAfter.l1 (K + 1 + d) L len i0 g (g.length : Int) (i : Int) ov t o t2 = spec_toAfter.l0 K L len (wrap64 (i0 + 1)) ov t (stO ov o (g.drop i)) t2 := by
 intro d
 induction d with
 | zero =>
  intro K i o hi ho
  rw [show K + 1 + 0 = K + 1 by omega, impl_Camp_after.l1.eq_2, spec_toAfter.l1.eq_2, if_neg (by omega), if_neg (by omega), List.drop_of_length_le (by omega)]
  exact ⟨rfl, rfl⟩
 | succ d ih =>
  intro K i o hi ho
  have hlt : i < g.length := by omega
  have hx : 0 ≤ rd g (i : Int) ∧ rd g (i : Int) < (ov.length : Int) := hg _ (qj_ hlt)
  have h := ih K (i + 1) (o.set (rd g (i : Int)).toNat (!(rdOf false ov (rd g (i : Int))))) (by omega) (by rw [length_set]; exact ho)
  have e : stO ov o (g.drop i) = stO ov (o.set (rd g (i : Int)).toNat (!(rdOf false ov (rd g (i : Int))))) (g.drop (i + 1)) := by
   rw [qi_ g i hlt 0]
   rfl
  rw [show K + 1 + (d + 1) = (K + 1 + d) + 1 by omega, impl_Camp_after.l1.eq_2, spec_toAfter.l1.eq_2, if_pos (by omega), if_pos (by omega), if_pos (by omega), if_pos hx.1, if_pos hx.2, if_pos (by omega), if_pos (by omega), if_pos (by omega), if_pos (by omega), if_pos hx.1, if_pos hx.2, if_pos (by omega), qa_ hlt (by omega), e]
  exact h
def RdN (n : Nat) (r : List (List Int)) : Prop := r.length ≤ 2 ∧ ∀ g ∈ r, 0 < g.length ∧ g.length ≤ 6 ∧ ∀ x ∈ g, 0 ≤ x ∧ x < (n : Int)
theorem s1_ {n : Nat} {g : List Int} (h0 : 0 < g.length) (hg : ∀ x ∈ g, 0 ≤ x ∧ x < (n : Int)) : 0 ≤ rd g 0 ∧ rd g 0 < (n : Int) := hg _ (by
 unfold rd
 rw [getD_eq_getElem?_getD, getElem?_eq_getElem (by omega)]
 exact List.getElem_mem _)
theorem s6_ {ov : List Bool} (t : Int) {L : List (List Int)} (hL : RdN ov.length L) : ∀ (d k i : Nat) (o : List Bool) (t2 : Int), i + d = L.length → 10 * d + 1 ≤ k → o.length = ov.length → -50 + d ≤ t2 → t2 ≤ 50 - d →
  impl_Camp_after.l0 k L (L.length : Int) (i : Int) ov t o t2 = some ((L.drop i).foldl (stO ov) o, (L.drop i).foldl (fun t g => if sd ov g = true then t - 1 else t + 1) t2) ∧ spec_toAfter.l0 k L (L.length : Int) (i : Int) ov t o t2 = some ((L.drop i).foldl (stO ov) o, (L.drop i).foldl (fun t g => if sd ov g = true then t - 1 else t + 1) t2) := by
 intro d
 induction d with
 | zero =>
  intro k i o t2 hi hk ho _ _
  obtain ⟨k, rfl⟩ : ∃ k', k = k' + 1 := ⟨k - 1, by omega⟩
  rw [impl_Camp_after.l0.eq_2, spec_toAfter.l0.eq_2, if_neg (by omega), if_neg (by omega), List.drop_of_length_le (by omega)]
  exact ⟨rfl, rfl⟩
 | succ d ih =>
  intro k i o t2 hi hk ho hlo hhi
  have hlt : i < L.length := by omega
  have hL2 := hL.1
  obtain ⟨g0, g6, hg⟩ := hL.2 (rd_L1 L (i : Int)) (qj_ hlt)
  have hr := s1_ g0 hg
  obtain ⟨K, hK⟩ : ∃ K, k = K + 1 + (rd_L1 L (i : Int)).length + 1 + 1 := ⟨k - 3 - (rd_L1 L (i : Int)).length, by omega⟩
  have hlen := qD_ ov (rd_L1 L (i : Int)) o
  have hD : L.drop i = rd_L1 L (i : Int) :: L.drop (i + 1) := qi_ L i hlt []
  rw [hD, List.foldl_cons, List.foldl_cons]
  constructor
  ·obtain ⟨t3, ht3⟩ : ∃ t3, t3 = if sd ov (rd_L1 L (i : Int)) = true then t2 - 1 else t2 + 1 := ⟨_, rfl⟩
   have hb : ∃ q, impl_bit.f (rdOf false ov (rd (rd_L1 L (i : Int)) 0)) = some q ∧ wrap64 (t2 + wrap64 (1 - wrap64 (2 * q))) = t3 := by
    unfold impl_bit.f
    rw [ht3]
    show ∃ q, (if sd ov (rd_L1 L (i : Int)) = true then some 1 else some 0) = some q ∧ _
    cases sd ov (rd_L1 L (i : Int))
    ·exact ⟨0, rfl, by rw [if_neg (by decide), qb_ (n := 2 * 0) (by omega) (by omega), qb_ (n := 1 - 2 * 0) (by omega) (by omega), qb_ (by omega) (by omega)]; omega⟩
    ·exact ⟨1, rfl, by rw [if_pos rfl, qb_ (n := 2 * 1) (by omega) (by omega), qb_ (n := 1 - 2 * 1) (by omega) (by omega), qb_ (by omega) (by omega)]; omega⟩
   obtain ⟨q, hq, hw⟩ := hb
   have ht : -50 + (d : Int) ≤ t3 ∧ t3 ≤ 50 - (d : Int) := by rw [ht3]; split <;> omega
   rw [hK, impl_Camp_after.l0.eq_2, if_pos (by omega), if_pos (by omega), if_pos (by omega), if_pos (by omega), if_pos hr.1, if_pos hr.2, hq, Option.bind_some, hw,
    show K + 1 + (rd_L1 L (i : Int)).length + 1 = (K + 1) + 1 + (rd_L1 L (i : Int)).length by omega]
   have h1 := (sa_ t t3 L (L.length : Int) (i : Int) hg (by omega) (rd_L1 L (i : Int)).length (K + 1) 0 o (by omega) ho).1
   rw [qa_ hlt (by omega), drop_zero] at h1
   rw [show (0 : Int) = ((0 : Nat) : Int) from rfl, h1, (ih (K + 1) (i + 1) _ t3 (by omega) (by omega) (by rw [hlen]; exact ho) ht.1 ht.2).1, ht3]
  ·obtain ⟨t3, ht3⟩ : ∃ t3, t3 = if sd ov (rd_L1 L (i : Int)) = true then t2 - 1 else t2 + 1 := ⟨_, rfl⟩
   have ht : -50 + (d : Int) ≤ t3 ∧ t3 ≤ 50 - (d : Int) := by rw [ht3]; split <;> omega
   have hj : (if rdOf false ov (rd (rd_L1 L (i : Int)) 0) = true then spec_toAfter.j1 (K + 1 + (rd_L1 L (i : Int)).length + 1) (rd_L1 L (i : Int)) L (L.length : Int) (i : Int) ov t o (wrap64 (t2 - 1)) else spec_toAfter.j1 (K + 1 + (rd_L1 L (i : Int)).length + 1) (rd_L1 L (i : Int)) L (L.length : Int) (i : Int) ov t o (wrap64 (t2 + 1))) = spec_toAfter.j1 (K + 1 + (rd_L1 L (i : Int)).length + 1) (rd_L1 L (i : Int)) L (L.length : Int) (i : Int) ov t o t3 := by
    show (if sd ov (rd_L1 L (i : Int)) = true then _ else _) = _
    rw [ht3]
    cases sd ov (rd_L1 L (i : Int))
    ·rw [if_neg (by decide), if_neg (by decide), qb_ (by omega) (by omega)]
    ·rw [if_pos rfl, if_pos rfl, qb_ (by omega) (by omega)]
   rw [hK, spec_toAfter.l0.eq_2, if_pos (by omega), if_pos (by omega), if_pos (by omega), if_pos (by omega), if_pos hr.1, if_pos hr.2, hj, spec_toAfter.j1.eq_2]
   have h1 := (sa_ t t3 L (L.length : Int) (i : Int) hg (by omega) (rd_L1 L (i : Int)).length K 0 o (by omega) ho).2
   rw [qa_ hlt (by omega), drop_zero] at h1
   rw [show (0 : Int) = ((0 : Nat) : Int) from rfl, h1, (ih K (i + 1) _ t3 (by omega) (by omega) (by rw [hlen]; exact ho) ht.1 ht.2).2, ht3]
theorem rl_ {ov : List Bool} (hn : ov.length ≤ 6) {t : Int} (h0 : 0 ≤ t) (h1 : t ≤ 2) {r : List (List Int)} (hr : RdN ov.length r) {k : Nat} (hk : 30 ≤ k) : impl_Camp_after.f k ov t r = some (afO ov r, afT ov t r) ∧ spec_toAfter.f k ov t r = some (afO ov r, afT ov t r) := by
 have h2 := hr.1
 have h := s6_ t hr r.length k 0 ov t (by omega) (by omega) rfl (by omega) (by omega)
 rw [drop_zero] at h
 constructor
 ·unfold impl_Camp_after.f slices_Clone_bool_bool.f
  rw [if_pos (by omega), Option.bind_some]
  exact h.1
 ·unfold spec_toAfter.f
  rw [Option.bind_some, if_pos (by simp only [length_nil]; omega), nil_append]
  exact h.2
/-! Times. -/
def tmG (ts : List Int) (g : List Int) (a : Int) : Int := g.foldl (fun m x => mx m (rd ts x)) a
def tmR (ts : List Int) (r : List (List Int)) : Int := r.foldl (fun m g => mx m (tmG ts g 0)) 0
theorem sh_ (a b : Int) : spec_l1Most.f a b = some (mx a b) := by
 unfold spec_l1Most.f mx
 by_cases c : a > b
 ·rw [if_pos c, if_neg (by omega)]
 ·rw [if_neg c]
  split
  ·rfl
  ·exact congrArg some (by omega)
theorem sc_ {ts g : List Int} (hg : ∀ x ∈ g, 0 ≤ x ∧ x < (ts.length : Int)) (hl : g.length ≤ 100) : ∀ (d k i : Nat) (a : Int), i + d = g.length → d < k → impl_slowest.l0 k ts a g (g.length : Int) (i : Int) = some (tmG ts (g.drop i) a) := by
 intro d
 induction d with
 | zero =>
  intro k i a hi hk
  obtain ⟨k, rfl⟩ := qg_ hk
  simp only [impl_slowest.l0]
  rw [if_neg (by omega), List.drop_of_length_le (by omega)]
  rfl
 | succ d ih =>
  intro k i a hi hk
  obtain ⟨k, rfl⟩ := qg_ hk
  have hlt : i < g.length := by omega
  have hx : 0 ≤ rd g (i : Int) ∧ rd g (i : Int) < (ts.length : Int) := hg _ (qj_ hlt)
  simp only [impl_slowest.l0]
  rw [if_pos (by omega), if_pos (by omega), if_pos (by omega), if_pos hx.1, if_pos hx.2, qa_ hlt (by omega), ih k (i + 1) _ (by omega) (by omega), qi_ g i hlt 0]
  rfl
theorem sz_ {ts : List Int} (se tq : Int) {L : List (List Int)} (hL : RdN ts.length L) : ∀ (d k i : Nat) (a : Int), i + d = L.length → d + 10 ≤ k → impl_Night_roundTime.l0 k a L (L.length : Int) (i : Int) ts se tq = some ((L.drop i).foldl (fun m g => mx m (tmG ts g 0)) a) := by
 intro d
 induction d with
 | zero =>
  intro k i a hi hk
  obtain ⟨k, rfl⟩ : ∃ k', k = k' + 1 := ⟨k - 1, by omega⟩
  simp only [impl_Night_roundTime.l0]
  rw [if_neg (by omega), List.drop_of_length_le (by omega)]
  rfl
 | succ d ih =>
  intro k i a hi hk
  obtain ⟨k, rfl⟩ : ∃ k', k = k' + 1 := ⟨k - 1, by omega⟩
  have hlt : i < L.length := by omega
  have hL2 := hL.1
  obtain ⟨g0, g6, hg⟩ := hL.2 (rd_L1 L (i : Int)) (qj_ hlt)
  simp only [impl_Night_roundTime.l0]
  rw [if_pos (by omega), if_pos (by omega), if_pos (by omega)]
  unfold impl_slowest.f
  rw [show (0 : Int) = ((0 : Nat) : Int) from rfl, sc_ hg (by omega) _ k 0 _ (Nat.zero_add _) (by omega), Option.bind_some, qa_ hlt (by omega), ih k (i + 1) _ (by omega) (by omega), qi_ L i hlt [], drop_zero]
  rfl
theorem qJ_ {ts : List Int} (se tq : Int) {r : List (List Int)} (hr : RdN ts.length r) {k : Nat} (hk : 20 ≤ k) : impl_Night_roundTime.f k ts se tq r = some (tmR ts r) := by
 have := hr.1
 unfold impl_Night_roundTime.f
 rw [show (0 : Int) = ((0 : Nat) : Int) from rfl, sz_ se tq hr r.length k 0 _ (by omega) (by omega), drop_zero]
 rfl
theorem sA_ {ts : List Int} (se tq : Int) (L : List (List Int)) (len i0 : Int) {g : List Int} (hg : ∀ x ∈ g, 0 ≤ x ∧ x < (ts.length : Int)) (hl : g.length ≤ 100) : ∀ (d K i : Nat) (a : Int), i + d = g.length → spec_toTime.l1 (K + 1 + d) a L len i0 g (g.length : Int) (i : Int) ts se tq = spec_toTime.l0 K (tmG ts (g.drop i) a) L len (wrap64 (i0 + 1)) ts se tq := by
 intro d
 induction d with
 | zero =>
  intro K i a hi
  rw [show K + 1 + 0 = K + 1 by omega, spec_toTime.l1.eq_2, if_neg (by omega), List.drop_of_length_le (by omega)]
  rfl
 | succ d ih =>
  intro K i a hi
  have hlt : i < g.length := by omega
  have hx : 0 ≤ rd g (i : Int) ∧ rd g (i : Int) < (ts.length : Int) := hg _ (qj_ hlt)
  rw [show K + 1 + (d + 1) = (K + 1 + d) + 1 by omega, spec_toTime.l1.eq_2, if_pos (by omega), if_pos (by omega), if_pos (by omega), if_pos hx.1, if_pos hx.2, sh_, Option.bind_some, qa_ hlt (by omega), ih K (i + 1) _ (by omega), qi_ g i hlt 0]
  rfl
theorem sB_ {ts : List Int} (se tq : Int) {L : List (List Int)} (hL : RdN ts.length L) : ∀ (d k i : Nat) (a : Int), i + d = L.length → 10 * d + 1 ≤ k → spec_toTime.l0 k a L (L.length : Int) (i : Int) ts se tq = some ((L.drop i).foldl (fun m g => tmG ts g m) a) := by
 intro d
 induction d with
 | zero =>
  intro k i a hi hk
  obtain ⟨k, rfl⟩ : ∃ k', k = k' + 1 := ⟨k - 1, by omega⟩
  rw [spec_toTime.l0.eq_2, if_neg (by omega), List.drop_of_length_le (by omega)]
  rfl
 | succ d ih =>
  intro k i a hi hk
  have hlt : i < L.length := by omega
  have hL2 := hL.1
  obtain ⟨g0, g6, hg⟩ := hL.2 (rd_L1 L (i : Int)) (qj_ hlt)
  obtain ⟨K, hK⟩ : ∃ K, k = K + 1 + (rd_L1 L (i : Int)).length + 1 := ⟨k - 2 - (rd_L1 L (i : Int)).length, by omega⟩
  have h1 := sA_ se tq L (L.length : Int) (i : Int) hg (by omega) (rd_L1 L (i : Int)).length K 0 a (by omega)
  rw [qa_ hlt (by omega), drop_zero] at h1
  rw [hK, spec_toTime.l0.eq_2, if_pos (by omega), if_pos (by omega), if_pos (by omega), show (0 : Int) = ((0 : Nat) : Int) from rfl, h1, ih K (i + 1) _ (by omega) (by omega), qi_ L i hlt []]
  rfl
theorem qW_ (a b : Int) : a ≤ mx a b ∧ b ≤ mx a b ∧ (mx a b = a ∨ mx a b = b) := by
 unfold mx
 split <;> omega
theorem rW_ {ts : List Int} (hts : ∀ x : Int, 0 ≤ rd ts x) : ∀ (g : List Int) (a b : Int), tmG ts g (mx a b) = mx a (tmG ts g b)
 | [], _, _ => rfl
 | x :: g, a, b => by
  show tmG ts g (mx (mx a b) (rd ts x)) = mx a (tmG ts g (mx b (rd ts x)))
  rw [show mx (mx a b) (rd ts x) = mx a (mx b (rd ts x)) by
   have h1 := qW_ a b
   have h2 := qW_ (mx a b) (rd ts x)
   have h3 := qW_ b (rd ts x)
   have h4 := qW_ a (mx b (rd ts x))
   omega]
  exact rW_ hts g a _
theorem rr_ {ts : List Int} (hts : ∀ x ∈ ts, 1 ≤ x ∧ x ≤ 1000) (se tq : Int) {r : List (List Int)} (hr : RdN ts.length r) {k : Nat} (hk : 30 ≤ k) : spec_toTime.f k ts se tq r = some (tmR ts r) := by
 have h2 := hr.1
 have hrd : ∀ x : Int, 0 ≤ rd ts x := by
  intro x
  unfold rd
  by_cases c : x.toNat < ts.length
  ·rw [getD_eq_getElem?_getD, getElem?_eq_getElem c]
   have := (hts _ (List.getElem_mem c)).1
   show (0 : Int) ≤ ts[x.toNat]
   omega
  ·rw [getD_eq_getElem?_getD, List.getElem?_eq_none (by omega)]
   exact Int.le_refl _
 have hf : ∀ (L : List (List Int)) (a : Int), 0 ≤ a → L.foldl (fun m g => tmG ts g m) a = L.foldl (fun m g => mx m (tmG ts g 0)) a := by
  intro L
  induction L with
  | nil => intro a _; rfl
  | cons g L ih =>
   intro a ha
   rw [List.foldl_cons, List.foldl_cons]
   have e : tmG ts g a = mx a (tmG ts g 0) := by
    have h3 : mx a 0 = a := by unfold mx; rw [if_neg (by omega)]
    have := rW_ hrd g a 0
    rwa [h3] at this
   rw [e]
   exact ih _ (by have := qW_ a (tmG ts g 0); omega)
 unfold spec_toTime.f
 rw [show (0 : Int) = ((0 : Nat) : Int) from rfl, sB_ se tq hr r.length k 0 _ (by omega) (by omega), drop_zero]
 exact congrArg some (hf r 0 (Int.le_refl _))
theorem rX_ {ts : List Int} (hts : ∀ x ∈ ts, 1 ≤ x ∧ x ≤ 1000) : ∀ (g : List Int) (a : Int), (∀ x ∈ g, 0 ≤ x ∧ x < (ts.length : Int)) → a ≤ 1000 → a ≤ tmG ts g a ∧ tmG ts g a ≤ 1000 ∧ (0 < g.length → 1 ≤ tmG ts g a)
 | [], a, _, h => ⟨Int.le_refl _, h, fun q => absurd q (by simp)⟩
 | x :: g, a, hg, h => by
  have hx := hg x (by simp)
  have hv : 1 ≤ rd ts x ∧ rd ts x ≤ 1000 := by
   unfold rd
   rw [getD_eq_getElem?_getD, getElem?_eq_getElem (by omega)]
   exact hts _ (List.getElem_mem _)
  have h1 := qW_ a (rd ts x)
  obtain ⟨i1, i2, -⟩ := rX_ hts g (mx a (rd ts x)) (fun y hy => hg y (by simp [hy])) (by omega)
  show a ≤ tmG ts g (mx a (rd ts x)) ∧ tmG ts g (mx a (rd ts x)) ≤ 1000 ∧ _
  refine ⟨by omega, i2, fun _ => ?_⟩
  show 1 ≤ tmG ts g (mx a (rd ts x))
  omega
theorem sx_ {ts : List Int} (hts : ∀ x ∈ ts, 1 ≤ x ∧ x ≤ 1000) {r : List (List Int)} (hr : RdN ts.length r) (h0 : 0 < r.length) : 1 ≤ tmR ts r ∧ tmR ts r ≤ 1000 := by
 have key : ∀ (L : List (List Int)) (a : Int), (∀ g ∈ L, 0 < g.length ∧ ∀ x ∈ g, 0 ≤ x ∧ x < (ts.length : Int)) → 0 ≤ a → a ≤ 1000 → a ≤ L.foldl (fun m g => mx m (tmG ts g 0)) a ∧ L.foldl (fun m g => mx m (tmG ts g 0)) a ≤ 1000 ∧ (0 < L.length → 1 ≤ L.foldl (fun m g => mx m (tmG ts g 0)) a) := by
  intro L
  induction L with
  | nil => intro a _ _ h; exact ⟨Int.le_refl _, h, fun q => absurd q (by simp)⟩
  | cons g L ih =>
   intro a hL h1 h2
   obtain ⟨g0, gi⟩ := hL g (by simp)
   obtain ⟨b1, b2, b3⟩ := rX_ hts g 0 gi (by omega)
   have b4 := b3 g0
   have h3 := qW_ a (tmG ts g 0)
   obtain ⟨i1, i2, -⟩ := ih (mx a (tmG ts g 0)) (fun y hy => hL y (by simp [hy])) (by omega) (by omega)
   rw [List.foldl_cons]
   exact ⟨by omega, i2, fun _ => by omega⟩
 obtain ⟨-, h1, h2⟩ := key r 0 (fun g hg => ⟨(hr.2 g hg).1, (hr.2 g hg).2.2⟩) (Int.le_refl _) (by omega)
 exact ⟨h2 h0, h1⟩
def st_ : Nat → List (List Bool)
 | 0 => [[]]
 | n + 1 => (st_ n).flatMap fun l => [true :: l, false :: l]
theorem qw_ : ∀ o : List Bool, o ∈ st_ o.length
 | [] => by simp [st_]
 | b :: o => by
  simp only [length_cons, st_, List.mem_flatMap]
  exact ⟨o, qw_ o, by cases b <;> simp⟩
def NN (n : Nat) (tq : Int) : Nat := (tq + 1).toNat * 2 ^ n
def rS_ (n : Nat) (q : Nat) : Bool := ((st_ n).all fun o => (List.range (q + 1)).all fun (t : Nat) =>
  (match impl_Camp_code.f 20 o (t : Int) with
   | some c => decide (0 ≤ c) && (decide (c < (NN n (q : Int) : Int)) && (impl_Night_camp.f 20 (Rn n) 0 (q : Int) c == some (o, (t : Int))))
   | none => false) &&
  (match spec_toCode.f 20 [] 0 (q : Int) o (t : Int) with
   | some c => decide (0 ≤ c) && (decide (c < (NN n (q : Int) : Int)) && (spec_toCampOf.l0 20 c (n : Int) 0 [] 0 (q : Int) [] (Int.tmod c (wrap64 ((q : Int) + 1))) == some (o, (t : Int))))
   | none => false)) &&
 (((List.range (NN n (q : Int))).all fun (c : Nat) =>
  (match impl_Night_camp.f 20 (Rn n) 0 (q : Int) (c : Int) with
   | some s => decide (s.1.length = n) && (decide (0 ≤ s.2) && (decide (s.2 ≤ (q : Int)) && (impl_Camp_code.f 20 s.1 s.2 == some (c : Int))))
   | none => false) &&
  (match spec_toCampOf.l0 20 (c : Int) (n : Int) 0 [] 0 (q : Int) [] (Int.tmod (c : Int) (wrap64 ((q : Int) + 1))) with
   | some s => decide (s.1.length = n) && (decide (0 ≤ s.2) && (decide (s.2 ≤ (q : Int)) && (spec_toCode.f 20 [] 0 (q : Int) s.1 s.2 == some (c : Int))))
   | none => false)) &&
 ((List.range (q + 1)).all (fun (t : Nat) => impl_Camp_code.f 20 (List.replicate n true) (t : Int) == some (ngEnd n t)) &&
 (decide (ngN (q : Int) n = (NN n (q : Int) : Int)) && (decide (shl .i64 (wrap64 ((q : Int) + 1)) (n : Int) = (NN n (q : Int) : Int)) &&
 ((st_ n).all (fun o => spec_toOver.f 20 o 0 == some (o.all fun b => b)) && (impl_Camp_code.f 20 (List.replicate n false) 0 == some 0 && spec_toCode.f 20 [] 0 (q : Int) (List.replicate n false) 0 == some 0))))))
set_option maxRecDepth 100000 in
theorem rR_ : ((List.range 7).all fun n => rS_ n 1 && rS_ n 2) = true := by decide +kernel
theorem qB_ {n : Nat} {tq : Int} (hn : n ≤ 6) (h1 : 1 ≤ tq) (h2 : tq ≤ 2) : ∃ q : Nat, tq = (q : Int) ∧ rS_ n q = true := by
 have h := all_eq_true.1 rR_ n (mem_range.2 (by omega))
 rw [Bool.and_eq_true] at h
 by_cases c : tq = 1
 ·exact ⟨1, c, h.1⟩
 ·exact ⟨2, by omega, h.2⟩
theorem qx_ : ∀ (k : Nat) (x : Int) (L : List Bool) (len i : Int) (ts : List Int) (se tq : Int), spec_toCode.l0 k x L len i ts se tq = spec_toCode.l0 k x L len i [] 0 tq
 | 0, _, _, _, _, _, _, _ => rfl
 | k + 1, x, L, len, i, ts, se, tq => by
  rw [spec_toCode.l0.eq_2, spec_toCode.l0.eq_2, qx_ k _ _ _ _ ts se tq, qx_ k _ _ _ _ ts se tq]
theorem qy_ : ∀ (k : Nat) (x n i : Int) (ts : List Int) (se tq : Int) (o : List Bool) (t : Int), spec_toCampOf.l0 k x n i ts se tq o t = spec_toCampOf.l0 k x n i [] 0 tq o t
 | 0, _, _, _, _, _, _, _, _ => rfl
 | k + 1, x, n, i, ts, se, tq, o, t => by
  rw [spec_toCampOf.l0.eq_2, spec_toCampOf.l0.eq_2, qy_ k _ _ _ ts se tq]
def Cp (n : Nat) (tq : Int) (s : List Bool × Int) : Prop := s.1.length = n ∧ 0 ≤ s.2 ∧ s.2 ≤ tq
def cdI (s : List Bool × Int) : Nat := ((impl_Camp_code.f 20 s.1 s.2).getD 0).toNat
def cdS (tq : Int) (s : List Bool × Int) : Nat := ((spec_toCode.f 20 [] 0 tq s.1 s.2).getD 0).toNat
def cpI (n : Nat) (tq : Int) (c : Nat) : List Bool × Int := (impl_Night_camp.f 20 (Rn n) 0 tq (c : Int)).getD ([], 0)
def cpS (n : Nat) (tq : Int) (c : Nat) : List Bool × Int := (spec_toCampOf.l0 20 (c : Int) (n : Int) 0 [] 0 tq [] (Int.tmod (c : Int) (wrap64 (tq + 1)))).getD ([], 0)
theorem qr_ {n : Nat} {tq : Int} (hn : n ≤ 6) (h1 : 1 ≤ tq) (h2 : tq ≤ 2) {s : List Bool × Int} (hs : Cp n tq s) {k : Nat} (hk : 20 ≤ k) : impl_Camp_code.f k s.1 s.2 = some (cdI s : Int) ∧ cdI s < NN n tq ∧ cpI n tq (cdI s) = s := by
 obtain ⟨q, rfl, hc⟩ := qB_ hn h1 h2
 unfold rS_ at hc
 rw [Bool.and_eq_true] at hc
 obtain ⟨e1, e2, e3⟩ := hs
 have h := all_eq_true.1 (all_eq_true.1 hc.1 s.1 (by rw [← e1]; exact qw_ _)) s.2.toNat (mem_range.2 (by omega))
 rw [Bool.and_eq_true, Int.toNat_of_nonneg e2] at h
 have h := h.1
 cases hq : impl_Camp_code.f 20 s.1 s.2 with
 | none => rw [hq] at h; cases h
 | some c =>
  rw [hq] at h
  simp only [Bool.and_eq_true, decide_eq_true_eq, beq_iff_eq] at h
  obtain ⟨a, b, d⟩ := h
  have e : cdI s = c.toNat := by unfold cdI; rw [hq]; rfl
  rw [e]
  refine ⟨by rw [Int.toNat_of_nonneg a]; exact qf_ (impl_Camp_code.mono _ _) hk hq, by omega, ?_⟩
  unfold cpI
  rw [Int.toNat_of_nonneg a, d]
  rfl
theorem qc_ {n : Nat} {tq : Int} (hn : n ≤ 6) (h1 : 1 ≤ tq) (h2 : tq ≤ 2) {s : List Bool × Int} (hs : Cp n tq s) (ts : List Int) (se : Int) {k : Nat} (hk : 20 ≤ k) : spec_toCode.f k ts se tq s.1 s.2 = some (cdS tq s : Int) ∧ cdS tq s < NN n tq ∧ cpS n tq (cdS tq s) = s := by
 obtain ⟨q, rfl, hc⟩ := qB_ hn h1 h2
 unfold rS_ at hc
 rw [Bool.and_eq_true] at hc
 obtain ⟨e1, e2, e3⟩ := hs
 have h := all_eq_true.1 (all_eq_true.1 hc.1 s.1 (by rw [← e1]; exact qw_ _)) s.2.toNat (mem_range.2 (by omega))
 rw [Bool.and_eq_true, Int.toNat_of_nonneg e2] at h
 have h := h.2
 cases hq : spec_toCode.f 20 [] 0 (q : Int) s.1 s.2 with
 | none => rw [hq] at h; cases h
 | some c =>
  rw [hq] at h
  simp only [Bool.and_eq_true, decide_eq_true_eq, beq_iff_eq] at h
  obtain ⟨a, b, d⟩ := h
  have e : cdS (q : Int) s = c.toNat := by unfold cdS; rw [hq]; rfl
  rw [e]
  refine ⟨?_, by omega, ?_⟩
  ·rw [Int.toNat_of_nonneg a]
   unfold spec_toCode.f at hq ⊢
   rw [qx_]
   exact qf_ (f := fun k => spec_toCode.l0 k s.2 s.1 (s.1.length : Int) 0 [] 0 (q : Int)) (fun k => by have := spec_toCode.mono [] 0 (q : Int) s.1 s.2 k; exact this) hk hq
  ·unfold cpS
   rw [Int.toNat_of_nonneg a, d]
   rfl
theorem rD_ {n : Nat} {tq : Int} (hn : n ≤ 6) (h1 : 1 ≤ tq) (h2 : tq ≤ 2) {c : Nat} (hc0 : c < NN n tq) {ts : List Int} (hl : ts.length = n) (se : Int) {k : Nat} (hk : 20 ≤ k) : impl_Night_camp.f k ts se tq (c : Int) = some (cpI n tq c) ∧ Cp n tq (cpI n tq c) ∧ cdI (cpI n tq c) = c := by
 obtain ⟨q, rfl, hc⟩ := qB_ hn h1 h2
 unfold rS_ at hc
 rw [Bool.and_eq_true, Bool.and_eq_true] at hc
 have h := all_eq_true.1 hc.2.1 c (mem_range.2 hc0)
 rw [Bool.and_eq_true] at h
 have h := h.1
 cases hq : impl_Night_camp.f 20 (Rn n) 0 (q : Int) (c : Int) with
 | none => rw [hq] at h; cases h
 | some s =>
  rw [hq] at h
  simp only [Bool.and_eq_true, decide_eq_true_eq, beq_iff_eq] at h
  obtain ⟨a, b, d, e⟩ := h
  have es : cpI n (q : Int) c = s := by unfold cpI; rw [hq]; rfl
  rw [es]
  refine ⟨?_, ⟨a, b, d⟩, ?_⟩
  ·have hm := qf_ (impl_Night_camp.mono _ _ _ _) hk hq
   unfold impl_Night_camp.f at hm ⊢
   rw [show (Rn n).length = ts.length by rw [hl]; unfold Rn; rw [length_map, List.length_range]] at hm
   exact hm
  ·unfold cdI
   rw [e]
   exact Int.toNat_natCast c
theorem rj_ {n : Nat} {tq : Int} (hn : n ≤ 6) (h1 : 1 ≤ tq) (h2 : tq ≤ 2) {c : Nat} (hc0 : c < NN n tq) {ts : List Int} (hl : ts.length = n) (se : Int) {k : Nat} (hk : 20 ≤ k) : spec_toCampOf.f k ts se tq (c : Int) = some (cpS n tq c) ∧ Cp n tq (cpS n tq c) ∧ cdS tq (cpS n tq c) = c := by
 obtain ⟨q, rfl, hc⟩ := qB_ hn h1 h2
 unfold rS_ at hc
 rw [Bool.and_eq_true, Bool.and_eq_true] at hc
 have h := all_eq_true.1 hc.2.1 c (mem_range.2 hc0)
 rw [Bool.and_eq_true] at h
 have h := h.2
 cases hq : spec_toCampOf.l0 20 (c : Int) (n : Int) 0 [] 0 (q : Int) [] (Int.tmod (c : Int) (wrap64 ((q : Int) + 1))) with
 | none => rw [hq] at h; cases h
 | some s =>
  rw [hq] at h
  simp only [Bool.and_eq_true, decide_eq_true_eq, beq_iff_eq] at h
  obtain ⟨a, b, d, e⟩ := h
  have es : cpS n (q : Int) c = s := by unfold cpS; rw [hq]; rfl
  rw [es]
  refine ⟨?_, ⟨a, b, d⟩, ?_⟩
  ·unfold spec_toCampOf.f
   rw [if_neg (by rw [qb_ (by omega) (by omega)]; omega), qy_, hl]
   exact qf_ (f := fun k => spec_toCampOf.l0 k (c : Int) (n : Int) 0 [] 0 (q : Int) [] (Int.tmod (c : Int) (wrap64 ((q : Int) + 1)))) (fun k => spec_toCampOf.mono_l k _ _ _ _ _ _ _ _) hk hq
  ·unfold cdS
   rw [e]
   exact Int.toNat_natCast c
theorem q1_ {n : Nat} {tq : Int} (hn : n ≤ 6) (h1 : 1 ≤ tq) (h2 : tq ≤ 2) : (∀ t : Nat, (t : Int) ≤ tq → ngEnd n t = (cdI (List.replicate n true, (t : Int)) : Int)) ∧ ngN tq n = (NN n tq : Int) ∧ shl .i64 (wrap64 (tq + 1)) (n : Int) = (NN n tq : Int) ∧ cdI (List.replicate n false, 0) = 0 ∧ cdS tq (List.replicate n false, 0) = 0 := by
 have hcd := fun t : Nat => fun ht : (t : Int) ≤ tq => (qr_ hn h1 h2 (s := (List.replicate n true, (t : Int))) ⟨by simp, by simp, ht⟩ (Nat.le_refl 20)).1
 obtain ⟨q, rfl, hc⟩ := qB_ hn h1 h2
 unfold rS_ at hc
 simp only [Bool.and_eq_true, decide_eq_true_eq, beq_iff_eq] at hc
 obtain ⟨-, -, c1, c2, c3, -, c4, c5⟩ := hc
 refine ⟨fun t ht => ?_, c2, c3, ?_, ?_⟩
 ·have h := beq_iff_eq.1 (all_eq_true.1 c1 t (mem_range.2 (by omega)))
  have h5 := hcd t ht
  simp only at h5
  rw [h] at h5
  exact Option.some.inj h5
 ·unfold cdI; rw [c4]; rfl
 ·unfold cdS; rw [c5]; rfl
theorem rs_ {n : Nat} (hn : n ≤ 6) {o : List Bool} (ho : o.length = n) (t : Int) {k : Nat} (hk : 20 ≤ k) : spec_toOver.f k o t = some (o.all fun b => b) := by
 obtain ⟨q, -, hc⟩ := qB_ (tq := 1) hn (by omega) (by omega)
 unfold rS_ at hc
 simp only [Bool.and_eq_true, decide_eq_true_eq, beq_iff_eq] at hc
 obtain ⟨-, -, -, -, -, c6, -⟩ := hc
 have h := beq_iff_eq.1 (all_eq_true.1 c6 o (by rw [← ho]; exact qw_ o))
 exact qf_ (spec_toOver.mono _ _) hk h
theorem rv_ (ov : List Bool) : ∀ (g : List Int) (o : List Bool), (∀ x ∈ g, 0 ≤ x ∧ x < (o.length : Int)) → ∀ i : Nat, i < o.length → (stO ov o g).getD i false = if (i : Int) ∈ g then !(ov.getD i false) else o.getD i false
 | [], o, _, i, _ => by simp [stO]
 | x :: g, o, h, i, hi => by
  have hx := h x (by simp)
  show (stO ov (o.set x.toNat (!(rdOf false ov x))) g).getD i false = _
  rw [rv_ ov g _ (fun y hy => by rw [length_set]; exact h y (by simp [hy])) i (by rw [length_set]; exact hi)]
  have hs : (o.set x.toNat (!(rdOf false ov x))).getD i false = if (i : Int) = x then !(ov.getD i false) else o.getD i false := by
   rw [getD_eq_getElem?_getD, getD_eq_getElem?_getD (l := o), getElem?_set]
   by_cases e : x.toNat = i
   ·rw [if_pos e, if_pos (by omega), if_pos (by omega)]
    unfold rdOf
    rw [e]
    rfl
   ·rw [if_neg e, if_neg (by omega)]
  rw [hs]
  by_cases e : (i : Int) ∈ g
  ·rw [if_pos e, if_pos (List.mem_cons_of_mem _ e)]
  ·rw [if_neg e]
   by_cases q : (i : Int) = x
   ·rw [if_pos q, if_pos (by rw [q]; exact List.mem_cons_self)]
   ·rw [if_neg q, if_neg (by simp [q, e])]
theorem q2_ (ov : List Bool) (r : List (List Int)) : (afO ov r).length = ov.length := by
 have key : ∀ (L : List (List Int)) (o : List Bool), (L.foldl (stO ov) o).length = o.length := by
  intro L
  induction L with
  | nil => intro o; rfl
  | cons g L ih => intro o; rw [List.foldl_cons, ih, qD_]
 exact key r ov
theorem rb_ {ov : List Bool} {r : List (List Int)} (hr : ∀ g ∈ r, ∀ x ∈ g, 0 ≤ x ∧ x < (ov.length : Int)) {i : Nat} (hi : i < ov.length) : (afO ov r).getD i false = if ∃ g ∈ r, (i : Int) ∈ g then !(ov.getD i false) else ov.getD i false := by
 have key : ∀ (L : List (List Int)) (o : List Bool), o.length = ov.length → (∀ g ∈ L, ∀ x ∈ g, 0 ≤ x ∧ x < (ov.length : Int)) → (L.foldl (stO ov) o).getD i false = if ∃ g ∈ L, (i : Int) ∈ g then !(ov.getD i false) else o.getD i false := by
  intro L
  induction L with
  | nil => intro o _ _; simp
  | cons g L ih =>
   intro o ho hL
   rw [List.foldl_cons, ih _ (by rw [qD_]; exact ho) (fun x hx => hL x (by simp [hx])), rv_ ov g o (by rw [ho]; exact hL g (by simp)) i (by omega)]
   by_cases c : ∃ g ∈ L, (i : Int) ∈ g
   ·obtain ⟨q, q1, q2⟩ := c
    rw [if_pos ⟨q, q1, q2⟩, if_pos ⟨q, by simp [q1], q2⟩]
   ·rw [if_neg c]
    by_cases c2 : (i : Int) ∈ g
    ·rw [if_pos c2, if_pos ⟨g, by simp, c2⟩]
    ·rw [if_neg c2, if_neg]
     rintro ⟨q, q1, q2⟩
     rcases mem_cons.1 q1 with e | e
     ·rw [e] at q2; exact c2 q2
     ·exact c ⟨q, e, q2⟩
 exact key r ov rfl hr
theorem rh_ {p : List Int → List Int → Bool} {r : List (List Int)} : ∀ {L : List (List Int)}, L.Pairwise (fun a b => cmpL a b < 0) → (r ∈ rn_ p L ↔ (∃ a ∈ L, r = [a]) ∨ ∃ a ∈ L, ∃ b ∈ L, cmpL a b < 0 ∧ p a b = true ∧ r = [a, b])
 | [], _ => by simp [rn_]
 | a :: L, h => by
  rw [List.pairwise_cons] at h
  unfold rn_
  rw [mem_cons, mem_append, rh_ h.2, mem_map]
  constructor
  ·rintro (e | ⟨b, hb, e⟩ | ⟨x, hx, e⟩ | ⟨x, hx, y, hy, q1, q2, q3⟩)
   ·exact .inl ⟨a, by simp, e⟩
   ·rw [List.mem_filter] at hb
    exact .inr ⟨a, by simp, b, by simp [hb.1], h.1 b hb.1, hb.2, e.symm⟩
   ·exact .inl ⟨x, by simp [hx], e⟩
   ·exact .inr ⟨x, by simp [hx], y, by simp [hy], q1, q2, q3⟩
  ·rintro (⟨x, hx, e⟩ | ⟨x, hx, y, hy, q1, q2, q3⟩)
   ·rcases mem_cons.1 hx with q | q
    ·rw [q] at e; exact .inl e
    ·exact .inr (.inr (.inl ⟨x, q, e⟩))
   ·rcases mem_cons.1 hx with qx | qx
    ·rcases mem_cons.1 hy with qy | qy
     ·rw [qx, qy, cmpL_refl] at q1
      exact absurd q1 (by omega)
     ·rw [qx] at q2 q3
      exact .inr (.inl ⟨y, List.mem_filter.2 ⟨qy, q2⟩, q3.symm⟩)
    ·rcases mem_cons.1 hy with qy | qy
     ·rw [qy, cmpL_flip a x] at q1
      have := h.1 x qx
      exact absurd q1 (by omega)
     ·exact .inr (.inr (.inr ⟨x, qx, y, qy, q1, q2, q3⟩))
theorem sj_ (m : Nat) (tq : Int) {ov : List Bool} (hn : ov.length ≤ 6) (t : Int) : (gpL m tq ov t).Pairwise fun a b => cmpL a b < 0 := (rH_ m hn).sublist List.filter_sublist
theorem qF_ {m : Nat} {tq : Int} {ov : List Bool} (hn : ov.length ≤ 6) {t : Int} {r : List (List Int)} : r ∈ roL m tq ov t ↔ (∃ a, a ∈ Gn ov.length m ∧ okG tq ov t a = true ∧ r = [a]) ∨ ∃ a b, a ∈ Gn ov.length m ∧ okG tq ov t a = true ∧ b ∈ Gn ov.length m ∧ okG tq ov t b = true ∧ cmpL a b < 0 ∧ tg tq ov t a b = true ∧ r = [a, b] := by
 unfold roL
 rw [rh_ (sj_ m tq hn t)]
 unfold gpL
 simp only [List.mem_filter]
 constructor
 ·rintro (⟨a, h, e⟩ | ⟨a, h, b, h2, q1, q2, q3⟩)
  ·exact .inl ⟨a, h.1, h.2, e⟩
  ·exact .inr ⟨a, b, h.1, h.2, h2.1, h2.2, q1, q2, q3⟩
 ·rintro (⟨a, h, h2, e⟩ | ⟨a, b, h, h2, h3, h4, q1, q2, q3⟩)
  ·exact .inl ⟨a, ⟨h, h2⟩, e⟩
  ·exact .inr ⟨a, ⟨h, h2⟩, b, ⟨h3, h4⟩, q1, q2, q3⟩
theorem rd_ {m : Nat} {tq : Int} {ov : List Bool} (hn : ov.length ≤ 6) {t : Int} {r : List (List Int)} (h : r ∈ roL m tq ov t) : RdN ov.length r ∧ 0 < r.length := by
 have key : ∀ g ∈ Gn ov.length m, 0 < g.length ∧ g.length ≤ 6 ∧ ∀ x ∈ g, 0 ≤ x ∧ x < (ov.length : Int) := fun g hg => ⟨(qk_ hg).1, by have := qk_ hg; omega, rG_ hg⟩
 rcases (qF_ hn).1 h with ⟨a, ha, -, rfl⟩ | ⟨a, b, ha, -, hb, -, -, -, rfl⟩
 ·exact ⟨⟨by simp, fun g hg => by rw [List.mem_singleton.1 hg]; exact key a ha⟩, by simp⟩
 ·refine ⟨⟨by simp, fun g hg => ?_⟩, by simp⟩
  rcases mem_cons.1 hg with e | e
  ·rw [e]; exact key a ha
  ·rw [List.mem_singleton.1 e]; exact key b hb
theorem sk_ {ov : List Bool} {r : List (List Int)} (hr : ∀ g ∈ r, ∀ x ∈ g, 0 ≤ x ∧ x < (ov.length : Int)) {g : List Int} (hg : g ∈ r) (h0 : 0 < g.length) : (∀ x ∈ g, rdOf false (afO ov r) x = !(rdOf false ov x)) ∧ sd (afO ov r) g = !(sd ov g) ∧ okO (afO ov r) g = okO ov g := by
 have h1 : ∀ x ∈ g, rdOf false (afO ov r) x = !(rdOf false ov x) := by
  intro x hx
  have hb := hr g hg x hx
  unfold rdOf
  rw [rb_ hr (by omega : x.toNat < ov.length), if_pos ⟨g, hg, by rw [Int.toNat_of_nonneg hb.1]; exact hx⟩]
 have h2 : sd (afO ov r) g = !(sd ov g) := h1 _ (by
  unfold rd
  rw [getD_eq_getElem?_getD, getElem?_eq_getElem (by omega)]
  exact List.getElem_mem _)
 refine ⟨h1, h2, ?_⟩
 unfold okO
 rw [h2, Bool.eq_iff_iff, all_eq_true, all_eq_true]
 constructor
 ·intro h x hx
  have := h x hx
  rw [h1 x hx] at this
  revert this
  cases rdOf false ov x <;> cases sd ov g <;> simp
 ·intro h x hx
  have := h x hx
  rw [h1 x hx]
  revert this
  cases rdOf false ov x <;> cases sd ov g <;> simp
theorem rL_ {m : Nat} {tq : Int} {ov : List Bool} (hn : ov.length ≤ 6) {t : Int} (h0 : 0 ≤ t) (h1 : t ≤ tq) {r : List (List Int)} (h : r ∈ roL m tq ov t) :
  Cp ov.length tq (afO ov r, afT ov t r) ∧ r ∈ roL m tq (afO ov r) (afT ov t r) ∧ afO (afO ov r) r = ov ∧ afT (afO ov r) (afT ov t r) r = t := by
 obtain ⟨hR, hp⟩ := rd_ hn h
 have hr : ∀ g ∈ r, ∀ x ∈ g, 0 ≤ x ∧ x < (ov.length : Int) := fun g hg => (hR.2 g hg).2.2
 have hlen := q2_ ov r
 have hfl := fun g hg => sk_ hr (g := g) hg (hR.2 g hg).1
 have hback : afO (afO ov r) r = ov := by
  refine r2_ (by rw [q2_, q2_]) fun i hi => ?_
  rw [q2_, q2_] at hi
  rw [rb_ (by rw [hlen]; exact hr) (by rw [hlen]; exact hi), rb_ hr hi]
  by_cases c : ∃ g ∈ r, (i : Int) ∈ g
  ·rw [if_pos c, if_pos c, Bool.not_not]
  ·rw [if_neg c, if_neg c]
 rcases (qF_ hn).1 h with ⟨a, ha, oa, rfl⟩ | ⟨a, b, ha, oa, hb, ob, hab, htg, rfl⟩
 ·obtain ⟨-, f2, f3⟩ := hfl a (by simp)
  unfold okG at oa
  rw [Bool.and_eq_true, decide_eq_true_eq] at oa
  have eT : afT ov t [a] = if sd ov a = true then t - 1 else t + 1 := rfl
  have eT2 : ∀ t2, afT (afO ov [a]) t2 [a] = if sd (afO ov [a]) a = true then t2 - 1 else t2 + 1 := fun _ => rfl
  have ok : okG tq (afO ov [a]) (afT ov t [a]) a = true ∧ 0 ≤ afT ov t [a] ∧ afT ov t [a] ≤ tq ∧ afT (afO ov [a]) (afT ov t [a]) [a] = t := by
   unfold okG
   rw [eT2, f2, f3, oa.1, Bool.true_and, decide_eq_true_eq, eT]
   have o2 := oa.2
   unfold rc_ at o2 ⊢
   cases e : sd ov a <;> rw [e] at o2 <;> simp at o2 ⊢ <;> omega
  exact ⟨⟨hlen, ok.2.1, ok.2.2.1⟩, (qF_ (by rw [hlen]; exact hn)).2 (.inl ⟨a, by rw [hlen]; exact ha, ok.1, rfl⟩), hback, ok.2.2.2⟩
 ·obtain ⟨-, f2, f3⟩ := hfl a (by simp)
  obtain ⟨-, g2, g3⟩ := hfl b (by simp)
  unfold okG at oa ob
  rw [Bool.and_eq_true, decide_eq_true_eq] at oa ob
  unfold tg at htg
  rw [Bool.and_eq_true, Bool.and_eq_true, decide_eq_true_eq] at htg
  obtain ⟨q1, q2, q3⟩ := htg
  have eT : afT ov t [a, b] = if sd ov b = true then (if sd ov a = true then t - 1 else t + 1) - 1 else (if sd ov a = true then t - 1 else t + 1) + 1 := rfl
  have eT2 : ∀ t2, afT (afO ov [a, b]) t2 [a, b] = if sd (afO ov [a, b]) b = true then (if sd (afO ov [a, b]) a = true then t2 - 1 else t2 + 1) - 1 else (if sd (afO ov [a, b]) a = true then t2 - 1 else t2 + 1) + 1 := fun _ => rfl
  have ok : okG tq (afO ov [a, b]) (afT ov t [a, b]) a = true ∧ okG tq (afO ov [a, b]) (afT ov t [a, b]) b = true ∧ tg tq (afO ov [a, b]) (afT ov t [a, b]) a b = true ∧ 0 ≤ afT ov t [a, b] ∧ afT ov t [a, b] ≤ tq ∧ afT (afO ov [a, b]) (afT ov t [a, b]) [a, b] = t := by
   unfold okG tg
   rw [eT2, f2, f3, g2, g3, oa.1, ob.1, Bool.true_and, Bool.true_and, decide_eq_true_eq, decide_eq_true_eq, decide_eq_true q1, q2, Bool.true_and, Bool.true_and, eT]
   have o2 := oa.2
   have o3 := ob.2
   unfold rc_ at o2 o3 q3 ⊢
   cases ea : sd ov a <;> cases eb : sd ov b <;> rw [ea] at o2 <;> rw [eb] at o3 <;> rw [ea, eb] at q3 <;> simp at o2 o3 q3 ⊢ <;> omega
  exact ⟨⟨hlen, ok.2.2.2.1, ok.2.2.2.2.1⟩, (qF_ (by rw [hlen]; exact hn)).2 (.inr ⟨a, b, by rw [hlen]; exact ha, ok.1, by rw [hlen]; exact hb, ok.2.1, hab, ok.2.2.1, rfl⟩), hback, ok.2.2.2.2.2⟩
theorem re_ (p : List Int → List Int → Bool) : ∀ L : List (List Int), L.length ≤ 63 → (rn_ p L).length ≤ 64 * L.length
 | [], _ => by simp [rn_]
 | a :: L, h => by
  rw [length_cons] at h
  have := re_ p L (by omega)
  have := List.length_filter_le (p a) L
  simp only [rn_, length_cons, length_append, length_map]
  omega
theorem qU_ (m : Nat) (tq : Int) {ov : List Bool} (hn : ov.length ≤ 6) (t : Int) : (roL m tq ov t).length ≤ 4032 := by
 have h1 : (gpL m tq ov t).length ≤ (Gn ov.length m).length := List.length_filter_le _ _
 have h2 := rV_ m hn
 have := re_ (tg tq ov t) (gpL m tq ov t) (by omega)
 unfold roL
 omega
theorem rE_ {α : Type} {l : List α} {i : Nat} (h : i < l.length) (z : α) : l.getD i z ∈ l := by
 rw [getD_eq_getElem?_getD, getElem?_eq_getElem h]
 exact List.getElem_mem h
structure Far (A : Nat → List (Nat × Nat)) (N : Nat) (S : Nat → Prop) (d : Nat → Int) : Prop where
 st : ∀ s, S s → d s = 0
 go : ∀ u, u < N → 0 ≤ d u → ∀ e ∈ A u, 0 ≤ d e.1 ∧ d e.1 ≤ d u + (e.2 : Int)
 by_ : ∀ v, v < N → 0 ≤ d v → S v ∨ ∃ u, u < N ∧ 0 ≤ d u ∧ ∃ c : Nat, (v, c) ∈ A u ∧ d v = d u + (c : Int)
def GrB (A : Nat → List (Nat × Nat)) (N C : Nat) : Prop := ∀ u, u < N → ∀ e ∈ A u, e.1 < N ∧ 1 ≤ e.2 ∧ e.2 ≤ C
theorem Far.le {A : Nat → List (Nat × Nat)} {N C : Nat} {S : Nat → Prop} {d d' : Nat → Int} (hA : GrB A N C) (h : Far A N S d) (h' : Far A N S d') : ∀ (n v : Nat), v < N → 0 ≤ d v → d v ≤ (n : Int) → 0 ≤ d' v ∧ d' v ≤ d v := by
 intro n
 induction n with
 | zero =>
  intro v hv h0 hn
  rcases h.by_ v hv h0 with hs | ⟨u, hu, hu0, c, hc, e⟩
  ·rw [h'.st v hs, h.st v hs]; omega
  ·have := (hA u hu _ hc).2.1
   simp only at this
   omega
 | succ n ih =>
  intro v hv h0 hn
  rcases h.by_ v hv h0 with hs | ⟨u, hu, hu0, c, hc, e⟩
  ·rw [h'.st v hs, h.st v hs]; omega
  ·have := (hA u hu _ hc).2.1
   simp only at this
   obtain ⟨i1, i2⟩ := ih u hu hu0 (by omega)
   have := h'.go u hu i1 _ hc
   simp only at this
   omega
def sF_ : List Int → Int
 | [] => 0
 | x :: xs => x + sF_ xs
def Both (A : Nat → List (Nat × Nat)) (N : Nat) : Prop := ∀ u v, u < N → v < N → ∀ f : Nat → Int, sF_ ((A u).map fun e => if e.1 = v then f e.2 else 0) = sF_ ((A v).map fun e => if e.1 = u then f e.2 else 0)
def Aof (E : Int → List S90) (u : Nat) : List (Nat × Nat) := (E (u : Int)).map fun e => (e.f0.toNat, e.f1.toNat)
def dd (dist : List Int) (v : Nat) : Int := dist.getD v 0
theorem qV_ (dist : List Int) {x : Int} (h : 0 ≤ x) : rdOf 0 dist x = dd dist x.toNat := rfl
theorem qQ_ {dist : List Int} {u : Nat} (a : Int) (hu : u < dist.length) (v : Nat) : dd (dist.set u a) v = if v = u then a else dd dist v := by
 unfold dd
 rw [getD_eq_getElem?_getD, getD_eq_getElem?_getD, getElem?_set]
 by_cases h : v = u
 ·subst h
  simp [hu]
 ·rw [if_neg (fun e => h e.symm), if_neg h]
def GrI (E : Int → List S90) (N C G : Nat) : Prop := ∀ u : Nat, u < N → (E (u : Int)).length ≤ G ∧ ∀ e ∈ E (u : Int), 0 ≤ e.f0 ∧ e.f0 < (N : Int) ∧ 1 ≤ e.f1 ∧ e.f1 ≤ (C : Int)
theorem qP_ (n b : Nat) (w : List (List Int)) : (frPad n w).getD b [] = w.getD b [] := by
 unfold frPad
 rw [getD_eq_getElem?_getD, getD_eq_getElem?_getD, List.getElem?_append]
 by_cases h : b < w.length
 ·rw [if_pos h]
 ·rw [if_neg h, List.getElem?_eq_none (Nat.not_lt.1 h), List.getElem?_replicate]
  split <;> rfl
theorem qO_ (n : Nat) (w : List (List Int)) : (frPad n w).length = w.length + (n + 1 - w.length) := by
 unfold frPad
 rw [length_append, List.length_replicate]
theorem r5_ {w : List (List Int)} {u : Nat} (a : List Int) (hu : u < w.length) (v : Nat) : (w.set u a).getD v [] = if v = u then a else w.getD v [] := by
 rw [getD_eq_getElem?_getD, getD_eq_getElem?_getD, getElem?_set]
 by_cases h : v = u
 ·subst h
  simp [hu]
 ·rw [if_neg (fun e => h e.symm), if_neg h]
theorem qt_ {N C W L d : Nat} {dist : List Int} (hl : dist.length = N) (hW : W < 1000000) (hd : d + C + 1 ≤ W) : ∀ (es : List S90) (w : List (List Int)), (∀ e ∈ es, 0 ≤ e.f0 ∧ e.f0 < (N : Int) ∧ 1 ≤ e.f1 ∧ e.f1 ≤ (C : Int)) → w.length ≤ W → L < 1000000 → (∀ b, (w.getD b []).length + es.length ≤ L) →
  ∃ w', frEdges d dist es w = some w' ∧ w.length ≤ w'.length ∧ w'.length ≤ W ∧ (∀ b, ∃ t, w'.getD b [] = w.getD b [] ++ t ∧ t.length ≤ es.length ∧ ∀ x ∈ t, ∃ e ∈ es, x = e.f0 ∧ b = d + e.f1.toNat) ∧ ∀ e ∈ es, dd dist e.f0.toNat < 0 → e.f0 ∈ w'.getD (d + e.f1.toNat) []
 | [], w, _, hw, _, _ => ⟨w, rfl, Nat.le_refl _, hw, fun b => ⟨[], (append_nil _).symm, Nat.le_refl _, fun _ h => by cases h⟩, fun _ h => by cases h⟩
 | e :: es, w, he, hw, hL, hb => by
  have h1 := he e (by simp)
  have hlen : (e :: es).length = es.length + 1 := rfl
  unfold frEdges
  rw [if_pos ⟨h1.1, by omega⟩, qV_ _ h1.1]
  by_cases hs : dd dist e.f0.toNat ≥ 0
  ·rw [if_pos hs]
   obtain ⟨w', a1, a2, a3, a4, a5⟩ := qt_ (L := L) hl hW hd es w (fun x hx => he x (by simp [hx])) hw hL (fun b => by have := hb b; omega)
   refine ⟨w', a1, a2, a3, fun b => ?_, fun x hx hn => ?_⟩
   ·obtain ⟨t, t1, t2, t3⟩ := a4 b
    refine ⟨t, t1, by omega, fun x hx => ?_⟩
    obtain ⟨y, y1, y2⟩ := t3 x hx
    exact ⟨y, by simp [y1], y2⟩
   ·rcases mem_cons.1 hx with q | q
    ·rw [q] at hn; omega
    ·exact a5 x q hn
  ·rw [if_neg hs]
   have hp := qO_ (d + e.f1.toNat) w
   have hg := qP_ (d + e.f1.toNat) (d + e.f1.toNat) w
   have hbb := hb (d + e.f1.toNat)
   rw [hg, if_pos ⟨h1.2.2.1, by omega, by omega, by omega⟩]
   have hin : d + e.f1.toNat < (frPad (d + e.f1.toNat) w).length := by omega
   have hget : ∀ b, ((frPad (d + e.f1.toNat) w).set (d + e.f1.toNat) (w.getD (d + e.f1.toNat) [] ++ [e.f0])).getD b [] = if b = d + e.f1.toNat then w.getD (d + e.f1.toNat) [] ++ [e.f0] else w.getD b [] := by
    intro b
    rw [r5_ _ hin, qP_]
   obtain ⟨w', a1, a2, a3, a4, a5⟩ := qt_ (L := L) hl hW hd es ((frPad (d + e.f1.toNat) w).set (d + e.f1.toNat) (w.getD (d + e.f1.toNat) [] ++ [e.f0])) (fun x hx => he x (by simp [hx])) (by rw [length_set]; omega) hL (fun b => by
    rw [hget]
    have := hb b
    split
    ·rw [length_append, length_singleton]; omega
    ·omega)
   rw [length_set] at a2
   refine ⟨w', a1, by omega, a3, fun b => ?_, fun x hx hn => ?_⟩
   ·obtain ⟨t, t1, t2, t3⟩ := a4 b
    rw [hget] at t1
    by_cases q : b = d + e.f1.toNat
    ·rw [if_pos q] at t1
     refine ⟨e.f0 :: t, ?_, by rw [length_cons]; omega, fun x hx => ?_⟩
     ·rw [t1, q, append_assoc]; rfl
     ·rcases mem_cons.1 hx with h | h
      ·exact ⟨e, by simp, h, q⟩
      ·obtain ⟨y, y1, y2⟩ := t3 x h
       exact ⟨y, by simp [y1], y2⟩
    ·rw [if_neg q] at t1
     refine ⟨t, t1, by omega, fun x hx => ?_⟩
     obtain ⟨y, y1, y2⟩ := t3 x hx
     exact ⟨y, by simp [y1], y2⟩
   ·rcases mem_cons.1 hx with q | q
    ·obtain ⟨t, t1, -, -⟩ := a4 (d + e.f1.toNat)
     rw [hget, if_pos rfl] at t1
     rw [q, t1]
     simp
    ·exact a5 x q hn
def rF_ (d i : Nat) (w : List (List Int)) (b v : Nat) : Prop := d ≤ b ∧ (v : Int) ∈ (if b = d then (w.getD b []).drop i else w.getD b [])
def qo_ (dist : List Int) : Nat := dist.countP fun x => decide (0 ≤ x)
theorem rk_ {dist : List Int} {u : Nat} {a : Int} (hu : u < dist.length) (h : dd dist u < 0) (ha : 0 ≤ a) : qo_ (dist.set u a) = qo_ dist + 1 := by
 induction dist generalizing u with
 | nil => simp at hu
 | cons x xs ih =>
  cases u with
  | zero =>
   have hx : x < 0 := h
   unfold qo_
   rw [List.set_cons_zero, countP_cons, countP_cons, if_pos (by simpa using ha), if_neg (by simp; omega)]
  | succ u =>
   have := ih (u := u) (by simpa using hu) h
   unfold qo_ at this ⊢
   rw [List.set_cons_succ, countP_cons, countP_cons, this]
   omega
structure Bk (E : Int → List S90) (N C G B : Nat) (S : Nat → Prop) (d i : Nat) (dist : List Int) (w : List (List Int)) : Prop where
 len : dist.length = N
 low : ∀ v, v < N → -1 ≤ dd dist v
 set_ : ∀ v, v < N → dd dist v ≤ (d : Int)
 hi : ∀ v, v < N → dd dist v ≤ ((C * qo_ dist : Nat) : Int)
 wl : w.length ≤ C * qo_ dist + 1
 dl : d ≤ w.length
 ent : ∀ b, ∀ x ∈ w.getD b [], 0 ≤ x ∧ x < (N : Int) ∧ ((S x.toNat ∧ b = 0) ∨ ∃ u, u < N ∧ 0 ≤ dd dist u ∧ ∃ c : Nat, (x.toNat, c) ∈ Aof E u ∧ (b : Int) = dd dist u + (c : Int))
 sz : ∀ b, (w.getD b []).length ≤ B + G * qo_ dist
 st : ∀ s, S s → s < N ∧ (dd dist s = 0 ∨ dd dist s < 0 ∧ rF_ d i w 0 s)
 go : ∀ u, u < N → 0 ≤ dd dist u → ∀ e ∈ Aof E u, (0 ≤ dd dist e.1 ∧ dd dist e.1 ≤ dd dist u + (e.2 : Int)) ∨ (dd dist e.1 < 0 ∧ ∃ b : Nat, (b : Int) = dd dist u + (e.2 : Int) ∧ rF_ d i w b e.1)
 by_ : ∀ v, v < N → 0 ≤ dd dist v → S v ∨ ∃ u, u < N ∧ 0 ≤ dd dist u ∧ ∃ c : Nat, (v, c) ∈ Aof E u ∧ dd dist v = dd dist u + (c : Int)
theorem ra_ (dist : List Int) : qo_ dist ≤ dist.length := List.countP_le_length
theorem Bk.end_ {E : Int → List S90} {N C G B : Nat} {S : Nat → Prop} {d i : Nat} {dist : List Int} {w : List (List Int)} (h : Bk E N C G B S d i dist w) (hd : ¬ d < w.length) : Far (Aof E) N S (dd dist) := by
 have hn : ∀ b v, ¬ rF_ d i w b v := by
  intro b v ⟨h1, h2⟩
  have : w.getD b [] = [] := by rw [getD_eq_getElem?_getD, List.getElem?_eq_none (by omega)]; rfl
  rw [this] at h2
  split at h2 <;> simp at h2
 refine ⟨fun s hs => ?_, fun u hu h0 e he => ?_, h.by_⟩
 ·rcases (h.st s hs).2 with e | ⟨-, e⟩
  ·exact e
  ·exact absurd e (hn _ _)
 ·rcases h.go u hu h0 e he with q | ⟨-, b, -, q⟩
  ·exact q
  ·exact absurd q (hn _ _)
theorem Bk.next {E : Int → List S90} {N C G B : Nat} {S : Nat → Prop} {d i : Nat} {dist : List Int} {w : List (List Int)} (h : Bk E N C G B S d i dist w) (hd : d < w.length) (hi : ¬ i < (w.getD d []).length) : Bk E N C G B S (d + 1) 0 dist w := by
 have hp : ∀ b v, rF_ d i w b v → rF_ (d + 1) 0 w b v := by
  intro b v ⟨h1, h2⟩
  by_cases e : b = d
  ·rw [if_pos e, e, List.drop_eq_nil_of_le (Nat.not_lt.1 hi)] at h2
   simp at h2
  ·rw [if_neg e] at h2
   refine ⟨by omega, ?_⟩
   split
   ·rw [drop_zero]; exact h2
   ·exact h2
 refine { h with set_ := fun v hv => ?_, dl := hd, st := fun s hs => ?_, go := fun u hu h0 e he => ?_ }
 ·have := h.set_ v hv
  omega
 ·obtain ⟨a, b⟩ := h.st s hs
  exact ⟨a, b.imp id fun ⟨q1, q2⟩ => ⟨q1, hp _ _ q2⟩⟩
 ·exact (h.go u hu h0 e he).imp id fun ⟨q1, b, q2, q3⟩ => ⟨q1, b, q2, hp _ _ q3⟩
theorem qK_ {d i : Nat} {w : List (List Int)} {b v : Nat} (hi : i < (w.getD d []).length) (h : rF_ d i w b v) : (b = d ∧ (v : Int) = (w.getD d []).getD i 0) ∨ rF_ d (i + 1) w b v := by
 obtain ⟨h1, h2⟩ := h
 by_cases e : b = d
 ·rw [if_pos e, e, qe_ _ i hi 0] at h2
  rcases mem_cons.1 h2 with q | q
  ·exact .inl ⟨e, q⟩
  ·exact .inr ⟨h1, by rw [if_pos e, e]; exact q⟩
 ·rw [if_neg e] at h2
  exact .inr ⟨h1, by rw [if_neg e]; exact h2⟩
theorem Bk.skip {E : Int → List S90} {N C G B : Nat} {S : Nat → Prop} {d i : Nat} {dist : List Int} {w : List (List Int)} (h : Bk E N C G B S d i dist w) (hi : i < (w.getD d []).length) (hs : 0 ≤ dd dist ((w.getD d []).getD i 0).toNat) : Bk E N C G B S d (i + 1) dist w := by
 have hx := h.ent d _ (rE_ hi 0)
 have hp : ∀ b v, dd dist v < 0 → rF_ d i w b v → rF_ d (i + 1) w b v := by
  intro b v hv hq
  rcases qK_ hi hq with ⟨-, e⟩ | q
  ·rw [← e, Int.toNat_natCast] at hs; omega
  ·exact q
 refine { h with st := fun s hs => ?_, go := fun u hu h0 e he => ?_ }
 ·obtain ⟨a, b⟩ := h.st s hs
  exact ⟨a, b.imp id fun ⟨q1, q2⟩ => ⟨q1, hp _ _ q1 q2⟩⟩
 ·exact (h.go u hu h0 e he).imp id fun ⟨q1, b, q2, q3⟩ => ⟨q1, b, q2, hp _ _ q1 q3⟩
theorem Bk.settle {E : Int → List S90} {N C G B : Nat} {S : Nat → Prop} {d i : Nat} {dist : List Int} {w : List (List Int)} (hE : GrI E N C G) (h : Bk E N C G B S d i dist w) (hd : d < w.length) (hi : i < (w.getD d []).length) {v : Nat} (hv : (w.getD d []).getD i 0 = (v : Int)) (hs : dd dist v < 0)
  (hC : C * N + 1 < 1000000) (hG : B + G * N < 1000000) : ∃ w', frEdges d (dist.set v (d : Int)) (E (v : Int)) w = some w' ∧ Bk E N C G B S d (i + 1) (dist.set v (d : Int)) w' ∧ qo_ (dist.set v (d : Int)) = qo_ dist + 1 := by
 have hx := h.ent d _ (rE_ hi 0)
 rw [hv, Int.toNat_natCast] at hx
 have hvN : v < N := by omega
 have hvl : v < dist.length := by rw [h.len]; exact hvN
 have hcnt := rk_ (a := (d : Int)) hvl hs (by omega)
 have hcN : qo_ dist + 1 ≤ N := by
  have := ra_ (dist.set v (d : Int))
  rw [length_set, h.len, hcnt] at this
  exact this
 have hmC : C * (qo_ dist + 1) ≤ C * N := Nat.mul_le_mul_left _ hcN
 have hmG : G * (qo_ dist + 1) ≤ G * N := Nat.mul_le_mul_left _ hcN
 have eC : C * (qo_ dist + 1) = C * qo_ dist + C := Nat.mul_succ _ _
 have eG : G * (qo_ dist + 1) = G * qo_ dist + G := Nat.mul_succ _ _
 have hwl := h.wl
 obtain ⟨hEl, hEe⟩ := hE v hvN
 obtain ⟨w', a1, a2, a3, a4, a5⟩ := qt_ (N := N) (C := C) (W := C * (qo_ dist + 1) + 1) (L := B + G * (qo_ dist + 1)) (d := d) (dist := dist.set v (d : Int)) (by rw [length_set]; exact h.len) (by omega) (by omega) (E (v : Int)) w hEe (by omega) (by omega) (fun b => by have := h.sz b; omega)
 have hD : ∀ x, dd (dist.set v (d : Int)) x = if x = v then (d : Int) else dd dist x := qQ_ _ hvl
 have hDv : dd (dist.set v (d : Int)) v = (d : Int) := by rw [hD, if_pos rfl]
 have hDo : ∀ x, 0 ≤ dd dist x → dd (dist.set v (d : Int)) x = dd dist x := by
  intro x hx
  rw [hD, if_neg]
  intro e
  rw [e] at hx; omega
 have hw'd : w'.getD d [] = w.getD d [] := by
  obtain ⟨t, t1, -, t3⟩ := a4 d
  cases t with
  | nil => rw [t1, append_nil]
  | cons y t =>
   obtain ⟨e, e1, -, e2⟩ := t3 y (by simp)
   have := (hEe e e1).2.2.1
   omega
 have hp : ∀ b x, x ≠ v → rF_ d i w b x → rF_ d (i + 1) w' b x := by
  intro b x hxv hq
  rcases qK_ hi hq with ⟨-, e⟩ | ⟨q1, q2⟩
  ·rw [hv] at e; omega
  ·refine ⟨q1, ?_⟩
   by_cases e : b = d
   ·rw [if_pos e] at q2 ⊢
    rw [e] at q2 ⊢
    rw [hw'd]; exact q2
   ·rw [if_neg e] at q2 ⊢
    obtain ⟨t, t1, -, -⟩ := a4 b
    rw [t1]
    exact List.mem_append_left _ q2
 refine ⟨w', a1, ?_, hcnt⟩
 refine ⟨by rw [length_set]; exact h.len, fun x hx1 => ?_, fun x hx1 => ?_, fun x hx1 => ?_, by rw [hcnt]; exact a3, Nat.le_of_lt (Nat.lt_of_lt_of_le hd a2), fun b x hm => ?_, fun b => ?_, fun s hS => ?_, fun u hu h0 e he => ?_, fun x hx1 h0 => ?_⟩
 ·rw [hD]
  split
  ·omega
  ·exact h.low x hx1
 ·rw [hD]
  split
  ·omega
  ·exact h.set_ x hx1
 ·rw [hD, hcnt]
  have := h.hi x hx1
  split <;> omega
 ·obtain ⟨t, t1, -, t3⟩ := a4 b
  rw [t1] at hm
  rcases mem_append.1 hm with q | q
  ·obtain ⟨e1, e2, e3⟩ := h.ent b x q
   refine ⟨e1, e2, e3.imp id fun ⟨u, u1, u2, c, u3, u4⟩ => ⟨u, u1, ?_, c, u3, ?_⟩⟩
   ·rw [hDo u u2]; exact u2
   ·rw [hDo u u2]; exact u4
  ·obtain ⟨e, e1, e2, e3⟩ := t3 x q
   have he := hEe e e1
   refine ⟨by omega, by omega, .inr ⟨v, hvN, by rw [hDv]; omega, e.f1.toNat, ?_, by rw [hDv]; omega⟩⟩
   rw [e2]
   exact mem_map.2 ⟨e, e1, rfl⟩
 ·obtain ⟨t, t1, t2, -⟩ := a4 b
  have := h.sz b
  rw [t1, length_append, hcnt]
  omega
 ·obtain ⟨s1, s2⟩ := h.st s hS
  refine ⟨s1, ?_⟩
  by_cases e : s = v
  ·left
   rcases s2 with q | ⟨-, q⟩
   ·rw [e] at q; omega
   ·rw [e, hDv]
    have := q.1
    omega
  ·rw [hD, if_neg e]
   exact s2.imp id fun ⟨q1, q2⟩ => ⟨q1, hp _ _ e q2⟩
 ·by_cases q : u = v
  ·rw [q] at he
   obtain ⟨y, y1, y2⟩ := mem_map.1 he
   have hy := hEe y y1
   have hyN : y.f0.toNat < N := by omega
   rw [q, hDv, ← y2]
   simp only
   by_cases z : dd (dist.set v (d : Int)) y.f0.toNat < 0
   ·right
    refine ⟨z, d + y.f1.toNat, by omega, by omega, ?_⟩
    rw [if_neg (by omega), show ((y.f0.toNat : Nat) : Int) = y.f0 by omega]
    exact a5 y y1 z
   ·left
    refine ⟨by omega, ?_⟩
    have : dd (dist.set v (d : Int)) y.f0.toNat ≤ (d : Int) := by
     rw [hD]
     split
     ·exact Int.le_refl _
     ·exact h.set_ _ hyN
    omega
  ·have hu0 : 0 ≤ dd dist u := by
    rw [hD, if_neg q] at h0; exact h0
   rw [hDo u hu0]
   rcases h.go u hu hu0 e he with ⟨z1, z2⟩ | ⟨z1, b, z2, z3⟩
   ·left
    rw [hDo _ z1]; exact ⟨z1, z2⟩
   ·by_cases q2 : e.1 = v
    ·left
     rw [q2, hDv]
     have := z3.1
     omega
    ·right
     rw [hD, if_neg q2]
     exact ⟨z1, b, z2, hp _ _ q2 z3⟩
 ·by_cases q : x = v
  ·rcases hx.2.2 with ⟨z1, -⟩ | ⟨u, u1, u2, c, u3, u4⟩
   ·left; rw [q]; exact z1
   ·right
    refine ⟨u, u1, by rw [hDo u u2]; exact u2, c, by rw [q]; exact u3, ?_⟩
    rw [q, hDv, hDo u u2]; exact u4
  ·rw [hD, if_neg q] at h0
   rcases h.by_ x hx1 h0 with z | ⟨u, u1, u2, c, u3, u4⟩
   ·exact .inl z
   ·right
    refine ⟨u, u1, by rw [hDo u u2]; exact u2, c, u3, ?_⟩
    rw [hD, if_neg q, hDo u u2]; exact u4
theorem r8_ {E : Int → List S90} {N C G B : Nat} {S : Nat → Prop} (hE : GrI E N C G) (hC : C * N + 1 < 1000000) (hG : B + G * N < 1000000) : ∀ (a b l d i : Nat) (dist : List Int) (w : List (List Int)), N - qo_ dist ≤ a → C * N + 2 - d ≤ b → (w.getD d []).length - i ≤ l → Bk E N C G B S d i dist w →
  ∃ k r, frRun E (N : Int) k d i dist w = some r ∧ Far (Aof E) N S (dd r) ∧ r.length = N ∧ (∀ v, v < N → -1 ≤ dd r v) ∧ ∀ v, v < N → dd r v ≤ ((C * N : Nat) : Int) := by
 intro a
 induction a using Nat.strongRecOn with
 | _ a iha =>
 intro b
 induction b using Nat.strongRecOn with
 | _ b ihb =>
 intro l
 induction l using Nat.strongRecOn with
 | _ l ihl =>
 intro d i dist w ha hb hl h
 have hcl := ra_ dist
 rw [h.len] at hcl
 have hmC : C * qo_ dist ≤ C * N := Nat.mul_le_mul_left _ hcl
 have hmG : G * qo_ dist ≤ G * N := Nat.mul_le_mul_left _ hcl
 by_cases c1 : d < w.length
 ·have hwl := h.wl
  by_cases c2 : i < (w.getD d []).length
  ·obtain ⟨e1, e2, -⟩ := h.ent d _ (rE_ c2 0)
   obtain ⟨v, hv⟩ : ∃ v : Nat, (w.getD d []).getD i 0 = (v : Int) := ⟨((w.getD d []).getD i 0).toNat, by omega⟩
   have hvN : v < N := by omega
   have hEl := (hE v hvN).1
   have hG1 : 1 ≤ N := by omega
   have hGN : G * 1 ≤ G * N := Nat.mul_le_mul_left _ hG1
   have hsz := h.sz d
   have hrd : rdOf 0 (w.getD d []) (i : Int) = (v : Int) := hv
   have hcond : 0 ≤ (v : Int) ∧ (v : Int) < (N : Int) ∧ i < 1000000 ∧ d < 1000000 ∧ (E (v : Int)).length < 1000000 := ⟨by omega, by omega, by omega, by omega, by omega⟩
   by_cases c3 : dd dist v ≥ 0
   ·obtain ⟨k, r, hr, hq⟩ := ihl (l - 1) (by omega) d (i + 1) dist w ha hb (by omega) (h.skip c2 (by rw [hv]; exact c3))
    refine ⟨k + 1, r, ?_, hq⟩
    rw [frRun.eq_2, if_pos c1, if_pos c2, hrd, if_pos hcond, qV_ _ (by omega), Int.toNat_natCast, if_pos c3]
    exact hr
   ·obtain ⟨w', hw', hB', hc'⟩ := h.settle hE c1 c2 hv (by omega) hC hG
    have hc2 := ra_ (dist.set v (d : Int))
    rw [length_set, h.len] at hc2
    obtain ⟨k, r, hr, hq⟩ := iha (N - qo_ (dist.set v (d : Int))) (by omega) _ _ d (i + 1) (dist.set v (d : Int)) w' (Nat.le_refl _) (Nat.le_refl _) (Nat.le_refl _) hB'
    refine ⟨k + 1, r, ?_, hq⟩
    rw [frRun.eq_2, if_pos c1, if_pos c2, hrd, if_pos hcond, qV_ _ (by omega), Int.toNat_natCast, if_neg c3, hw', Option.bind_some]
    exact hr
  ·obtain ⟨k, r, hr, hq⟩ := ihb (b - 1) (by omega) _ (d + 1) 0 dist w ha (by omega) (Nat.le_refl _) (h.next c1 c2)
   refine ⟨k + 1, r, ?_, hq⟩
   rw [frRun.eq_2, if_pos c1, if_neg c2, if_pos (by omega)]
   exact hr
 ·refine ⟨1, dist, ?_, h.end_ c1, h.len, h.low, fun v hv => ?_⟩
  ·rw [frRun.eq_2, if_neg c1]
  ·have := h.hi v hv
   omega
def afC (s : List Bool × Int) (r : List (List Int)) : List Bool × Int := (afO s.1 r, afT s.1 s.2 r)
def ovr (s : List Bool × Int) : Bool := s.1.all fun b => b
structure FarX (n m : Nat) (tq : Int) (cs : List (List Int) → Int) (d : List Bool × Int → Int) : Prop where
 st : ∀ s, Cp n tq s → ovr s = true → d s = 0
 go : ∀ s, Cp n tq s → ∀ r ∈ roL m tq s.1 s.2, 0 ≤ d (afC s r) → 0 ≤ d s ∧ d s ≤ d (afC s r) + cs r
 by_ : ∀ s, Cp n tq s → 0 ≤ d s → ovr s = true ∨ ∃ r ∈ roL m tq s.1 s.2, 0 ≤ d (afC s r) ∧ d s = d (afC s r) + cs r
theorem qm_ {n m : Nat} {tq : Int} (hn : n ≤ 6) {s : List Bool × Int} (hs : Cp n tq s) {r : List (List Int)} (h : r ∈ roL m tq s.1 s.2) : Cp n tq (afC s r) ∧ r ∈ roL m tq (afC s r).1 (afC s r).2 ∧ afC (afC s r) r = s := by
 obtain ⟨h1, h2, h3⟩ := hs
 obtain ⟨a, b, c, d⟩ := rL_ (by omega) h2 h3 h
 rw [h1] at a
 exact ⟨a, b, Prod.ext c d⟩
theorem FarX.le {n m : Nat} {tq : Int} {cs : List (List Int) → Int} (hn : n ≤ 6) (hc : ∀ s, Cp n tq s → ∀ r ∈ roL m tq s.1 s.2, 1 ≤ cs r) {d d' : List Bool × Int → Int} (h : FarX n m tq cs d) (h' : FarX n m tq cs d') : ∀ (N : Nat) (s : List Bool × Int), Cp n tq s → 0 ≤ d s → d s ≤ (N : Int) → 0 ≤ d' s ∧ d' s ≤ d s := by
 intro N
 induction N with
 | zero =>
  intro s hs h0 hN
  rcases h.by_ s hs h0 with e | ⟨r, hr, hr0, e⟩
  ·rw [h'.st s hs e, h.st s hs e]; omega
  ·have := hc s hs r hr
   omega
 | succ N ih =>
  intro s hs h0 hN
  rcases h.by_ s hs h0 with e | ⟨r, hr, hr0, e⟩
  ·rw [h'.st s hs e, h.st s hs e]; omega
  ·have := hc s hs r hr
   obtain ⟨i1, i2⟩ := ih (afC s r) (qm_ hn hs hr).1 hr0 (by omega)
   have := h'.go s hs r hr i1
   omega
theorem FarX.eq {n m : Nat} {tq : Int} {cs : List (List Int) → Int} (hn : n ≤ 6) (hc : ∀ s, Cp n tq s → ∀ r ∈ roL m tq s.1 s.2, 1 ≤ cs r) {d d' : List Bool × Int → Int} (h : FarX n m tq cs d) (h' : FarX n m tq cs d') (l : ∀ s, Cp n tq s → -1 ≤ d s) (l' : ∀ s, Cp n tq s → -1 ≤ d' s) {s : List Bool × Int} (hs : Cp n tq s) : d s = d' s := by
 have h1 := h.le hn hc h' (d s).toNat s hs
 have h2 := h'.le hn hc h (d' s).toNat s hs
 have := l s hs
 have := l' s hs
 omega
def csT (ts : List Int) (tm : Bool) (r : List (List Int)) : Int := if tm = true then tmR ts r else 1
theorem qA_ {ts : List Int} (hts : ∀ x ∈ ts, 1 ≤ x ∧ x ≤ 1000) (hn : ts.length ≤ 6) {m : Nat} {tq : Int} (tm : Bool) {s : List Bool × Int} (hs : Cp ts.length tq s) {r : List (List Int)} (hr : r ∈ roL m tq s.1 s.2) : 1 ≤ csT ts tm r ∧ csT ts tm r ≤ 1000 := by
 obtain ⟨h1, h2⟩ := rd_ (by rw [hs.1]; exact hn) hr
 rw [hs.1] at h1
 unfold csT
 split
 ·exact sx_ hts h1 h2
 ·omega
def edN (ts : List Int) (m : Nat) (tq : Int) (tm : Bool) (c : Int) : List S90 := (roL m tq (cpI ts.length tq c.toNat).1 (cpI ts.length tq c.toNat).2).map fun r => ⟨(cdI (afC (cpI ts.length tq c.toNat) r) : Int), csT ts tm r, r⟩
theorem q8_ {ts : List Int} (hn : ts.length ≤ 6) {m : Nat} (se : Int) {tq : Int} (h1 : 1 ≤ tq) (h2 : tq ≤ 2) (tm : Bool) {s : List Bool × Int} (hs : Cp ts.length tq s) {k : Nat} (hk : 60 ≤ k) : ∀ (L : List (List (List Int))) (acc : List S90), (∀ r ∈ L, r ∈ roL m tq s.1 s.2) → acc.length + L.length ≤ 999999 →
  nightEd k ts se tq tm s.1 s.2 L acc = some (acc ++ L.map fun r => ⟨(cdI (afC s r) : Int), csT ts tm r, r⟩)
 | [], acc, _, _ => by simp [nightEd]
 | r :: L, acc, h, ha => by
  rw [length_cons] at ha
  have hr := h r (by simp)
  obtain ⟨e1, e2, e3⟩ := hs
  have hR := (rd_ (by omega) hr).1
  have hb := (qm_ hn ⟨e1, e2, e3⟩ hr).1
  have hC : nightC k ts se tq tm r = some (csT ts tm r) := by
   unfold nightC csT
   split
   ·exact qJ_ se tq (by rw [← e1]; exact hR) (by omega)
   ·rfl
  unfold nightEd
  rw [hC, Option.bind_some, (rl_ (by omega) e2 (by omega) hR (by omega)).1, Option.bind_some]
  show (Option.bind (impl_Camp_code.f k (afC s r).1 (afC s r).2) _) = _
  rw [(qr_ hn h1 h2 hb (by omega)).1, Option.bind_some, if_pos (by omega), q8_ hn se h1 h2 tm ⟨e1, e2, e3⟩ hk L _ (fun x hx => h x (by simp [hx])) (by rw [length_append, length_singleton]; omega)]
  simp
theorem r1_ {ts : List Int} (hn : ts.length ≤ 6) (m : Nat) {tq : Int} (h1 : 1 ≤ tq) (h2 : tq ≤ 2) (tm : Bool) {c : Nat} (hc : c < NN ts.length tq) {k : Nat} (hk : 60 ≤ k) : nightG k ts (m : Int) tq tm (c : Int) = some (edN ts m tq tm (c : Int)) := by
 obtain ⟨p1, p2, -⟩ := rD_ hn h1 h2 hc rfl (m : Int) (by omega : 20 ≤ k)
 have hl := qU_ m tq (ov := (cpI ts.length tq c).1) (by rw [p2.1]; exact hn) (cpI ts.length tq c).2
 unfold nightG
 rw [p1, Option.bind_some, rw_ p2.2.1 p2.2.2 h2 ts m (by rw [p2.1]; exact hn) (by omega), Option.bind_some, if_pos (by omega), q8_ hn (m : Int) h1 h2 tm p2 hk _ _ (fun r hr => hr) (by simp only [length_nil]; omega)]
 unfold edN
 rw [Int.toNat_natCast]
 rfl
theorem s5_ {ts : List Int} (hts : ∀ x ∈ ts, 1 ≤ x ∧ x ≤ 1000) (hn : ts.length ≤ 6) (m : Nat) {tq : Int} (h1 : 1 ≤ tq) (h2 : tq ≤ 2) (tm : Bool) : GrI (edN ts m tq tm) (NN ts.length tq) 1000 4032 := by
 intro u hu
 obtain ⟨-, p2, -⟩ := rD_ hn h1 h2 hu rfl (m : Int) (Nat.le_refl 20)
 unfold edN
 rw [Int.toNat_natCast, length_map]
 refine ⟨qU_ m tq (by rw [p2.1]; exact hn) _, fun e he => ?_⟩
 obtain ⟨r, hr, rfl⟩ := mem_map.1 he
 have hb := (qm_ hn p2 hr).1
 have hq := (qr_ hn h1 h2 hb (Nat.le_refl 20)).2.1
 have hcs := qA_ hts hn tm p2 hr
 simp only
 omega
theorem r7_ {E : Int → List S90} {N C G B : Nat} (hE : GrI E N C G) {L : List Int} (hL : ∀ x ∈ L, 0 ≤ x ∧ x < (N : Int)) (hB0 : L.length ≤ B) (hN0 : 0 < N) (hN : N ≤ 1000000) (hC : C * N + 1 < 1000000) (hG : B + G * N < 1000000) :
  ∃ k r, impl_graph_int_from.f E k (N : Int) L = some r ∧ Far (Aof E) N (fun v => (v : Int) ∈ L) (dd r) ∧ r.length = N ∧ (∀ v, v < N → -1 ≤ dd r v) ∧ ∀ v, v < N → dd r v ≤ ((C * N : Nat) : Int) := by
 have hdd : ∀ v, v < N → dd (List.replicate N (-1)) v = -1 := by
  intro v hv
  unfold dd
  rw [getD_eq_getElem?_getD, List.getElem?_replicate, if_pos hv]
  rfl
 have hc0 : qo_ (List.replicate N (-1)) = 0 := by
  unfold qo_
  rw [List.countP_eq_zero]
  intro x hx
  rw [(List.mem_replicate.1 hx).2]
  decide
 have hB : Bk E N C G B (fun v => (v : Int) ∈ L) 0 0 (List.replicate N (-1)) [L] := by
  refine ⟨by simp, fun v hv => by rw [hdd v hv]; omega, fun v hv => by rw [hdd v hv]; omega, fun v hv => by rw [hdd v hv]; omega, by simp, by simp, fun b x hx => ?_, fun b => ?_, fun t ht => ?_, fun u hu h0 => ?_, fun v hv h0 => ?_⟩
  ·cases b with
   | zero =>
    have hx2 : x ∈ L := hx
    have := hL x hx2
    exact ⟨this.1, this.2, .inl ⟨by rw [Int.toNat_of_nonneg this.1]; exact hx2, rfl⟩⟩
   | succ b => simp at hx
  ·cases b with
   | zero => simp; omega
   | succ b => simp
  ·have := hL _ ht
   have htN : t < N := by omega
   exact ⟨htN, .inr ⟨by rw [hdd t htN]; omega, Nat.le_refl _, by simpa using ht⟩⟩
  ·rw [hdd u hu] at h0; omega
  ·rw [hdd v hv] at h0; omega
 obtain ⟨k, r, hr, hq⟩ := r8_ hE hC hG N (C * N + 2) _ 0 0 (List.replicate N (-1)) [L] (by omega) (by omega) (Nat.le_refl _) hB
 refine ⟨k, r, ?_, hq⟩
 unfold impl_graph_int_from.f slices_Repeat_int_int.f
 rw [if_pos (by omega), if_pos (show [-1].length = 1 from rfl), if_pos (by omega), if_pos (by omega)]
 show frRun E (N : Int) k 0 0 (List.replicate (N : Int).toNat (-1)) [L] = some r
 rw [Int.toNat_natCast]
 exact hr
theorem qR_ {n : Nat} {tq : Int} (hn : n ≤ 6) (h1 : 1 ≤ tq) (h2 : tq ≤ 2) : 0 < NN n tq ∧ NN n tq ≤ 192 := by
 have h3 : 2 ^ n ≤ 2 ^ 6 := Nat.pow_le_pow_right (by decide) hn
 have h4 : 0 < 2 ^ n := Nat.pow_pos (by omega)
 unfold NN
 have h5 : (tq + 1).toNat ≤ 3 := by omega
 have h6 : 0 < (tq + 1).toNat := by omega
 have h7 : (tq + 1).toNat * 2 ^ n ≤ 3 * 2 ^ 6 := Nat.mul_le_mul h5 h3
 exact ⟨Nat.mul_pos h6 h4, by omega⟩
theorem sp_ {o : List Bool} (h : (o.all fun b => b) = true) : o = List.replicate o.length true := by
 rw [List.eq_replicate_iff]
 exact ⟨rfl, fun b hb => all_eq_true.1 h b hb⟩
theorem sl_ {ts : List Int} (hts : ∀ x ∈ ts, 1 ≤ x ∧ x ≤ 1000) (hn : ts.length ≤ 6) (m : Nat) {tq : Int} (h1 : 1 ≤ tq) (h2 : tq ≤ 2) (tm : Bool) {d : Nat → Int} (h : Far (Aof (edN ts m tq tm)) (NN ts.length tq) (fun v => (v : Int) ∈ ngEnds ts.length (tq + 1).toNat) d) : FarX ts.length m tq (csT ts tm) fun s => d (cdI s) := by
 obtain ⟨q1, -⟩ := q1_ hn h1 h2
 have hA : ∀ u, u < NN ts.length tq → ∀ v c, (v, c) ∈ Aof (edN ts m tq tm) u ↔ ∃ r ∈ roL m tq (cpI ts.length tq u).1 (cpI ts.length tq u).2, v = cdI (afC (cpI ts.length tq u) r) ∧ c = (csT ts tm r).toNat := by
  intro u hu v c
  unfold Aof edN
  rw [Int.toNat_natCast, List.map_map, mem_map]
  constructor
  ·rintro ⟨r, hr, e⟩
   simp only [Function.comp_apply, Int.toNat_natCast, Prod.mk.injEq] at e
   exact ⟨r, hr, e.1.symm, e.2.symm⟩
  ·rintro ⟨r, hr, e1, e2⟩
   exact ⟨r, hr, by simp only [Function.comp_apply, Int.toNat_natCast, Prod.mk.injEq]; exact ⟨e1.symm, e2.symm⟩⟩
 refine ⟨fun s hs ho => ?_, fun s hs r hr h0 => ?_, fun s hs h0 => ?_⟩
 ·refine h.st _ ?_
  have e := sp_ ho
  rw [hs.1] at e
  obtain ⟨-, e2, e3⟩ := hs
  have es : s = (List.replicate ts.length true, ((s.2.toNat : Nat) : Int)) := Prod.ext e (by simp only; omega)
  have h3 := q1 s.2.toNat (by omega)
  rw [← es] at h3
  rw [← h3]
  unfold ngEnds
  exact mem_map.2 ⟨s.2.toNat, mem_range.2 (by omega), rfl⟩
 ·obtain ⟨b1, b2, b3⟩ := qm_ hn hs hr
  obtain ⟨-, c2, c3⟩ := qr_ hn h1 h2 b1 (Nat.le_refl 20)
  have hcs := qA_ hts hn tm hs hr
  have h4 := h.go _ c2 h0 (cdI s, (csT ts tm r).toNat) ((hA _ c2 _ _).2 ⟨r, by rw [c3]; exact b2, by rw [c3, b3], rfl⟩)
  simp only at h4
  omega
 ·obtain ⟨-, c2, c3⟩ := qr_ hn h1 h2 hs (Nat.le_refl 20)
  rcases h.by_ _ c2 h0 with e | ⟨u, hu, hu0, c, hm, e⟩
  ·left
   unfold ngEnds at e
   obtain ⟨t, ht, e⟩ := mem_map.1 e
   rw [mem_range] at ht
   rw [q1 t (by omega)] at e
   have hs2 : Cp ts.length tq (List.replicate ts.length true, (t : Int)) := ⟨by simp, by simp, by simp only; omega⟩
   obtain ⟨-, -, d3⟩ := qr_ hn h1 h2 hs2 (Nat.le_refl 20)
   rw [show cdI (List.replicate ts.length true, (t : Int)) = cdI s by omega, c3] at d3
   unfold ovr
   rw [d3]
   simp
  ·right
   obtain ⟨r, hr, e1, e2⟩ := (hA u hu _ _).1 hm
   obtain ⟨-, p2, p3⟩ := rD_ hn h1 h2 hu rfl (m : Int) (Nat.le_refl 20)
   obtain ⟨b1, b2, b3⟩ := qm_ hn p2 hr
   obtain ⟨-, -, d3⟩ := qr_ hn h1 h2 b1 (Nat.le_refl 20)
   have es : afC (cpI ts.length tq u) r = s := by rw [← d3, ← e1, c3]
   rw [es] at b2 b3
   have hcs := qA_ hts hn tm p2 hr
   refine ⟨r, b2, ?_, ?_⟩
   ·show 0 ≤ d (cdI (afC s r)); rw [b3, p3]; exact hu0
   ·show d (cdI s) = d (cdI (afC s r)) + csT ts tm r; rw [b3, p3, e, e2]; omega
theorem s4_ {ts : List Int} (hn : ts.length ≤ 6) (m : Nat) {tq : Int} (h1 : 1 ≤ tq) (h2 : tq ≤ 2) (tm : Bool) {L : List Int} {k0 : Nat} {r : List Int} (h : impl_graph_int_from.f (edN ts m tq tm) k0 (NN ts.length tq : Int) L = some r) {k : Nat} (hk : k0 ≤ k) (hk2 : 60 ≤ k) : frG (nightG k ts (m : Int) tq tm) k (ngN tq ts.length) L = some r := by
 obtain ⟨-, q2, -⟩ := q1_ hn h1 h2
 have hg : ∀ s : Int, 0 ≤ s → s < (NN ts.length tq : Int) → nightG k ts (m : Int) tq tm s = some (edN ts m tq tm s) := by
  intro s s0 s1
  have := r1_ hn m h1 h2 tm (c := s.toNat) (by omega) hk2
  rwa [Int.toNat_of_nonneg s0] at this
 unfold frG
 rw [q2, if_pos]
 ·have h3 := qf_ (f := fun k => impl_graph_int_from.f (edN ts m tq tm) k (NN ts.length tq : Int) L) (fun k => impl_graph_int_from.mono _ _ _ _) hk h
  have hc : ∀ s, 0 ≤ s → s < (NN ts.length tq : Int) → grE (nightG k ts (m : Int) tq tm) s = edN ts m tq tm s := fun s s0 s1 => by unfold grE; rw [hg s s0 s1]; rfl
  unfold impl_graph_int_from.f at h3 ⊢
  simp only [frRun_congr hc]
  exact h3
 ·unfold grAll
  rw [all_eq_true]
  intro i hi
  rw [mem_range] at hi
  rw [hg (i : Int) (by omega) (by omega)]
  rfl
theorem rQ_ {ts : List Int} (hts : ∀ x ∈ ts, 1 ≤ x ∧ x ≤ 1000) (hn : ts.length ≤ 6) (m : Nat) {tq : Int} (h1 : 1 ≤ tq) (h2 : tq ≤ 2) (tm : Bool) : ∃ k0 r, (∀ k, k0 ≤ k → impl_Night_costs.f k ts (m : Int) tq tm = some r) ∧ r.length = NN ts.length tq ∧ FarX ts.length m tq (csT ts tm) (fun s => dd r (cdI s)) ∧ ∀ s, Cp ts.length tq s → -1 ≤ dd r (cdI s) := by
 obtain ⟨n1, n2⟩ := qR_ hn h1 h2
 obtain ⟨q1, q2, -⟩ := q1_ hn h1 h2
 have hends : ∀ x ∈ ngEnds ts.length (tq + 1).toNat, 0 ≤ x ∧ x < (NN ts.length tq : Int) := by
  intro x hx
  unfold ngEnds at hx
  obtain ⟨t, ht, rfl⟩ := mem_map.1 hx
  rw [mem_range] at ht
  rw [q1 t (by omega)]
  have hs2 : Cp ts.length tq (List.replicate ts.length true, (t : Int)) := ⟨by simp, by simp, by simp only; omega⟩
  have := (qr_ hn h1 h2 hs2 (Nat.le_refl 20)).2.1
  omega
 have h3 : 1000 * NN ts.length tq ≤ 1000 * 192 := Nat.mul_le_mul_left _ n2
 have h4 : 4032 * NN ts.length tq ≤ 4032 * 192 := Nat.mul_le_mul_left _ n2
 obtain ⟨k0, r, hr, hf, hl, hlow, -⟩ := r7_ (s5_ hts hn m h1 h2 tm) hends (B := 3) (by unfold ngEnds; rw [length_map, List.length_range]; omega) n1 (by omega) (by omega) (by omega)
 refine ⟨k0 + 60, r, fun k hk => ?_, hl, sl_ hts hn m h1 h2 tm hf, fun s hs => hlow _ (qr_ hn h1 h2 hs (Nat.le_refl 20)).2.1⟩
 unfold impl_Night_costs.f
 rw [if_pos (by omega), s4_ hn m h1 h2 tm hr (by omega) (by omega), Option.bind_some, if_pos (by omega)]
def rI_ (l : List Int) : Nat := (l.map fun x => if x < 0 then 192001 else x.toNat).sum
theorem rf_ : ∀ {l : List Int} {u : Nat} (a : Int), u < l.length → 0 ≤ a → (dd l u < 0 → a ≤ 192000) → (0 ≤ dd l u → a < dd l u) → rI_ (l.set u a) < rI_ l
 | [], u, a, h, _, _, _ => by simp at h
 | x :: l, 0, a, h, h0, h1, h2 => by
  have e : dd (x :: l) 0 = x := rfl
  rw [e] at h1 h2
  unfold rI_
  rw [List.set_cons_zero, map_cons, map_cons, List.sum_cons, List.sum_cons, if_neg (by omega)]
  by_cases c : x < 0
  ·rw [if_pos c]
   have := h1 c
   omega
  ·rw [if_neg c]
   have := h2 (by omega)
   omega
 | x :: l, u + 1, a, h, h0, h1, h2 => by
  have := rf_ (l := l) (u := u) a (by simpa using h) h0 h1 h2
  unfold rI_ at this ⊢
  rw [List.set_cons_succ, map_cons, map_cons, List.sum_cons, List.sum_cons]
  omega
theorem s0_ (l : List Int) (v : Nat) : rd l (v : Int) = dd l v := rfl
structure LI (ts : List Int) (m : Nat) (tq : Int) (tm : Bool) (x : List Int) : Prop where
 len : x.length = NN ts.length tq
 low : ∀ v, v < NN ts.length tq → -1 ≤ dd x v
 hi : ∀ v, v < NN ts.length tq → dd x v ≤ ((1000 * qo_ x : Nat) : Int)
 st : ∀ s, Cp ts.length tq s → ovr s = true → dd x (cdS tq s) = 0
 by_ : ∀ s, Cp ts.length tq s → 0 ≤ dd x (cdS tq s) → ovr s = true ∨ ∃ r ∈ roL m tq s.1 s.2, 0 ≤ dd x (cdS tq (afC s r)) ∧ dd x (cdS tq (afC s r)) + csT ts tm r ≤ dd x (cdS tq s)
def rU_ (ts : List Int) (tq : Int) (tm : Bool) (x : List Int) (s : List Bool × Int) (r : List (List Int)) : Prop := 0 ≤ dd x (cdS tq (afC s r)) → 0 ≤ dd x (cdS tq s) ∧ dd x (cdS tq s) ≤ dd x (cdS tq (afC s r)) + csT ts tm r
theorem qG_ (x : List Int) : qo_ x ≤ x.length := List.countP_le_length
theorem LI.top {ts : List Int} {m : Nat} {tq : Int} {tm : Bool} {x : List Int} (hn : ts.length ≤ 6) (h1 : 1 ≤ tq) (h2 : tq ≤ 2) (h : LI ts m tq tm x) {v : Nat} (hv : v < NN ts.length tq) : dd x v ≤ 192000 := by
 have h3 := h.hi v hv
 have h4 := qG_ x
 rw [h.len] at h4
 have := (qR_ hn h1 h2).2
 omega
theorem LI.put {ts : List Int} (hts : ∀ x ∈ ts, 1 ≤ x ∧ x ≤ 1000) (hn : ts.length ≤ 6) {m : Nat} {tq : Int} (h1 : 1 ≤ tq) (h2 : tq ≤ 2) {tm : Bool} {x : List Int} (h : LI ts m tq tm x) {s : List Bool × Int} (hs : Cp ts.length tq s) {r : List (List Int)} (hr : r ∈ roL m tq s.1 s.2) (h0 : 0 ≤ dd x (cdS tq (afC s r))) (hc : dd x (cdS tq s) < 0 ∨ dd x (cdS tq (afC s r)) + csT ts tm r < dd x (cdS tq s)) :
  LI ts m tq tm (x.set (cdS tq s) (dd x (cdS tq (afC s r)) + csT ts tm r)) ∧ rI_ (x.set (cdS tq s) (dd x (cdS tq (afC s r)) + csT ts tm r)) < rI_ x := by
 obtain ⟨-, u2, u3⟩ := qc_ hn h1 h2 hs ts 0 (Nat.le_refl 20)
 have hb := (qm_ hn hs hr).1
 obtain ⟨-, v2, v3⟩ := qc_ hn h1 h2 hb ts 0 (Nat.le_refl 20)
 have hcs := qA_ hts hn tm hs hr
 obtain ⟨a, ha⟩ : ∃ a, a = dd x (cdS tq (afC s r)) + csT ts tm r := ⟨_, rfl⟩
 rw [← ha] at hc ⊢
 have hul : cdS tq s < x.length := by rw [h.len]; exact u2
 have hva := h.hi _ v2
 have hset := fun v => qQ_ (dist := x) (u := cdS tq s) a hul v
 have hne : cdS tq (afC s r) ≠ cdS tq s := fun e => by rw [e] at h0 ha; omega
 have hcl := qG_ x
 have hN := (qR_ hn h1 h2).2
 have hst : ovr s = false := by
  cases e : ovr s
  ·rfl
  ·have := h.st s hs e
   omega
 have hcnt : qo_ x ≤ qo_ (x.set (cdS tq s) a) ∧ (dd x (cdS tq s) < 0 → qo_ (x.set (cdS tq s) a) = qo_ x + 1) := by
  by_cases c : dd x (cdS tq s) < 0
  ·have := rk_ hul c (by omega : (0 : Int) ≤ a)
   exact ⟨by omega, fun _ => this⟩
  ·refine ⟨?_, fun q => absurd q c⟩
   have key : ∀ (l : List Int) (u : Nat), u < l.length → 0 ≤ dd l u → qo_ (l.set u a) = qo_ l := by
    intro l
    induction l with
    | nil => intro u hu; simp at hu
    | cons y l ih =>
     intro u hu hq
     cases u with
     | zero =>
      have hy : 0 ≤ y := hq
      unfold qo_
      rw [List.set_cons_zero, countP_cons, countP_cons, if_pos (by simpa using (by omega : (0 : Int) ≤ a)), if_pos (by simpa using hy)]
     | succ u =>
      have := ih u (by simpa using hu) hq
      unfold qo_ at this ⊢
      rw [List.set_cons_succ, countP_cons, countP_cons, this]
   rw [key x _ hul (by omega)]
   exact Nat.le_refl _
 refine ⟨⟨by rw [length_set]; exact h.len, fun v hv => ?_, fun v hv => ?_, fun s' hs' ho => ?_, fun s' hs' h0' => ?_⟩, ?_⟩
 ·rw [hset]
  split
  ·omega
  ·exact h.low v hv
 ·rw [hset]
  have h3 := h.hi v hv
  split
  ·by_cases c : dd x (cdS tq s) < 0
   ·have := hcnt.2 c
    omega
   ·have := h.hi _ u2
    have := hcnt.1
    omega
  ·have := hcnt.1
   omega
 ·rw [hset, if_neg]
  ·exact h.st s' hs' ho
  ·intro e
   obtain ⟨-, -, w3⟩ := qc_ hn h1 h2 hs' ts 0 (Nat.le_refl 20)
   rw [e, u3] at w3
   rw [w3, ho] at hst
   cases hst
 ·have hle : ∀ s2, Cp ts.length tq s2 → 0 ≤ dd x (cdS tq s2) → 0 ≤ dd (x.set (cdS tq s) a) (cdS tq s2) ∧ dd (x.set (cdS tq s) a) (cdS tq s2) ≤ dd x (cdS tq s2) := by
   intro s2 _ q
   rw [hset]
   split
   ·next e => rw [e] at q ⊢; omega
   ·omega
  by_cases c : cdS tq s' = cdS tq s
  ·right
   obtain ⟨-, -, w3⟩ := qc_ hn h1 h2 hs' ts 0 (Nat.le_refl 20)
   rw [c, u3] at w3
   subst w3
   refine ⟨r, hr, ?_, ?_⟩
   ·rw [hset, if_neg hne]; exact h0
   ·rw [hset, hset, if_neg hne, if_pos rfl]; omega
  ·rw [hset, if_neg c] at h0' ⊢
   rcases h.by_ s' hs' h0' with e | ⟨r', hr', q1, q2⟩
   ·exact .inl e
   ·right
    have := hle _ (qm_ hn hs' hr').1 q1
    exact ⟨r', hr', this.1, by omega⟩
 ·refine rf_ a hul (by omega) (fun q => ?_) (fun q => by omega)
  have := hcnt.2 q
  have h5 := qG_ (x.set (cdS tq s) a)
  rw [length_set, h.len] at h5
  omega
theorem sb_ {ts : List Int} (hts : ∀ x ∈ ts, 1 ≤ x ∧ x ≤ 1000) (hn : ts.length ≤ 6) {m : Nat} (se : Int) {tq : Int} (h1 : 1 ≤ tq) (h2 : tq ≤ 2) {cnt : Bool} {x : List Int} (h : LI ts m tq (!cnt) x) (x8 : Bool) {s : List Bool × Int} (hs : Cp ts.length tq s) {L : List (List (List Int))} (hL : L = roL m tq s.1 s.2) {i : Nat} (hi : i < L.length) {r : List (List Int)} (hr : rd_L3 L (i : Int) = r) {k : Nat} (hk : 100 ≤ k) :
  spec_toLeast.l3 (k + 1) cnt x x8 (cdS tq s : Int) (x.length : Int) (cdS tq s : Int) L (L.length : Int) (i : Int) ts se tq s.1 s.2 = if 0 ≤ dd x (cdS tq (afC s r)) ∧ (dd x (cdS tq s) < 0 ∨ dd x (cdS tq (afC s r)) + csT ts (!cnt) r < dd x (cdS tq s)) then
   spec_toLeast.l3 k cnt (x.set (cdS tq s) (dd x (cdS tq (afC s r)) + csT ts (!cnt) r)) true (cdS tq s : Int) (x.length : Int) (cdS tq s : Int) L (L.length : Int) ((i + 1 : Nat) : Int) ts se tq s.1 s.2
   else spec_toLeast.l3 k cnt x x8 (cdS tq s : Int) (x.length : Int) (cdS tq s : Int) L (L.length : Int) ((i + 1 : Nat) : Int) ts se tq s.1 s.2 := by
 have hrm : r ∈ roL m tq s.1 s.2 := by rw [← hr, ← hL]; exact qj_ hi
 obtain ⟨e1, e2, e3⟩ := hs
 have hR := (rd_ (by omega) hrm).1
 have hb := (qm_ hn ⟨e1, e2, e3⟩ hrm).1
 obtain ⟨-, u2, -⟩ := qc_ hn h1 h2 ⟨e1, e2, e3⟩ ts se (Nat.le_refl 20)
 obtain ⟨v1, v2, -⟩ := qc_ hn h1 h2 hb ts se (by omega : 20 ≤ k)
 have hcs := qA_ hts hn (!cnt) ⟨e1, e2, e3⟩ hrm
 have hva := h.top hn h1 h2 v2
 have hul : cdS tq s < x.length := by rw [h.len]; exact u2
 have hvl : cdS tq (afC s r) < x.length := by rw [h.len]; exact v2
 have hLl : L.length ≤ 4032 := by rw [hL]; exact qU_ m tq (by omega) _
 rw [spec_toLeast.l3.eq_2, if_pos (by omega), if_pos (by omega), if_pos (by omega), hr, (rl_ (by omega) e2 (by omega) hR (by omega)).2, Option.bind_some]
 show (Option.bind (spec_toCode.f k ts se tq (afC s r).1 (afC s r).2) _) = _
 rw [v1, Option.bind_some, if_pos (by omega), if_pos (by omega), s0_, qa_ hi (by omega), Int.toNat_natCast, s0_]
 by_cases c : dd x (cdS tq (afC s r)) < 0
 ·rw [if_pos c, if_neg (by omega)]
 ·rw [if_neg c]
  have hw : ∀ q : Int, 1 ≤ q → q ≤ 1000 → wrap64 (dd x (cdS tq (afC s r)) + q) = dd x (cdS tq (afC s r)) + q := fun q a b => qb_ (by omega) (by omega)
  cases cnt
  ·have ec : csT ts (!false) r = tmR ts r := rfl
   rw [ec] at hcs
   rw [if_neg (by decide), rr_ hts se tq (by rw [← e1]; exact hR) (by omega), Option.bind_some, if_pos (by omega), if_pos (by omega), hw _ hcs.1 hcs.2, ec]
   by_cases c2 : dd x (cdS tq s) < 0
   ·rw [if_pos c2, if_pos ⟨by omega, .inl c2⟩]
   ·rw [if_neg c2]
    by_cases c3 : dd x (cdS tq (afC s r)) + tmR ts r < dd x (cdS tq s)
    ·rw [if_pos c3, if_pos ⟨by omega, .inr c3⟩]
    ·rw [if_neg c3, if_neg (by omega)]
  ·have ec : csT ts (!true) r = 1 := rfl
   rw [if_pos rfl, if_pos (by omega), if_pos (by omega), hw 1 (by omega) (by omega), ec]
   by_cases c2 : dd x (cdS tq s) < 0
   ·rw [if_pos c2, if_pos ⟨by omega, .inl c2⟩]
   ·rw [if_neg c2]
    by_cases c3 : dd x (cdS tq (afC s r)) + 1 < dd x (cdS tq s)
    ·rw [if_pos c3, if_pos ⟨by omega, .inr c3⟩]
    ·rw [if_neg c3, if_neg (by omega)]
def Went (x : List Int) (x8 : Bool) (x' : List Int) (x8' : Bool) (Q : Prop) : Prop := (x8' = true ∧ rI_ x' < rI_ x) ∨ (x8' = x8 ∧ x' = x ∧ Q)
theorem sC_ {ts : List Int} (hts : ∀ x ∈ ts, 1 ≤ x ∧ x ≤ 1000) (hn : ts.length ≤ 6) {m : Nat} (se : Int) {tq : Int} (h1 : 1 ≤ tq) (h2 : tq ≤ 2) {cnt : Bool} {s : List Bool × Int} (hs : Cp ts.length tq s) {L : List (List (List Int))} (hL : L = roL m tq s.1 s.2) : ∀ (d i : Nat) (x : List Int) (x8 : Bool), i + d = L.length → LI ts m tq (!cnt) x →
  ∃ x' x8', LI ts m tq (!cnt) x' ∧ Went x x8 x' x8' (∀ r ∈ L.drop i, rU_ ts tq (!cnt) x s r) ∧ ∀ K, 100 ≤ K → spec_toLeast.l3 (K + 1 + d) cnt x x8 (cdS tq s : Int) (x.length : Int) (cdS tq s : Int) L (L.length : Int) (i : Int) ts se tq s.1 s.2 = spec_toLeast.l2 K cnt x' x8' (x'.length : Int) ((cdS tq s + 1 : Nat) : Int) ts se tq := by
 intro d
 induction d with
 | zero =>
  intro i x x8 hi h
  obtain ⟨-, u2, -⟩ := qc_ hn h1 h2 hs ts se (Nat.le_refl 20)
  have hN := (qR_ hn h1 h2).2
  refine ⟨x, x8, h, .inr ⟨rfl, rfl, fun r hr => by rw [List.drop_of_length_le (by omega)] at hr; cases hr⟩, fun K hK => ?_⟩
  rw [show K + 1 + 0 = K + 1 by omega, spec_toLeast.l3.eq_2, if_neg (by omega), qa_ u2 (by omega)]
 | succ d ih =>
  intro i x x8 hi h
  have hlt : i < L.length := by omega
  obtain ⟨r, hr⟩ : ∃ r, rd_L3 L (i : Int) = r := ⟨_, rfl⟩
  have hrm : r ∈ roL m tq s.1 s.2 := by rw [← hr, ← hL]; exact qj_ hlt
  have hD : L.drop i = r :: L.drop (i + 1) := by rw [← hr]; exact qi_ L i hlt []
  have step := fun (k : Nat) (hk : 100 ≤ k) => sb_ hts hn se h1 h2 h x8 hs hL hlt hr hk
  by_cases c : 0 ≤ dd x (cdS tq (afC s r)) ∧ (dd x (cdS tq s) < 0 ∨ dd x (cdS tq (afC s r)) + csT ts (!cnt) r < dd x (cdS tq s))
  ·obtain ⟨p1, p2⟩ := h.put hts hn h1 h2 hs hrm c.1 c.2
   obtain ⟨x', x8', i1, i2, i3⟩ := ih (i + 1) _ true (by omega) p1
   refine ⟨x', x8', i1, ?_, fun K hK => ?_⟩
   ·left
    rcases i2 with ⟨q1, q2⟩ | ⟨q1, q2, -⟩
    ·exact ⟨q1, by omega⟩
    ·exact ⟨q1, by rw [q2]; exact p2⟩
   ·have h3 := i3 K hK
    rw [length_set] at h3
    rw [show K + 1 + (d + 1) = (K + 1 + d) + 1 by omega, step _ (by omega), if_pos c]
    exact h3
  ·obtain ⟨x', x8', i1, i2, i3⟩ := ih (i + 1) x x8 (by omega) h
   refine ⟨x', x8', i1, ?_, fun K hK => ?_⟩
   ·rcases i2 with q | ⟨q1, q2, q3⟩
    ·exact .inl q
    ·refine .inr ⟨q1, q2, fun r' hr' => ?_⟩
     rw [hD] at hr'
     rcases mem_cons.1 hr' with e | e
     ·rw [e]
      intro q
      exact ⟨by omega, by omega⟩
     ·exact q3 r' e
   ·rw [show K + 1 + (d + 1) = (K + 1 + d) + 1 by omega, step _ (by omega), if_neg c]
    exact i3 K hK
theorem sy_ {ts : List Int} (hts : ∀ x ∈ ts, 1 ≤ x ∧ x ≤ 1000) (hn : ts.length ≤ 6) (m : Nat) {tq : Int} (h1 : 1 ≤ tq) (h2 : tq ≤ 2) (cnt : Bool) : ∀ (d i : Nat) (x : List Int) (x8 : Bool), i + d = NN ts.length tq → LI ts m tq (!cnt) x →
  ∃ x' x8' kk, LI ts m tq (!cnt) x' ∧ Went x x8 x' x8' (∀ c, i ≤ c → c < NN ts.length tq → ∀ r ∈ roL m tq (cpS ts.length tq c).1 (cpS ts.length tq c).2, rU_ ts tq (!cnt) x (cpS ts.length tq c) r) ∧ ∀ K, 8000 ≤ K → spec_toLeast.l2 (K + kk) cnt x x8 (x.length : Int) (i : Int) ts (m : Int) tq = spec_toLeast.l1 K cnt x' x8' ts (m : Int) tq := by
 intro d
 induction d with
 | zero =>
  intro i x x8 hi h
  refine ⟨x, x8, 1, h, .inr ⟨rfl, rfl, fun c a b => by omega⟩, fun K hK => ?_⟩
  rw [spec_toLeast.l2.eq_2, if_neg (by rw [h.len]; omega)]
 | succ d ih =>
  intro i x x8 hi h
  have hN := (qR_ hn h1 h2).2
  have hlt : i < NN ts.length tq := by omega
  obtain ⟨-, p2, p3⟩ := rj_ hn h1 h2 hlt rfl (m : Int) (Nat.le_refl 20)
  obtain ⟨x1, b1, j1, j2, j3⟩ := sC_ hts hn (m : Int) h1 h2 (cnt := cnt) p2 (L := roL m tq (cpS ts.length tq i).1 (cpS ts.length tq i).2) rfl _ 0 x x8 (Nat.zero_add _) h
  obtain ⟨x', x8', kk, i1, i2, i3⟩ := ih (i + 1) x1 b1 (by omega) j1
  refine ⟨x', x8', kk + 1 + (roL m tq (cpS ts.length tq i).1 (cpS ts.length tq i).2).length + 1, i1, ?_, fun K hK => ?_⟩
  ·rcases j2 with ⟨q1, q2⟩ | ⟨q1, q2, q3⟩
   ·rcases i2 with ⟨o1, o2⟩ | ⟨o1, o2, -⟩
    ·exact .inl ⟨o1, by omega⟩
    ·exact .inl ⟨o1.trans q1, by rw [o2]; exact q2⟩
   ·subst q1
    subst q2
    rcases i2 with q | ⟨o1, o2, o3⟩
    ·exact .inl q
    ·refine .inr ⟨o1, o2, fun c a b => ?_⟩
     by_cases e : c = i
     ·rw [e]; exact q3
     ·exact o3 c (by omega) b
  ·rw [show K + (kk + 1 + (roL m tq (cpS ts.length tq i).1 (cpS ts.length tq i).2).length + 1) = ((K + kk) + 1 + (roL m tq (cpS ts.length tq i).1 (cpS ts.length tq i).2).length) + 1 by omega, spec_toLeast.l2.eq_2, if_pos (by rw [h.len]; omega), (rj_ hn h1 h2 hlt rfl (m : Int) (by omega)).1, Option.bind_some,
    qT_ p2.2.1 p2.2.2 h2 h1 m p2.1 hn (by omega), Option.bind_some]
   have h3 := j3 (K + kk) (by omega)
   rw [p3] at h3
   rw [← i3 K hK, ← h3]
   rfl
theorem sD_ {ts : List Int} (hts : ∀ x ∈ ts, 1 ≤ x ∧ x ≤ 1000) (hn : ts.length ≤ 6) (m : Nat) {tq : Int} (h1 : 1 ≤ tq) (h2 : tq ≤ 2) (cnt : Bool) : ∀ (P : Nat) (x : List Int), rI_ x ≤ P → LI ts m tq (!cnt) x →
  ∃ k x', spec_toLeast.l1 k cnt x true ts (m : Int) tq = some x' ∧ LI ts m tq (!cnt) x' ∧ ∀ c, c < NN ts.length tq → ∀ r ∈ roL m tq (cpS ts.length tq c).1 (cpS ts.length tq c).2, rU_ ts tq (!cnt) x' (cpS ts.length tq c) r := by
 intro P
 induction P with
 | zero =>
  intro x hP h
  obtain ⟨x', x8', kk, i1, i2, i3⟩ := sy_ hts hn m h1 h2 cnt (NN ts.length tq) 0 x false (by omega) h
  rcases i2 with ⟨q1, q2⟩ | ⟨q1, q2, q3⟩
  ·omega
  ·subst q1
   subst q2
   refine ⟨8000 + kk + 1, x', ?_, h, fun c hc => q3 c (by omega) hc⟩
   rw [spec_toLeast.l1.eq_2, if_pos rfl]
   refine (i3 8000 (by omega)).trans ?_
   rw [spec_toLeast.l1.eq_2, if_neg (by decide)]
 | succ P ih =>
  intro x hP h
  obtain ⟨x', x8', kk, i1, i2, i3⟩ := sy_ hts hn m h1 h2 cnt (NN ts.length tq) 0 x false (by omega) h
  rcases i2 with ⟨q1, q2⟩ | ⟨q1, q2, q3⟩
  ·obtain ⟨k, x2, o1, o2, o3⟩ := ih x' (by omega) i1
   refine ⟨k + 8000 + kk + 1, x2, ?_, o2, o3⟩
   rw [spec_toLeast.l1.eq_2, if_pos rfl]
   refine (i3 (k + 8000) (by omega)).trans ?_
   rw [q1]
   exact qf_ (f := fun k => spec_toLeast.l1 k cnt x' true ts (m : Int) tq) (fun k => (spec_toLeast.mono_l k).2.1 _ _ _ _ _ _) (by omega) o1
  ·subst q1
   subst q2
   refine ⟨8000 + kk + 1, x', ?_, h, fun c hc => q3 c (by omega) hc⟩
   rw [spec_toLeast.l1.eq_2, if_pos rfl]
   refine (i3 8000 (by omega)).trans ?_
   rw [spec_toLeast.l1.eq_2, if_neg (by decide)]
theorem sm_ {x : List Int} {u : Nat} (a b : Int) (hu : u < x.length) (v : Nat) : dd ((x.set u a).set u b) v = if v = u then b else dd x v := by
 rw [qQ_ b (by rw [length_set]; exact hu), qQ_ a hu]
 split <;> rfl
theorem sE_ {ts : List Int} (hn : ts.length ≤ 6) (m : Nat) {tq : Int} (h1 : 1 ≤ tq) (h2 : tq ≤ 2) (cnt : Bool) : ∀ (d i : Nat) (x : List Int), i + d = NN ts.length tq → x.length = NN ts.length tq → (∀ v, v < i → dd x v = if ovr (cpS ts.length tq v) = true then 0 else -1) →
  ∃ x', x'.length = NN ts.length tq ∧ (∀ v, v < NN ts.length tq → dd x' v = if ovr (cpS ts.length tq v) = true then 0 else -1) ∧ ∀ K, 100 ≤ K → spec_toLeast.l0 (K + 1 + d) cnt x (NN ts.length tq : Int) (i : Int) ts (m : Int) tq = spec_toLeast.l1 K cnt x' true ts (m : Int) tq := by
 intro d
 induction d with
 | zero =>
  intro i x hi hl hx
  refine ⟨x, hl, fun v hv => hx v (by omega), fun K hK => ?_⟩
  rw [show K + 1 + 0 = K + 1 by omega, spec_toLeast.l0.eq_2, if_neg (by omega)]
 | succ d ih =>
  intro i x hi hl hx
  have hN := (qR_ hn h1 h2).2
  have hlt : i < NN ts.length tq := by omega
  obtain ⟨-, p2, p3⟩ := rj_ hn h1 h2 hlt rfl (m : Int) (Nat.le_refl 20)
  have hstep : ∀ K, 100 ≤ K → spec_toLeast.l0 (K + 1 + (d + 1)) cnt x (NN ts.length tq : Int) (i : Int) ts (m : Int) tq = if ovr (cpS ts.length tq i) = true then spec_toLeast.l0 (K + 1 + d) cnt ((x.set i (-1)).set i 0) (NN ts.length tq : Int) ((i + 1 : Nat) : Int) ts (m : Int) tq else spec_toLeast.l0 (K + 1 + d) cnt (x.set i (-1)) (NN ts.length tq : Int) ((i + 1 : Nat) : Int) ts (m : Int) tq := by
   intro K hK
   rw [show K + 1 + (d + 1) = (K + 1 + d) + 1 by omega, spec_toLeast.l0.eq_2, if_pos (by omega), if_pos (by omega), if_pos (by omega), Option.bind_some, (rj_ hn h1 h2 hlt rfl (m : Int) (by omega)).1, Option.bind_some, rs_ hn p2.1 _ (by omega), Option.bind_some, qa_ hlt (by omega), Int.toNat_natCast]
   rfl
  cases e : ovr (cpS ts.length tq i)
  ·obtain ⟨x', a1, a2, a3⟩ := ih (i + 1) (x.set i (-1)) (by omega) (by rw [length_set]; exact hl) (fun v hv => by
    rw [qQ_ (-1) (by omega)]
    by_cases q : v = i
    ·rw [if_pos q, q, e]; rfl
    ·rw [if_neg q]; exact hx v (by omega))
   refine ⟨x', a1, a2, fun K hK => ?_⟩
   rw [hstep K hK, e, if_neg (by decide)]
   exact a3 K hK
  ·obtain ⟨x', a1, a2, a3⟩ := ih (i + 1) ((x.set i (-1)).set i 0) (by omega) (by rw [length_set, length_set]; exact hl) (fun v hv => by
    rw [sm_ (-1) 0 (by omega)]
    by_cases q : v = i
    ·rw [if_pos q, q, e]; rfl
    ·rw [if_neg q]; exact hx v (by omega))
   refine ⟨x', a1, a2, fun K hK => ?_⟩
   rw [hstep K hK, e, if_pos rfl]
   exact a3 K hK
theorem rm_ {ts : List Int} (hts : ∀ x ∈ ts, 1 ≤ x ∧ x ≤ 1000) (hn : ts.length ≤ 6) (m : Nat) {tq : Int} (h1 : 1 ≤ tq) (h2 : tq ≤ 2) (cnt : Bool) : ∃ k0 r, (∀ k, k0 ≤ k → spec_toLeast.f k ts (m : Int) tq cnt = some r) ∧ r.length = NN ts.length tq ∧ FarX ts.length m tq (csT ts (!cnt)) (fun s => dd r (cdS tq s)) ∧ ∀ s, Cp ts.length tq s → -1 ≤ dd r (cdS tq s) := by
 obtain ⟨n1, n2⟩ := qR_ hn h1 h2
 obtain ⟨-, -, q3, -⟩ := q1_ hn h1 h2
 obtain ⟨x0, l0, d0, e0⟩ := sE_ hn m h1 h2 cnt (NN ts.length tq) 0 (List.replicate (NN ts.length tq) 0) (by omega) (by simp) (fun v hv => by omega)
 have hcS : ∀ s, Cp ts.length tq s → cdS tq s < NN ts.length tq ∧ cpS ts.length tq (cdS tq s) = s := fun s hs => (qc_ hn h1 h2 hs ts 0 (Nat.le_refl 20)).2
 have hdv : ∀ v, v < NN ts.length tq → dd x0 v = 0 ∨ dd x0 v = -1 := fun v hv => by
  rw [d0 v hv]
  split
  ·exact .inl rfl
  ·exact .inr rfl
 have hLI : LI ts m tq (!cnt) x0 := by
  refine ⟨l0, fun v hv => by have := hdv v hv; omega, fun v hv => by have := hdv v hv; omega, fun s hs ho => ?_, fun s hs h0 => ?_⟩
  ·rw [d0 _ (hcS s hs).1, (hcS s hs).2, ho]; rfl
  ·rw [d0 _ (hcS s hs).1, (hcS s hs).2] at h0
   left
   cases e : ovr s
   ·rw [e] at h0; exact absurd h0 (by decide)
   ·rfl
 obtain ⟨k, r, hr, hI, hq⟩ := sD_ hts hn m h1 h2 cnt (rI_ x0) x0 (Nat.le_refl _) hLI
 have hgo : ∀ s, Cp ts.length tq s → ∀ r' ∈ roL m tq s.1 s.2, rU_ ts tq (!cnt) r s r' := by
  intro s hs r' hr'
  have := hq (cdS tq s) (hcS s hs).1 r'
  rw [(hcS s hs).2] at this
  exact this hr'
 refine ⟨k + 100 + 1 + NN ts.length tq, r, fun k' hk' => ?_, hI.len, ⟨hI.st, fun s hs r' hr' h0 => hgo s hs r' hr' h0, fun s hs h0 => ?_⟩, fun s hs => hI.low _ (hcS s hs).1⟩
 ·have h3 : spec_toLeast.l0 (k + 100 + 1 + NN ts.length tq) cnt (List.replicate (NN ts.length tq) 0) (NN ts.length tq : Int) ((0 : Nat) : Int) ts (m : Int) tq = some r := by
   rw [e0 (k + 100) (by omega)]
   exact qf_ (f := fun k => spec_toLeast.l1 k cnt x0 true ts (m : Int) tq) (fun k => (spec_toLeast.mono_l k).2.1 _ _ _ _ _ _) (by omega) hr
  have h4 := qf_ (f := fun k => spec_toLeast.l0 k cnt (List.replicate (NN ts.length tq) 0) (NN ts.length tq : Int) ((0 : Nat) : Int) ts (m : Int) tq) (fun k => (spec_toLeast.mono_l k).1 _ _ _ _ _ _ _) hk' h3
  unfold spec_toLeast.f
  rw [q3, if_pos (by omega), if_pos (by omega), Option.bind_some, Int.toNat_natCast, List.length_replicate]
  exact h4
 ·rcases hI.by_ s hs h0 with e | ⟨r', hr', q1, q2⟩
  ·exact .inl e
  ·have := (hgo s hs r' hr' q1).2
   exact .inr ⟨r', hr', q1, by show dd r (cdS tq s) = dd r (cdS tq (afC s r')) + csT ts (!cnt) r'; omega⟩
theorem q6_ {l : List Int} {s t : Int} {b : Nat} (hb : b ≤ 1048576) (hn : l.length ≤ 9223372036854775807) : laws_szNight.f l s t (b : Int) = some (if l.length ≤ b then ((b - l.length : Nat) : Int) else -1) := by
 unfold laws_szNight.f laws_szIntS.f
 rw [qb_ (by omega) (by omega)]
 by_cases h : l.length ≤ b
 ·rw [if_neg (by omega), Option.bind_some, if_neg (by omega), if_pos h]
  congr 1
  omega
 ·rw [if_pos (by omega), Option.bind_some, if_pos (by omega), if_neg h]
theorem q5_ {l : List Int} (hn : l.length ≤ 1048576) (s t : Int) {k : Nat} (hk : l.length < k) : laws_toNight.f k l s t = some (l, s, t) := by
 unfold laws_toNight.f
 rw [ru_ hn hk]
 rfl
theorem rB_ {ts : List Int} {se tq : Int} (hg : qn_ ts se tq = true) (tm cnt : Bool) (hc : cnt = !tm) : ∃ k0 r r', (∀ k, k0 ≤ k → impl_Night_costs.f k ts se tq tm = some r ∧ spec_toLeast.f k ts se tq cnt = some r') ∧ r.length = NN ts.length tq ∧ r'.length = NN ts.length tq ∧ ∀ s, Cp ts.length tq s → dd r (cdI s) = dd r' (cdS tq s) := by
 obtain ⟨g1, g2, g3, g4, g5, g6, g7⟩ := qL_ hg
 have hm : se = ((se.toNat : Nat) : Int) := by omega
 obtain ⟨k1, r, a1, a2, a3, a4⟩ := rQ_ g1 g3 se.toNat g6 g7 tm
 obtain ⟨k2, r', b1, b2, b3, b4⟩ := rm_ g1 g3 se.toNat g6 g7 cnt
 rw [hc, Bool.not_not] at b3
 rw [← hm] at a1 b1
 refine ⟨k1 + k2, r, r', fun k hk => ⟨a1 k (by omega), b1 k (by omega)⟩, a2, b2, fun s hs => ?_⟩
 exact FarX.eq g3 (fun s hs r hr => (qA_ g1 g3 tm hs hr).1) a3 b3 a4 b4 hs
def s9_ (a : Int) : Int × Bool := if a < 0 then (0, false) else (a, true)
theorem so_ (a : Int) : (mx a 0, decide (0 ≤ a)) = s9_ a := by
 unfold s9_ mx
 by_cases c : a < 0
 ·rw [if_pos c, if_pos c, decide_eq_false (by omega)]
 ·rw [if_neg c, if_neg c, decide_eq_true (by omega)]
theorem q9_ {ts : List Int} {se tq : Int} (hg : qn_ ts se tq = true) (tm cnt : Bool) (hc : cnt = !tm) : ∃ k0 a, ∀ k, k0 ≤ k → impl_Night_least.f k ts se tq tm = some (s9_ a) ∧ ∃ r', spec_toLeast.f k ts se tq cnt = some r' ∧ (0 : Int) < (r'.length : Int) ∧ rd r' 0 = a := by
 obtain ⟨g1, g2, g3, g4, g5, g6, g7⟩ := qL_ hg
 obtain ⟨k0, r, r', h1, h2, h3, h4⟩ := rB_ hg tm cnt hc
 obtain ⟨-, -, -, q4, q5⟩ := q1_ g3 g6 g7
 have h5 := h4 (List.replicate ts.length false, 0) ⟨by simp, by simp, by simp only; omega⟩
 rw [q4, q5] at h5
 have n1 := (qR_ g3 g6 g7).1
 refine ⟨k0, dd r 0, fun k hk => ⟨?_, r', (h1 k hk).2, by omega, h5.symm⟩⟩
 unfold impl_Night_least.f
 rw [qu_, hg, Option.bind_some, if_pos rfl, (h1 k hk).1, Option.bind_some]
 exact congrArg some (so_ (dd r 0))
theorem both {l : List Int} (hl : l.length ≤ 1048576) (s t : Int) : ∃ k0, ∀ k, k0 ≤ k → ∃ x, spec_TorchGain.f k l s t = some x ∧ impl_TorchGain.f k l s t = some x := by
 cases hg : qn_ l s t
 ·refine ⟨l.length + 1, fun k hk => ⟨(0, false), ?_, ?_⟩⟩
  ·unfold spec_TorchGain.f
   rw [qI_ (by omega) s t (by omega), hg, Option.bind_some, if_neg (by decide)]
  ·unfold impl_TorchGain.f
   rw [qu_, hg, Option.bind_some, if_neg (by decide)]
 ·have hg1 : qn_ l s 1 = true := by unfold qn_ at hg ⊢; simp only [Bool.and_eq_true] at hg ⊢; exact ⟨hg.1, hg.2.1, hg.2.2.1, by decide⟩
  have hg2 : qn_ l s 2 = true := by unfold qn_ at hg ⊢; simp only [Bool.and_eq_true] at hg ⊢; exact ⟨hg.1, hg.2.1, hg.2.2.1, by decide⟩
  obtain ⟨k1, a, h1⟩ := q9_ hg1 true false rfl
  obtain ⟨k2, b, h2⟩ := q9_ hg2 true false rfl
  refine ⟨k1 + k2 + l.length + 1, fun k hk => ⟨if a < 0 then (0, false) else if b < 0 then (0, false) else (wrap64 (a - b), true), ?_, ?_⟩⟩
  ·obtain ⟨-, r1, e1, e2, e3⟩ := h1 k (by omega)
   obtain ⟨-, r2, f1, f2, f3⟩ := h2 k (by omega)
   unfold spec_TorchGain.f
   rw [qI_ (by omega) s t (by omega), hg, Option.bind_some, if_pos rfl, e1, Option.bind_some, if_pos e2, f1, Option.bind_some, if_pos f2, e3, f3]
   split
   ·rfl
   ·split <;> rfl
  ·unfold impl_TorchGain.f
   rw [qu_, hg, Option.bind_some, if_pos rfl, (h1 k (by omega)).1, Option.bind_some, (h2 k (by omega)).1, Option.bind_some]
   unfold s9_
   by_cases c : a < 0
   ·rw [if_pos c, if_neg (by decide), if_pos c]
   ·rw [if_neg c, if_pos rfl, if_neg c]
    by_cases c2 : b < 0
    ·rw [if_pos c2, if_neg (by decide), if_pos c2]
    ·rw [if_neg c2, if_pos rfl, if_neg c2]
theorem pure : ∀ (l0_0 : List Int) (a0_1 : Int) (a0_2 : Int), (∀ y0 ∈ l0_0, Opn.okI y0) → l0_0.length ≤ 9223372036854775807 → Opn.okI a0_1 → Opn.okI a0_2 → ∃ k, laws_FnExactTorchGain.f k l0_0 a0_1 a0_2 = some true := by
 intro l s t _ hl _ _
 by_cases h1 : l.length ≤ 1048576
 ·obtain ⟨k0, hk0⟩ := both h1 s t
  refine ⟨k0 + l.length + 5 + 1, ?_⟩
  obtain ⟨x, e1, e2⟩ := hk0 (k0 + l.length + 5 + 1) (by omega)
  unfold laws_FnExactTorchGain.f
  rw [show (1048576 : Int) = ((1048576 : Nat) : Int) by rfl, q6_ (Nat.le_refl _) hl, Option.bind_some, if_pos h1, if_neg (by omega), q5_ h1 s t (by omega)]
  simp only [Option.bind_some, e1, e2]
  rw [if_pos trivial]
  simp only [laws_FnExactTorchGain.j0]
  rw [if_neg (by simp), q5_ h1 s t (by omega)]
  simp only [Option.bind_some]
  rw [rq_ hl s t (by omega), Option.bind_some, if_pos rfl]
 ·refine ⟨1, ?_⟩
  unfold laws_FnExactTorchGain.f
  rw [show (1048576 : Int) = ((1048576 : Nat) : Int) by rfl, q6_ (Nat.le_refl _) hl, Option.bind_some, if_neg h1, if_pos (by omega)]
end Go.Proofs.Ytmdbhpbogbekmaa.fnExactTorchGain
