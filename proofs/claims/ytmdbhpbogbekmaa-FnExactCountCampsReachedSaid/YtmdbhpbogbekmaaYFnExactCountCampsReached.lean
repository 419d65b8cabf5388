/- FnExactCountCampsReached, the plain statement: what the printed functions compute makes the law's function return true. Conditions: the numbers are of their kind. -/
import Derived.Test.YtmdbhpbogbekmaaOpn
import Derived.Test.YtmdbhpbogbekmaaQNtx18
namespace Go.Proofs.Ytmdbhpbogbekmaa.fnExactCountCampsReached
open Go.RowKit Go.Proofs.YtmdbhpbogbekmaaW.PrintWords Go.Proofs.YtmdbhpbogbekmaaW.PrintLast Go.Proofs.YtmdbhpbogbekmaaW.PrintMore Go.Proofs.Ytmdbhpbogbekmaa.QNt
set_option linter.unusedVariables false
set_option linter.unusedSimpArgs false

def inB (x a b : Int) : Bool := decide (a ≤ x) && decide (x ≤ b)
theorem inB_true {x a b : Int} : inB x a b = true ↔ a ≤ x ∧ x ≤ b := by simp [inB]
theorem qb_ {n : Int} (h0 : -9223372036854775808 ≤ n) (h1 : n ≤ 9223372036854775807) : wrap64 n = n := by
 unfold wrap64
 omega
theorem qa_ {i n : Nat} (h : i < n) (hn : n ≤ 9223372036854775807) : wrap64 ((i : Int) + 1) = ((i + 1 : Nat) : Int) := by
 unfold wrap64
 omega
theorem qL_ {α : Type} (l : List α) (i : Nat) (h : i < l.length) (z : α) : l.take (i + 1) = l.take i ++ [l.getD i z] := by
 rw [List.take_succ_eq_append_getElem h, List.getD_eq_getElem?_getD, List.getElem?_eq_getElem h]
 rfl
theorem qd_ {α : Type} (l : List α) (i : Nat) (h : i < l.length) (z : α) : l.drop i = l.getD i z :: l.drop (i + 1) := by
 rw [List.drop_eq_getElem_cons h, List.getD_eq_getElem?_getD, List.getElem?_eq_getElem h]
 rfl
theorem rE_ {α : Type} (l : List α) (i : Nat) (h : i < l.length) (v : α) : (l.set i v).take (i + 1) = l.take i ++ [v] := by
 rw [List.take_succ_eq_append_getElem (by rw [List.length_set]; exact h), List.take_set_of_le (Nat.le_refl i), List.getElem_set_self]
theorem qe_ {k d : Nat} (h : d < k) : ∃ m, k = m + 1 := ⟨k - 1, by omega⟩
theorem qm_ (x a b : Int) : spec_l1In.f x a b = some (inB x a b) := by
 unfold spec_l1In.f inB
 by_cases h : a ≤ x <;> simp [h]
theorem sq_ (x a b : Int) : impl_in.f x a b = some (inB x a b) := by
 unfold impl_in.f inB
 by_cases h : a ≤ x <;> simp [h]
theorem rp_ {l : List Int} (hn : l.length ≤ 9223372036854775807) : ∀ (d k i : Nat) (x : List Int), i + d = l.length → x.length = l.length → x.take i = l.take i → d < k → laws_toIntS.l0 k l x (i : Int) = some l := by
 intro d
 induction d with
 | zero =>
  intro k i x hi hx ht hk
  obtain ⟨k, rfl⟩ := qe_ hk
  simp only [laws_toIntS.l0]
  rw [if_neg (by omega)]
  rw [show i = l.length by omega, List.take_length, ← hx, List.take_length] at ht
  rw [ht]
 | succ d ih =>
  intro k i x hi hx ht hk
  obtain ⟨k, rfl⟩ := qe_ hk
  have hlt : i < l.length := by omega
  simp only [laws_toIntS.l0]
  rw [if_pos (by omega), if_pos (by omega), if_pos (by omega), qa_ hlt hn]
  refine ih k (i + 1) _ (by omega) (by rw [List.length_set]; exact hx) ?_ (by omega)
  rw [Int.toNat_natCast, rE_ _ _ (by omega), ht, qL_ l i hlt 0]
  rfl
theorem rq_ {l : List Int} (hn : l.length ≤ 1048576) {k : Nat} (hk : l.length < k) : laws_toIntS.f k l = some l := by
 unfold laws_toIntS.f
 rw [if_pos (by omega), if_pos (by omega)]
 exact rp_ (by omega) l.length k 0 _ (by omega) (by simp) (by simp) hk
theorem r5_ {l : List Int} (hn : l.length ≤ 9223372036854775807) : ∀ (d k i : Nat), i + d = l.length → d < k → laws_eqIntS.l0 k l l (i : Int) = some true := by
 intro d
 induction d with
 | zero =>
  intro k i hi hk
  obtain ⟨k, rfl⟩ := qe_ hk
  simp only [laws_eqIntS.l0]
  rw [if_neg (by omega)]
 | succ d ih =>
  intro k i hi hk
  obtain ⟨k, rfl⟩ := qe_ hk
  have hlt : i < l.length := by omega
  simp only [laws_eqIntS.l0]
  rw [if_pos (by omega), if_pos (by omega), if_pos (by omega), if_pos trivial, qa_ hlt hn]
  exact ih k (i + 1) (by omega) (by omega)
theorem r6_ {l : List Int} (hn : l.length ≤ 9223372036854775807) {k : Nat} (hk : l.length < k) : laws_eqIntS.f k l l = some true := by
 unfold laws_eqIntS.f
 rw [if_pos rfl]
 exact r5_ hn l.length k 0 (by omega) hk
theorem rG_ {l : List Int} (hn : l.length ≤ 9223372036854775807) (a b : Int) : ∀ (d k i : Nat), i + d = l.length → d < k → spec_l1All.l0 k a b l (l.length : Int) (i : Int) = some ((l.drop i).all fun x => inB x a b) := by
 intro d
 induction d with
 | zero =>
  intro k i hi hk
  obtain ⟨k, rfl⟩ := qe_ hk
  simp only [spec_l1All.l0]
  rw [if_neg (by omega), show i = l.length by omega, List.drop_length]
  rfl
 | succ d ih =>
  intro k i hi hk
  obtain ⟨k, rfl⟩ := qe_ hk
  have hlt : i < l.length := by omega
  simp only [spec_l1All.l0]
  rw [if_pos (by omega), if_pos (by omega), if_pos (by omega), qm_, Option.bind_some, qa_ hlt hn, ih k (i + 1) (by omega) (by omega), qd_ l i hlt 0, List.all_cons]
  show (if inB (l.getD i 0) a b = true then _ else _) = _
  cases inB (l.getD i 0) a b <;> simp
theorem rH_ {l : List Int} (hn : l.length ≤ 9223372036854775807) (a b : Int) {k : Nat} (hk : l.length < k) : spec_l1All.f k l a b = some (l.all fun x => inB x a b) := by
 unfold spec_l1All.f
 exact rG_ hn a b l.length k 0 (by omega) hk
theorem rM_ (l : List Int) (a b c d : Int) : impl_areIn.f l a b c d = some (inB (l.length : Int) c d && l.all fun x => inB x a b) := by
 unfold impl_areIn.f inB
 simp [List.not_any_eq_all_not]
def qs_ (l : List Int) (s t : Int) : Bool := inB (l.length : Int) 1 6 && ((l.all fun x => inB x 1 1000) && (inB s 1 3 && inB t 1 2))
theorem qF_ {l : List Int} (hn : l.length ≤ 9223372036854775807) (s t : Int) {k : Nat} (hk : l.length < k) : spec_toGood.f k l s t = some (qs_ l s t) := by
 unfold spec_toGood.f qs_
 rw [qm_, rH_ hn 1 1000 hk, qm_, qm_]
 simp only [Option.bind_some]
 cases inB (l.length : Int) 1 6 <;> cases (l.all fun x => inB x 1 1000) <;> cases inB s 1 3 <;> simp
theorem q7_ (l : List Int) (s t : Int) : impl_IsNight.f l s t = some (qs_ l s t) := by
 unfold impl_IsNight.f qs_
 rw [rM_, sq_, sq_]
 simp only [Option.bind_some]
 cases inB (l.length : Int) 1 6 <;> cases (l.all fun x => inB x 1 1000) <;> cases inB s 1 3 <;> simp
theorem rm_ {l : List Int} (hn : l.length ≤ 9223372036854775807) (s t : Int) {k : Nat} (hk : l.length < k) : laws_eqNight.f k l s t l s t = some true := by
 unfold laws_eqNight.f
 rw [r6_ hn hk]
 simp
theorem qI_ {l : List Int} {s t : Int} (hg : qs_ l s t = true) : (∀ x ∈ l, 1 ≤ x ∧ x ≤ 1000) ∧ 1 ≤ l.length ∧ l.length ≤ 6 ∧ 1 ≤ s ∧ s ≤ 3 ∧ 1 ≤ t ∧ t ≤ 2 := by
 unfold qs_ at hg
 simp only [Bool.and_eq_true] at hg
 obtain ⟨g1, g2, g3, g4⟩ := hg
 have hx : ∀ x ∈ l, 1 ≤ x ∧ x ≤ 1000 := fun x h => inB_true.1 (List.all_eq_true.1 g2 x h)
 rw [inB_true] at g1 g3 g4
 exact ⟨hx, by omega⟩
def q0_ : List Int → List Int → List (List Int)
 | [], _ => []
 | x :: P, l => (l ++ [x]) :: (q0_ P (l ++ [x]) ++ q0_ P l)
theorem qi_ {g : List Int} : ∀ (P l : List Int), g ∈ q0_ P l ↔ ∃ s, s ≠ [] ∧ s.Sublist P ∧ g = l ++ s
 | [], l => by
  simp only [q0_, List.not_mem_nil, List.sublist_nil, false_iff]
  rintro ⟨s, h1, h2, -⟩
  exact h1 h2
 | x :: P, l => by
  simp only [q0_, List.mem_cons, List.mem_append, qi_ P]
  constructor
  ·rintro (h | ⟨s, h1, h2, h3⟩ | ⟨s, h1, h2, h3⟩)
   ·exact ⟨[x], by simp, List.Sublist.cons_cons x (List.nil_sublist P), h⟩
   ·exact ⟨x :: s, by simp, List.Sublist.cons_cons x h2, by rw [h3, List.append_assoc]; rfl⟩
   ·exact ⟨s, h1, List.Sublist.cons x h2, h3⟩
  ·rintro ⟨s, h1, h2, h3⟩
   cases h2 with
   | cons _ h => exact .inr (.inr ⟨s, h1, h, h3⟩)
   | cons_cons _ h =>
    rename_i s'
    by_cases e : s' = []
    ·left; rw [h3, e]
    ·right; left
     exact ⟨s', e, h, by rw [h3, List.append_assoc]; rfl⟩
theorem qq_ : ∀ (P l : List Int), P.Nodup → (q0_ P l).Nodup
 | [], _, _ => by simp [q0_]
 | x :: P, l, h => by
  obtain ⟨h1, h2⟩ := List.nodup_cons.1 h
  simp only [q0_, List.nodup_cons, List.mem_append, qi_]
  refine ⟨?_, ?_⟩
  ·rintro (⟨s, a, b, c⟩ | ⟨s, a, b, c⟩)
   ·exact a (List.append_cancel_left ((List.append_nil _).trans c)).symm
   ·have : [x] = s := List.append_cancel_left c
    rw [← this] at b
    exact h1 (b.subset (by simp))
  ·rw [List.nodup_append]
   refine ⟨qq_ P _ h2, qq_ P _ h2, fun g hg g' hg' e => ?_⟩
   obtain ⟨s, a, b, c⟩ := (qi_ P _).1 hg
   obtain ⟨s', a', b', c'⟩ := (qi_ P _).1 hg'
   rw [c, c', List.append_assoc] at e
   have : [x] ++ s = s' := List.append_cancel_left e
   rw [← this] at b'
   exact h1 (b'.subset (by simp))
theorem qt_ : ∀ (P l : List Int), (q0_ P l).length + 1 = 2 ^ P.length
 | [], _ => rfl
 | x :: P, l => by
  have h1 := qt_ P (l ++ [x])
  have h2 := qt_ P l
  simp only [q0_, List.length_cons, List.length_append, Nat.pow_succ]
  omega
def qn_ (o : List Bool) (t : Bool) : List Int := ((List.range o.length).filter fun i => o.getD i false == t).map fun i : Nat => (i : Int)
theorem qT_ (o : List Bool) (t : Bool) : (qn_ o t).Nodup := by
 unfold qn_
 exact List.Pairwise.map _ (fun (a b : Nat) (h : a ≠ b) (e : (a : Int) = (b : Int)) => h (by omega)) (List.Pairwise.filter _ List.nodup_range)
theorem qJ_ (o : List Bool) (t : Bool) : (qn_ o t).length ≤ o.length := by
 unfold qn_
 rw [List.length_map]
 have := List.length_filter_le (fun i => o.getD i false == t) (List.range o.length)
 rwa [List.length_range] at this
def mvO (o : List Bool) (t : Bool) (g : List Int) : List Bool := g.foldl (fun o x => o.set x.toNat (!t)) o
theorem rZ_ (t : Bool) : ∀ (g : List Int) (o : List Bool), (mvO o t g).length = o.length
 | [], _ => rfl
 | x :: g, o => by
  show (mvO (o.set x.toNat (!t)) t g).length = _
  rw [rZ_ t g, List.length_set]
theorem sa_ (t : Bool) : ∀ (g : List Int) (o : List Bool), (∀ x ∈ g, 0 ≤ x ∧ x < (o.length : Int)) → ∀ i : Nat, i < o.length → (mvO o t g).getD i false = if (i : Int) ∈ g then !t else o.getD i false
 | [], o, _, i, _ => by simp [mvO]
 | x :: g, o, h, i, hi => by
  have hx := h x (by simp)
  show (mvO (o.set x.toNat (!t)) t g).getD i false = _
  rw [sa_ t g _ (fun y hy => by rw [List.length_set]; exact h y (by simp [hy])) i (by rw [List.length_set]; exact hi)]
  have hs : (o.set x.toNat (!t)).getD i false = if (i : Int) = x then !t else o.getD i false := by
   rw [List.getD_eq_getElem?_getD, List.getD_eq_getElem?_getD, List.getElem?_set]
   by_cases e : x.toNat = i
   ·rw [if_pos e, if_pos (by omega), if_pos (by omega)]; rfl
   ·rw [if_neg e, if_neg (by omega)]
  rw [hs]
  by_cases e : (i : Int) ∈ g
  ·rw [if_pos e, if_pos (List.mem_cons_of_mem _ e)]
  ·rw [if_neg e]
   by_cases q : (i : Int) = x
   ·rw [if_pos q, if_pos (by rw [q]; exact List.mem_cons_self)]
   ·rw [if_neg q, if_neg (by simp [q, e])]
theorem rz_ {a b : List Bool} (h : a.length = b.length) (h2 : ∀ i : Nat, i < a.length → a.getD i false = b.getD i false) : a = b := by
 apply List.ext_getElem h
 intro i h3 h4
 have := h2 i h3
 rwa [List.getD_eq_getElem?_getD, List.getD_eq_getElem?_getD, List.getElem?_eq_getElem h3, List.getElem?_eq_getElem h4] at this
def qc_ (m : Nat) : List Int → List Int → List (List Int)
 | [], _ => []
 | x :: P, l => if l.length < m then (l ++ [x]) :: (qc_ m P (l ++ [x]) ++ qc_ m P l) else []
theorem qg_ (m : Nat) : ∀ (P l : List Int), (qc_ m P l).Sublist (q0_ P l)
 | [], _ => List.Sublist.refl _
 | x :: P, l => by
  unfold qc_ q0_
  split
  ·exact List.Sublist.cons_cons _ (List.Sublist.append (qg_ m P _) (qg_ m P _))
  ·exact List.nil_sublist _
theorem q4_ {m : Nat} (P : List Int) {l : List Int} (h : ¬ l.length < m) : qc_ m P l = [] := by
 cases P with
 | nil => rfl
 | cons x P => exact if_neg h
theorem qy_ {g : List Int} (m : Nat) : ∀ (P l : List Int), g ∈ qc_ m P l ↔ g ∈ q0_ P l ∧ g.length ≤ m
 | [], l => by simp [qc_, q0_]
 | x :: P, l => by
  by_cases h : l.length < m
  ·unfold qc_
   rw [if_pos h]
   simp only [q0_, List.mem_cons, List.mem_append, qy_ m P]
   constructor
   ·rintro (e | e | e)
    ·exact ⟨.inl e, by rw [e, List.length_append, List.length_singleton]; omega⟩
    ·exact ⟨.inr (.inl e.1), e.2⟩
    ·exact ⟨.inr (.inr e.1), e.2⟩
   ·rintro ⟨e | e | e, q⟩
    ·exact .inl e
    ·exact .inr (.inl ⟨e, q⟩)
    ·exact .inr (.inr ⟨e, q⟩)
  ·rw [q4_ _ h]
   constructor
   ·intro e; cases e
   ·rintro ⟨e, q⟩
    obtain ⟨s, h1, -, h3⟩ := (qi_ _ _).1 e
    rw [h3, List.length_append] at q
    have := List.length_pos_iff.2 h1
    omega
theorem qw_ (m : Nat) (P l : List Int) : (qc_ m P l).length + 1 ≤ 2 ^ P.length := by
 have h1 := qt_ P l
 have h2 := (qg_ m P l).length_le
 omega
theorem rj_ {x0 : List Int} (h0 : x0.length ≤ 8) (m : Nat) : ∀ (d : Nat), (∀ (k i : Nat) (l : List Int) (acc : List (List Int)), i + d = x0.length → 3 * d + 1 ≤ k → l.length < m → l.length + d ≤ x0.length → acc.length + 2 ^ d ≤ 1000000 → spec_paGroups.l0 k x0 l (m : Int) acc (i : Int) = some (acc ++ qc_ m (x0.drop i) l)) ∧
  ∀ (k i : Nat) (l : List Int), i + d = x0.length → 3 * d + 3 ≤ k → l.length ≤ m → l.length + d ≤ x0.length → spec_paGroups.f k x0 l (i : Int) (m : Int) = some ((if (l.length : Int) > 0 then [l] else []) ++ qc_ m (x0.drop i) l) := by
 have J : ∀ (d : Nat), (∀ (k i : Nat) (l : List Int) (acc : List (List Int)), i + d = x0.length → 3 * d + 1 ≤ k → l.length < m → l.length + d ≤ x0.length → acc.length + 2 ^ d ≤ 1000000 → spec_paGroups.l0 k x0 l (m : Int) acc (i : Int) = some (acc ++ qc_ m (x0.drop i) l)) →
   ∀ (k i : Nat) (l : List Int), i + d = x0.length → 3 * d + 3 ≤ k → l.length ≤ m → l.length + d ≤ x0.length → spec_paGroups.f k x0 l (i : Int) (m : Int) = some ((if (l.length : Int) > 0 then [l] else []) ++ qc_ m (x0.drop i) l) := by
  intro d A k i l hi hk hm hl
  have hd8 : 2 ^ d ≤ 2 ^ 8 := Nat.pow_le_pow_right (by decide) (by omega)
  obtain ⟨k, rfl⟩ := qe_ (d := 0) (by omega : 0 < k)
  obtain ⟨k, rfl⟩ := qe_ (d := 0) (by omega : 0 < k)
  have hj : ∀ acc : List (List Int), acc.length ≤ 1 → spec_paGroups.j0 (k + 1) x0 l (i : Int) (m : Int) acc = some (acc ++ qc_ m (x0.drop i) l) := by
   intro acc ha
   simp only [spec_paGroups.j0]
   by_cases e : l.length < m
   ·rw [if_neg (by omega), A k i l acc hi (by omega) e (by omega) (by omega)]
   ·rw [if_pos (by omega), q4_ _ e, List.append_nil]
  rw [spec_paGroups.f.eq_2]
  unfold spec_l1Own.f
  by_cases e : (l.length : Int) > 0
  ·rw [if_pos e, if_pos e]
   simp only [Option.bind_some, List.nil_append, List.length_nil, List.length_singleton]
   rw [if_pos (by omega), Option.bind_some, if_pos (by omega)]
   exact hj [l] (by simp)
  ·rw [if_neg e, if_neg e]
   exact hj [] (by simp)
 intro d
 induction d with
 | zero =>
  have A : ∀ (k i : Nat) (l : List Int) (acc : List (List Int)), i + 0 = x0.length → 3 * 0 + 1 ≤ k → l.length < m → l.length + 0 ≤ x0.length → acc.length + 2 ^ 0 ≤ 1000000 → spec_paGroups.l0 k x0 l (m : Int) acc (i : Int) = some (acc ++ qc_ m (x0.drop i) l) := by
   intro k i l acc hi hk hm hl ha
   obtain ⟨k, rfl⟩ := qe_ (d := 0) (by omega : 0 < k)
   simp only [spec_paGroups.l0]
   rw [if_neg (by omega), show i = x0.length by omega, List.drop_length]
   simp [qc_]
  exact ⟨A, J 0 A⟩
 | succ d ih =>
  have A : ∀ (k i : Nat) (l : List Int) (acc : List (List Int)), i + (d + 1) = x0.length → 3 * (d + 1) + 1 ≤ k → l.length < m → l.length + (d + 1) ≤ x0.length → acc.length + 2 ^ (d + 1) ≤ 1000000 → spec_paGroups.l0 k x0 l (m : Int) acc (i : Int) = some (acc ++ qc_ m (x0.drop i) l) := by
   intro k i l acc hi hk hm hl ha
   obtain ⟨k, rfl⟩ := qe_ (d := 0) (by omega : 0 < k)
   have hlt : i < x0.length := by omega
   have e2 : 2 ^ (d + 1) = 2 ^ d + 2 ^ d := by rw [Nat.pow_succ]; omega
   have hsl := qw_ m (x0.drop (i + 1)) (l ++ [rd x0 (i : Int)])
   rw [List.length_drop, show x0.length - (i + 1) = d by omega] at hsl
   have hd8 : 2 ^ d ≤ 2 ^ 8 := Nat.pow_le_pow_right (by decide) (by omega)
   simp only [spec_paGroups.l0]
   unfold spec_l1Own.f
   rw [if_pos (by omega)]
   simp only [Option.bind_some, List.nil_append, List.length_nil, List.length_singleton]
   rw [if_pos (by omega), Option.bind_some, if_pos (by omega), if_pos (by omega), qa_ hlt (by omega),
    ih.2 k (i + 1) (l ++ [rd x0 (i : Int)]) (by omega) (by omega) (by rw [List.length_append, List.length_singleton]; omega) (by rw [List.length_append, List.length_singleton]; omega), Option.bind_some,
    if_pos (by rw [List.length_append, List.length_singleton]; omega : ((l ++ [rd x0 (i : Int)]).length : Int) > 0)]
   rw [if_pos (by rw [List.length_append, List.length_singleton]; omega)]
   rw [ih.1 k (i + 1) l _ (by omega) (by omega) hm (by omega) (by rw [List.length_append, List.length_append, List.length_singleton]; omega)]
   rw [qd_ x0 i hlt 0]
   show some (acc ++ ([l ++ [rd x0 (i : Int)]] ++ qc_ m (x0.drop (i + 1)) (l ++ [rd x0 (i : Int)])) ++ qc_ m (x0.drop (i + 1)) l) = some (acc ++ qc_ m (rd x0 (i : Int) :: x0.drop (i + 1)) l)
   rw [show qc_ m (rd x0 (i : Int) :: x0.drop (i + 1)) l = (l ++ [rd x0 (i : Int)]) :: (qc_ m (x0.drop (i + 1)) (l ++ [rd x0 (i : Int)]) ++ qc_ m (x0.drop (i + 1)) l) from if_pos hm]
   simp
  exact ⟨A, J (d + 1) A⟩
theorem r2_ {st : List Int → List (List Int) → Option (List (List Int))} {ok : List Int → Bool} (m : Nat) : ∀ (P l : List Int) (acc : List (List Int)), (∀ g ∈ q0_ P l, ∀ a : List (List Int), a.length < 1000000 → st g a = some (a ++ if ok g = true then [g] else [])) → acc.length + 2 ^ P.length ≤ 1000000 →
  gOn st (m : Int) P l acc = some (acc ++ (qc_ m P l).filter ok)
 | [], l, acc, _, _ => by simp [gOn, qc_]
 | x :: P, l, acc, H, hacc => by
  rw [List.length_cons, Nat.pow_succ] at hacc
  have hpos : 0 < 2 ^ P.length := Nat.pow_pos (by omega)
  unfold gOn qc_
  by_cases hm : l.length < m
  ·rw [if_pos (by omega), if_pos hm, H (l ++ [x]) (by simp [q0_]) acc (by omega), Option.bind_some]
   have hq : (if ok (l ++ [x]) = true then [l ++ [x]] else ([] : List (List Int))).length ≤ 1 := by split <;> simp
   have h1 := qt_ P (l ++ [x])
   have h2 := Nat.le_trans (List.length_filter_le ok (qc_ m P (l ++ [x]))) (qg_ m P (l ++ [x])).length_le
   rw [r2_ m P (l ++ [x]) _ (fun g hg => H g (by simp [q0_, hg])) (by rw [List.length_append]; omega), Option.bind_some,
    r2_ m P l _ (fun g hg => H g (by simp [q0_, hg])) (by rw [List.length_append, List.length_append]; omega), List.filter_cons, List.filter_append]
   cases ok (l ++ [x]) <;> simp
  ·rw [if_neg (by omega), if_neg hm]
   simp
def qU_ (o : List Bool) (t : Bool) (i d : Nat) : List Int := ((List.range' i d).filter fun j => o.getD j false == t).map fun j : Nat => (j : Int)
theorem sb_ (o : List Bool) (t : Bool) : qU_ o t 0 o.length = qn_ o t := by
 unfold qU_ qn_
 rw [List.range_eq_range']
theorem rl_ (o : List Bool) (t : Bool) (i d : Nat) : qU_ o t i (d + 1) = (if (o.getD i false == t) = true then [(i : Int)] else []) ++ qU_ o t (i + 1) d := by
 unfold qU_
 rw [List.range'_succ, List.filter_cons]
 split <;> simp
theorem rW_ {o : List Bool} (t : Bool) (hn : o.length ≤ 8) : ∀ (d k i : Nat) (acc : List Int), i + d = o.length → d < k → acc.length ≤ i → impl_State_side.l0 k t acc o (o.length : Int) (i : Int) = some (acc ++ qU_ o t i d) := by
 intro d
 induction d with
 | zero =>
  intro k i acc hi hk _
  obtain ⟨k, rfl⟩ := qe_ hk
  simp only [impl_State_side.l0]
  rw [if_neg (by omega)]
  simp [qU_]
 | succ d ih =>
  intro k i acc hi hk ha
  obtain ⟨k, rfl⟩ := qe_ hk
  have hlt : i < o.length := by omega
  simp only [impl_State_side.l0]
  rw [if_pos (by omega), if_pos (by omega), if_pos (by omega), qa_ hlt (by omega), rl_, if_pos (by omega : acc.length < 17592186044416)]
  show (if (o.getD i false == t) = true then _ else _) = _
  by_cases e : (o.getD i false == t) = true
  ·rw [if_pos e, if_pos e, ih k (i + 1) _ (by omega) (by omega) (by rw [List.length_append, List.length_singleton]; omega), List.append_assoc]
  ·rw [if_neg e, if_neg e, ih k (i + 1) _ (by omega) (by omega) (by omega)]
   rfl
theorem rX_ {o : List Bool} (b t : Bool) (hn : o.length ≤ 8) {k : Nat} (hk : 20 ≤ k) : impl_State_side.f k o b t = some (qn_ o t) := by
 unfold impl_State_side.f
 rw [show (0 : Int) = ((0 : Nat) : Int) by rfl, rW_ t hn o.length k 0 _ (by omega) (by omega) (Nat.le_refl _), sb_]
 rfl
theorem qj_ {α : Type} {f : Nat → Option α} (h : ∀ k, LeO (f k) (f (k + 1))) {k k' : Nat} (hk : k ≤ k') {r : α} (hr : f k = some r) : f k' = some r := by
 induction hk with
 | refl => exact hr
 | step _ ih => exact h _ _ ih
def Rn (n : Nat) : List Int := (List.range n).map fun i : Nat => (i : Int)
def Gn (n m : Nat) : List (List Int) := qc_ m (Rn n) []
def pwB {α : Type} (p : α → α → Bool) : List α → Bool
 | [] => true
 | x :: xs => xs.all (p x) && pwB p xs
theorem rQ_ {α : Type} {p : α → α → Bool} : ∀ {l : List α}, pwB p l = true → l.Pairwise fun a b => p a b = true
 | [], _ => List.Pairwise.nil
 | x :: xs, h => by
  unfold pwB at h
  rw [Bool.and_eq_true] at h
  exact List.pairwise_cons.2 ⟨fun y hy => List.all_eq_true.1 h.1 y hy, rQ_ h.2⟩
def S6 : List (List Int) := q0_ (Rn 6) []
def cb (a : List Int) : Int := (spec_cuBits.f 20 a).getD 0
def dj (a b : List Int) : Bool := !(a.any fun x => decide (x ∈ b))
set_option maxRecDepth 100000 in
theorem chkA : (S6.all fun a => (spec_cuBits.f 20 a == some (cb a)) && decide (Go.bits .and .i64 0 (cb a) = 0)) = true := by decide +kernel
set_option maxRecDepth 100000 in
theorem chkB : (S6.all fun a => S6.all fun b => (decide (Go.bits .and .i64 (Go.bits .or .i64 0 (cb a)) (cb b) = 0) == dj a b) && (spec_cuBefore.f 20 a b == some (decide (cmpL a b < 0)))) = true := by decide +kernel
set_option maxRecDepth 100000 in
theorem chkR : ((List.range 7).all fun n => ((q0_ (Rn n) []).all fun g => spec_l1Rising.f 20 g 0 ((n : Int) - 1) == some true) && pwB (fun a b => decide (cmpL a b < 0)) (q0_ (Rn n) [])) = true := by decide +kernel
theorem mem_Gn {n m : Nat} {g : List Int} : g ∈ Gn n m ↔ g ≠ [] ∧ g.Sublist (Rn n) ∧ g.length ≤ m := by
 unfold Gn
 rw [qy_, qi_]
 constructor
 ·rintro ⟨⟨s, h1, h2, h3⟩, h4⟩
  rw [List.nil_append] at h3
  rw [h3] at h4 ⊢
  exact ⟨h1, h2, h4⟩
 ·rintro ⟨h1, h2, h4⟩
  exact ⟨⟨g, h1, h2, rfl⟩, h4⟩
theorem sy_ {n : Nat} (hn : n ≤ 6) : (Rn n).Sublist (Rn 6) := by
 unfold Rn
 refine List.Sublist.map _ ?_
 rw [show (6 : Nat) = n + (6 - n) by omega, List.range_add]
 exact List.sublist_append_left _ _
theorem sg_ {n m : Nat} (hn : n ≤ 6) {g : List Int} (h : g ∈ Gn n m) : g ∈ S6 := by
 obtain ⟨h1, h2, -⟩ := mem_Gn.1 h
 exact (qi_ _ _).2 ⟨g, h1, h2.trans (sy_ hn), rfl⟩
theorem rC_ {n : Nat} (m : Nat) (hn : n ≤ 6) : (Gn n m).Pairwise fun a b => cmpL a b < 0 := by
 have h := List.all_eq_true.1 chkR n (List.mem_range.2 (by omega))
 rw [Bool.and_eq_true] at h
 exact (List.Pairwise.sublist (qg_ m _ _) (rQ_ h.2)).imp fun h => of_decide_eq_true h
theorem mem_Rn {n : Nat} {x : Int} : x ∈ Rn n ↔ 0 ≤ x ∧ x < (n : Int) := by
 unfold Rn
 simp only [List.mem_map, List.mem_range]
 constructor
 ·rintro ⟨i, h, rfl⟩; omega
 ·rintro ⟨h1, h2⟩; exact ⟨x.toNat, by omega, by omega⟩
theorem rB_ {n m : Nat} {g : List Int} (h : g ∈ Gn n m) : ∀ x ∈ g, 0 ≤ x ∧ x < (n : Int) := fun x hx => mem_Rn.1 ((mem_Gn.1 h).2.1.subset hx)
theorem qh_ {n m : Nat} {g : List Int} (h : g ∈ Gn n m) : 0 < g.length ∧ g.length ≤ m ∧ g.length ≤ n := by
 obtain ⟨h1, h2, h3⟩ := mem_Gn.1 h
 have := h2.length_le
 unfold Rn at this
 rw [List.length_map, List.length_range] at this
 exact ⟨List.length_pos_iff.2 h1, h3, this⟩
theorem rI_ {b : List Int} (hb : b.length ≤ 1000000) (x : Int) : ∀ (d k i : Nat), i + d = b.length → d < k → ∃ r, slices_Index_int_int.l0 k b x (b.length : Int) (i : Int) = some r ∧ (0 ≤ r ↔ x ∈ b.drop i) := by
 intro d
 induction d with
 | zero =>
  intro k i hi hk
  obtain ⟨k, rfl⟩ := qe_ hk
  simp only [slices_Index_int_int.l0]
  rw [if_neg (by omega)]
  refine ⟨-1, rfl, ?_⟩
  rw [List.drop_of_length_le (by omega)]
  simp
 | succ d ih =>
  intro k i hi hk
  obtain ⟨k, rfl⟩ := qe_ hk
  have hlt : i < b.length := by omega
  simp only [slices_Index_int_int.l0]
  rw [if_pos (by omega), if_pos (by omega), if_pos (by omega), qd_ b i hlt 0]
  by_cases e : x = rd b (i : Int)
  ·rw [if_pos e]
   refine ⟨_, rfl, ?_⟩
   have e2 : x = b.getD i 0 := e
   rw [e2]
   simp
  ·rw [if_neg e, qa_ hlt (by omega)]
   obtain ⟨r, h1, h2⟩ := ih k (i + 1) (by omega) (by omega)
   refine ⟨r, h1, h2.trans ?_⟩
   have e2 : x ≠ b.getD i 0 := e
   rw [List.mem_cons]
   exact ⟨.inr, fun h => h.resolve_left e2⟩
theorem qW_ {b : List Int} (hb : b.length ≤ 1000000) (x : Int) {k : Nat} (hk : b.length < k) : slices_Contains_int_int.f k b x = some (decide (x ∈ b)) := by
 obtain ⟨r, h1, h2⟩ := rI_ hb x b.length k 0 (by omega) hk
 unfold slices_Contains_int_int.f slices_Index_int_int.f
 rw [show (0 : Int) = ((0 : Nat) : Int) from rfl, h1, Option.bind_some]
 rw [List.drop_zero] at h2
 exact congrArg some (decide_eq_decide.2 h2)
theorem rD_ {a b : List Int} (hb : b.length ≤ 1000000) {k : Nat} (hk : b.length < k) : impl_share.f k a b = some (!(dj a b)) := by
 unfold impl_share.f dj
 simp only [qW_ hb _ hk]
 rw [Bool.not_not]
 exact anyO_some _ _
def qZ_ (tq t : Int) (s : Bool) : Int := if s = true then t else tq - t
def sd (ov : List Bool) (g : List Int) : Bool := rdOf false ov (rd g 0)
def okO (ov : List Bool) (g : List Int) : Bool := g.all fun x => rdOf false ov x == sd ov g
def okG (tq : Int) (ov : List Bool) (t : Int) (g : List Int) : Bool := okO ov g && decide (0 < qZ_ tq t (sd ov g))
def tg (tq : Int) (ov : List Bool) (t : Int) (a b : List Int) : Bool := decide (1 < tq) && (dj a b && ((sd ov a != sd ov b) || decide (1 < qZ_ tq t (sd ov a))))
theorem rT_ {α : Type} {R : α → α → Prop} (ha : ∀ a b, R a b → ¬ R b a) : ∀ {l l' : List α}, l.Pairwise R → l'.Pairwise R → (∀ x, x ∈ l ↔ x ∈ l') → l = l'
 | [], [], _, _, _ => rfl
 | [], y :: ys, _, _, h => absurd ((h y).2 (by simp)) (by simp)
 | x :: xs, [], _, _, h => absurd ((h x).1 (by simp)) (by simp)
 | x :: xs, y :: ys, h1, h2, h => by
  rw [List.pairwise_cons] at h1 h2
  have e : x = y := by
   rcases List.mem_cons.1 ((h x).1 (by simp)) with e | e
   ·exact e
   ·rcases List.mem_cons.1 ((h y).2 (by simp)) with e' | e'
    ·exact e'.symm
    ·exact absurd (h2.1 x e) (ha _ _ (h1.1 y e'))
  subst e
  refine congrArg (x :: ·) (rT_ ha h1.2 h2.2 fun z => ?_)
  constructor
  ·intro hz
   rcases List.mem_cons.1 ((h z).1 (by simp [hz])) with e | e
   ·rw [e] at hz; exact absurd (h1.1 x hz) (fun q => ha _ _ q q)
   ·exact e
  ·intro hz
   rcases List.mem_cons.1 ((h z).2 (by simp [hz])) with e | e
   ·rw [e] at hz; exact absurd (h2.1 x hz) (fun q => ha _ _ q q)
   ·exact e
theorem sub_filter {α : Type} {g L : List α} {p : α → Bool} : g.Sublist (L.filter p) ↔ g.Sublist L ∧ ∀ x ∈ g, p x = true := by
 constructor
 ·intro h
  exact ⟨h.trans List.filter_sublist, fun x hx => (List.mem_filter.1 (h.subset hx)).2⟩
 ·rintro ⟨h1, h2⟩
  have := h1.filter p
  rwa [List.filter_eq_self.2 h2] at this
theorem rJ_ (ov : List Bool) (s : Bool) : qn_ ov s = (Rn ov.length).filter fun x => rdOf false ov x == s := by
 unfold qn_ Rn
 rw [List.filter_map]
 rfl
theorem mem_side {ov : List Bool} {m : Nat} {s : Bool} {g : List Int} : g ∈ qc_ m (qn_ ov s) [] ↔ g ∈ Gn ov.length m ∧ okO ov g = true ∧ sd ov g = s := by
 rw [qy_, qi_, mem_Gn, rJ_]
 constructor
 ·rintro ⟨⟨q, h1, h2, h3⟩, h4⟩
  rw [List.nil_append] at h3
  subst h3
  obtain ⟨h5, h6⟩ := sub_filter.1 h2
  have hs : sd ov g = s := by
   cases g with
   | nil => exact absurd rfl h1
   | cons x g => exact beq_iff_eq.1 (h6 x (by simp))
  refine ⟨⟨h1, h5, h4⟩, List.all_eq_true.2 fun x hx => ?_, hs⟩
  rw [hs]
  exact h6 x hx
 ·rintro ⟨⟨h1, h2, h4⟩, h5, h6⟩
  refine ⟨⟨g, h1, sub_filter.2 ⟨h2, fun x hx => ?_⟩, rfl⟩, h4⟩
  have := List.all_eq_true.1 h5 x hx
  rwa [h6] at this
def gpL (m : Nat) (tq : Int) (ov : List Bool) (t : Int) : List (List Int) := (Gn ov.length m).filter (okG tq ov t)
def ptL (m : Nat) (tq : Int) (ov : List Bool) (t : Int) (s : Bool) : List (List Int) := if 0 < qZ_ tq t s then qc_ m (qn_ ov s) [] else []
theorem q1_ {tq t : Int} (h0 : 0 ≤ t) (h1 : t ≤ tq) (h2 : tq ≤ 2) (ts : List Int) (se : Int) (ov : List Bool) (s : Bool) : impl_Night_torches.f ts se tq ov t s = some (qZ_ tq t s) := by
 unfold impl_Night_torches.f qZ_
 cases s
 ·simp [qb_ (show -9223372036854775808 ≤ tq - t by omega) (by omega)]
 ·rfl
theorem qK_ {tq t : Int} (h0 : 0 ≤ t) (h1 : t ≤ tq) (h2 : tq ≤ 2) (ts : List Int) (m : Nat) {ov : List Bool} (hn : ov.length ≤ 6) (s : Bool) {acc : List (List Int)} (ha : acc.length ≤ 1000) {k : Nat} (hk : 20 ≤ k) : grPart k ts (m : Int) tq ov t s acc = some (acc ++ ptL m tq ov t s) := by
 unfold grPart ptL
 rw [q1_ h0 h1 h2, Option.bind_some]
 by_cases c : 0 < qZ_ tq t s
 ·have hl := qJ_ ov s
  have h3 : 2 ^ (qn_ ov s).length ≤ 2 ^ 6 := Nat.pow_le_pow_right (by decide) (by omega)
  rw [if_pos c, if_pos c, rX_ s s (by omega) hk, Option.bind_some, if_pos (by omega), r2_ (ok := fun _ => true) m _ [] acc (fun g _ a ha => by unfold grSt; rw [if_pos ha]; rfl) (by omega), List.filter_eq_self.2 fun _ _ => rfl]
 ·rw [if_neg c, if_neg c, List.append_nil]
theorem rv_ (m : Nat) (tq : Int) {ov : List Bool} (hn : ov.length ≤ 6) (t : Int) (s : Bool) : (ptL m tq ov t s).length ≤ 63 := by
 unfold ptL
 have hl := qJ_ ov s
 have h3 : 2 ^ (qn_ ov s).length ≤ 2 ^ 6 := Nat.pow_le_pow_right (by decide) (by omega)
 have := qw_ m (qn_ ov s) []
 split
 ·omega
 ·simp
theorem r0_ {tq t : Int} (h0 : 0 ≤ t) (h1 : t ≤ tq) (h2 : tq ≤ 2) (ts : List Int) (m : Nat) {ov : List Bool} (hn : ov.length ≤ 6) {k : Nat} (hk : 20 ≤ k) : impl_Night_groups.f k ts (m : Int) tq ov t = some (gpL m tq ov t) := by
 have l1 := rv_ m tq hn t false
 have l2 := rv_ m tq hn t true
 have hmem : ∀ g, g ∈ ptL m tq ov t false ++ ptL m tq ov t true ↔ g ∈ gpL m tq ov t := by
  intro g
  have hp : ∀ s, g ∈ ptL m tq ov t s ↔ g ∈ Gn ov.length m ∧ (okO ov g = true ∧ sd ov g = s) ∧ 0 < qZ_ tq t s := by
   intro s
   unfold ptL
   by_cases c : 0 < qZ_ tq t s
   ·rw [if_pos c, mem_side]; exact ⟨fun h => ⟨h.1, h.2, c⟩, fun h => ⟨h.1, h.2.1⟩⟩
   ·rw [if_neg c]; exact ⟨fun h => absurd h (by simp), fun h => absurd h.2.2 c⟩
  unfold gpL
  rw [List.mem_append, hp, hp, List.mem_filter]
  unfold okG
  rw [Bool.and_eq_true, decide_eq_true_eq]
  constructor
  ·rintro (⟨a, ⟨b, c⟩, d⟩ | ⟨a, ⟨b, c⟩, d⟩) <;> exact ⟨a, b, by rw [c]; exact d⟩
  ·rintro ⟨a, b, c⟩
   cases e : sd ov g
   ·rw [e] at c; exact .inl ⟨a, ⟨b, rfl⟩, c⟩
   ·rw [e] at c; exact .inr ⟨a, ⟨b, rfl⟩, c⟩
 have hnd : (ptL m tq ov t false ++ ptL m tq ov t true).Nodup := by
  have hp : ∀ s, (ptL m tq ov t s).Nodup := by
   intro s
   unfold ptL
   split
   ·exact (qq_ _ _ (qT_ ov s)).sublist (qg_ m _ _)
   ·exact List.nodup_nil
  rw [List.nodup_append]
  refine ⟨hp _, hp _, fun a ha b hb e => ?_⟩
  have q : ∀ s, ∀ g ∈ ptL m tq ov t s, sd ov g = s := by
   intro s g hg
   unfold ptL at hg
   split at hg
   ·exact (mem_side.1 hg).2.2
   ·cases hg
  have e1 := q _ a ha
  have e2 := q _ b hb
  rw [e, e2] at e1
  cases e1
 have hlen : ∀ g ∈ ptL m tq ov t false ++ ptL m tq ov t true, g.length ≤ 6 := fun g hg => by
  have := (qh_ (List.mem_filter.1 ((hmem g).1 hg)).1).2.2
  omega
 have hsort : (ptL m tq ov t false ++ ptL m tq ov t true).mergeSort leL = gpL m tq ov t := by
  refine rT_ (R := fun a b => cmpL a b < 0) (fun a b h => by rw [cmpL_flip a b]; omega) ?_ ((rC_ m hn).sublist List.filter_sublist) fun x => by rw [List.mem_mergeSort]; exact hmem x
  have p1 : ((ptL m tq ov t false ++ ptL m tq ov t true).mergeSort leL).Pairwise fun a b => leL a b = true := List.pairwise_mergeSort (fun a b c h1 h2 => by
   unfold leL at *
   rw [decide_eq_true_eq] at *
   exact cmpL_trans a b c h1 h2) (fun a b => by
   unfold leL
   rw [Bool.or_eq_true, decide_eq_true_eq, decide_eq_true_eq, cmpL_flip a b]
   omega) _
  have p2 : ((ptL m tq ov t false ++ ptL m tq ov t true).mergeSort leL).Pairwise (· ≠ ·) := (List.mergeSort_perm _ _).nodup_iff.2 hnd
  refine (p1.and p2).imp fun {a b} h => ?_
  have h3 : cmpL a b ≤ 0 := of_decide_eq_true h.1
  have h4 : cmpL a b ≠ 0 := fun e => h.2 (cmpL_zero a b e)
  omega
 unfold impl_Night_groups.f
 rw [qK_ h0 h1 h2 ts m hn false (by simp) hk, Option.bind_some, List.nil_append, qK_ h0 h1 h2 ts m hn true (by omega) hk, Option.bind_some]
 unfold grSort
 by_cases c : (ptL m tq ov t false ++ ptL m tq ov t true).length = 0
 ·rw [if_pos c]
  have e := List.length_eq_zero_iff.1 c
  have : gpL m tq ov t = [] := List.eq_nil_iff_forall_not_mem.2 fun x hx => by
   have := (hmem x).2 hx
   rw [e] at this
   cases this
  rw [this]
 ·rw [if_neg c, if_pos ⟨by rw [List.length_append]; omega, List.all_eq_true.2 fun x hx => decide_eq_true (by have := hlen x hx; omega)⟩, hsort]
theorem ql_ {α : Type} {l : List α} {i : Nat} {z : α} (h : i < l.length) : l.getD ((i : Int).toNat) z ∈ l := by
 rw [Int.toNat_natCast, List.getD_eq_getElem?_getD, List.getElem?_eq_getElem h]
 exact List.getElem_mem h
def ri_ (p : List Int → List Int → Bool) : List (List Int) → List (List (List Int))
 | [] => []
 | a :: ls => [a] :: (((ls.filter (p a)).map fun b => [a, b]) ++ ri_ p ls)
def roL (m : Nat) (tq : Int) (ov : List Bool) (t : Int) : List (List (List Int)) := ri_ (tg tq ov t) (gpL m tq ov t)
theorem sz_ {n m : Nat} {g : List Int} (h : g ∈ Gn n m) : 0 ≤ rd g 0 ∧ rd g 0 < (n : Int) := rB_ h _ (by
 have := (qh_ h).1
 unfold rd
 rw [List.getD_eq_getElem?_getD, List.getElem?_eq_getElem (by omega)]
 exact List.getElem_mem _)
theorem qP_ {tq t : Int} (h0 : 0 ≤ t) (h1 : t ≤ tq) (h2 : tq ≤ 2) (ts : List Int) (se : Int) {ov : List Bool} (hn : ov.length ≤ 6) {m : Nat} {a b : List Int} (ha : a ∈ Gn ov.length m) (hb : b ∈ Gn ov.length m) {k : Nat} (hk : 20 ≤ k) :
  impl_Night_together.f k ts se tq ov t a b = some (dj a b && ((sd ov a != sd ov b) || decide (1 < qZ_ tq t (sd ov a)))) := by
 have a1 := sz_ ha
 have b1 := sz_ hb
 have a2 := qh_ ha
 have b2 := qh_ hb
 unfold impl_Night_together.f
 rw [if_pos (by omega), if_pos a1.1, if_pos a1.2, rD_ (by omega) (by omega), Option.bind_some]
 cases hd : dj a b
 ·rfl
 ·rw [if_neg (by decide), if_pos (by omega), if_pos b1.1, if_pos b1.2]
  show (if ((sd ov a) != (sd ov b)) = true then some true else (impl_Night_torches.f ts se tq ov t (sd ov a)).bind fun t349 => some (decide (t349 > 1))) = _
  cases he : sd ov a != sd ov b
  ·rw [if_neg (by decide), q1_ h0 h1 h2, Option.bind_some]
   rfl
  ·rfl
theorem qB_ {tq t : Int} (h0 : 0 ≤ t) (h1 : t ≤ tq) (h2 : tq ≤ 2) (ts : List Int) (se : Int) {ov : List Bool} (hn : ov.length ≤ 6) {m : Nat} {a : List Int} (ha : a ∈ Gn ov.length m) {k : Nat} (hk : 20 ≤ k) : ∀ (bs : List (List Int)) (acc : List (List (List Int))), (∀ b ∈ bs, b ∈ Gn ov.length m) → acc.length + bs.length ≤ 999999 →
  nrIn k ts se tq ov t a bs acc = some (acc ++ ((bs.filter (tg tq ov t a)).map fun b => [a, b]))
 | [], acc, _, _ => by simp [nrIn]
 | b :: bs, acc, hb, hl => by
  rw [List.length_cons] at hl
  have hb1 := hb b (by simp)
  have b2 := qh_ hb1
  have hb2 : ∀ x ∈ bs, x ∈ Gn ov.length m := fun x hx => hb x (by simp [hx])
  unfold nrIn
  by_cases c : 1 < tq
  ·rw [if_pos c, qP_ h0 h1 h2 ts se hn ha hb1 hk, Option.bind_some]
   have e : tg tq ov t a b = (dj a b && ((sd ov a != sd ov b) || decide (1 < qZ_ tq t (sd ov a)))) := by unfold tg; rw [decide_eq_true c, Bool.true_and]
   rw [← e]
   cases hq : tg tq ov t a b
   ·rw [if_neg (by decide), qB_ h0 h1 h2 ts se hn ha hk bs acc hb2 (by omega), List.filter_cons_of_neg (by rw [hq]; decide)]
   ·rw [if_pos rfl, if_pos (by omega), qB_ h0 h1 h2 ts se hn ha hk bs _ hb2 (by rw [List.length_append, List.length_singleton]; omega), List.filter_cons_of_pos hq]
    simp
  ·have e : ∀ b, tg tq ov t a b = false := fun b => by unfold tg; rw [decide_eq_false c, Bool.false_and]
   rw [if_neg c, qB_ h0 h1 h2 ts se hn ha hk bs acc hb2 (by omega), List.filter_cons_of_neg (by rw [e]; decide)]
theorem rc_ {tq t : Int} (h0 : 0 ≤ t) (h1 : t ≤ tq) (h2 : tq ≤ 2) (ts : List Int) (se : Int) {ov : List Bool} (hn : ov.length ≤ 6) {m : Nat} {k : Nat} (hk : 20 ≤ k) : ∀ (ls : List (List Int)) (acc : List (List (List Int))), (∀ b ∈ ls, b ∈ Gn ov.length m) → ls.length ≤ 63 → acc.length + 100 * ls.length ≤ 100000 →
  nrOut k ts se tq ov t ls acc = some (acc ++ ri_ (tg tq ov t) ls)
 | [], acc, _, _, _ => by simp [nrOut, ri_]
 | a :: ls, acc, hb, h63, hl => by
  rw [List.length_cons] at hl h63
  have ha := hb a (by simp)
  have a2 := qh_ ha
  have hb2 : ∀ x ∈ ls, x ∈ Gn ov.length m := fun x hx => hb x (by simp [hx])
  have hf := List.length_filter_le (tg tq ov t a) ls
  unfold nrOut
  rw [if_pos (by omega), qB_ h0 h1 h2 ts se hn ha hk ls _ hb2 (by rw [List.length_append, List.length_singleton]; omega), Option.bind_some,
   rc_ h0 h1 h2 ts se hn hk ls _ hb2 (by omega) (by rw [List.length_append, List.length_append, List.length_map, List.length_singleton]; omega)]
  simp [ri_]
theorem sr_ {m : Nat} {tq : Int} {ov : List Bool} {t : Int} {g : List Int} (h : g ∈ gpL m tq ov t) : g ∈ Gn ov.length m ∧ okG tq ov t g = true := List.mem_filter.1 h
theorem rO_ {n : Nat} (m : Nat) (hn : n ≤ 6) : (Gn n m).length ≤ 63 := by
 have h1 := qw_ m (Rn n) []
 have h2 : (Rn n).length = n := by unfold Rn; rw [List.length_map, List.length_range]
 have h3 : 2 ^ n ≤ 2 ^ 6 := Nat.pow_le_pow_right (by decide) hn
 rw [h2] at h1
 unfold Gn
 omega
theorem rs_ {tq t : Int} (h0 : 0 ≤ t) (h1 : t ≤ tq) (h2 : tq ≤ 2) (ts : List Int) (m : Nat) {ov : List Bool} (hn : ov.length ≤ 6) {k : Nat} (hk : 20 ≤ k) : impl_Night_rounds.f k ts (m : Int) tq ov t = some (roL m tq ov t) := by
 have h3 := rO_ m hn
 have h4 : (gpL m tq ov t).length ≤ (Gn ov.length m).length := List.length_filter_le _ _
 unfold impl_Night_rounds.f
 rw [r0_ h0 h1 h2 ts m hn hk, Option.bind_some, if_pos (by omega), rc_ h0 h1 h2 ts (m : Int) hn hk _ _ (fun b hb => (sr_ hb).1) (by omega) (by simp; omega), List.nil_append]
 rfl
/-! What the model lists. -/
theorem r8_ {n m : Nat} (hn : n ≤ 6) {g : List Int} (h : g ∈ Gn n m) {k : Nat} (hk : 20 ≤ k) : spec_cuBits.f k g = some (cb g) ∧ Go.bits .and .i64 0 (cb g) = 0 := by
 have h1 := List.all_eq_true.1 chkA g (sg_ hn h)
 rw [Bool.and_eq_true, beq_iff_eq, decide_eq_true_eq] at h1
 exact ⟨qj_ (spec_cuBits.mono _) hk h1.1, h1.2⟩
theorem rf_ {n m : Nat} (hn : n ≤ 6) {a b : List Int} (ha : a ∈ Gn n m) (hb : b ∈ Gn n m) {k : Nat} (hk : 20 ≤ k) : spec_cuBefore.f k a b = some (decide (cmpL a b < 0)) ∧ (Go.bits .and .i64 (Go.bits .or .i64 0 (cb a)) (cb b) = 0 ↔ dj a b = true) := by
 have h1 := List.all_eq_true.1 (List.all_eq_true.1 chkB a (sg_ hn ha)) b (sg_ hn hb)
 rw [Bool.and_eq_true, beq_iff_eq, beq_iff_eq] at h1
 refine ⟨qj_ (spec_cuBefore.mono _ _) hk h1.2, ?_⟩
 rw [← h1.1, decide_eq_true_eq]
theorem ru_ {n m : Nat} (hn : n ≤ 6) {g : List Int} (h : g ∈ Gn n m) {k : Nat} (hk : 20 ≤ k) : spec_l1Rising.f k g 0 ((n : Int) - 1) = some true := by
 have h1 := List.all_eq_true.1 chkR n (List.mem_range.2 (by omega))
 rw [Bool.and_eq_true] at h1
 exact qj_ (spec_l1Rising.mono _ _ _) hk (beq_iff_eq.1 (List.all_eq_true.1 h1.1 g ((qg_ m _ _).subset h)))
theorem q8_ {ts : List Int} (hn : ts.length ≤ 6) {m : Nat} (tq : Int) {L : List (List Int)} (hL : L.length ≤ 2) {i : Nat} (hi : i < L.length) {g : List Int} (hg : rd_L1 L (i : Int) = g) (h : g ∈ Gn ts.length m) (x : Int) {k : Nat} (hk : 20 ≤ k) :
  spec_toGroups.l0 (k + 1) x L (L.length : Int) (i : Int) ts (m : Int) tq = if Go.bits .and .i64 x (cb g) = 0 then spec_toGroups.l0 k (Go.bits .or .i64 x (cb g)) L (L.length : Int) ((i + 1 : Nat) : Int) ts (m : Int) tq else some false := by
 have l := qh_ h
 simp only [spec_toGroups.l0]
 rw [if_pos (by omega), if_pos (by omega), if_pos (by omega), hg, qm_, Option.bind_some, if_pos (by rw [inB_true]; omega), show wrap64 ((ts.length : Int) - 1) = (ts.length : Int) - 1 from qb_ (by omega) (by omega), ru_ hn h hk, Option.bind_some, if_pos rfl, (r8_ hn h hk).1, Option.bind_some, Option.bind_some, qa_ hi (by omega)]
theorem toG1 {ts : List Int} (hn : ts.length ≤ 6) {m : Nat} {tq : Int} (h1 : 1 ≤ tq) {a : List Int} (ha : a ∈ Gn ts.length m) {k : Nat} (hk : 30 ≤ k) : spec_toGroups.f k ts (m : Int) tq [a] = some true := by
 obtain ⟨k, rfl⟩ : ∃ k', k = k' + 2 := ⟨k - 2, by omega⟩
 unfold spec_toGroups.f
 rw [qm_, Option.bind_some, if_pos (by rw [inB_true]; simp; omega), show (0 : Int) = ((0 : Nat) : Int) from rfl, q8_ hn tq (by simp) (i := 0) (by simp) (g := a) rfl ha _ (by omega), if_pos (by exact (r8_ hn ha (Nat.le_refl 20)).2)]
 simp only [spec_toGroups.l0]
 rw [if_neg (by simp)]
theorem toG2 {ts : List Int} (hn : ts.length ≤ 6) {m : Nat} {tq : Int} (h1 : 1 ≤ tq) {a b : List Int} (ha : a ∈ Gn ts.length m) (hb : b ∈ Gn ts.length m) {k : Nat} (hk : 30 ≤ k) : spec_toGroups.f k ts (m : Int) tq [a, b] = some (decide (1 < tq) && dj a b) := by
 obtain ⟨k, rfl⟩ : ∃ k', k = k' + 3 := ⟨k - 3, by omega⟩
 unfold spec_toGroups.f
 rw [qm_, Option.bind_some]
 by_cases c : 1 < tq
 ·rw [if_pos (by rw [inB_true]; simp; omega), decide_eq_true c, Bool.true_and, show (0 : Int) = ((0 : Nat) : Int) from rfl, q8_ hn tq (by simp) (i := 0) (by simp) (g := a) rfl ha _ (by omega), if_pos (by exact (r8_ hn ha (Nat.le_refl 20)).2),
   q8_ hn tq (by simp) (i := 0 + 1) (by simp) (g := b) rfl hb _ (by omega)]
  have h3 : Go.bits .and .i64 (Go.bits .or .i64 ((0 : Nat) : Int) (cb a)) (cb b) = 0 ↔ dj a b = true := (rf_ hn ha hb (Nat.le_refl 20)).2
  cases hd : dj a b
  ·rw [if_neg (fun e => by have := h3.1 e; rw [hd] at this; cases this)]
  ·rw [if_pos (h3.2 hd)]
   simp only [spec_toGroups.l0]
   rw [if_neg (by simp)]
 ·rw [if_neg (fun e => by rw [inB_true] at e; simp at e; omega), decide_eq_false c]
  rfl
theorem w01 : wrap64 ((0 : Int) + 1) = ((1 : Nat) : Int) := (qb_ (by omega) (by omega)).trans (by omega)
theorem w12 : wrap64 (((1 : Nat) : Int) + 1) = ((2 : Nat) : Int) := (qb_ (by omega) (by omega)).trans (by omega)
theorem w10 : wrap64 (((1 : Nat) : Int) - 1) = 0 := (qb_ (by omega) (by omega)).trans (by omega)
theorem se_ {ov : List Bool} (t : Int) (x2 L : List (List Int)) (x7 x8 len0 i0 : Int) {g : List Int} (hg : ∀ x ∈ g, 0 ≤ x ∧ x < (ov.length : Int)) (h0 : 0 < g.length) (hl : g.length ≤ 100) : ∀ (d K i : Nat), i + d = g.length →
  spec_toCan.l1 (K + 1 + d) x2 x7 x8 g L len0 i0 g (g.length : Int) (i : Int) ov t = if ((g.drop i).all fun x => rdOf false ov x == sd ov g) = true then (if sd ov g = true then spec_toCan.l0 K x2 x7 (wrap64 (x8 - 1)) L len0 (wrap64 (i0 + 1)) ov t else spec_toCan.l0 K x2 (wrap64 (x7 - 1)) x8 L len0 (wrap64 (i0 + 1)) ov t) else some false := by
 have hr : 0 ≤ rd g 0 ∧ rd g 0 < (ov.length : Int) := hg _ (by
  unfold rd
  rw [List.getD_eq_getElem?_getD, List.getElem?_eq_getElem (by omega)]
  exact List.getElem_mem _)
 intro d
 induction d with
 | zero =>
  intro K i hi
  rw [show K + 1 + 0 = K + 1 by omega, spec_toCan.l1.eq_2, if_neg (by omega), if_pos (by omega), if_pos hr.1, if_pos hr.2, List.drop_of_length_le (by omega)]
  rfl
 | succ d ih =>
  intro K i hi
  have hlt : i < g.length := by omega
  have hx : 0 ≤ rd g (i : Int) ∧ rd g (i : Int) < (ov.length : Int) := hg _ (ql_ hlt)
  rw [show K + 1 + (d + 1) = (K + 1 + d) + 1 by omega, spec_toCan.l1.eq_2, if_pos (by omega), if_pos (by omega), if_pos (by omega), if_pos hx.1, if_pos hx.2, if_pos (by omega), if_pos hr.1, if_pos hr.2, qa_ hlt (by omega), ih K (i + 1) (by omega), qd_ g i hlt 0, List.all_cons]
  show (if (rdOf false ov (rd g (i : Int)) != sd ov g) = true then some false else _) = if ((rdOf false ov (rd g (i : Int)) == sd ov g) && _) = true then _ else _
  cases e : rdOf false ov (rd g (i : Int)) == sd ov g
  ·rw [if_pos (by unfold bne; rw [e]; rfl), Bool.false_and, if_neg (by decide)]
  ·rw [if_neg (by unfold bne; rw [e]; decide), Bool.true_and]
theorem qE_ {ov : List Bool} (t : Int) (L : List (List Int)) (hL : L.length ≤ 2) (x7 x8 : Int) (k : Nat) : spec_toCan.l0 (k + 1) L x7 x8 L (L.length : Int) (L.length : Int) ov t = some (decide (x7 ≥ 0) && decide (x8 ≥ 0)) := by
 rw [spec_toCan.l0.eq_2, if_neg (by omega)]
 by_cases c : x7 ≥ 0
 ·rw [if_pos c, decide_eq_true c, Bool.true_and]
 ·rw [if_neg c, decide_eq_false c, Bool.false_and]
theorem can1 {tq t : Int} (h0 : 0 ≤ t) (h1 : t ≤ tq) (h2 : tq ≤ 2) (h3 : 1 ≤ tq) {ts : List Int} {m : Nat} {ov : List Bool} (hl : ov.length = ts.length) (hn : ts.length ≤ 6) {a : List Int} (ha : a ∈ Gn ts.length m) {k : Nat} (hk : 60 ≤ k) : spec_toCan.f k ts (m : Int) tq ov t [a] = some (okG tq ov t a) := by
 have al := qh_ ha
 obtain ⟨K, hK⟩ : ∃ K, k = (K + 10 + 1 + a.length) + 1 + 1 := ⟨k - 13 - a.length, by omega⟩
 unfold spec_toCan.f
 rw [toG1 hn h3 ha (by omega), Option.bind_some, if_pos rfl, hK, spec_toCan.l0.eq_2, if_pos (by simp), if_pos (by omega), if_pos (by simp), if_neg (by omega), spec_toCan.j1.eq_2, if_neg (by decide)]
 show spec_toCan.l1 (K + 10 + 1 + a.length) [a] (wrap64 (tq - t)) t a [a] _ 0 a (a.length : Int) ((0 : Nat) : Int) ov t = _
 rw [se_ t [a] [a] _ _ _ 0 (by rw [hl]; exact rB_ ha) al.1 (by omega) a.length (K + 10) 0 (by omega), List.drop_zero]
 unfold okG okO
 cases e : a.all fun x => rdOf false ov x == sd ov a
 ·rw [if_neg (by decide), Bool.false_and]
 ·rw [if_pos rfl, Bool.true_and, show wrap64 ((0 : Int) + 1) = (([a] : List (List Int)).length : Int) from w01, show wrap64 (tq - t) = tq - t from qb_ (by omega) (by omega)]
  rw [show wrap64 (t - 1) = t - 1 from qb_ (by omega) (by omega), show wrap64 (tq - t - 1) = tq - t - 1 from qb_ (by omega) (by omega), qE_ t [a] (by simp), qE_ t [a] (by simp)]
  unfold qZ_
  cases e2 : sd ov a
  ·rw [if_neg (by decide), if_neg (by decide)]
   refine congrArg some ?_
   rw [decide_eq_true (by omega : t ≥ 0), Bool.and_true]
   exact decide_eq_decide.2 (by omega)
  ·rw [if_pos rfl, if_pos rfl]
   refine congrArg some ?_
   rw [decide_eq_true (by omega : tq - t ≥ 0), Bool.true_and]
   exact decide_eq_decide.2 (by omega)
def cn2 (tq : Int) (ov : List Bool) (t : Int) (a b : List Int) : Bool := okG tq ov t a && (okG tq ov t b && tg tq ov t a b)
theorem can2 {tq t : Int} (h0 : 0 ≤ t) (h1 : t ≤ tq) (h2 : tq ≤ 2) (h3 : 1 ≤ tq) {ts : List Int} {m : Nat} {ov : List Bool} (hl : ov.length = ts.length) (hn : ts.length ≤ 6) {a b : List Int} (ha : a ∈ Gn ts.length m) (hb : b ∈ Gn ts.length m) (hab : cmpL a b < 0) {k : Nat} (hk : 60 ≤ k) : spec_toCan.f k ts (m : Int) tq ov t [a, b] = some (cn2 tq ov t a b) := by
 have al := qh_ ha
 have bl := qh_ hb
 obtain ⟨K, hK⟩ : ∃ K, k = (K + 30 + 1 + b.length + 1 + 1 + 1 + a.length) + 1 + 1 := ⟨k - 36 - a.length - b.length, by omega⟩
 unfold spec_toCan.f
 rw [toG2 hn h3 ha hb (by omega), Option.bind_some]
 by_cases c : 1 < tq ∧ dj a b = true
 rotate_left
 ·have e : (decide (1 < tq) && dj a b) = false := by
   cases hd : dj a b
   ·rw [Bool.and_false]
   ·rw [decide_eq_false (fun q => c ⟨q, hd⟩), Bool.false_and]
  have e2 : cn2 tq ov t a b = false := by
   unfold cn2 tg
   rw [← Bool.and_assoc (decide (1 < tq)), e, Bool.false_and, Bool.and_false, Bool.and_false]
  rw [e, if_neg (by decide), e2]
 have e : (decide (1 < tq) && dj a b) = true := by rw [decide_eq_true c.1, c.2]; rfl
 rw [e, if_pos rfl, hK, spec_toCan.l0.eq_2, if_pos (by simp), if_pos (by omega), if_pos (by simp), if_neg (by omega), spec_toCan.j1.eq_2, if_neg (by decide)]
 show spec_toCan.l1 (K + 30 + 1 + b.length + 1 + 1 + 1 + a.length) [a, b] (wrap64 (tq - t)) t a [a, b] _ 0 a (a.length : Int) ((0 : Nat) : Int) ov t = _
 have w1 : wrap64 (tq - t) = tq - t := qb_ (by omega) (by omega)
 have w2 : wrap64 (t - 1) = t - 1 := qb_ (by omega) (by omega)
 have w3 : wrap64 (tq - t - 1) = tq - t - 1 := qb_ (by omega) (by omega)
 have w4 : wrap64 (t - 1 - 1) = t - 2 := by rw [qb_ (by omega) (by omega)]; omega
 have w5 : wrap64 (tq - t - 1 - 1) = tq - t - 2 := by rw [qb_ (by omega) (by omega)]; omega
 have second : ∀ x7 x8, spec_toCan.l0 (K + 30 + 1 + b.length + 1 + 1) [a, b] x7 x8 [a, b] (([a, b] : List (List Int)).length : Int) (wrap64 (0 + 1)) ov t = if okO ov b = true then (if sd ov b = true then some (decide (x7 ≥ 0) && decide (wrap64 (x8 - 1) ≥ 0)) else some (decide (wrap64 (x7 - 1) ≥ 0) && decide (x8 ≥ 0))) else some false := by
  intro x7 x8
  rw [w01, spec_toCan.l0.eq_2, if_pos (by simp), if_pos (by omega), if_pos (by simp), if_pos (by omega), w10, if_pos (by omega), if_pos (by simp)]
  show (spec_cuBefore.f _ a b).bind _ = _
  rw [(rf_ hn ha hb (by omega)).1, Option.bind_some, decide_eq_true hab, spec_toCan.j1.eq_2, if_neg (by decide)]
  show spec_toCan.l1 (K + 30 + 1 + b.length) [a, b] x7 x8 b [a, b] _ ((1 : Nat) : Int) b (b.length : Int) ((0 : Nat) : Int) ov t = _
  rw [se_ t [a, b] [a, b] _ _ _ ((1 : Nat) : Int) (by rw [hl]; exact rB_ hb) bl.1 (by omega) b.length (K + 30) 0 (by omega), List.drop_zero, show wrap64 (((1 : Nat) : Int) + 1) = (([a, b] : List (List Int)).length : Int) from w12, qE_ t [a, b] (by simp), qE_ t [a, b] (by simp)]
  rfl
 rw [w1, se_ t [a, b] [a, b] _ _ _ 0 (by rw [hl]; exact rB_ ha) al.1 (by omega) a.length (K + 30 + 1 + b.length + 1 + 1) 0 (by omega), List.drop_zero, second, second]
 unfold cn2 okG tg
 rw [decide_eq_true c.1, c.2, Bool.true_and, Bool.true_and]
 show (if okO ov a = true then _ else _) = _
 cases ea : okO ov a
 ·rfl
 cases eb : okO ov b
 ·simp
 simp only [if_true, Bool.true_and, w2, w3]
 unfold qZ_
 cases sa : sd ov a <;> cases sb : sd ov b
 ·simp only [Bool.false_eq_true, if_false, w5, bne_self_eq_false, Bool.false_or]
  refine congrArg some ?_
  rw [Bool.eq_iff_iff]
  simp only [Bool.and_eq_true, decide_eq_true_eq]
  omega
 ·simp only [Bool.false_eq_true, if_false, if_true, w2, w3]
  refine congrArg some ?_
  rw [Bool.eq_iff_iff]
  simp
  omega
 ·simp only [Bool.false_eq_true, if_false, if_true, w2, w3]
  refine congrArg some ?_
  rw [Bool.eq_iff_iff]
  simp
  omega
 ·simp only [if_true, w4, bne_self_eq_false, Bool.false_or]
  refine congrArg some ?_
  rw [Bool.eq_iff_iff]
  simp only [Bool.and_eq_true, decide_eq_true_eq]
  omega
def sh_ (c1 : List Int → Bool) (c2 : List Int → List Int → Bool) : List (List Int) → List (List (List Int))
 | [] => []
 | a :: ls => (if c1 a = true then [[a]] else []) ++ (((ls.filter (c2 a)).map fun b => [a, b]) ++ sh_ c1 c2 ls)
theorem rt_ (tq : Int) (ov : List Bool) (t : Int) : ∀ ls : List (List Int), sh_ (okG tq ov t) (cn2 tq ov t) ls = ri_ (tg tq ov t) (ls.filter (okG tq ov t))
 | [] => rfl
 | a :: ls => by
  unfold sh_
  rw [rt_ tq ov t ls]
  cases e : okG tq ov t a
  ·rw [if_neg (by decide), List.filter_cons_of_neg (by rw [e]; decide), List.filter_eq_nil_iff.2 (fun b _ => by unfold cn2; rw [e]; simp)]
   rfl
  ·rw [if_pos rfl, List.filter_cons_of_pos e]
   show _ = [a] :: ((((ls.filter (okG tq ov t)).filter (tg tq ov t a)).map fun b => [a, b]) ++ ri_ (tg tq ov t) (ls.filter (okG tq ov t)))
   rw [List.filter_filter, show (ls.filter fun x => tg tq ov t a x && okG tq ov t x) = ls.filter (cn2 tq ov t a) from List.filter_congr fun b _ => by unfold cn2; rw [e, Bool.true_and, Bool.and_comm]]
   rfl
theorem rw_ {l : List Int} (h : l.length ≤ 1000000) : spec_l1Own.f l = some l := by
 unfold spec_l1Own.f
 rw [Option.bind_some, if_pos (by simp only [List.length_nil]; omega), List.nil_append]
theorem si_ {tq t : Int} (h0 : 0 ≤ t) (h1 : t ≤ tq) (h2 : tq ≤ 2) (h3 : 1 ≤ tq) {ts : List Int} {m : Nat} {ov : List Bool} (hl : ov.length = ts.length) (hn : ts.length ≤ 6) {a : List Int} (ha : a ∈ Gn ts.length m) (G L : List (List Int)) (x31 x32 : Int) {rest : List (List Int)} (hr : ∀ b ∈ rest, b ∈ Gn ts.length m ∧ cmpL a b < 0) (h63 : rest.length ≤ 63) : ∀ (d k i : Nat) (acc : List (List (List Int))), i + d = rest.length → 100 ≤ k → acc.length + d ≤ 1000000 →
  spec_toRounds.l2 (k + 1 + d) G acc a L x31 x32 rest (rest.length : Int) (i : Int) ts (m : Int) tq ov t = spec_toRounds.l1 k G (acc ++ (((rest.drop i).filter (cn2 tq ov t a)).map fun b => [a, b])) L x31 (wrap64 (x32 + 1)) ts (m : Int) tq ov t := by
 intro d
 induction d with
 | zero =>
  intro k i acc hi hk _
  rw [show k + 1 + 0 = k + 1 by omega, spec_toRounds.l2.eq_2, if_neg (by omega), List.drop_of_length_le (by omega)]
  simp
 | succ d ih =>
  intro k i acc hi hk hac
  have hlt : i < rest.length := by omega
  have hb := hr (rd_L1 rest (i : Int)) (ql_ hlt)
  have al := qh_ ha
  have bl := qh_ hb.1
  rw [show k + 1 + (d + 1) = (k + 1 + d) + 1 by omega, spec_toRounds.l2.eq_2, if_pos (by omega), if_pos (by omega), if_pos (by omega), rw_ (by omega), Option.bind_some, rw_ (by omega), Option.bind_some, Option.bind_some, can2 h0 h1 h2 h3 hl hn ha hb.1 hb.2 (by omega), Option.bind_some, qa_ hlt (by omega), qd_ rest i hlt []]
  show (if cn2 tq ov t a (rest.getD i []) = true then _ else _) = _
  cases e : cn2 tq ov t a (rest.getD i [])
  ·rw [if_neg (by decide), ih k (i + 1) acc (by omega) hk (by omega), List.filter_cons_of_neg (by rw [e]; decide)]
  ·rw [if_pos rfl, if_pos (by omega), ih k (i + 1) _ (by omega) hk (by rw [List.length_append, List.length_singleton]; omega), List.filter_cons_of_pos e]
   simp
   rfl
theorem sj_ {tq t : Int} (h0 : 0 ≤ t) (h1 : t ≤ tq) (h2 : tq ≤ 2) (h3 : 1 ≤ tq) {ts : List Int} {m : Nat} {ov : List Bool} (hl : ov.length = ts.length) (hn : ts.length ≤ 6) {G : List (List Int)} (hG : G = Gn ts.length m) : ∀ (d k i : Nat) (acc : List (List (List Int))), i + d = G.length → 101 + 70 * d ≤ k → acc.length + 100 * d ≤ 100000 →
  spec_toRounds.l1 k G acc G (G.length : Int) (i : Int) ts (m : Int) tq ov t = some (acc ++ sh_ (okG tq ov t) (cn2 tq ov t) (G.drop i)) := by
 have h63 : G.length ≤ 63 := by rw [hG]; exact rO_ m hn
 have hasc : G.Pairwise fun a b => cmpL a b < 0 := by rw [hG]; exact rC_ m hn
 intro d
 induction d with
 | zero =>
  intro k i acc hi hk _
  obtain ⟨k, rfl⟩ : ∃ k', k = k' + 1 := ⟨k - 1, by omega⟩
  rw [spec_toRounds.l1.eq_2, if_neg (by omega), List.drop_of_length_le (by omega)]
  simp [sh_]
 | succ d ih =>
  intro k i acc hi hk hac
  have hlt : i < G.length := by omega
  have ha : rd_L1 G (i : Int) ∈ Gn ts.length m := by rw [← hG]; exact ql_ hlt
  have al := qh_ ha
  have hdl : (G.drop (i + 1)).length = d := by rw [List.length_drop]; omega
  obtain ⟨k, rfl⟩ : ∃ k', k = k' + 1 + d + 1 := ⟨k - 2 - d, by omega⟩
  have hdrop := qd_ G i hlt []
  have hpw : ∀ b ∈ G.drop (i + 1), b ∈ Gn ts.length m ∧ cmpL (rd_L1 G (i : Int)) b < 0 := by
   intro b hb
   refine ⟨by rw [← hG]; exact List.mem_of_mem_drop hb, ?_⟩
   have h4 := hasc.sublist (List.drop_sublist i G)
   rw [hdrop, List.pairwise_cons] at h4
   exact h4.1 b hb
  have hf : ∀ c : List Int → Bool, ((G.drop (i + 1)).filter c).length ≤ d := fun c => by have := List.length_filter_le c (G.drop (i + 1)); omega
  rw [spec_toRounds.l1.eq_2, if_pos (by omega), if_pos (by omega), if_pos (by omega), rw_ (by omega), Option.bind_some, Option.bind_some, can1 h0 h1 h2 h3 hl hn ha (by omega), Option.bind_some, qa_ hlt (by omega), Int.toNat_natCast, if_pos (by omega : acc.length < 5864062014805)]
  simp only [if_pos (by omega : (0 : Int) ≤ ((i + 1 : Nat) : Int)), if_pos (by omega : ((i + 1 : Nat) : Int) ≤ (G.length : Int)), Option.bind_some]
  have key : ∀ acc2 : List (List (List Int)), acc2.length + d ≤ 1000000 → spec_toRounds.l2 (k + 1 + d) G acc2 (rd_L1 G (i : Int)) G (G.length : Int) (i : Int) (G.drop (i + 1)) ((G.drop (i + 1)).length : Int) 0 ts (m : Int) tq ov t = spec_toRounds.l1 k G (acc2 ++ (((G.drop (i + 1)).filter (cn2 tq ov t (rd_L1 G (i : Int)))).map fun b => [rd_L1 G (i : Int), b])) G (G.length : Int) ((i + 1 : Nat) : Int) ts (m : Int) tq ov t := by
   intro acc2 h2c
   have h5 := si_ h0 h1 h2 h3 hl hn ha G G (G.length : Int) (i : Int) hpw (by omega) d k 0 acc2 (by omega) (by omega) h2c
   rw [List.drop_zero, qa_ hlt (by omega)] at h5
   exact h5
  rw [hdrop]
  unfold sh_
  have hfl := hf (cn2 tq ov t (rd_L1 G (i : Int)))
  show (if okG tq ov t (G.getD i []) = true then _ else _) = _
  cases e : okG tq ov t (G.getD i [])
  ·rw [if_neg (by decide), key acc (by omega), ih k (i + 1) _ (by omega) (by omega) (by rw [List.length_append, List.length_map]; omega), if_neg (by decide), List.append_assoc]
   rfl
  ·rw [if_pos rfl, key _ (by rw [List.length_append, List.length_singleton]; omega), ih k (i + 1) _ (by omega) (by omega) (by rw [List.length_append, List.length_append, List.length_map, List.length_singleton]; omega), if_pos rfl, List.append_assoc, List.append_assoc]
   rfl
theorem sf_ (i : Nat) : Rn (i + 1) = Rn i ++ [(i : Int)] := by unfold Rn; rw [List.range_succ, List.map_append]; rfl
theorem sk_ {tq t : Int} (h0 : 0 ≤ t) (h1 : t ≤ tq) (h2 : tq ≤ 2) (h3 : 1 ≤ tq) {ts : List Int} {m : Nat} {ov : List Bool} (hl : ov.length = ts.length) (hn : ts.length ≤ 6) : ∀ (d k i : Nat), i + d = ts.length → 6000 ≤ k →
  spec_toRounds.l0 (k + 1 + d) (Rn i) (ts.length : Int) (i : Int) ts (m : Int) tq ov t = some (roL m tq ov t) := by
 intro d
 induction d with
 | zero =>
  intro k i hi hk
  have h63 := rO_ m hn
  have hRl : (Rn i).length = i := by unfold Rn; rw [List.length_map, List.length_range]
  have hp := (rj_ (x0 := Rn i) (by omega) m (Rn i).length).2 k 0 [] (by omega) (by omega) (by simp) (by simp)
  rw [List.drop_zero, if_neg (by simp), List.nil_append] at hp
  rw [show k + 1 + 0 = k + 1 by omega, spec_toRounds.l0.eq_2, if_neg (by omega), show (0 : Int) = ((0 : Nat) : Int) from rfl, hp, Option.bind_some]
  have hi2 : i = ts.length := by omega
  subst hi2
  show spec_toRounds.l1 k (Gn ts.length m) [] (Gn ts.length m) ((Gn ts.length m).length : Int) ((0 : Nat) : Int) ts (m : Int) tq ov t = _
  rw [sj_ h0 h1 h2 h3 hl hn rfl (Gn ts.length m).length k 0 [] (by omega) (by omega) (by simp; omega), List.nil_append, List.drop_zero, rt_]
  unfold roL gpL
  rw [hl]
 | succ d ih =>
  intro k i hi hk
  have hRl : (Rn i).length = i := by unfold Rn; rw [List.length_map, List.length_range]
  have hlt : i < ts.length := by omega
  rw [show k + 1 + (d + 1) = (k + 1 + d) + 1 by omega, spec_toRounds.l0.eq_2, if_pos (by omega), if_pos (by omega), qa_ hlt (by omega), ← sf_, ih k (i + 1) (by omega) hk]
theorem qQ_ {tq t : Int} (h0 : 0 ≤ t) (h1 : t ≤ tq) (h2 : tq ≤ 2) (h3 : 1 ≤ tq) {ts : List Int} (m : Nat) {ov : List Bool} (hl : ov.length = ts.length) (hn : ts.length ≤ 6) {k : Nat} (hk : 7000 ≤ k) : spec_toRounds.f k ts (m : Int) tq ov t = some (roL m tq ov t) := by
 obtain ⟨K, hK⟩ : ∃ K, k = K + 1 + ts.length := ⟨k - 1 - ts.length, by omega⟩
 unfold spec_toRounds.f
 rw [hK]
 exact sk_ h0 h1 h2 h3 hl hn ts.length K 0 (by omega) (by omega)
def stO (ov o : List Bool) (g : List Int) : List Bool := g.foldl (fun o x => o.set x.toNat (!(rdOf false ov x))) o
def afO (ov : List Bool) (r : List (List Int)) : List Bool := r.foldl (stO ov) ov
def afT (ov : List Bool) (t : Int) (r : List (List Int)) : Int := r.foldl (fun t g => if sd ov g = true then t - 1 else t + 1) t
theorem q9_ (ov : List Bool) : ∀ (g : List Int) (o : List Bool), (stO ov o g).length = o.length
 | [], _ => rfl
 | x :: g, o => by
  show (stO ov (o.set x.toNat _) g).length = _
  rw [q9_ ov g, List.length_set]
theorem qo_ {α : Type} (l : List α) (i : Nat) (h : i < l.length) (z : α) : l.drop i = l.getD i z :: l.drop (i + 1) := qd_ l i h z
theorem rU_ {ov : List Bool} (t t2 : Int) (L : List (List Int)) (len i0 : Int) {g : List Int} (hg : ∀ x ∈ g, 0 ≤ x ∧ x < (ov.length : Int)) (hl : g.length ≤ 100) : ∀ (d K i : Nat) (o : List Bool), i + d = g.length → o.length = ov.length →
  impl_Camp_after.l1 (K + 1 + d) L len i0 g (g.length : Int) (i : Int) ov t o t2 = impl_Camp_after.l0 K L len (wrap64 (i0 + 1)) ov t (stO ov o (g.drop i)) t2 ∧ spec_toAfter.l1 (K + 1 + d) L len i0 g (g.length : Int) (i : Int) ov t o t2 = spec_toAfter.l0 K L len (wrap64 (i0 + 1)) ov t (stO ov o (g.drop i)) t2 := by
 intro d
 induction d with
 | zero =>
  intro K i o hi ho
  rw [show K + 1 + 0 = K + 1 by omega, impl_Camp_after.l1.eq_2, spec_toAfter.l1.eq_2, if_neg (by omega), if_neg (by omega), List.drop_of_length_le (by omega)]
  exact ⟨rfl, rfl⟩
 | succ d ih =>
  intro K i o hi ho
  have hlt : i < g.length := by omega
  have hx : 0 ≤ rd g (i : Int) ∧ rd g (i : Int) < (ov.length : Int) := hg _ (ql_ hlt)
  have h := ih K (i + 1) (o.set (rd g (i : Int)).toNat (!(rdOf false ov (rd g (i : Int))))) (by omega) (by rw [List.length_set]; exact ho)
  have e : stO ov o (g.drop i) = stO ov (o.set (rd g (i : Int)).toNat (!(rdOf false ov (rd g (i : Int))))) (g.drop (i + 1)) := by
   rw [qo_ g i hlt 0]
   rfl
  rw [show K + 1 + (d + 1) = (K + 1 + d) + 1 by omega, impl_Camp_after.l1.eq_2, spec_toAfter.l1.eq_2, if_pos (by omega), if_pos (by omega), if_pos (by omega), if_pos hx.1, if_pos hx.2, if_pos (by omega), if_pos (by omega), if_pos (by omega), if_pos (by omega), if_pos hx.1, if_pos hx.2, if_pos (by omega), qa_ hlt (by omega), e]
  exact h
def RdN (n : Nat) (r : List (List Int)) : Prop := r.length ≤ 2 ∧ ∀ g ∈ r, 0 < g.length ∧ g.length ≤ 6 ∧ ∀ x ∈ g, 0 ≤ x ∧ x < (n : Int)
theorem so_ {n : Nat} {g : List Int} (h0 : 0 < g.length) (hg : ∀ x ∈ g, 0 ≤ x ∧ x < (n : Int)) : 0 ≤ rd g 0 ∧ rd g 0 < (n : Int) := hg _ (by
 unfold rd
 rw [List.getD_eq_getElem?_getD, List.getElem?_eq_getElem (by omega)]
 exact List.getElem_mem _)
theorem sx_ {ov : List Bool} (t : Int) {L : List (List Int)} (hL : RdN ov.length L) : ∀ (d k i : Nat) (o : List Bool) (t2 : Int), i + d = L.length → 10 * d + 1 ≤ k → o.length = ov.length → -50 + d ≤ t2 → t2 ≤ 50 - d →
  impl_Camp_after.l0 k L (L.length : Int) (i : Int) ov t o t2 = some ((L.drop i).foldl (stO ov) o, (L.drop i).foldl (fun t g => if sd ov g = true then t - 1 else t + 1) t2) ∧ spec_toAfter.l0 k L (L.length : Int) (i : Int) ov t o t2 = some ((L.drop i).foldl (stO ov) o, (L.drop i).foldl (fun t g => if sd ov g = true then t - 1 else t + 1) t2) := by
 intro d
 induction d with
 | zero =>
  intro k i o t2 hi hk ho _ _
  obtain ⟨k, rfl⟩ : ∃ k', k = k' + 1 := ⟨k - 1, by omega⟩
  rw [impl_Camp_after.l0.eq_2, spec_toAfter.l0.eq_2, if_neg (by omega), if_neg (by omega), List.drop_of_length_le (by omega)]
  exact ⟨rfl, rfl⟩
 | succ d ih =>
  intro k i o t2 hi hk ho hlo hhi
  have hlt : i < L.length := by omega
  have hL2 := hL.1
  obtain ⟨g0, g6, hg⟩ := hL.2 (rd_L1 L (i : Int)) (ql_ hlt)
  have hr := so_ g0 hg
  obtain ⟨K, hK⟩ : ∃ K, k = K + 1 + (rd_L1 L (i : Int)).length + 1 + 1 := ⟨k - 3 - (rd_L1 L (i : Int)).length, by omega⟩
  have hlen := q9_ ov (rd_L1 L (i : Int)) o
  have hD : L.drop i = rd_L1 L (i : Int) :: L.drop (i + 1) := qo_ L i hlt []
  rw [hD, List.foldl_cons, List.foldl_cons]
  constructor
  ·obtain ⟨t3, ht3⟩ : ∃ t3, t3 = if sd ov (rd_L1 L (i : Int)) = true then t2 - 1 else t2 + 1 := ⟨_, rfl⟩
   have hb : ∃ q, impl_bit.f (rdOf false ov (rd (rd_L1 L (i : Int)) 0)) = some q ∧ wrap64 (t2 + wrap64 (1 - wrap64 (2 * q))) = t3 := by
    unfold impl_bit.f
    rw [ht3]
    show ∃ q, (if sd ov (rd_L1 L (i : Int)) = true then some 1 else some 0) = some q ∧ _
    cases sd ov (rd_L1 L (i : Int))
    ·exact ⟨0, rfl, by rw [if_neg (by decide), qb_ (n := 2 * 0) (by omega) (by omega), qb_ (n := 1 - 2 * 0) (by omega) (by omega), qb_ (by omega) (by omega)]; omega⟩
    ·exact ⟨1, rfl, by rw [if_pos rfl, qb_ (n := 2 * 1) (by omega) (by omega), qb_ (n := 1 - 2 * 1) (by omega) (by omega), qb_ (by omega) (by omega)]; omega⟩
   obtain ⟨q, hq, hw⟩ := hb
   have ht : -50 + (d : Int) ≤ t3 ∧ t3 ≤ 50 - (d : Int) := by rw [ht3]; split <;> omega
   rw [hK, impl_Camp_after.l0.eq_2, if_pos (by omega), if_pos (by omega), if_pos (by omega), if_pos (by omega), if_pos hr.1, if_pos hr.2, hq, Option.bind_some, hw,
    show K + 1 + (rd_L1 L (i : Int)).length + 1 = (K + 1) + 1 + (rd_L1 L (i : Int)).length by omega]
   have h1 := (rU_ t t3 L (L.length : Int) (i : Int) hg (by omega) (rd_L1 L (i : Int)).length (K + 1) 0 o (by omega) ho).1
   rw [qa_ hlt (by omega), List.drop_zero] at h1
   rw [show (0 : Int) = ((0 : Nat) : Int) from rfl, h1, (ih (K + 1) (i + 1) _ t3 (by omega) (by omega) (by rw [hlen]; exact ho) ht.1 ht.2).1, ht3]
  ·obtain ⟨t3, ht3⟩ : ∃ t3, t3 = if sd ov (rd_L1 L (i : Int)) = true then t2 - 1 else t2 + 1 := ⟨_, rfl⟩
   have ht : -50 + (d : Int) ≤ t3 ∧ t3 ≤ 50 - (d : Int) := by rw [ht3]; split <;> omega
   have hj : (if rdOf false ov (rd (rd_L1 L (i : Int)) 0) = true then spec_toAfter.j1 (K + 1 + (rd_L1 L (i : Int)).length + 1) (rd_L1 L (i : Int)) L (L.length : Int) (i : Int) ov t o (wrap64 (t2 - 1)) else spec_toAfter.j1 (K + 1 + (rd_L1 L (i : Int)).length + 1) (rd_L1 L (i : Int)) L (L.length : Int) (i : Int) ov t o (wrap64 (t2 + 1))) = spec_toAfter.j1 (K + 1 + (rd_L1 L (i : Int)).length + 1) (rd_L1 L (i : Int)) L (L.length : Int) (i : Int) ov t o t3 := by
    show (if sd ov (rd_L1 L (i : Int)) = true then _ else _) = _
    rw [ht3]
    cases sd ov (rd_L1 L (i : Int))
    ·rw [if_neg (by decide), if_neg (by decide), qb_ (by omega) (by omega)]
    ·rw [if_pos rfl, if_pos rfl, qb_ (by omega) (by omega)]
   rw [hK, spec_toAfter.l0.eq_2, if_pos (by omega), if_pos (by omega), if_pos (by omega), if_pos (by omega), if_pos hr.1, if_pos hr.2, hj, spec_toAfter.j1.eq_2]
   have h1 := (rU_ t t3 L (L.length : Int) (i : Int) hg (by omega) (rd_L1 L (i : Int)).length K 0 o (by omega) ho).2
   rw [qa_ hlt (by omega), List.drop_zero] at h1
   rw [show (0 : Int) = ((0 : Nat) : Int) from rfl, h1, (ih K (i + 1) _ t3 (by omega) (by omega) (by rw [hlen]; exact ho) ht.1 ht.2).2, ht3]
theorem rh_ {ov : List Bool} (hn : ov.length ≤ 6) {t : Int} (h0 : 0 ≤ t) (h1 : t ≤ 2) {r : List (List Int)} (hr : RdN ov.length r) {k : Nat} (hk : 30 ≤ k) : impl_Camp_after.f k ov t r = some (afO ov r, afT ov t r) ∧ spec_toAfter.f k ov t r = some (afO ov r, afT ov t r) := by
 have h2 := hr.1
 have h := sx_ t hr r.length k 0 ov t (by omega) (by omega) rfl (by omega) (by omega)
 rw [List.drop_zero] at h
 constructor
 ·unfold impl_Camp_after.f slices_Clone_bool_bool.f
  rw [if_pos (by omega), Option.bind_some]
  exact h.1
 ·unfold spec_toAfter.f
  rw [Option.bind_some, if_pos (by simp only [List.length_nil]; omega), List.nil_append]
  exact h.2
/-! Times. -/
def tmG (ts : List Int) (g : List Int) (a : Int) : Int := g.foldl (fun m x => mx m (rd ts x)) a
def tmR (ts : List Int) (r : List (List Int)) : Int := r.foldl (fun m g => mx m (tmG ts g 0)) 0
theorem rV_ {ts g : List Int} (hg : ∀ x ∈ g, 0 ≤ x ∧ x < (ts.length : Int)) (hl : g.length ≤ 100) : ∀ (d k i : Nat) (a : Int), i + d = g.length → d < k → impl_slowest.l0 k ts a g (g.length : Int) (i : Int) = some (tmG ts (g.drop i) a) := by
 intro d
 induction d with
 | zero =>
  intro k i a hi hk
  obtain ⟨k, rfl⟩ := qe_ hk
  simp only [impl_slowest.l0]
  rw [if_neg (by omega), List.drop_of_length_le (by omega)]
  rfl
 | succ d ih =>
  intro k i a hi hk
  obtain ⟨k, rfl⟩ := qe_ hk
  have hlt : i < g.length := by omega
  have hx : 0 ≤ rd g (i : Int) ∧ rd g (i : Int) < (ts.length : Int) := hg _ (ql_ hlt)
  simp only [impl_slowest.l0]
  rw [if_pos (by omega), if_pos (by omega), if_pos (by omega), if_pos hx.1, if_pos hx.2, qa_ hlt (by omega), ih k (i + 1) _ (by omega) (by omega), qo_ g i hlt 0]
  rfl
theorem sn_ {ts : List Int} (se tq : Int) {L : List (List Int)} (hL : RdN ts.length L) : ∀ (d k i : Nat) (a : Int), i + d = L.length → d + 10 ≤ k → impl_Night_roundTime.l0 k a L (L.length : Int) (i : Int) ts se tq = some ((L.drop i).foldl (fun m g => mx m (tmG ts g 0)) a) := by
 intro d
 induction d with
 | zero =>
  intro k i a hi hk
  obtain ⟨k, rfl⟩ : ∃ k', k = k' + 1 := ⟨k - 1, by omega⟩
  simp only [impl_Night_roundTime.l0]
  rw [if_neg (by omega), List.drop_of_length_le (by omega)]
  rfl
 | succ d ih =>
  intro k i a hi hk
  obtain ⟨k, rfl⟩ : ∃ k', k = k' + 1 := ⟨k - 1, by omega⟩
  have hlt : i < L.length := by omega
  have hL2 := hL.1
  obtain ⟨g0, g6, hg⟩ := hL.2 (rd_L1 L (i : Int)) (ql_ hlt)
  simp only [impl_Night_roundTime.l0]
  rw [if_pos (by omega), if_pos (by omega), if_pos (by omega)]
  unfold impl_slowest.f
  rw [show (0 : Int) = ((0 : Nat) : Int) from rfl, rV_ hg (by omega) _ k 0 _ (Nat.zero_add _) (by omega), Option.bind_some, qa_ hlt (by omega), ih k (i + 1) _ (by omega) (by omega), qo_ L i hlt [], List.drop_zero]
  rfl
theorem qG_ {ts : List Int} (se tq : Int) {r : List (List Int)} (hr : RdN ts.length r) {k : Nat} (hk : 20 ≤ k) : impl_Night_roundTime.f k ts se tq r = some (tmR ts r) := by
 have := hr.1
 unfold impl_Night_roundTime.f
 rw [show (0 : Int) = ((0 : Nat) : Int) from rfl, sn_ se tq hr r.length k 0 _ (by omega) (by omega), List.drop_zero]
 rfl
theorem rk_ (a b : Int) : a ≤ mx a b ∧ b ≤ mx a b ∧ (mx a b = a ∨ mx a b = b) := by
 unfold mx
 split <;> omega
theorem sm_ {ts : List Int} (hts : ∀ x : Int, 0 ≤ rd ts x) : ∀ (g : List Int) (a b : Int), tmG ts g (mx a b) = mx a (tmG ts g b)
 | [], _, _ => rfl
 | x :: g, a, b => by
  show tmG ts g (mx (mx a b) (rd ts x)) = mx a (tmG ts g (mx b (rd ts x)))
  rw [show mx (mx a b) (rd ts x) = mx a (mx b (rd ts x)) by
   have h1 := rk_ a b
   have h2 := rk_ (mx a b) (rd ts x)
   have h3 := rk_ b (rd ts x)
   have h4 := rk_ a (mx b (rd ts x))
   omega]
  exact sm_ hts g a _
theorem rP_ {ts : List Int} (hts : ∀ x ∈ ts, 1 ≤ x ∧ x ≤ 1000) : ∀ (g : List Int) (a : Int), (∀ x ∈ g, 0 ≤ x ∧ x < (ts.length : Int)) → a ≤ 1000 → a ≤ tmG ts g a ∧ tmG ts g a ≤ 1000 ∧ (0 < g.length → 1 ≤ tmG ts g a)
 | [], a, _, h => ⟨Int.le_refl _, h, fun q => absurd q (by simp)⟩
 | x :: g, a, hg, h => by
  have hx := hg x (by simp)
  have hv : 1 ≤ rd ts x ∧ rd ts x ≤ 1000 := by
   unfold rd
   rw [List.getD_eq_getElem?_getD, List.getElem?_eq_getElem (by omega)]
   exact hts _ (List.getElem_mem _)
  have h1 := rk_ a (rd ts x)
  obtain ⟨i1, i2, -⟩ := rP_ hts g (mx a (rd ts x)) (fun y hy => hg y (by simp [hy])) (by omega)
  show a ≤ tmG ts g (mx a (rd ts x)) ∧ tmG ts g (mx a (rd ts x)) ≤ 1000 ∧ _
  refine ⟨by omega, i2, fun _ => ?_⟩
  show 1 ≤ tmG ts g (mx a (rd ts x))
  omega
theorem sl_ {ts : List Int} (hts : ∀ x ∈ ts, 1 ≤ x ∧ x ≤ 1000) {r : List (List Int)} (hr : RdN ts.length r) (h0 : 0 < r.length) : 1 ≤ tmR ts r ∧ tmR ts r ≤ 1000 := by
 have key : ∀ (L : List (List Int)) (a : Int), (∀ g ∈ L, 0 < g.length ∧ ∀ x ∈ g, 0 ≤ x ∧ x < (ts.length : Int)) → 0 ≤ a → a ≤ 1000 → a ≤ L.foldl (fun m g => mx m (tmG ts g 0)) a ∧ L.foldl (fun m g => mx m (tmG ts g 0)) a ≤ 1000 ∧ (0 < L.length → 1 ≤ L.foldl (fun m g => mx m (tmG ts g 0)) a) := by
  intro L
  induction L with
  | nil => intro a _ _ h; exact ⟨Int.le_refl _, h, fun q => absurd q (by simp)⟩
  | cons g L ih =>
   intro a hL h1 h2
   obtain ⟨g0, gi⟩ := hL g (by simp)
   obtain ⟨b1, b2, b3⟩ := rP_ hts g 0 gi (by omega)
   have b4 := b3 g0
   have h3 := rk_ a (tmG ts g 0)
   obtain ⟨i1, i2, -⟩ := ih (mx a (tmG ts g 0)) (fun y hy => hL y (by simp [hy])) (by omega) (by omega)
   rw [List.foldl_cons]
   exact ⟨by omega, i2, fun _ => by omega⟩
 obtain ⟨-, h1, h2⟩ := key r 0 (fun g hg => ⟨(hr.2 g hg).1, (hr.2 g hg).2.2⟩) (Int.le_refl _) (by omega)
 exact ⟨h2 h0, h1⟩
def sp_ (n j : Nat) : Int := wrap64 (wrap64 (((j : Int) + 1) * 2 ^ min n 64) - 1)
def sw_ : Nat → List (List Bool)
 | 0 => [[]]
 | n + 1 => (sw_ n).flatMap fun l => [true :: l, false :: l]
theorem qD_ : ∀ o : List Bool, o ∈ sw_ o.length
 | [] => by simp [sw_]
 | b :: o => by
  simp only [List.length_cons, sw_, List.mem_flatMap]
  exact ⟨o, qD_ o, by cases b <;> simp⟩
def NN (n : Nat) (tq : Int) : Nat := (tq + 1).toNat * 2 ^ n
def rS_ (n : Nat) (q : Nat) : Bool := ((sw_ n).all fun o => (List.range (q + 1)).all fun (t : Nat) =>
  (match impl_Camp_code.f 20 o (t : Int) with
   | some c => decide (0 ≤ c) && (decide (c < (NN n (q : Int) : Int)) && (impl_Night_camp.f 20 (Rn n) 0 (q : Int) c == some (o, (t : Int))))
   | none => false) &&
  (match spec_toCode.f 20 [] 0 (q : Int) o (t : Int) with
   | some c => decide (0 ≤ c) && (decide (c < (NN n (q : Int) : Int)) && (spec_toCampOf.l0 20 c (n : Int) 0 [] 0 (q : Int) [] (Int.tmod c (wrap64 ((q : Int) + 1))) == some (o, (t : Int))))
   | none => false)) &&
 (((List.range (NN n (q : Int))).all fun (c : Nat) =>
  (match impl_Night_camp.f 20 (Rn n) 0 (q : Int) (c : Int) with
   | some s => decide (s.1.length = n) && (decide (0 ≤ s.2) && (decide (s.2 ≤ (q : Int)) && (impl_Camp_code.f 20 s.1 s.2 == some (c : Int))))
   | none => false) &&
  (match spec_toCampOf.l0 20 (c : Int) (n : Int) 0 [] 0 (q : Int) [] (Int.tmod (c : Int) (wrap64 ((q : Int) + 1))) with
   | some s => decide (s.1.length = n) && (decide (0 ≤ s.2) && (decide (s.2 ≤ (q : Int)) && (spec_toCode.f 20 [] 0 (q : Int) s.1 s.2 == some (c : Int))))
   | none => false)) &&
 ((List.range (q + 1)).all (fun (t : Nat) => impl_Camp_code.f 20 (List.replicate n true) (t : Int) == some (sp_ n t)) &&
 (decide (ngN (q : Int) n = (NN n (q : Int) : Int)) && (decide (shl .i64 (wrap64 ((q : Int) + 1)) (n : Int) = (NN n (q : Int) : Int)) &&
 (true && (impl_Camp_code.f 20 (List.replicate n false) 0 == some 0 && spec_toCode.f 20 [] 0 (q : Int) (List.replicate n false) 0 == some 0))))))
set_option maxRecDepth 100000 in
theorem rL_ : ((List.range 7).all fun n => rS_ n 1 && rS_ n 2) = true := by decide +kernel
theorem qO_ {n : Nat} {tq : Int} (hn : n ≤ 6) (h1 : 1 ≤ tq) (h2 : tq ≤ 2) : ∃ q : Nat, tq = (q : Int) ∧ rS_ n q = true := by
 have h := List.all_eq_true.1 rL_ n (List.mem_range.2 (by omega))
 rw [Bool.and_eq_true] at h
 by_cases c : tq = 1
 ·exact ⟨1, c, h.1⟩
 ·exact ⟨2, by omega, h.2⟩
theorem qu_ : ∀ (k : Nat) (x : Int) (L : List Bool) (len i : Int) (ts : List Int) (se tq : Int), spec_toCode.l0 k x L len i ts se tq = spec_toCode.l0 k x L len i [] 0 tq
 | 0, _, _, _, _, _, _, _ => rfl
 | k + 1, x, L, len, i, ts, se, tq => by
  rw [spec_toCode.l0.eq_2, spec_toCode.l0.eq_2, qu_ k _ _ _ _ ts se tq, qu_ k _ _ _ _ ts se tq]
theorem qv_ : ∀ (k : Nat) (x n i : Int) (ts : List Int) (se tq : Int) (o : List Bool) (t : Int), spec_toCampOf.l0 k x n i ts se tq o t = spec_toCampOf.l0 k x n i [] 0 tq o t
 | 0, _, _, _, _, _, _, _, _ => rfl
 | k + 1, x, n, i, ts, se, tq, o, t => by
  rw [spec_toCampOf.l0.eq_2, spec_toCampOf.l0.eq_2, qv_ k _ _ _ ts se tq]
def Cp (n : Nat) (tq : Int) (s : List Bool × Int) : Prop := s.1.length = n ∧ 0 ≤ s.2 ∧ s.2 ≤ tq
def cdI (s : List Bool × Int) : Nat := ((impl_Camp_code.f 20 s.1 s.2).getD 0).toNat
def cdS (tq : Int) (s : List Bool × Int) : Nat := ((spec_toCode.f 20 [] 0 tq s.1 s.2).getD 0).toNat
def cpI (n : Nat) (tq : Int) (c : Nat) : List Bool × Int := (impl_Night_camp.f 20 (Rn n) 0 tq (c : Int)).getD ([], 0)
def cpS (n : Nat) (tq : Int) (c : Nat) : List Bool × Int := (spec_toCampOf.l0 20 (c : Int) (n : Int) 0 [] 0 tq [] (Int.tmod (c : Int) (wrap64 (tq + 1)))).getD ([], 0)
theorem rg_ {n : Nat} {tq : Int} (hn : n ≤ 6) (h1 : 1 ≤ tq) (h2 : tq ≤ 2) {s : List Bool × Int} (hs : Cp n tq s) {k : Nat} (hk : 20 ≤ k) : impl_Camp_code.f k s.1 s.2 = some (cdI s : Int) ∧ cdI s < NN n tq ∧ cpI n tq (cdI s) = s := by
 obtain ⟨q, rfl, hc⟩ := qO_ hn h1 h2
 unfold rS_ at hc
 rw [Bool.and_eq_true] at hc
 obtain ⟨e1, e2, e3⟩ := hs
 have h := List.all_eq_true.1 (List.all_eq_true.1 hc.1 s.1 (by rw [← e1]; exact qD_ _)) s.2.toNat (List.mem_range.2 (by omega))
 rw [Bool.and_eq_true, Int.toNat_of_nonneg e2] at h
 have h := h.1
 cases hq : impl_Camp_code.f 20 s.1 s.2 with
 | none => rw [hq] at h; cases h
 | some c =>
  rw [hq] at h
  simp only [Bool.and_eq_true, decide_eq_true_eq, beq_iff_eq] at h
  obtain ⟨a, b, d⟩ := h
  have e : cdI s = c.toNat := by unfold cdI; rw [hq]; rfl
  rw [e]
  refine ⟨by rw [Int.toNat_of_nonneg a]; exact qj_ (impl_Camp_code.mono _ _) hk hq, by omega, ?_⟩
  unfold cpI
  rw [Int.toNat_of_nonneg a, d]
  rfl
theorem qf_ {n : Nat} {tq : Int} (hn : n ≤ 6) (h1 : 1 ≤ tq) (h2 : tq ≤ 2) {s : List Bool × Int} (hs : Cp n tq s) (ts : List Int) (se : Int) {k : Nat} (hk : 20 ≤ k) : spec_toCode.f k ts se tq s.1 s.2 = some (cdS tq s : Int) ∧ cdS tq s < NN n tq ∧ cpS n tq (cdS tq s) = s := by
 obtain ⟨q, rfl, hc⟩ := qO_ hn h1 h2
 unfold rS_ at hc
 rw [Bool.and_eq_true] at hc
 obtain ⟨e1, e2, e3⟩ := hs
 have h := List.all_eq_true.1 (List.all_eq_true.1 hc.1 s.1 (by rw [← e1]; exact qD_ _)) s.2.toNat (List.mem_range.2 (by omega))
 rw [Bool.and_eq_true, Int.toNat_of_nonneg e2] at h
 have h := h.2
 cases hq : spec_toCode.f 20 [] 0 (q : Int) s.1 s.2 with
 | none => rw [hq] at h; cases h
 | some c =>
  rw [hq] at h
  simp only [Bool.and_eq_true, decide_eq_true_eq, beq_iff_eq] at h
  obtain ⟨a, b, d⟩ := h
  have e : cdS (q : Int) s = c.toNat := by unfold cdS; rw [hq]; rfl
  rw [e]
  refine ⟨?_, by omega, ?_⟩
  ·rw [Int.toNat_of_nonneg a]
   unfold spec_toCode.f at hq ⊢
   rw [qu_]
   exact qj_ (f := fun k => spec_toCode.l0 k s.2 s.1 (s.1.length : Int) 0 [] 0 (q : Int)) (fun k => by have := spec_toCode.mono [] 0 (q : Int) s.1 s.2 k; exact this) hk hq
  ·unfold cpS
   rw [Int.toNat_of_nonneg a, d]
   rfl
theorem q6_ {n : Nat} {tq : Int} (hn : n ≤ 6) (h1 : 1 ≤ tq) (h2 : tq ≤ 2) {c : Nat} (hc0 : c < NN n tq) {ts : List Int} (hl : ts.length = n) (se : Int) {k : Nat} (hk : 20 ≤ k) : impl_Night_camp.f k ts se tq (c : Int) = some (cpI n tq c) ∧ Cp n tq (cpI n tq c) ∧ cdI (cpI n tq c) = c := by
 obtain ⟨q, rfl, hc⟩ := qO_ hn h1 h2
 unfold rS_ at hc
 rw [Bool.and_eq_true, Bool.and_eq_true] at hc
 have h := List.all_eq_true.1 hc.2.1 c (List.mem_range.2 hc0)
 rw [Bool.and_eq_true] at h
 have h := h.1
 cases hq : impl_Night_camp.f 20 (Rn n) 0 (q : Int) (c : Int) with
 | none => rw [hq] at h; cases h
 | some s =>
  rw [hq] at h
  simp only [Bool.and_eq_true, decide_eq_true_eq, beq_iff_eq] at h
  obtain ⟨a, b, d, e⟩ := h
  have es : cpI n (q : Int) c = s := by unfold cpI; rw [hq]; rfl
  rw [es]
  refine ⟨?_, ⟨a, b, d⟩, ?_⟩
  ·have hm := qj_ (impl_Night_camp.mono _ _ _ _) hk hq
   unfold impl_Night_camp.f at hm ⊢
   rw [show (Rn n).length = ts.length by rw [hl]; unfold Rn; rw [List.length_map, List.length_range]] at hm
   exact hm
  ·unfold cdI
   rw [e]
   exact Int.toNat_natCast c
theorem sv_ {n : Nat} {tq : Int} (hn : n ≤ 6) (h1 : 1 ≤ tq) (h2 : tq ≤ 2) {c : Nat} (hc0 : c < NN n tq) {ts : List Int} (hl : ts.length = n) (se : Int) {k : Nat} (hk : 20 ≤ k) : spec_toCampOf.f k ts se tq (c : Int) = some (cpS n tq c) ∧ Cp n tq (cpS n tq c) ∧ cdS tq (cpS n tq c) = c := by
 obtain ⟨q, rfl, hc⟩ := qO_ hn h1 h2
 unfold rS_ at hc
 rw [Bool.and_eq_true, Bool.and_eq_true] at hc
 have h := List.all_eq_true.1 hc.2.1 c (List.mem_range.2 hc0)
 rw [Bool.and_eq_true] at h
 have h := h.2
 cases hq : spec_toCampOf.l0 20 (c : Int) (n : Int) 0 [] 0 (q : Int) [] (Int.tmod (c : Int) (wrap64 ((q : Int) + 1))) with
 | none => rw [hq] at h; cases h
 | some s =>
  rw [hq] at h
  simp only [Bool.and_eq_true, decide_eq_true_eq, beq_iff_eq] at h
  obtain ⟨a, b, d, e⟩ := h
  have es : cpS n (q : Int) c = s := by unfold cpS; rw [hq]; rfl
  rw [es]
  refine ⟨?_, ⟨a, b, d⟩, ?_⟩
  ·unfold spec_toCampOf.f
   rw [if_neg (by rw [qb_ (by omega) (by omega)]; omega), qv_, hl]
   exact qj_ (f := fun k => spec_toCampOf.l0 k (c : Int) (n : Int) 0 [] 0 (q : Int) [] (Int.tmod (c : Int) (wrap64 ((q : Int) + 1)))) (fun k => spec_toCampOf.mono_l k _ _ _ _ _ _ _ _) hk hq
  ·unfold cdS
   rw [e]
   exact Int.toNat_natCast c
theorem qV_ {n : Nat} {tq : Int} (hn : n ≤ 6) (h1 : 1 ≤ tq) (h2 : tq ≤ 2) : (∀ t : Nat, (t : Int) ≤ tq → sp_ n t = (cdI (List.replicate n true, (t : Int)) : Int)) ∧ ngN tq n = (NN n tq : Int) ∧ shl .i64 (wrap64 (tq + 1)) (n : Int) = (NN n tq : Int) ∧ cdI (List.replicate n false, 0) = 0 ∧ cdS tq (List.replicate n false, 0) = 0 := by
 have hcd := fun t : Nat => fun ht : (t : Int) ≤ tq => (rg_ hn h1 h2 (s := (List.replicate n true, (t : Int))) ⟨by simp, by simp, ht⟩ (Nat.le_refl 20)).1
 obtain ⟨q, rfl, hc⟩ := qO_ hn h1 h2
 unfold rS_ at hc
 simp only [Bool.and_eq_true, decide_eq_true_eq, beq_iff_eq] at hc
 obtain ⟨-, -, c1, c2, c3, -, c4, c5⟩ := hc
 refine ⟨fun t ht => ?_, c2, c3, ?_, ?_⟩
 ·have h := beq_iff_eq.1 (List.all_eq_true.1 c1 t (List.mem_range.2 (by omega)))
  have h5 := hcd t ht
  simp only at h5
  rw [h] at h5
  exact Option.some.inj h5
 ·unfold cdI; rw [c4]; rfl
 ·unfold cdS; rw [c5]; rfl
theorem rr_ (ov : List Bool) : ∀ (g : List Int) (o : List Bool), (∀ x ∈ g, 0 ≤ x ∧ x < (o.length : Int)) → ∀ i : Nat, i < o.length → (stO ov o g).getD i false = if (i : Int) ∈ g then !(ov.getD i false) else o.getD i false
 | [], o, _, i, _ => by simp [stO]
 | x :: g, o, h, i, hi => by
  have hx := h x (by simp)
  show (stO ov (o.set x.toNat (!(rdOf false ov x))) g).getD i false = _
  rw [rr_ ov g _ (fun y hy => by rw [List.length_set]; exact h y (by simp [hy])) i (by rw [List.length_set]; exact hi)]
  have hs : (o.set x.toNat (!(rdOf false ov x))).getD i false = if (i : Int) = x then !(ov.getD i false) else o.getD i false := by
   rw [List.getD_eq_getElem?_getD, List.getD_eq_getElem?_getD (l := o), List.getElem?_set]
   by_cases e : x.toNat = i
   ·rw [if_pos e, if_pos (by omega), if_pos (by omega)]
    unfold rdOf
    rw [e]
    rfl
   ·rw [if_neg e, if_neg (by omega)]
  rw [hs]
  by_cases e : (i : Int) ∈ g
  ·rw [if_pos e, if_pos (List.mem_cons_of_mem _ e)]
  ·rw [if_neg e]
   by_cases q : (i : Int) = x
   ·rw [if_pos q, if_pos (by rw [q]; exact List.mem_cons_self)]
   ·rw [if_neg q, if_neg (by simp [q, e])]
theorem qz_ (ov : List Bool) (r : List (List Int)) : (afO ov r).length = ov.length := by
 have key : ∀ (L : List (List Int)) (o : List Bool), (L.foldl (stO ov) o).length = o.length := by
  intro L
  induction L with
  | nil => intro o; rfl
  | cons g L ih => intro o; rw [List.foldl_cons, ih, q9_]
 exact key r ov
theorem qY_ {ov : List Bool} {r : List (List Int)} (hr : ∀ g ∈ r, ∀ x ∈ g, 0 ≤ x ∧ x < (ov.length : Int)) {i : Nat} (hi : i < ov.length) : (afO ov r).getD i false = if ∃ g ∈ r, (i : Int) ∈ g then !(ov.getD i false) else ov.getD i false := by
 have key : ∀ (L : List (List Int)) (o : List Bool), o.length = ov.length → (∀ g ∈ L, ∀ x ∈ g, 0 ≤ x ∧ x < (ov.length : Int)) → (L.foldl (stO ov) o).getD i false = if ∃ g ∈ L, (i : Int) ∈ g then !(ov.getD i false) else o.getD i false := by
  intro L
  induction L with
  | nil => intro o _ _; simp
  | cons g L ih =>
   intro o ho hL
   rw [List.foldl_cons, ih _ (by rw [q9_]; exact ho) (fun x hx => hL x (by simp [hx])), rr_ ov g o (by rw [ho]; exact hL g (by simp)) i (by omega)]
   by_cases c : ∃ g ∈ L, (i : Int) ∈ g
   ·obtain ⟨q, q1, q2⟩ := c
    rw [if_pos ⟨q, q1, q2⟩, if_pos ⟨q, by simp [q1], q2⟩]
   ·rw [if_neg c]
    by_cases c2 : (i : Int) ∈ g
    ·rw [if_pos c2, if_pos ⟨g, by simp, c2⟩]
    ·rw [if_neg c2, if_neg]
     rintro ⟨q, q1, q2⟩
     rcases List.mem_cons.1 q1 with e | e
     ·rw [e] at q2; exact c2 q2
     ·exact c ⟨q, e, q2⟩
 exact key r ov rfl hr
theorem rd_ {p : List Int → List Int → Bool} {r : List (List Int)} : ∀ {L : List (List Int)}, L.Pairwise (fun a b => cmpL a b < 0) → (r ∈ ri_ p L ↔ (∃ a ∈ L, r = [a]) ∨ ∃ a ∈ L, ∃ b ∈ L, cmpL a b < 0 ∧ p a b = true ∧ r = [a, b])
 | [], _ => by simp [ri_]
 | a :: L, h => by
  rw [List.pairwise_cons] at h
  unfold ri_
  rw [List.mem_cons, List.mem_append, rd_ h.2, List.mem_map]
  constructor
  ·rintro (e | ⟨b, hb, e⟩ | ⟨x, hx, e⟩ | ⟨x, hx, y, hy, q1, q2, q3⟩)
   ·exact .inl ⟨a, by simp, e⟩
   ·rw [List.mem_filter] at hb
    exact .inr ⟨a, by simp, b, by simp [hb.1], h.1 b hb.1, hb.2, e.symm⟩
   ·exact .inl ⟨x, by simp [hx], e⟩
   ·exact .inr ⟨x, by simp [hx], y, by simp [hy], q1, q2, q3⟩
  ·rintro (⟨x, hx, e⟩ | ⟨x, hx, y, hy, q1, q2, q3⟩)
   ·rcases List.mem_cons.1 hx with q | q
    ·rw [q] at e; exact .inl e
    ·exact .inr (.inr (.inl ⟨x, q, e⟩))
   ·rcases List.mem_cons.1 hx with qx | qx
    ·rcases List.mem_cons.1 hy with qy | qy
     ·rw [qx, qy, cmpL_refl] at q1
      exact absurd q1 (by omega)
     ·rw [qx] at q2 q3
      exact .inr (.inl ⟨y, List.mem_filter.2 ⟨qy, q2⟩, q3.symm⟩)
    ·rcases List.mem_cons.1 hy with qy | qy
     ·rw [qy, cmpL_flip a x] at q1
      have := h.1 x qx
      exact absurd q1 (by omega)
     ·exact .inr (.inr (.inr ⟨x, qx, y, qy, q1, q2, q3⟩))
theorem sc_ (m : Nat) (tq : Int) {ov : List Bool} (hn : ov.length ≤ 6) (t : Int) : (gpL m tq ov t).Pairwise fun a b => cmpL a b < 0 := (rC_ m hn).sublist List.filter_sublist
theorem qC_ {m : Nat} {tq : Int} {ov : List Bool} (hn : ov.length ≤ 6) {t : Int} {r : List (List Int)} : r ∈ roL m tq ov t ↔ (∃ a, a ∈ Gn ov.length m ∧ okG tq ov t a = true ∧ r = [a]) ∨ ∃ a b, a ∈ Gn ov.length m ∧ okG tq ov t a = true ∧ b ∈ Gn ov.length m ∧ okG tq ov t b = true ∧ cmpL a b < 0 ∧ tg tq ov t a b = true ∧ r = [a, b] := by
 unfold roL
 rw [rd_ (sc_ m tq hn t)]
 unfold gpL
 simp only [List.mem_filter]
 constructor
 ·rintro (⟨a, h, e⟩ | ⟨a, h, b, h2, q1, q2, q3⟩)
  ·exact .inl ⟨a, h.1, h.2, e⟩
  ·exact .inr ⟨a, b, h.1, h.2, h2.1, h2.2, q1, q2, q3⟩
 ·rintro (⟨a, h, h2, e⟩ | ⟨a, b, h, h2, h3, h4, q1, q2, q3⟩)
  ·exact .inl ⟨a, ⟨h, h2⟩, e⟩
  ·exact .inr ⟨a, ⟨h, h2⟩, b, ⟨h3, h4⟩, q1, q2, q3⟩
theorem ra_ {m : Nat} {tq : Int} {ov : List Bool} (hn : ov.length ≤ 6) {t : Int} {r : List (List Int)} (h : r ∈ roL m tq ov t) : RdN ov.length r ∧ 0 < r.length := by
 have key : ∀ g ∈ Gn ov.length m, 0 < g.length ∧ g.length ≤ 6 ∧ ∀ x ∈ g, 0 ≤ x ∧ x < (ov.length : Int) := fun g hg => ⟨(qh_ hg).1, by have := qh_ hg; omega, rB_ hg⟩
 rcases (qC_ hn).1 h with ⟨a, ha, -, rfl⟩ | ⟨a, b, ha, -, hb, -, -, -, rfl⟩
 ·exact ⟨⟨by simp, fun g hg => by rw [List.mem_singleton.1 hg]; exact key a ha⟩, by simp⟩
 ·refine ⟨⟨by simp, fun g hg => ?_⟩, by simp⟩
  rcases List.mem_cons.1 hg with e | e
  ·rw [e]; exact key a ha
  ·rw [List.mem_singleton.1 e]; exact key b hb
theorem sd_ {ov : List Bool} {r : List (List Int)} (hr : ∀ g ∈ r, ∀ x ∈ g, 0 ≤ x ∧ x < (ov.length : Int)) {g : List Int} (hg : g ∈ r) (h0 : 0 < g.length) : (∀ x ∈ g, rdOf false (afO ov r) x = !(rdOf false ov x)) ∧ sd (afO ov r) g = !(sd ov g) ∧ okO (afO ov r) g = okO ov g := by
 have h1 : ∀ x ∈ g, rdOf false (afO ov r) x = !(rdOf false ov x) := by
  intro x hx
  have hb := hr g hg x hx
  unfold rdOf
  rw [qY_ hr (by omega : x.toNat < ov.length), if_pos ⟨g, hg, by rw [Int.toNat_of_nonneg hb.1]; exact hx⟩]
 have h2 : sd (afO ov r) g = !(sd ov g) := h1 _ (by
  unfold rd
  rw [List.getD_eq_getElem?_getD, List.getElem?_eq_getElem (by omega)]
  exact List.getElem_mem _)
 refine ⟨h1, h2, ?_⟩
 unfold okO
 rw [h2, Bool.eq_iff_iff, List.all_eq_true, List.all_eq_true]
 constructor
 ·intro h x hx
  have := h x hx
  rw [h1 x hx] at this
  revert this
  cases rdOf false ov x <;> cases sd ov g <;> simp
 ·intro h x hx
  have := h x hx
  rw [h1 x hx]
  revert this
  cases rdOf false ov x <;> cases sd ov g <;> simp
theorem rF_ {m : Nat} {tq : Int} {ov : List Bool} (hn : ov.length ≤ 6) {t : Int} (h0 : 0 ≤ t) (h1 : t ≤ tq) {r : List (List Int)} (h : r ∈ roL m tq ov t) :
  Cp ov.length tq (afO ov r, afT ov t r) ∧ r ∈ roL m tq (afO ov r) (afT ov t r) ∧ afO (afO ov r) r = ov ∧ afT (afO ov r) (afT ov t r) r = t := by
 obtain ⟨hR, hp⟩ := ra_ hn h
 have hr : ∀ g ∈ r, ∀ x ∈ g, 0 ≤ x ∧ x < (ov.length : Int) := fun g hg => (hR.2 g hg).2.2
 have hlen := qz_ ov r
 have hfl := fun g hg => sd_ hr (g := g) hg (hR.2 g hg).1
 have hback : afO (afO ov r) r = ov := by
  refine rz_ (by rw [qz_, qz_]) fun i hi => ?_
  rw [qz_, qz_] at hi
  rw [qY_ (by rw [hlen]; exact hr) (by rw [hlen]; exact hi), qY_ hr hi]
  by_cases c : ∃ g ∈ r, (i : Int) ∈ g
  ·rw [if_pos c, if_pos c, Bool.not_not]
  ·rw [if_neg c, if_neg c]
 rcases (qC_ hn).1 h with ⟨a, ha, oa, rfl⟩ | ⟨a, b, ha, oa, hb, ob, hab, htg, rfl⟩
 ·obtain ⟨-, f2, f3⟩ := hfl a (by simp)
  unfold okG at oa
  rw [Bool.and_eq_true, decide_eq_true_eq] at oa
  have eT : afT ov t [a] = if sd ov a = true then t - 1 else t + 1 := rfl
  have eT2 : ∀ t2, afT (afO ov [a]) t2 [a] = if sd (afO ov [a]) a = true then t2 - 1 else t2 + 1 := fun _ => rfl
  have ok : okG tq (afO ov [a]) (afT ov t [a]) a = true ∧ 0 ≤ afT ov t [a] ∧ afT ov t [a] ≤ tq ∧ afT (afO ov [a]) (afT ov t [a]) [a] = t := by
   unfold okG
   rw [eT2, f2, f3, oa.1, Bool.true_and, decide_eq_true_eq, eT]
   have o2 := oa.2
   unfold qZ_ at o2 ⊢
   cases e : sd ov a <;> rw [e] at o2 <;> simp at o2 ⊢ <;> omega
  exact ⟨⟨hlen, ok.2.1, ok.2.2.1⟩, (qC_ (by rw [hlen]; exact hn)).2 (.inl ⟨a, by rw [hlen]; exact ha, ok.1, rfl⟩), hback, ok.2.2.2⟩
 ·obtain ⟨-, f2, f3⟩ := hfl a (by simp)
  obtain ⟨-, g2, g3⟩ := hfl b (by simp)
  unfold okG at oa ob
  rw [Bool.and_eq_true, decide_eq_true_eq] at oa ob
  unfold tg at htg
  rw [Bool.and_eq_true, Bool.and_eq_true, decide_eq_true_eq] at htg
  obtain ⟨q1, q2, q3⟩ := htg
  have eT : afT ov t [a, b] = if sd ov b = true then (if sd ov a = true then t - 1 else t + 1) - 1 else (if sd ov a = true then t - 1 else t + 1) + 1 := rfl
  have eT2 : ∀ t2, afT (afO ov [a, b]) t2 [a, b] = if sd (afO ov [a, b]) b = true then (if sd (afO ov [a, b]) a = true then t2 - 1 else t2 + 1) - 1 else (if sd (afO ov [a, b]) a = true then t2 - 1 else t2 + 1) + 1 := fun _ => rfl
  have ok : okG tq (afO ov [a, b]) (afT ov t [a, b]) a = true ∧ okG tq (afO ov [a, b]) (afT ov t [a, b]) b = true ∧ tg tq (afO ov [a, b]) (afT ov t [a, b]) a b = true ∧ 0 ≤ afT ov t [a, b] ∧ afT ov t [a, b] ≤ tq ∧ afT (afO ov [a, b]) (afT ov t [a, b]) [a, b] = t := by
   unfold okG tg
   rw [eT2, f2, f3, g2, g3, oa.1, ob.1, Bool.true_and, Bool.true_and, decide_eq_true_eq, decide_eq_true_eq, decide_eq_true q1, q2, Bool.true_and, Bool.true_and, eT]
   have o2 := oa.2
   have o3 := ob.2
   unfold qZ_ at o2 o3 q3 ⊢
   cases ea : sd ov a <;> cases eb : sd ov b <;> rw [ea] at o2 <;> rw [eb] at o3 <;> rw [ea, eb] at q3 <;> simp at o2 o3 q3 ⊢ <;> omega
  exact ⟨⟨hlen, ok.2.2.2.1, ok.2.2.2.2.1⟩, (qC_ (by rw [hlen]; exact hn)).2 (.inr ⟨a, b, by rw [hlen]; exact ha, ok.1, by rw [hlen]; exact hb, ok.2.1, hab, ok.2.2.1, rfl⟩), hback, ok.2.2.2.2.2⟩
theorem rb_ (p : List Int → List Int → Bool) : ∀ L : List (List Int), L.length ≤ 63 → (ri_ p L).length ≤ 64 * L.length
 | [], _ => by simp [ri_]
 | a :: L, h => by
  rw [List.length_cons] at h
  have := rb_ p L (by omega)
  have := List.length_filter_le (p a) L
  simp only [ri_, List.length_cons, List.length_append, List.length_map]
  omega
theorem qR_ (m : Nat) (tq : Int) {ov : List Bool} (hn : ov.length ≤ 6) (t : Int) : (roL m tq ov t).length ≤ 4032 := by
 have h1 : (gpL m tq ov t).length ≤ (Gn ov.length m).length := List.length_filter_le _ _
 have h2 := rO_ m hn
 have := rb_ (tg tq ov t) (gpL m tq ov t) (by omega)
 unfold roL
 omega
theorem r9_ {α : Type} {l : List α} {i : Nat} (h : i < l.length) (z : α) : l.getD i z ∈ l := by
 rw [List.getD_eq_getElem?_getD, List.getElem?_eq_getElem h]
 exact List.getElem_mem h
structure Far (A : Nat → List (Nat × Nat)) (N : Nat) (S : Nat → Prop) (d : Nat → Int) : Prop where
 st : ∀ s, S s → d s = 0
 go : ∀ u, u < N → 0 ≤ d u → ∀ e ∈ A u, 0 ≤ d e.1 ∧ d e.1 ≤ d u + (e.2 : Int)
 by_ : ∀ v, v < N → 0 ≤ d v → S v ∨ ∃ u, u < N ∧ 0 ≤ d u ∧ ∃ c : Nat, (v, c) ∈ A u ∧ d v = d u + (c : Int)
def GrB (A : Nat → List (Nat × Nat)) (N C : Nat) : Prop := ∀ u, u < N → ∀ e ∈ A u, e.1 < N ∧ 1 ≤ e.2 ∧ e.2 ≤ C
theorem Far.le {A : Nat → List (Nat × Nat)} {N C : Nat} {S : Nat → Prop} {d d' : Nat → Int} (hA : GrB A N C) (h : Far A N S d) (h' : Far A N S d') : ∀ (n v : Nat), v < N → 0 ≤ d v → d v ≤ (n : Int) → 0 ≤ d' v ∧ d' v ≤ d v := by
 intro n
 induction n with
 | zero =>
  intro v hv h0 hn
  rcases h.by_ v hv h0 with hs | ⟨u, hu, hu0, c, hc, e⟩
  ·rw [h'.st v hs, h.st v hs]; omega
  ·have := (hA u hu _ hc).2.1
   simp only at this
   omega
 | succ n ih =>
  intro v hv h0 hn
  rcases h.by_ v hv h0 with hs | ⟨u, hu, hu0, c, hc, e⟩
  ·rw [h'.st v hs, h.st v hs]; omega
  ·have := (hA u hu _ hc).2.1
   simp only at this
   obtain ⟨i1, i2⟩ := ih u hu hu0 (by omega)
   have := h'.go u hu i1 _ hc
   simp only at this
   omega
def sumI : List Int → Int
 | [] => 0
 | x :: xs => x + sumI xs
def Aof (E : Int → List S90) (u : Nat) : List (Nat × Nat) := (E (u : Int)).map fun e => (e.f0.toNat, e.f1.toNat)
def dd (dist : List Int) (v : Nat) : Int := dist.getD v 0
theorem qS_ (dist : List Int) {x : Int} (h : 0 ≤ x) : rdOf 0 dist x = dd dist x.toNat := rfl
theorem st_ {dist : List Int} {u : Nat} (a : Int) (hu : u < dist.length) (v : Nat) : dd (dist.set u a) v = if v = u then a else dd dist v := by
 unfold dd
 rw [List.getD_eq_getElem?_getD, List.getD_eq_getElem?_getD, List.getElem?_set]
 by_cases h : v = u
 ·subst h
  simp [hu]
 ·rw [if_neg (fun e => h e.symm), if_neg h]
def GrI (E : Int → List S90) (N C G : Nat) : Prop := ∀ u : Nat, u < N → (E (u : Int)).length ≤ G ∧ ∀ e ∈ E (u : Int), 0 ≤ e.f0 ∧ e.f0 < (N : Int) ∧ 1 ≤ e.f1 ∧ e.f1 ≤ (C : Int)
theorem GrI.b {E : Int → List S90} {N C G : Nat} (h : GrI E N C G) : GrB (Aof E) N C := by
 intro u hu e he
 obtain ⟨x, hx, rfl⟩ := List.mem_map.1 he
 have := (h u hu).2 x hx
 simp only
 omega
theorem qN_ (n b : Nat) (w : List (List Int)) : (frPad n w).getD b [] = w.getD b [] := by
 unfold frPad
 rw [List.getD_eq_getElem?_getD, List.getD_eq_getElem?_getD, List.getElem?_append]
 by_cases h : b < w.length
 ·rw [if_pos h]
 ·rw [if_neg h, List.getElem?_eq_none (Nat.not_lt.1 h), List.getElem?_replicate]
  split <;> rfl
theorem qM_ (n : Nat) (w : List (List Int)) : (frPad n w).length = w.length + (n + 1 - w.length) := by
 unfold frPad
 rw [List.length_append, List.length_replicate]
theorem r1_ {w : List (List Int)} {u : Nat} (a : List Int) (hu : u < w.length) (v : Nat) : (w.set u a).getD v [] = if v = u then a else w.getD v [] := by
 rw [List.getD_eq_getElem?_getD, List.getD_eq_getElem?_getD, List.getElem?_set]
 by_cases h : v = u
 ·subst h
  simp [hu]
 ·rw [if_neg (fun e => h e.symm), if_neg h]
theorem qr_ {N C W L d : Nat} {dist : List Int} (hl : dist.length = N) (hW : W < 1000000) (hd : d + C + 1 ≤ W) : ∀ (es : List S90) (w : List (List Int)), (∀ e ∈ es, 0 ≤ e.f0 ∧ e.f0 < (N : Int) ∧ 1 ≤ e.f1 ∧ e.f1 ≤ (C : Int)) → w.length ≤ W → L < 1000000 → (∀ b, (w.getD b []).length + es.length ≤ L) →
  ∃ w', frEdges d dist es w = some w' ∧ w.length ≤ w'.length ∧ w'.length ≤ W ∧ (∀ b, ∃ t, w'.getD b [] = w.getD b [] ++ t ∧ t.length ≤ es.length ∧ ∀ x ∈ t, ∃ e ∈ es, x = e.f0 ∧ b = d + e.f1.toNat) ∧ ∀ e ∈ es, dd dist e.f0.toNat < 0 → e.f0 ∈ w'.getD (d + e.f1.toNat) []
 | [], w, _, hw, _, _ => ⟨w, rfl, Nat.le_refl _, hw, fun b => ⟨[], (List.append_nil _).symm, Nat.le_refl _, fun _ h => by cases h⟩, fun _ h => by cases h⟩
 | e :: es, w, he, hw, hL, hb => by
  have h1 := he e (by simp)
  have hlen : (e :: es).length = es.length + 1 := rfl
  unfold frEdges
  rw [if_pos ⟨h1.1, by omega⟩, qS_ _ h1.1]
  by_cases hs : dd dist e.f0.toNat ≥ 0
  ·rw [if_pos hs]
   obtain ⟨w', a1, a2, a3, a4, a5⟩ := qr_ (L := L) hl hW hd es w (fun x hx => he x (by simp [hx])) hw hL (fun b => by have := hb b; omega)
   refine ⟨w', a1, a2, a3, fun b => ?_, fun x hx hn => ?_⟩
   ·obtain ⟨t, t1, t2, t3⟩ := a4 b
    refine ⟨t, t1, by omega, fun x hx => ?_⟩
    obtain ⟨y, y1, y2⟩ := t3 x hx
    exact ⟨y, by simp [y1], y2⟩
   ·rcases List.mem_cons.1 hx with q | q
    ·rw [q] at hn; omega
    ·exact a5 x q hn
  ·rw [if_neg hs]
   have hp := qM_ (d + e.f1.toNat) w
   have hg := qN_ (d + e.f1.toNat) (d + e.f1.toNat) w
   have hbb := hb (d + e.f1.toNat)
   rw [hg, if_pos ⟨h1.2.2.1, by omega, by omega, by omega⟩]
   have hin : d + e.f1.toNat < (frPad (d + e.f1.toNat) w).length := by omega
   have hget : ∀ b, ((frPad (d + e.f1.toNat) w).set (d + e.f1.toNat) (w.getD (d + e.f1.toNat) [] ++ [e.f0])).getD b [] = if b = d + e.f1.toNat then w.getD (d + e.f1.toNat) [] ++ [e.f0] else w.getD b [] := by
    intro b
    rw [r1_ _ hin, qN_]
   obtain ⟨w', a1, a2, a3, a4, a5⟩ := qr_ (L := L) hl hW hd es ((frPad (d + e.f1.toNat) w).set (d + e.f1.toNat) (w.getD (d + e.f1.toNat) [] ++ [e.f0])) (fun x hx => he x (by simp [hx])) (by rw [List.length_set]; omega) hL (fun b => by
    rw [hget]
    have := hb b
    split
    ·rw [List.length_append, List.length_singleton]; omega
    ·omega)
   rw [List.length_set] at a2
   refine ⟨w', a1, by omega, a3, fun b => ?_, fun x hx hn => ?_⟩
   ·obtain ⟨t, t1, t2, t3⟩ := a4 b
    rw [hget] at t1
    by_cases q : b = d + e.f1.toNat
    ·rw [if_pos q] at t1
     refine ⟨e.f0 :: t, ?_, by rw [List.length_cons]; omega, fun x hx => ?_⟩
     ·rw [t1, q, List.append_assoc]; rfl
     ·rcases List.mem_cons.1 hx with h | h
      ·exact ⟨e, by simp, h, q⟩
      ·obtain ⟨y, y1, y2⟩ := t3 x h
       exact ⟨y, by simp [y1], y2⟩
    ·rw [if_neg q] at t1
     refine ⟨t, t1, by omega, fun x hx => ?_⟩
     obtain ⟨y, y1, y2⟩ := t3 x hx
     exact ⟨y, by simp [y1], y2⟩
   ·rcases List.mem_cons.1 hx with q | q
    ·obtain ⟨t, t1, -, -⟩ := a4 (d + e.f1.toNat)
     rw [hget, if_pos rfl] at t1
     rw [q, t1]
     simp
    ·exact a5 x q hn
def rA_ (d i : Nat) (w : List (List Int)) (b v : Nat) : Prop := d ≤ b ∧ (v : Int) ∈ (if b = d then (w.getD b []).drop i else w.getD b [])
def qk_ (dist : List Int) : Nat := dist.countP fun x => decide (0 ≤ x)
theorem rK_ {dist : List Int} {u : Nat} {a : Int} (hu : u < dist.length) (h : dd dist u < 0) (ha : 0 ≤ a) : qk_ (dist.set u a) = qk_ dist + 1 := by
 induction dist generalizing u with
 | nil => simp at hu
 | cons x xs ih =>
  cases u with
  | zero =>
   have hx : x < 0 := h
   unfold qk_
   rw [List.set_cons_zero, List.countP_cons, List.countP_cons, if_pos (by simpa using ha), if_neg (by simp; omega)]
  | succ u =>
   have := ih (u := u) (by simpa using hu) h
   unfold qk_ at this ⊢
   rw [List.set_cons_succ, List.countP_cons, List.countP_cons, this]
   omega
structure Bk (E : Int → List S90) (N C G B : Nat) (S : Nat → Prop) (d i : Nat) (dist : List Int) (w : List (List Int)) : Prop where
 len : dist.length = N
 low : ∀ v, v < N → -1 ≤ dd dist v
 set_ : ∀ v, v < N → dd dist v ≤ (d : Int)
 hi : ∀ v, v < N → dd dist v ≤ ((C * qk_ dist : Nat) : Int)
 wl : w.length ≤ C * qk_ dist + 1
 dl : d ≤ w.length
 ent : ∀ b, ∀ x ∈ w.getD b [], 0 ≤ x ∧ x < (N : Int) ∧ ((S x.toNat ∧ b = 0) ∨ ∃ u, u < N ∧ 0 ≤ dd dist u ∧ ∃ c : Nat, (x.toNat, c) ∈ Aof E u ∧ (b : Int) = dd dist u + (c : Int))
 sz : ∀ b, (w.getD b []).length ≤ B + G * qk_ dist
 st : ∀ s, S s → s < N ∧ (dd dist s = 0 ∨ dd dist s < 0 ∧ rA_ d i w 0 s)
 go : ∀ u, u < N → 0 ≤ dd dist u → ∀ e ∈ Aof E u, (0 ≤ dd dist e.1 ∧ dd dist e.1 ≤ dd dist u + (e.2 : Int)) ∨ (dd dist e.1 < 0 ∧ ∃ b : Nat, (b : Int) = dd dist u + (e.2 : Int) ∧ rA_ d i w b e.1)
 by_ : ∀ v, v < N → 0 ≤ dd dist v → S v ∨ ∃ u, u < N ∧ 0 ≤ dd dist u ∧ ∃ c : Nat, (v, c) ∈ Aof E u ∧ dd dist v = dd dist u + (c : Int)
theorem qX_ (dist : List Int) : qk_ dist ≤ dist.length := List.countP_le_length
theorem Bk.end_ {E : Int → List S90} {N C G B : Nat} {S : Nat → Prop} {d i : Nat} {dist : List Int} {w : List (List Int)} (h : Bk E N C G B S d i dist w) (hd : ¬ d < w.length) : Far (Aof E) N S (dd dist) := by
 have hn : ∀ b v, ¬ rA_ d i w b v := by
  intro b v ⟨h1, h2⟩
  have : w.getD b [] = [] := by rw [List.getD_eq_getElem?_getD, List.getElem?_eq_none (by omega)]; rfl
  rw [this] at h2
  split at h2 <;> simp at h2
 refine ⟨fun s hs => ?_, fun u hu h0 e he => ?_, h.by_⟩
 ·rcases (h.st s hs).2 with e | ⟨-, e⟩
  ·exact e
  ·exact absurd e (hn _ _)
 ·rcases h.go u hu h0 e he with q | ⟨-, b, -, q⟩
  ·exact q
  ·exact absurd q (hn _ _)
theorem Bk.next {E : Int → List S90} {N C G B : Nat} {S : Nat → Prop} {d i : Nat} {dist : List Int} {w : List (List Int)} (h : Bk E N C G B S d i dist w) (hd : d < w.length) (hi : ¬ i < (w.getD d []).length) : Bk E N C G B S (d + 1) 0 dist w := by
 have hp : ∀ b v, rA_ d i w b v → rA_ (d + 1) 0 w b v := by
  intro b v ⟨h1, h2⟩
  by_cases e : b = d
  ·rw [if_pos e, e, List.drop_eq_nil_of_le (Nat.not_lt.1 hi)] at h2
   simp at h2
  ·rw [if_neg e] at h2
   refine ⟨by omega, ?_⟩
   split
   ·rw [List.drop_zero]; exact h2
   ·exact h2
 refine { h with set_ := fun v hv => ?_, dl := hd, st := fun s hs => ?_, go := fun u hu h0 e he => ?_ }
 ·have := h.set_ v hv
  omega
 ·obtain ⟨a, b⟩ := h.st s hs
  exact ⟨a, b.imp id fun ⟨q1, q2⟩ => ⟨q1, hp _ _ q2⟩⟩
 ·exact (h.go u hu h0 e he).imp id fun ⟨q1, b, q2, q3⟩ => ⟨q1, b, q2, hp _ _ q3⟩
theorem qH_ {d i : Nat} {w : List (List Int)} {b v : Nat} (hi : i < (w.getD d []).length) (h : rA_ d i w b v) : (b = d ∧ (v : Int) = (w.getD d []).getD i 0) ∨ rA_ d (i + 1) w b v := by
 obtain ⟨h1, h2⟩ := h
 by_cases e : b = d
 ·rw [if_pos e, e, qd_ _ i hi 0] at h2
  rcases List.mem_cons.1 h2 with q | q
  ·exact .inl ⟨e, q⟩
  ·exact .inr ⟨h1, by rw [if_pos e, e]; exact q⟩
 ·rw [if_neg e] at h2
  exact .inr ⟨h1, by rw [if_neg e]; exact h2⟩
theorem Bk.skip {E : Int → List S90} {N C G B : Nat} {S : Nat → Prop} {d i : Nat} {dist : List Int} {w : List (List Int)} (h : Bk E N C G B S d i dist w) (hi : i < (w.getD d []).length) (hs : 0 ≤ dd dist ((w.getD d []).getD i 0).toNat) : Bk E N C G B S d (i + 1) dist w := by
 have hx := h.ent d _ (r9_ hi 0)
 have hp : ∀ b v, dd dist v < 0 → rA_ d i w b v → rA_ d (i + 1) w b v := by
  intro b v hv hq
  rcases qH_ hi hq with ⟨-, e⟩ | q
  ·rw [← e, Int.toNat_natCast] at hs; omega
  ·exact q
 refine { h with st := fun s hs => ?_, go := fun u hu h0 e he => ?_ }
 ·obtain ⟨a, b⟩ := h.st s hs
  exact ⟨a, b.imp id fun ⟨q1, q2⟩ => ⟨q1, hp _ _ q1 q2⟩⟩
 ·exact (h.go u hu h0 e he).imp id fun ⟨q1, b, q2, q3⟩ => ⟨q1, b, q2, hp _ _ q1 q3⟩
theorem Bk.settle {E : Int → List S90} {N C G B : Nat} {S : Nat → Prop} {d i : Nat} {dist : List Int} {w : List (List Int)} (hE : GrI E N C G) (h : Bk E N C G B S d i dist w) (hd : d < w.length) (hi : i < (w.getD d []).length) {v : Nat} (hv : (w.getD d []).getD i 0 = (v : Int)) (hs : dd dist v < 0)
  (hC : C * N + 1 < 1000000) (hG : B + G * N < 1000000) : ∃ w', frEdges d (dist.set v (d : Int)) (E (v : Int)) w = some w' ∧ Bk E N C G B S d (i + 1) (dist.set v (d : Int)) w' ∧ qk_ (dist.set v (d : Int)) = qk_ dist + 1 := by
 have hx := h.ent d _ (r9_ hi 0)
 rw [hv, Int.toNat_natCast] at hx
 have hvN : v < N := by omega
 have hvl : v < dist.length := by rw [h.len]; exact hvN
 have hcnt := rK_ (a := (d : Int)) hvl hs (by omega)
 have hcN : qk_ dist + 1 ≤ N := by
  have := qX_ (dist.set v (d : Int))
  rw [List.length_set, h.len, hcnt] at this
  exact this
 have hmC : C * (qk_ dist + 1) ≤ C * N := Nat.mul_le_mul_left _ hcN
 have hmG : G * (qk_ dist + 1) ≤ G * N := Nat.mul_le_mul_left _ hcN
 have eC : C * (qk_ dist + 1) = C * qk_ dist + C := Nat.mul_succ _ _
 have eG : G * (qk_ dist + 1) = G * qk_ dist + G := Nat.mul_succ _ _
 have hwl := h.wl
 obtain ⟨hEl, hEe⟩ := hE v hvN
 obtain ⟨w', a1, a2, a3, a4, a5⟩ := qr_ (N := N) (C := C) (W := C * (qk_ dist + 1) + 1) (L := B + G * (qk_ dist + 1)) (d := d) (dist := dist.set v (d : Int)) (by rw [List.length_set]; exact h.len) (by omega) (by omega) (E (v : Int)) w hEe (by omega) (by omega) (fun b => by have := h.sz b; omega)
 have hD : ∀ x, dd (dist.set v (d : Int)) x = if x = v then (d : Int) else dd dist x := st_ _ hvl
 have hDv : dd (dist.set v (d : Int)) v = (d : Int) := by rw [hD, if_pos rfl]
 have hDo : ∀ x, 0 ≤ dd dist x → dd (dist.set v (d : Int)) x = dd dist x := by
  intro x hx
  rw [hD, if_neg]
  intro e
  rw [e] at hx; omega
 have hw'd : w'.getD d [] = w.getD d [] := by
  obtain ⟨t, t1, -, t3⟩ := a4 d
  cases t with
  | nil => rw [t1, List.append_nil]
  | cons y t =>
   obtain ⟨e, e1, -, e2⟩ := t3 y (by simp)
   have := (hEe e e1).2.2.1
   omega
 have hp : ∀ b x, x ≠ v → rA_ d i w b x → rA_ d (i + 1) w' b x := by
  intro b x hxv hq
  rcases qH_ hi hq with ⟨-, e⟩ | ⟨q1, q2⟩
  ·rw [hv] at e; omega
  ·refine ⟨q1, ?_⟩
   by_cases e : b = d
   ·rw [if_pos e] at q2 ⊢
    rw [e] at q2 ⊢
    rw [hw'd]; exact q2
   ·rw [if_neg e] at q2 ⊢
    obtain ⟨t, t1, -, -⟩ := a4 b
    rw [t1]
    exact List.mem_append_left _ q2
 refine ⟨w', a1, ?_, hcnt⟩
 refine ⟨by rw [List.length_set]; exact h.len, fun x hx1 => ?_, fun x hx1 => ?_, fun x hx1 => ?_, by rw [hcnt]; exact a3, Nat.le_of_lt (Nat.lt_of_lt_of_le hd a2), fun b x hm => ?_, fun b => ?_, fun s hS => ?_, fun u hu h0 e he => ?_, fun x hx1 h0 => ?_⟩
 ·rw [hD]
  split
  ·omega
  ·exact h.low x hx1
 ·rw [hD]
  split
  ·omega
  ·exact h.set_ x hx1
 ·rw [hD, hcnt]
  have := h.hi x hx1
  split <;> omega
 ·obtain ⟨t, t1, -, t3⟩ := a4 b
  rw [t1] at hm
  rcases List.mem_append.1 hm with q | q
  ·obtain ⟨e1, e2, e3⟩ := h.ent b x q
   refine ⟨e1, e2, e3.imp id fun ⟨u, u1, u2, c, u3, u4⟩ => ⟨u, u1, ?_, c, u3, ?_⟩⟩
   ·rw [hDo u u2]; exact u2
   ·rw [hDo u u2]; exact u4
  ·obtain ⟨e, e1, e2, e3⟩ := t3 x q
   have he := hEe e e1
   refine ⟨by omega, by omega, .inr ⟨v, hvN, by rw [hDv]; omega, e.f1.toNat, ?_, by rw [hDv]; omega⟩⟩
   rw [e2]
   exact List.mem_map.2 ⟨e, e1, rfl⟩
 ·obtain ⟨t, t1, t2, -⟩ := a4 b
  have := h.sz b
  rw [t1, List.length_append, hcnt]
  omega
 ·obtain ⟨s1, s2⟩ := h.st s hS
  refine ⟨s1, ?_⟩
  by_cases e : s = v
  ·left
   rcases s2 with q | ⟨-, q⟩
   ·rw [e] at q; omega
   ·rw [e, hDv]
    have := q.1
    omega
  ·rw [hD, if_neg e]
   exact s2.imp id fun ⟨q1, q2⟩ => ⟨q1, hp _ _ e q2⟩
 ·by_cases q : u = v
  ·rw [q] at he
   obtain ⟨y, y1, y2⟩ := List.mem_map.1 he
   have hy := hEe y y1
   have hyN : y.f0.toNat < N := by omega
   rw [q, hDv, ← y2]
   simp only
   by_cases z : dd (dist.set v (d : Int)) y.f0.toNat < 0
   ·right
    refine ⟨z, d + y.f1.toNat, by omega, by omega, ?_⟩
    rw [if_neg (by omega), show ((y.f0.toNat : Nat) : Int) = y.f0 by omega]
    exact a5 y y1 z
   ·left
    refine ⟨by omega, ?_⟩
    have : dd (dist.set v (d : Int)) y.f0.toNat ≤ (d : Int) := by
     rw [hD]
     split
     ·exact Int.le_refl _
     ·exact h.set_ _ hyN
    omega
  ·have hu0 : 0 ≤ dd dist u := by
    rw [hD, if_neg q] at h0; exact h0
   rw [hDo u hu0]
   rcases h.go u hu hu0 e he with ⟨z1, z2⟩ | ⟨z1, b, z2, z3⟩
   ·left
    rw [hDo _ z1]; exact ⟨z1, z2⟩
   ·by_cases q2 : e.1 = v
    ·left
     rw [q2, hDv]
     have := z3.1
     omega
    ·right
     rw [hD, if_neg q2]
     exact ⟨z1, b, z2, hp _ _ q2 z3⟩
 ·by_cases q : x = v
  ·rcases hx.2.2 with ⟨z1, -⟩ | ⟨u, u1, u2, c, u3, u4⟩
   ·left; rw [q]; exact z1
   ·right
    refine ⟨u, u1, by rw [hDo u u2]; exact u2, c, by rw [q]; exact u3, ?_⟩
    rw [q, hDv, hDo u u2]; exact u4
  ·rw [hD, if_neg q] at h0
   rcases h.by_ x hx1 h0 with z | ⟨u, u1, u2, c, u3, u4⟩
   ·exact .inl z
   ·right
    refine ⟨u, u1, by rw [hDo u u2]; exact u2, c, u3, ?_⟩
    rw [hD, if_neg q, hDo u u2]; exact u4
theorem r4_ {E : Int → List S90} {N C G B : Nat} {S : Nat → Prop} (hE : GrI E N C G) (hC : C * N + 1 < 1000000) (hG : B + G * N < 1000000) : ∀ (a b l d i : Nat) (dist : List Int) (w : List (List Int)), N - qk_ dist ≤ a → C * N + 2 - d ≤ b → (w.getD d []).length - i ≤ l → Bk E N C G B S d i dist w →
  ∃ k r, frRun E (N : Int) k d i dist w = some r ∧ Far (Aof E) N S (dd r) ∧ r.length = N ∧ (∀ v, v < N → -1 ≤ dd r v) ∧ ∀ v, v < N → dd r v ≤ ((C * N : Nat) : Int) := by
 intro a
 induction a using Nat.strongRecOn with
 | _ a iha =>
 intro b
 induction b using Nat.strongRecOn with
 | _ b ihb =>
 intro l
 induction l using Nat.strongRecOn with
 | _ l ihl =>
 intro d i dist w ha hb hl h
 have hcl := qX_ dist
 rw [h.len] at hcl
 have hmC : C * qk_ dist ≤ C * N := Nat.mul_le_mul_left _ hcl
 have hmG : G * qk_ dist ≤ G * N := Nat.mul_le_mul_left _ hcl
 by_cases c1 : d < w.length
 ·have hwl := h.wl
  by_cases c2 : i < (w.getD d []).length
  ·obtain ⟨e1, e2, -⟩ := h.ent d _ (r9_ c2 0)
   obtain ⟨v, hv⟩ : ∃ v : Nat, (w.getD d []).getD i 0 = (v : Int) := ⟨((w.getD d []).getD i 0).toNat, by omega⟩
   have hvN : v < N := by omega
   have hEl := (hE v hvN).1
   have hG1 : 1 ≤ N := by omega
   have hGN : G * 1 ≤ G * N := Nat.mul_le_mul_left _ hG1
   have hsz := h.sz d
   have hrd : rdOf 0 (w.getD d []) (i : Int) = (v : Int) := hv
   have hcond : 0 ≤ (v : Int) ∧ (v : Int) < (N : Int) ∧ i < 1000000 ∧ d < 1000000 ∧ (E (v : Int)).length < 1000000 := ⟨by omega, by omega, by omega, by omega, by omega⟩
   by_cases c3 : dd dist v ≥ 0
   ·obtain ⟨k, r, hr, hq⟩ := ihl (l - 1) (by omega) d (i + 1) dist w ha hb (by omega) (h.skip c2 (by rw [hv]; exact c3))
    refine ⟨k + 1, r, ?_, hq⟩
    rw [frRun.eq_2, if_pos c1, if_pos c2, hrd, if_pos hcond, qS_ _ (by omega), Int.toNat_natCast, if_pos c3]
    exact hr
   ·obtain ⟨w', hw', hB', hc'⟩ := h.settle hE c1 c2 hv (by omega) hC hG
    have hc2 := qX_ (dist.set v (d : Int))
    rw [List.length_set, h.len] at hc2
    obtain ⟨k, r, hr, hq⟩ := iha (N - qk_ (dist.set v (d : Int))) (by omega) _ _ d (i + 1) (dist.set v (d : Int)) w' (Nat.le_refl _) (Nat.le_refl _) (Nat.le_refl _) hB'
    refine ⟨k + 1, r, ?_, hq⟩
    rw [frRun.eq_2, if_pos c1, if_pos c2, hrd, if_pos hcond, qS_ _ (by omega), Int.toNat_natCast, if_neg c3, hw', Option.bind_some]
    exact hr
  ·obtain ⟨k, r, hr, hq⟩ := ihb (b - 1) (by omega) _ (d + 1) 0 dist w ha (by omega) (Nat.le_refl _) (h.next c1 c2)
   refine ⟨k + 1, r, ?_, hq⟩
   rw [frRun.eq_2, if_pos c1, if_neg c2, if_pos (by omega)]
   exact hr
 ·refine ⟨1, dist, ?_, h.end_ c1, h.len, h.low, fun v hv => ?_⟩
  ·rw [frRun.eq_2, if_neg c1]
  ·have := h.hi v hv
   omega
def afC (s : List Bool × Int) (r : List (List Int)) : List Bool × Int := (afO s.1 r, afT s.1 s.2 r)
def ovr (s : List Bool × Int) : Bool := s.1.all fun b => b
structure FarX (n m : Nat) (tq : Int) (cs : List (List Int) → Int) (d : List Bool × Int → Int) : Prop where
 st : ∀ s, Cp n tq s → ovr s = true → d s = 0
 go : ∀ s, Cp n tq s → ∀ r ∈ roL m tq s.1 s.2, 0 ≤ d (afC s r) → 0 ≤ d s ∧ d s ≤ d (afC s r) + cs r
 by_ : ∀ s, Cp n tq s → 0 ≤ d s → ovr s = true ∨ ∃ r ∈ roL m tq s.1 s.2, 0 ≤ d (afC s r) ∧ d s = d (afC s r) + cs r
theorem qp_ {n m : Nat} {tq : Int} (hn : n ≤ 6) {s : List Bool × Int} (hs : Cp n tq s) {r : List (List Int)} (h : r ∈ roL m tq s.1 s.2) : Cp n tq (afC s r) ∧ r ∈ roL m tq (afC s r).1 (afC s r).2 ∧ afC (afC s r) r = s := by
 obtain ⟨h1, h2, h3⟩ := hs
 obtain ⟨a, b, c, d⟩ := rF_ (by omega) h2 h3 h
 rw [h1] at a
 exact ⟨a, b, Prod.ext c d⟩
theorem FarX.le {n m : Nat} {tq : Int} {cs : List (List Int) → Int} (hn : n ≤ 6) (hc : ∀ s, Cp n tq s → ∀ r ∈ roL m tq s.1 s.2, 1 ≤ cs r) {d d' : List Bool × Int → Int} (h : FarX n m tq cs d) (h' : FarX n m tq cs d') : ∀ (N : Nat) (s : List Bool × Int), Cp n tq s → 0 ≤ d s → d s ≤ (N : Int) → 0 ≤ d' s ∧ d' s ≤ d s := by
 intro N
 induction N with
 | zero =>
  intro s hs h0 hN
  rcases h.by_ s hs h0 with e | ⟨r, hr, hr0, e⟩
  ·rw [h'.st s hs e, h.st s hs e]; omega
  ·have := hc s hs r hr
   omega
 | succ N ih =>
  intro s hs h0 hN
  rcases h.by_ s hs h0 with e | ⟨r, hr, hr0, e⟩
  ·rw [h'.st s hs e, h.st s hs e]; omega
  ·have := hc s hs r hr
   obtain ⟨i1, i2⟩ := ih (afC s r) (qp_ hn hs hr).1 hr0 (by omega)
   have := h'.go s hs r hr i1
   omega
def csT (ts : List Int) (tm : Bool) (r : List (List Int)) : Int := if tm = true then tmR ts r else 1
theorem su_ {ts : List Int} (hts : ∀ x ∈ ts, 1 ≤ x ∧ x ≤ 1000) (hn : ts.length ≤ 6) {m : Nat} {tq : Int} (tm : Bool) {s : List Bool × Int} (hs : Cp ts.length tq s) {r : List (List Int)} (hr : r ∈ roL m tq s.1 s.2) : 1 ≤ csT ts tm r ∧ csT ts tm r ≤ 1000 := by
 obtain ⟨h1, h2⟩ := ra_ (by rw [hs.1]; exact hn) hr
 rw [hs.1] at h1
 unfold csT
 split
 ·exact sl_ hts h1 h2
 ·omega
def edN (ts : List Int) (m : Nat) (tq : Int) (tm : Bool) (c : Int) : List S90 := (roL m tq (cpI ts.length tq c.toNat).1 (cpI ts.length tq c.toNat).2).map fun r => ⟨(cdI (afC (cpI ts.length tq c.toNat) r) : Int), csT ts tm r, r⟩
theorem q5_ {ts : List Int} (hn : ts.length ≤ 6) {m : Nat} (se : Int) {tq : Int} (h1 : 1 ≤ tq) (h2 : tq ≤ 2) (tm : Bool) {s : List Bool × Int} (hs : Cp ts.length tq s) {k : Nat} (hk : 60 ≤ k) : ∀ (L : List (List (List Int))) (acc : List S90), (∀ r ∈ L, r ∈ roL m tq s.1 s.2) → acc.length + L.length ≤ 999999 →
  nightEd k ts se tq tm s.1 s.2 L acc = some (acc ++ L.map fun r => ⟨(cdI (afC s r) : Int), csT ts tm r, r⟩)
 | [], acc, _, _ => by simp [nightEd]
 | r :: L, acc, h, ha => by
  rw [List.length_cons] at ha
  have hr := h r (by simp)
  obtain ⟨e1, e2, e3⟩ := hs
  have hR := (ra_ (by omega) hr).1
  have hb := (qp_ hn ⟨e1, e2, e3⟩ hr).1
  have hC : nightC k ts se tq tm r = some (csT ts tm r) := by
   unfold nightC csT
   split
   ·exact qG_ se tq (by rw [← e1]; exact hR) (by omega)
   ·rfl
  unfold nightEd
  rw [hC, Option.bind_some, (rh_ (by omega) e2 (by omega) hR (by omega)).1, Option.bind_some]
  show (Option.bind (impl_Camp_code.f k (afC s r).1 (afC s r).2) _) = _
  rw [(rg_ hn h1 h2 hb (by omega)).1, Option.bind_some, if_pos (by omega), q5_ hn se h1 h2 tm ⟨e1, e2, e3⟩ hk L _ (fun x hx => h x (by simp [hx])) (by rw [List.length_append, List.length_singleton]; omega)]
  simp
theorem ry_ {ts : List Int} (hn : ts.length ≤ 6) (m : Nat) {tq : Int} (h1 : 1 ≤ tq) (h2 : tq ≤ 2) (tm : Bool) {c : Nat} (hc : c < NN ts.length tq) {k : Nat} (hk : 60 ≤ k) : nightG k ts (m : Int) tq tm (c : Int) = some (edN ts m tq tm (c : Int)) := by
 obtain ⟨p1, p2, -⟩ := q6_ hn h1 h2 hc rfl (m : Int) (by omega : 20 ≤ k)
 have hl := qR_ m tq (ov := (cpI ts.length tq c).1) (by rw [p2.1]; exact hn) (cpI ts.length tq c).2
 unfold nightG
 rw [p1, Option.bind_some, rs_ p2.2.1 p2.2.2 h2 ts m (by rw [p2.1]; exact hn) (by omega), Option.bind_some, if_pos (by omega), q5_ hn (m : Int) h1 h2 tm p2 hk _ _ (fun r hr => hr) (by simp only [List.length_nil]; omega)]
 unfold edN
 rw [Int.toNat_natCast]
 rfl
theorem r7_ {ts : List Int} (hts : ∀ x ∈ ts, 1 ≤ x ∧ x ≤ 1000) (hn : ts.length ≤ 6) (m : Nat) {tq : Int} (h1 : 1 ≤ tq) (h2 : tq ≤ 2) (tm : Bool) : GrI (edN ts m tq tm) (NN ts.length tq) 1000 4032 := by
 intro u hu
 obtain ⟨-, p2, -⟩ := q6_ hn h1 h2 hu rfl (m : Int) (Nat.le_refl 20)
 unfold edN
 rw [Int.toNat_natCast, List.length_map]
 refine ⟨qR_ m tq (by rw [p2.1]; exact hn) _, fun e he => ?_⟩
 obtain ⟨r, hr, rfl⟩ := List.mem_map.1 he
 have hb := (qp_ hn p2 hr).1
 have hq := (rg_ hn h1 h2 hb (Nat.le_refl 20)).2.1
 have hcs := su_ hts hn tm p2 hr
 simp only
 omega
theorem r3_ {E : Int → List S90} {N C G B : Nat} (hE : GrI E N C G) {L : List Int} (hL : ∀ x ∈ L, 0 ≤ x ∧ x < (N : Int)) (hB0 : L.length ≤ B) (hN0 : 0 < N) (hN : N ≤ 1000000) (hC : C * N + 1 < 1000000) (hG : B + G * N < 1000000) :
  ∃ k r, impl_graph_int_from.f E k (N : Int) L = some r ∧ Far (Aof E) N (fun v => (v : Int) ∈ L) (dd r) ∧ r.length = N ∧ (∀ v, v < N → -1 ≤ dd r v) ∧ ∀ v, v < N → dd r v ≤ ((C * N : Nat) : Int) := by
 have hdd : ∀ v, v < N → dd (List.replicate N (-1)) v = -1 := by
  intro v hv
  unfold dd
  rw [List.getD_eq_getElem?_getD, List.getElem?_replicate, if_pos hv]
  rfl
 have hc0 : qk_ (List.replicate N (-1)) = 0 := by
  unfold qk_
  rw [List.countP_eq_zero]
  intro x hx
  rw [(List.mem_replicate.1 hx).2]
  decide
 have hB : Bk E N C G B (fun v => (v : Int) ∈ L) 0 0 (List.replicate N (-1)) [L] := by
  refine ⟨by simp, fun v hv => by rw [hdd v hv]; omega, fun v hv => by rw [hdd v hv]; omega, fun v hv => by rw [hdd v hv]; omega, by simp, by simp, fun b x hx => ?_, fun b => ?_, fun t ht => ?_, fun u hu h0 => ?_, fun v hv h0 => ?_⟩
  ·cases b with
   | zero =>
    have hx2 : x ∈ L := hx
    have := hL x hx2
    exact ⟨this.1, this.2, .inl ⟨by rw [Int.toNat_of_nonneg this.1]; exact hx2, rfl⟩⟩
   | succ b => simp at hx
  ·cases b with
   | zero => simp; omega
   | succ b => simp
  ·have := hL _ ht
   have htN : t < N := by omega
   exact ⟨htN, .inr ⟨by rw [hdd t htN]; omega, Nat.le_refl _, by simpa using ht⟩⟩
  ·rw [hdd u hu] at h0; omega
  ·rw [hdd v hv] at h0; omega
 obtain ⟨k, r, hr, hq⟩ := r4_ hE hC hG N (C * N + 2) _ 0 0 (List.replicate N (-1)) [L] (by omega) (by omega) (Nat.le_refl _) hB
 refine ⟨k, r, ?_, hq⟩
 unfold impl_graph_int_from.f slices_Repeat_int_int.f
 rw [if_pos (by omega), if_pos (show [-1].length = 1 from rfl), if_pos (by omega), if_pos (by omega)]
 show frRun E (N : Int) k 0 0 (List.replicate (N : Int).toNat (-1)) [L] = some r
 rw [Int.toNat_natCast]
 exact hr
theorem rN_ {n : Nat} {tq : Int} (hn : n ≤ 6) (h1 : 1 ≤ tq) (h2 : tq ≤ 2) : 0 < NN n tq ∧ NN n tq ≤ 192 := by
 have h3 : 2 ^ n ≤ 2 ^ 6 := Nat.pow_le_pow_right (by decide) hn
 have h4 : 0 < 2 ^ n := Nat.pow_pos (by omega)
 unfold NN
 have h5 : (tq + 1).toNat ≤ 3 := by omega
 have h6 : 0 < (tq + 1).toNat := by omega
 have h7 : (tq + 1).toNat * 2 ^ n ≤ 3 * 2 ^ 6 := Nat.mul_le_mul h5 h3
 exact ⟨Nat.mul_pos h6 h4, by omega⟩
theorem ss_ {ts : List Int} (hn : ts.length ≤ 6) (m : Nat) {tq : Int} (h1 : 1 ≤ tq) (h2 : tq ≤ 2) (tm : Bool) {L : List Int} {k0 : Nat} {r : List Int} (h : impl_graph_int_from.f (edN ts m tq tm) k0 (NN ts.length tq : Int) L = some r) {k : Nat} (hk : k0 ≤ k) (hk2 : 60 ≤ k) : frG (nightG k ts (m : Int) tq tm) k (ngN tq ts.length) L = some r := by
 obtain ⟨-, q2, -⟩ := qV_ hn h1 h2
 have hg : ∀ s : Int, 0 ≤ s → s < (NN ts.length tq : Int) → nightG k ts (m : Int) tq tm s = some (edN ts m tq tm s) := by
  intro s s0 s1
  have := ry_ hn m h1 h2 tm (c := s.toNat) (by omega) hk2
  rwa [Int.toNat_of_nonneg s0] at this
 unfold frG
 rw [q2, if_pos]
 ·have h3 := qj_ (f := fun k => impl_graph_int_from.f (edN ts m tq tm) k (NN ts.length tq : Int) L) (fun k => impl_graph_int_from.mono _ _ _ _) hk h
  have hc : ∀ s, 0 ≤ s → s < (NN ts.length tq : Int) → grE (nightG k ts (m : Int) tq tm) s = edN ts m tq tm s := fun s s0 s1 => by unfold grE; rw [hg s s0 s1]; rfl
  unfold impl_graph_int_from.f at h3 ⊢
  simp only [frRun_congr hc]
  exact h3
 ·unfold grAll
  rw [List.all_eq_true]
  intro i hi
  rw [List.mem_range] at hi
  rw [hg (i : Int) (by omega) (by omega)]
  rfl
theorem q3_ {l : List Int} {s t : Int} {b : Nat} (hb : b ≤ 1048576) (hn : l.length ≤ 9223372036854775807) : laws_szNight.f l s t (b : Int) = some (if l.length ≤ b then ((b - l.length : Nat) : Int) else -1) := by
 unfold laws_szNight.f laws_szIntS.f
 rw [qb_ (by omega) (by omega)]
 by_cases h : l.length ≤ b
 ·rw [if_neg (by omega), Option.bind_some, if_neg (by omega), if_pos h]
  congr 1
  omega
 ·rw [if_pos (by omega), Option.bind_some, if_pos (by omega), if_neg h]
theorem q2_ {l : List Int} (hn : l.length ≤ 1048576) (s t : Int) {k : Nat} (hk : l.length < k) : laws_toNight.f k l s t = some (l, s, t) := by
 unfold laws_toNight.f
 rw [rq_ hn hk]
 rfl
theorem qx_ {α : Type} [BEq α] [LawfulBEq α] : ∀ {a b : List α}, a.Nodup → b.Nodup → (∀ x, x ∈ a ↔ x ∈ b) → a.Perm b := by
 intro a b ha hb h
 rw [List.perm_iff_count]
 intro x
 rw [ha.count, hb.count]
 by_cases c : x ∈ a
 ·rw [if_pos c, if_pos ((h x).1 c)]
 ·rw [if_neg c, if_neg fun q => c ((h x).2 q)]
theorem rx_ {l : List Nat} {N : Nat} (hd : l.Nodup) (h : ∀ v ∈ l, v < N) : l.length ≤ N := by
 have hp := qx_ hd (List.Pairwise.filter (fun v => decide (v ∈ l)) (List.nodup_range (n := N))) (fun x => by
  rw [List.mem_filter, List.mem_range, decide_eq_true_eq]
  exact ⟨fun q => ⟨h x q, q⟩, fun q => q.2⟩)
 rw [hp.length_eq]
 have := List.length_filter_le (fun v => decide (v ∈ l)) (List.range N)
 rwa [List.length_range] at this
def dn (l : List Bool) (v : Nat) : Bool := l.getD v false
theorem rR_ {l : List Bool} {u : Nat} (a : Bool) (hu : u < l.length) (v : Nat) : dn (l.set u a) v = if v = u then a else dn l v := by
 unfold dn
 rw [List.getD_eq_getElem?_getD, List.getD_eq_getElem?_getD, List.getElem?_set]
 by_cases h : v = u
 ·subst h
  simp [hu]
 ·rw [if_neg (fun e => h e.symm), if_neg h]
theorem rY_ (l : List Bool) (v : Nat) : rdOf false l (v : Int) = dn l v := rfl
structure BI (n m : Nat) (tq : Int) (P : List Bool × Int → Prop) (x : List Bool) (Q : List Int) (i : Nat) : Prop where
 len : x.length = NN n tq
 nd : Q.Nodup
 mem : ∀ v ∈ Q, ∃ s, Cp n tq s ∧ v = (cdS tq s : Int) ∧ P s
 seen : ∀ v, v < NN n tq → (dn x v = true ↔ (v : Int) ∈ Q)
 i0 : i ≤ Q.length
 z0 : (0 : Int) ∈ Q
 done : ∀ j, j < i → ∀ r ∈ roL m tq (cpS n tq (Q.getD j 0).toNat).1 (cpS n tq (Q.getD j 0).toNat).2, (cdS tq (afC (cpS n tq (Q.getD j 0).toNat) r) : Int) ∈ Q
theorem re_ {l : List Int} {a : Int} {j : Nat} (h : j < l.length) : (l ++ [a]).getD j 0 = l.getD j 0 := by
 rw [List.getD_eq_getElem?_getD, List.getD_eq_getElem?_getD, List.getElem?_append_left h]
theorem BI.le {n m : Nat} {tq : Int} {P : List Bool × Int → Prop} {x : List Bool} {Q : List Int} {i : Nat} (hn : n ≤ 6) (h1 : 1 ≤ tq) (h2 : tq ≤ 2) (h : BI n m tq P x Q i) : Q.length ≤ NN n tq := by
 have key : ∀ v ∈ Q, 0 ≤ v ∧ v < (NN n tq : Int) := fun v hv => by
  obtain ⟨s, hs, e, -⟩ := h.mem v hv
  have := (qf_ hn h1 h2 hs [] 0 (Nat.le_refl 20)).2.1
  omega
 have hnd : (Q.map Int.toNat).Nodup := by
  have : ∀ {l : List Int}, l.Nodup → (∀ v ∈ l, 0 ≤ v) → (l.map Int.toNat).Nodup := by
   intro l
   induction l with
   | nil => intro _ _; exact List.nodup_nil
   | cons a l ih =>
    intro hnd hp
    rw [List.nodup_cons] at hnd
    rw [List.map_cons, List.nodup_cons]
    refine ⟨fun q => ?_, ih hnd.2 fun v hv => hp v (by simp [hv])⟩
    obtain ⟨b, hb, e⟩ := List.mem_map.1 q
    have h3 := hp a (by simp)
    have h4 := hp b (by simp [hb])
    have : b = a := by omega
    rw [this] at hb
    exact hnd.1 hb
  exact this h.nd fun v hv => (key v hv).1
 have := rx_ (N := NN n tq) hnd fun v hv => by
  obtain ⟨b, hb, e⟩ := List.mem_map.1 hv
  have := key b hb
  omega
 rwa [List.length_map] at this
theorem s0_ {ts : List Int} (hn : ts.length ≤ 6) {m : Nat} (se : Int) {tq : Int} (h1 : 1 ≤ tq) (h2 : tq ≤ 2) {P : List Bool × Int → Prop} {s : List Bool × Int} (hs : Cp ts.length tq s) (hP : ∀ r ∈ roL m tq s.1 s.2, P (afC s r)) {L : List (List (List Int))} (hL : L = roL m tq s.1 s.2) {i : Nat} : ∀ (d j : Nat) (x : List Bool) (Q : List Int), j + d = L.length → i < Q.length → (Q.getD i 0) = (cdS tq s : Int) → BI ts.length m tq P x Q i → (∀ r ∈ L.take j, (cdS tq (afC s r) : Int) ∈ Q) →
  ∃ x' Q', BI ts.length m tq P x' Q' (i + 1) ∧ ∀ K, 100 ≤ K → spec_CountCampsReached.l1 (K + 1 + d) x Q (i : Int) L (L.length : Int) (j : Int) ts se tq s.1 s.2 = spec_CountCampsReached.l0 K x' Q' ((i + 1 : Nat) : Int) ts se tq := by
 intro d
 induction d with
 | zero =>
  intro j x Q hj hi hQ h ht
  have hle := h.le hn h1 h2
  have hN := (rN_ hn h1 h2).2
  refine ⟨x, Q, { h with i0 := hi, done := fun j2 hj2 r hr => ?_ }, fun K hK => ?_⟩
  ·by_cases e : j2 = i
   ·rw [e, hQ, Int.toNat_natCast, (qf_ hn h1 h2 hs ts 0 (Nat.le_refl 20)).2.2] at hr ⊢
    refine ht r ?_
    rw [List.take_of_length_le (by omega), hL]
    exact hr
   ·exact h.done j2 (by omega) r hr
  ·rw [show K + 1 + 0 = K + 1 by omega, spec_CountCampsReached.l1.eq_2, if_neg (by omega), qa_ hi (by omega)]
 | succ d ih =>
  intro j x Q hj hi hQ h ht
  have hle := h.le hn h1 h2
  have hN := (rN_ hn h1 h2).2
  have hlt : j < L.length := by omega
  obtain ⟨r, hr⟩ : ∃ r, rd_L3 L (j : Int) = r := ⟨_, rfl⟩
  have hrm : r ∈ roL m tq s.1 s.2 := by rw [← hr, ← hL]; exact ql_ hlt
  have hT : L.take (j + 1) = L.take j ++ [r] := by rw [← hr]; exact qL_ L j hlt []
  obtain ⟨e1, e2, e3⟩ := hs
  have hR := (ra_ (by omega) hrm).1
  have hb := (qp_ hn ⟨e1, e2, e3⟩ hrm).1
  obtain ⟨-, v2, v3⟩ := qf_ hn h1 h2 hb ts se (Nat.le_refl 20)
  have hLl : L.length ≤ 4032 := by rw [hL]; exact qR_ m tq (by omega) _
  have hvl : cdS tq (afC s r) < x.length := by rw [h.len]; exact v2
  have step : ∀ k, 100 ≤ k → spec_CountCampsReached.l1 (k + 1) x Q (i : Int) L (L.length : Int) (j : Int) ts se tq s.1 s.2 = if dn x (cdS tq (afC s r)) = true then spec_CountCampsReached.l1 k x Q (i : Int) L (L.length : Int) ((j + 1 : Nat) : Int) ts se tq s.1 s.2 else spec_CountCampsReached.l1 k (x.set (cdS tq (afC s r)) true) (Q ++ [(cdS tq (afC s r) : Int)]) (i : Int) L (L.length : Int) ((j + 1 : Nat) : Int) ts se tq s.1 s.2 := by
   intro k hk
   rw [spec_CountCampsReached.l1.eq_2, if_pos (by omega), if_pos (by omega), if_pos (by omega), hr, (rh_ (by omega) e2 (by omega) hR (by omega)).2, Option.bind_some]
   show (Option.bind (spec_toCode.f k ts se tq (afC s r).1 (afC s r).2) _) = _
   rw [(qf_ hn h1 h2 hb ts se (by omega : 20 ≤ k)).1, Option.bind_some, if_pos (by omega), if_pos (by omega), rY_, if_pos (by omega : Q.length < 17592186044416), qa_ hlt (by omega), Int.toNat_natCast]
  by_cases c : dn x (cdS tq (afC s r)) = true
  ·have hm := (h.seen _ v2).1 c
   obtain ⟨x', Q', i1, i2⟩ := ih (j + 1) x Q (by omega) hi hQ h (fun r' hr' => by
    rw [hT] at hr'
    rcases List.mem_append.1 hr' with q | q
    ·exact ht r' q
    ·rw [List.mem_singleton.1 q]; exact hm)
   refine ⟨x', Q', i1, fun K hK => ?_⟩
   rw [show K + 1 + (d + 1) = (K + 1 + d) + 1 by omega, step _ (by omega), if_pos c]
   exact i2 K hK
  ·have hm : ¬ (cdS tq (afC s r) : Int) ∈ Q := fun q => c ((h.seen _ v2).2 q)
   have hB : BI ts.length m tq P (x.set (cdS tq (afC s r)) true) (Q ++ [(cdS tq (afC s r) : Int)]) i := by
    refine ⟨by rw [List.length_set]; exact h.len, ?_, fun v hv => ?_, fun v hv => ?_, by rw [List.length_append]; have := h.i0; omega, List.mem_append_left _ h.z0, fun j2 hj2 r' hr' => ?_⟩
    ·rw [List.nodup_append]
     refine ⟨h.nd, by simp, fun a ha b hb2 e => ?_⟩
     rw [List.mem_singleton.1 hb2] at e
     rw [e] at ha
     exact hm ha
    ·rcases List.mem_append.1 hv with q | q
     ·exact h.mem v q
     ·exact ⟨afC s r, hb, List.mem_singleton.1 q, hP r hrm⟩
    ·rw [rR_ true hvl, List.mem_append, List.mem_singleton]
     by_cases q : v = cdS tq (afC s r)
     ·rw [if_pos q]; exact ⟨fun _ => .inr (by rw [q]), fun _ => rfl⟩
     ·rw [if_neg q, h.seen v hv]
      exact ⟨.inl, fun o => o.resolve_right (by omega)⟩
    ·have := h.i0
     rw [re_ (by omega)] at hr' ⊢
     exact List.mem_append_left _ (h.done j2 hj2 r' hr')
   obtain ⟨x', Q', i1, i2⟩ := ih (j + 1) _ _ (by omega) (by rw [List.length_append]; omega) (by rw [re_ hi]; exact hQ) hB (fun r' hr' => by
    rw [hT] at hr'
    rcases List.mem_append.1 hr' with q | q
    ·exact List.mem_append_left _ (ht r' q)
    ·rw [List.mem_singleton.1 q]; simp)
   refine ⟨x', Q', i1, fun K hK => ?_⟩
   rw [show K + 1 + (d + 1) = (K + 1 + d) + 1 by omega, step _ (by omega), if_neg c]
   exact i2 K hK
theorem s1_ {ts : List Int} (hn : ts.length ≤ 6) (m : Nat) {tq : Int} (h1 : 1 ≤ tq) (h2 : tq ≤ 2) {P : List Bool × Int → Prop} (hP : ∀ s, Cp ts.length tq s → P s → ∀ r ∈ roL m tq s.1 s.2, P (afC s r)) : ∀ (d i : Nat) (x : List Bool) (Q : List Int), NN ts.length tq - i ≤ d → BI ts.length m tq P x Q i →
  ∃ k x' Q', spec_CountCampsReached.l0 k x Q (i : Int) ts (m : Int) tq = some ((Q'.length : Int), true) ∧ BI ts.length m tq P x' Q' Q'.length := by
 intro d
 induction d with
 | zero =>
  intro i x Q hd h
  have hle := h.le hn h1 h2
  have := h.i0
  have e : i = Q.length := by omega
  subst e
  refine ⟨1, x, Q, ?_, h⟩
  rw [spec_CountCampsReached.l0.eq_2, if_neg (by omega)]
 | succ d ih =>
  intro i x Q hd h
  have hle := h.le hn h1 h2
  have hi0 := h.i0
  by_cases c : i < Q.length
  ·obtain ⟨s, hs, e, hp⟩ := h.mem (Q.getD i 0) (by
    rw [List.getD_eq_getElem?_getD, List.getElem?_eq_getElem c]
    exact List.getElem_mem c)
   obtain ⟨-, u2, u3⟩ := qf_ hn h1 h2 hs ts 0 (Nat.le_refl 20)
   obtain ⟨x1, Q1, j1, j2⟩ := s0_ hn (m : Int) h1 h2 hs (hP s hs hp) (L := roL m tq s.1 s.2) rfl _ 0 x Q (Nat.zero_add _) c e h (fun r hr => by simp at hr)
   obtain ⟨k, x', Q', a1, a2⟩ := ih (i + 1) x1 Q1 (by omega) j1
   refine ⟨k + 8000 + 1 + (roL m tq s.1 s.2).length + 1, x', Q', ?_, a2⟩
   have hq : rd Q (i : Int) = (cdS tq s : Int) := e
   rw [spec_CountCampsReached.l0.eq_2, if_pos (by omega), if_pos (by omega), hq, (sv_ hn h1 h2 u2 rfl (m : Int) (by omega)).1, Option.bind_some, u3, qQ_ hs.2.1 hs.2.2 h2 h1 m hs.1 hn (by omega), Option.bind_some]
   refine (j2 (k + 8000) (by omega)).trans ?_
   exact qj_ (f := fun k => spec_CountCampsReached.l0 k x1 Q1 ((i + 1 : Nat) : Int) ts (m : Int) tq) (fun k => (spec_CountCampsReached.mono_l k).1 _ _ _ _ _ _) (by omega) a1
  ·have e : i = Q.length := by omega
   subst e
   refine ⟨1, x, Q, ?_, h⟩
   rw [spec_CountCampsReached.l0.eq_2, if_neg (by omega)]
theorem qA_ : ∀ (L : List Int) (a : Int), 0 ≤ a → a + (L.length : Int) ≤ 1000000 → rcRun L a = a + (qk_ L : Int)
 | [], a, _, _ => by simp [rcRun, qk_]
 | x :: L, a, h0, h1 => by
  rw [List.length_cons] at h1
  unfold rcRun
  have hc : (qk_ (x :: L) : Int) = (if 0 ≤ x then 1 else 0) + (qk_ L : Int) := by
   unfold qk_
   rw [List.countP_cons]
   by_cases c : 0 ≤ x
   ·rw [if_pos c, if_pos (by simpa using c)]; omega
   ·rw [if_neg c, if_neg (by simpa using c)]; omega
  by_cases c : 0 ≤ x
  ·rw [if_pos c] at hc ⊢
   rw [qb_ (by omega) (by omega), qA_ L _ (by omega) (by omega), hc]
   omega
  ·rw [if_neg c] at hc ⊢
   rw [qb_ (by omega) (by omega), qA_ L _ (by omega) (by omega), hc]
   omega
theorem rn_ (l : List Int) : qk_ l = ((List.range l.length).filter fun v => decide (0 ≤ dd l v)).length := by
 have key : ∀ l : List Int, (List.range l.length).map (fun v => dd l v) = l := by
  intro l
  apply List.ext_getElem
  ·simp
  ·intro i h1 h2
   rw [List.getElem_map, List.getElem_range]
   unfold dd
   rw [List.getD_eq_getElem?_getD, List.getElem?_eq_getElem h2]
   rfl
 have h : qk_ l = qk_ ((List.range l.length).map fun v => dd l v) := by rw [key l]
 rw [h]
 unfold qk_
 rw [List.countP_map, List.countP_eq_length_filter]
 rfl
theorem ro_ {ts : List Int} {se tq : Int} (hg : qs_ ts se tq = true) : ∃ k0 a, ∀ k, k0 ≤ k → (frG (nightG k ts se tq false) k (ngN tq ts.length) [0]).bind rcFin = some a ∧ ∀ x0 : List Bool, x0 = (List.replicate (NN ts.length tq) false).set 0 true → spec_CountCampsReached.l0 k x0 [0] 0 ts se tq = some (a, true) := by
 obtain ⟨g1, g2, g3, g4, g5, g6, g7⟩ := qI_ hg
 have hm : se = ((se.toNat : Nat) : Int) := by omega
 obtain ⟨m, hm2⟩ : ∃ m, m = se.toNat := ⟨_, rfl⟩
 rw [hm, ← hm2]
 obtain ⟨n1, n2⟩ := rN_ g3 g6 g7
 obtain ⟨-, -, -, q4, q5⟩ := qV_ g3 g6 g7
 have h3 : 1000 * NN ts.length tq ≤ 1000 * 192 := Nat.mul_le_mul_left _ n2
 have h4 : 4032 * NN ts.length tq ≤ 4032 * 192 := Nat.mul_le_mul_left _ n2
 obtain ⟨k1, r, hr, hf, hl, hlow, -⟩ := r3_ (r7_ g1 g3 m g6 g7 false) (L := [0]) (fun x hx => by rw [List.mem_singleton.1 hx]; omega) (B := 1) (by simp) n1 (by omega) (by omega) (by omega)
 have hs0 : Cp ts.length tq (List.replicate ts.length false, 0) := ⟨by simp, by simp, by simp only; omega⟩
 have hI := fun s hs => rg_ g3 g6 g7 (s := s) hs (Nat.le_refl 20)
 have hS := fun s hs => qf_ g3 g6 g7 (s := s) hs ts 0 (Nat.le_refl 20)
 have hedge : ∀ s, Cp ts.length tq s → ∀ r' ∈ roL m tq s.1 s.2, (cdI (afC s r'), (csT ts false r').toNat) ∈ Aof (edN ts m tq false) (cdI s) := by
  intro s hs r' hr'
  unfold Aof edN
  rw [Int.toNat_natCast, List.map_map, List.mem_map]
  obtain ⟨-, -, c3⟩ := hI s hs
  rw [c3]
  exact ⟨r', hr', by simp only [Function.comp_apply, Int.toNat_natCast]⟩
 have hP : ∀ s, Cp ts.length tq s → 0 ≤ dd r (cdI s) → ∀ r' ∈ roL m tq s.1 s.2, 0 ≤ dd r (cdI (afC s r')) := fun s hs h0 r' hr' => (hf.go _ (hI s hs).2.1 h0 _ (hedge s hs r' hr')).1
 have hB : BI ts.length m tq (fun s => 0 ≤ dd r (cdI s)) ((List.replicate (NN ts.length tq) false).set 0 true) [0] 0 := by
  refine ⟨by simp, by simp, fun v hv => ?_, fun v hv => ?_, by simp, by simp, fun j hj => by omega⟩
  ·refine ⟨_, hs0, by rw [List.mem_singleton.1 hv, q5]; rfl, ?_⟩
   rw [q4, hf.st 0 (by simp)]
   exact Int.le_refl _
  ·rw [rR_ true (by simpa using n1)]
   by_cases c : v = 0
   ·rw [if_pos c]; simp [c]
   ·rw [if_neg c]
    have e : dn (List.replicate (NN ts.length tq) false) v = false := by
     unfold dn
     rw [List.getD_eq_getElem?_getD, List.getElem?_replicate, if_pos hv]
     rfl
    rw [e]
    simp
    omega
 obtain ⟨k2, x', Q, h5, h6⟩ := s1_ g3 m g6 g7 hP (NN ts.length tq) 0 _ _ (by omega) hB
 have hcl : ∀ s, Cp ts.length tq s → (cdS tq s : Int) ∈ Q → ∀ r' ∈ roL m tq s.1 s.2, (cdS tq (afC s r') : Int) ∈ Q := by
  intro s hs hq r' hr'
  obtain ⟨j, hj, e⟩ := List.mem_iff_getElem.1 hq
  have h7 := h6.done j hj r'
  rw [show Q.getD j 0 = (cdS tq s : Int) by rw [List.getD_eq_getElem?_getD, List.getElem?_eq_getElem hj]; exact e, Int.toNat_natCast, (hS s hs).2.2] at h7
  exact h7 hr'
 have hall : ∀ (N : Nat) (s : List Bool × Int), Cp ts.length tq s → 0 ≤ dd r (cdI s) → dd r (cdI s) ≤ (N : Int) → (cdS tq s : Int) ∈ Q := by
  intro N
  induction N with
  | zero =>
   intro s hs h0 hN
   rcases hf.by_ _ (hI s hs).2.1 h0 with e | ⟨u, hu, hu0, c, hmm, e⟩
   ·have e2 : cdI s = cdI (List.replicate ts.length false, 0) := by rw [q4]; simpa using e
    have e3 := (hI s hs).2.2
    rw [e2, (hI _ hs0).2.2] at e3
    rw [← e3, q5]
    exact h6.z0
   ·have := (r7_ g1 g3 m g6 g7 false).b u hu _ hmm
    simp only at this
    omega
  | succ N ih =>
   intro s hs h0 hN
   rcases hf.by_ _ (hI s hs).2.1 h0 with e | ⟨u, hu, hu0, c, hmm, e⟩
   ·have e2 : cdI s = cdI (List.replicate ts.length false, 0) := by rw [q4]; simpa using e
    have e3 := (hI s hs).2.2
    rw [e2, (hI _ hs0).2.2] at e3
    rw [← e3, q5]
    exact h6.z0
   ·have hc := (r7_ g1 g3 m g6 g7 false).b u hu _ hmm
    simp only at hc
    obtain ⟨-, p2, p3⟩ := q6_ g3 g6 g7 hu rfl (m : Int) (Nat.le_refl 20)
    unfold Aof edN at hmm
    rw [Int.toNat_natCast, List.map_map, List.mem_map] at hmm
    obtain ⟨r', hr', e4⟩ := hmm
    simp only [Function.comp_apply, Int.toNat_natCast, Prod.mk.injEq] at e4
    have hb := (qp_ g3 p2 hr').1
    have e5 : afC (cpI ts.length tq u) r' = s := by
     have h8 := (hI _ hb).2.2
     rw [e4.1, (hI s hs).2.2] at h8
     exact h8.symm
    have h9 := hcl _ p2 (ih _ p2 (by rw [p3]; exact hu0) (by rw [p3]; omega)) r' hr'
    rw [e5] at h9
    exact h9
 have hmem : ∀ v, v ∈ Q ↔ v ∈ ((List.range (NN ts.length tq)).filter fun v => decide (0 ≤ dd r v)).map fun v => (cdS tq (cpI ts.length tq v) : Int) := by
  intro v
  rw [List.mem_map]
  constructor
  ·intro hv
   obtain ⟨s, hs, e, hp⟩ := h6.mem v hv
   refine ⟨cdI s, List.mem_filter.2 ⟨List.mem_range.2 (hI s hs).2.1, decide_eq_true hp⟩, ?_⟩
   rw [(hI s hs).2.2, e]
  ·rintro ⟨u, hu, e⟩
   obtain ⟨hu, hp⟩ := List.mem_filter.1 hu
   rw [List.mem_range] at hu
   obtain ⟨-, p2, p3⟩ := q6_ g3 g6 g7 hu rfl (m : Int) (Nat.le_refl 20)
   rw [← e]
   exact hall _ _ p2 (by rw [p3]; exact of_decide_eq_true hp) (Int.self_le_toNat _)
 have hnd : (((List.range (NN ts.length tq)).filter fun v => decide (0 ≤ dd r v)).map fun v => (cdS tq (cpI ts.length tq v) : Int)).Nodup := by
  have key : ∀ {l : List Nat}, l.Nodup → (∀ v ∈ l, v < NN ts.length tq) → (l.map fun v => (cdS tq (cpI ts.length tq v) : Int)).Nodup := by
   intro l
   induction l with
   | nil => intro _ _; exact List.nodup_nil
   | cons a l ih =>
    intro hd hp
    rw [List.nodup_cons] at hd
    rw [List.map_cons, List.nodup_cons]
    refine ⟨fun q => ?_, ih hd.2 fun v hv => hp v (by simp [hv])⟩
    obtain ⟨b, hb, e⟩ := List.mem_map.1 q
    obtain ⟨-, pa, pa3⟩ := q6_ g3 g6 g7 (hp a (by simp)) rfl (m : Int) (Nat.le_refl 20)
    obtain ⟨-, pb, pb3⟩ := q6_ g3 g6 g7 (hp b (by simp [hb])) rfl (m : Int) (Nat.le_refl 20)
    have e1 := (hS _ pa).2.2
    have e2 := (hS _ pb).2.2
    rw [show cdS tq (cpI ts.length tq b) = cdS tq (cpI ts.length tq a) by omega, e1] at e2
    rw [e2, pb3] at pa3
    rw [← pa3] at hd
    exact hd.1 hb
  exact key (List.Pairwise.filter _ List.nodup_range) fun v hv => List.mem_range.1 (List.mem_filter.1 hv).1
 have hlen : Q.length = qk_ r := by
  have := (qx_ h6.nd hnd hmem).length_eq
  rw [this, List.length_map, rn_, hl]
 refine ⟨k1 + k2 + 60, (Q.length : Int), fun k hk => ⟨?_, fun x0 hx0 => ?_⟩⟩
 ·rw [ss_ g3 m g6 g7 false hr (by omega) (by omega), Option.bind_some]
  unfold rcFin
  rw [if_pos (by omega), qA_ r 0 (Int.le_refl _) (by omega), hlen]
  exact congrArg some (Int.zero_add _)
 ·rw [hx0]
  exact qj_ (f := fun k => spec_CountCampsReached.l0 k ((List.replicate (NN ts.length tq) false).set 0 true) [0] ((0 : Nat) : Int) ts (m : Int) tq) (fun k => (spec_CountCampsReached.mono_l k).1 _ _ _ _ _ _) (by omega) h5
theorem both {l : List Int} (hl : l.length ≤ 1048576) (s t : Int) : ∃ k0, ∀ k, k0 ≤ k → ∃ x, spec_CountCampsReached.f k l s t = some x ∧ impl_CountCampsReached.f k l s t = some x := by
 cases hg : qs_ l s t
 ·refine ⟨l.length + 1, fun k hk => ⟨(0, false), ?_, ?_⟩⟩
  ·unfold spec_CountCampsReached.f
   rw [qF_ (by omega) s t (by omega), hg, Option.bind_some, if_neg (by decide)]
  ·unfold impl_CountCampsReached.f
   rw [q7_, hg, Option.bind_some, if_neg (by decide)]
 ·obtain ⟨g1, g2, g3, g4, g5, g6, g7⟩ := qI_ hg
  obtain ⟨n1, n2⟩ := rN_ g3 g6 g7
  obtain ⟨-, -, q3, -⟩ := qV_ g3 g6 g7
  obtain ⟨k0, a, h⟩ := ro_ hg
  refine ⟨k0 + l.length + 1, fun k hk => ⟨(a, true), ?_, ?_⟩⟩
  ·unfold spec_CountCampsReached.f
   rw [qF_ (by omega) s t (by omega), hg, Option.bind_some, if_pos rfl, q3, if_pos (by omega), if_pos (by omega), Option.bind_some, Int.toNat_natCast, if_pos (by rw [List.length_replicate]; omega)]
   exact (h k (by omega)).2 _ rfl
  ·unfold impl_CountCampsReached.f
   rw [q7_, hg, Option.bind_some, if_pos rfl, (h k (by omega)).1, Option.bind_some]
theorem pure : ∀ (l0_0 : List Int) (a0_1 : Int) (a0_2 : Int), (∀ y0 ∈ l0_0, Opn.okI y0) → l0_0.length ≤ 9223372036854775807 → Opn.okI a0_1 → Opn.okI a0_2 → ∃ k, laws_FnExactCountCampsReached.f k l0_0 a0_1 a0_2 = some true := by
 intro l s t _ hl _ _
 by_cases h1 : l.length ≤ 1048576
 ·obtain ⟨k0, hk0⟩ := both h1 s t
  refine ⟨k0 + l.length + 5 + 1, ?_⟩
  obtain ⟨x, e1, e2⟩ := hk0 (k0 + l.length + 5 + 1) (by omega)
  unfold laws_FnExactCountCampsReached.f
  rw [show (1048576 : Int) = ((1048576 : Nat) : Int) by rfl, q3_ (Nat.le_refl _) hl, Option.bind_some, if_pos h1, if_neg (by omega), q2_ h1 s t (by omega)]
  simp only [Option.bind_some, e1, e2]
  rw [if_pos trivial]
  simp only [laws_FnExactCountCampsReached.j0]
  rw [if_neg (by simp), q2_ h1 s t (by omega)]
  simp only [Option.bind_some]
  rw [rm_ hl s t (by omega), Option.bind_some, if_pos rfl]
 ·refine ⟨1, ?_⟩
  unfold laws_FnExactCountCampsReached.f
  rw [show (1048576 : Int) = ((1048576 : Nat) : Int) by rfl, q3_ (Nat.le_refl _) hl, Option.bind_some, if_neg h1, if_pos (by omega)]
end Go.Proofs.Ytmdbhpbogbekmaa.fnExactCountCampsReached
