/- FnExactFirstRides, the plain statement: what the printed functions compute makes the law's function return true. Conditions: the numbers are of their kind. -/
import Derived.Test.YthkchdfkeieabaaOpn
import Derived.Test.YthkchdfkeieabaaQGrx19
namespace Go.Proofs.Ythkchdfkeieabaa.fnExactFirstRides
open Go.RowKit Go.Proofs.YthkchdfkeieabaaW.PrintWords Go.Proofs.YthkchdfkeieabaaW.PrintLast Go.Proofs.YthkchdfkeieabaaW.PrintMore Go.Proofs.Ythkchdfkeieabaa.QGr
open List (getD_eq_getElem?_getD length_set length_append length_singleton map_cons nil_append getElem?_eq_getElem append_assoc map_congr_left drop_length mem_cons countP_cons all_eq_true length_cons mem_map length_replicate length_nil append_nil mem_append map_append mem_range mem_singleton filter_cons take_length map_nil mem_append_left drop_zero length_map map_map)
set_option linter.unusedVariables false
set_option linter.unusedSimpArgs false

def inB (x a b : Int) : Bool := decide (a ≤ x) && decide (x ≤ b)
theorem inB_true {x a b : Int} : inB x a b = true ↔ a ≤ x ∧ x ≤ b := by simp [inB]
theorem qg_ {n : Int} (h0 : -9223372036854775808 ≤ n) (h1 : n ≤ 9223372036854775807) : wrap64 n = n := by
 unfold wrap64
 omega
theorem qa_ {i n : Nat} (h : i < n) (hn : n ≤ 9223372036854775807) : wrap64 ((i : Int) + 1) = ((i + 1 : Nat) : Int) := by
 unfold wrap64
 omega
theorem q0_ {α : Type} (l : List α) (i : Nat) (h : i < l.length) (z : α) : l.take (i + 1) = l.take i ++ [l.getD i z] := by
 rw [List.take_succ_eq_append_getElem h, getD_eq_getElem?_getD, getElem?_eq_getElem h]
 rfl
theorem qf_ {α : Type} (l : List α) (i : Nat) (h : i < l.length) (z : α) : l.drop i = l.getD i z :: l.drop (i + 1) := by
 rw [List.drop_eq_getElem_cons h, getD_eq_getElem?_getD, getElem?_eq_getElem h]
 rfl
theorem r0_ {α : Type} (l : List α) (i : Nat) (h : i < l.length) (v : α) : (l.set i v).take (i + 1) = l.take i ++ [v] := by
 rw [List.take_succ_eq_append_getElem (by rw [length_set]; exact h), List.take_set_of_le (Nat.le_refl i), List.getElem_set_self]
theorem qb_ {k d : Nat} (h : d < k) : ∃ m, k = m + 1 := ⟨k - 1, by omega⟩
theorem rx_ {α β : Type} (f : α → β) (l : List α) (i : Nat) (h : i < l.length) (z : α) (y : β) : (l.map f).getD i y = f (l.getD i z) := by
 rw [getD_eq_getElem?_getD, getD_eq_getElem?_getD, List.getElem?_map, getElem?_eq_getElem h]
 rfl
theorem qS_ (x a b : Int) : spec_l1In.f x a b = some (inB x a b) := by
 unfold spec_l1In.f inB
 by_cases h : a ≤ x <;> simp [h]
theorem uf_ (x a b : Int) : impl_in.f x a b = some (inB x a b) := by
 unfold impl_in.f inB
 by_cases h : a ≤ x <;> simp [h]
theorem rP_ {l : List Int} (hn : l.length ≤ 9223372036854775807) : ∀ (d k i : Nat) (x : List Int), i + d = l.length → x.length = l.length → x.take i = l.take i → d < k → laws_toIntS.l0 k l x (i : Int) = some l := by
 intro d
 induction d with
 | zero =>
  intro k i x hi hx ht hk
  obtain ⟨k, rfl⟩ := qb_ hk
  simp only [laws_toIntS.l0]
  rw [if_neg (by omega)]
  rw [show i = l.length by omega, take_length, ← hx, take_length] at ht
  rw [ht]
 | succ d ih =>
  intro k i x hi hx ht hk
  obtain ⟨k, rfl⟩ := qb_ hk
  have hlt : i < l.length := by omega
  simp only [laws_toIntS.l0]
  rw [if_pos (by omega), if_pos (by omega), if_pos (by omega), qa_ hlt hn]
  refine ih k (i + 1) _ (by omega) (by rw [length_set]; exact hx) ?_ (by omega)
  rw [Int.toNat_natCast, r0_ _ _ (by omega), ht, q0_ l i hlt 0]
  rfl
theorem rQ_ {l : List Int} (hn : l.length ≤ 1048576) {k : Nat} (hk : l.length < k) : laws_toIntS.f k l = some l := by
 unfold laws_toIntS.f
 rw [if_pos (by omega), if_pos (by omega)]
 exact rP_ (by omega) l.length k 0 _ (by omega) (by simp) (by simp) hk
theorem sj_ {l : List Int} (hn : l.length ≤ 9223372036854775807) : ∀ (d k i : Nat), i + d = l.length → d < k → laws_eqIntS.l0 k l l (i : Int) = some true := by
 intro d
 induction d with
 | zero =>
  intro k i hi hk
  obtain ⟨k, rfl⟩ := qb_ hk
  simp only [laws_eqIntS.l0]
  rw [if_neg (by omega)]
 | succ d ih =>
  intro k i hi hk
  obtain ⟨k, rfl⟩ := qb_ hk
  have hlt : i < l.length := by omega
  simp only [laws_eqIntS.l0]
  rw [if_pos (by omega), if_pos (by omega), if_pos (by omega), if_pos trivial, qa_ hlt hn]
  exact ih k (i + 1) (by omega) (by omega)
theorem sk_ {l : List Int} (hn : l.length ≤ 9223372036854775807) {k : Nat} (hk : l.length < k) : laws_eqIntS.f k l l = some true := by
 unfold laws_eqIntS.f
 rw [if_pos rfl]
 exact sj_ hn l.length k 0 (by omega) hk
theorem s9_ (l : List Int) (a b c d : Int) : impl_areIn.f l a b c d = some (inB (l.length : Int) c d && l.all fun x => inB x a b) := by
 unfold impl_areIn.f inB
 simp [List.not_any_eq_all_not]
theorem qE_ {α : Type} {l : List α} {i : Nat} (h : i < l.length) (z : α) : l.getD i z ∈ l := by
 rw [getD_eq_getElem?_getD, getElem?_eq_getElem h]
 exact List.getElem_mem h
theorem q9_ (l : List (List Int)) (i : Nat) : rd_L1 l (i : Int) = l.getD i [] := by
 unfold rd_L1
 rw [Int.toNat_natCast]
theorem r8_ {l : List (List Int)} (hn : l.length ≤ 1048576) (hl : ∀ x ∈ l, x.length ≤ 9223372036854775807) : ∀ (d k i : Nat) (a : Int), i + d = l.length → 0 ≤ a → a ≤ 1048576 → d < k → ∃ z, laws_szIntSS.l0 k l a (i : Int) = some z ∧ (z < 0 ∨ ∀ x ∈ l.drop i, x.length ≤ 1048576) := by
 intro d
 induction d with
 | zero =>
  intro k i a hi _ _ hk
  obtain ⟨k, rfl⟩ := qb_ hk
  simp only [laws_szIntSS.l0]
  rw [if_neg (by omega), List.drop_of_length_le (by omega)]
  exact ⟨_, rfl, .inr (fun x hx => by simp at hx)⟩
 | succ d ih =>
  intro k i a hi h0 h1 hk
  obtain ⟨k, rfl⟩ := qb_ hk
  have hlt : i < l.length := by omega
  have hx := hl _ (qE_ hlt [])
  simp only [laws_szIntSS.l0, q9_, laws_szIntS.f]
  rw [if_pos (by omega), if_pos (by omega), qg_ (n := a - ((l.getD i []).length : Int)) (by omega) (by omega), qa_ hlt (by omega)]
  by_cases hc : a - ((l.getD i []).length : Int) < 0
  ·rw [if_pos hc, Option.bind_some, if_pos (by omega)]
   exact ⟨_, rfl, .inl (by omega)⟩
  ·rw [if_neg hc, Option.bind_some, if_neg hc]
   obtain ⟨z, hz, h⟩ := ih k (i + 1) (a - ((l.getD i []).length : Int)) (by omega) (by omega) (by omega) (by omega)
   refine ⟨z, hz, h.imp_right fun h => ?_⟩
   rw [qf_ l i hlt []]
   intro x hx
   rcases mem_cons.1 hx with rfl | hx
   ·omega
   ·exact h x hx
theorem r6_ {l : List (List Int)} (hn : l.length ≤ 1048576) (hl : ∀ x ∈ l, x.length ≤ 1048576) : ∀ (d k i : Nat) (x : List (List Int)), i + d = l.length → x.length = l.length → x.take i = l.take i → d + 1048577 < k → laws_toIntSS.l0 k l x (i : Int) = some l := by
 intro d
 induction d with
 | zero =>
  intro k i x hi hx ht hk
  obtain ⟨k, rfl⟩ := qb_ hk
  simp only [laws_toIntSS.l0]
  rw [if_neg (by omega)]
  rw [show i = l.length by omega, ← hx, take_length, hx, take_length] at ht
  rw [ht]
 | succ d ih =>
  intro k i x hi hx ht hk
  obtain ⟨k, rfl⟩ := qb_ hk
  have hlt : i < l.length := by omega
  have hm := hl _ (qE_ hlt [])
  simp only [laws_toIntSS.l0, q9_]
  rw [if_pos (by omega), if_pos (by omega), rQ_ hm (by omega), Option.bind_some, if_pos (by omega), qa_ hlt (by omega)]
  refine ih k (i + 1) _ (by omega) (by rw [length_set]; exact hx) ?_ (by omega)
  rw [Int.toNat_natCast, r0_ _ _ (by omega), ht, q0_ l i hlt []]
theorem r7_ {l : List (List Int)} (hn : l.length ≤ 1048576) (hl : ∀ x ∈ l, x.length ≤ 1048576) {k : Nat} (hk : l.length + 1048577 < k) : laws_toIntSS.f k l = some l := by
 unfold laws_toIntSS.f
 rw [if_pos (by omega), if_pos (by omega)]
 exact r6_ hn hl l.length k 0 _ (by omega) (by simp) (by simp) hk
theorem rM_ {l : List (List Int)} (hn : l.length ≤ 1048576) (hl : ∀ x ∈ l, x.length ≤ 1048576) : ∀ (d k i : Nat), i + d = l.length → d + 1048577 < k → laws_eqIntSS.l0 k l l (i : Int) = some true := by
 intro d
 induction d with
 | zero =>
  intro k i hi hk
  obtain ⟨k, rfl⟩ := qb_ hk
  simp only [laws_eqIntSS.l0]
  rw [if_neg (by omega)]
 | succ d ih =>
  intro k i hi hk
  obtain ⟨k, rfl⟩ := qb_ hk
  have hlt : i < l.length := by omega
  have hm := hl _ (qE_ hlt [])
  simp only [laws_eqIntSS.l0, q9_]
  rw [if_pos (by omega), if_pos (by omega), if_pos (by omega), sk_ (by omega) (by omega), Option.bind_some, if_pos rfl, qa_ hlt (by omega)]
  exact ih k (i + 1) (by omega) (by omega)
theorem qM_ {l : List (List Int)} (hn : l.length ≤ 1048576) (hl : ∀ x ∈ l, x.length ≤ 1048576) {k : Nat} (hk : l.length + 1048577 < k) : laws_eqIntSS.f k l l = some true := by
 unfold laws_eqIntSS.f
 rw [if_pos rfl]
 exact rM_ hn hl l.length k 0 (by omega) hk
theorem rs_ {m : Nat} (hm : m ≤ 100000000) : ∀ (d k i : Nat) (l : List Int), i + d = l.length → l.length ≤ 1048576 → (∀ j, j < i → l.getD j 0 = ((m + j : Nat) : Int)) → d < k →
  ∃ l', laws_markIntS.l0 k l ((m + i : Nat) : Int) (i : Int) = some (((m + l.length : Nat) : Int), l') ∧ l'.length = l.length ∧ ∀ j, j < l.length → l'.getD j 0 = ((m + j : Nat) : Int) := by
 intro d
 induction d with
 | zero =>
  intro k i l hi hn hp hk
  obtain ⟨k, rfl⟩ := qb_ hk
  simp only [laws_markIntS.l0]
  refine ⟨l, ?_, rfl, fun j hj => hp j (by omega)⟩
  rw [if_neg (by omega), show m + i = m + l.length by omega]
 | succ d ih =>
  intro k i l hi hn hp hk
  obtain ⟨k, rfl⟩ := qb_ hk
  have hlt : i < l.length := by omega
  have e1 : wrap64 (((m + i : Nat) : Int) + 1) = ((m + (i + 1) : Nat) : Int) := by unfold wrap64; omega
  have e2 : ((i : Int)).toNat = i := by omega
  simp only [laws_markIntS.l0]
  rw [if_pos (by omega), if_pos (by omega), qa_ hlt (by omega), e1, e2]
  obtain ⟨l', h1, h2, h3⟩ := ih k (i + 1) (l.set i ((m + i : Nat) : Int)) (by rw [length_set]; omega) (by rw [length_set]; exact hn) (by
   intro j hj
   by_cases h : j = i
   ·subst h
    rw [getD_eq_getElem?_getD, List.getElem?_set_self hlt]
    rfl
   ·rw [getD_eq_getElem?_getD, List.getElem?_set_ne (Ne.symm h), ← getD_eq_getElem?_getD]
    exact hp j (by omega)) (by omega)
  rw [length_set] at h1 h2 h3
  exact ⟨l', h1, h2, h3⟩
theorem rt_ {m : Nat} (hm : m ≤ 100000000) {l : List Int} (hn : l.length ≤ 1048576) {k : Nat} (hk : l.length < k) :
  ∃ l', laws_markIntS.f k l (m : Int) = some (((m + l.length : Nat) : Int), l') ∧ l'.length = l.length ∧ ∀ j, j < l.length → l'.getD j 0 = ((m + j : Nat) : Int) := by
 unfold laws_markIntS.f
 exact rs_ hm l.length k 0 l (by omega) hn (fun j hj => absurd hj (Nat.not_lt_zero j)) hk
theorem rv_ {m : Nat} (hm : m ≤ 100000000) {l : List Int} (hn : l.length ≤ 1048576) (h : ∀ j, j < l.length → l.getD j 0 = ((m + j : Nat) : Int)) : ∀ (d k i : Nat), i + d = l.length → d < k →
  laws_heldIntS.l0 k l ((m + i : Nat) : Int) (i : Int) = some ((m + l.length : Nat) : Int) := by
 intro d
 induction d with
 | zero =>
  intro k i hi hk
  obtain ⟨k, rfl⟩ := qb_ hk
  simp only [laws_heldIntS.l0]
  rw [if_neg (by omega), show m + i = m + l.length by omega]
 | succ d ih =>
  intro k i hi hk
  obtain ⟨k, rfl⟩ := qb_ hk
  have hlt : i < l.length := by omega
  have e1 : wrap64 (((m + i : Nat) : Int) + 1) = ((m + (i + 1) : Nat) : Int) := by unfold wrap64; omega
  simp only [laws_heldIntS.l0]
  rw [if_pos (by omega), if_pos (by omega), if_pos (show rd l (i : Int) = _ from h i hlt), qa_ hlt (by omega), e1]
  exact ih k (i + 1) (by omega) (by omega)
theorem rw_ {m : Nat} (hm : m ≤ 100000000) {l : List Int} (hn : l.length ≤ 1048576) (h : ∀ j, j < l.length → l.getD j 0 = ((m + j : Nat) : Int)) {k : Nat} (hk : l.length < k) : laws_heldIntS.f k l (m : Int) = some ((m + l.length : Nat) : Int) := by
 unfold laws_heldIntS.f
 exact rv_ hm hn h l.length k 0 (by omega) hk
def ro_ : Nat → List (List Int) → Nat → Prop
 | m, [], m' => m = m'
 | m, r :: rs, m' => (∀ j, j < r.length → r.getD j 0 = ((m + j : Nat) : Int)) ∧ ro_ (m + r.length) rs m'
theorem qA_ : ∀ (a b : List (List Int)) (m m1 m2 : Nat), ro_ m a m1 → ro_ m1 b m2 → ro_ m (a ++ b) m2
 | [], _, _, _, _, h, k => by
  have e : _ = _ := h
  subst e
  exact k
 | r :: a, b, m, m1, m2, h, k => ⟨h.1, qA_ a b (m + r.length) m1 m2 h.2 k⟩
theorem rV_ : ∀ (rest done : List (List Int)) (k m0 m : Nat), ro_ m0 done m → (∀ r ∈ rest, r.length ≤ 10) → done.length + rest.length ≤ 2000 → m + 10 * rest.length ≤ 100000 → rest.length + 12 < k →
  ∃ (m' : Nat) (rest' : List (List Int)), laws_markIntSS.l0 k (done ++ rest) (m : Int) (done.length : Int) = some ((m' : Int), done ++ rest') ∧ rest'.length = rest.length ∧ (∀ r ∈ rest', r.length ≤ 10) ∧ ro_ m0 (done ++ rest') m' ∧ m' ≤ 100000 := by
 intro rest
 induction rest with
 | nil =>
  intro done k m0 m hd hr hl hm hk
  obtain ⟨k, rfl⟩ := qb_ hk
  simp only [laws_markIntSS.l0]
  rw [append_nil, if_neg (by omega)]
  exact ⟨m, [], by rw [append_nil], rfl, by simp, by rw [append_nil]; exact hd, by omega⟩
 | cons r rest ih =>
  intro done k m0 m hd hr hl hm hk
  obtain ⟨k, rfl⟩ := qb_ hk
  have hr0 := hr r List.mem_cons_self
  simp only [length_cons] at hl hm hk
  have hlen : (done ++ r :: rest).length = done.length + (rest.length + 1) := by simp
  obtain ⟨r', e1, e2, e3⟩ := rt_ (m := m) (by omega) (l := r) (by omega) (k := k) (by omega)
  have eg : (done ++ r :: rest).getD (done.length : Int).toNat [] = r := by
   rw [Int.toNat_natCast, getD_eq_getElem?_getD, List.getElem?_append_right (Nat.le_refl _), Nat.sub_self]
   rfl
  have es : (done ++ r :: rest).set (done.length : Int).toNat r' = (done ++ [r']) ++ rest := by
   rw [Int.toNat_natCast, List.set_append_right _ _ (Nat.le_refl _), Nat.sub_self, append_assoc]
   rfl
  simp only [laws_markIntSS.l0]
  rw [if_pos (by omega), if_pos (by omega), eg, e1, Option.bind_some]
  dsimp only
  rw [es, qa_ (n := (done ++ r :: rest).length) (by omega) (by omega)]
  have hd2 : ro_ m0 (done ++ [r']) (m + r.length) := qA_ done [r'] m0 m _ hd ⟨by rw [e2]; exact e3, by rw [e2]; rfl⟩
  obtain ⟨m', rest', f1, f2, f3, f4, f5⟩ := ih (done ++ [r']) k m0 (m + r.length) hd2 (fun q hq => hr q (List.mem_cons_of_mem _ hq)) (by simp; omega) (by omega) (by omega)
  have hdl : (done ++ [r']).length = done.length + 1 := by simp
  rw [hdl] at f1
  refine ⟨m', r' :: rest', ?_, by simp [f2], ?_, ?_, f5⟩
  ·rw [f1, append_assoc]
   rfl
  ·intro q hq
   rcases mem_cons.1 hq with rfl | hq
   ·omega
   ·exact f3 q hq
  ·rw [append_assoc] at f4
   exact f4
theorem se_ {l : List (List Int)} (hn : l.length ≤ 2000) (hr : ∀ r ∈ l, r.length ≤ 10) : ∀ (d k i m m' : Nat), i + d = l.length → ro_ m (l.drop i) m' → m + 10 * d ≤ 100000 → d + 12 < k → laws_heldIntSS.l0 k l (m : Int) (i : Int) = some (m' : Int) := by
 intro d
 induction d with
 | zero =>
  intro k i m m' hi h hm hk
  obtain ⟨k, rfl⟩ := qb_ hk
  simp only [laws_heldIntSS.l0]
  rw [List.drop_of_length_le (by omega)] at h
  have e : m = m' := h
  rw [if_neg (by omega), e]
 | succ d ih =>
  intro k i m m' hi h hm hk
  obtain ⟨k, rfl⟩ := qb_ hk
  have hlt : i < l.length := by omega
  rw [qf_ l i hlt []] at h
  have hr0 := hr _ (qE_ hlt [])
  simp only [laws_heldIntSS.l0]
  rw [if_pos (by omega), if_pos (by omega), q9_, rw_ (m := m) (by omega) (by omega) h.1 (by omega), Option.bind_some, if_neg (by omega), qa_ hlt (by omega)]
  exact ih k (i + 1) _ m' (by omega) h.2 (by omega) (by omega)
theorem rW_ {l : List (List Int)} (hn : l.length ≤ 2000) (hr : ∀ r ∈ l, r.length ≤ 10) {k : Nat} (hk : l.length + 20 < k) :
  ∃ (m : Nat) (l' : List (List Int)), laws_markIntSS.f k l 1 = some ((m : Int), l') ∧ laws_heldIntSS.f k l' 1 = some (m : Int) := by
 obtain ⟨m, l', e1, e2, e3, e4, e5⟩ := rV_ l [] k 1 1 rfl hr (by simpa using hn) (by omega) (by omega)
 refine ⟨m, l', e1, ?_⟩
 exact se_ (by omega) e3 l'.length k 0 1 m (by omega) e4 (by omega) (by omega)
theorem rf_ : ∀ (d k i : Nat) (l : List Int) (m : Int), i + d = l.length → l.length ≤ 1048576 → 0 ≤ m → m + d ≤ 4000000000000000000 → d < k → ∃ l', laws_markIntS.l0 k l m (i : Int) = some (m + d, l') := by
 intro d
 induction d with
 | zero =>
  intro k i l m hi hn h0 hm hk
  obtain ⟨k, rfl⟩ := qb_ hk
  simp only [laws_markIntS.l0]
  rw [if_neg (by omega)]
  exact ⟨l, by simp⟩
 | succ d ih =>
  intro k i l m hi hn h0 hm hk
  obtain ⟨k, rfl⟩ := qb_ hk
  simp only [laws_markIntS.l0]
  rw [if_pos (by omega), if_pos (by omega), qa_ (show i < l.length by omega) (by omega), qg_ (n := m + 1) (by omega) (by omega)]
  obtain ⟨l', h⟩ := ih k (i + 1) (l.set (i : Int).toNat m) (m + 1) (by rw [length_set]; omega) (by rw [length_set]; exact hn) (by omega) (by omega) (by omega)
  exact ⟨l', by rw [h, show m + 1 + (d : Int) = m + ((d + 1 : Nat) : Int) by omega]⟩
theorem qR_ : ∀ (rest done : List (List Int)) (k : Nat) (m : Int), (∀ x ∈ rest, x.length ≤ 1048576) → done.length + rest.length ≤ 1048576 → 0 ≤ m → m + rest.length * 1048576 ≤ 4000000000000000000 → rest.length + 1048577 < k →
  ∃ (m' : Int) (l' : List (List Int)), laws_markIntSS.l0 k (done ++ rest) m (done.length : Int) = some (m', l') ∧ 0 ≤ m' := by
 intro rest
 induction rest with
 | nil =>
  intro done k m _ hl h0 hm hk
  obtain ⟨k, rfl⟩ := qb_ hk
  simp only [laws_markIntSS.l0]
  rw [append_nil, if_neg (by omega)]
  exact ⟨m, _, rfl, h0⟩
 | cons r rest ih =>
  intro done k m hr hl h0 hm hk
  obtain ⟨k, rfl⟩ := qb_ hk
  have hr0 := hr r List.mem_cons_self
  simp only [length_cons] at hl hm hk
  have hlen : (done ++ r :: rest).length = done.length + (rest.length + 1) := by simp
  have eg : (done ++ r :: rest).getD (done.length : Int).toNat [] = r := by
   rw [Int.toNat_natCast, getD_eq_getElem?_getD, List.getElem?_append_right (Nat.le_refl _), Nat.sub_self]
   rfl
  obtain ⟨r', e1⟩ := rf_ r.length k 0 r m (by omega) hr0 h0 (by omega) (by omega)
  have e1' : laws_markIntS.f k r m = some (m + (r.length : Int), r') := e1
  have es : (done ++ r :: rest).set (done.length : Int).toNat r' = (done ++ [r']) ++ rest := by
   rw [Int.toNat_natCast, List.set_append_right _ _ (Nat.le_refl _), Nat.sub_self, append_assoc]
   rfl
  have hdl : (done ++ [r']).length = done.length + 1 := by simp
  simp only [laws_markIntSS.l0]
  rw [if_pos (by omega), if_pos (by omega), eg, e1', Option.bind_some]
  dsimp only
  rw [es, qa_ (n := (done ++ r :: rest).length) (by omega) (by omega), ← hdl]
  exact ih (done ++ [r']) k _ (fun x hx => hr x (List.mem_cons_of_mem _ hx)) (by omega) (by omega) (by omega) (by omega)
theorem qV_ {i n : Nat} (h : i + 1 < n) (hn : n ≤ 1048576) : wrap64 (((i + 1 : Nat) : Int) - 1) = ((i : Nat) : Int) := by
 rw [qg_ (by omega) (by omega)]
 omega
theorem r1_ (i : Nat) : ((i + 1 : Nat) : Int) > 0 := by omega
theorem qJ_ (i : Nat) : 0 ≤ ((i : Nat) : Int) := by omega
theorem rX_ {i n : Nat} (h : i + 1 < n) : ((i : Nat) : Int) < (n : Int) := by omega
def okD (n : Int) (d : List Int) : Bool := decide (d.length = 2) && (inB (d.getD 0 0) 0 (n - 1) && (inB (d.getD 1 0) 0 (n - 1) && decide (d.getD 0 0 < d.getD 1 0)))
def so_ (a b : List Int) : Bool := decide (a.getD 0 0 < b.getD 0 0) || (decide (a.getD 0 0 = b.getD 0 0) && decide (a.getD 1 0 < b.getD 1 0))
def sn_ (n : Int) : Option (List Int) → List (List Int) → Bool
 | _, [] => true
 | p, d :: r => okD n d && ((match p with | none => true | some q => so_ q d) && sn_ n (some d) r)
def rg_ (n : Int) (l : List (List Int)) (s : Int) : Bool := inB n 0 8 && (inB s 0 8 && sn_ n none l)
theorem two {d : List Int} (h : d.length = 2) : ∃ a b, d = [a, b] := by
 match d, h with
 | [a, b], _ => exact ⟨a, b, rfl⟩
theorem rA_ (a b x y : Int) {k : Nat} (hk : 6 < k) : spec_l1Rising.f k [a, b] x y = some (inB a x y && (inB b x y && decide (a < b))) := by
 obtain ⟨k, rfl⟩ : ∃ m, k = m + 5 := ⟨k - 5, by omega⟩
 unfold spec_l1Rising.f
 have w1 : wrap64 ((0 : Int) + 1) = 1 := by rw [qg_ (by decide) (by decide)]; rfl
 have w2 : wrap64 ((1 : Int) - 1) = 0 := by rw [qg_ (by decide) (by decide)]; rfl
 have w3 : wrap64 ((1 : Int) + 1) = 2 := by rw [qg_ (by decide) (by decide)]; rfl
 have r0 : rd [a, b] 0 = a := rfl
 have r1 : rd [a, b] 1 = b := rfl
 simp only [spec_l1Rising.l0, spec_l1Rising.j1, qS_, Option.bind_some, length_cons, length_nil, w1, w2, w3, r0, r1]
 cases inB a x y
 ·simp
 ·cases inB b x y
  ·simp
  ·by_cases h : a < b
   ·simp [h, Int.not_le.2 h]
   ·simp [h, Int.not_lt.1 h]
theorem rN_ (a b c d : Int) : spec_keBefore.f [a, b] [c, d] = some (so_ [a, b] [c, d]) := by
 unfold spec_keBefore.f so_
 have r0 : rd [a, b] 0 = a := rfl
 have r1 : rd [a, b] 1 = b := rfl
 have r2 : rd [c, d] 0 = c := rfl
 have r3 : rd [c, d] 1 = d := rfl
 simp only [r0, r1, r2, r3, length_cons, length_nil]
 by_cases h1 : a < c
 ·simp [h1]
 ·by_cases h2 : a = c
  ·simp [h2]
  ·simp [h1, h2]
theorem uh_ (a b : Int) : cmp_Compare_int.f a b = some (if a < b then -1 else if a > b then 1 else 0) := by
 unfold cmp_Compare_int.f cmp_isNaN_int.f
 simp only [Option.bind_some, bne_self_eq_false, Bool.false_eq_true, if_false]
 split
 ·rfl
 ·split <;> rfl
theorem ry_ (a b c d : Int) {k : Nat} (hk : 2 < k) : ∃ r, slices_Compare_int_int.f k [a, b] [c, d] = some r ∧ decide (r ≥ 0) = !so_ [a, b] [c, d] := by
 obtain ⟨k, rfl⟩ := qb_ hk
 obtain ⟨k, rfl⟩ := qb_ (show 1 < k by omega)
 obtain ⟨k, rfl⟩ := qb_ (show 0 < k by omega)
 have w1 : wrap64 ((0 : Int) + 1) = 1 := by rw [qg_ (by decide) (by decide)]; rfl
 have w3 : wrap64 ((1 : Int) + 1) = 2 := by rw [qg_ (by decide) (by decide)]; rfl
 have r0 : rd [a, b] 0 = a := rfl
 have r1 : rd [a, b] 1 = b := rfl
 have r2 : rd [c, d] 0 = c := rfl
 have r3 : rd [c, d] 1 = d := rfl
 unfold slices_Compare_int_int.f so_
 simp only [slices_Compare_int_int.l0, uh_, Option.bind_some, length_cons, length_nil, w1, w3, r0, r1, r2, r3]
 by_cases h1 : a < c
 ·exact ⟨-1, by simp [h1], by simp [h1]⟩
 ·by_cases h2 : a = c
  ·subst h2
   by_cases h3 : b < d
   ·exact ⟨-1, by simp [h3], by simp [h3]⟩
   ·by_cases h4 : b = d
    ·subst h4
     exact ⟨0, by simp, by simp⟩
    ·have h5 : b > d := by omega
     exact ⟨1, by simp [h3, h5], by simp [h3]⟩
  ·have h5 : a > c := by omega
   exact ⟨1, by simp [h1, h5], by simp [h1, h2]⟩
theorem rm_ {n : Int} {l : List (List Int)} {i : Nat} (h : i < l.length) (p : Option (List Int)) : sn_ n p (l.drop i) = (okD n (l.getD i []) && ((match p with | none => true | some q => so_ q (l.getD i [])) && sn_ n (some (l.getD i [])) (l.drop (i + 1)))) := by
 rw [qf_ l i h []]
 rfl
def qB_ (l : List (List Int)) : Nat → Option (List Int)
 | 0 => none
 | i + 1 => some (l.getD i [])
set_option maxHeartbeats 4000000 in
theorem sc_ {n : Int} (h8 : inB n 0 8 = true) {l : List (List Int)} (hn : l.length ≤ 1048576) (s : Int) : ∀ (d k i : Nat), i + d = l.length → 2 * d + 8 < k → (∀ q, qB_ l i = some q → ∃ a b, q = [a, b]) →
  spec_keGood.l0 k l (l.length : Int) (i : Int) n l s = some (sn_ n (qB_ l i) (l.drop i)) := by
 have h9 := inB_true.1 h8
 intro d
 induction d with
 | zero =>
  intro k i hi hk hp
  obtain ⟨k, rfl⟩ := qb_ hk
  simp only [spec_keGood.l0]
  rw [if_neg (by omega), List.drop_of_length_le (by omega)]
  rfl
 | succ d ih =>
  intro k i hi hk hp
  obtain ⟨k, rfl⟩ := qb_ hk
  obtain ⟨k, rfl⟩ := qb_ (show 0 < k by omega)
  have hlt : i < l.length := by omega
  simp only [spec_keGood.l0, q9_]
  rw [if_pos (by omega), if_pos (by omega), if_pos (by omega), rm_ hlt, qg_ (n := n - 1) (by omega) (by omega)]
  have hstep := ih k (i + 1) (by omega) (by omega)
  have hw := qa_ hlt (show l.length ≤ 9223372036854775807 by omega)
  simp only [qB_] at hstep
  generalize hd : l.getD i [] = x at *
  by_cases h2 : x.length = 2
  ·rw [if_pos (by omega)]
   obtain ⟨a, b, rfl⟩ := two h2
   rw [rA_ a b 0 (n - 1) (by omega), Option.bind_some]
   simp only [spec_keGood.j2]
   have e : (inB a 0 (n - 1) && (inB b 0 (n - 1) && decide (a < b))) = okD n [a, b] := by simp [okD]
   rw [e]
   cases ho : okD n [a, b]
   ·simp
   ·simp only [Bool.not_true, Bool.false_eq_true, if_false, Bool.true_and]
    have hs := hstep (fun q hq => ⟨a, b, by injection hq with hq; exact hq.symm⟩)
    rw [hw, hs]
    cases i with
    | zero => rw [if_neg (by omega)]; simp [qB_]
    | succ i =>
     obtain ⟨c, e, hce⟩ := hp _ rfl
     rw [if_pos (r1_ i), qV_ hlt hn, if_pos (qJ_ i), if_pos (rX_ hlt), q9_, hce, rN_, Option.bind_some]
     simp only [qB_, hce]
     cases so_ [c, e] [a, b] <;> simp
  ·rw [if_neg (by omega)]
   simp only [spec_keGood.j2]
   simp [okD, h2]
theorem rh_ (n : Int) {l : List (List Int)} (hn : l.length ≤ 1048576) (s : Int) {k : Nat} (hk : 2 * l.length + 12 < k) : spec_keGood.f k n l s = some (rg_ n l s) := by
 unfold spec_keGood.f rg_
 rw [qS_, qS_]
 simp only [Option.bind_some]
 obtain ⟨k, rfl⟩ := qb_ hk
 cases h1 : inB n 0 8
 ·simp [spec_keGood.j0]
 ·rw [if_pos rfl]
  simp only [spec_keGood.j0]
  cases h2 : inB s 0 8
  ·simp
  ·simp only [Bool.not_true, Bool.false_eq_true, if_false, Bool.true_and]
   have h := sc_ h1 hn s l.length k 0 (by omega) (by omega) (fun q hq => by simp [qB_] at hq)
   exact h
set_option maxHeartbeats 4000000 in
theorem sr_ {n : Int} (h8 : inB n 0 8 = true) {l : List (List Int)} (hn : l.length ≤ 1048576) (s : Int) : ∀ (d k i : Nat), i + d = l.length → 2 * d + 8 < k → (∀ q, qB_ l i = some q → ∃ a b, q = [a, b]) →
  impl_IsKeep.l0 k l (l.length : Int) (i : Int) n l s = some (sn_ n (qB_ l i) (l.drop i)) := by
 have h9 := inB_true.1 h8
 intro d
 induction d with
 | zero =>
  intro k i hi hk hp
  obtain ⟨k, rfl⟩ := qb_ hk
  simp only [impl_IsKeep.l0]
  rw [if_neg (by omega), List.drop_of_length_le (by omega)]
  rfl
 | succ d ih =>
  intro k i hi hk hp
  obtain ⟨k, rfl⟩ := qb_ hk
  obtain ⟨k, rfl⟩ := qb_ (show 0 < k by omega)
  have hlt : i < l.length := by omega
  have hj : ∀ b, impl_IsKeep.j2 (k + 1) l (l.length : Int) (i : Int) b n l s = if b = true then some false else impl_IsKeep.l0 k l (l.length : Int) ((i + 1 : Nat) : Int) n l s := by
   intro b
   simp only [impl_IsKeep.j2]
   rw [qa_ hlt (show l.length ≤ 9223372036854775807 by omega)]
  simp only [impl_IsKeep.l0, q9_, hj]
  rw [if_pos (by omega), if_pos (by omega), if_pos (by omega), rm_ hlt, qg_ (n := n - 1) (by omega) (by omega), s9_, Option.bind_some]
  have hstep := ih k (i + 1) (by omega) (by omega)
  have hw := qa_ hlt (show l.length ≤ 9223372036854775807 by omega)
  simp only [qB_] at hstep
  generalize hd : l.getD i [] = x at *
  by_cases h2 : x.length = 2
  ·obtain ⟨a, b, rfl⟩ := two h2
   have e0 : inB (([a, b] : List Int).length : Int) 2 2 = true := by simp [inB]
   have r0 : rd [a, b] 0 = a := rfl
   have r1 : rd [a, b] 1 = b := rfl
   rw [e0, Bool.true_and]
   simp only [List.all_cons, List.all_nil, Bool.and_true, r0, r1, length_cons, length_nil]
   cases ha : inB a 0 (n - 1)
   ·simp [okD, ha]
   ·cases hb : inB b 0 (n - 1)
    ·simp [okD, hb]
    ·rw [Bool.true_and, if_pos rfl, if_pos (by omega), if_pos (by omega)]
     by_cases hab : a < b
     ·rw [if_neg (Int.not_le.2 hab)]
      have eo : okD n [a, b] = true := by simp [okD, ha, hb, hab]
      rw [eo, Bool.true_and]
      have hs := hstep (fun q hq => ⟨a, b, by injection hq with hq; exact hq.symm⟩)
      rw [hs]
      cases i with
      | zero => rw [if_neg (by omega)]; simp [qB_]
      | succ i =>
       obtain ⟨c, e, hce⟩ := hp _ rfl
       rw [if_pos (r1_ i), qV_ hlt hn, if_pos (qJ_ i), if_pos (rX_ hlt), q9_, hce]
       obtain ⟨r, hr, hr2⟩ := ry_ c e a b (k := k + 1) (by omega)
       rw [hr, Option.bind_some]
       simp only [qB_, hce]
       by_cases hr0 : r ≥ 0
       ·have : so_ [c, e] [a, b] = false := by simpa [hr0] using hr2.symm
        rw [if_pos (decide_eq_true hr0), this]
        simp
       ·have : so_ [c, e] [a, b] = true := by simpa [hr0] using hr2.symm
        rw [if_neg (by simpa using hr0), this]
        simp
     ·rw [if_pos (Int.not_lt.1 hab)]
      simp [okD, hab]
  ·have e0 : inB (x.length : Int) 2 2 = false := by
    cases h : inB (x.length : Int) 2 2
    ·rfl
    ·have := inB_true.1 h; omega
   rw [e0, Bool.false_and, if_neg (by simp)]
   simp [okD, h2]
theorem rn_ (n : Int) {l : List (List Int)} (hn : l.length ≤ 1048576) (s : Int) {k : Nat} (hk : 2 * l.length + 12 < k) : impl_IsKeep.f k n l s = some (rg_ n l s) := by
 unfold impl_IsKeep.f rg_
 rw [uf_, uf_]
 simp only [Option.bind_some]
 obtain ⟨k, rfl⟩ := qb_ hk
 cases h1 : inB n 0 8
 ·simp [impl_IsKeep.j0]
 ·rw [if_pos rfl]
  simp only [impl_IsKeep.j0]
  cases h2 : inB s 0 8
  ·simp
  ·simp only [Bool.not_true, Bool.false_eq_true, if_false, Bool.true_and]
   have h := sr_ h1 hn s l.length k 0 (by omega) (by omega) (fun q hq => by simp [qB_] at hq)
   exact h
theorem r4_ {n : Int} : ∀ {l : List (List Int)} {p : Option (List Int)}, sn_ n p l = true → ∀ d ∈ l, okD n d = true
 | [], _, _, d, hd => by cases hd
 | x :: r, p, h, d, hd => by
  simp only [sn_, Bool.and_eq_true] at h
  rcases mem_cons.1 hd with rfl | hd
  ·exact h.1
  ·exact r4_ h.2.2 d hd
def rkN (a b : Nat) : Nat := ([0, 7, 13, 18, 22, 25, 27, 28].getD a 0) + b - a - 1
theorem un_ : ∀ a b c d : Fin 8, a.val < b.val → c.val < d.val → (a.val < c.val ∨ a.val = c.val ∧ b.val < d.val) → rkN a.val b.val < rkN c.val d.val := by decide
theorem sJ_ : ∀ a b : Fin 8, a.val < b.val → rkN a.val b.val ≤ 27 := by decide
def rkD (d : List Int) : Nat := rkN (d.getD 0 0).toNat (d.getD 1 0).toNat
theorem q3_ {n : Int} (hn : inB n 0 8 = true) {d : List Int} (h : okD n d = true) : 0 ≤ d.getD 0 0 ∧ d.getD 0 0 < d.getD 1 0 ∧ d.getD 1 0 ≤ 7 := by
 unfold okD at h
 rw [inB_true] at hn
 simp only [Bool.and_eq_true, inB_true, decide_eq_true_eq] at h
 omega
theorem su_ {n : Int} (hn : inB n 0 8 = true) {d : List Int} (h : okD n d = true) : rkD d ≤ 27 := by
 obtain ⟨h0, h1, h2⟩ := q3_ hn h
 exact sJ_ ⟨(d.getD 0 0).toNat, by omega⟩ ⟨(d.getD 1 0).toNat, by omega⟩ (by show (d.getD 0 0).toNat < (d.getD 1 0).toNat; omega)
theorem ua_ {n : Int} (hn : inB n 0 8 = true) {d e : List Int} (h : okD n d = true) (k : okD n e = true) (hb : so_ d e = true) : rkD d < rkD e := by
 obtain ⟨h0, h1, h2⟩ := q3_ hn h
 obtain ⟨k0, k1, k2⟩ := q3_ hn k
 unfold so_ at hb
 simp only [Bool.or_eq_true, Bool.and_eq_true, decide_eq_true_eq] at hb
 refine un_ ⟨(d.getD 0 0).toNat, by omega⟩ ⟨(d.getD 1 0).toNat, by omega⟩ ⟨(e.getD 0 0).toNat, by omega⟩ ⟨(e.getD 1 0).toNat, by omega⟩ ?_ ?_ ?_
 ·show (d.getD 0 0).toNat < (d.getD 1 0).toNat
  omega
 ·show (e.getD 0 0).toNat < (e.getD 1 0).toNat
  omega
 ·show (d.getD 0 0).toNat < (e.getD 0 0).toNat ∨ (d.getD 0 0).toNat = (e.getD 0 0).toNat ∧ (d.getD 1 0).toNat < (e.getD 1 0).toNat
  omega
theorem r5_ {n : Int} (hn : inB n 0 8 = true) : ∀ (l : List (List Int)) (q : List Int), okD n q = true → sn_ n (some q) l = true → rkD q + l.length ≤ 27
 | [], q, hq, _ => by
  have := su_ hn hq
  simpa using this
 | d :: r, q, hq, h => by
  simp only [sn_, Bool.and_eq_true] at h
  have := r5_ hn r d h.1 h.2.2
  have hlt := ua_ hn hq h.1 h.2.1
  simp only [length_cons]
  omega
theorem sy_ {n : Int} {l : List (List Int)} {s : Int} (h : rg_ n l s = true) : l.length ≤ 28 := by
 unfold rg_ at h
 simp only [Bool.and_eq_true] at h
 obtain ⟨hn, -, hc⟩ := h
 cases l with
 | nil => simp
 | cons d r =>
  simp only [sn_, Bool.and_eq_true] at hc
  have := r5_ hn r d hc.1 hc.2.2
  simp only [length_cons]
  omega
theorem qp_ {α : Type} {l : List α} {i : Nat} (h : i < l.length) (z : α) : l.getD i z ∈ l := by
 rw [getD_eq_getElem?_getD, getElem?_eq_getElem h]
 exact List.getElem_mem h
structure Far (A : Nat → List (Nat × Nat)) (N : Nat) (S : Nat → Prop) (d : Nat → Int) : Prop where
 st : ∀ s, S s → d s = 0
 go : ∀ u, u < N → 0 ≤ d u → ∀ e ∈ A u, 0 ≤ d e.1 ∧ d e.1 ≤ d u + (e.2 : Int)
 by_ : ∀ v, v < N → 0 ≤ d v → S v ∨ ∃ u, u < N ∧ 0 ≤ d u ∧ ∃ c : Nat, (v, c) ∈ A u ∧ d v = d u + (c : Int)
def GrB (A : Nat → List (Nat × Nat)) (N C : Nat) : Prop := ∀ u, u < N → ∀ e ∈ A u, e.1 < N ∧ 1 ≤ e.2 ∧ e.2 ≤ C
theorem Far.le {A : Nat → List (Nat × Nat)} {N C : Nat} {S : Nat → Prop} {d d' : Nat → Int} (hA : GrB A N C) (h : Far A N S d) (h' : Far A N S d') : ∀ (n v : Nat), v < N → 0 ≤ d v → d v ≤ (n : Int) → 0 ≤ d' v ∧ d' v ≤ d v := by
 intro n
 induction n with
 | zero =>
  intro v hv h0 hn
  rcases h.by_ v hv h0 with hs | ⟨u, hu, hu0, c, hc, e⟩
  ·rw [h'.st v hs, h.st v hs]; omega
  ·have := (hA u hu _ hc).2.1
   simp only at this
   omega
 | succ n ih =>
  intro v hv h0 hn
  rcases h.by_ v hv h0 with hs | ⟨u, hu, hu0, c, hc, e⟩
  ·rw [h'.st v hs, h.st v hs]; omega
  ·have := (hA u hu _ hc).2.1
   simp only at this
   obtain ⟨i1, i2⟩ := ih u hu hu0 (by omega)
   have := h'.go u hu i1 _ hc
   simp only at this
   omega
theorem Far.eq {A : Nat → List (Nat × Nat)} {N C : Nat} {S : Nat → Prop} {d d' : Nat → Int} (hA : GrB A N C) (h : Far A N S d) (h' : Far A N S d') (l : ∀ v, v < N → -1 ≤ d v) (l' : ∀ v, v < N → -1 ≤ d' v) {v : Nat} (hv : v < N) : d v = d' v := by
 have h1 := h.le hA h' (d v).toNat v hv
 have h2 := h'.le hA h (d' v).toNat v hv
 have := l v hv
 have := l' v hv
 omega
def qj_ : List Int → Int
 | [] => 0
 | x :: xs => x + qj_ xs
theorem qq_ (a b : List Int) : qj_ (a ++ b) = qj_ a + qj_ b := by
 induction a with
 | nil => simp [qj_]
 | cons x xs ih => simp only [List.cons_append, qj_, ih]; omega
theorem rS_ {a b : List Int} (h : a.Perm b) : qj_ a = qj_ b := by
 induction h with
 | nil => rfl
 | cons x _ ih => simp only [qj_, ih]
 | swap x y l => simp only [qj_]; omega
 | trans _ _ i1 i2 => exact i1.trans i2
structure Ways (A : Nat → List (Nat × Nat)) (N : Nat) (S : Nat → Prop) (d : Nat → Int) (w : Nat → Int) : Prop where
 st : ∀ s, S s → w s = 1
 at_ : ∀ v, v < N → 0 ≤ d v → ¬ S v → w v = wrap64 (qj_ ((A v).map fun e => if 0 ≤ d e.1 ∧ d e.1 + (e.2 : Int) = d v then w e.1 else 0))
def qz_ (Q : Nat → List (Nat × Nat)) (N : Nat) (v : Nat) (f : Nat → Nat → Int) : Int := qj_ ((List.range N).map fun x => qj_ ((Q x).map fun e => if e.1 = v then f x e.2 else 0))
def um_ (A : Nat → List (Nat × Nat)) (N : Nat) : Prop := ∀ u v, u < N → v < N → ∀ f : Nat → Int, qj_ ((A u).map fun e => if e.1 = v then f e.2 else 0) = qj_ ((A v).map fun e => if e.1 = u then f e.2 else 0)
theorem rR_ {α β : Type} (xs : List α) (ys : List β) (g : α → β → Int) : qj_ (xs.map fun x => qj_ (ys.map fun y => g x y)) = qj_ (ys.map fun y => qj_ (xs.map fun x => g x y)) := by
 induction xs with
 | nil =>
  have h : ∀ l : List β, qj_ (l.map fun _ => (0 : Int)) = 0 := by
   intro l
   induction l with
   | nil => rfl
   | cons y l ih => simp only [map_cons, qj_, ih]; omega
  simp only [map_nil, qj_]
  exact (h ys).symm
 | cons x xs ih =>
  simp only [map_cons, qj_, ih]
  clear ih
  induction ys with
  | nil => rfl
  | cons y ys ih => simp only [map_cons, qj_]; omega
theorem st_ {N : Nat} : ∀ (m : Nat) (a : Int), qj_ ((List.range N).map fun x => if m = x then a else 0) = if m < N then a else 0 := by
 intro m a
 induction N with
 | zero => simp [qj_]
 | succ N ih =>
  rw [List.range_succ, map_append, qq_, ih]
  simp only [map_cons, map_nil, qj_]
  by_cases h : m < N
  ·rw [if_pos h, if_neg (by omega), if_pos (by omega)]; omega
  ·rw [if_neg h]
   by_cases e : m = N
   ·rw [if_pos e, if_pos (by omega)]; omega
   ·rw [if_neg e, if_neg (by omega)]; omega
theorem rG_ {A : Nat → List (Nat × Nat)} {N C : Nat} (hA : GrB A N C) (hB : um_ A N) {v : Nat} (hv : v < N) (f : Nat → Nat → Int) : qz_ A N v f = qj_ ((A v).map fun e => f e.1 e.2) := by
 unfold qz_
 rw [map_congr_left (g := fun x => qj_ ((A v).map fun e => if e.1 = x then f x e.2 else 0)) fun x hx => hB x v (mem_range.1 hx) hv (fun c => f x c)]
 rw [rR_]
 refine congrArg qj_ (map_congr_left fun e he => ?_)
 have : (fun x => if e.1 = x then f x e.2 else 0) = fun x => if e.1 = x then f e.1 e.2 else 0 := by
  funext x
  by_cases h : e.1 = x
  ·rw [if_pos h, if_pos h, h]
  ·rw [if_neg h, if_neg h]
 rw [this, st_, if_pos (hA v hv e he).1]
theorem Ways.of_in {A : Nat → List (Nat × Nat)} {N C : Nat} {S : Nat → Prop} {d w : Nat → Int} (hA : GrB A N C) (hB : um_ A N) (h1 : ∀ s, S s → w s = 1)
  (h : ∀ v, v < N → 0 ≤ d v → ¬ S v → w v = wrap64 (qz_ A N v fun x c => if 0 ≤ d x ∧ d x + (c : Int) = d v then w x else 0)) : Ways A N S d w :=
 ⟨h1, fun v hv h0 hs => by rw [h v hv h0 hs, rG_ hA hB hv]⟩
structure Sea (Q : Nat → List (Nat × Nat)) (N C s0 : Nat) (done : Nat → Bool) (d w : Nat → Int) (m : Int) (j : Nat) : Prop where
 st : d s0 = 0
 w0 : w s0 = 1
 low : ∀ v, v < N → -1 ≤ d v
 high : ∀ v, v < N → d v ≤ ((C * j : Nat) : Int)
 sub : GrB Q N C
 off : ∀ x, x < N → done x = false → Q x = []
 on : ∀ x, x < N → done x = true → 0 ≤ d x ∧ d x ≤ m
 up : ∀ v, v < N → done v = false → 0 ≤ d v → m ≤ d v
 go : ∀ x, x < N → ∀ e ∈ Q x, 0 ≤ d e.1 ∧ d e.1 ≤ d x + (e.2 : Int)
 by_ : ∀ v, v < N → 0 ≤ d v → v = s0 ∨ ∃ x, x < N ∧ ∃ c : Nat, (v, c) ∈ Q x ∧ d v = d x + (c : Int)
 ways : ∀ v, v < N → v ≠ s0 → w v = wrap64 (qz_ Q N v fun x c => if d x + (c : Int) = d v then w x else 0)
def upd {α : Type} (f : Nat → α) (u : Nat) (a : α) : Nat → α := fun x => if x = u then a else f x
theorem qe_ {α : Type} (f : Nat → α) (u : Nat) (a : α) : upd f u a u = a := if_pos rfl
theorem qd_ {α : Type} (f : Nat → α) {u x : Nat} (a : α) (h : x ≠ u) : upd f u a x = f x := if_neg h
theorem qG_ {Q : Nat → List (Nat × Nat)} {N v : Nat} {f g : Nat → Nat → Int} (h : ∀ x, x < N → ∀ e ∈ Q x, e.1 = v → f x e.2 = g x e.2) : qz_ Q N v f = qz_ Q N v g := by
 unfold qz_
 refine congrArg qj_ (map_congr_left fun x hx => congrArg qj_ (map_congr_left fun e he => ?_))
 by_cases q : e.1 = v
 ·rw [if_pos q, if_pos q, h x (mem_range.1 hx) e he q]
 ·rw [if_neg q, if_neg q]
theorem qo_ {α : Type} {g : α → Int} : ∀ l : List α, (∀ x ∈ l, g x = 0) → qj_ (l.map g) = 0
 | [], _ => rfl
 | x :: l, h => by
  simp only [map_cons, qj_]
  rw [h x (by simp), qo_ l fun y hy => h y (by simp [hy])]
  rfl
theorem q5_ {Q : Nat → List (Nat × Nat)} {N v : Nat} {f : Nat → Nat → Int} (h : ∀ x, x < N → ∀ e ∈ Q x, e.1 = v → f x e.2 = 0) : qz_ Q N v f = 0 := by
 refine qo_ _ fun x hx => qo_ _ fun e he => ?_
 by_cases q : e.1 = v
 ·rw [if_pos q, h x (mem_range.1 hx) e he q]
 ·rw [if_neg q]
theorem qH_ {Q : Nat → List (Nat × Nat)} {N v u t c : Nat} {f : Nat → Nat → Int} (hu : u < N) : qz_ (upd Q u (Q u ++ [(t, c)])) N v f = qz_ Q N v f + if t = v then f u c else 0 := by
 unfold qz_
 have h : ∀ M : Nat, qj_ ((List.range M).map fun x => qj_ ((upd Q u (Q u ++ [(t, c)]) x).map fun e => if e.1 = v then f x e.2 else 0)) = qj_ ((List.range M).map fun x => qj_ ((Q x).map fun e => if e.1 = v then f x e.2 else 0)) + if u < M then (if t = v then f u c else 0) else 0 := by
  intro M
  induction M with
  | zero => simp [qj_]
  | succ M ih =>
   rw [List.range_succ, map_append, map_append, qq_, qq_, ih]
   simp only [map_cons, map_nil, qj_]
   by_cases e : M = u
   ·subst e
    rw [qe_, map_append, qq_, if_neg (Nat.lt_irrefl _), if_pos (Nat.lt_succ_self _)]
    simp only [map_cons, map_nil, qj_]
    omega
   ·rw [qd_ _ _ e]
    by_cases q : u < M
    ·rw [if_pos q, if_pos (show u < M + 1 by omega)]; omega
    ·rw [if_neg q, if_neg (show ¬ u < M + 1 by omega)]; omega
 rw [h N, if_pos hu]
theorem ss_ (a b : Int) : wrap64 (wrap64 a + b) = wrap64 (a + b) := by
 unfold wrap64
 omega
theorem Sea.pick {Q : Nat → List (Nat × Nat)} {N C s0 u j : Nat} {done : Nat → Bool} {d w : Nat → Int} {m : Int} (h : Sea Q N C s0 done d w m j) (hu : u < N) (hd : done u = false) (h0 : 0 ≤ d u)
  (hm : ∀ v, v < N → done v = false → 0 ≤ d v → d u ≤ d v) : Sea Q N C s0 (upd done u true) d w (d u) (j + 1) ∧ d u + (C : Int) ≤ ((C * (j + 1) : Nat) : Int) ∧ Q u = [] := by
 have hup := h.up u hu hd h0
 have hj : (C * (j + 1) : Nat) = C * j + C := Nat.mul_succ C j
 refine ⟨⟨h.st, h.w0, h.low, fun v hv => ?_, h.sub, fun x hx hq => ?_, fun x hx hq => ?_, fun v hv hq h1 => ?_, h.go, h.by_, h.ways⟩, ?_, h.off u hu hd⟩
 ·have := h.high v hv
  rw [hj]; omega
 ·by_cases e : x = u
  ·rw [e, qe_] at hq; cases hq
  ·rw [qd_ _ _ e] at hq; exact h.off x hx hq
 ·by_cases e : x = u
  ·rw [e]; exact ⟨h0, Int.le_refl _⟩
  ·rw [qd_ _ _ e] at hq
   have := h.on x hx hq
   omega
 ·by_cases e : v = u
  ·rw [e]; exact Int.le_refl _
  ·rw [qd_ _ _ e] at hq; exact hm v hv hq h1
 ·have := h.high u hu
  rw [hj]; omega
def sI_ (d : Nat → Int) (u t c : Nat) : Nat → Int := if d t < 0 ∨ d u + (c : Int) < d t then upd d t (d u + (c : Int)) else d
def sH_ (d w : Nat → Int) (u t c : Nat) : Nat → Int := if d t < 0 ∨ d u + (c : Int) < d t then upd w t (wrap64 (0 + w u)) else if d u + (c : Int) = d t then upd w t (wrap64 (w t + w u)) else w
theorem Sea.edge {Q : Nat → List (Nat × Nat)} {N C s0 u t c j : Nat} {done : Nat → Bool} {d w : Nat → Int} (h : Sea Q N C s0 done d w (d u) j) (hu : u < N) (hd : done u = true) (ht : t < N) (hc : 1 ≤ c) (hc2 : c ≤ C) (hj : d u + (C : Int) ≤ ((C * j : Nat) : Int)) :
  Sea (upd Q u (Q u ++ [(t, c)])) N C s0 done (sI_ d u t c) (sH_ d w u t c) (sI_ d u t c u) j ∧ sI_ d u t c u = d u := by
 have hu0 := (h.on u hu hd).1
 have hsub : GrB (upd Q u (Q u ++ [(t, c)])) N C := by
  intro x hx e he
  by_cases q : x = u
  ·rw [q, qe_] at he
   rcases mem_append.1 he with he | he
   ·exact h.sub u hu e he
   ·rw [mem_singleton.1 he]; exact ⟨ht, hc, hc2⟩
  ·rw [qd_ _ _ q] at he; exact h.sub x hx e he
 have hoff : ∀ x, x < N → done x = false → upd Q u (Q u ++ [(t, c)]) x = [] := by
  intro x hx hq
  have : x ≠ u := fun e => by rw [e, hd] at hq; cases hq
  rw [qd_ _ _ this]; exact h.off x hx hq
 by_cases hA : d t < 0 ∨ d u + (c : Int) < d t
 ·have hD : sI_ d u t c = upd d t (d u + (c : Int)) := if_pos hA
  have hW : sH_ d w u t c = upd w t (wrap64 (0 + w u)) := if_pos hA
  have hdt : done t = false := by
   cases q : done t
   ·rfl
   ·have := h.on t ht q; omega
  have hut : u ≠ t := fun e => by rw [e, hdt] at hd; cases hd
  have hts : t ≠ s0 := fun e => by have := h.st; rw [e] at hA; omega
  have hQt := h.off t ht hdt
  have hdu : upd d t (d u + (c : Int)) u = d u := qd_ _ _ hut
  have hx : ∀ x, x < N → ∀ e ∈ Q x, x ≠ t := by
   intro x _ e he q
   rw [q, hQt] at he; cases he
  rw [hD, hW, hdu]
  refine ⟨⟨?_, ?_, fun v hv => ?_, fun v hv => ?_, hsub, hoff, fun x hx1 hq => ?_, fun v hv hq h1 => ?_, fun x hx1 e he => ?_, fun v hv h1 => ?_, fun v hv hvs => ?_⟩, rfl⟩
  ·rw [qd_ _ _ (Ne.symm hts)]; exact h.st
  ·rw [qd_ _ _ (Ne.symm hts)]; exact h.w0
  ·by_cases q : v = t
   ·rw [q, qe_]; omega
   ·rw [qd_ _ _ q]; exact h.low v hv
  ·by_cases q : v = t
   ·rw [q, qe_]; omega
   ·rw [qd_ _ _ q]; exact h.high v hv
  ·have : x ≠ t := fun e => by rw [e, hdt] at hq; cases hq
   rw [qd_ _ _ this]; exact h.on x hx1 hq
  ·by_cases q : v = t
   ·rw [q, qe_]; omega
   ·rw [qd_ _ _ q] at h1 ⊢; exact h.up v hv hq h1
  ·have key : ∀ x, x < N → ∀ e ∈ Q x, 0 ≤ upd d t (d u + (c : Int)) e.1 ∧ upd d t (d u + (c : Int)) e.1 ≤ upd d t (d u + (c : Int)) x + (e.2 : Int) := by
    intro x hx1 e he
    have hg := h.go x hx1 e he
    rw [qd_ (x := x) _ _ (hx x hx1 e he)]
    by_cases q : e.1 = t
    ·rw [q] at hg ⊢
     rw [qe_]; omega
    ·rw [qd_ _ _ q]; exact hg
   by_cases q : x = u
   ·rw [q, qe_] at he
    rw [q]
    rcases mem_append.1 he with he | he
    ·exact key u hu e he
    ·rw [mem_singleton.1 he]
     show 0 ≤ upd d t (d u + (c : Int)) t ∧ upd d t (d u + (c : Int)) t ≤ upd d t (d u + (c : Int)) u + (c : Int)
     rw [qe_, hdu]; omega
   ·rw [qd_ _ _ q] at he; exact key x hx1 e he
  ·by_cases q : v = t
   ·refine .inr ⟨u, hu, c, ?_, ?_⟩
    ·rw [qe_, q]; simp
    ·rw [q, qe_, hdu]
   ·rw [qd_ _ _ q] at h1
    rcases h.by_ v hv h1 with e | ⟨x, hx1, c', hm, he⟩
    ·exact .inl e
    ·refine .inr ⟨x, hx1, c', ?_, ?_⟩
     ·by_cases q2 : x = u
      ·rw [q2, qe_]; rw [q2] at hm; exact mem_append_left _ hm
      ·rw [qd_ _ _ q2]; exact hm
     ·rw [qd_ _ _ q, qd_ _ _ (hx x hx1 _ hm)]; exact he
  ·rw [qH_ hu]
   by_cases q : v = t
   ·rw [q, qe_, qe_, hdu, qd_ _ _ hut, if_pos rfl, if_pos rfl]
    rw [q5_ fun x hx1 e he e1 => ?_]
    have hg := h.go x hx1 e he
    rw [qd_ (x := x) _ _ (hx x hx1 e he)]
    rw [e1] at hg
    rw [if_neg (by omega)]
   ·rw [if_neg (Ne.symm q), qd_ _ _ q, qd_ (x := v) _ _ q, h.ways v hv hvs, Int.add_zero]
    refine congrArg wrap64 (qG_ fun x hx1 e he e1 => ?_)
    rw [qd_ (x := x) _ _ (hx x hx1 e he), qd_ (x := x) _ _ (hx x hx1 e he)]
 ·have hD : sI_ d u t c = d := if_neg hA
  have hgo : ∀ x, x < N → ∀ e ∈ upd Q u (Q u ++ [(t, c)]) x, 0 ≤ d e.1 ∧ d e.1 ≤ d x + (e.2 : Int) := by
   intro x hx1 e he
   by_cases q : x = u
   ·rw [q, qe_] at he
    rw [q]
    rcases mem_append.1 he with he | he
    ·exact h.go u hu e he
    ·rw [mem_singleton.1 he]
     show 0 ≤ d t ∧ d t ≤ d u + (c : Int)
     omega
   ·rw [qd_ _ _ q] at he; exact h.go x hx1 e he
  have hby : ∀ v, v < N → 0 ≤ d v → v = s0 ∨ ∃ x, x < N ∧ ∃ c' : Nat, (v, c') ∈ upd Q u (Q u ++ [(t, c)]) x ∧ d v = d x + (c' : Int) := by
   intro v hv h1
   rcases h.by_ v hv h1 with e | ⟨x, hx1, c', hm, he⟩
   ·exact .inl e
   ·refine .inr ⟨x, hx1, c', ?_, he⟩
    by_cases q2 : x = u
    ·rw [q2, qe_]; rw [q2] at hm; exact mem_append_left _ hm
    ·rw [qd_ _ _ q2]; exact hm
  rw [hD]
  refine ⟨?_, rfl⟩
  by_cases hB : d u + (c : Int) = d t
  ·have hW : sH_ d w u t c = upd w t (wrap64 (w t + w u)) := (if_neg hA).trans (if_pos hB)
   have hdt : done t = false := by
    cases q : done t
    ·rfl
    ·have := h.on t ht q; omega
   have hut : u ≠ t := fun e => by rw [e, hdt] at hd; cases hd
   have hts : t ≠ s0 := fun e => by have := h.st; rw [e] at hB; omega
   have hQt := h.off t ht hdt
   have hx : ∀ x, x < N → ∀ e ∈ Q x, x ≠ t := by
    intro x _ e he q
    rw [q, hQt] at he; cases he
   rw [hW]
   refine ⟨h.st, ?_, h.low, h.high, hsub, hoff, h.on, h.up, hgo, hby, fun v hv hvs => ?_⟩
   ·rw [qd_ _ _ (Ne.symm hts)]; exact h.w0
   ·rw [qH_ hu]
    have hsame : qz_ Q N v (fun x c_1 => if d x + (c_1 : Int) = d v then upd w t (wrap64 (w t + w u)) x else 0) = qz_ Q N v (fun x c => if d x + (c : Int) = d v then w x else 0) :=
     qG_ fun x hx1 e he e1 => by rw [qd_ _ _ (hx x hx1 e he)]
    rw [hsame]
    by_cases q : v = t
    ·rw [q, qe_, if_pos rfl, if_pos hB, qd_ _ _ hut, h.ways t ht hts, ss_]
    ·rw [if_neg (Ne.symm q), qd_ _ _ q, h.ways v hv hvs, Int.add_zero]
  ·have hW : sH_ d w u t c = w := (if_neg hA).trans (if_neg hB)
   rw [hW]
   refine ⟨h.st, h.w0, h.low, h.high, hsub, hoff, h.on, h.up, hgo, hby, fun v hv hvs => ?_⟩
   rw [qH_ hu]
   by_cases q : t = v
   ·rw [if_pos q, if_neg (by rw [← q]; exact hB), h.ways v hv hvs, Int.add_zero]
   ·rw [if_neg q, h.ways v hv hvs, Int.add_zero]
theorem Sea.end_ {A Q : Nat → List (Nat × Nat)} {N C s0 j : Nat} {done : Nat → Bool} {d w : Nat → Int} {m : Int} (h : Sea Q N C s0 done d w m j) (hs : s0 < N) (hA : GrB A N C) (hB : um_ A N) (hq : ∀ x, x < N → done x = true → Q x = A x) (he : ∀ v, v < N → done v = false → d v < 0) :
  Far A N (fun v => v = s0) d ∧ Ways A N (fun v => v = s0) d w := by
 have hd : ∀ x, x < N → 0 ≤ d x → Q x = A x := by
  intro x hx h0
  cases q : done x
  ·have := he x hx q; omega
  ·exact hq x hx q
 refine ⟨⟨fun s e => by rw [e]; exact h.st, fun u hu h0 e hm => h.go u hu e (by rw [hd u hu h0]; exact hm), fun v hv h0 => ?_⟩, Ways.of_in hA hB (fun s e => by rw [e]; exact h.w0) fun v hv h0 hvs => ?_⟩
 ·rcases h.by_ v hv h0 with e | ⟨x, hx, c, hm, e⟩
  ·exact .inl e
  ·have hx0 : 0 ≤ d x := by
    cases q : done x
    ·rw [h.off x hx q] at hm; cases hm
    ·exact (h.on x hx q).1
   exact .inr ⟨x, hx, hx0, c, by rw [← hd x hx hx0]; exact hm, e⟩
 ·rw [h.ways v hv hvs]
  unfold qz_
  refine congrArg (fun l => wrap64 (qj_ l)) (map_congr_left fun x hx => ?_)
  have hx := mem_range.1 hx
  by_cases h1 : 0 ≤ d x
  ·rw [hd x hx h1]
   refine congrArg qj_ (map_congr_left fun e he => ?_)
   simp only [h1, true_and]
  ·have hn : done x = false := by
    cases q : done x
    ·rfl
    ·have := (h.on x hx q).1; omega
   rw [h.off x hx hn]
   refine (qo_ _ fun e he => ?_).symm
   by_cases q : e.1 = v
   ·rw [if_pos q]
    exact if_neg fun h => h1 h.1
   ·rw [if_neg q]
def Aof (E : Int → List S110) (u : Nat) : List (Nat × Nat) := (E (u : Int)).map fun e => (e.f0.toNat, e.f1.toNat)
def dd (dist : List Int) (v : Nat) : Int := dist.getD v 0
theorem qw_ (dist : List Int) {x : Int} (h : 0 ≤ x) : rdOf 0 dist x = dd dist x.toNat := rfl
theorem qN_ {dist : List Int} {u : Nat} (a : Int) (hu : u < dist.length) (v : Nat) : dd (dist.set u a) v = if v = u then a else dd dist v := by
 unfold dd
 rw [getD_eq_getElem?_getD, getD_eq_getElem?_getD, List.getElem?_set]
 by_cases h : v = u
 ·subst h
  simp [hu]
 ·rw [if_neg (fun e => h e.symm), if_neg h]
def GrI (E : Int → List S110) (N C G : Nat) : Prop := ∀ u : Nat, u < N → (E (u : Int)).length ≤ G ∧ ∀ e ∈ E (u : Int), 0 ≤ e.f0 ∧ e.f0 < (N : Int) ∧ 1 ≤ e.f1 ∧ e.f1 ≤ (C : Int)
theorem GrI.b {E : Int → List S110} {N C G : Nat} (h : GrI E N C G) : GrB (Aof E) N C := by
 intro u hu e he
 obtain ⟨x, hx, rfl⟩ := mem_map.1 he
 have := (h u hu).2 x hx
 simp only
 omega
theorem rj_ (n b : Nat) (w : List (List Int)) : (frPad n w).getD b [] = w.getD b [] := by
 unfold frPad
 rw [getD_eq_getElem?_getD, getD_eq_getElem?_getD, List.getElem?_append]
 by_cases h : b < w.length
 ·rw [if_pos h]
 ·rw [if_neg h, List.getElem?_eq_none (Nat.not_lt.1 h), List.getElem?_replicate]
  split <;> rfl
theorem ri_ (n : Nat) (w : List (List Int)) : (frPad n w).length = w.length + (n + 1 - w.length) := by
 unfold frPad
 rw [length_append, length_replicate]
theorem sf_ {w : List (List Int)} {u : Nat} (a : List Int) (hu : u < w.length) (v : Nat) : (w.set u a).getD v [] = if v = u then a else w.getD v [] := by
 rw [getD_eq_getElem?_getD, getD_eq_getElem?_getD, List.getElem?_set]
 by_cases h : v = u
 ·subst h
  simp [hu]
 ·rw [if_neg (fun e => h e.symm), if_neg h]
theorem q6_ {N C W L d : Nat} {dist : List Int} (hl : dist.length = N) (hW : W < 1000000) (hd : d + C + 1 ≤ W) : ∀ (es : List S110) (w : List (List Int)), (∀ e ∈ es, 0 ≤ e.f0 ∧ e.f0 < (N : Int) ∧ 1 ≤ e.f1 ∧ e.f1 ≤ (C : Int)) → w.length ≤ W → L < 1000000 → (∀ b, (w.getD b []).length + es.length ≤ L) →
  ∃ w', frEdges d dist es w = some w' ∧ w.length ≤ w'.length ∧ w'.length ≤ W ∧ (∀ b, ∃ t, w'.getD b [] = w.getD b [] ++ t ∧ t.length ≤ es.length ∧ ∀ x ∈ t, ∃ e ∈ es, x = e.f0 ∧ b = d + e.f1.toNat) ∧ ∀ e ∈ es, dd dist e.f0.toNat < 0 → e.f0 ∈ w'.getD (d + e.f1.toNat) []
 | [], w, _, hw, _, _ => ⟨w, rfl, Nat.le_refl _, hw, fun b => ⟨[], (append_nil _).symm, Nat.le_refl _, fun _ h => by cases h⟩, fun _ h => by cases h⟩
 | e :: es, w, he, hw, hL, hb => by
  have h1 := he e (by simp)
  have hlen : (e :: es).length = es.length + 1 := rfl
  unfold frEdges
  rw [if_pos ⟨h1.1, by omega⟩, qw_ _ h1.1]
  by_cases hs : dd dist e.f0.toNat ≥ 0
  ·rw [if_pos hs]
   obtain ⟨w', a1, a2, a3, a4, a5⟩ := q6_ (L := L) hl hW hd es w (fun x hx => he x (by simp [hx])) hw hL (fun b => by have := hb b; omega)
   refine ⟨w', a1, a2, a3, fun b => ?_, fun x hx hn => ?_⟩
   ·obtain ⟨t, t1, t2, t3⟩ := a4 b
    refine ⟨t, t1, by omega, fun x hx => ?_⟩
    obtain ⟨y, y1, y2⟩ := t3 x hx
    exact ⟨y, by simp [y1], y2⟩
   ·rcases mem_cons.1 hx with q | q
    ·rw [q] at hn; omega
    ·exact a5 x q hn
  ·rw [if_neg hs]
   have hp := ri_ (d + e.f1.toNat) w
   have hg := rj_ (d + e.f1.toNat) (d + e.f1.toNat) w
   have hbb := hb (d + e.f1.toNat)
   rw [hg, if_pos ⟨h1.2.2.1, by omega, by omega, by omega⟩]
   have hin : d + e.f1.toNat < (frPad (d + e.f1.toNat) w).length := by omega
   have hget : ∀ b, ((frPad (d + e.f1.toNat) w).set (d + e.f1.toNat) (w.getD (d + e.f1.toNat) [] ++ [e.f0])).getD b [] = if b = d + e.f1.toNat then w.getD (d + e.f1.toNat) [] ++ [e.f0] else w.getD b [] := by
    intro b
    rw [sf_ _ hin, rj_]
   obtain ⟨w', a1, a2, a3, a4, a5⟩ := q6_ (L := L) hl hW hd es ((frPad (d + e.f1.toNat) w).set (d + e.f1.toNat) (w.getD (d + e.f1.toNat) [] ++ [e.f0])) (fun x hx => he x (by simp [hx])) (by rw [length_set]; omega) hL (fun b => by
    rw [hget]
    have := hb b
    split
    ·rw [length_append, length_singleton]; omega
    ·omega)
   rw [length_set] at a2
   refine ⟨w', a1, by omega, a3, fun b => ?_, fun x hx hn => ?_⟩
   ·obtain ⟨t, t1, t2, t3⟩ := a4 b
    rw [hget] at t1
    by_cases q : b = d + e.f1.toNat
    ·rw [if_pos q] at t1
     refine ⟨e.f0 :: t, ?_, by rw [length_cons]; omega, fun x hx => ?_⟩
     ·rw [t1, q, append_assoc]; rfl
     ·rcases mem_cons.1 hx with h | h
      ·exact ⟨e, by simp, h, q⟩
      ·obtain ⟨y, y1, y2⟩ := t3 x h
       exact ⟨y, by simp [y1], y2⟩
    ·rw [if_neg q] at t1
     refine ⟨t, t1, by omega, fun x hx => ?_⟩
     obtain ⟨y, y1, y2⟩ := t3 x hx
     exact ⟨y, by simp [y1], y2⟩
   ·rcases mem_cons.1 hx with q | q
    ·obtain ⟨t, t1, -, -⟩ := a4 (d + e.f1.toNat)
     rw [hget, if_pos rfl] at t1
     rw [q, t1]
     simp
    ·exact a5 x q hn
def sq_ (d i : Nat) (w : List (List Int)) (b v : Nat) : Prop := d ≤ b ∧ (v : Int) ∈ (if b = d then (w.getD b []).drop i else w.getD b [])
def qy_ (dist : List Int) : Nat := dist.countP fun x => decide (0 ≤ x)
theorem qU_ {dist : List Int} {u : Nat} {a : Int} (hu : u < dist.length) (h : dd dist u < 0) (ha : 0 ≤ a) : qy_ (dist.set u a) = qy_ dist + 1 := by
 induction dist generalizing u with
 | nil => simp at hu
 | cons x xs ih =>
  cases u with
  | zero =>
   have hx : x < 0 := h
   unfold qy_
   rw [List.set_cons_zero, countP_cons, countP_cons, if_pos (by simpa using ha), if_neg (by simp; omega)]
  | succ u =>
   have := ih (u := u) (by simpa using hu) h
   unfold qy_ at this ⊢
   rw [List.set_cons_succ, countP_cons, countP_cons, this]
   omega
structure Bk (E : Int → List S110) (N C G B : Nat) (S : Nat → Prop) (d i : Nat) (dist : List Int) (w : List (List Int)) : Prop where
 len : dist.length = N
 low : ∀ v, v < N → -1 ≤ dd dist v
 set_ : ∀ v, v < N → dd dist v ≤ (d : Int)
 hi : ∀ v, v < N → dd dist v ≤ ((C * qy_ dist : Nat) : Int)
 wl : w.length ≤ C * qy_ dist + 1
 dl : d ≤ w.length
 ent : ∀ b, ∀ x ∈ w.getD b [], 0 ≤ x ∧ x < (N : Int) ∧ ((S x.toNat ∧ b = 0) ∨ ∃ u, u < N ∧ 0 ≤ dd dist u ∧ ∃ c : Nat, (x.toNat, c) ∈ Aof E u ∧ (b : Int) = dd dist u + (c : Int))
 sz : ∀ b, (w.getD b []).length ≤ B + G * qy_ dist
 st : ∀ s, S s → s < N ∧ (dd dist s = 0 ∨ dd dist s < 0 ∧ sq_ d i w 0 s)
 go : ∀ u, u < N → 0 ≤ dd dist u → ∀ e ∈ Aof E u, (0 ≤ dd dist e.1 ∧ dd dist e.1 ≤ dd dist u + (e.2 : Int)) ∨ (dd dist e.1 < 0 ∧ ∃ b : Nat, (b : Int) = dd dist u + (e.2 : Int) ∧ sq_ d i w b e.1)
 by_ : ∀ v, v < N → 0 ≤ dd dist v → S v ∨ ∃ u, u < N ∧ 0 ≤ dd dist u ∧ ∃ c : Nat, (v, c) ∈ Aof E u ∧ dd dist v = dd dist u + (c : Int)
theorem q7_ (dist : List Int) : qy_ dist ≤ dist.length := List.countP_le_length
theorem Bk.end_ {E : Int → List S110} {N C G B : Nat} {S : Nat → Prop} {d i : Nat} {dist : List Int} {w : List (List Int)} (h : Bk E N C G B S d i dist w) (hd : ¬ d < w.length) : Far (Aof E) N S (dd dist) := by
 have hn : ∀ b v, ¬ sq_ d i w b v := by
  intro b v ⟨h1, h2⟩
  have : w.getD b [] = [] := by rw [getD_eq_getElem?_getD, List.getElem?_eq_none (by omega)]; rfl
  rw [this] at h2
  split at h2 <;> simp at h2
 refine ⟨fun s hs => ?_, fun u hu h0 e he => ?_, h.by_⟩
 ·rcases (h.st s hs).2 with e | ⟨-, e⟩
  ·exact e
  ·exact absurd e (hn _ _)
 ·rcases h.go u hu h0 e he with q | ⟨-, b, -, q⟩
  ·exact q
  ·exact absurd q (hn _ _)
theorem Bk.next {E : Int → List S110} {N C G B : Nat} {S : Nat → Prop} {d i : Nat} {dist : List Int} {w : List (List Int)} (h : Bk E N C G B S d i dist w) (hd : d < w.length) (hi : ¬ i < (w.getD d []).length) : Bk E N C G B S (d + 1) 0 dist w := by
 have hp : ∀ b v, sq_ d i w b v → sq_ (d + 1) 0 w b v := by
  intro b v ⟨h1, h2⟩
  by_cases e : b = d
  ·rw [if_pos e, e, List.drop_eq_nil_of_le (Nat.not_lt.1 hi)] at h2
   simp at h2
  ·rw [if_neg e] at h2
   refine ⟨by omega, ?_⟩
   split
   ·rw [drop_zero]; exact h2
   ·exact h2
 refine { h with set_ := fun v hv => ?_, dl := hd, st := fun s hs => ?_, go := fun u hu h0 e he => ?_ }
 ·have := h.set_ v hv
  omega
 ·obtain ⟨a, b⟩ := h.st s hs
  exact ⟨a, b.imp id fun ⟨q1, q2⟩ => ⟨q1, hp _ _ q2⟩⟩
 ·exact (h.go u hu h0 e he).imp id fun ⟨q1, b, q2, q3⟩ => ⟨q1, b, q2, hp _ _ q3⟩
theorem rb_ {d i : Nat} {w : List (List Int)} {b v : Nat} (hi : i < (w.getD d []).length) (h : sq_ d i w b v) : (b = d ∧ (v : Int) = (w.getD d []).getD i 0) ∨ sq_ d (i + 1) w b v := by
 obtain ⟨h1, h2⟩ := h
 by_cases e : b = d
 ·rw [if_pos e, e, qf_ _ i hi 0] at h2
  rcases mem_cons.1 h2 with q | q
  ·exact .inl ⟨e, q⟩
  ·exact .inr ⟨h1, by rw [if_pos e, e]; exact q⟩
 ·rw [if_neg e] at h2
  exact .inr ⟨h1, by rw [if_neg e]; exact h2⟩
theorem Bk.skip {E : Int → List S110} {N C G B : Nat} {S : Nat → Prop} {d i : Nat} {dist : List Int} {w : List (List Int)} (h : Bk E N C G B S d i dist w) (hi : i < (w.getD d []).length) (hs : 0 ≤ dd dist ((w.getD d []).getD i 0).toNat) : Bk E N C G B S d (i + 1) dist w := by
 have hx := h.ent d _ (qp_ hi 0)
 have hp : ∀ b v, dd dist v < 0 → sq_ d i w b v → sq_ d (i + 1) w b v := by
  intro b v hv hq
  rcases rb_ hi hq with ⟨-, e⟩ | q
  ·rw [← e, Int.toNat_natCast] at hs; omega
  ·exact q
 refine { h with st := fun s hs => ?_, go := fun u hu h0 e he => ?_ }
 ·obtain ⟨a, b⟩ := h.st s hs
  exact ⟨a, b.imp id fun ⟨q1, q2⟩ => ⟨q1, hp _ _ q1 q2⟩⟩
 ·exact (h.go u hu h0 e he).imp id fun ⟨q1, b, q2, q3⟩ => ⟨q1, b, q2, hp _ _ q1 q3⟩
theorem Bk.settle {E : Int → List S110} {N C G B : Nat} {S : Nat → Prop} {d i : Nat} {dist : List Int} {w : List (List Int)} (hE : GrI E N C G) (h : Bk E N C G B S d i dist w) (hd : d < w.length) (hi : i < (w.getD d []).length) {v : Nat} (hv : (w.getD d []).getD i 0 = (v : Int)) (hs : dd dist v < 0)
  (hC : C * N + 1 < 1000000) (hG : B + G * N < 1000000) : ∃ w', frEdges d (dist.set v (d : Int)) (E (v : Int)) w = some w' ∧ Bk E N C G B S d (i + 1) (dist.set v (d : Int)) w' ∧ qy_ (dist.set v (d : Int)) = qy_ dist + 1 := by
 have hx := h.ent d _ (qp_ hi 0)
 rw [hv, Int.toNat_natCast] at hx
 have hvN : v < N := by omega
 have hvl : v < dist.length := by rw [h.len]; exact hvN
 have hcnt := qU_ (a := (d : Int)) hvl hs (by omega)
 have hcN : qy_ dist + 1 ≤ N := by
  have := q7_ (dist.set v (d : Int))
  rw [length_set, h.len, hcnt] at this
  exact this
 have hmC : C * (qy_ dist + 1) ≤ C * N := Nat.mul_le_mul_left _ hcN
 have hmG : G * (qy_ dist + 1) ≤ G * N := Nat.mul_le_mul_left _ hcN
 have eC : C * (qy_ dist + 1) = C * qy_ dist + C := Nat.mul_succ _ _
 have eG : G * (qy_ dist + 1) = G * qy_ dist + G := Nat.mul_succ _ _
 have hwl := h.wl
 obtain ⟨hEl, hEe⟩ := hE v hvN
 obtain ⟨w', a1, a2, a3, a4, a5⟩ := q6_ (N := N) (C := C) (W := C * (qy_ dist + 1) + 1) (L := B + G * (qy_ dist + 1)) (d := d) (dist := dist.set v (d : Int)) (by rw [length_set]; exact h.len) (by omega) (by omega) (E (v : Int)) w hEe (by omega) (by omega) (fun b => by have := h.sz b; omega)
 have hD : ∀ x, dd (dist.set v (d : Int)) x = if x = v then (d : Int) else dd dist x := qN_ _ hvl
 have hDv : dd (dist.set v (d : Int)) v = (d : Int) := by rw [hD, if_pos rfl]
 have hDo : ∀ x, 0 ≤ dd dist x → dd (dist.set v (d : Int)) x = dd dist x := by
  intro x hx
  rw [hD, if_neg]
  intro e
  rw [e] at hx; omega
 have hw'd : w'.getD d [] = w.getD d [] := by
  obtain ⟨t, t1, -, t3⟩ := a4 d
  cases t with
  | nil => rw [t1, append_nil]
  | cons y t =>
   obtain ⟨e, e1, -, e2⟩ := t3 y (by simp)
   have := (hEe e e1).2.2.1
   omega
 have hp : ∀ b x, x ≠ v → sq_ d i w b x → sq_ d (i + 1) w' b x := by
  intro b x hxv hq
  rcases rb_ hi hq with ⟨-, e⟩ | ⟨q1, q2⟩
  ·rw [hv] at e; omega
  ·refine ⟨q1, ?_⟩
   by_cases e : b = d
   ·rw [if_pos e] at q2 ⊢
    rw [e] at q2 ⊢
    rw [hw'd]; exact q2
   ·rw [if_neg e] at q2 ⊢
    obtain ⟨t, t1, -, -⟩ := a4 b
    rw [t1]
    exact mem_append_left _ q2
 refine ⟨w', a1, ?_, hcnt⟩
 refine ⟨by rw [length_set]; exact h.len, fun x hx1 => ?_, fun x hx1 => ?_, fun x hx1 => ?_, by rw [hcnt]; exact a3, Nat.le_of_lt (Nat.lt_of_lt_of_le hd a2), fun b x hm => ?_, fun b => ?_, fun s hS => ?_, fun u hu h0 e he => ?_, fun x hx1 h0 => ?_⟩
 ·rw [hD]
  split
  ·omega
  ·exact h.low x hx1
 ·rw [hD]
  split
  ·omega
  ·exact h.set_ x hx1
 ·rw [hD, hcnt]
  have := h.hi x hx1
  split <;> omega
 ·obtain ⟨t, t1, -, t3⟩ := a4 b
  rw [t1] at hm
  rcases mem_append.1 hm with q | q
  ·obtain ⟨e1, e2, e3⟩ := h.ent b x q
   refine ⟨e1, e2, e3.imp id fun ⟨u, u1, u2, c, u3, u4⟩ => ⟨u, u1, ?_, c, u3, ?_⟩⟩
   ·rw [hDo u u2]; exact u2
   ·rw [hDo u u2]; exact u4
  ·obtain ⟨e, e1, e2, e3⟩ := t3 x q
   have he := hEe e e1
   refine ⟨by omega, by omega, .inr ⟨v, hvN, by rw [hDv]; omega, e.f1.toNat, ?_, by rw [hDv]; omega⟩⟩
   rw [e2]
   exact mem_map.2 ⟨e, e1, rfl⟩
 ·obtain ⟨t, t1, t2, -⟩ := a4 b
  have := h.sz b
  rw [t1, length_append, hcnt]
  omega
 ·obtain ⟨s1, s2⟩ := h.st s hS
  refine ⟨s1, ?_⟩
  by_cases e : s = v
  ·left
   rcases s2 with q | ⟨-, q⟩
   ·rw [e] at q; omega
   ·rw [e, hDv]
    have := q.1
    omega
  ·rw [hD, if_neg e]
   exact s2.imp id fun ⟨q1, q2⟩ => ⟨q1, hp _ _ e q2⟩
 ·by_cases q : u = v
  ·rw [q] at he
   obtain ⟨y, y1, y2⟩ := mem_map.1 he
   have hy := hEe y y1
   have hyN : y.f0.toNat < N := by omega
   rw [q, hDv, ← y2]
   simp only
   by_cases z : dd (dist.set v (d : Int)) y.f0.toNat < 0
   ·right
    refine ⟨z, d + y.f1.toNat, by omega, by omega, ?_⟩
    rw [if_neg (by omega), show ((y.f0.toNat : Nat) : Int) = y.f0 by omega]
    exact a5 y y1 z
   ·left
    refine ⟨by omega, ?_⟩
    have : dd (dist.set v (d : Int)) y.f0.toNat ≤ (d : Int) := by
     rw [hD]
     split
     ·exact Int.le_refl _
     ·exact h.set_ _ hyN
    omega
  ·have hu0 : 0 ≤ dd dist u := by
    rw [hD, if_neg q] at h0; exact h0
   rw [hDo u hu0]
   rcases h.go u hu hu0 e he with ⟨z1, z2⟩ | ⟨z1, b, z2, z3⟩
   ·left
    rw [hDo _ z1]; exact ⟨z1, z2⟩
   ·by_cases q2 : e.1 = v
    ·left
     rw [q2, hDv]
     have := z3.1
     omega
    ·right
     rw [hD, if_neg q2]
     exact ⟨z1, b, z2, hp _ _ q2 z3⟩
 ·by_cases q : x = v
  ·rcases hx.2.2 with ⟨z1, -⟩ | ⟨u, u1, u2, c, u3, u4⟩
   ·left; rw [q]; exact z1
   ·right
    refine ⟨u, u1, by rw [hDo u u2]; exact u2, c, by rw [q]; exact u3, ?_⟩
    rw [q, hDv, hDo u u2]; exact u4
  ·rw [hD, if_neg q] at h0
   rcases h.by_ x hx1 h0 with z | ⟨u, u1, u2, c, u3, u4⟩
   ·exact .inl z
   ·right
    refine ⟨u, u1, by rw [hDo u u2]; exact u2, c, u3, ?_⟩
    rw [hD, if_neg q, hDo u u2]; exact u4
theorem sh_ {E : Int → List S110} {N C G B : Nat} {S : Nat → Prop} (hE : GrI E N C G) (hC : C * N + 1 < 1000000) (hG : B + G * N < 1000000) : ∀ (a b l d i : Nat) (dist : List Int) (w : List (List Int)), N - qy_ dist ≤ a → C * N + 2 - d ≤ b → (w.getD d []).length - i ≤ l → Bk E N C G B S d i dist w →
  ∃ k r, frRun E (N : Int) k d i dist w = some r ∧ Far (Aof E) N S (dd r) ∧ r.length = N ∧ (∀ v, v < N → -1 ≤ dd r v) ∧ ∀ v, v < N → dd r v ≤ ((C * N : Nat) : Int) := by
 intro a
 induction a using Nat.strongRecOn with
 | _ a iha =>
 intro b
 induction b using Nat.strongRecOn with
 | _ b ihb =>
 intro l
 induction l using Nat.strongRecOn with
 | _ l ihl =>
 intro d i dist w ha hb hl h
 have hcl := q7_ dist
 rw [h.len] at hcl
 have hmC : C * qy_ dist ≤ C * N := Nat.mul_le_mul_left _ hcl
 have hmG : G * qy_ dist ≤ G * N := Nat.mul_le_mul_left _ hcl
 by_cases c1 : d < w.length
 ·have hwl := h.wl
  by_cases c2 : i < (w.getD d []).length
  ·obtain ⟨e1, e2, -⟩ := h.ent d _ (qp_ c2 0)
   obtain ⟨v, hv⟩ : ∃ v : Nat, (w.getD d []).getD i 0 = (v : Int) := ⟨((w.getD d []).getD i 0).toNat, by omega⟩
   have hvN : v < N := by omega
   have hEl := (hE v hvN).1
   have hG1 : 1 ≤ N := by omega
   have hGN : G * 1 ≤ G * N := Nat.mul_le_mul_left _ hG1
   have hsz := h.sz d
   have hrd : rdOf 0 (w.getD d []) (i : Int) = (v : Int) := hv
   have hcond : 0 ≤ (v : Int) ∧ (v : Int) < (N : Int) ∧ i < 1000000 ∧ d < 1000000 ∧ (E (v : Int)).length < 1000000 := ⟨by omega, by omega, by omega, by omega, by omega⟩
   by_cases c3 : dd dist v ≥ 0
   ·obtain ⟨k, r, hr, hq⟩ := ihl (l - 1) (by omega) d (i + 1) dist w ha hb (by omega) (h.skip c2 (by rw [hv]; exact c3))
    refine ⟨k + 1, r, ?_, hq⟩
    rw [frRun.eq_2, if_pos c1, if_pos c2, hrd, if_pos hcond, qw_ _ (by omega), Int.toNat_natCast, if_pos c3]
    exact hr
   ·obtain ⟨w', hw', hB', hc'⟩ := h.settle hE c1 c2 hv (by omega) hC hG
    have hc2 := q7_ (dist.set v (d : Int))
    rw [length_set, h.len] at hc2
    obtain ⟨k, r, hr, hq⟩ := iha (N - qy_ (dist.set v (d : Int))) (by omega) _ _ d (i + 1) (dist.set v (d : Int)) w' (Nat.le_refl _) (Nat.le_refl _) (Nat.le_refl _) hB'
    refine ⟨k + 1, r, ?_, hq⟩
    rw [frRun.eq_2, if_pos c1, if_pos c2, hrd, if_pos hcond, qw_ _ (by omega), Int.toNat_natCast, if_neg c3, hw', Option.bind_some]
    exact hr
  ·obtain ⟨k, r, hr, hq⟩ := ihb (b - 1) (by omega) _ (d + 1) 0 dist w ha (by omega) (Nat.le_refl _) (h.next c1 c2)
   refine ⟨k + 1, r, ?_, hq⟩
   rw [frRun.eq_2, if_pos c1, if_neg c2, if_pos (by omega)]
   exact hr
 ·refine ⟨1, dist, ?_, h.end_ c1, h.len, h.low, fun v hv => ?_⟩
  ·rw [frRun.eq_2, if_neg c1]
  ·have := h.hi v hv
   omega
theorem s5_ {E : Int → List S110} {N C G s : Nat} (hE : GrI E N C G) (hs : s < N) (hN : N ≤ 1000000) (hC : C * N + 1 < 1000000) (hG : 1 + G * N < 1000000) :
  ∃ k r, impl_graph_int_from.f E k (N : Int) [(s : Int)] = some r ∧ Far (Aof E) N (fun v => v = s) (dd r) ∧ r.length = N ∧ (∀ v, v < N → -1 ≤ dd r v) ∧ ∀ v, v < N → dd r v ≤ ((C * N : Nat) : Int) := by
 have hdd : ∀ v, v < N → dd (List.replicate N (-1)) v = -1 := by
  intro v hv
  unfold dd
  rw [getD_eq_getElem?_getD, List.getElem?_replicate, if_pos hv]
  rfl
 have hc0 : qy_ (List.replicate N (-1)) = 0 := by
  unfold qy_
  rw [List.countP_eq_zero]
  intro x hx
  rw [(List.mem_replicate.1 hx).2]
  decide
 have hB : Bk E N C G 1 (fun v => v = s) 0 0 (List.replicate N (-1)) [[(s : Int)]] := by
  refine ⟨by simp, fun v hv => by rw [hdd v hv]; omega, fun v hv => by rw [hdd v hv]; omega, fun v hv => by rw [hdd v hv]; omega, by simp, by simp, fun b x hx => ?_, fun b => ?_, fun t ht => ?_, fun u hu h0 => ?_, fun v hv h0 => ?_⟩
  ·cases b with
   | zero =>
    have : x = (s : Int) := by simpa using hx
    rw [this]
    exact ⟨by omega, by omega, .inl ⟨Int.toNat_natCast _, rfl⟩⟩
   | succ b => simp at hx
  ·cases b with
   | zero => simp
   | succ b => simp
  ·rw [ht]
   exact ⟨hs, .inr ⟨by rw [hdd s hs]; omega, Nat.le_refl _, by simp⟩⟩
  ·rw [hdd u hu] at h0; omega
  ·rw [hdd v hv] at h0; omega
 obtain ⟨k, r, hr, hq⟩ := sh_ hE hC hG N (C * N + 2) _ 0 0 (List.replicate N (-1)) [[(s : Int)]] (by omega) (by omega) (Nat.le_refl _) hB
 refine ⟨k, r, ?_, hq⟩
 unfold impl_graph_int_from.f slices_Repeat_int_int.f
 rw [if_pos (by omega), if_pos (show [-1].length = 1 from rfl), if_pos (by omega), if_pos (by omega)]
 show frRun E (N : Int) k 0 0 (List.replicate (N : Int).toNat (-1)) [[(s : Int)]] = some r
 rw [Int.toNat_natCast]
 exact hr
theorem qv_ {α : Type} (p : α → Bool) (f : α → Int) : ∀ l : List α, qj_ ((l.filter p).map f) = qj_ (l.map fun x => if p x = true then f x else 0)
 | [] => rfl
 | x :: l => by
  rw [filter_cons]
  cases h : p x
  ·simp only [Bool.false_eq_true, if_false, map_cons, qj_, h]
   rw [qv_ p f l]
   omega
  ·simp only [if_true, map_cons, qj_, h]
   rw [qv_ p f l]
theorem rc_ {dist : List Int} {N C : Nat} (hC : C * N + 1 < 1000000) (hc : C < 1000000) (hi : ∀ v, v < N → dd dist v ≤ ((C * N : Nat) : Int)) (lo : ∀ v, v < N → -1 ≤ dd dist v) {v : Nat} (hv : v < N) {e : S110} (he : 0 ≤ e.f0 ∧ e.f0 < (N : Int) ∧ 1 ≤ e.f1 ∧ e.f1 ≤ (C : Int)) :
  (!offWay dist (v : Int) e.f0 e.f1) = decide (0 ≤ dd dist e.f0.toNat ∧ dd dist e.f0.toNat + (e.f1.toNat : Int) = dd dist v) := by
 have h1 := hi e.f0.toNat (by omega)
 have h2 := lo e.f0.toNat (by omega)
 unfold offWay
 rw [qw_ _ he.1, qw_ _ (by omega : (0 : Int) ≤ (v : Int)), Int.toNat_natCast, qg_ (by omega) (by omega)]
 have h3 : (e.f1.toNat : Int) = e.f1 := by omega
 rw [h3]
 by_cases c : 0 ≤ dd dist e.f0.toNat
 ·rw [decide_eq_false (by omega : ¬ dd dist e.f0.toNat < 0)]
  by_cases q : dd dist e.f0.toNat + e.f1 = dd dist v
  ·simp [q, c]
  ·simp [q]
 ·rw [decide_eq_true (by omega : dd dist e.f0.toNat < 0)]
  simp [c]
def sX_ : Nat → List (List Bool)
 | 0 => [[]]
 | n + 1 => (sX_ n).flatMap fun l => [true :: l, false :: l]
theorem qQ_ : ∀ o : List Bool, o ∈ sX_ o.length
 | [] => by simp [sX_]
 | b :: o => by
  simp only [length_cons, sX_, List.mem_flatMap]
  exact ⟨o, qQ_ o, by cases b <;> simp⟩
def uk_ (n : Nat) : Bool := (sX_ n).all fun o => [true, false].all fun t => match impl_State_code.f 20 o t with
 | some c => decide (0 ≤ c) && (decide (c < 2 ^ (n + 1)) && (impl_stateOf.f 20 (n : Int) c == some (o, t)))
 | none => false
def ui_ (n : Nat) : Bool := (sX_ n).all fun o => [true, false].all fun t => match spec_seIndex.f 20 o t with
 | some c => decide (0 ≤ c) && (decide (c < 2 ^ (n + 1)) && (spec_seState.f 20 c (n : Int) == some (o, t)))
 | none => false
def ul_ (n : Nat) : Bool := (List.range (2 ^ (n + 1))).all fun c => match impl_stateOf.f 20 (n : Int) (c : Int) with
 | some s => decide (s.1.length = n) && (impl_State_code.f 20 s.1 s.2 == some (c : Int))
 | none => false
def uj_ (n : Nat) : Bool := (List.range (2 ^ (n + 1))).all fun c => match spec_seState.f 20 (c : Int) (n : Int) with
 | some s => decide (s.1.length = n) && (spec_seIndex.f 20 s.1 s.2 == some (c : Int))
 | none => false
set_option maxRecDepth 100000 in
theorem sV_ : ((List.range 9).all fun n => uk_ n && (ui_ n && (ul_ n && uj_ n))) = true := by decide +kernel
theorem s7_ {n : Nat} (h : n ≤ 8) : uk_ n = true ∧ ui_ n = true ∧ ul_ n = true ∧ uj_ n = true := by
 have := all_eq_true.1 sV_ n (mem_range.2 (by omega))
 simpa only [Bool.and_eq_true] using this
theorem sD_ (t : Bool) : t ∈ [true, false] := by cases t <;> simp
theorem up_ {o : List Bool} (t : Bool) (h : o.length ≤ 8) : ∃ c : Nat, c < 2 ^ (o.length + 1) ∧ impl_State_code.f 20 o t = some (c : Int) ∧ impl_stateOf.f 20 (o.length : Int) (c : Int) = some (o, t) := by
 have h1 := all_eq_true.1 (all_eq_true.1 (s7_ h).1 o (qQ_ o)) t (sD_ t)
 cases hc : impl_State_code.f 20 o t with
 | none => rw [hc] at h1; cases h1
 | some c =>
  rw [hc] at h1
  simp only [Bool.and_eq_true, decide_eq_true_eq, beq_iff_eq] at h1
  obtain ⟨a, b, d⟩ := h1
  refine ⟨c.toNat, ?_, by rw [Int.toNat_of_nonneg a], by rw [Int.toNat_of_nonneg a]; exact d⟩
  have : ((2 ^ (o.length + 1) : Nat) : Int) = (2 : Int) ^ (o.length + 1) := by simp
  omega
theorem uo_ {o : List Bool} (t : Bool) (h : o.length ≤ 8) : ∃ c : Nat, c < 2 ^ (o.length + 1) ∧ spec_seIndex.f 20 o t = some (c : Int) ∧ spec_seState.f 20 (c : Int) (o.length : Int) = some (o, t) := by
 have h1 := all_eq_true.1 (all_eq_true.1 (s7_ h).2.1 o (qQ_ o)) t (sD_ t)
 cases hc : spec_seIndex.f 20 o t with
 | none => rw [hc] at h1; cases h1
 | some c =>
  rw [hc] at h1
  simp only [Bool.and_eq_true, decide_eq_true_eq, beq_iff_eq] at h1
  obtain ⟨a, b, d⟩ := h1
  refine ⟨c.toNat, ?_, by rw [Int.toNat_of_nonneg a], by rw [Int.toNat_of_nonneg a]; exact d⟩
  have : ((2 ^ (o.length + 1) : Nat) : Int) = (2 : Int) ^ (o.length + 1) := by simp
  omega
theorem qn_ {α : Type} {f : Nat → Option α} (h : ∀ k, LeO (f k) (f (k + 1))) {k k' : Nat} (hk : k ≤ k') {r : α} (hr : f k = some r) : f k' = some r := by
 induction hk with
 | refl => exact hr
 | step _ ih => exact h _ _ ih
theorem sZ_ {n c : Nat} (h : n ≤ 8) (hc : c < 2 ^ (n + 1)) : ∃ o t, impl_stateOf.f 20 (n : Int) (c : Int) = some (o, t) ∧ o.length = n ∧ impl_State_code.f 20 o t = some (c : Int) := by
 have h1 := all_eq_true.1 (s7_ h).2.2.1 c (mem_range.2 hc)
 cases hs : impl_stateOf.f 20 (n : Int) (c : Int) with
 | none => rw [hs] at h1; cases h1
 | some s =>
  rw [hs] at h1
  simp only [Bool.and_eq_true, decide_eq_true_eq, beq_iff_eq] at h1
  exact ⟨s.1, s.2, rfl, h1.1, h1.2⟩
theorem sY_ {n c : Nat} (h : n ≤ 8) (hc : c < 2 ^ (n + 1)) : ∃ o t, spec_seState.f 20 (c : Int) (n : Int) = some (o, t) ∧ o.length = n ∧ spec_seIndex.f 20 o t = some (c : Int) := by
 have h1 := all_eq_true.1 (s7_ h).2.2.2 c (mem_range.2 hc)
 cases hs : spec_seState.f 20 (c : Int) (n : Int) with
 | none => rw [hs] at h1; cases h1
 | some s =>
  rw [hs] at h1
  simp only [Bool.and_eq_true, decide_eq_true_eq, beq_iff_eq] at h1
  exact ⟨s.1, s.2, rfl, h1.1, h1.2⟩
def sI (n c : Nat) : List Bool × Bool := (impl_stateOf.f 20 (n : Int) (c : Int)).getD ([], false)
def sS (n c : Nat) : List Bool × Bool := (spec_seState.f 20 (c : Int) (n : Int)).getD ([], false)
def cI (s : List Bool × Bool) : Nat := ((impl_State_code.f 20 s.1 s.2).getD 0).toNat
def cS (s : List Bool × Bool) : Nat := ((spec_seIndex.f 20 s.1 s.2).getD 0).toNat
theorem qZ_ {n c : Nat} (h : n ≤ 8) (hc : c < 2 ^ (n + 1)) {k : Nat} (hk : 20 ≤ k) : impl_stateOf.f k (n : Int) (c : Int) = some (sI n c) ∧ (sI n c).1.length = n ∧ cI (sI n c) = c := by
 obtain ⟨o, t, h1, h2, h3⟩ := sZ_ h hc
 have e : sI n c = (o, t) := by unfold sI; rw [h1]; rfl
 rw [e]
 refine ⟨qn_ (impl_stateOf.mono _ _) hk h1, h2, ?_⟩
 unfold cI
 rw [h3]
 exact Int.toNat_natCast c
theorem r9_ {n c : Nat} (h : n ≤ 8) (hc : c < 2 ^ (n + 1)) {k : Nat} (hk : 20 ≤ k) : spec_seState.f k (c : Int) (n : Int) = some (sS n c) ∧ (sS n c).1.length = n ∧ cS (sS n c) = c := by
 obtain ⟨o, t, h1, h2, h3⟩ := sY_ h hc
 have e : sS n c = (o, t) := by unfold sS; rw [h1]; rfl
 rw [e]
 refine ⟨qn_ (spec_seState.mono _ _) hk h1, h2, ?_⟩
 unfold cS
 rw [h3]
 exact Int.toNat_natCast c
theorem rz_ {s : List Bool × Bool} (h : s.1.length ≤ 8) {k : Nat} (hk : 20 ≤ k) : impl_State_code.f k s.1 s.2 = some (cI s : Int) ∧ cI s < 2 ^ (s.1.length + 1) ∧ sI s.1.length (cI s) = s := by
 obtain ⟨c, h1, h2, h3⟩ := up_ s.2 h
 have e : cI s = c := by unfold cI; rw [h2]; exact Int.toNat_natCast c
 rw [e]
 refine ⟨qn_ (impl_State_code.mono _ _) hk h2, h1, ?_⟩
 unfold sI
 rw [h3]
 rfl
theorem qC_ {s : List Bool × Bool} (h : s.1.length ≤ 8) {k : Nat} (hk : 20 ≤ k) : spec_seIndex.f k s.1 s.2 = some (cS s : Int) ∧ cS s < 2 ^ (s.1.length + 1) ∧ sS s.1.length (cS s) = s := by
 obtain ⟨c, h1, h2, h3⟩ := uo_ s.2 h
 have e : cS s = c := by unfold cS; rw [h2]; exact Int.toNat_natCast c
 rw [e]
 refine ⟨qn_ (spec_seIndex.mono _ _) hk h2, h1, ?_⟩
 unfold sS
 rw [h3]
 rfl
def qO_ : List Int → List Int → List (List Int)
 | [], _ => []
 | x :: P, l => (l ++ [x]) :: (qO_ P (l ++ [x]) ++ qO_ P l)
theorem qr_ {g : List Int} : ∀ (P l : List Int), g ∈ qO_ P l ↔ ∃ s, s ≠ [] ∧ s.Sublist P ∧ g = l ++ s
 | [], l => by
  simp only [qO_, List.not_mem_nil, List.sublist_nil, false_iff]
  rintro ⟨s, h1, h2, -⟩
  exact h1 h2
 | x :: P, l => by
  simp only [qO_, mem_cons, mem_append, qr_ P]
  constructor
  ·rintro (h | ⟨s, h1, h2, h3⟩ | ⟨s, h1, h2, h3⟩)
   ·exact ⟨[x], by simp, List.Sublist.cons_cons x (List.nil_sublist P), h⟩
   ·exact ⟨x :: s, by simp, List.Sublist.cons_cons x h2, by rw [h3, append_assoc]; rfl⟩
   ·exact ⟨s, h1, List.Sublist.cons x h2, h3⟩
  ·rintro ⟨s, h1, h2, h3⟩
   cases h2 with
   | cons _ h => exact .inr (.inr ⟨s, h1, h, h3⟩)
   | cons_cons _ h =>
    rename_i s'
    by_cases e : s' = []
    ·left; rw [h3, e]
    ·right; left
     exact ⟨s', e, h, by rw [h3, append_assoc]; rfl⟩
theorem q4_ : ∀ (P l : List Int), P.Nodup → (qO_ P l).Nodup
 | [], _, _ => by simp [qO_]
 | x :: P, l, h => by
  obtain ⟨h1, h2⟩ := List.nodup_cons.1 h
  simp only [qO_, List.nodup_cons, mem_append, qr_]
  refine ⟨?_, ?_⟩
  ·rintro (⟨s, a, b, c⟩ | ⟨s, a, b, c⟩)
   ·exact a (List.append_cancel_left ((append_nil _).trans c)).symm
   ·have : [x] = s := List.append_cancel_left c
    rw [← this] at b
    exact h1 (b.subset (by simp))
  ·rw [List.nodup_append]
   refine ⟨q4_ P _ h2, q4_ P _ h2, fun g hg g' hg' e => ?_⟩
   obtain ⟨s, a, b, c⟩ := (qr_ P _).1 hg
   obtain ⟨s', a', b', c'⟩ := (qr_ P _).1 hg'
   rw [c, c', append_assoc] at e
   have : [x] ++ s = s' := List.append_cancel_left e
   rw [← this] at b'
   exact h1 (b'.subset (by simp))
theorem qD_ : ∀ (P l : List Int), (qO_ P l).length + 1 = 2 ^ P.length
 | [], _ => rfl
 | x :: P, l => by
  have h1 := qD_ P (l ++ [x])
  have h2 := qD_ P l
  simp only [qO_, length_cons, length_append, Nat.pow_succ]
  omega
def qh_ (o : List Bool) (t : Bool) : List Int := ((List.range o.length).filter fun i => o.getD i false == t).map fun i : Nat => (i : Int)
theorem ru_ (o : List Bool) (t : Bool) : (qh_ o t).Nodup := by
 unfold qh_
 exact List.Pairwise.map _ (fun (a b : Nat) (h : a ≠ b) (e : (a : Int) = (b : Int)) => h (by omega)) (List.Pairwise.filter _ List.nodup_range)
theorem qk_ (o : List Bool) (t : Bool) : (qh_ o t).length ≤ o.length := by
 unfold qh_
 rw [length_map]
 have := List.length_filter_le (fun i => o.getD i false == t) (List.range o.length)
 rwa [List.length_range] at this
theorem mem_hereF {o : List Bool} {t : Bool} {x : Int} : x ∈ qh_ o t ↔ 0 ≤ x ∧ x < (o.length : Int) ∧ o.getD x.toNat false = t := by
 unfold qh_
 simp only [mem_map, List.mem_filter, mem_range, beq_iff_eq]
 constructor
 ·rintro ⟨i, ⟨h1, h2⟩, rfl⟩
  exact ⟨by omega, by omega, h2⟩
 ·rintro ⟨h1, h2, h3⟩
  exact ⟨x.toNat, ⟨by omega, h3⟩, by omega⟩
def mvO (o : List Bool) (t : Bool) (g : List Int) : List Bool := g.foldl (fun o x => o.set x.toNat (!t)) o
theorem qx_ (t : Bool) : ∀ (g : List Int) (o : List Bool), (mvO o t g).length = o.length
 | [], _ => rfl
 | x :: g, o => by
  show (mvO (o.set x.toNat (!t)) t g).length = _
  rw [qx_ t g, length_set]
theorem rr_ (t : Bool) : ∀ (g : List Int) (o : List Bool), (∀ x ∈ g, 0 ≤ x ∧ x < (o.length : Int)) → ∀ i : Nat, i < o.length → (mvO o t g).getD i false = if (i : Int) ∈ g then !t else o.getD i false
 | [], o, _, i, _ => by simp [mvO]
 | x :: g, o, h, i, hi => by
  have hx := h x (by simp)
  show (mvO (o.set x.toNat (!t)) t g).getD i false = _
  rw [rr_ t g _ (fun y hy => by rw [length_set]; exact h y (by simp [hy])) i (by rw [length_set]; exact hi)]
  have hs : (o.set x.toNat (!t)).getD i false = if (i : Int) = x then !t else o.getD i false := by
   rw [getD_eq_getElem?_getD, getD_eq_getElem?_getD, List.getElem?_set]
   by_cases e : x.toNat = i
   ·rw [if_pos e, if_pos (by omega), if_pos (by omega)]; rfl
   ·rw [if_neg e, if_neg (by omega)]
  rw [hs]
  by_cases e : (i : Int) ∈ g
  ·rw [if_pos e, if_pos (List.mem_cons_of_mem _ e)]
  ·rw [if_neg e]
   by_cases q : (i : Int) = x
   ·rw [if_pos q, if_pos (by rw [q]; exact List.mem_cons_self)]
   ·rw [if_neg q, if_neg (by simp [q, e])]
theorem rY_ {a b : List Bool} (h : a.length = b.length) (h2 : ∀ i : Nat, i < a.length → a.getD i false = b.getD i false) : a = b := by
 apply List.ext_getElem h
 intro i h3 h4
 have := h2 i h3
 rwa [getD_eq_getElem?_getD, getD_eq_getElem?_getD, getElem?_eq_getElem h3, getElem?_eq_getElem h4] at this
theorem sv_ {o : List Bool} {t : Bool} {g : List Int} (h : g.Sublist (qh_ o t)) : mvO (mvO o t g) (!t) g = o ∧ g.Sublist (qh_ (mvO o t g) (!t)) := by
 have hg : ∀ x ∈ g, 0 ≤ x ∧ x < (o.length : Int) ∧ o.getD x.toNat false = t := fun x hx => mem_hereF.1 (h.subset hx)
 have hlen := qx_ t g o
 have hget := rr_ t g o (fun x hx => ⟨(hg x hx).1, (hg x hx).2.1⟩)
 constructor
 ·refine rY_ (by rw [qx_, qx_]) fun i hi => ?_
  rw [qx_, qx_] at hi
  rw [rr_ (!t) g _ (fun x hx => by rw [hlen]; exact ⟨(hg x hx).1, (hg x hx).2.1⟩) i (by rw [hlen]; exact hi), hget i hi]
  by_cases e : (i : Int) ∈ g
  ·rw [if_pos e, Bool.not_not]
   have := (hg _ e).2.2
   rw [Int.toNat_natCast] at this
   exact this.symm
  ·rw [if_neg e, if_neg e]
 ·have h1 : g.Sublist ((List.range o.length).map fun i : Nat => (i : Int)) := h.trans (List.Sublist.map _ List.filter_sublist)
  have h2 := h1.filter fun x => (mvO o t g).getD x.toNat false == !t
  have h3 : g.filter (fun x => (mvO o t g).getD x.toNat false == !t) = g := by
   rw [List.filter_eq_self]
   intro x hx
   have := hg x hx
   rw [hget x.toNat (by omega), if_pos (by rw [Int.toNat_of_nonneg this.1]; exact hx)]
   simp
  rw [h3, List.filter_map] at h2
  unfold qh_
  rw [hlen]
  exact h2
def qT_ (o : List Bool) (t : Bool) (i d : Nat) : List Int := ((List.range' i d).filter fun j => o.getD j false == t).map fun j : Nat => (j : Int)
theorem sd_ (o : List Bool) (t : Bool) : qT_ o t 0 o.length = qh_ o t := by
 unfold qT_ qh_
 rw [List.range_eq_range']
theorem qL_ (o : List Bool) (t : Bool) (i d : Nat) : qT_ o t i (d + 1) = (if (o.getD i false == t) = true then [(i : Int)] else []) ++ qT_ o t (i + 1) d := by
 unfold qT_
 rw [List.range'_succ, filter_cons]
 split <;> simp
theorem sF_ {o : List Bool} (t : Bool) (hn : o.length ≤ 8) : ∀ (d k i : Nat) (acc : List Int), i + d = o.length → d < k → acc.length ≤ i → impl_State_side.l0 k t acc o (o.length : Int) (i : Int) = some (acc ++ qT_ o t i d) := by
 intro d
 induction d with
 | zero =>
  intro k i acc hi hk _
  obtain ⟨k, rfl⟩ := qb_ hk
  simp only [impl_State_side.l0]
  rw [if_neg (by omega)]
  simp [qT_]
 | succ d ih =>
  intro k i acc hi hk ha
  obtain ⟨k, rfl⟩ := qb_ hk
  have hlt : i < o.length := by omega
  simp only [impl_State_side.l0]
  rw [if_pos (by omega), if_pos (by omega), if_pos (by omega), qa_ hlt (by omega), qL_, if_pos (by omega : acc.length < 17592186044416)]
  show (if (o.getD i false == t) = true then _ else _) = _
  by_cases e : (o.getD i false == t) = true
  ·rw [if_pos e, if_pos e, ih k (i + 1) _ (by omega) (by omega) (by rw [length_append, length_singleton]; omega), append_assoc]
  ·rw [if_neg e, if_neg e, ih k (i + 1) _ (by omega) (by omega) (by omega)]
   rfl
theorem sG_ {o : List Bool} (b t : Bool) (hn : o.length ≤ 8) {k : Nat} (hk : 20 ≤ k) : impl_State_side.f k o b t = some (qh_ o t) := by
 unfold impl_State_side.f
 rw [show (0 : Int) = ((0 : Nat) : Int) by rfl, sF_ t hn o.length k 0 _ (by omega) (by omega) (Nat.le_refl _), sd_]
 rfl
def InN (n : Nat) (g : List Int) : Prop := ∀ x ∈ g, 0 ≤ x ∧ x < (n : Int)
theorem s3_ (o : List Bool) (t : Bool) : InN o.length (qh_ o t) := fun x hx => ⟨(mem_hereF.1 hx).1, (mem_hereF.1 hx).2.1⟩
def mv (s : List Bool × Bool) (g : List Int) : List Bool × Bool := (mvO s.1 s.2 g, !s.2)
theorem sw_ {g : List Int} {n : Nat} (hg : InN n g) (hn : g.length ≤ 1000000) (b : Bool) : ∀ (d k i : Nat) (o : List Bool), o.length = n → i + d = g.length → d < k → impl_State_moved.l0 k g (g.length : Int) (i : Int) o (!b) = some (mvO o b (g.drop i), !b) := by
 intro d
 induction d with
 | zero =>
  intro k i o ho hi hk
  obtain ⟨k, rfl⟩ := qb_ hk
  simp only [impl_State_moved.l0]
  rw [if_neg (by omega), show i = g.length by omega, drop_length]
  rfl
 | succ d ih =>
  intro k i o ho hi hk
  obtain ⟨k, rfl⟩ := qb_ hk
  have hlt : i < g.length := by omega
  have hx : 0 ≤ rd g (i : Int) ∧ rd g (i : Int) < (n : Int) := hg _ (qp_ hlt 0)
  simp only [impl_State_moved.l0]
  rw [if_pos (by omega), if_pos (by omega), if_pos (by omega), if_pos hx.1, if_pos (by omega), qa_ hlt (by omega), qf_ g i hlt 0, ih k (i + 1) _ (by rw [length_set]; exact ho) (by omega) (by omega)]
  rfl
theorem sx_ {s : List Bool × Bool} (hn : s.1.length ≤ 8) {g : List Int} (hg : g.Sublist (qh_ s.1 s.2)) {k : Nat} (hk : 20 ≤ k) : impl_State_moved.f k s.1 s.2 g = some (mv s g) := by
 have hlen := hg.length_le
 have hl2 := qk_ s.1 s.2
 unfold impl_State_moved.f slices_Clone_bool_bool.f
 rw [if_pos (by omega), Option.bind_some]
 exact sw_ (n := s.1.length) (fun x hx => s3_ s.1 s.2 x (hg.subset hx)) (by omega) s.2 g.length k 0 s.1 rfl (by omega) (by omega)
theorem qm_ (s : List Bool × Bool) (g : List Int) : (mv s g).1.length = s.1.length := qx_ _ _ _
theorem Far.names {A B : Nat → List (Nat × Nat)} {N C s0 : Nat} {d : Nat → Int} (f : Nat → Nat) (h : Far B N (fun v => v = f s0) d) (hA : GrB A N C) (hf : ∀ u, u < N → f u < N) (hi : ∀ u v, u < N → v < N → f u = f v → u = v) (hs : ∀ x, x < N → ∃ u, u < N ∧ f u = x) (h0 : s0 < N)
  (hB : ∀ u, u < N → B (f u) = (A u).map fun e => (f e.1, e.2)) : Far A N (fun v => v = s0) fun v => d (f v) := by
 refine ⟨fun s e => h.st _ (by rw [e]), fun u hu h1 e he => ?_, fun v hv h1 => ?_⟩
 ·exact h.go (f u) (hf u hu) h1 (f e.1, e.2) (by rw [hB u hu]; exact mem_map.2 ⟨e, he, rfl⟩)
 ·rcases h.by_ (f v) (hf v hv) h1 with e | ⟨x, hx, hx0, c, hm, e⟩
  ·exact .inl (hi v s0 hv h0 e)
  ·right
   obtain ⟨u, hu, rfl⟩ := hs x hx
   rw [hB u hu] at hm
   obtain ⟨y, hy, hye⟩ := mem_map.1 hm
   have e1 : f y.1 = f v := congrArg Prod.fst hye
   have e2 : y.2 = c := congrArg Prod.snd hye
   refine ⟨u, hu, hx0, c, ?_, e⟩
   rw [← hi y.1 v (hA u hu y hy).1 hv e1, ← e2]
   exact hy
theorem rC_ {α : Type} [BEq α] [LawfulBEq α] : ∀ {a b : List α}, a.Nodup → b.Nodup → (∀ x, x ∈ a ↔ x ∈ b) → a.Perm b := by
 intro a b ha hb h
 rw [List.perm_iff_count]
 intro x
 rw [ha.count, hb.count]
 by_cases c : x ∈ a
 ·rw [if_pos c, if_pos ((h x).1 c)]
 ·rw [if_neg c, if_neg fun q => c ((h x).2 q)]
def nmS (n c : Nat) : Nat := cS (sI n c)
theorem rd_ {n : Nat} (hn : n ≤ 8) (u : Nat) (hu : u < 2 ^ (n + 1)) : nmS n u < 2 ^ (n + 1) := by
 obtain ⟨-, h2, -⟩ := qZ_ hn hu (Nat.le_refl 20)
 have := (qC_ (s := sI n u) (by omega) (Nat.le_refl 20)).2.1
 rwa [h2] at this
theorem r2_ {n : Nat} (hn : n ≤ 8) {u : Nat} (hu : u < 2 ^ (n + 1)) : sS n (nmS n u) = sI n u := by
 obtain ⟨-, h2, -⟩ := qZ_ hn hu (Nat.le_refl 20)
 have := (qC_ (s := sI n u) (by omega) (Nat.le_refl 20)).2.2
 rwa [h2] at this
theorem sO_ {n : Nat} (hn : n ≤ 8) (u v : Nat) (hu : u < 2 ^ (n + 1)) (hv : v < 2 ^ (n + 1)) (e : nmS n u = nmS n v) : u = v := by
 have h1 := r2_ hn hu
 have h2 := r2_ hn hv
 rw [e] at h1
 obtain ⟨-, -, e1⟩ := qZ_ hn hu (Nat.le_refl 20)
 obtain ⟨-, -, e2⟩ := qZ_ hn hv (Nat.le_refl 20)
 rw [← e1, ← e2, ← h1, ← h2]
theorem sN_ {n : Nat} (hn : n ≤ 8) (x : Nat) (hx : x < 2 ^ (n + 1)) : ∃ u, u < 2 ^ (n + 1) ∧ nmS n u = x := by
 obtain ⟨-, h2, h3⟩ := r9_ hn hx (Nat.le_refl 20)
 have h := rz_ (s := sS n x) (by omega) (Nat.le_refl 20)
 refine ⟨cI (sS n x), by have h5 := h.2.1; rwa [h2] at h5, ?_⟩
 unfold nmS
 have h4 := h.2.2
 rw [h2] at h4
 rw [h4, h3]
theorem sm_ {l : List Int} {u : Nat} (a : Int) (hu : u < l.length) : dd (l.set u a) = upd (dd l) u a := by
 funext v
 exact qN_ a hu v
theorem rB_ (l : List Int) (v : Nat) : rd l (v : Int) = dd l v := rfl
theorem sE_ {α : Type} (f : Nat → α) (u : Nat) (a b : α) : upd (upd f u a) u b = upd f u b := by
 funext x
 unfold upd
 split <;> rfl
theorem ub_ {n : Nat} (h : n ≤ 8) : 2 ^ (n + 1) ≤ 512 := Nat.le_trans (Nat.pow_le_pow_right (by decide) (by omega : n + 1 ≤ 9)) (by decide)
def chkF (n : Nat) : Bool := decide (shl .i64 2 (n : Int) = ((2 ^ (n + 1) : Nat) : Int)) && (decide (impl_last.f (n : Int) = some (((2 ^ (n + 1) - 1 : Nat)) : Int)) && (decide (grN n = ((2 ^ (n + 1) : Nat) : Int)) && (decide (sI n (2 ^ (n + 1) - 1) = (List.replicate n true, true)) && decide (sI n 0 = (List.replicate n false, false)))))
set_option maxRecDepth 100000 in
theorem s8_ : ((List.range 9).all chkF) = true := by decide +kernel
theorem sC_ {n : Nat} (h : n ≤ 8) : shl .i64 2 (n : Int) = ((2 ^ (n + 1) : Nat) : Int) ∧ impl_last.f (n : Int) = some (((2 ^ (n + 1) - 1 : Nat)) : Int) ∧ grN n = ((2 ^ (n + 1) : Nat) : Int) ∧ sI n (2 ^ (n + 1) - 1) = (List.replicate n true, true) ∧ sI n 0 = (List.replicate n false, false) := by
 have := all_eq_true.1 s8_ n (mem_range.2 (by omega))
 unfold chkF at this
 simpa only [Bool.and_eq_true, decide_eq_true_eq] using this
theorem sT_ (n v : Nat) : dd (List.replicate n 0) v = 0 := by
 show (List.replicate n (0 : Int)).getD v 0 = 0
 rw [getD_eq_getElem?_getD, List.getElem?_replicate]
 split <;> rfl
theorem rT_ {N C s0 : Nat} {d w : Nat → Int} (hs : s0 < N) (hd : ∀ v, v < N → d v = if v = s0 then 0 else -1) (hw : ∀ v, v < N → w v = if v = s0 then 1 else 0) : Sea (fun _ => []) N C s0 (fun _ => false) d w 0 0 where
 st := by rw [hd s0 hs, if_pos rfl]
 w0 := by rw [hw s0 hs, if_pos rfl]
 low := fun v hv => by rw [hd v hv]; by_cases h : v = s0 <;> simp [h]
 high := fun v hv => by rw [hd v hv]; by_cases h : v = s0 <;> simp [h]
 sub := fun _ _ _ h => by cases h
 off := fun _ _ _ => rfl
 on := fun _ _ h => by cases h
 up := fun v _ _ h => h
 go := fun _ _ _ h => by cases h
 by_ := fun v hv h => by
  rw [hd v hv] at h
  by_cases e : v = s0
  ·exact .inl e
  ·rw [if_neg e] at h; omega
 ways := fun v hv e => by
  rw [hw v hv, if_neg e, q5_ (fun _ _ _ h => by cases h)]
  exact (qg_ (by omega) (by omega)).symm
theorem rI_ {E E' : Int → List S110} {N : Int} (h : ∀ s, 0 ≤ s → s < N → E s = E' s) (k : Nat) (starts : List Int) : impl_graph_int_from.f E k N starts = impl_graph_int_from.f E' k N starts := by
 unfold impl_graph_int_from.f
 simp only [frRun_congr h]
theorem s4_ {g : Int → Option (List S110)} {E : Int → List S110} {N : Nat} (h : ∀ c : Nat, c < N → g (c : Int) = some (E (c : Int))) : grAll g (N : Int) = true ∧ ∀ s, 0 ≤ s → s < (N : Int) → grE g s = E s := by
 constructor
 ·unfold grAll
  rw [Int.toNat_natCast, all_eq_true]
  intro c hc
  rw [h c (mem_range.1 hc)]
  rfl
 ·intro s h0 h1
  obtain ⟨c, rfl⟩ : ∃ c : Nat, s = (c : Int) := ⟨s.toNat, by omega⟩
  unfold grE
  rw [h c (by omega)]
  rfl
def qi_ (m : Nat) : List Int → List Int → List (List Int)
 | [], _ => []
 | x :: P, l => if l.length < m then (l ++ [x]) :: (qi_ m P (l ++ [x]) ++ qi_ m P l) else []
theorem qs_ (m : Nat) : ∀ (P l : List Int), (qi_ m P l).Sublist (qO_ P l)
 | [], _ => List.Sublist.refl _
 | x :: P, l => by
  unfold qi_ qO_
  split
  ·exact List.Sublist.cons_cons _ (List.Sublist.append (qs_ m P _) (qs_ m P _))
  ·exact List.nil_sublist _
theorem q2_ {m : Nat} (P : List Int) {l : List Int} (h : ¬ l.length < m) : qi_ m P l = [] := by
 cases P with
 | nil => rfl
 | cons x P => exact if_neg h
theorem re_ {g : List Int} (m : Nat) : ∀ (P l : List Int), g ∈ qi_ m P l ↔ g ∈ qO_ P l ∧ g.length ≤ m
 | [], l => by simp [qi_, qO_]
 | x :: P, l => by
  by_cases h : l.length < m
  ·unfold qi_
   rw [if_pos h]
   simp only [qO_, mem_cons, mem_append, re_ m P]
   constructor
   ·rintro (e | e | e)
    ·exact ⟨.inl e, by rw [e, length_append, length_singleton]; omega⟩
    ·exact ⟨.inr (.inl e.1), e.2⟩
    ·exact ⟨.inr (.inr e.1), e.2⟩
   ·rintro ⟨e | e | e, q⟩
    ·exact .inl e
    ·exact .inr (.inl ⟨e, q⟩)
    ·exact .inr (.inr ⟨e, q⟩)
  ·rw [q2_ _ h]
   constructor
   ·intro e; cases e
   ·rintro ⟨e, q⟩
    obtain ⟨s, h1, -, h3⟩ := (qr_ _ _).1 e
    rw [h3, length_append] at q
    have := List.length_pos_iff.2 h1
    omega
theorem qY_ (m : Nat) (P l : List Int) : (qi_ m P l).length + 1 ≤ 2 ^ P.length := by
 have h1 := qD_ P l
 have h2 := (qs_ m P l).length_le
 omega
theorem rD_ {x0 : List Int} (h0 : x0.length ≤ 8) (m : Nat) : ∀ (d : Nat), (∀ (k i : Nat) (l : List Int) (acc : List (List Int)), i + d = x0.length → 3 * d + 1 ≤ k → l.length < m → l.length + d ≤ x0.length → acc.length + 2 ^ d ≤ 1000000 → spec_paGroups.l0 k x0 l (m : Int) acc (i : Int) = some (acc ++ qi_ m (x0.drop i) l)) ∧
  ∀ (k i : Nat) (l : List Int), i + d = x0.length → 3 * d + 3 ≤ k → l.length ≤ m → l.length + d ≤ x0.length → spec_paGroups.f k x0 l (i : Int) (m : Int) = some ((if (l.length : Int) > 0 then [l] else []) ++ qi_ m (x0.drop i) l) := by
 have J : ∀ (d : Nat), (∀ (k i : Nat) (l : List Int) (acc : List (List Int)), i + d = x0.length → 3 * d + 1 ≤ k → l.length < m → l.length + d ≤ x0.length → acc.length + 2 ^ d ≤ 1000000 → spec_paGroups.l0 k x0 l (m : Int) acc (i : Int) = some (acc ++ qi_ m (x0.drop i) l)) →
   ∀ (k i : Nat) (l : List Int), i + d = x0.length → 3 * d + 3 ≤ k → l.length ≤ m → l.length + d ≤ x0.length → spec_paGroups.f k x0 l (i : Int) (m : Int) = some ((if (l.length : Int) > 0 then [l] else []) ++ qi_ m (x0.drop i) l) := by
  intro d A k i l hi hk hm hl
  have hd8 : 2 ^ d ≤ 2 ^ 8 := Nat.pow_le_pow_right (by decide) (by omega)
  obtain ⟨k, rfl⟩ := qb_ (d := 0) (by omega : 0 < k)
  obtain ⟨k, rfl⟩ := qb_ (d := 0) (by omega : 0 < k)
  have hj : ∀ acc : List (List Int), acc.length ≤ 1 → spec_paGroups.j0 (k + 1) x0 l (i : Int) (m : Int) acc = some (acc ++ qi_ m (x0.drop i) l) := by
   intro acc ha
   simp only [spec_paGroups.j0]
   by_cases e : l.length < m
   ·rw [if_neg (by omega), A k i l acc hi (by omega) e (by omega) (by omega)]
   ·rw [if_pos (by omega), q2_ _ e, append_nil]
  rw [spec_paGroups.f.eq_2]
  unfold spec_l1Own.f
  by_cases e : (l.length : Int) > 0
  ·rw [if_pos e, if_pos e]
   simp only [Option.bind_some, nil_append, length_nil, length_singleton]
   rw [if_pos (by omega), Option.bind_some, if_pos (by omega)]
   exact hj [l] (by simp)
  ·rw [if_neg e, if_neg e]
   exact hj [] (by simp)
 intro d
 induction d with
 | zero =>
  have A : ∀ (k i : Nat) (l : List Int) (acc : List (List Int)), i + 0 = x0.length → 3 * 0 + 1 ≤ k → l.length < m → l.length + 0 ≤ x0.length → acc.length + 2 ^ 0 ≤ 1000000 → spec_paGroups.l0 k x0 l (m : Int) acc (i : Int) = some (acc ++ qi_ m (x0.drop i) l) := by
   intro k i l acc hi hk hm hl ha
   obtain ⟨k, rfl⟩ := qb_ (d := 0) (by omega : 0 < k)
   simp only [spec_paGroups.l0]
   rw [if_neg (by omega), show i = x0.length by omega, drop_length]
   simp [qi_]
  exact ⟨A, J 0 A⟩
 | succ d ih =>
  have A : ∀ (k i : Nat) (l : List Int) (acc : List (List Int)), i + (d + 1) = x0.length → 3 * (d + 1) + 1 ≤ k → l.length < m → l.length + (d + 1) ≤ x0.length → acc.length + 2 ^ (d + 1) ≤ 1000000 → spec_paGroups.l0 k x0 l (m : Int) acc (i : Int) = some (acc ++ qi_ m (x0.drop i) l) := by
   intro k i l acc hi hk hm hl ha
   obtain ⟨k, rfl⟩ := qb_ (d := 0) (by omega : 0 < k)
   have hlt : i < x0.length := by omega
   have e2 : 2 ^ (d + 1) = 2 ^ d + 2 ^ d := by rw [Nat.pow_succ]; omega
   have hsl := qY_ m (x0.drop (i + 1)) (l ++ [rd x0 (i : Int)])
   rw [List.length_drop, show x0.length - (i + 1) = d by omega] at hsl
   have hd8 : 2 ^ d ≤ 2 ^ 8 := Nat.pow_le_pow_right (by decide) (by omega)
   simp only [spec_paGroups.l0]
   unfold spec_l1Own.f
   rw [if_pos (by omega)]
   simp only [Option.bind_some, nil_append, length_nil, length_singleton]
   rw [if_pos (by omega), Option.bind_some, if_pos (by omega), if_pos (by omega), qa_ hlt (by omega),
    ih.2 k (i + 1) (l ++ [rd x0 (i : Int)]) (by omega) (by omega) (by rw [length_append, length_singleton]; omega) (by rw [length_append, length_singleton]; omega), Option.bind_some,
    if_pos (by rw [length_append, length_singleton]; omega : ((l ++ [rd x0 (i : Int)]).length : Int) > 0)]
   rw [if_pos (by rw [length_append, length_singleton]; omega)]
   rw [ih.1 k (i + 1) l _ (by omega) (by omega) hm (by omega) (by rw [length_append, length_append, length_singleton]; omega)]
   rw [qf_ x0 i hlt 0]
   show some (acc ++ ([l ++ [rd x0 (i : Int)]] ++ qi_ m (x0.drop (i + 1)) (l ++ [rd x0 (i : Int)])) ++ qi_ m (x0.drop (i + 1)) l) = some (acc ++ qi_ m (rd x0 (i : Int) :: x0.drop (i + 1)) l)
   rw [show qi_ m (rd x0 (i : Int) :: x0.drop (i + 1)) l = (l ++ [rd x0 (i : Int)]) :: (qi_ m (x0.drop (i + 1)) (l ++ [rd x0 (i : Int)]) ++ qi_ m (x0.drop (i + 1)) l) from if_pos hm]
   simp
  exact ⟨A, J (d + 1) A⟩
def ql_ (m : Nat) (s : List Bool × Bool) : List (List Int) := qi_ m (qh_ s.1 s.2) []
theorem mem_trips {m : Nat} {s : List Bool × Bool} {g : List Int} : g ∈ ql_ m s ↔ g ≠ [] ∧ g.Sublist (qh_ s.1 s.2) ∧ g.length ≤ m := by
 unfold ql_
 rw [re_, qr_]
 constructor
 ·rintro ⟨⟨u, h1, h2, h3⟩, h4⟩
  rw [nil_append] at h3
  rw [← h3] at h1 h2
  exact ⟨h1, h2, h4⟩
 ·rintro ⟨h1, h2, h3⟩
  exact ⟨⟨g, h1, h2, rfl⟩, h3⟩
theorem qW_ {m : Nat} {s : List Bool × Bool} (h : s.1.length ≤ 8) : (ql_ m s).length ≤ 255 := by
 have h1 := qY_ m (qh_ s.1 s.2) []
 have h2 : 2 ^ (qh_ s.1 s.2).length ≤ 2 ^ 8 := Nat.pow_le_pow_right (by decide) (Nat.le_trans (qk_ _ _) h)
 unfold ql_
 omega
theorem rp_ (m : Nat) (s : List Bool × Bool) : (ql_ m s).Nodup := (q4_ _ _ (ru_ _ _)).sublist (qs_ _ _ _)
def dgr (s : List Bool × Bool) (d : List Int) : Bool := (rdOf false s.1 (rd d 0) != s.2) && (rdOf false s.1 (rd d 1) != s.2)
def qu_ (ds : List (List Int)) (s : List Bool × Bool) : Bool := !(ds.any (dgr s))
structure KpQ (n : Nat) (ds : List (List Int)) : Prop where
 n8 : n ≤ 8
 dok : ∀ d ∈ ds, d.length = 2 ∧ (0 ≤ rd d 0 ∧ rd d 0 < (n : Int)) ∧ 0 ≤ rd d 1 ∧ rd d 1 < (n : Int)
 few : ds.length ≤ 28
theorem sL_ {n : Nat} {ds : List (List Int)} (hq : KpQ n ds) {s : List Bool × Bool} (hs : s.1.length = n) : ∀ (d k i : Nat) (acc : List (List Int)), i + d = ds.length → d < k → acc.length ≤ i →
  spec_keNow.l0 k acc ds (ds.length : Int) (i : Int) s.1 s.2 = some (acc ++ (ds.drop i).filter (dgr s)) := by
 have hl := hq.few
 have hn8 := hq.n8
 intro d
 induction d with
 | zero =>
  intro k i acc hi hk ha
  obtain ⟨k, rfl⟩ := qb_ hk
  rw [spec_keNow.l0.eq_2, if_neg (by omega), show i = ds.length by omega, drop_length]
  simp
 | succ d ih =>
  intro k i acc hi hk ha
  obtain ⟨k, rfl⟩ := qb_ hk
  have hlt : i < ds.length := by omega
  have ia : (0 : Int) ≤ (i : Int) := Int.natCast_nonneg i
  have ib : (i : Int) < (ds.length : Int) := Int.ofNat_lt.2 hlt
  have ac : acc.length < 5864062014805 := Nat.lt_of_le_of_lt ha (by omega)
  have hgm : rd_L1 ds (i : Int) ∈ ds := qp_ hlt []
  have hgd : ds.drop i = rd_L1 ds (i : Int) :: ds.drop (i + 1) := qf_ _ i hlt []
  obtain ⟨g, hg⟩ : ∃ g, g = rd_L1 ds (i : Int) := ⟨_, rfl⟩
  rw [← hg] at hgm hgd
  obtain ⟨h1, h2, h3⟩ := hq.dok g hgm
  have i1 := ih k (i + 1) (acc ++ [g]) (by omega) (by omega) (by rw [length_append, length_singleton]; omega)
  have i2 := ih k (i + 1) acc (by omega) (by omega) (by omega)
  have e1 : spec_l1Own.f g = some g := by
   unfold spec_l1Own.f
   rw [Option.bind_some, if_pos (by simp only [length_nil]; omega), nil_append]
  have hw : wrap64 ((i : Int) + 1) = ((i + 1 : Nat) : Int) := qa_ hlt (by omega)
  have l0 : (0 : Int) < (g.length : Int) := by omega
  have l1 : (1 : Int) < (g.length : Int) := by omega
  have b0 : rd g 0 < (s.1.length : Int) := by omega
  have b1 : rd g 1 < (s.1.length : Int) := by omega
  rw [spec_keNow.l0.eq_2, if_pos ib, if_pos ia, if_pos ib, ← hg, hw, if_pos l0, if_pos h2.1, if_pos b0, hgd, filter_cons]
  by_cases c1 : (rdOf false s.1 (rd g 0) != s.2) = true
  ·rw [if_pos c1, if_pos l1, if_pos h3.1, if_pos b1]
   by_cases c2 : (rdOf false s.1 (rd g 1) != s.2) = true
   ·have hd : dgr s g = true := by unfold dgr; rw [c1, c2]; rfl
    rw [if_pos c2, e1, Option.bind_some, if_pos ac, i1, if_pos hd, append_assoc]
    rfl
   ·have hd : ¬ dgr s g = true := by unfold dgr; rw [c1, Bool.true_and]; exact c2
    rw [if_neg c2, i2, if_neg hd]
  ·have hd : ¬ dgr s g = true := by unfold dgr; rw [Bool.and_eq_true]; exact fun e => c1 e.1
   rw [if_neg c1, i2, if_neg hd]
theorem sM_ {n : Nat} {ds : List (List Int)} (hq : KpQ n ds) {s : List Bool × Bool} (hs : s.1.length = n) : ∀ (d k i : Nat) (acc : List (List Int)), i + d = ds.length → d < k → acc.length ≤ i →
  impl_Keep_dangers.l0 k acc ds (ds.length : Int) (i : Int) s.1 s.2 = some (acc ++ (ds.drop i).filter (dgr s)) := by
 have hl := hq.few
 have hn8 := hq.n8
 intro d
 induction d with
 | zero =>
  intro k i acc hi hk ha
  obtain ⟨k, rfl⟩ := qb_ hk
  rw [impl_Keep_dangers.l0.eq_2, if_neg (by omega), show i = ds.length by omega, drop_length]
  simp
 | succ d ih =>
  intro k i acc hi hk ha
  obtain ⟨k, rfl⟩ := qb_ hk
  have hlt : i < ds.length := by omega
  have ia : (0 : Int) ≤ (i : Int) := Int.natCast_nonneg i
  have ib : (i : Int) < (ds.length : Int) := Int.ofNat_lt.2 hlt
  have ac : acc.length < 5864062014805 := Nat.lt_of_le_of_lt ha (by omega)
  have hgm : rd_L1 ds (i : Int) ∈ ds := qp_ hlt []
  have hgd : ds.drop i = rd_L1 ds (i : Int) :: ds.drop (i + 1) := qf_ _ i hlt []
  obtain ⟨g, hg⟩ : ∃ g, g = rd_L1 ds (i : Int) := ⟨_, rfl⟩
  rw [← hg] at hgm hgd
  obtain ⟨h1, h2, h3⟩ := hq.dok g hgm
  have i1 := ih k (i + 1) (acc ++ [g]) (by omega) (by omega) (by rw [length_append, length_singleton]; omega)
  have i2 := ih k (i + 1) acc (by omega) (by omega) (by omega)
  have e1 : slices_Clone_int_int.f g = some g := by
   unfold slices_Clone_int_int.f
   rw [if_pos (by omega)]
  have hw : wrap64 ((i : Int) + 1) = ((i + 1 : Nat) : Int) := qa_ hlt (by omega)
  have l0 : (0 : Int) < (g.length : Int) := by omega
  have l1 : (1 : Int) < (g.length : Int) := by omega
  have b0 : rd g 0 < (s.1.length : Int) := by omega
  have b1 : rd g 1 < (s.1.length : Int) := by omega
  rw [impl_Keep_dangers.l0.eq_2, if_pos ib, if_pos ia, if_pos ib, ← hg, hw, if_pos l0, if_pos h2.1, if_pos b0, hgd, filter_cons]
  by_cases c1 : (rdOf false s.1 (rd g 0) != s.2) = true
  ·rw [if_pos c1, if_pos l1, if_pos h3.1, if_pos b1]
   by_cases c2 : (rdOf false s.1 (rd g 1) != s.2) = true
   ·have hd : dgr s g = true := by unfold dgr; rw [c1, c2]; rfl
    rw [if_pos c2, e1, Option.bind_some, if_pos ac, i1, if_pos hd, append_assoc]
    rfl
   ·have hd : ¬ dgr s g = true := by unfold dgr; rw [c1, Bool.true_and]; exact c2
    rw [if_neg c2, i2, if_neg hd]
  ·have hd : ¬ dgr s g = true := by unfold dgr; rw [Bool.and_eq_true]; exact fun e => c1 e.1
   rw [if_neg c1, i2, if_neg hd]
theorem sA_ {n : Nat} {ds : List (List Int)} (hq : KpQ n ds) (th se : Int) {s : List Bool × Bool} (hs : s.1.length = n) {k : Nat} (hk : 40 ≤ k) : spec_keNow.f k th ds se s.1 s.2 = some (ds.filter (dgr s)) ∧ impl_Keep_dangers.f k th ds se s.1 s.2 = some (ds.filter (dgr s)) := by
 have h1 := sL_ hq hs ds.length k 0 [] (by omega) (by have := hq.few; omega) (Nat.le_refl _)
 have h2 := sM_ hq hs ds.length k 0 [] (by omega) (by have := hq.few; omega) (Nat.le_refl _)
 rw [drop_zero, nil_append] at h1 h2
 exact ⟨h1, h2⟩
theorem qP_ (ds : List (List Int)) (s : List Bool × Bool) : (ds.filter (dgr s)).length = 0 ↔ qu_ ds s = true := by
 unfold qu_
 rw [List.length_eq_zero_iff, List.filter_eq_nil_iff, Bool.not_eq_true', List.any_eq_false]
def qc_ (ds : List (List Int)) (m : Nat) (s : List Bool × Bool) : List (List Int) := ([] :: ql_ m s).filter fun g => qu_ ds (mv s g)
theorem mem_ridesP {ds : List (List Int)} {m : Nat} {s : List Bool × Bool} {g : List Int} : g ∈ qc_ ds m s ↔ (g.Sublist (qh_ s.1 s.2) ∧ g.length ≤ m) ∧ qu_ ds (mv s g) = true := by
 unfold qc_
 rw [List.mem_filter, mem_cons, mem_trips]
 constructor
 ·rintro ⟨rfl | ⟨-, h1, h2⟩, h3⟩
  ·exact ⟨⟨List.nil_sublist _, Nat.zero_le _⟩, h3⟩
  ·exact ⟨⟨h1, h2⟩, h3⟩
 ·rintro ⟨⟨h1, h2⟩, h3⟩
  by_cases e : g = []
  ·exact ⟨.inl e, h3⟩
  ·exact ⟨.inr ⟨e, h1, h2⟩, h3⟩
theorem qt_ {ds : List (List Int)} {m : Nat} {s : List Bool × Bool} (h : s.1.length ≤ 8) : (qc_ ds m s).length ≤ 256 := by
 have h1 := List.length_filter_le (fun g => qu_ ds (mv s g)) ([] :: ql_ m s)
 have h2 := qW_ (m := m) h
 rw [length_cons] at h1
 unfold qc_
 omega
theorem q8_ (ds : List (List Int)) (m : Nat) (s : List Bool × Bool) : (qc_ ds m s).Nodup := by
 refine List.Pairwise.filter _ (List.nodup_cons.2 ⟨fun h => ?_, rp_ m s⟩)
 exact (mem_trips.1 h).1 rfl
theorem rq_ {ds : List (List Int)} {m : Nat} {s : List Bool × Bool} {g : List Int} (h : g ∈ qc_ ds m s) (hs : qu_ ds s = true) : g ∈ qc_ ds m (mv s g) ∧ mv (mv s g) g = s := by
 obtain ⟨⟨a, b⟩, c⟩ := mem_ridesP.1 h
 obtain ⟨h1, h2⟩ := sv_ a
 have e : mv (mv s g) g = s := by
  show (mvO (mvO s.1 s.2 g) (!s.2) g, !(!s.2)) = s
  rw [h1, Bool.not_not]
 exact ⟨mem_ridesP.2 ⟨⟨h2, b⟩, by rw [e]; exact hs⟩, e⟩
theorem ra_ {s : List Bool × Bool} (hn : s.1.length ≤ 8) {g : List Int} (hg : g.Sublist (qh_ s.1 s.2)) {k : Nat} (hk : 20 ≤ k) : impl_Bank_ridden.f k s.1 s.2 g = some (mv s g) := by
 unfold impl_Bank_ridden.f impl_Bank_state.f
 rw [Option.bind_some, sx_ hn hg hk, Option.bind_some]
theorem sb_ {g : List Int} {o : List Bool} {b : Bool} (hg : ∀ x ∈ g, x ∈ qh_ o b) (hn : g.length ≤ 1000000) : ∀ (d k i : Nat) (y : List Bool), y.length = o.length → i + d = g.length → d < k → spec_keRide.l0 k g (g.length : Int) (i : Int) o b y (!b) = some (mvO y b (g.drop i), !b) := by
 intro d
 induction d with
 | zero =>
  intro k i y hy hi hk
  obtain ⟨k, rfl⟩ := qb_ hk
  simp only [spec_keRide.l0]
  rw [if_neg (by omega), show i = g.length by omega, drop_length]
  rfl
 | succ d ih =>
  intro k i y hy hi hk
  obtain ⟨k, rfl⟩ := qb_ hk
  have hlt : i < g.length := by omega
  have hx : 0 ≤ rd g (i : Int) ∧ rd g (i : Int) < (o.length : Int) ∧ rdOf false o (rd g (i : Int)) = b := mem_hereF.1 (hg _ (qp_ hlt 0))
  simp only [spec_keRide.l0]
  rw [if_pos (by omega), if_pos (by omega), if_pos (by omega), if_pos hx.1, if_pos hx.2.1, if_pos (by omega), qa_ hlt (by omega), qf_ g i hlt 0, hx.2.2, ih k (i + 1) _ (by rw [length_set]; exact hy) (by omega) (by omega)]
  rfl
theorem qF_ {s : List Bool × Bool} (hn : s.1.length ≤ 8) {g : List Int} (hg : g.Sublist (qh_ s.1 s.2)) {k : Nat} (hk : 20 ≤ k) : spec_keRide.f k s.1 s.2 g = some (mv s g) := by
 have hlen := hg.length_le
 have hl2 := qk_ s.1 s.2
 unfold spec_keRide.f
 rw [Option.bind_some, if_pos (by simp only [length_nil]; omega), nil_append]
 exact sb_ (fun x hx => hg.subset hx) (by omega) g.length k 0 s.1 rfl (by omega) (by omega)
theorem sg_ {st : List Int → List (List Int) → Option (List (List Int))} {ok : List Int → Bool} (m : Nat) : ∀ (P l : List Int) (acc : List (List Int)), (∀ g ∈ qO_ P l, ∀ a : List (List Int), a.length < 1000000 → st g a = some (a ++ if ok g = true then [g] else [])) → acc.length + 2 ^ P.length ≤ 1000000 →
  gOn st (m : Int) P l acc = some (acc ++ (qi_ m P l).filter ok)
 | [], l, acc, _, _ => by simp [gOn, qi_]
 | x :: P, l, acc, H, hacc => by
  rw [length_cons, Nat.pow_succ] at hacc
  have hpos : 0 < 2 ^ P.length := Nat.pow_pos (by omega)
  unfold gOn qi_
  by_cases hm : l.length < m
  ·rw [if_pos (by omega), if_pos hm, H (l ++ [x]) (by simp [qO_]) acc (by omega), Option.bind_some]
   have hq : (if ok (l ++ [x]) = true then [l ++ [x]] else ([] : List (List Int))).length ≤ 1 := by split <;> simp
   have h1 := qD_ P (l ++ [x])
   have h2 := Nat.le_trans (List.length_filter_le ok (qi_ m P (l ++ [x]))) (qs_ m P (l ++ [x])).length_le
   rw [sg_ m P (l ++ [x]) _ (fun g hg => H g (by simp [qO_, hg])) (by rw [length_append]; omega), Option.bind_some,
    sg_ m P l _ (fun g hg => H g (by simp [qO_, hg])) (by rw [length_append, length_append]; omega), filter_cons, List.filter_append]
   cases ok (l ++ [x]) <;> simp
  ·rw [if_neg (by omega), if_neg hm]
   simp
theorem rZ_ {n : Nat} {ds : List (List Int)} (hq : KpQ n ds) (th se : Int) {s : List Bool × Bool} (hs : s.1.length = n) {g : List Int} (hg : g.Sublist (qh_ s.1 s.2)) {a : List (List Int)} (ha : a.length < 1000000) {k : Nat} (hk : 40 ≤ k) : kpSt k th ds se s.1 s.2 g a = some (a ++ if qu_ ds (mv s g) = true then [g] else []) := by
 have hn := hq.n8
 unfold kpSt
 rw [ra_ (by omega) hg (by omega), Option.bind_some, (sA_ hq th se (s := mv s g) ((qm_ _ _).trans hs) hk).2, Option.bind_some]
 by_cases c : qu_ ds (mv s g) = true
 ·rw [if_pos ((qP_ _ _).2 c), if_pos ha, if_pos c]
 ·rw [if_neg (fun e => c ((qP_ _ _).1 e)), if_neg c, append_nil]
theorem rU_ {n : Nat} {ds : List (List Int)} (hq : KpQ n ds) (th : Int) (m : Nat) {s : List Bool × Bool} (hs : s.1.length = n) {k : Nat} (hk : 60 ≤ k) : impl_Keep_rides.f k th ds (m : Int) s.1 s.2 = some (qc_ ds m s) := by
 have hn := hq.n8
 have hP := qk_ s.1 s.2
 have hp : 2 ^ (qh_ s.1 s.2).length ≤ 2 ^ 8 := Nat.pow_le_pow_right (by decide) (by omega)
 unfold impl_Keep_rides.f
 rw [rZ_ hq th (m : Int) hs (List.nil_sublist _) (by simp) (by omega), Option.bind_some, sG_ _ _ (by omega) (by omega), Option.bind_some, if_pos (by omega),
  sg_ (ok := fun g => qu_ ds (mv s g)) m _ _ _ (fun g hg a ha => by
   obtain ⟨u, e1, e2, e3⟩ := (qr_ _ _).1 hg
   rw [nil_append] at e3
   rw [← e3] at e2
   exact rZ_ hq th (m : Int) hs e2 ha (by omega)) (by split <;> simp <;> omega)]
 unfold qc_ ql_
 rw [filter_cons]
 split <;> simp
theorem s1_ {n : Nat} {ds : List (List Int)} (hq : KpQ n ds) (th se : Int) {s : List Bool × Bool} (hs : s.1.length = n) {g : List Int} (hg : g.Sublist (qh_ s.1 s.2)) : ∀ (d k i : Nat), i + d = g.length → d + 60 ≤ k → spec_keCan.l0 k g g (g.length : Int) (i : Int) th ds se s.1 s.2 = some (qu_ ds (mv s g)) := by
 have hn := hq.n8
 have hlen := hg.length_le
 have hl2 := qk_ s.1 s.2
 intro d
 induction d with
 | zero =>
  intro k i hi hk
  obtain ⟨k, rfl⟩ := qb_ (d := 0) (by omega : 0 < k)
  simp only [spec_keCan.l0]
  rw [if_neg (by omega), qF_ (by omega) hg (by omega), Option.bind_some, (sA_ hq th se (s := mv s g) ((qm_ _ _).trans hs) (by omega)).1, Option.bind_some]
  congr 1
  rw [Bool.eq_iff_iff, ← qP_ ds (mv s g), beq_iff_eq]
  omega
 | succ d ih =>
  intro k i hi hk
  obtain ⟨k, rfl⟩ := qb_ (d := 0) (by omega : 0 < k)
  have hlt : i < g.length := by omega
  have hx : 0 ≤ rd g (i : Int) ∧ rd g (i : Int) < (s.1.length : Int) ∧ rdOf false s.1 (rd g (i : Int)) = s.2 := mem_hereF.1 (hg.subset (qp_ hlt 0))
  simp only [spec_keCan.l0]
  rw [if_pos (by omega), if_pos (by omega), if_pos (by omega), if_pos hx.1, if_pos hx.2.1, if_neg (by rw [hx.2.2]; simp), qa_ hlt (by omega)]
  exact ih k (i + 1) (by omega) (by omega)
theorem rH_ (o : List Bool) (t : Bool) : (qh_ o t).Pairwise (· < ·) := by
 unfold qh_
 exact List.Pairwise.map _ (fun (a b : Nat) (h : a < b) => (by omega : (a : Int) < (b : Int))) (List.Pairwise.filter _ List.pairwise_lt_range)
theorem sK_ {g : List Int} {a b : Int} (hn : g.length ≤ 1000000) (hr : g.Pairwise (· < ·)) (hb : ∀ x ∈ g, a ≤ x ∧ x ≤ b) : ∀ (d k i : Nat), i + d = g.length → 2 * d < k → spec_l1Rising.l0 k g a b g (g.length : Int) (i : Int) = some true := by
 intro d
 induction d with
 | zero =>
  intro k i hi hk
  obtain ⟨k, rfl⟩ := qb_ hk
  simp only [spec_l1Rising.l0]
  rw [if_neg (by omega)]
 | succ d ih =>
  intro k i hi hk
  obtain ⟨k, rfl⟩ : ∃ m, k = m + 2 := ⟨k - 2, by omega⟩
  have hlt : i < g.length := by omega
  have hx := hb _ (qp_ hlt (0 : Int))
  have hx2 : inB (rd g (i : Int)) a b = true := inB_true.2 hx
  have hj : spec_l1Rising.j1 (k + 1) g a b g (g.length : Int) (i : Int) false = some true := by
   simp only [spec_l1Rising.j1]
   rw [if_neg (by decide), qa_ hlt (by omega)]
   exact ih k (i + 1) (by omega) (by omega)
  rw [show k + 2 = (k + 1) + 1 from rfl]
  simp only [spec_l1Rising.l0, qS_, Option.bind_some]
  rw [if_pos (by omega), if_pos (by omega), if_pos (by omega), hx2, if_pos rfl]
  by_cases h0 : 0 < i
  ·have hlt2 : rd g ((i - 1 : Nat) : Int) < rd g (i : Int) := by
    have h1 := List.pairwise_iff_getElem.1 hr (i - 1) i (by omega) hlt (by omega)
    unfold rd
    rw [Int.toNat_natCast, Int.toNat_natCast, getD_eq_getElem?_getD, getD_eq_getElem?_getD, getElem?_eq_getElem hlt, getElem?_eq_getElem (by omega : i - 1 < g.length)]
    exact h1
   have hw : wrap64 ((i : Int) - 1) = ((i - 1 : Nat) : Int) := by rw [qg_ (by omega) (by omega)]; omega
   rw [if_pos (by omega), hw, if_pos (by omega), if_pos (by omega), decide_eq_false (by omega)]
   exact hj
  ·rw [if_neg (by omega)]
   exact hj
theorem s2_ {n : Nat} {ds : List (List Int)} (hq : KpQ n ds) (m : Nat) {s : List Bool × Bool} (hs : s.1.length = n) {g : List Int} (hg : g.Sublist (qh_ s.1 s.2)) (hm : g.length ≤ m) {k : Nat} (hk : 100 ≤ k) : spec_keCan.f k (n : Int) ds (m : Int) s.1 s.2 g = some (qu_ ds (mv s g)) := by
 have hn := hq.n8
 have hlen := hg.length_le
 have hl2 := qk_ s.1 s.2
 obtain ⟨k, rfl⟩ := qb_ (d := 0) (by omega : 0 < k)
 have h1 : spec_l1Rising.f (k + 1) g 0 ((n : Int) - 1) = some true := sK_ (by omega) ((rH_ s.1 s.2).sublist hg) (fun x hx => by
  have := mem_hereF.1 (hg.subset hx)
  omega) g.length (k + 1) 0 (by omega) (by omega)
 unfold spec_keCan.f
 rw [if_neg (by omega), qg_ (by omega) (by omega), h1, Option.bind_some]
 simp only [spec_keCan.j0]
 rw [if_neg (by decide)]
 exact s1_ hq (n : Int) (m : Int) hs hg g.length k 0 (by omega) (by omega)
theorem rE_ {n : Nat} {ds : List (List Int)} (hq : KpQ n ds) (m : Nat) {s : List Bool × Bool} (hs : s.1.length = n) {L : List (List Int)} (hL : ∀ g ∈ L, g.Sublist (qh_ s.1 s.2) ∧ g.length ≤ m) (hLl : L.length ≤ 300) : ∀ (d k i : Nat) (acc : List (List Int)), i + d = L.length → d + 110 ≤ k → acc.length ≤ i →
  spec_keRides.l1 k acc L (L.length : Int) (i : Int) (n : Int) ds (m : Int) s.1 s.2 = some (acc ++ (L.drop i).filter fun g => qu_ ds (mv s g)) := by
 intro d
 induction d with
 | zero =>
  intro k i acc hi hk ha
  obtain ⟨k, rfl⟩ := qb_ (d := 0) (by omega : 0 < k)
  simp only [spec_keRides.l1]
  rw [if_neg (by omega), show i = L.length by omega, drop_length]
  simp
 | succ d ih =>
  intro k i acc hi hk ha
  obtain ⟨k, rfl⟩ := qb_ (d := 0) (by omega : 0 < k)
  have hlt : i < L.length := by omega
  have hgm : rd_L1 L (i : Int) ∈ L := qp_ hlt []
  have hgd : L.drop i = rd_L1 L (i : Int) :: L.drop (i + 1) := qf_ _ i hlt []
  obtain ⟨g, hg⟩ : ∃ g, g = rd_L1 L (i : Int) := ⟨_, rfl⟩
  rw [← hg] at hgm hgd
  obtain ⟨g1, g2⟩ := hL g hgm
  simp only [spec_keRides.l1]
  rw [if_pos (by omega), if_pos (by omega), if_pos (by omega), ← hg, s2_ hq m hs g1 g2 (by omega), Option.bind_some, qa_ hlt (by omega), hgd, filter_cons]
  by_cases c : qu_ ds (mv s g) = true
  ·rw [if_pos c, if_pos (by omega), ih k (i + 1) _ (by omega) (by omega) (by rw [length_append, length_singleton]; omega), if_pos c, append_assoc]
   rfl
  ·rw [if_neg c, ih k (i + 1) _ (by omega) (by omega) (by omega), if_neg c]
theorem rF_ {n : Nat} {ds : List (List Int)} (hq : KpQ n ds) (m : Nat) {s : List Bool × Bool} (hs : s.1.length = n) : ∀ (d k i : Nat) (acc : List Int), i + d = s.1.length → d + 480 ≤ k → acc.length ≤ i → acc ++ qT_ s.1 s.2 i d = qh_ s.1 s.2 →
  spec_keRides.l0 k acc s.1 (s.1.length : Int) (i : Int) (n : Int) ds (m : Int) s.1 s.2 = some (qc_ ds m s) := by
 have hn := hq.n8
 have hl := qk_ s.1 s.2
 have hT := qW_ (m := m) (s := s) (by omega)
 intro d
 induction d with
 | zero =>
  intro k i acc hi hk _ he
  obtain ⟨k, rfl⟩ : ∃ j, k = j + 2 := ⟨k - 2, by omega⟩
  have ha : acc = qh_ s.1 s.2 := by rw [← he]; simp [qT_]
  have hj : spec_keRides.j1 (k + 1) ([] :: ql_ m s) (n : Int) ds (m : Int) s.1 s.2 = some (qc_ ds m s) := by
   simp only [spec_keRides.j1]
   have := rE_ hq m hs (L := [] :: ql_ m s) (fun g hg => by
    rcases mem_cons.1 hg with e | e
    ·rw [e]; exact ⟨List.nil_sublist _, Nat.zero_le _⟩
    ·exact ⟨(mem_trips.1 e).2.1, (mem_trips.1 e).2.2⟩) (by rw [length_cons]; omega) ([] :: ql_ m s).length k 0 [] (by omega) (by rw [length_cons]; omega) (Nat.le_refl _)
   rw [drop_zero, nil_append] at this
   exact this
  rw [show k + 2 = (k + 1) + 1 from rfl]
  simp only [spec_keRides.l0]
  rw [if_neg (by omega), Option.bind_some, ha]
  by_cases c : (m : Int) > 0
  ·have hg := (rD_ (x0 := qh_ s.1 s.2) (by omega) m (qh_ s.1 s.2).length).2 (k + 1) 0 [] (by omega) (by omega) (by simp) (by simp)
   rw [show ((0 : Nat) : Int) = 0 by rfl] at hg
   have he2 : (if (([] : List Int).length : Int) > 0 then [([] : List Int)] else []) ++ qi_ m (List.drop 0 (qh_ s.1 s.2)) [] = ql_ m s := by simp [ql_]
   rw [he2] at hg
   rw [if_pos c, hg, Option.bind_some, if_pos (by rw [length_singleton]; omega)]
   exact hj
  ·rw [if_neg c]
   have e : ql_ m s = [] := q2_ _ (by simp only [length_nil]; omega)
   rw [e] at hj
   exact hj
 | succ d ih =>
  intro k i acc hi hk ha he
  obtain ⟨k, rfl⟩ := qb_ (d := 0) (by omega : 0 < k)
  have hlt : i < s.1.length := by omega
  rw [qL_] at he
  simp only [spec_keRides.l0]
  rw [if_pos (by omega), if_pos (by omega), if_pos (by omega), qa_ hlt (by omega), if_pos (by omega : acc.length < 17592186044416)]
  show (if (s.1.getD i false == s.2) = true then _ else _) = _
  by_cases e : (s.1.getD i false == s.2) = true
  ·rw [if_pos e] at he ⊢
   exact ih k (i + 1) _ (by omega) (by omega) (by rw [length_append, length_singleton]; omega) (by rw [append_assoc]; exact he)
  ·rw [if_neg e] at he ⊢
   exact ih k (i + 1) _ (by omega) (by omega) (by omega) he
theorem qK_ {n : Nat} {ds : List (List Int)} (hq : KpQ n ds) (m : Nat) {s : List Bool × Bool} (hs : s.1.length = n) {k : Nat} (hk : 500 ≤ k) : spec_keRides.f k (n : Int) ds (m : Int) s.1 s.2 = some (qc_ ds m s) :=
 rF_ hq m hs s.1.length k 0 [] (by omega) (by have := hq.n8; omega) (Nat.le_refl _) (by rw [nil_append, sd_])
def edP (n : Nat) (ds : List (List Int)) (m : Nat) (c : Int) : List S110 := (qc_ ds m (sI n c.toNat)).map fun g => ⟨(cI (mv (sI n c.toNat) g) : Int), 1, g⟩
def edK (n : Nat) (ds : List (List Int)) (m : Nat) (u : Nat) : List (Nat × Nat) := (qc_ ds m (sS n u)).map fun g => (cS (mv (sS n u) g), 1)
def sfK (n : Nat) (ds : List (List Int)) (u : Nat) : Bool := qu_ ds (sS n u)
def q1_ (n : Nat) (ds : List (List Int)) (m : Nat) (u : Nat) : List (Nat × Nat) := if sfK n ds u = true then edK n ds m u else []
theorem sa_ {s : List Bool × Bool} (hn : s.1.length ≤ 8) {k : Nat} (hk : 20 ≤ k) : ∀ (L : List (List Int)) (acc : List S110), (∀ g ∈ L, g.Sublist (qh_ s.1 s.2)) → acc.length + L.length ≤ 1000000 → kpEd k s.1 s.2 L acc = some (acc ++ L.map fun g => ⟨(cI (mv s g) : Int), 1, g⟩)
 | [], acc, _, _ => by simp [kpEd]
 | g :: L, acc, h, ha => by
  rw [length_cons] at ha
  unfold kpEd
  rw [ra_ hn (h g (by simp)) hk, Option.bind_some, (rz_ (s := mv s g) (by rw [qm_]; exact hn) hk).1, Option.bind_some, if_pos (by omega), sa_ hn hk L _ (fun x hx => h x (by simp [hx])) (by rw [length_append, length_singleton]; omega)]
  simp
theorem uc_ {n : Nat} {ds : List (List Int)} (hq : KpQ n ds) (m : Nat) {k : Nat} (hk : 60 ≤ k) {c : Nat} (hc : c < 2 ^ (n + 1)) : kpG k (n : Int) ds (m : Int) (c : Int) = some (edP n ds m (c : Int)) := by
 have hn := hq.n8
 obtain ⟨h1, h2, -⟩ := qZ_ hn hc (by omega : 20 ≤ k)
 have hR := qt_ (ds := ds) (m := m) (s := sI n c) (by omega)
 unfold kpG
 rw [h1, Option.bind_some, rU_ hq (n : Int) m h2 hk, Option.bind_some, if_pos (by omega), sa_ (by omega) (by omega) _ _ (fun g hg => (mem_ridesP.1 hg).1.1) (by simp only [length_nil]; omega)]
 unfold edP
 rw [Int.toNat_natCast]
 rfl
theorem sB_ {n : Nat} {ds : List (List Int)} (hq : KpQ n ds) (m : Nat) : GrI (edP n ds m) (2 ^ (n + 1)) 1 256 := by
 intro u hu
 have hn := hq.n8
 obtain ⟨-, h2, -⟩ := qZ_ hn hu (Nat.le_refl 20)
 unfold edP
 rw [Int.toNat_natCast, length_map]
 refine ⟨qt_ (by omega), fun e he => ?_⟩
 obtain ⟨g, -, rfl⟩ := mem_map.1 he
 have := (rz_ (s := mv (sI n u) g) (by rw [qm_]; omega) (Nat.le_refl 20)).2.1
 rw [qm_, h2] at this
 simp only
 omega
theorem sl_ {n : Nat} {ds : List (List Int)} (hq : KpQ n ds) (m : Nat) {u : Nat} (hu : u < 2 ^ (n + 1)) {e : Nat × Nat} (he : e ∈ edK n ds m u) : e.1 < 2 ^ (n + 1) ∧ e.2 = 1 ∧ sfK n ds e.1 = true := by
 have hn := hq.n8
 obtain ⟨-, h2, -⟩ := r9_ hn hu (Nat.le_refl 20)
 obtain ⟨g, hg, rfl⟩ := mem_map.1 he
 obtain ⟨-, h1, h3⟩ := qC_ (s := mv (sS n u) g) (by rw [qm_]; omega) (Nat.le_refl 20)
 rw [qm_, h2] at h1 h3
 refine ⟨h1, rfl, ?_⟩
 unfold sfK
 simp only
 rw [h3]
 exact (mem_ridesP.1 hg).2
theorem ug_ {n : Nat} {ds : List (List Int)} (hq : KpQ n ds) (m : Nat) : GrB (edK n ds m) (2 ^ (n + 1)) 1 := by
 intro u hu e he
 obtain ⟨h1, h2, -⟩ := sl_ hq m hu he
 exact ⟨h1, by omega, by omega⟩
theorem sS_ {n : Nat} {ds : List (List Int)} (hq : KpQ n ds) (m : Nat) : GrB (q1_ n ds m) (2 ^ (n + 1)) 1 := by
 intro u hu e he
 unfold q1_ at he
 split at he
 ·exact ug_ hq m u hu e he
 ·cases he
theorem rk_ {n : Nat} {ds : List (List Int)} (hq : KpQ n ds) (m : Nat) : um_ (q1_ n ds m) (2 ^ (n + 1)) := by
 intro u v hu hv f
 have hn := hq.n8
 have key : ∀ (u v : Nat), u < 2 ^ (n + 1) → v < 2 ^ (n + 1) → sfK n ds u = true → ∀ g, g ∈ qc_ ds m (sS n u) → cS (mv (sS n u) g) = v → g ∈ qc_ ds m (sS n v) ∧ cS (mv (sS n v) g) = u := by
  intro u v hu hv hf g hg e
  obtain ⟨-, u1, u2⟩ := r9_ hn hu (Nat.le_refl 20)
  have h3 := (qC_ (s := mv (sS n u) g) (by rw [qm_]; omega) (Nat.le_refl 20)).2.2
  rw [qm_, u1, e] at h3
  obtain ⟨b1, b2⟩ := rq_ hg hf
  rw [h3]
  exact ⟨b1, by rw [b2, u2]⟩
 have hsum : ∀ (u v : Nat), qj_ ((edK n ds m u).map fun e => if e.1 = v then f e.2 else 0) = qj_ (((qc_ ds m (sS n u)).filter fun g => decide (cS (mv (sS n u) g) = v)).map fun _ => f 1) := by
  intro u v
  unfold edK
  rw [map_map, qv_]
  refine congrArg qj_ (map_congr_left fun g _ => ?_)
  simp only [Function.comp_apply, decide_eq_true_eq]
 have off : ∀ (u v : Nat), u < 2 ^ (n + 1) → sfK n ds v ≠ true → qj_ ((edK n ds m u).map fun e => if e.1 = v then f e.2 else 0) = 0 := by
  intro u v hu hv
  refine qo_ _ fun e he => if_neg fun q => hv ?_
  rw [← q]
  exact (sl_ hq m hu he).2.2
 unfold q1_
 by_cases c1 : sfK n ds u = true
 ·by_cases c2 : sfK n ds v = true
  ·rw [if_pos c1, if_pos c2, hsum u v, hsum v u]
   refine rS_ (List.Perm.map _ (rC_ (List.Pairwise.filter _ (q8_ _ _ _)) (List.Pairwise.filter _ (q8_ _ _ _)) fun g => ?_))
   simp only [List.mem_filter, decide_eq_true_eq]
   exact ⟨fun h => key u v hu hv c1 g h.1 h.2, fun h => key v u hv hu c2 g h.1 h.2⟩
  ·rw [if_pos c1, if_neg c2, off u v hu c2]
   rfl
 ·by_cases c2 : sfK n ds v = true
  ·rw [if_neg c1, if_pos c2, off v u hv c1]
   rfl
  ·rw [if_neg c1, if_neg c2]
   rfl
theorem rl_ {n : Nat} {ds : List (List Int)} (hq : KpQ n ds) (m : Nat) (u : Nat) (hu : u < 2 ^ (n + 1)) : edK n ds m (nmS n u) = (Aof (edP n ds m) u).map fun e => (nmS n e.1, e.2) := by
 have hn := hq.n8
 obtain ⟨-, h2, -⟩ := qZ_ hn hu (Nat.le_refl 20)
 unfold edK Aof edP
 rw [r2_ hn hu, Int.toNat_natCast, map_map, map_map]
 refine map_congr_left fun g _ => ?_
 have h3 := (rz_ (s := mv (sI n u) g) (by rw [qm_]; omega) (Nat.le_refl 20)).2.2
 rw [qm_, h2] at h3
 simp only [Function.comp_apply, Int.toNat_natCast]
 unfold nmS
 rw [h3]
 rfl
structure BQ (sf : Nat → Bool) (x4 : List Int) (i : Nat) (Q : List Int) : Prop where
 mem : ∀ x, x ∈ Q ↔ ∃ v : Nat, x = (v : Int) ∧ v < x4.length ∧ 0 ≤ dd x4 v
 nd : Q.Nodup
 so : Q.Pairwise fun x y => dd x4 x.toNat ≤ dd x4 y.toNat
 sf : ∀ v : Nat, (v : Int) ∈ Q → sf v = true
 top : ∀ x ∈ Q, ∀ y ∈ Q.drop i, dd x4 x.toNat ≤ dd x4 y.toNat + 1
 len : Q.length = qy_ x4
theorem BQ.next {sf : Nat → Bool} {x4 : List Int} {i : Nat} {Q : List Int} (h : BQ sf x4 i Q) : BQ sf x4 (i + 1) Q :=
 ⟨h.mem, h.nd, h.so, h.sf, fun x hx y hy => h.top x hx y (by rw [show i + 1 = i + 1 from rfl, ← List.drop_drop] at hy; exact List.mem_of_mem_drop hy), h.len⟩
def dq (Q : List Int) (i : Nat) (v : Nat) : Bool := decide ((v : Int) ∈ Q.take i)
theorem BQ.hand {sf : Nat → Bool} {x4 : List Int} {i : Nat} {Q : List Int} (h : BQ sf x4 i Q) (hi : i < Q.length) : ∃ u : Nat, Q.getD i 0 = (u : Int) ∧ u < x4.length ∧ 0 ≤ dd x4 u ∧ sf u = true ∧ dq Q i u = false ∧ dq Q (i + 1) u = true ∧ (∀ v, v < x4.length → dq Q i v = false → 0 ≤ dd x4 v → dd x4 u ≤ dd x4 v) ∧ (∀ v, v < x4.length → dd x4 v ≤ dd x4 u + 1) ∧ dq Q (i + 1) = upd (dq Q i) u true := by
 have hm := qp_ hi (0 : Int)
 obtain ⟨u, e, hu, h0⟩ := (h.mem _).1 hm
 have hd : Q.drop i = (u : Int) :: Q.drop (i + 1) := by rw [qf_ Q i hi 0, e]
 have ht : Q.take (i + 1) = Q.take i ++ [(u : Int)] := by rw [q0_ Q i hi 0, e]
 have hnd := h.nd
 have hso := h.so
 rw [← List.take_append_drop i Q, hd] at hnd hso
 rw [List.nodup_append] at hnd
 rw [List.pairwise_append] at hso
 have hn : ¬ (u : Int) ∈ Q.take i := fun q => hnd.2.2 _ q _ List.mem_cons_self rfl
 refine ⟨u, e, hu, h0, h.sf u (by rw [← e]; exact hm), ?_, ?_, ?_, ?_, ?_⟩
 ·exact decide_eq_false hn
 ·unfold dq
  rw [ht]
  exact decide_eq_true (by simp)
 ·intro v hv hq h1
  have hmv : (v : Int) ∈ Q := (h.mem _).2 ⟨v, rfl, hv, h1⟩
  rw [← List.take_append_drop i Q, mem_append] at hmv
  rcases hmv with q | q
  ·unfold dq at hq
   rw [decide_eq_true q] at hq
   cases hq
  ·rw [hd] at q
   rcases mem_cons.1 q with q | q
   ·have : v = u := by omega
    rw [this]; exact Int.le_refl _
   ·have := (List.pairwise_cons.1 hso.2.1).1 _ q
    rwa [Int.toNat_natCast, Int.toNat_natCast] at this
 ·intro v hv
  by_cases h1 : 0 ≤ dd x4 v
  ·have := h.top _ ((h.mem _).2 ⟨v, rfl, hv, h1⟩) (u : Int) (by rw [hd]; exact List.mem_cons_self)
   rwa [Int.toNat_natCast, Int.toNat_natCast] at this
  ·omega
 ·funext v
  unfold dq upd
  rw [ht]
  by_cases q : v = u
  ·rw [if_pos q, q]; exact decide_eq_true (by simp)
  ·rw [if_neg q]
   show decide ((v : Int) ∈ Q.take i ++ [(u : Int)]) = decide ((v : Int) ∈ Q.take i)
   have : ((v : Int) ∈ Q.take i ++ [(u : Int)]) ↔ (v : Int) ∈ Q.take i := by
    rw [mem_append, mem_singleton]
    exact ⟨fun z => z.elim id fun z => absurd (by omega) q, .inl⟩
   by_cases z : (v : Int) ∈ Q.take i
   ·rw [decide_eq_true z, decide_eq_true (this.2 z)]
   ·rw [decide_eq_false z, decide_eq_false (fun y => z (this.1 y))]
theorem sU_ {x4 : List Int} {t : Nat} {a : Int} (ht : t < x4.length) (h : dd x4 t < 0) (ha : 0 ≤ a) : qy_ (x4.set t a) = qy_ x4 + 1 := qU_ ht h ha
theorem BQ.put {sf : Nat → Bool} {x4 : List Int} {i t u : Nat} {Q : List Int} (h : BQ sf x4 i Q) (ht : t < x4.length) (h0 : dd x4 t < 0) (hs : sf t = true) (hi : i < Q.length) (hu : Q.getD i 0 = (u : Int)) (hu0 : 0 ≤ dd x4 u) : BQ sf (x4.set t (dd x4 u + 1)) i (Q ++ [(t : Int)]) ∧ (Q ++ [(t : Int)]).take (i + 1) = Q.take (i + 1) := by
 have hset := fun v => qN_ (dist := x4) (u := t) (dd x4 u + 1) ht v
 have old : ∀ x ∈ Q, dd (x4.set t (dd x4 u + 1)) x.toNat = dd x4 x.toNat := by
  intro x hx
  obtain ⟨v, rfl, hv, hd⟩ := (h.mem _).1 hx
  rw [Int.toNat_natCast, hset, if_neg (fun e => by rw [e] at hd; omega)]
 have hd : Q.drop i = (u : Int) :: Q.drop (i + 1) := by rw [qf_ Q i hi 0, hu]
 have hmu : (u : Int) ∈ Q := by rw [← hu]; exact qp_ hi 0
 have hmost : ∀ x ∈ Q, dd x4 x.toNat ≤ dd x4 u + 1 := by
  intro x hx
  have := h.top x hx (u : Int) (by rw [hd]; exact List.mem_cons_self)
  rwa [Int.toNat_natCast] at this
 have hleast : ∀ y ∈ Q.drop i, dd x4 u ≤ dd x4 y.toNat := by
  intro y hy
  have hso := h.so
  rw [← List.take_append_drop i Q, hd, List.pairwise_append] at hso
  rw [hd] at hy
  rcases mem_cons.1 hy with q | q
  ·rw [q, Int.toNat_natCast]; exact Int.le_refl _
  ·have := (List.pairwise_cons.1 hso.2.1).1 _ q
   rwa [Int.toNat_natCast] at this
 have hnew : dd (x4.set t (dd x4 u + 1)) t = dd x4 u + 1 := by rw [hset, if_pos rfl]
 refine ⟨⟨fun x => ?_, ?_, ?_, fun v hv => ?_, fun x hx y hy => ?_, ?_⟩, ?_⟩
 ·rw [mem_append, mem_singleton, h.mem x, length_set]
  constructor
  ·rintro (⟨v, e, hv, h1⟩ | e)
   ·exact ⟨v, e, hv, by rw [hset, if_neg (fun q => by rw [q] at h1; omega)]; exact h1⟩
   ·exact ⟨t, e, ht, by rw [hnew]; omega⟩
  ·rintro ⟨v, e, hv, h1⟩
   by_cases q : v = t
   ·right; rw [e, q]
   ·left
    rw [hset, if_neg q] at h1
    exact ⟨v, e, hv, h1⟩
 ·rw [List.nodup_append]
  refine ⟨h.nd, by simp, fun a ha b hb e => ?_⟩
  rw [mem_singleton.1 hb] at e
  rw [e] at ha
  obtain ⟨v, q, -, h1⟩ := (h.mem _).1 ha
  have : v = t := by omega
  rw [this] at h1
  omega
 ·rw [List.pairwise_append]
  refine ⟨?_, List.pairwise_singleton _ _, fun a ha b hb => ?_⟩
  ·refine List.Pairwise.imp_of_mem (fun {a b} ha hb hab => ?_) h.so
   rw [old a ha, old b hb]
   exact hab
  ·rw [mem_singleton.1 hb, Int.toNat_natCast, hnew, old a ha]
   exact hmost a ha
 ·rcases mem_append.1 hv with q | q
  ·exact h.sf v q
  ·have : v = t := by have := mem_singleton.1 q; omega
   rw [this]; exact hs
 ·have hx1 : dd (x4.set t (dd x4 u + 1)) x.toNat ≤ dd x4 u + 1 := by
   rcases mem_append.1 hx with q | q
   ·rw [old x q]; exact hmost x q
   ·rw [mem_singleton.1 q, Int.toNat_natCast, hnew]; exact Int.le_refl _
  rw [List.drop_append_of_le_length (by omega)] at hy
  rcases mem_append.1 hy with q | q
  ·rw [old y (List.mem_of_mem_drop q)]
   have := hleast y q
   omega
  ·rw [mem_singleton.1 q, Int.toNat_natCast, hnew]
   omega
 ·rw [length_append, length_singleton, sU_ ht h0 (by omega), h.len]
 ·rw [List.take_append_of_le_length (by omega)]
def QB (A : Nat → List (Nat × Nat)) (done : Nat → Bool) : Nat → List (Nat × Nat) := fun x => if done x = true then A x else []
theorem sW_ (A : Nat → List (Nat × Nat)) (done : Nat → Bool) (u : Nat) (hd : done u = false) : upd (QB A (upd done u true)) u [] = QB A done ∧ upd (QB A (upd done u true)) u (A u) = QB A (upd done u true) := by
 constructor
 ·funext x
  unfold QB upd
  by_cases e : x = u
  ·rw [if_pos e, e, hd]; simp
  ·simp only [if_neg e]
 ·funext x
  unfold QB upd
  by_cases e : x = u
  ·rw [if_pos e, if_pos e, e]; simp
  ·simp only [if_neg e]
theorem Sea.none_ {Q : Nat → List (Nat × Nat)} {N C s0 j : Nat} {done : Nat → Bool} {d w : Nat → Int} {m : Int} (h : Sea Q N C s0 done d w m j) {v : Nat} (hv : v < N) (h0 : d v < 0) : w v = 0 := by
 have hvs : v ≠ s0 := by
  intro e
  have := h.st
  rw [e] at h0; omega
 rw [h.ways v hv hvs, q5_ fun x hx e he e1 => ?_]
 ·exact qg_ (by omega) (by omega)
 ·have := h.go x hx e he
  rw [e1] at this
  omega
set_option maxHeartbeats 1000000 in
theorem sP_ {n : Nat} {ds : List (List Int)} (hq : KpQ n ds) (m : Nat) {i u s0 : Nat} (hi : i ≤ 600) (hu : u < 2 ^ (n + 1)) : ∀ (d j : Nat) (x4 x5 Q : List Int), j + d = (qc_ ds m (sS n u)).length → x4.length = 2 ^ (n + 1) → x5.length = 2 ^ (n + 1) → i < Q.length → Q.getD i 0 = (u : Int) → BQ (sfK n ds) x4 i Q → dq Q (i + 1) u = true → sfK n ds u = true → dd x4 u + 1 ≤ ((i + 1 : Nat) : Int) →
  Sea (upd (QB (q1_ n ds m) (dq Q (i + 1))) u ((q1_ n ds m u).take j)) (2 ^ (n + 1)) 1 s0 (dq Q (i + 1)) (dd x4) (dd x5) (dd x4 u) (i + 1) →
  ∃ y4 y5 Q', y4.length = 2 ^ (n + 1) ∧ y5.length = 2 ^ (n + 1) ∧ i < Q'.length ∧ BQ (sfK n ds) y4 i Q' ∧ Q'.take (i + 1) = Q.take (i + 1) ∧ dd y4 u = dd x4 u ∧ Sea (upd (QB (q1_ n ds m) (dq Q (i + 1))) u (q1_ n ds m u)) (2 ^ (n + 1)) 1 s0 (dq Q (i + 1)) (dd y4) (dd y5) (dd x4 u) (i + 1) ∧ ∀ K, 20 ≤ K →
   spec_keFar.l2 (K + 1 + 2 * d) x4 x5 Q (i : Int) (qc_ ds m (sS n u)) ((qc_ ds m (sS n u)).length : Int) (j : Int) (n : Int) ds (m : Int) (sS n u).1 (sS n u).2 = spec_keFar.l1 K y4 y5 Q' ((i + 1 : Nat) : Int) (n : Int) ds (m : Int) := by
 have hn := hq.n8
 have hN : 2 ^ (n + 1) ≤ 512 := ub_ hn
 intro d
 induction d with
 | zero =>
  intro j x4 x5 Q hj h4 h5 hiQ hQu hB hd hsf hm h
  have hl : (q1_ n ds m u).length = (qc_ ds m (sS n u)).length := by unfold q1_ edK; rw [if_pos hsf, length_map]
  refine ⟨x4, x5, Q, h4, h5, hiQ, hB, rfl, rfl, ?_, fun K hK => ?_⟩
  ·rw [List.take_of_length_le (by omega)] at h; exact h
  ·rw [show K + 1 + 2 * 0 = K + 1 from rfl, spec_keFar.l2.eq_2, if_neg (by omega), qa_ (by omega : i < 601) (by omega)]
 | succ d ih =>
  intro j x4 x5 Q hj h4 h5 hiQ hQu hB hd hsf hm h
  obtain ⟨-, s1, -⟩ := r9_ hn hu (Nat.le_refl 20)
  have hR := qt_ (ds := ds) (m := m) (s := sS n u) (by omega)
  have hlt : j < (qc_ ds m (sS n u)).length := by omega
  have ja : (0 : Int) ≤ (j : Int) := Int.natCast_nonneg j
  have jb : (j : Int) < ((qc_ ds m (sS n u)).length : Int) := Int.ofNat_lt.2 hlt
  have u0 : (0 : Int) ≤ (u : Int) := Int.natCast_nonneg u
  have u4 : (u : Int) < (x4.length : Int) := Int.ofNat_lt.2 (by rw [h4]; exact hu)
  have u5 : (u : Int) < (x5.length : Int) := Int.ofNat_lt.2 (by rw [h5]; exact hu)
  have i0 : (0 : Int) ≤ (i : Int) := Int.natCast_nonneg i
  have iq : (i : Int) < (Q.length : Int) := Int.ofNat_lt.2 hiQ
  have hgm : rd_L1 (qc_ ds m (sS n u)) (j : Int) ∈ qc_ ds m (sS n u) := qp_ hlt []
  obtain ⟨g, hg⟩ : ∃ g, g = rd_L1 (qc_ ds m (sS n u)) (j : Int) := ⟨_, rfl⟩
  rw [← hg] at hgm
  have hgs := (mem_ridesP.1 hgm).1.1
  have hmv : (mv (sS n u) g).1.length = n := (qm_ _ _).trans s1
  obtain ⟨t, htt⟩ : ∃ t, t = cS (mv (sS n u) g) := ⟨_, rfl⟩
  have hcs := qC_ (s := mv (sS n u) g) (by omega) (Nat.le_refl 20)
  have ht := hcs.2.1
  rw [hmv, ← htt] at ht
  have t0 : (0 : Int) ≤ (t : Int) := Int.natCast_nonneg t
  have t4 : (t : Int) < (x4.length : Int) := Int.ofNat_lt.2 (by rw [h4]; exact ht)
  have t5 : (t : Int) < (x5.length : Int) := Int.ofNat_lt.2 (by rw [h5]; exact ht)
  have hts : sfK n ds t = true := by
   have := hcs.2.2
   rw [hmv, ← htt] at this
   unfold sfK
   rw [this]
   exact (mem_ridesP.1 hgm).2
  have hle : j < (q1_ n ds m u).length := by unfold q1_ edK; rw [if_pos hsf, length_map]; exact hlt
  have e9 : (q1_ n ds m u).take (j + 1) = (q1_ n ds m u).take j ++ [(t, 1)] := by
   rw [q0_ _ j hle (0, 0)]
   congr 2
   unfold q1_ edK
   rw [if_pos hsf, rx_ _ _ j hlt [], htt, hg]
   rfl
  have hu0 : 0 ≤ dd x4 u := (h.on u hu hd).1
  have hhi := h.high t ht
  obtain ⟨u', e1, -, -, -, -, -, -, htop, -⟩ := hB.hand hiQ
  have euu : u' = u := by omega
  rw [euu] at htop
  have htt2 := htop t (by omega)
  obtain ⟨hS, hSu⟩ := h.edge hu hd ht (Nat.le_refl 1) (Nat.le_refl 1) (by omega)
  rw [qe_, sE_, ← e9] at hS
  have hlen := hB.len
  have hcl := q7_ x4
  have hQl : Q.length ≤ 512 := by omega
  have qs : Q.length < 17592186044416 := Nat.lt_of_le_of_lt hQl (by decide)
  have k20 : ∀ K : Nat, 20 ≤ K → 20 ≤ K + 1 + 2 * d + 1 := fun K hK => by omega
  have n8 : (sS n u).1.length ≤ 8 := by omega
  have n8m : (mv (sS n u) g).1.length ≤ 8 := by omega
  have hrq : rd Q (i : Int) = (u : Int) := hQu
  have hw1 : wrap64 (dd x4 u + 1) = dd x4 u + 1 := qg_ (by omega) (by omega)
  have hj1 : wrap64 ((j : Int) + 1) = ((j + 1 : Nat) : Int) := qa_ hlt (by omega)
  -- the rows behind the edge
  have J : ∀ (y4 Q' : List Int), y4.length = 2 ^ (n + 1) → rd Q' (i : Int) = (u : Int) → i < Q'.length → dd y4 u = dd x4 u → ∀ K, spec_keFar.j3 (K + 1) y4 x5 Q' (i : Int) (t : Int) (qc_ ds m (sS n u)) ((qc_ ds m (sS n u)).length : Int) (j : Int) (n : Int) ds (m : Int) (sS n u).1 (sS n u).2 = spec_keFar.l2 K y4 (if dd y4 t = dd x4 u + 1 then x5.set t (wrap64 (dd x5 t + dd x5 u)) else x5) Q' (i : Int) (qc_ ds m (sS n u)) ((qc_ ds m (sS n u)).length : Int) ((j + 1 : Nat) : Int) (n : Int) ds (m : Int) (sS n u).1 (sS n u).2 := by
   intro y4 Q' hy4 hrq' hiq' hdu K
   have ty : (t : Int) < (y4.length : Int) := by rw [hy4, ← h4]; exact t4
   have uy : (u : Int) < (y4.length : Int) := by rw [hy4, ← h4]; exact u4
   rw [spec_keFar.j3.eq_2, hrq', if_pos t0, if_pos ty, if_pos i0, if_pos (Int.ofNat_lt.2 hiq'), if_pos u0, if_pos uy, rB_ y4 t, rB_ y4 u, hdu, hw1, hj1, Int.toNat_natCast, rB_ x5 t, rB_ x5 u]
   by_cases c : dd y4 t = dd x4 u + 1
   ·rw [if_pos c, if_pos c, if_pos t5, if_pos u5]
   ·rw [if_neg c, if_neg c]
  have head : ∀ K, 20 ≤ K → spec_keFar.l2 (K + 1 + 2 * (d + 1)) x4 x5 Q (i : Int) (qc_ ds m (sS n u)) ((qc_ ds m (sS n u)).length : Int) (j : Int) (n : Int) ds (m : Int) (sS n u).1 (sS n u).2 = (if dd x4 t < 0 then spec_keFar.j3 (K + 1 + 2 * d + 1) (x4.set t (dd x4 u + 1)) x5 (Q ++ [(t : Int)]) (i : Int) (t : Int) (qc_ ds m (sS n u)) ((qc_ ds m (sS n u)).length : Int) (j : Int) (n : Int) ds (m : Int) (sS n u).1 (sS n u).2 else spec_keFar.j3 (K + 1 + 2 * d + 1) x4 x5 Q (i : Int) (t : Int) (qc_ ds m (sS n u)) ((qc_ ds m (sS n u)).length : Int) (j : Int) (n : Int) ds (m : Int) (sS n u).1 (sS n u).2) := by
   intro K hK
   have hki : spec_keIndex.f (K + 1 + 2 * d + 1) (mv (sS n u) g).1 (mv (sS n u) g).2 = some (t : Int) := by
    unfold spec_keIndex.f
    rw [(qC_ (s := mv (sS n u) g) n8m (k20 K hK)).1, Option.bind_some, htt]
   rw [show K + 1 + 2 * (d + 1) = (K + 1 + 2 * d + 1) + 1 from by rw [Nat.mul_add]; rfl, spec_keFar.l2.eq_2, if_pos jb, if_pos ja, if_pos jb, ← hg, qF_ n8 hgs (k20 K hK), Option.bind_some, hki, Option.bind_some, if_pos t0, if_pos t4, rB_ x4 t, hrq, rB_ x4 u, hw1, Int.toNat_natCast]
   by_cases c : dd x4 t < 0
   ·rw [if_pos c, if_pos c, if_pos i0, if_pos iq, if_pos u0, if_pos u4, if_pos qs]
   ·rw [if_neg c, if_neg c]
  by_cases c : dd x4 t < 0
  ·have hut : u ≠ t := fun e => by rw [e] at hu0; omega
   obtain ⟨hB2, ht2⟩ := hB.put (by omega) c hts hiQ hQu hu0
   have d4 := sm_ (l := x4) (u := t) (dd x4 u + 1) (by omega)
   have w0 := h.none_ ht c
   have e4 : dd (x4.set t (dd x4 u + 1)) = sI_ (dd x4) u t 1 := by
    rw [d4]; exact (if_pos (.inl c)).symm
   have e5 : dd (x5.set t (wrap64 (dd x5 t + dd x5 u))) = sH_ (dd x4) (dd x5) u t 1 := by
    rw [sm_ _ (by omega), w0]; exact (if_pos (.inl c)).symm
   have hu4 : dd (x4.set t (dd x4 u + 1)) u = dd x4 u := by rw [d4, qd_ _ _ hut]
   rw [← e4, ← e5, hu4] at hS
   have hgd : (Q ++ [(t : Int)]).getD i 0 = (u : Int) := by
    rw [getD_eq_getElem?_getD, List.getElem?_append_left hiQ, ← getD_eq_getElem?_getD]; exact hQu
   have hdq : dq (Q ++ [(t : Int)]) (i + 1) = dq Q (i + 1) := by unfold dq; rw [ht2]
   obtain ⟨y4, y5, Q', k4, k5, kQ, kB, kt, ku, kS, kr⟩ := ih (j + 1) (x4.set t (dd x4 u + 1)) (x5.set t (wrap64 (dd x5 t + dd x5 u))) (Q ++ [(t : Int)]) (by omega) (by rw [length_set]; exact h4) (by rw [length_set]; exact h5) (by rw [length_append]; omega) hgd hB2 (by rw [hdq]; exact hd) hsf (by rw [hu4]; exact hm) (by rw [hdq, hu4]; exact hS)
   rw [hdq, hu4] at kS
   refine ⟨y4, y5, Q', k4, k5, kQ, kB, kt.trans ht2, ku.trans hu4, kS, fun K hK => ?_⟩
   rw [head K hK, if_pos c, J _ _ (by rw [length_set]; exact h4) hgd (by rw [length_append]; omega) hu4, if_pos (by rw [d4, qe_])]
   exact kr K hK
  ·have hcc : ¬ (dd x4 t < 0 ∨ dd x4 u + ((1 : Nat) : Int) < dd x4 t) := fun e => by
    rcases e with e | e
    ·exact c e
    ·omega
   have e4 : sI_ (dd x4) u t 1 = dd x4 := if_neg hcc
   have e5 : dd (if dd x4 t = dd x4 u + 1 then x5.set t (wrap64 (dd x5 t + dd x5 u)) else x5) = sH_ (dd x4) (dd x5) u t 1 := by
    unfold sH_
    rw [if_neg hcc]
    by_cases q : dd x4 t = dd x4 u + 1
    ·rw [if_pos q, sm_ _ (by omega), if_pos (by omega)]
    ·rw [if_neg q, if_neg (by omega)]
   rw [e4, ← e5] at hS
   obtain ⟨y4, y5, Q', k4, k5, kQ, kB, kt, ku, kS, kr⟩ := ih (j + 1) x4 (if dd x4 t = dd x4 u + 1 then x5.set t (wrap64 (dd x5 t + dd x5 u)) else x5) Q (by omega) h4 (by split <;> simp [h5]) hiQ hQu hB hd hsf hm hS
   refine ⟨y4, y5, Q', k4, k5, kQ, kB, kt, ku, kS, fun K hK => ?_⟩
   rw [head K hK, if_neg c, J _ _ h4 hrq hiQ rfl]
   exact kr K hK
theorem sQ_ {n : Nat} {ds : List (List Int)} (hq : KpQ n ds) (m : Nat) {s0 : Nat} (hs : s0 < 2 ^ (n + 1)) : ∀ (a i : Nat) (x4 x5 Q : List Int) (md : Int), 2 ^ (n + 1) - i ≤ a → i ≤ Q.length → x4.length = 2 ^ (n + 1) → x5.length = 2 ^ (n + 1) → BQ (sfK n ds) x4 i Q →
  Sea (QB (q1_ n ds m) (dq Q i)) (2 ^ (n + 1)) 1 s0 (dq Q i) (dd x4) (dd x5) md i →
  ∃ k z4 z5, spec_keFar.l1 k x4 x5 Q (i : Int) (n : Int) ds (m : Int) = some (z4, z5) ∧ z4.length = 2 ^ (n + 1) ∧ z5.length = 2 ^ (n + 1) ∧ Far (q1_ n ds m) (2 ^ (n + 1)) (fun v => v = s0) (dd z4) ∧ Ways (q1_ n ds m) (2 ^ (n + 1)) (fun v => v = s0) (dd z4) (dd z5) ∧ (∀ v, v < 2 ^ (n + 1) → -1 ≤ dd z4 v) ∧ ∀ v, v < 2 ^ (n + 1) → dd z4 v < 0 → dd z5 v = 0 := by
 have hn := hq.n8
 have hN : 2 ^ (n + 1) ≤ 512 := ub_ hn
 have fin : ∀ (i : Nat) (x4 x5 Q : List Int) (md : Int), i = Q.length → x4.length = 2 ^ (n + 1) → x5.length = 2 ^ (n + 1) → BQ (sfK n ds) x4 i Q → Sea (QB (q1_ n ds m) (dq Q i)) (2 ^ (n + 1)) 1 s0 (dq Q i) (dd x4) (dd x5) md i →
   ∃ k z4 z5, spec_keFar.l1 k x4 x5 Q (i : Int) (n : Int) ds (m : Int) = some (z4, z5) ∧ z4.length = 2 ^ (n + 1) ∧ z5.length = 2 ^ (n + 1) ∧ Far (q1_ n ds m) (2 ^ (n + 1)) (fun v => v = s0) (dd z4) ∧ Ways (q1_ n ds m) (2 ^ (n + 1)) (fun v => v = s0) (dd z4) (dd z5) ∧ (∀ v, v < 2 ^ (n + 1) → -1 ≤ dd z4 v) ∧ ∀ v, v < 2 ^ (n + 1) → dd z4 v < 0 → dd z5 v = 0 := by
  intro i x4 x5 Q md hi h4 h5 hB h
  obtain ⟨h1, h2⟩ := h.end_ hs (sS_ hq m) (rk_ hq m) (fun x hx hd => if_pos hd) fun v hv hd => by
   by_cases c : dd x4 v < 0
   ·exact c
   ·have := (hB.mem _).2 ⟨v, rfl, by omega, by omega⟩
    unfold dq at hd
    rw [hi, take_length, decide_eq_true this] at hd
    cases hd
  refine ⟨1, x4, x5, ?_, h4, h5, h1, h2, h.low, fun v hv h0 => h.none_ hv h0⟩
  rw [spec_keFar.l1.eq_2, if_neg (by omega)]
 intro a
 induction a with
 | zero =>
  intro i x4 x5 Q md ha hiQ h4 h5 hB h
  have hlen := hB.len
  have hcl := q7_ x4
  exact fin i x4 x5 Q md (by omega) h4 h5 hB h
 | succ a ih =>
  intro i x4 x5 Q md ha hiQ h4 h5 hB h
  by_cases hlt : i < Q.length
  ·have hlen := hB.len
   have hcl := q7_ x4
   obtain ⟨u, e1, hu, hu0, hsf, hd0, hd1, hnear, -, hdn⟩ := hB.hand hlt
   rw [h4] at hu
   obtain ⟨hS, hj, -⟩ := h.pick hu hd0 hu0 (fun v hv hq2 h1 => hnear v (by omega) hq2 h1)
   rw [← hdn] at hS
   obtain ⟨q1, q2⟩ := sW_ (q1_ n ds m) (dq Q i) u hd0
   rw [← hdn] at q1 q2
   rw [← q1] at hS
   have hsl := (r9_ hn hu (Nat.le_refl 20)).2.1
   obtain ⟨y4, y5, Q', l4, l5, lQ, lB, lt, lu, lS, lr⟩ := sP_ hq m (i := i) (s0 := s0) (by omega) hu (qc_ ds m (sS n u)).length 0 x4 x5 Q (by omega) h4 h5 hlt e1 hB hd1 hsf (by omega) (by rw [List.take_zero]; exact hS)
   rw [q2] at lS
   have hdq : dq Q' (i + 1) = dq Q (i + 1) := by unfold dq; rw [lt]
   obtain ⟨k, z4, z5, hr, hz⟩ := ih (i + 1) y4 y5 Q' (dd x4 u) (by omega) (by omega) l4 l5 lB.next (by rw [hdq]; exact lS)
   have hr2 : spec_keFar.l1 (k + 600) y4 y5 Q' ((i + 1 : Nat) : Int) (n : Int) ds (m : Int) = some (z4, z5) := qn_ (f := fun k => spec_keFar.l1 k y4 y5 Q' ((i + 1 : Nat) : Int) (n : Int) ds (m : Int)) (fun k => (spec_keFar.mono_l k).2.1 _ _ _ _ _ _ _) (by omega) hr
   refine ⟨(k + 600 + 1 + 2 * (qc_ ds m (sS n u)).length) + 1, z4, z5, ?_, hz⟩
   have hbk : spec_keBank.f (k + 600 + 1 + 2 * (qc_ ds m (sS n u)).length) (u : Int) (n : Int) = some (sS n u) := by
    unfold spec_keBank.f
    rw [(r9_ hn hu (by omega)).1, Option.bind_some]
   have hru : rd Q (i : Int) = (u : Int) := e1
   rw [spec_keFar.l1.eq_2, if_pos (by omega), if_pos (by omega), hru, hbk, Option.bind_some, qK_ hq m hsl (by omega), Option.bind_some]
   exact (lr (k + 600) (by omega)).trans hr2
  ·exact fin i x4 x5 Q md (by omega) h4 h5 hB h
theorem sR_ (th se : Int) (ds : List (List Int)) {N : Nat} (hN : N ≤ 1000000) (x5 : List Int) : ∀ (d i : Nat) (x4 : List Int), i + d = N → x4.length = N → (∀ v, v < i → dd x4 v = -1) → ∃ z4, z4.length = N ∧ (∀ v, v < N → dd z4 v = -1) ∧ ∀ K, spec_keFar.l0 (K + 1 + d) x4 x5 (N : Int) (i : Int) th ds se = spec_keFar.l0 (K + 1) z4 x5 (N : Int) (N : Int) th ds se := by
 intro d
 induction d with
 | zero =>
  intro i x4 hi h4 h
  refine ⟨x4, h4, fun v hv => h v (by omega), fun K => ?_⟩
  rw [show i = N by omega]
 | succ d ih =>
  intro i x4 hi h4 h
  obtain ⟨z4, a, b, c⟩ := ih (i + 1) (x4.set i (-1)) (by omega) (by rw [length_set]; exact h4) (fun v hv => by
   rw [qN_ _ (by omega)]
   split
   ·rfl
   ·exact h v (by omega))
  refine ⟨z4, a, b, fun K => ?_⟩
  rw [← c K, show K + 1 + (d + 1) = (K + 1 + d) + 1 by omega, spec_keFar.l0.eq_2, if_pos (by omega), if_pos (by omega), if_pos (by omega), qa_ (by omega : i < N) (by omega), Int.toNat_natCast]
theorem sz_ {n : Nat} (hn : n ≤ 8) (ds : List (List Int)) (se : Int) : ∀ (d k i : Nat), i + d = n → d < k → spec_keEnd.l0 k (i : Int) (n : Int) ds se (List.replicate i true) true = some (List.replicate n true, true) := by
 intro d
 induction d with
 | zero =>
  intro k i hi hk
  obtain ⟨k, rfl⟩ := qb_ hk
  simp only [spec_keEnd.l0]
  rw [if_neg (by omega), show i = n by omega]
 | succ d ih =>
  intro k i hi hk
  obtain ⟨k, rfl⟩ := qb_ hk
  have hlt : i < n := by omega
  simp only [spec_keEnd.l0]
  rw [if_pos (by omega), if_pos (by rw [length_replicate]; omega), qa_ hlt (by omega), ← List.replicate_succ']
  exact ih k (i + 1) (by omega) (by omega)
theorem s0_ {n : Nat} (hn : n ≤ 8) (ds : List (List Int)) (se : Int) {k : Nat} (hk : 20 ≤ k) : spec_keEnd.f k (n : Int) ds se = some (List.replicate n true, true) :=
 sz_ hn ds se n k 0 (by omega) (by omega)
theorem r3_ {n : Nat} {ds : List (List Int)} (hq : KpQ n ds) : qu_ ds (List.replicate n true, true) = true := by
 unfold qu_
 rw [Bool.not_eq_true', List.any_eq_false]
 intro d hd
 obtain ⟨-, h2, -⟩ := hq.dok d hd
 have e : rdOf false (List.replicate n true) (rd d 0) = true := by
  show (List.replicate n true).getD (rd d 0).toNat false = true
  rw [getD_eq_getElem?_getD, List.getElem?_replicate, if_pos (by omega)]
  rfl
 unfold dgr
 rw [e]
 simp
theorem ud_ {n : Nat} {ds : List (List Int)} (hq : KpQ n ds) (m : Nat) : ∃ k z4 z5, spec_keFar.f k (n : Int) ds (m : Int) = some (z4, z5) ∧ z4.length = 2 ^ (n + 1) ∧ z5.length = 2 ^ (n + 1) ∧ Far (q1_ n ds m) (2 ^ (n + 1)) (fun v => v = nmS n (2 ^ (n + 1) - 1)) (dd z4) ∧ Ways (q1_ n ds m) (2 ^ (n + 1)) (fun v => v = nmS n (2 ^ (n + 1) - 1)) (dd z4) (dd z5) ∧ (∀ v, v < 2 ^ (n + 1) → -1 ≤ dd z4 v) ∧ ∀ v, v < 2 ^ (n + 1) → dd z4 v < 0 → dd z5 v = 0 := by
 have hn := hq.n8
 have hN : 2 ^ (n + 1) ≤ 512 := ub_ hn
 have hpos : 0 < 2 ^ (n + 1) := Nat.pow_pos (by omega)
 obtain ⟨f1, -, -, f4, -⟩ := sC_ hn
 have hs0 : cS (List.replicate n true, true) = nmS n (2 ^ (n + 1) - 1) := by
  unfold nmS
  rw [f4]
 have hs := rd_ hn (2 ^ (n + 1) - 1) (by omega)
 obtain ⟨s0, hse⟩ : ∃ s0, s0 = nmS n (2 ^ (n + 1) - 1) := ⟨_, rfl⟩
 rw [← hse] at hs0 hs ⊢
 obtain ⟨y4, a, b, c⟩ := sR_ (n : Int) (m : Int) ds (N := 2 ^ (n + 1)) (by omega) (List.replicate (2 ^ (n + 1)) 0) (2 ^ (n + 1)) 0 (List.replicate (2 ^ (n + 1)) 0) (by omega) (by simp) (fun v hv => by omega)
 have hcs := qC_ (s := (List.replicate n true, true)) (by simp only [length_replicate]; exact hn) (Nat.le_refl 20)
 have hset := fun v => qN_ (dist := y4) (u := s0) 0 (by omega) v
 have hval : ∀ v, v < 2 ^ (n + 1) → dd (y4.set s0 0) v = if v = s0 then 0 else -1 := fun v hv => by rw [hset, b v hv]
 have hB : BQ (sfK n ds) (y4.set s0 0) 0 [(s0 : Int)] := by
  refine ⟨fun x => ?_, by simp, List.pairwise_singleton _ _, fun v hv => ?_, fun x hx y hy => ?_, ?_⟩
  ·rw [mem_singleton, length_set, a]
   constructor
   ·intro e
    exact ⟨s0, e, hs, by rw [hval s0 hs, if_pos rfl]; exact Int.le_refl _⟩
   ·rintro ⟨v, e, hv, h0⟩
    rw [hval v hv] at h0
    by_cases q : v = s0
    ·rw [e, q]
    ·rw [if_neg q] at h0; omega
  ·have : v = s0 := by have := mem_singleton.1 hv; omega
   rw [this]
   unfold sfK
   have h3 := hcs.2.2
   simp only [length_replicate] at h3
   rw [← hs0, h3]
   exact r3_ hq
  ·rw [drop_zero] at hy
   rw [mem_singleton.1 hx, mem_singleton.1 hy]
   omega
  ·have h0 : qy_ y4 = 0 := by
    unfold qy_
    rw [List.countP_eq_zero]
    intro x hx
    obtain ⟨v, hv, e⟩ := List.mem_iff_getElem.1 hx
    have := b v (by omega)
    unfold dd at this
    rw [getD_eq_getElem?_getD, getElem?_eq_getElem hv] at this
    have h2 : y4[v] = -1 := this
    rw [← e, h2]
    decide
   rw [qU_ (by omega) (by rw [b s0 hs]; omega) (by omega), h0]
   rfl
 have hdq : dq [(s0 : Int)] 0 = fun _ => false := by
  funext v
  unfold dq
  rw [List.take_zero]
  exact decide_eq_false (by simp)
 obtain ⟨k, z4, z5, hr, hz⟩ := sQ_ hq m hs (2 ^ (n + 1)) 0 (y4.set s0 0) ((List.replicate (2 ^ (n + 1)) 0).set s0 1) [(s0 : Int)] 0 (by omega) (by omega) (by rw [length_set]; exact a) (by simp) hB (by
  rw [hdq]
  have e : QB (q1_ n ds m) (fun _ => false) = fun _ => [] := by funext x; unfold QB; simp
  rw [e]
  refine rT_ hs hval (fun v hv => ?_)
  rw [qN_ _ (by rw [length_replicate]; exact hs), sT_])
 have hr2 := qn_ (f := fun k => spec_keFar.l1 k (y4.set s0 0) ((List.replicate (2 ^ (n + 1)) 0).set s0 1) [(s0 : Int)] ((0 : Nat) : Int) (n : Int) ds (m : Int)) (fun k => (spec_keFar.mono_l k).2.1 _ _ _ _ _ _ _) (by omega : k ≤ k + 400) hr
 refine ⟨k + 400 + 1 + 2 ^ (n + 1), z4, z5, ?_, hz⟩
 have hki : spec_keIndex.f (k + 400) (List.replicate n true) true = some (s0 : Int) := by
  unfold spec_keIndex.f
  rw [(qC_ (s := (List.replicate n true, true)) (by simp only [length_replicate]; exact hn) (by omega : 20 ≤ k + 400)).1, Option.bind_some, hs0]
 unfold spec_keFar.f
 rw [if_pos (by omega), f1, if_pos (by omega), Int.toNat_natCast, if_pos (by omega), Option.bind_some, length_replicate]
 refine (c (k + 400)).trans ?_
 rw [spec_keFar.l0.eq_2, if_neg (by omega), s0_ hn ds _ (by omega), Option.bind_some, hki, Option.bind_some, if_pos (by omega), if_pos (by omega), if_pos (by rw [length_replicate]; omega), Int.toNat_natCast]
 exact hr2
theorem Far.part {A A' : Nat → List (Nat × Nat)} {N : Nat} {S : Nat → Prop} {d : Nat → Int} (h : Far A N S d) (p : Nat → Bool) (hA : ∀ u, A' u = if p u = true then A u else []) (hp : ∀ v, v < N → 0 ≤ d v → p v = true) : Far A' N S d := by
 refine ⟨h.st, fun u hu h0 e he => ?_, fun v hv h0 => ?_⟩
 ·rw [hA, if_pos (hp u hu h0)] at he
  exact h.go u hu h0 e he
 ·rcases h.by_ v hv h0 with e | ⟨u, hu, hu0, c, hm, e⟩
  ·exact .inl e
  ·exact .inr ⟨u, hu, hu0, c, by rw [hA, if_pos (hp u hu hu0)]; exact hm, e⟩
theorem Ways.part {A A' : Nat → List (Nat × Nat)} {N : Nat} {S : Nat → Prop} {d w : Nat → Int} (h : Ways A N S d w) (p : Nat → Bool) (hA : ∀ u, A' u = if p u = true then A u else []) (hp : ∀ v, v < N → 0 ≤ d v → p v = true) : Ways A' N S d w :=
 ⟨h.st, fun v hv h0 hs => by rw [h.at_ v hv h0 hs, hA, if_pos (hp v hv h0)]⟩
theorem qX_ {n s : Int} {l : List (List Int)} (hn : l.length ≤ 9223372036854775807) (hl : ∀ x ∈ l, x.length ≤ 9223372036854775807) {k : Nat} (hk : l.length < k) : ∃ z, laws_szKeep.f k n l s 1048576 = some z ∧ (z < 0 ∨ (l.length ≤ 1048576 ∧ ∀ x ∈ l, x.length ≤ 1048576)) := by
 unfold laws_szKeep.f laws_szIntSS.f
 rw [qg_ (n := 1048576 - (l.length : Int)) (by omega) (by omega)]
 by_cases h : l.length ≤ 1048576
 ·rw [if_neg (by omega)]
  obtain ⟨z, hz, h2⟩ := r8_ h hl l.length k 0 (1048576 - (l.length : Int)) (by omega) (by omega) (by omega) hk
  rw [show ((0 : Nat) : Int) = 0 from rfl] at hz
  rw [hz, Option.bind_some]
  by_cases hz0 : z < 0
  ·rw [if_pos hz0]
   exact ⟨_, rfl, .inl (by omega)⟩
  ·rw [if_neg hz0]
   exact ⟨_, rfl, .inr ⟨h, by simpa using h2.resolve_left hz0⟩⟩
 ·rw [if_pos (by omega), Option.bind_some, if_pos (by omega)]
  exact ⟨_, rfl, .inl (by omega)⟩
theorem rO_ {n s : Int} {l : List (List Int)} (hn : l.length ≤ 1048576) (hl : ∀ x ∈ l, x.length ≤ 1048576) {k : Nat} (hk : l.length + 1048577 < k) : laws_toKeep.f k n l s = some (n, l, s) := by
 unfold laws_toKeep.f
 rw [r7_ hn hl hk]
 rfl
theorem si_ {n s : Int} {l : List (List Int)} (hn : l.length ≤ 1048576) (hl : ∀ x ∈ l, x.length ≤ 1048576) {k : Nat} (hk : l.length + 1048577 < k) : laws_eqKeep.f k n l s n l s = some true := by
 unfold laws_eqKeep.f
 rw [if_pos rfl, qM_ hn hl hk]
 simp
theorem qI_ {α : Type} (p : α → Bool) : ∀ (l : List α), (∃ x ∈ l, p x = true) → ∃ a x b, l = a ++ x :: b ∧ (∀ y ∈ a, p y = false) ∧ p x = true
 | [], h => by obtain ⟨x, hx, _⟩ := h; cases hx
 | y :: l, h => by
  cases hy : p y
  ·obtain ⟨a, x, b, e, h1, h2⟩ := qI_ p l (by
    obtain ⟨x, hx, hp⟩ := h
    rcases mem_cons.1 hx with rfl | hx
    ·rw [hy] at hp; cases hp
    ·exact ⟨x, hx, hp⟩)
   refine ⟨y :: a, x, b, by rw [e]; rfl, fun z hz => ?_, h2⟩
   rcases mem_cons.1 hz with rfl | hz
   ·exact hy
   ·exact h1 z hz
  ·exact ⟨[], y, l, rfl, (fun _ h => by cases h), hy⟩
theorem sp_ {A : Nat → List (Nat × Nat)} {N u v c : Nat} (hB : um_ A N) (hu : u < N) (hv : v < N) (h : (v, c) ∈ A u) : (u, c) ∈ A v := by
 apply Classical.byContradiction
 intro hn
 have h1 := hB u v hu hv (fun e => if e = c then 1 else 0)
 rw [qo_ (A v) (g := fun e => if e.1 = u then (if e.2 = c then (1 : Int) else 0) else 0) fun x hx => by
  by_cases q : x.1 = u
  ·by_cases q2 : x.2 = c
   ·exact absurd (by rw [← q, ← q2]; exact hx) hn
   ·simp only [if_pos q, if_neg q2]
  ·simp only [if_neg q]] at h1
 have hp : ∀ l : List (Nat × Nat), (v, c) ∈ l → 1 ≤ qj_ (l.map fun e => if e.1 = v then (if e.2 = c then (1 : Int) else 0) else 0) := by
  have h0 : ∀ l : List (Nat × Nat), 0 ≤ qj_ (l.map fun e => if e.1 = v then (if e.2 = c then (1 : Int) else 0) else 0) := by
   intro l
   induction l with
   | nil => exact Int.le_refl _
   | cons x l ih =>
    simp only [map_cons, qj_]
    split
    ·split <;> omega
    ·omega
  intro l hl
  induction l with
  | nil => cases hl
  | cons x l ih =>
   have := h0 l
   simp only [map_cons, qj_]
   rcases mem_cons.1 hl with rfl | hl
   ·rw [if_pos rfl, if_pos rfl]; omega
   ·have := ih hl
    split
    ·split <;> omega
    ·omega
 have := hp _ h
 omega
theorem rJ_ {E : Int → List S110} {N : Int} {dist : List Int} {u : Nat} (hu : u < dist.length) (h0 : dd dist u ≤ 0) (k : Nat) (acc : List (List Int)) : foRun E N dist (k + 1) (u : Int) acc = some acc := by
 rw [foRun.eq_2, if_pos ⟨by omega, by omega⟩, qw_ _ (by omega : (0 : Int) ≤ (u : Int)), Int.toNat_natCast, if_neg (by omega)]
theorem s6_ {E : Int → List S110} {N C G : Nat} {dist : List Int} (hE : GrI E N C G) (hC : C * N + 1 < 1000000) (hc : C < 1000000) (hG : G < 1000000) (hl : dist.length = N) (hi : ∀ v, v < N → dd dist v ≤ ((C * N : Nat) : Int)) (lo : ∀ v, v < N → -1 ≤ dd dist v) {u : Nat} (hu : u < N) (h0 : 0 < dd dist u) {pre post : List S110} {e : S110} (hs : E (u : Int) = pre ++ e :: post)
  (hp : ∀ x ∈ pre, ¬ (0 ≤ dd dist x.f0.toNat ∧ dd dist x.f0.toNat + (x.f1.toNat : Int) = dd dist u)) (he : 0 ≤ dd dist e.f0.toNat ∧ dd dist e.f0.toNat + (e.f1.toNat : Int) = dd dist u) (k : Nat) {acc : List (List Int)} (ha : acc.length < 1000000) :
  foRun E (N : Int) dist (k + 1) (u : Int) acc = foRun E (N : Int) dist k e.f0 (acc ++ [e.f2]) := by
 obtain ⟨e1, e2⟩ := hE u hu
 have hb : impl_graph_int_best.f E (N : Int) (u : Int) dist = some ((E (u : Int)).filter fun e => !offWay dist (u : Int) e.f0 e.f1) := by
  unfold impl_graph_int_best.f
  rw [if_pos ⟨by omega, by omega, by omega, by omega⟩, if_pos (by
   rw [all_eq_true]
   intro x hx
   have := e2 x hx
   rw [decide_eq_true this.1, decide_eq_true this.2.1]
   rfl)]
 have hh : ((E (u : Int)).filter fun e => !offWay dist (u : Int) e.f0 e.f1).head? = some e := by
  rw [hs, List.filter_append, List.filter_eq_nil_iff.2 (fun x hx => by
   rw [rc_ hC hc hi lo hu (e2 x (by rw [hs]; exact mem_append_left _ hx))]
   simpa using hp x hx), nil_append, filter_cons, if_pos (by
   rw [rc_ hC hc hi lo hu (e2 e (by rw [hs]; simp))]
   exact decide_eq_true he)]
  rfl
 rw [foRun.eq_2, if_pos ⟨by omega, by omega⟩, qw_ _ (by omega : (0 : Int) ≤ (u : Int)), Int.toNat_natCast, if_pos h0, hb, Option.bind_some, hh, Option.bind_some, if_pos ha]
theorem ue_ {n : Nat} {ds : List (List Int)} (hq : KpQ n ds) (m : Nat) {x4 : List Int} (h4 : x4.length = 2 ^ (n + 1)) {s : List Bool × Bool} (hs : s.1.length = n) {g : List Int} {post : List (List Int)} {left : Int} (hl0 : 1 ≤ left) (hl1 : left ≤ 1000000)
  (he : dd x4 (cS (mv s g)) = left - 1) {acc : List (List Int)} (ha : acc.length < 1000000) : ∀ (pre done : List (List Int)), qc_ ds m s = done ++ (pre ++ g :: post) →
  (∀ x ∈ pre, ¬ dd x4 (cS (mv s x)) = left - 1) → ∀ K, 20 ≤ K →
  spec_FirstRides.l1 (K + 1 + pre.length) x4 left acc (qc_ ds m s) ((qc_ ds m s).length : Int) (done.length : Int) (n : Int) ds (m : Int) s.1 s.2 = spec_FirstRides.l0 K x4 (left - 1) (acc ++ [g]) (n : Int) ds (m : Int) (mv s g).1 (mv s g).2 := by
 have hn := hq.n8
 have hR := qt_ (ds := ds) (m := m) (s := s) (by omega)
 have hw1 : wrap64 (left - 1) = left - 1 := qg_ (by omega) (by omega)
 have key : ∀ (x : List Int) (rest done : List (List Int)), qc_ ds m s = done ++ x :: rest → rd_L1 (qc_ ds m s) (done.length : Int) = x ∧ done.length < (qc_ ds m s).length ∧ (∀ k, 20 ≤ k → spec_keRide.f k s.1 s.2 x = some (mv s x)) ∧ (∀ k, 20 ≤ k → spec_keIndex.f k (mv s x).1 (mv s x).2 = some (cS (mv s x) : Int)) ∧ (0 : Int) ≤ (cS (mv s x) : Int) ∧ (cS (mv s x) : Int) < (x4.length : Int) := by
  intro x rest done e
  have hx : x ∈ qc_ ds m s := by rw [e]; simp
  have hm : (mv s x).1.length = n := (qm_ _ _).trans hs
  refine ⟨?_, by rw [e]; simp, fun k hk => qF_ (by omega) (mem_ridesP.1 hx).1.1 hk, fun k hk => ?_, Int.natCast_nonneg _, ?_⟩
  ·rw [e]
   show (done ++ x :: rest).getD (done.length : Int).toNat [] = x
   rw [Int.toNat_natCast, getD_eq_getElem?_getD, List.getElem?_append_right (Nat.le_refl _), Nat.sub_self]
   rfl
  ·unfold spec_keIndex.f
   rw [(qC_ (by omega) hk).1, Option.bind_some]
  ·have := (qC_ (s := mv s x) (by omega) (Nat.le_refl 20)).2.1
   rw [hm] at this
   exact Int.ofNat_lt.2 (by rw [h4]; exact this)
 intro pre
 induction pre with
 | nil =>
  intro done e _ K hK
  obtain ⟨k1, k2, k3, k4, k5, k6⟩ := key g post done e
  have j0 : (0 : Int) ≤ (done.length : Int) := Int.natCast_nonneg _
  have j1 : (done.length : Int) < ((qc_ ds m s).length : Int) := Int.ofNat_lt.2 k2
  rw [show K + 1 + ([] : List (List Int)).length = K + 1 from rfl]
  simp only [spec_FirstRides.l1, k1]
  rw [if_pos j1, if_pos j0, if_pos j1, k3 K hK, Option.bind_some, k4 K hK, Option.bind_some, if_pos k5, if_pos k6, hw1, if_pos (show rd x4 (cS (mv s g) : Int) = left - 1 from he), if_pos (by omega)]
 | cons x pre ih =>
  intro done e hp K hK
  obtain ⟨k1, k2, k3, k4, k5, k6⟩ := key x (pre ++ g :: post) done e
  have hx := hp x List.mem_cons_self
  have j0 : (0 : Int) ≤ (done.length : Int) := Int.natCast_nonneg _
  have j1 : (done.length : Int) < ((qc_ ds m s).length : Int) := Int.ofNat_lt.2 k2
  have hrec := ih (done ++ [x]) (by rw [e, append_assoc]; rfl) (fun y hy => hp y (List.mem_cons_of_mem _ hy)) K hK
  rw [length_append, length_singleton] at hrec
  have hw : wrap64 ((done.length : Int) + 1) = ((done.length + 1 : Nat) : Int) := qa_ (n := (qc_ ds m s).length) k2 (by omega)
  rw [length_cons, show K + 1 + (pre.length + 1) = (K + 1 + pre.length) + 1 by omega]
  simp only [spec_FirstRides.l1, k1]
  rw [if_pos j1, if_pos j0, if_pos j1, k3 _ (by omega), Option.bind_some, k4 _ (by omega), Option.bind_some, if_pos k5, if_pos k6, hw1, if_neg (show ¬ rd x4 (cS (mv s x) : Int) = left - 1 from hx), hw]
  exact hrec
theorem rL_ {n : Nat} {ds : List (List Int)} (hq : KpQ n ds) (m : Nat) {z4 dist : List Int} {s0 : Nat} (h4 : z4.length = 2 ^ (n + 1)) (sF : Far (q1_ n ds m) (2 ^ (n + 1)) (fun v => v = s0) (dd z4))
  (hl : dist.length = 2 ^ (n + 1)) (hi : ∀ v, v < 2 ^ (n + 1) → dd dist v ≤ ((1 * 2 ^ (n + 1) : Nat) : Int)) (lo : ∀ v, v < 2 ^ (n + 1) → -1 ≤ dd dist v) (hz : ∀ s : List Bool × Bool, s.1.length = n → dd z4 (cS s) = dd dist (cI s)) :
  ∀ (d : Nat) (s : List Bool × Bool), s.1.length = n → dd dist (cI s) = (d : Int) → ∀ acc : List (List Int), acc.length + d ≤ 1000 → (∀ x ∈ acc, x.length ≤ 10) →
  ∃ R : List (List Int), R.length ≤ 1000 ∧ (∀ x ∈ R, x.length ≤ 10) ∧ (∀ K, d < K → foRun (edP n ds m) ((2 ^ (n + 1) : Nat) : Int) dist K (cI s : Int) acc = some R) ∧ ∃ K0, spec_FirstRides.l0 K0 z4 (d : Int) acc (n : Int) ds (m : Int) s.1 s.2 = some (R, true) := by
 have hn := hq.n8
 have hN : 2 ^ (n + 1) ≤ 512 := ub_ hn
 have hE := sB_ hq m
 intro d
 induction d with
 | zero =>
  intro s hs hd acc ha hr
  obtain ⟨i1, i2, i3⟩ := rz_ (s := s) (by omega) (Nat.le_refl 20)
  rw [hs] at i2
  refine ⟨acc, by omega, hr, fun K hK => ?_, 1, ?_⟩
  ·obtain ⟨K, rfl⟩ := qb_ hK
   exact rJ_ (by rw [hl]; exact i2) (by rw [hd]; exact Int.le_refl _) K acc
  ·simp only [spec_FirstRides.l0]
   rw [if_neg (by omega)]
 | succ d ih =>
  intro s hs hd acc ha hr
  obtain ⟨i1, i2, i3⟩ := rz_ (s := s) (by omega) (Nat.le_refl 20)
  obtain ⟨c1, c2, c3⟩ := qC_ (s := s) (by omega) (Nat.le_refl 20)
  rw [hs] at i2 i3 c2 c3
  have hz0 := hz s hs
  have hz1 : dd z4 (cS s) = (d : Int) + 1 := by rw [hz0, hd]; omega
  have hex : ∃ g ∈ qc_ ds m s, decide (dd z4 (cS (mv s g)) = (d : Int)) = true := by
   rcases sF.by_ (cS s) c2 (by omega) with q | ⟨u, hu, hu0, c, hc, q⟩
   ·have := sF.st _ q
    omega
   ·have hb := sp_ (rk_ hq m) hu c2 hc
    unfold q1_ at hb
    split at hb
    ·unfold edK at hb
     rw [c3] at hb
     obtain ⟨g, hg, e⟩ := mem_map.1 hb
     have e1 : cS (mv s g) = u := congrArg Prod.fst e
     have e2 : 1 = c := congrArg Prod.snd e
     refine ⟨g, hg, decide_eq_true ?_⟩
     rw [e1]
     omega
    ·cases hb
  obtain ⟨pre, g, post, eL, hp, hg⟩ := qI_ (fun g => decide (dd z4 (cS (mv s g)) = (d : Int))) _ hex
  have hg' := of_decide_eq_true hg
  have hm : ∀ x, (mv s x).1.length = n := fun x => (qm_ _ _).trans hs
  have hgm : g ∈ qc_ ds m s := by rw [eL]; simp
  have hgl : g.length ≤ 8 := by
   have h1 := (mem_ridesP.1 hgm).1.1.length_le
   have h2 := qk_ s.1 s.2
   omega
  have hd2 : dd dist (cI (mv s g)) = (d : Int) := by rw [← hz (mv s g) (hm g)]; exact hg'
  obtain ⟨R, r1, r2, r3, K0, r4⟩ := ih (mv s g) (hm g) hd2 (acc ++ [g]) (by rw [length_append, length_singleton]; omega) (fun x hx => by
   rcases mem_append.1 hx with hx | hx
   ·exact hr x hx
   ·rw [mem_singleton.1 hx]; omega)
  refine ⟨R, r1, r2, fun K hK => ?_, K0 + 500 + pre.length + 2, ?_⟩
  ·obtain ⟨K, rfl⟩ := qb_ hK
   have eE : edP n ds m (cI s : Int) = (pre.map fun g => (⟨(cI (mv s g) : Int), 1, g⟩ : S110)) ++ ⟨(cI (mv s g) : Int), 1, g⟩ :: (post.map fun g => ⟨(cI (mv s g) : Int), 1, g⟩) := by
    unfold edP
    rw [Int.toNat_natCast, i3, eL, map_append]
    rfl
   rw [s6_ hE (by omega) (by decide) (by decide) hl hi lo i2 (by rw [hd]; omega) eE (fun x hx => by
    obtain ⟨y, hy, rfl⟩ := mem_map.1 hx
    have h1 := of_decide_eq_false (hp y hy)
    rw [hz (mv s y) (hm y)] at h1
    show ¬ (0 ≤ dd dist (cI (mv s y)) ∧ dd dist (cI (mv s y)) + 1 = dd dist (cI s))
    rw [hd]
    omega) (by
    show 0 ≤ dd dist (cI (mv s g)) ∧ dd dist (cI (mv s g)) + 1 = dd dist (cI s)
    rw [hd, hd2]
    omega) K (by omega)]
   exact r3 K (by omega)
  ·simp only [spec_FirstRides.l0]
   rw [if_pos (by omega), qK_ hq m hs (by omega), Option.bind_some]
   have e1 : ((d + 1 : Nat) : Int) - 1 = (d : Int) := by omega
   have h1 := ue_ hq m h4 hs (g := g) (post := post) (left := ((d + 1 : Nat) : Int)) (by omega) (by omega) (by rw [e1]; exact hg') (acc := acc) (by omega) pre [] (by rw [eL]; rfl) (fun x hx => by rw [e1]; exact of_decide_eq_false (hp x hx)) (K0 + 500) (by omega)
   rw [show K0 + 500 + pre.length + 1 = K0 + 500 + 1 + pre.length by omega]
   refine Eq.trans h1 ?_
   rw [e1]
   exact qn_ (f := fun k => spec_FirstRides.l0 k z4 (d : Int) (acc ++ [g]) (n : Int) ds (m : Int) (mv s g).1 (mv s g).2) (fun k => (spec_FirstRides.mono_l k).1 _ _ _ _ _ _ _ _) (by omega : K0 ≤ K0 + 500) r4
theorem rK_ {n : Nat} {ds : List (List Int)} (hq : KpQ n ds) (m : Nat) : ∃ k0, ∀ k, k0 ≤ k → ∃ x : List (List Int) × Bool, x.1.length ≤ 1000 ∧ (∀ y ∈ x.1, y.length ≤ 10) ∧
  ((spec_keFar.f k (n : Int) ds (m : Int)).bind fun bt815 => ((spec_keStart.f (n : Int) ds (m : Int)).bind fun bt821 => ((spec_keIndex.f k bt821.1 bt821.2).bind fun t826 => (if 0 ≤ t826 then (if t826 < (bt815.1.length : Int) then (if (rd bt815.1 t826) < 0 then (some (([] : List (List Int)), false)) else (spec_FirstRides.l0 k bt815.1 (rd bt815.1 t826) ([] : List (List Int)) (n : Int) ds (m : Int) bt821.1 bt821.2)) else (none)) else (none))))) = some x ∧
  ((impl_Keep_costs.f k (n : Int) ds (m : Int)).bind fun p => if p.2 = true then (fiG (kpG k (n : Int) ds (m : Int)) k (grN (n : Int).toNat) 0 p.1).bind fun r => some (r, true) else some ([], false)) = some x := by
 have hn := hq.n8
 have hN : 2 ^ (n + 1) ≤ 512 := ub_ hn
 have hpos : 0 < 2 ^ (n + 1) := Nat.pow_pos (by omega)
 obtain ⟨f1, f2, f3, f4, f5⟩ := sC_ hn
 have hE := sB_ hq m
 obtain ⟨k1, z4, z5, s1, l4, l5, sF, sW, slo, sz⟩ := ud_ hq m
 obtain ⟨k2, dist, i1, iF, il, ilo, ihi⟩ := s5_ hE (s := 2 ^ (n + 1) - 1) (by omega) (by omega) (by omega) (by omega)
 obtain ⟨A', hA'⟩ : ∃ A' : Nat → List (Nat × Nat), A' = fun u => if sfK n ds (nmS n u) = true then Aof (edP n ds m) u else [] := ⟨_, rfl⟩
 have hAu : ∀ u, A' u = if (fun u => sfK n ds (nmS n u)) u = true then Aof (edP n ds m) u else [] := fun u => by rw [hA']
 have hA'b : GrB A' (2 ^ (n + 1)) 1 := by
  intro u hu e he
  rw [hAu] at he
  split at he
  ·exact hE.b u hu e he
  ·cases he
 have hnames : ∀ u, u < 2 ^ (n + 1) → q1_ n ds m (nmS n u) = (A' u).map fun e => (nmS n e.1, e.2) := by
  intro u hu
  unfold q1_
  rw [hAu]
  by_cases c : sfK n ds (nmS n u) = true
  ·rw [if_pos c, if_pos c, rl_ hq m u hu]
  ·rw [if_neg c, if_neg c]
   rfl
 have hsafe : ∀ v, v < 2 ^ (n + 1) → 0 ≤ dd dist v → sfK n ds (nmS n v) = true := by
  intro v hv h0
  rcases iF.by_ v hv h0 with e | ⟨u, hu, hu0, c, hm, -⟩
  ·rw [e]
   unfold sfK
   rw [r2_ hn (by omega), f4]
   exact r3_ hq
  ·have he : (nmS n v, c) ∈ edK n ds m (nmS n u) := by
    rw [rl_ hq m u hu]
    exact mem_map.2 ⟨(v, c), hm, rfl⟩
   exact (sl_ hq m (rd_ hn u hu) he).2.2
 have iF2 := iF.part (A' := A') (fun u => sfK n ds (nmS n u)) hAu hsafe
 have e7 : ∀ v, v < 2 ^ (n + 1) → dd z4 (nmS n v) = dd dist v := fun v hv =>
  Far.eq hA'b (Far.names (nmS n) sF hA'b (rd_ hn) (sO_ hn) (sN_ hn) (by omega) hnames) iF2 (fun v hv => slo _ (rd_ hn v hv)) ilo hv
 have hz : ∀ s : List Bool × Bool, s.1.length = n → dd z4 (cS s) = dd dist (cI s) := fun s hs => by
  obtain ⟨i1, i2, i3⟩ := rz_ (s := s) (by omega) (Nat.le_refl 20)
  rw [hs] at i2 i3
  have h := e7 (cI s) i2
  unfold nmS at h
  rwa [i3] at h
 have hn0 : cS (List.replicate n false, false) = nmS n 0 := by
  unfold nmS
  rw [f5]
 have hi0 : cI (List.replicate n false, false) = 0 := by
  rw [← f5]
  exact (qZ_ hn hpos (Nat.le_refl 20)).2.2
 have hlt0 := rd_ hn 0 hpos
 obtain ⟨R, r1, r2, r3, K0, r4⟩ : ∃ R : List (List Int), R.length ≤ 1000 ∧ (∀ x ∈ R, x.length ≤ 10) ∧ (0 ≤ dd dist 0 → ∀ K, (dd dist 0).toNat < K → foRun (edP n ds m) ((2 ^ (n + 1) : Nat) : Int) dist K 0 [] = some R) ∧ ∃ K0, 0 ≤ dd dist 0 → spec_FirstRides.l0 K0 z4 (dd dist 0) [] (n : Int) ds (m : Int) (List.replicate n false) false = some (R, true) := by
  by_cases c : 0 ≤ dd dist 0
  ·have hh := ihi 0 hpos
   obtain ⟨R, r1, r2, r3, K0, r4⟩ := rL_ hq m l4 sF il ihi ilo hz (dd dist 0).toNat (List.replicate n false, false) (by simp) (by rw [hi0]; omega) [] (by simp only [length_nil]; omega) (fun x hx => by cases hx)
   rw [hi0] at r3
   rw [Int.toNat_of_nonneg c] at r4
   exact ⟨R, r1, r2, fun _ => r3, K0, fun _ => r4⟩
  ·exact ⟨[], by simp, by simp, fun h => absurd h c, 0, fun h => absurd h c⟩
 refine ⟨k1 + k2 + K0 + (dd dist 0).toNat + 60, fun k hk => ?_⟩
 have s2 : spec_keFar.f k (n : Int) ds (m : Int) = some (z4, z5) := qn_ (f := fun k => spec_keFar.f k (n : Int) ds (m : Int)) (fun k => spec_keFar.mono _ _ _ k) (by omega : k1 ≤ k) s1
 have i2 := qn_ (f := fun k => impl_graph_int_from.f (edP n ds m) k ((2 ^ (n + 1) : Nat) : Int) [((2 ^ (n + 1) - 1 : Nat) : Int)]) (fun k => impl_graph_int_from.mono _ _ _ k) (by omega : k2 ≤ k) i1
 obtain ⟨g1, g2⟩ := s4_ (g := kpG k (n : Int) ds (m : Int)) (E := edP n ds m) (N := 2 ^ (n + 1)) fun c hc => uc_ hq m (by omega) hc
 have hcost : impl_Keep_costs.f k (n : Int) ds (m : Int) = some (dist, decide (0 ≤ dd dist 0)) := by
  unfold impl_Keep_costs.f frG
  rw [f2, Option.bind_some, Int.toNat_natCast, f3, if_pos g1, rI_ g2]
  have i3 : impl_graph_int_from.f (edP n ds m) k ((2 ^ (n + 1) : Nat) : Int) [((2 ^ (n + 1) - 1 : Nat) : Int)] = some dist := i2
  rw [i3, Option.bind_some, if_pos (by omega)]
  rfl
 have hstart : spec_keStart.f (n : Int) ds (m : Int) = some (List.replicate n false, false) := by
  unfold spec_keStart.f
  rw [if_pos (by omega), if_pos (by omega), Int.toNat_natCast]
 have hki : spec_keIndex.f k (List.replicate n false) false = some (nmS n 0 : Int) := by
  unfold spec_keIndex.f
  rw [(qC_ (s := (List.replicate n false, false)) (by simp only [length_replicate]; exact hn) (by omega : 20 ≤ k)).1, Option.bind_some, hn0]
 have hrd : rd z4 (nmS n 0 : Int) = dd dist 0 := e7 0 hpos
 rw [s2, Option.bind_some, hstart, Option.bind_some, hki, Option.bind_some, if_pos (by omega), if_pos (by show (nmS n 0 : Int) < (z4.length : Int); omega), hcost, Option.bind_some]
 show ∃ x : List (List Int) × Bool, x.1.length ≤ 1000 ∧ (∀ y ∈ x.1, y.length ≤ 10) ∧ (if rd z4 (nmS n 0 : Int) < 0 then some (([] : List (List Int)), false) else spec_FirstRides.l0 k z4 (rd z4 (nmS n 0 : Int)) ([] : List (List Int)) (n : Int) ds (m : Int) (List.replicate n false) false) = some x ∧ _
 rw [hrd]
 by_cases c : 0 ≤ dd dist 0
 ·refine ⟨(R, true), r1, r2, ?_, ?_⟩
  ·rw [if_neg (by omega)]
   exact qn_ (f := fun k => spec_FirstRides.l0 k z4 (dd dist 0) [] (n : Int) ds (m : Int) (List.replicate n false) false) (fun k => (spec_FirstRides.mono_l k).1 _ _ _ _ _ _ _ _) (by omega : K0 ≤ k) (r4 c)
  ·rw [if_pos (by exact decide_eq_true c), Int.toNat_natCast, f3]
   unfold fiG impl_graph_int_first.f
   rw [if_pos g1]
   have h1 : foRun (grE (kpG k (n : Int) ds (m : Int))) ((2 ^ (n + 1) : Nat) : Int) dist k 0 [] = some R := by
    rw [foRun_congr g2]
    exact r3 c k (by omega)
   rw [h1]
   rfl
 ·refine ⟨([], false), by simp, by simp, by rw [if_pos (by omega)], ?_⟩
  rw [if_neg (by simp only [decide_eq_true_eq]; exact c)]
theorem both (n : Int) {l : List (List Int)} (hl : l.length ≤ 1048576) (s : Int) : ∃ k0, ∀ k, k0 ≤ k → ∃ x : List (List Int) × Bool, x.1.length ≤ 1000 ∧ (∀ y ∈ x.1, y.length ≤ 10) ∧ spec_FirstRides.f k n l s = some x ∧ impl_FirstRides.f k n l s = some x := by
 cases hg : rg_ n l s
 ·refine ⟨2 * l.length + 13, fun k hk => ⟨([], false), by simp, by simp, ?_, ?_⟩⟩
  ·unfold spec_FirstRides.f
   rw [rh_ n hl s (by omega), hg, Option.bind_some, if_neg (by decide)]
  ·unfold impl_FirstRides.f
   rw [rn_ n hl s (by omega), hg, Option.bind_some, if_neg (by decide)]
 ·have hfew := sy_ hg
  have h := hg
  unfold rg_ at h
  simp only [Bool.and_eq_true] at h
  obtain ⟨h1, h2, h3⟩ := h
  rw [inB_true] at h1 h2
  obtain ⟨c, rfl⟩ : ∃ c : Nat, n = (c : Int) := ⟨n.toNat, by omega⟩
  obtain ⟨m, rfl⟩ : ∃ m : Nat, s = (m : Int) := ⟨s.toNat, by omega⟩
  have hq : KpQ c l := ⟨by omega, fun d hd => by
   have h4 := r4_ h3 d hd
   unfold okD at h4
   simp only [Bool.and_eq_true, decide_eq_true_eq, inB_true] at h4
   have e0 : rd d 0 = d.getD 0 0 := rfl
   have e1 : rd d 1 = d.getD 1 0 := rfl
   rw [e0, e1]
   omega, hfew⟩
  obtain ⟨k0, hk0⟩ := rK_ hq m
  refine ⟨k0 + 2 * l.length + 13, fun k hk => ?_⟩
  obtain ⟨x, x1, x2, e1, e2⟩ := hk0 k (by omega)
  refine ⟨x, x1, x2, ?_, ?_⟩
  ·unfold spec_FirstRides.f
   rw [rh_ (c : Int) hl (m : Int) (by omega), hg, Option.bind_some, if_pos rfl]
   exact e1
  ·unfold impl_FirstRides.f
   rw [rn_ (c : Int) hl (m : Int) (by omega), hg, Option.bind_some, if_pos rfl]
   exact e2
theorem pure : ∀ (a0_0 : Int) (l0_1 : List (List Int)) (a0_2 : Int), Opn.okI a0_0 → (∀ y0 ∈ l0_1, (y0.length ≤ 9223372036854775807 ∧ ∀ y1 ∈ y0, Opn.okI y1)) → l0_1.length ≤ 9223372036854775807 → Opn.okI a0_2 → ∃ k, laws_FnExactFirstRides.f k a0_0 l0_1 a0_2 = some true := by
 intro n l s _ hx hn _
 by_cases hl : l.length ≤ 1048576
 ·obtain ⟨k0, hk0⟩ := both n hl s
  obtain ⟨K, hK⟩ : ∃ K, K = k0 + 2 * l.length + 1100000 := ⟨_, rfl⟩
  refine ⟨K + 1, ?_⟩
  unfold laws_FnExactFirstRides.f
  obtain ⟨z, hz, h1⟩ := qX_ (n := n) (s := s) hn (fun x h => (hx x h).1) (k := K + 1) (by omega)
  rw [hz, Option.bind_some]
  by_cases hz0 : z < 0
  ·rw [if_pos hz0]
  ·obtain ⟨h2, h3⟩ := h1.resolve_left hz0
   obtain ⟨x, x1, x2, e1, e2⟩ := hk0 (K + 1) (by omega)
   obtain ⟨m, l', m1, m2⟩ := rW_ (l := x.1) (by omega) x2 (k := K + 1) (by omega)
   obtain ⟨mx, lx, n1, n2⟩ := qR_ l [] (K + 1) 1 h3 (by simp; omega) (by omega) (by omega) (by omega)
   have n3 : laws_markIntSS.f (K + 1) l 1 = some (mx, lx) := n1
   rw [if_neg hz0, rO_ h2 h3 (by omega)]
   simp only [Option.bind_some, e1, e2]
   rw [if_pos trivial, qM_ (l := x.1) (by omega) (fun y hy => by have := x2 y hy; omega) (by omega), Option.bind_some, if_pos rfl, si_ h2 h3 (by omega), Option.bind_some, if_pos rfl, n3, Option.bind_some]
   dsimp only
   rw [if_neg (by omega), m1, Option.bind_some]
   dsimp only
   rw [m2, Option.bind_some, if_neg (by omega), if_pos rfl]
 ·refine ⟨l.length + 1, ?_⟩
  unfold laws_FnExactFirstRides.f
  obtain ⟨z, hz, h1⟩ := qX_ (n := n) (s := s) hn (fun x h => (hx x h).1) (k := l.length + 1) (by omega)
  rw [hz, Option.bind_some]
  rcases h1 with h1 | h1
  ·rw [if_pos h1]
  ·exact absurd h1.1 hl
end Go.Proofs.Ythkchdfkeieabaa.fnExactFirstRides
