/- FnExactSwapCouples, the plain statement: what the printed functions compute makes the law's function return true. Conditions: the numbers are of their kind. -/
import Derived.Test.YtkdmjjihphnmdaaOpn
import Derived.Test.YtkdmjjihphnmdaaQSwapx10
namespace Go.Proofs.Ytkdmjjihphnmdaa.fnExactSwapCouples
open Go.RowKit Go.Proofs.YtkdmjjihphnmdaaW.PrintWords Go.Proofs.YtkdmjjihphnmdaaW.PrintLast Go.Proofs.YtkdmjjihphnmdaaW.PrintMore Go.Proofs.Ytkdmjjihphnmdaa.QSwap
set_option linter.unusedVariables false
set_option linter.unusedSimpArgs false

/-- x lies between a and b. -/
def inB (x a b : Int) : Bool := decide (a ≤ x) && decide (x ≤ b)
theorem inB_true {x a b : Int} : inB x a b = true ↔ a ≤ x ∧ x ≤ b := by simp [inB]
theorem wrap_id {n : Int} (h0 : -9223372036854775808 ≤ n) (h1 : n ≤ 9223372036854775807) : wrap64 n = n := by
  unfold wrap64
  omega
theorem wrap_succ {i n : Nat} (h : i < n) (hn : n ≤ 9223372036854775807) : wrap64 ((i : Int) + 1) = ((i + 1 : Nat) : Int) := by
  unfold wrap64
  omega
theorem getD_take {α : Type} (l : List α) (i : Nat) (h : i < l.length) (z : α) : l.take (i + 1) = l.take i ++ [l.getD i z] := by
  rw [List.take_succ_eq_append_getElem h, List.getD_eq_getElem?_getD, List.getElem?_eq_getElem h]
  rfl
theorem getD_drop {α : Type} (l : List α) (i : Nat) (h : i < l.length) (z : α) : l.drop i = l.getD i z :: l.drop (i + 1) := by
  rw [List.drop_eq_getElem_cons h, List.getD_eq_getElem?_getD, List.getElem?_eq_getElem h]
  rfl
theorem set_take {α : Type} (l : List α) (i : Nat) (h : i < l.length) (v : α) : (l.set i v).take (i + 1) = l.take i ++ [v] := by
  rw [List.take_succ_eq_append_getElem (by rw [List.length_set]; exact h), List.take_set_of_le (Nat.le_refl i), List.getElem_set_self]
theorem k_succ {k d : Nat} (h : d < k) : ∃ m, k = m + 1 := ⟨k - 1, by omega⟩
theorem getD_map_at {α β : Type} (f : α → β) (l : List α) (i : Nat) (h : i < l.length) (z : α) (y : β) : (l.map f).getD i y = f (l.getD i z) := by
  rw [List.getD_eq_getElem?_getD, List.getD_eq_getElem?_getD, List.getElem?_map, List.getElem?_eq_getElem h]
  rfl
theorem l1In_eq (x a b : Int) : spec_l1In.f x a b = some (inB x a b) := by
  unfold spec_l1In.f inB
  by_cases h : a ≤ x <;> simp [h]
theorem in_eq (x a b : Int) : impl_in.f x a b = some (inB x a b) := by
  unfold impl_in.f inB
  by_cases h : a ≤ x <;> simp [h]
theorem toIntS_l0 {l : List Int} (hn : l.length ≤ 9223372036854775807) : ∀ (d k i : Nat) (x : List Int), i + d = l.length → x.length = l.length → x.take i = l.take i → d < k → laws_toIntS.l0 k l x (i : Int) = some l := by
  intro d
  induction d with
  | zero =>
    intro k i x hi hx ht hk
    obtain ⟨k, rfl⟩ := k_succ hk
    simp only [laws_toIntS.l0]
    rw [if_neg (by omega)]
    rw [show i = l.length by omega, List.take_length, ← hx, List.take_length] at ht
    rw [ht]
  | succ d ih =>
    intro k i x hi hx ht hk
    obtain ⟨k, rfl⟩ := k_succ hk
    have hlt : i < l.length := by omega
    simp only [laws_toIntS.l0]
    rw [if_pos (by omega), if_pos (by omega), if_pos (by omega), wrap_succ hlt hn]
    refine ih k (i + 1) _ (by omega) (by rw [List.length_set]; exact hx) ?_ (by omega)
    rw [Int.toNat_natCast, set_take _ _ (by omega), ht, getD_take l i hlt 0]
    rfl
theorem toIntS_eq {l : List Int} (hn : l.length ≤ 1048576) {k : Nat} (hk : l.length < k) : laws_toIntS.f k l = some l := by
  unfold laws_toIntS.f
  rw [if_pos (by omega), if_pos (by omega)]
  exact toIntS_l0 (by omega) l.length k 0 _ (by omega) (by simp) (by simp) hk
theorem eqIntS_l0 {l : List Int} (hn : l.length ≤ 9223372036854775807) : ∀ (d k i : Nat), i + d = l.length → d < k → laws_eqIntS.l0 k l l (i : Int) = some true := by
  intro d
  induction d with
  | zero =>
    intro k i hi hk
    obtain ⟨k, rfl⟩ := k_succ hk
    simp only [laws_eqIntS.l0]
    rw [if_neg (by omega)]
  | succ d ih =>
    intro k i hi hk
    obtain ⟨k, rfl⟩ := k_succ hk
    have hlt : i < l.length := by omega
    simp only [laws_eqIntS.l0]
    rw [if_pos (by omega), if_pos (by omega), if_pos (by omega), if_pos trivial, wrap_succ hlt hn]
    exact ih k (i + 1) (by omega) (by omega)
theorem eqIntS_eq {l : List Int} (hn : l.length ≤ 9223372036854775807) {k : Nat} (hk : l.length < k) : laws_eqIntS.f k l l = some true := by
  unfold laws_eqIntS.f
  rw [if_pos rfl]
  exact eqIntS_l0 hn l.length k 0 (by omega) hk
theorem areIn_eq (l : List Int) (a b c d : Int) : impl_areIn.f l a b c d = some (inB (l.length : Int) c d && l.all fun x => inB x a b) := by
  unfold impl_areIn.f inB
  simp [List.not_any_eq_all_not]
theorem mem_getD {α : Type} {l : List α} {i : Nat} (h : i < l.length) (z : α) : l.getD i z ∈ l := by
  rw [List.getD_eq_getElem?_getD, List.getElem?_eq_getElem h]
  exact List.getElem_mem h
theorem rd_row (l : List (List Int)) (i : Nat) : rd_L1 l (i : Int) = l.getD i [] := by
  unfold rd_L1
  rw [Int.toNat_natCast]
theorem szIntSS_l0 {l : List (List Int)} (hn : l.length ≤ 1048576) (hl : ∀ x ∈ l, x.length ≤ 9223372036854775807) : ∀ (d k i : Nat) (a : Int), i + d = l.length → 0 ≤ a → a ≤ 1048576 → d < k → ∃ z, laws_szIntSS.l0 k l a (i : Int) = some z ∧ (z < 0 ∨ ∀ x ∈ l.drop i, x.length ≤ 1048576) := by
  intro d
  induction d with
  | zero =>
    intro k i a hi _ _ hk
    obtain ⟨k, rfl⟩ := k_succ hk
    simp only [laws_szIntSS.l0]
    rw [if_neg (by omega), List.drop_of_length_le (by omega)]
    exact ⟨_, rfl, .inr (fun x hx => by simp at hx)⟩
  | succ d ih =>
    intro k i a hi h0 h1 hk
    obtain ⟨k, rfl⟩ := k_succ hk
    have hlt : i < l.length := by omega
    have hx := hl _ (mem_getD hlt [])
    simp only [laws_szIntSS.l0, rd_row, laws_szIntS.f]
    rw [if_pos (by omega), if_pos (by omega), wrap_id (n := a - ((l.getD i []).length : Int)) (by omega) (by omega), wrap_succ hlt (by omega)]
    by_cases hc : a - ((l.getD i []).length : Int) < 0
    · rw [if_pos hc, Option.bind_some, if_pos (by omega)]
      exact ⟨_, rfl, .inl (by omega)⟩
    · rw [if_neg hc, Option.bind_some, if_neg hc]
      obtain ⟨z, hz, h⟩ := ih k (i + 1) (a - ((l.getD i []).length : Int)) (by omega) (by omega) (by omega) (by omega)
      refine ⟨z, hz, h.imp_right fun h => ?_⟩
      rw [getD_drop l i hlt []]
      intro x hx
      rcases List.mem_cons.1 hx with rfl | hx
      · omega
      · exact h x hx
theorem toIntSS_l0 {l : List (List Int)} (hn : l.length ≤ 1048576) (hl : ∀ x ∈ l, x.length ≤ 1048576) : ∀ (d k i : Nat) (x : List (List Int)), i + d = l.length → x.length = l.length → x.take i = l.take i → d + 1048577 < k → laws_toIntSS.l0 k l x (i : Int) = some l := by
  intro d
  induction d with
  | zero =>
    intro k i x hi hx ht hk
    obtain ⟨k, rfl⟩ := k_succ hk
    simp only [laws_toIntSS.l0]
    rw [if_neg (by omega)]
    rw [show i = l.length by omega, ← hx, List.take_length, hx, List.take_length] at ht
    rw [ht]
  | succ d ih =>
    intro k i x hi hx ht hk
    obtain ⟨k, rfl⟩ := k_succ hk
    have hlt : i < l.length := by omega
    have hm := hl _ (mem_getD hlt [])
    simp only [laws_toIntSS.l0, rd_row]
    rw [if_pos (by omega), if_pos (by omega), toIntS_eq hm (by omega), Option.bind_some, if_pos (by omega), wrap_succ hlt (by omega)]
    refine ih k (i + 1) _ (by omega) (by rw [List.length_set]; exact hx) ?_ (by omega)
    rw [Int.toNat_natCast, set_take _ _ (by omega), ht, getD_take l i hlt []]
theorem toIntSS_eq {l : List (List Int)} (hn : l.length ≤ 1048576) (hl : ∀ x ∈ l, x.length ≤ 1048576) {k : Nat} (hk : l.length + 1048577 < k) : laws_toIntSS.f k l = some l := by
  unfold laws_toIntSS.f
  rw [if_pos (by omega), if_pos (by omega)]
  exact toIntSS_l0 hn hl l.length k 0 _ (by omega) (by simp) (by simp) hk
theorem eqIntSS_l0 {l : List (List Int)} (hn : l.length ≤ 1048576) (hl : ∀ x ∈ l, x.length ≤ 1048576) : ∀ (d k i : Nat), i + d = l.length → d + 1048577 < k → laws_eqIntSS.l0 k l l (i : Int) = some true := by
  intro d
  induction d with
  | zero =>
    intro k i hi hk
    obtain ⟨k, rfl⟩ := k_succ hk
    simp only [laws_eqIntSS.l0]
    rw [if_neg (by omega)]
  | succ d ih =>
    intro k i hi hk
    obtain ⟨k, rfl⟩ := k_succ hk
    have hlt : i < l.length := by omega
    have hm := hl _ (mem_getD hlt [])
    simp only [laws_eqIntSS.l0, rd_row]
    rw [if_pos (by omega), if_pos (by omega), if_pos (by omega), eqIntS_eq (by omega) (by omega), Option.bind_some, if_pos rfl, wrap_succ hlt (by omega)]
    exact ih k (i + 1) (by omega) (by omega)
theorem eqIntSS_eq {l : List (List Int)} (hn : l.length ≤ 1048576) (hl : ∀ x ∈ l, x.length ≤ 1048576) {k : Nat} (hk : l.length + 1048577 < k) : laws_eqIntSS.f k l l = some true := by
  unfold laws_eqIntSS.f
  rw [if_pos rfl]
  exact eqIntSS_l0 hn hl l.length k 0 (by omega) hk
theorem markIntS_l0 {m : Nat} (hm : m ≤ 100000000) : ∀ (d k i : Nat) (l : List Int), i + d = l.length → l.length ≤ 1048576 → (∀ j, j < i → l.getD j 0 = ((m + j : Nat) : Int)) → d < k →
    ∃ l', laws_markIntS.l0 k l ((m + i : Nat) : Int) (i : Int) = some (((m + l.length : Nat) : Int), l') ∧ l'.length = l.length ∧ ∀ j, j < l.length → l'.getD j 0 = ((m + j : Nat) : Int) := by
  intro d
  induction d with
  | zero =>
    intro k i l hi hn hp hk
    obtain ⟨k, rfl⟩ := k_succ hk
    simp only [laws_markIntS.l0]
    refine ⟨l, ?_, rfl, fun j hj => hp j (by omega)⟩
    rw [if_neg (by omega), show m + i = m + l.length by omega]
  | succ d ih =>
    intro k i l hi hn hp hk
    obtain ⟨k, rfl⟩ := k_succ hk
    have hlt : i < l.length := by omega
    have e1 : wrap64 (((m + i : Nat) : Int) + 1) = ((m + (i + 1) : Nat) : Int) := by unfold wrap64; omega
    have e2 : ((i : Int)).toNat = i := by omega
    simp only [laws_markIntS.l0]
    rw [if_pos (by omega), if_pos (by omega), wrap_succ hlt (by omega), e1, e2]
    obtain ⟨l', h1, h2, h3⟩ := ih k (i + 1) (l.set i ((m + i : Nat) : Int)) (by rw [List.length_set]; omega) (by rw [List.length_set]; exact hn) (by
      intro j hj
      by_cases h : j = i
      · subst h
        rw [List.getD_eq_getElem?_getD, List.getElem?_set_self hlt]
        rfl
      · rw [List.getD_eq_getElem?_getD, List.getElem?_set_ne (Ne.symm h), ← List.getD_eq_getElem?_getD]
        exact hp j (by omega)) (by omega)
    rw [List.length_set] at h1 h2 h3
    exact ⟨l', h1, h2, h3⟩
theorem markIntS_eq {m : Nat} (hm : m ≤ 100000000) {l : List Int} (hn : l.length ≤ 1048576) {k : Nat} (hk : l.length < k) :
    ∃ l', laws_markIntS.f k l (m : Int) = some (((m + l.length : Nat) : Int), l') ∧ l'.length = l.length ∧ ∀ j, j < l.length → l'.getD j 0 = ((m + j : Nat) : Int) := by
  unfold laws_markIntS.f
  exact markIntS_l0 hm l.length k 0 l (by omega) hn (fun j hj => absurd hj (Nat.not_lt_zero j)) hk
theorem heldIntS_l0 {m : Nat} (hm : m ≤ 100000000) {l : List Int} (hn : l.length ≤ 1048576) (h : ∀ j, j < l.length → l.getD j 0 = ((m + j : Nat) : Int)) : ∀ (d k i : Nat), i + d = l.length → d < k →
    laws_heldIntS.l0 k l ((m + i : Nat) : Int) (i : Int) = some ((m + l.length : Nat) : Int) := by
  intro d
  induction d with
  | zero =>
    intro k i hi hk
    obtain ⟨k, rfl⟩ := k_succ hk
    simp only [laws_heldIntS.l0]
    rw [if_neg (by omega), show m + i = m + l.length by omega]
  | succ d ih =>
    intro k i hi hk
    obtain ⟨k, rfl⟩ := k_succ hk
    have hlt : i < l.length := by omega
    have e1 : wrap64 (((m + i : Nat) : Int) + 1) = ((m + (i + 1) : Nat) : Int) := by unfold wrap64; omega
    simp only [laws_heldIntS.l0]
    rw [if_pos (by omega), if_pos (by omega), if_pos (show rd l (i : Int) = _ from h i hlt), wrap_succ hlt (by omega), e1]
    exact ih k (i + 1) (by omega) (by omega)
theorem heldIntS_eq {m : Nat} (hm : m ≤ 100000000) {l : List Int} (hn : l.length ≤ 1048576) (h : ∀ j, j < l.length → l.getD j 0 = ((m + j : Nat) : Int)) {k : Nat} (hk : l.length < k) : laws_heldIntS.f k l (m : Int) = some ((m + l.length : Nat) : Int) := by
  unfold laws_heldIntS.f
  exact heldIntS_l0 hm hn h l.length k 0 (by omega) hk
/-- Rows that hold the numbers from m on, up to m'. -/
def HeldR : Nat → List (List Int) → Nat → Prop
  | m, [], m' => m = m'
  | m, r :: rs, m' => (∀ j, j < r.length → r.getD j 0 = ((m + j : Nat) : Int)) ∧ HeldR (m + r.length) rs m'
theorem heldR_append : ∀ (a b : List (List Int)) (m m1 m2 : Nat), HeldR m a m1 → HeldR m1 b m2 → HeldR m (a ++ b) m2
  | [], _, _, _, _, h, k => by
    have e : _ = _ := h
    subst e
    exact k
  | r :: a, b, m, m1, m2, h, k => ⟨h.1, heldR_append a b (m + r.length) m1 m2 h.2 k⟩
theorem markSS_l0 : ∀ (rest done : List (List Int)) (k m0 m : Nat), HeldR m0 done m → (∀ r ∈ rest, r.length ≤ 10) → done.length + rest.length ≤ 2000 → m + 10 * rest.length ≤ 100000 → rest.length + 12 < k →
    ∃ (m' : Nat) (rest' : List (List Int)), laws_markIntSS.l0 k (done ++ rest) (m : Int) (done.length : Int) = some ((m' : Int), done ++ rest') ∧ rest'.length = rest.length ∧ (∀ r ∈ rest', r.length ≤ 10) ∧ HeldR m0 (done ++ rest') m' ∧ m' ≤ 100000 := by
  intro rest
  induction rest with
  | nil =>
    intro done k m0 m hd hr hl hm hk
    obtain ⟨k, rfl⟩ := k_succ hk
    simp only [laws_markIntSS.l0]
    rw [List.append_nil, if_neg (by omega)]
    exact ⟨m, [], by rw [List.append_nil], rfl, by simp, by rw [List.append_nil]; exact hd, by omega⟩
  | cons r rest ih =>
    intro done k m0 m hd hr hl hm hk
    obtain ⟨k, rfl⟩ := k_succ hk
    have hr0 := hr r List.mem_cons_self
    simp only [List.length_cons] at hl hm hk
    have hlen : (done ++ r :: rest).length = done.length + (rest.length + 1) := by simp
    obtain ⟨r', e1, e2, e3⟩ := markIntS_eq (m := m) (by omega) (l := r) (by omega) (k := k) (by omega)
    have eg : (done ++ r :: rest).getD (done.length : Int).toNat [] = r := by
      rw [Int.toNat_natCast, List.getD_eq_getElem?_getD, List.getElem?_append_right (Nat.le_refl _), Nat.sub_self]
      rfl
    have es : (done ++ r :: rest).set (done.length : Int).toNat r' = (done ++ [r']) ++ rest := by
      rw [Int.toNat_natCast, List.set_append_right _ _ (Nat.le_refl _), Nat.sub_self, List.append_assoc]
      rfl
    simp only [laws_markIntSS.l0]
    rw [if_pos (by omega), if_pos (by omega), eg, e1, Option.bind_some]
    dsimp only
    rw [es, wrap_succ (n := (done ++ r :: rest).length) (by omega) (by omega)]
    have hd2 : HeldR m0 (done ++ [r']) (m + r.length) := heldR_append done [r'] m0 m _ hd ⟨by rw [e2]; exact e3, by rw [e2]; rfl⟩
    obtain ⟨m', rest', f1, f2, f3, f4, f5⟩ := ih (done ++ [r']) k m0 (m + r.length) hd2 (fun q hq => hr q (List.mem_cons_of_mem _ hq)) (by simp; omega) (by omega) (by omega)
    have hdl : (done ++ [r']).length = done.length + 1 := by simp
    rw [hdl] at f1
    refine ⟨m', r' :: rest', ?_, by simp [f2], ?_, ?_, f5⟩
    · rw [f1, List.append_assoc]
      rfl
    · intro q hq
      rcases List.mem_cons.1 hq with rfl | hq
      · omega
      · exact f3 q hq
    · rw [List.append_assoc] at f4
      exact f4
theorem heldSS_l0 {l : List (List Int)} (hn : l.length ≤ 2000) (hr : ∀ r ∈ l, r.length ≤ 10) : ∀ (d k i m m' : Nat), i + d = l.length → HeldR m (l.drop i) m' → m + 10 * d ≤ 100000 → d + 12 < k → laws_heldIntSS.l0 k l (m : Int) (i : Int) = some (m' : Int) := by
  intro d
  induction d with
  | zero =>
    intro k i m m' hi h hm hk
    obtain ⟨k, rfl⟩ := k_succ hk
    simp only [laws_heldIntSS.l0]
    rw [List.drop_of_length_le (by omega)] at h
    have e : m = m' := h
    rw [if_neg (by omega), e]
  | succ d ih =>
    intro k i m m' hi h hm hk
    obtain ⟨k, rfl⟩ := k_succ hk
    have hlt : i < l.length := by omega
    rw [getD_drop l i hlt []] at h
    have hr0 := hr _ (mem_getD hlt [])
    simp only [laws_heldIntSS.l0]
    rw [if_pos (by omega), if_pos (by omega), rd_row, heldIntS_eq (m := m) (by omega) (by omega) h.1 (by omega), Option.bind_some, if_neg (by omega), wrap_succ hlt (by omega)]
    exact ih k (i + 1) _ m' (by omega) h.2 (by omega) (by omega)
/-- Rows are marked, and then they hold the marks. -/
theorem markSS_eq {l : List (List Int)} (hn : l.length ≤ 2000) (hr : ∀ r ∈ l, r.length ≤ 10) {k : Nat} (hk : l.length + 20 < k) :
    ∃ (m : Nat) (l' : List (List Int)), laws_markIntSS.f k l 1 = some ((m : Int), l') ∧ laws_heldIntSS.f k l' 1 = some (m : Int) := by
  obtain ⟨m, l', e1, e2, e3, e4, e5⟩ := markSS_l0 l [] k 1 1 rfl hr (by simpa using hn) (by omega) (by omega)
  refine ⟨m, l', e1, ?_⟩
  exact heldSS_l0 (by omega) e3 l'.length k 0 1 m (by omega) e4 (by omega) (by omega)
/-- Eight people. -/
def eight : List Int := [0, 1, 2, 3, 4, 5, 6, 7]
theorem mem8 {a n : Int} (hn : n ≤ 7) (h : 0 ≤ a ∧ a ≤ n) : a ∈ eight := by
  simp [eight]
  omega
/-- What holds of all rising lists of one to four out of eight holds of each. -/
def all4 (p : List Int → Bool) : Bool :=
  (eight.all fun a => p [a]) && ((eight.all fun a => eight.all fun b => decide (b ≤ a) || p [a, b]) && ((eight.all fun a => eight.all fun b => decide (b ≤ a) || eight.all fun c => decide (c ≤ b) || p [a, b, c]) &&
    (eight.all fun a => eight.all fun b => decide (b ≤ a) || eight.all fun c => decide (c ≤ b) || eight.all fun d => decide (d ≤ c) || p [a, b, c, d])))
/-- A list of one to q people out of so many, rising. -/
def GT (n q : Int) (t : List Int) : Prop := (1 ≤ (t.length : Int) ∧ (t.length : Int) ≤ q) ∧ (∀ x ∈ t, 0 ≤ x ∧ x ≤ n) ∧ ∀ m : Nat, 1 ≤ m → m < t.length → rd t ((m : Int) - 1) < rd t (m : Int)
theorem all4_of {p : List Int → Bool} (hp : all4 p = true) {n q : Int} (hn : n ≤ 7) (hq : q ≤ 4) {t : List Int} (h : GT n q t) : p t = true := by
  obtain ⟨⟨h1, h2⟩, hx, hu⟩ := h
  unfold all4 at hp
  simp only [Bool.and_eq_true] at hp
  obtain ⟨p1, p2, p3, p4⟩ := hp
  match t, h1, h2, hx, hu with
  | [], h1, _, _, _ => simp at h1
  | [a], _, _, hx, _ =>
    exact List.all_eq_true.1 p1 a (mem8 hn (hx a (by simp)))
  | [a, b], _, _, hx, hu =>
    have u1 : a < b := hu 1 (by decide) (by simp)
    have h1 := List.all_eq_true.1 (List.all_eq_true.1 p2 a (mem8 hn (hx a (by simp)))) b (mem8 hn (hx b (by simp)))
    rw [decide_eq_false (by omega), Bool.false_or] at h1
    exact h1
  | [a, b, c], _, _, hx, hu =>
    have u1 : a < b := hu 1 (by decide) (by simp)
    have u2 : b < c := hu 2 (by decide) (by simp)
    have h1 := List.all_eq_true.1 (List.all_eq_true.1 p3 a (mem8 hn (hx a (by simp)))) b (mem8 hn (hx b (by simp)))
    rw [decide_eq_false (by omega), Bool.false_or] at h1
    have h2 := List.all_eq_true.1 h1 c (mem8 hn (hx c (by simp)))
    rw [decide_eq_false (by omega), Bool.false_or] at h2
    exact h2
  | [a, b, c, d], _, _, hx, hu =>
    have u1 : a < b := hu 1 (by decide) (by simp)
    have u2 : b < c := hu 2 (by decide) (by simp)
    have u3 : c < d := hu 3 (by decide) (by simp)
    have h1 := List.all_eq_true.1 (List.all_eq_true.1 p4 a (mem8 hn (hx a (by simp)))) b (mem8 hn (hx b (by simp)))
    rw [decide_eq_false (by omega), Bool.false_or] at h1
    have h2 := List.all_eq_true.1 h1 c (mem8 hn (hx c (by simp)))
    rw [decide_eq_false (by omega), Bool.false_or] at h2
    have h3 := List.all_eq_true.1 h2 d (mem8 hn (hx d (by simp)))
    rw [decide_eq_false (by omega), Bool.false_or] at h3
    exact h3
  | a :: b :: c :: d :: e :: r, _, h2, _, _ => simp at h2; omega
theorem l1Rising_l0 {t : List Int} (a b : Int) (hn : t.length ≤ 1048576) : ∀ (d k i : Nat), i + d = t.length → d < k → ∃ r, spec_l1Rising.l0 k t a b t (t.length : Int) (i : Int) = some r ∧ (r = true ↔ ∀ m : Nat, i ≤ m → m < t.length → (a ≤ rd t (m : Int) ∧ rd t (m : Int) ≤ b) ∧ (0 < m → rd t ((m : Int) - 1) < rd t (m : Int))) := by
  intro d
  induction d with
  | zero =>
    intro k i hi hk
    obtain ⟨k, rfl⟩ := k_succ hk
    simp only [spec_l1Rising.l0]
    rw [if_neg (by omega)]
    exact ⟨true, rfl, by simp only [true_iff]; intro m h1 h2; omega⟩
  | succ d ih =>
    intro k i hi hk
    obtain ⟨k, rfl⟩ := k_succ hk
    have hlt : i < t.length := by omega
    simp only [spec_l1Rising.l0]
    rw [if_pos (by omega), if_pos (by omega), if_pos (by omega), l1In_eq, Option.bind_some, wrap_succ hlt (by omega)]
    obtain ⟨r, hr, hri⟩ := ih k (i + 1) (by omega) (by omega)
    cases hb : inB (rd t (i : Int)) a b
    · rw [if_neg (by simp)]
      refine ⟨false, rfl, ?_⟩
      simp only [Bool.false_eq_true, false_iff]
      intro h
      have := (h i (Nat.le_refl _) hlt).1
      rw [← inB_true, hb] at this
      cases this
    · rw [if_pos rfl]
      rw [inB_true] at hb
      by_cases h0 : (i : Int) > 0
      · have hw : wrap64 ((i : Int) - 1) = (i : Int) - 1 := wrap_id (by omega) (by omega)
        rw [if_pos h0, hw, if_pos (by omega), if_pos (by omega)]
        by_cases hg : rd t ((i : Int) - 1) ≥ rd t (i : Int)
        · rw [if_pos hg]
          refine ⟨false, rfl, ?_⟩
          simp only [Bool.false_eq_true, false_iff]
          intro h
          have := (h i (Nat.le_refl _) hlt).2 (by omega)
          omega
        · rw [if_neg hg]
          refine ⟨r, hr, hri.trans ⟨fun h m h1 h2 => ?_, fun h m h1 h2 => h m (by omega) h2⟩⟩
          by_cases e : m = i
          · subst e
            exact ⟨hb, fun _ => by omega⟩
          · exact h m (by omega) h2
      · rw [if_neg h0]
        refine ⟨r, hr, hri.trans ⟨fun h m h1 h2 => ?_, fun h m h1 h2 => h m (by omega) h2⟩⟩
        by_cases e : m = i
        · subst e
          exact ⟨hb, fun _ => by omega⟩
        · exact h m (by omega) h2
theorem rises_l0 {t : List Int} (hn : t.length ≤ 1048576) : ∀ (d k i : Nat), 1 ≤ i → i + d = t.length ∨ (d = 0 ∧ t.length ≤ i) → d < k → ∃ r, impl_rises.l0 k t (i : Int) = some r ∧ (r = true ↔ ∀ m : Nat, i ≤ m → m < t.length → rd t ((m : Int) - 1) < rd t (m : Int)) := by
  intro d
  induction d with
  | zero =>
    intro k i _ hi hk
    obtain ⟨k, rfl⟩ := k_succ hk
    simp only [impl_rises.l0]
    rw [if_neg (by omega)]
    exact ⟨true, rfl, by simp only [true_iff]; intro m h1 h2; omega⟩
  | succ d ih =>
    intro k i h1 hi hk
    obtain ⟨k, rfl⟩ := k_succ hk
    have hlt : i < t.length := by omega
    have hw : wrap64 ((i : Int) - 1) = (i : Int) - 1 := wrap_id (by omega) (by omega)
    simp only [impl_rises.l0]
    rw [if_pos (by omega), if_pos (by omega), hw, if_pos (by omega), if_pos (by omega), wrap_succ hlt (by omega)]
    by_cases hg : rd t (i : Int) ≤ rd t ((i : Int) - 1)
    · rw [if_pos hg]
      refine ⟨false, rfl, ?_⟩
      simp only [Bool.false_eq_true, false_iff]
      intro h
      have := h i (Nat.le_refl _) hlt
      omega
    · rw [if_neg hg]
      obtain ⟨r, hr, hri⟩ := ih k (i + 1) (by omega) (by omega) (by omega)
      refine ⟨r, hr, hri.trans ⟨fun h m h2 h3 => ?_, fun h m h2 h3 => h m (by omega) h3⟩⟩
      by_cases e : m = i
      · subst e; omega
      · exact h m (by omega) h3
theorem mem_rd {t : List Int} {p : Int → Prop} : (∀ x ∈ t, p x) ↔ ∀ m : Nat, m < t.length → p (rd t (m : Int)) := by
  constructor
  · intro h m hm
    refine h _ ?_
    unfold rd
    rw [Int.toNat_natCast]
    exact mem_getD hm 0
  · intro h x hx
    obtain ⟨m, hm, rfl⟩ := List.mem_iff_getElem.1 hx
    have := h m hm
    unfold rd at this
    rw [Int.toNat_natCast, List.getD_eq_getElem?_getD, List.getElem?_eq_getElem hm] at this
    exact this
/-- The list's shape, as the model and as the program test it. -/
theorem shape_both {t : List Int} (hn : t.length ≤ 1048576) (n q : Int) {k : Nat} (hk : t.length + 1 < k) :
    (GT n q t ∧ inB (t.length : Int) 1 q = true ∧ spec_l1Rising.f k t 0 n = some true ∧ impl_areIn.f t 0 n 1 q = some true ∧ impl_rises.f k t = some true) ∨
    ((inB (t.length : Int) 1 q = false ∨ inB (t.length : Int) 1 q = true ∧ spec_l1Rising.f k t 0 n = some false) ∧ (impl_areIn.f t 0 n 1 q = some false ∨ impl_areIn.f t 0 n 1 q = some true ∧ impl_rises.f k t = some false)) := by
  rw [areIn_eq]
  cases h1 : inB (t.length : Int) 1 q
  · right
    exact ⟨.inl rfl, .inl rfl⟩
  · obtain ⟨r, hr, hri⟩ := l1Rising_l0 (t := t) 0 n hn t.length k 0 (by omega) (by omega)
    obtain ⟨s, hs, hsi⟩ := rises_l0 (t := t) hn (t.length - 1) k 1 (Nat.le_refl _) (by omega) (by omega)
    have hr' : spec_l1Rising.f k t 0 n = some r := hr
    have hs' : impl_rises.f k t = some s := hs
    rw [hr', hs']
    have ha : (t.all fun x => inB x 0 n) = true ↔ ∀ m : Nat, m < t.length → 0 ≤ rd t (m : Int) ∧ rd t (m : Int) ≤ n := by
      rw [← mem_rd (p := fun x => 0 ≤ x ∧ x ≤ n), List.all_eq_true]
      exact forall_congr' fun x => by rw [inB_true]
    rw [Bool.true_and]
    cases h2 : t.all fun x => inB x 0 n
    · right
      refine ⟨.inr ⟨rfl, ?_⟩, .inl rfl⟩
      cases r
      · rfl
      · have := hri.1 rfl
        have hc := ha.2 fun m hm => (this m (Nat.zero_le _) hm).1
        rw [h2] at hc
        cases hc
    · have h2' := ha.1 h2
      cases s
      · right
        refine ⟨.inr ⟨rfl, ?_⟩, .inr ⟨rfl, rfl⟩⟩
        cases r
        · rfl
        · have := hri.1 rfl
          have hc := hsi.2 fun m h1 hm => (this m (Nat.zero_le _) hm).2 (by omega)
          cases hc
      · left
        have h3 := hsi.1 rfl
        rw [inB_true] at h1
        refine ⟨⟨h1, (mem_rd (p := fun x => 0 ≤ x ∧ x ≤ n)).2 h2', fun m a b => h3 m a b⟩, rfl, ?_, rfl, rfl⟩
        rw [hri.2 fun m _ hm => ⟨h2' m hm, fun h => h3 m h hm⟩]
theorem two63 : (9223372036854775808 : Nat) = 2 ^ 63 := by decide
theorem bits_n {op : BinOp} {f : Nat → Nat → Nat} (hf : ∀ x y : Nat, x < 2 ^ 63 → y < 2 ^ 63 → Go.bits op .i64 (x : Int) (y : Int) = IntKind.i64.wrap ((f x y : Nat) : Int)) (hl : ∀ x y : Nat, x < 2 ^ 63 → y < 2 ^ 63 → f x y < 2 ^ 63) {a b : Nat} (ha : a < 9223372036854775808) (hb : b < 9223372036854775808) : Go.bits op .i64 (a : Int) (b : Int) = ((f a b : Nat) : Int) := by
  rw [two63] at ha hb
  have h := hl a b ha hb
  rw [hf a b ha hb, IntKind.wrap_i64]
  rw [← two63] at h
  omega
theorem ofInt64 {x : Nat} : BitVec.ofInt IntKind.i64.bits (x : Int) = BitVec.ofNat 64 x := BitVec.ofInt_natCast 64 x
theorem lt64 {x : Nat} (h : x < 2 ^ 63) : x % 2 ^ 64 = x := Nat.mod_eq_of_lt (Nat.lt_of_lt_of_le h (by decide))
theorem xor_n {a b : Nat} (ha : a < 9223372036854775808) (hb : b < 9223372036854775808) : Go.bits .xor .i64 (a : Int) (b : Int) = ((a ^^^ b : Nat) : Int) :=
  bits_n (f := fun x y => x ^^^ y) (fun x y hx hy => by
    unfold Go.bits
    rw [ofInt64, ofInt64]
    exact congrArg (fun z : Nat => IntKind.i64.wrap (z : Int)) (show (BitVec.ofNat 64 x ^^^ BitVec.ofNat 64 y).toNat = x ^^^ y by rw [BitVec.toNat_xor, BitVec.toNat_ofNat, BitVec.toNat_ofNat, lt64 hx, lt64 hy])) (fun x y hx hy => Nat.xor_lt_two_pow hx hy) ha hb
theorem and_n {a b : Nat} (ha : a < 9223372036854775808) (hb : b < 9223372036854775808) : Go.bits .and .i64 (a : Int) (b : Int) = ((a &&& b : Nat) : Int) :=
  bits_n (f := fun x y => x &&& y) (fun x y hx hy => by
    unfold Go.bits
    rw [ofInt64, ofInt64]
    exact congrArg (fun z : Nat => IntKind.i64.wrap (z : Int)) (show (BitVec.ofNat 64 x &&& BitVec.ofNat 64 y).toNat = x &&& y by rw [BitVec.toNat_and, BitVec.toNat_ofNat, BitVec.toNat_ofNat, lt64 hx, lt64 hy])) (fun x y hx hy => Nat.and_lt_two_pow _ hy) ha hb
theorem sub_iff {g h n : Nat} (hg : g < 2 ^ n) : g &&& h = g ↔ ∀ m, m < n → g.testBit m = true → h.testBit m = true := by
  constructor
  · intro e m _ hm
    rw [← e, Nat.testBit_and] at hm
    exact (Bool.and_eq_true _ _ ▸ hm).2
  · intro hh
    refine Nat.eq_of_testBit_eq fun m => ?_
    rw [Nat.testBit_and]
    cases e : g.testBit m
    · rfl
    · by_cases hm : m < n
      · rw [hh m hm e]; rfl
      · have := Nat.testBit_lt_two_pow (Nat.lt_of_lt_of_le hg (Nat.pow_le_pow_right (by decide) (by omega) : 2 ^ n ≤ 2 ^ m))
        rw [e] at this
        cases this
/-- The state with a number, so many people. -/
def stO (n code : Nat) : List Bool := (List.range n).map fun m => code.testBit (m + 1)
def stT (code : Nat) : Bool := code.testBit 0
theorem stO_len (n code : Nat) : (stO n code).length = n := by simp [stO]
theorem stO_get {n code m : Nat} (h : m < n) : (stO n code).getD m false = code.testBit (m + 1) := by
  unfold stO
  rw [List.getD_eq_getElem?_getD, List.getElem?_map, List.getElem?_range h]
  rfl
/-- The two sides of a state with a number, the state's number, the last one: as the program and as the model has them. -/
def chkS (c code : Nat) : Bool :=
  (match impl_State_isCalm.f 60 (stO (2 * c) code) (stT code) with
    | some b => decide (spec_cuQuiet.f 60 (c : Int) 1 (code : Int) = some b)
    | none => false) &&
  (match impl_State_code.f 60 (stO (2 * c) code) (stT code) with
    | some v => decide (some (v == ((2 * 4 ^ c - 1 : Nat) : Int)) = some (code == 2 * 4 ^ c - 1))
    | none => false)
theorem all_S : ([1, 2, 3, 4].all fun c => (List.range (2 * 4 ^ c)).all fun code => chkS c code) = true := by decide +kernel
/-- A group by its bits, calm or not. -/
def chkT (t : List Int) : Bool := match spec_cuBits.f 60 t with
  | some b => decide (0 < b) && decide (b < 256) && ((List.range 8).all fun m => b.toNat.testBit m == t.contains (m : Int)) && decide (spec_cuList.f 60 b = some t) &&
      match impl_calm.f 60 t with
      | some r => [1, 2, 3, 4].all fun c : Nat => decide ((4 ^ c : Nat) ≤ b) || decide (spec_cuCalm.f 60 (c : Int) b = some r)
      | none => false
  | none => false
theorem all_T : all4 chkT = true := by decide +kernel
theorem chkS_at {c code : Nat} (hc : 1 ≤ c ∧ c ≤ 4) (h : code < 2 * 4 ^ c) : chkS c code = true := by
  have h1 := List.all_eq_true.1 all_S c (by simp; omega)
  exact List.all_eq_true.1 h1 code (List.mem_range.2 h)
theorem quiet_both {c code : Nat} (hc : 1 ≤ c ∧ c ≤ 4) (h : code < 2 * 4 ^ c) (q : Int) : ∃ b, ∀ k, 60 ≤ k → impl_State_isCalm.f k (stO (2 * c) code) (stT code) = some b ∧ spec_cuQuiet.f k (c : Int) q (code : Int) = some b := by
  have hs := chkS_at hc h
  unfold chkS at hs
  rw [Bool.and_eq_true] at hs
  have h1 := hs.1
  cases e : impl_State_isCalm.f 60 (stO (2 * c) code) (stT code) with
  | none => rw [e] at h1; cases h1
  | some b =>
    rw [e] at h1
    exact ⟨b, fun k hk => ⟨at_rounds (fun k => impl_State_isCalm.mono _ _ k) hk e, at_rounds (fun k => spec_cuQuiet.mono _ _ _ k) hk (show spec_cuQuiet.f 60 (c : Int) q (code : Int) = some b from of_decide_eq_true h1)⟩⟩
theorem code_at {c code : Nat} (hc : 1 ≤ c ∧ c ≤ 4) (h : code < 2 * 4 ^ c) : ∃ v, (v == ((2 * 4 ^ c - 1 : Nat) : Int)) = (code == 2 * 4 ^ c - 1) ∧ ∀ k, 60 ≤ k → impl_State_code.f k (stO (2 * c) code) (stT code) = some v := by
  have hs := chkS_at hc h
  unfold chkS at hs
  rw [Bool.and_eq_true] at hs
  have h1 := hs.2
  cases e : impl_State_code.f 60 (stO (2 * c) code) (stT code) with
  | none => rw [e] at h1; cases h1
  | some v =>
    rw [e] at h1
    exact ⟨v, Option.some.inj (of_decide_eq_true h1), fun k hk => at_rounds (fun k => impl_State_code.mono _ _ k) hk e⟩
theorem pow4 (c : Nat) : 4 ^ c = 2 ^ (2 * c) := by rw [Nat.pow_mul]
/-- What is known of a group. -/
theorem group_at {n q : Int} (hn : n ≤ 7) (hq : q ≤ 4) {t : List Int} (h : GT n q t) :
    ∃ (B : Nat) (r : Bool), 0 < B ∧ B < 256 ∧ (∀ m : Nat, m < 8 → B.testBit m = t.contains (m : Int)) ∧ (∀ k, 60 ≤ k → spec_cuBits.f k t = some (B : Int) ∧ spec_cuList.f k (B : Int) = some t ∧ impl_calm.f k t = some r) ∧
      ∀ c : Nat, 1 ≤ c → c ≤ 4 → n ≤ 2 * c - 1 → B < 4 ^ c ∧ ∀ k, 60 ≤ k → spec_cuCalm.f k (c : Int) (B : Int) = some r := by
  have hp := all4_of all_T hn hq h
  unfold chkT at hp
  cases e : spec_cuBits.f 60 t with
  | none => rw [e] at hp; cases hp
  | some b =>
    rw [e] at hp
    simp only [Bool.and_eq_true, decide_eq_true_eq] at hp
    obtain ⟨⟨⟨⟨h1, h2⟩, h3⟩, h4⟩, h5⟩ := hp
    cases e2 : impl_calm.f 60 t with
    | none => rw [e2] at h5; cases h5
    | some r =>
      rw [e2] at h5
      have eb : ((b.toNat : Nat) : Int) = b := by omega
      have hb : ∀ m : Nat, m < 8 → b.toNat.testBit m = t.contains (m : Int) := fun m hm => by
        have := List.all_eq_true.1 h3 m (List.mem_range.2 hm)
        exact eq_of_beq this
      refine ⟨b.toNat, r, by omega, by omega, hb, fun k hk => ⟨?_, ?_, at_rounds (fun k => impl_calm.mono _ k) hk e2⟩, fun c c1 c4 hnc => ?_⟩
      · rw [eb]; exact at_rounds (fun k => spec_cuBits.mono _ k) hk e
      · rw [eb]; exact at_rounds (fun k => spec_cuList.mono _ k) hk h4
      · have hlt : b.toNat < 4 ^ c := by
          rw [pow4]
          refine Nat.lt_pow_two_of_testBit _ fun i hi => ?_
          by_cases h8 : i < 8
          · rw [hb i h8, ← Bool.not_eq_true, List.contains_iff_mem]
            intro hm
            have := h.2.1 _ hm
            omega
          · refine Nat.testBit_lt_two_pow (Nat.lt_of_lt_of_le (show b.toNat < 2 ^ 8 by omega) (Nat.pow_le_pow_right (by decide) (by omega)))
        refine ⟨hlt, fun k hk => ?_⟩
        have h6 := List.all_eq_true.1 h5 c (by simp; omega)
        rw [Bool.or_eq_true, decide_eq_true_eq, decide_eq_true_eq] at h6
        rcases h6 with h6 | h6
        · omega
        · rw [eb]; exact at_rounds (fun k => spec_cuCalm.mono _ _ k) hk h6
theorem anyO_at {α : Type} {p : α → Option Bool} {f : α → Bool} : ∀ {l : List α}, (∀ x ∈ l, p x = some (f x)) → anyO p l = some (l.any f)
  | [], _ => rfl
  | x :: l, h => by
    simp only [anyO, h x (List.mem_cons_self ..), Option.bind_some, List.any_cons]
    rw [anyO_at (l := l) (fun y hy => h y (List.mem_cons_of_mem _ hy))]
    cases f x <;> simp
theorem are_at {o : List Bool} (a v : Bool) {t : List Int} (h : ∀ x ∈ t, 0 ≤ x ∧ x < (o.length : Int)) : impl_State_are.f o a t v = some (!(t.any fun x => rdOf false o x != v)) := by
  unfold impl_State_are.f
  rw [anyO_at (f := fun x => rdOf false o x != v) (fun x hx => by rw [if_pos (h x hx).1, if_pos (h x hx).2]), Option.bind_some]
theorem moved_l0 {t : List Int} (v : Bool) (hn : t.length ≤ 1048576) : ∀ (d k i : Nat) (o : List Bool), i + d = t.length → (∀ x ∈ t, 0 ≤ x ∧ x < (o.length : Int)) → d < k → impl_State_moved.l0 k t (t.length : Int) (i : Int) o v = some ((t.drop i).foldl (fun o x => o.set x.toNat v) o, v) := by
  intro d
  induction d with
  | zero =>
    intro k i o hi h hk
    obtain ⟨k, rfl⟩ := k_succ hk
    simp only [impl_State_moved.l0]
    rw [if_neg (by omega), List.drop_of_length_le (by omega)]
    rfl
  | succ d ih =>
    intro k i o hi h hk
    obtain ⟨k, rfl⟩ := k_succ hk
    have hlt : i < t.length := by omega
    have hx := h _ (mem_getD hlt 0)
    have er : rd t (i : Int) = t.getD i 0 := by unfold rd; rw [Int.toNat_natCast]
    simp only [impl_State_moved.l0]
    rw [if_pos (by omega), if_pos (by omega), if_pos (by omega), er, if_pos hx.1, if_pos hx.2, wrap_succ hlt (by omega), ih k (i + 1) _ (by omega) (by rw [List.length_set]; exact h) (by omega), getD_drop t i hlt 0, List.foldl_cons]
theorem foldSet_len (v : Bool) : ∀ (t : List Int) (o : List Bool), (t.foldl (fun o x => o.set x.toNat v) o).length = o.length
  | [], _ => rfl
  | x :: t, o => by rw [List.foldl_cons, foldSet_len v t, List.length_set]
theorem foldSet_get (v : Bool) : ∀ (t : List Int) (o : List Bool) (m : Nat), m < o.length → (∀ x ∈ t, 0 ≤ x) → (t.foldl (fun o x => o.set x.toNat v) o).getD m false = if t.contains (m : Int) then v else o.getD m false
  | [], _, _, _, _ => rfl
  | x :: t, o, m, hm, h => by
    rw [List.foldl_cons, foldSet_get v t _ m (by rw [List.length_set]; exact hm) (fun y hy => h y (List.mem_cons_of_mem _ hy)), List.contains_cons]
    have h0 := h x List.mem_cons_self
    by_cases e : (m : Int) = x
    · subst e
      rw [Int.toNat_natCast, List.getD_eq_getElem?_getD, List.getElem?_set_self hm]
      simp
    · have e2 : ((m : Int) == x) = false := beq_eq_false_iff_ne.mpr e
      rw [e2, Bool.false_or, List.getD_eq_getElem?_getD, List.getElem?_set_ne (by omega), ← List.getD_eq_getElem?_getD]
theorem size_at {c : Nat} (hc : 1 ≤ c ∧ c ≤ 4) (q : Int) : spec_cuSize.f (c : Int) q = some ((4 ^ c : Nat) : Int) := by
  have e : spec_cuSize.f (c : Int) q = spec_cuSize.f (c : Int) 1 := rfl
  rw [e]
  have : c = 1 ∨ c = 2 ∨ c = 3 ∨ c = 4 := by omega
  rcases this with rfl | rfl | rfl | rfl <;> decide +kernel
theorem tmod_n (a b : Nat) : Int.tmod (a : Int) (b : Int) = ((a % b : Nat) : Int) := rfl
theorem tdiv_n (a b : Nat) : Int.tdiv (a : Int) (b : Int) = ((a / b : Nat) : Int) := rfl
theorem here_sub {P code : Nat} (hp : 1 ≤ P ∧ P ≤ 256) (h : code < 2 * P) : wrap64 (wrap64 ((P : Int) - 1) - ((code / 2 : Nat) : Int)) = ((P - 1 - code / 2 : Nat) : Int) := by
  rw [wrap_id (n := (P : Int) - 1) (by omega) (by omega), wrap_id (by omega) (by omega)]
  omega
theorem pow_le {c : Nat} (hc : 1 ≤ c ∧ c ≤ 4) : 1 ≤ 4 ^ c ∧ 4 ^ c ≤ 256 := by
  have : c = 1 ∨ c = 2 ∨ c = 3 ∨ c = 4 := by omega
  rcases this with rfl | rfl | rfl | rfl <;> decide
/-- Who is where the torch is. -/
def hereN (c code : Nat) : Nat := if code % 2 = 0 then 4 ^ c - 1 - code / 2 else code / 2
theorem here_bit {c code m : Nat} (h : code < 2 * 4 ^ c) (hm : m < 2 * c) : (hereN c code).testBit m = (code.testBit (m + 1) == stT code) := by
  unfold hereN stT
  rw [Nat.testBit_zero, Nat.testBit_add_one]
  by_cases e : code % 2 = 0
  · rw [if_pos e, show 4 ^ c - 1 - code / 2 = 4 ^ c - (code / 2 + 1) by omega, pow4, Nat.testBit_two_pow_sub_succ (by rw [← pow4]; omega), decide_eq_true hm, decide_eq_false (by omega)]
    cases (code / 2).testBit m <;> rfl
  · rw [if_neg e, decide_eq_true (by omega)]
    cases (code / 2).testBit m <;> rfl
/-- A group that is a row, or not: the model and the program say the same, and go on alike. -/
theorem row_both {c code : Nat} (hc : 1 ≤ c ∧ c ≤ 4) (h : code < 2 * 4 ^ c) {q : Int} (hq : 1 ≤ q ∧ q ≤ 4) {t : List Int} (ht : t.length ≤ 1048576) {k : Nat} (hk : t.length + 100 < k) :
    ∃ b, spec_cuTrip.f k (c : Int) q (code : Int) t = some b ∧ impl_Company_isRow.f k (c : Int) q (stO (2 * c) code) (stT code) t = some b ∧
      (b = true → GT (2 * c - 1) q t ∧ ∃ B : Nat, B < 4 ^ c ∧ spec_cuBits.f k t = some (B : Int) ∧ Go.bits .xor .i64 (code : Int) (wrap64 (wrap64 (2 * (B : Int)) + 1)) = ((code ^^^ (2 * B + 1) : Nat) : Int) ∧ code ^^^ (2 * B + 1) < 2 * 4 ^ c ∧
        impl_State_moved.f k (stO (2 * c) code) (stT code) t = some (stO (2 * c) (code ^^^ (2 * B + 1)), stT (code ^^^ (2 * B + 1)))) := by
  have hp := pow_le hc
  have hw : wrap64 (wrap64 (2 * (c : Int)) - 1) = 2 * (c : Int) - 1 := by rw [wrap_id (n := 2 * (c : Int)) (by omega) (by omega), wrap_id (by omega) (by omega)]
  unfold spec_cuTrip.f impl_Company_isRow.f
  rw [hw, l1In_eq, Option.bind_some]
  rcases shape_both ht (2 * (c : Int) - 1) q (k := k) (by omega) with ⟨hG, e1, e2, e3, e4⟩ | ⟨hs, hi⟩
  rotate_left
  · refine ⟨false, ?_, ?_, fun h => by cases h⟩
    · rcases hs with e | ⟨e, e'⟩
      · rw [e]; rfl
      · rw [e, if_pos rfl, e']; rfl
    · rcases hi with e | ⟨e, e'⟩
      · rw [e]; rfl
      · rw [e, Option.bind_some, if_pos rfl, e']; rfl
  obtain ⟨B, r, hB0, hB8, hbit, hf, hcc⟩ := group_at (by omega) hq.2 hG
  obtain ⟨hBc, hcalm⟩ := hcc c hc.1 hc.2 (Int.le_refl _)
  obtain ⟨fb, fl, fc⟩ := hf k (by omega)
  have hxx := hG.2.1
  have hr : ∀ x ∈ t, 0 ≤ x ∧ x < ((stO (2 * c) code).length : Int) := fun x hx => by
    have := hxx x hx
    rw [stO_len]
    omega
  have hcode' : code ^^^ (2 * B + 1) < 2 * 4 ^ c := by
    have e : 2 * 4 ^ c = 2 ^ (2 * c + 1) := by rw [Nat.pow_succ, pow4, Nat.mul_comm]
    rw [e] at h ⊢
    exact Nat.xor_lt_two_pow h (by rw [← e]; omega)
  have hxor : Go.bits .xor .i64 (code : Int) (wrap64 (wrap64 (2 * (B : Int)) + 1)) = ((code ^^^ (2 * B + 1) : Nat) : Int) := by
    rw [wrap_id (n := 2 * (B : Int)) (by omega) (by omega), wrap_id (by omega) (by omega), ← xor_n (by omega) (by omega)]
    rfl
  have hmv : impl_State_moved.f k (stO (2 * c) code) (stT code) t = some (t.foldl (fun o x => o.set x.toNat (!stT code)) (stO (2 * c) code), !stT code) := by
    unfold impl_State_moved.f slices_Clone_bool_bool.f
    rw [if_pos (by rw [stO_len]; omega), Option.bind_some, show (0 : Int) = ((0 : Nat) : Int) by rfl, moved_l0 (!stT code) ht t.length k 0 _ (by omega) hr (by omega), List.drop_zero]
  have hkey : Go.bits .and .i64 (B : Int) ((hereN c code : Nat) : Int) = (B : Int) ↔ (t.any fun x => rdOf false (stO (2 * c) code) x != stT code) = false := by
    have hh : hereN c code < 9223372036854775808 := by unfold hereN; split <;> omega
    rw [and_n (by omega) hh, Int.ofNat_inj, sub_iff (n := 2 * c) (by rw [← pow4]; exact hBc), List.any_eq_false]
    constructor
    · intro hm x hx
      have h2 := hxx x hx
      have h3 := hm x.toNat (by omega) (by rw [hbit x.toNat (by omega), List.contains_iff_mem, Int.toNat_of_nonneg h2.1]; exact hx)
      rw [here_bit h (by omega)] at h3
      unfold rdOf
      rw [stO_get (by omega), eq_of_beq h3]
      simp
    · intro hm m h2 h3
      rw [hbit m (by omega), List.contains_iff_mem] at h3
      have h4 := hm _ h3
      unfold rdOf at h4
      rw [Int.toNat_natCast, stO_get h2] at h4
      rw [here_bit h h2]
      simpa using h4
  have hcan : spec_cuCan.f k (c : Int) q (code : Int) (B : Int) = spec_cuCan.j0 k (code : Int) (B : Int) ((hereN c code : Nat) : Int) (c : Int) q := by
    unfold spec_cuCan.f hereN
    have hcl : code < 512 := by omega
    have et : Int.tmod (code : Int) 2 = ((code % 2 : Nat) : Int) := tmod_n code 2
    have ed : wrap64 (Int.tdiv (code : Int) 2) = ((code / 2 : Nat) : Int) := by
      rw [show Int.tdiv (code : Int) 2 = ((code / 2 : Nat) : Int) from tdiv_n code 2]
      clear hp h
      exact wrap_id (by omega) (by omega)
    rw [et, ed]
    by_cases e : code % 2 = 0
    · rw [if_pos (by rw [e]; rfl), if_pos e, size_at hc, Option.bind_some, here_sub hp h]
    · rw [if_neg (by intro h2; exact e (Int.ofNat_inj.1 h2)), if_neg e]
  obtain ⟨qb, hqb⟩ := quiet_both hc hcode' q
  obtain ⟨q1, -⟩ := hqb k (by omega)
  have are := are_at (o := stO (2 * c) code) (stT code) (stT code) hr
  rw [e1, if_pos rfl, e2, Option.bind_some, if_pos rfl, fb, Option.bind_some, hcan, e3, Option.bind_some, if_pos rfl, e4, Option.bind_some, if_pos rfl, are, Option.bind_some, fc, hmv]
  obtain ⟨k', rfl⟩ := k_succ (show 0 < k by omega)
  obtain ⟨-, fl', -⟩ := hf k' (by omega)
  simp only [spec_cuCan.j0]
  rw [if_neg (by omega), fl', hcalm k' (by omega), hxor]
  simp only [Option.bind_some]
  rw [(hqb k' (by omega)).2]
  cases ha : t.any fun x => rdOf false (stO (2 * c) code) x != stT code
  rotate_left
  · rw [if_neg (fun e => by rw [hkey.1 e] at ha; cases ha)]
    exact ⟨false, rfl, rfl, fun h => by cases h⟩
  have hst : (t.foldl (fun o x => o.set x.toNat (!stT code)) (stO (2 * c) code), !stT code) = (stO (2 * c) (code ^^^ (2 * B + 1)), stT (code ^^^ (2 * B + 1))) := by
    have eT : stT (code ^^^ (2 * B + 1)) = !stT code := by
      unfold stT
      rw [Nat.testBit_xor, Nat.testBit_zero (2 * B + 1), decide_eq_true (by omega), Bool.xor_true]
    rw [eT]
    refine Prod.ext ?_ rfl
    refine List.ext_getElem (by rw [foldSet_len, stO_len, stO_len]) fun m h1 h2 => ?_
    rw [stO_len] at h2
    have g1 := foldSet_get (!stT code) t (stO (2 * c) code) m (by rw [stO_len]; exact h2) (fun x hx => (hxx x hx).1)
    have g2 := stO_get (code := code ^^^ (2 * B + 1)) h2
    rw [List.getD_eq_getElem?_getD, List.getElem?_eq_getElem h1, Option.getD_some] at g1
    rw [List.getD_eq_getElem?_getD, List.getElem?_eq_getElem (by rw [stO_len]; exact h2), Option.getD_some] at g2
    rw [g1, g2, stO_get h2, Nat.testBit_xor, Nat.testBit_add_one (2 * B + 1), show (2 * B + 1) / 2 = B by omega, hbit m (by omega)]
    cases hm : t.contains (m : Int)
    · simp
    · rw [if_pos rfl, Bool.xor_true]
      have h4 := List.any_eq_false.1 ha _ (List.contains_iff_mem.1 hm)
      unfold rdOf at h4
      rw [Int.toNat_natCast, stO_get h2] at h4
      simp at h4
      rw [h4]
  rw [if_pos (hkey.2 ha), if_neg (by have := hG.1.2; omega), hst]
  cases r
  · exact ⟨false, rfl, rfl, fun h => by cases h⟩
  · simp only [Bool.not_false, if_true, Option.bind_some]
    have hs1 : t.foldl (fun o x => o.set x.toNat (!stT code)) (stO (2 * c) code) = stO (2 * c) (code ^^^ (2 * B + 1)) := congrArg Prod.fst hst
    have hs2 : (!stT code) = stT (code ^^^ (2 * B + 1)) := congrArg Prod.snd hst
    rw [hs1, hs2, q1]
    exact ⟨qb, rfl, rfl, fun _ => ⟨hG, B, hBc, rfl, hxor, hcode', rfl⟩⟩
theorem plan_l0 {c : Nat} (hc : 1 ≤ c ∧ c ≤ 4) {q : Int} (hq : 1 ≤ q ∧ q ≤ 4) {X : List (List Int)} (hn : X.length ≤ 1048576) (hX : ∀ x ∈ X, x.length ≤ 1048576) : ∀ (d k i code : Nat), i + d = X.length → code < 2 * 4 ^ c → d + 1048700 < k →
    ∃ b, spec_cuPlan.l0 k (code : Int) X (X.length : Int) (i : Int) (c : Int) q = some b ∧ impl_Company_isCalmPlan.l0 k X (X.length : Int) (i : Int) (c : Int) q (stO (2 * c) code) (stT code) = some b ∧ (b = true → ∀ t ∈ X.drop i, GT (2 * c - 1) q t) := by
  intro d
  induction d with
  | zero =>
    intro k i code hi hcode hk
    obtain ⟨k, rfl⟩ := k_succ hk
    have hp := pow_le hc
    have hw : wrap64 (2 * (c : Int)) = 2 * (c : Int) := wrap_id (by omega) (by omega)
    have hl : impl_last.f (2 * (c : Int)) = some ((2 * 4 ^ c - 1 : Nat) : Int) := by
      have : c = 1 ∨ c = 2 ∨ c = 3 ∨ c = 4 := by omega
      rcases this with rfl | rfl | rfl | rfl <;> decide +kernel
    obtain ⟨v, hv, hvk⟩ := code_at hc hcode
    have ew : wrap64 (wrap64 (2 * ((4 ^ c : Nat) : Int)) - 1) = ((2 * 4 ^ c - 1 : Nat) : Int) := by
      rw [wrap_id (n := 2 * ((4 ^ c : Nat) : Int)) (by omega) (by omega), wrap_id (by omega) (by omega)]
      omega
    have ec : ((code : Int) == ((2 * 4 ^ c - 1 : Nat) : Int)) = (code == 2 * 4 ^ c - 1) := by
      rw [Bool.eq_iff_iff, beq_iff_eq, beq_iff_eq, Int.ofNat_inj]
    simp only [spec_cuPlan.l0, impl_Company_isCalmPlan.l0]
    rw [if_neg (by omega), if_neg (by omega), size_at hc, Option.bind_some, ew, hvk k (by omega), Option.bind_some, hw, hl, Option.bind_some, ec, hv, List.drop_of_length_le (by omega)]
    exact ⟨_, rfl, rfl, fun _ t ht => by cases ht⟩
  | succ d ih =>
    intro k i code hi hcode hk
    obtain ⟨k, rfl⟩ := k_succ hk
    have hlt : i < X.length := by omega
    obtain ⟨b, h1, h2, h3⟩ := row_both hc hcode hq (hX _ (mem_getD hlt [])) (k := k) (by have := hX _ (mem_getD hlt []); omega)
    simp only [spec_cuPlan.l0, impl_Company_isCalmPlan.l0, rd_row]
    rw [if_pos (by omega), if_pos (by omega), if_pos (by omega), if_pos (by omega), if_pos (by omega), if_pos (by omega), h1, h2, Option.bind_some, Option.bind_some]
    cases b
    · rw [if_neg (by simp), if_neg (by simp)]
      exact ⟨false, rfl, rfl, fun h => by cases h⟩
    · obtain ⟨hG, B, -, e1, e2, e3, e4⟩ := h3 rfl
      rw [if_pos rfl, if_pos rfl, e1, e4, Option.bind_some, Option.bind_some, e2, wrap_succ hlt (by omega)]
      obtain ⟨b, g1, g2, g3⟩ := ih k (i + 1) _ (by omega) e3 (by omega)
      refine ⟨b, g1, g2, fun hb => ?_⟩
      rw [getD_drop X i hlt []]
      intro t ht
      rcases List.mem_cons.1 ht with rfl | ht
      · exact hG
      · exact g3 hb t ht
theorem plan_both {c : Nat} (hc : 1 ≤ c ∧ c ≤ 4) {q : Int} (hq : 1 ≤ q ∧ q ≤ 4) {X : List (List Int)} (hn : X.length ≤ 1048576) (hX : ∀ x ∈ X, x.length ≤ 1048576) {k : Nat} (hk : X.length + 1048700 < k) :
    ∃ b, spec_cuPlan.f k (c : Int) q X = some b ∧ impl_Company_isCalmPlan.f k (c : Int) q X = some b ∧ (b = true → ∀ t ∈ X, GT (2 * c - 1) q t) := by
  have hp := pow_le hc
  obtain ⟨b, h1, h2, h3⟩ := plan_l0 hc hq hn hX X.length k 0 0 (by omega) (by omega) (by omega)
  refine ⟨b, h1, ?_, fun hb => by have := h3 hb; rwa [List.drop_zero] at this⟩
  have hw : wrap64 (2 * (c : Int)) = 2 * (c : Int) := wrap_id (by omega) (by omega)
  have ha : impl_allAt.f (2 * (c : Int)) false = some (stO (2 * c) 0, stT 0) := by
    have : c = 1 ∨ c = 2 ∨ c = 3 ∨ c = 4 := by omega
    rcases this with rfl | rfl | rfl | rfl <;> decide +kernel
  unfold impl_Company_isCalmPlan.f
  rw [hw, ha, Option.bind_some]
  exact h2
/-- The model's person, the couples taken for each other. -/
def swY (i j x : Int) : Int := if wrap64 (Int.tdiv x 2) = i then wrap64 (wrap64 (2 * j) + Int.tmod x 2) else if wrap64 (Int.tdiv x 2) = j then wrap64 (wrap64 (2 * i) + Int.tmod x 2) else wrap64 (wrap64 (2 * wrap64 (Int.tdiv x 2)) + Int.tmod x 2)
def orI (i j g x : Int) : Int := Go.bits .or .i64 g (shl .i64 1 (swY i j x))
def upI : List Int → Bool
  | [] => true
  | x :: l => (l.all fun y => decide (x ≤ y)) && upI l
theorem upI_pw : ∀ {l : List Int}, upI l = true → l.Pairwise (· ≤ ·)
  | [], _ => List.Pairwise.nil
  | x :: l, h => by
    unfold upI at h
    rw [Bool.and_eq_true] at h
    exact List.Pairwise.cons (fun y hy => of_decide_eq_true (List.all_eq_true.1 h.1 y hy)) (upI_pw h.2)
def chkW (i j : Int) (t : List Int) : Bool := match spec_cuList.f 60 (t.foldl (orI i j) 0) with
  | some L => (t.all fun x => decide (0 ≤ swY i j x)) && (upI L && L.isPerm (t.map (swX i j)))
  | none => false
theorem all_W : (([0, 1, 2, 3] : List Int).all fun i => ([0, 1, 2, 3] : List Int).all fun j => all4 (chkW i j)) = true := by decide +kernel
theorem swap_at {c : Nat} (hc : 1 ≤ c ∧ c ≤ 4) {q : Int} (hq : 1 ≤ q ∧ q ≤ 4) {i j : Int} (hi : 0 ≤ i ∧ i ≤ c - 1) (hj : 0 ≤ j ∧ j ≤ c - 1) {t : List Int} (h : GT (2 * c - 1) q t) :
    (∀ x ∈ t, 0 ≤ swY i j x) ∧ ∀ k, 60 ≤ k → spec_cuList.f k (t.foldl (orI i j) 0) = some (swS i j t) := by
  have h1 := List.all_eq_true.1 (List.all_eq_true.1 all_W i (by simp; omega)) j (by simp; omega)
  have hp := all4_of h1 (by omega) hq.2 h
  unfold chkW at hp
  cases e : spec_cuList.f 60 (t.foldl (orI i j) 0) with
  | none => rw [e] at hp; cases hp
  | some L =>
    rw [e] at hp
    simp only [Bool.and_eq_true] at hp
    obtain ⟨p1, p2, p3⟩ := hp
    refine ⟨fun x hx => of_decide_eq_true (List.all_eq_true.1 p1 x hx), fun k hk => ?_⟩
    have e2 : swS i j t = L := by
      unfold swS
      have w1 : ((t.map (swX i j)).mergeSort fun x y => decide (x ≤ y)).Pairwise (· ≤ ·) := by
        refine (List.pairwise_mergeSort (le := fun x y : Int => decide (x ≤ y)) (fun a b c h1 h2 => ?_) (fun a b => ?_) _).imp fun h => of_decide_eq_true h
        · have := of_decide_eq_true h1; have := of_decide_eq_true h2; exact decide_eq_true (by omega)
        · rcases Int.le_total a b with h | h
          · rw [decide_eq_true h]; rfl
          · rw [decide_eq_true h, Bool.or_true]
      exact List.Perm.eq_of_pairwise (le := fun a b : Int => a ≤ b) (fun a b _ _ h1 h2 => Int.le_antisymm h1 h2) w1 (upI_pw p2) ((List.mergeSort_perm _ _).trans (List.isPerm_iff.1 p3).symm)
    rw [e2]
    exact at_rounds (fun k => spec_cuList.mono _ k) hk e
theorem swap_l1 {i j : Int} {t : List Int} (hn : t.length ≤ 1048576) (h : ∀ x ∈ t, 0 ≤ swY i j x) (out X : List (List Int)) (n m : Int) : ∀ (d k e : Nat) (g : Int), e + d = t.length → d < k →
    spec_SwapCouples.l1 k i j out g X n m t (t.length : Int) (e : Int) = (spec_cuList.f (k - d - 1) ((t.drop e).foldl (orI i j) g)).bind fun L => if out.length < 5864062014805 then spec_SwapCouples.l0 (k - d - 1) i j (out ++ [L]) X n (wrap64 (m + 1)) else none := by
  intro d
  induction d with
  | zero =>
    intro k e g he hk
    obtain ⟨k, rfl⟩ := k_succ hk
    simp only [spec_SwapCouples.l1]
    rw [if_neg (by omega), List.drop_of_length_le (by omega)]
    rfl
  | succ d ih =>
    intro k e g he hk
    obtain ⟨k, rfl⟩ := k_succ hk
    have hlt : e < t.length := by omega
    have h0 := h _ (mem_getD hlt 0)
    have er : rd t (e : Int) = t.getD e 0 := by unfold rd; rw [Int.toNat_natCast]
    have hstep : spec_SwapCouples.l1 (k + 1) i j out g X n m t (t.length : Int) (e : Int) = spec_SwapCouples.l1 k i j out (orI i j g (t.getD e 0)) X n m t (t.length : Int) (((e + 1 : Nat)) : Int) := by
      simp only [spec_SwapCouples.l1]
      rw [if_pos (by omega), if_pos (by omega), if_pos (by omega), er, wrap_succ hlt (by omega)]
      unfold orI
      unfold swY at h0 ⊢
      by_cases c1 : wrap64 (Int.tdiv (t.getD e 0) 2) = i
      · rw [if_pos c1] at h0 ⊢
        rw [if_pos h0, if_pos c1]
      · rw [if_neg c1] at h0 ⊢
        by_cases c2 : wrap64 (Int.tdiv (t.getD e 0) 2) = j
        · rw [if_pos c2] at h0 ⊢
          rw [if_pos h0, if_neg c1, if_pos c2]
        · rw [if_neg c2] at h0 ⊢
          rw [if_pos h0, if_neg c1, if_neg c2]
    rw [hstep, ih k (e + 1) _ (by omega) (by omega), getD_drop t e hlt 0, List.foldl_cons, show k + 1 - (d + 1) - 1 = k - d - 1 by omega]
theorem swap_l0 {c : Nat} (hc : 1 ≤ c ∧ c ≤ 4) {q : Int} (hq : 1 ≤ q ∧ q ≤ 4) {i j : Int} (hi : 0 ≤ i ∧ i ≤ c - 1) (hj : 0 ≤ j ∧ j ≤ c - 1) {X : List (List Int)} (hn : X.length ≤ 40) (hX : ∀ t ∈ X, GT (2 * c - 1) q t) :
    ∀ (d k e : Nat) (out : List (List Int)), e + d = X.length → out.length ≤ e → d * 10 + 100 < k → spec_SwapCouples.l0 k i j out X (X.length : Int) (e : Int) = some (out ++ (X.drop e).map (swS i j), true) := by
  intro d
  induction d with
  | zero =>
    intro k e out he ho hk
    obtain ⟨k, rfl⟩ := k_succ hk
    simp only [spec_SwapCouples.l0]
    rw [if_neg (by omega), List.drop_of_length_le (by omega), List.map_nil, List.append_nil]
  | succ d ih =>
    intro k e out he ho hk
    obtain ⟨k, rfl⟩ := k_succ hk
    have hlt : e < X.length := by omega
    have hG := hX _ (mem_getD hlt [])
    have hl := hG.1.2
    obtain ⟨g1, g2⟩ := swap_at hc hq hi hj hG
    have hl1 := swap_l1 (i := i) (j := j) (t := X.getD e []) (by omega) g1 out X (X.length : Int) (e : Int) (X.getD e []).length k 0 0 (by omega) (by omega)
    rw [List.drop_zero, g2 _ (by omega), Option.bind_some, if_pos (by omega), wrap_succ hlt (by omega), ih _ (e + 1) _ (by omega) (by simp; omega) (by omega)] at hl1
    simp only [spec_SwapCouples.l0, rd_row]
    rw [if_pos (by omega), if_pos (by omega), if_pos (by omega), getD_drop X e hlt [], List.map_cons]
    refine Eq.trans hl1 ?_
    rw [List.append_assoc]
    rfl
theorem clone_l0 {X : List (List Int)} (hn : X.length ≤ 1048576) (hX : ∀ t ∈ X, t.length ≤ 1048576) : ∀ (d k e : Nat) (out : List (List Int)), e + d = X.length → out.length ≤ e → d < k → impl_cloneLists.l0 k out X (X.length : Int) (e : Int) = some (out ++ X.drop e) := by
  intro d
  induction d with
  | zero =>
    intro k e out he ho hk
    obtain ⟨k, rfl⟩ := k_succ hk
    simp only [impl_cloneLists.l0]
    rw [if_neg (by omega), List.drop_of_length_le (by omega), List.append_nil]
  | succ d ih =>
    intro k e out he ho hk
    obtain ⟨k, rfl⟩ := k_succ hk
    have hlt : e < X.length := by omega
    have hl := hX _ (mem_getD hlt [])
    simp only [impl_cloneLists.l0, rd_row, slices_Clone_int_int.f]
    rw [if_pos (by omega), if_pos (by omega), if_pos (by omega), if_pos (by omega), Option.bind_some, if_pos (by omega), wrap_succ hlt (by omega), ih k (e + 1) _ (by omega) (by simp; omega) (by omega), getD_drop X e hlt [], List.append_assoc]
    rfl
theorem clone_eq {X : List (List Int)} (hn : X.length ≤ 1048576) (hX : ∀ t ∈ X, t.length ≤ 1048576) {k : Nat} (hk : X.length < k) : impl_cloneLists.f k X = some X := by
  unfold impl_cloneLists.f
  rw [show (0 : Int) = ((0 : Nat) : Int) by rfl, clone_l0 hn hX X.length k 0 [] (by omega) (Nat.le_refl _) hk, List.drop_zero, List.nil_append]
theorem swS_len (i j : Int) (t : List Int) : (swS i j t).length = t.length := by
  unfold swS
  rw [List.length_mergeSort, List.length_map]
theorem both (c0 q i j : Int) {X : List (List Int)} (hn : X.length ≤ 1048576) (hX : ∀ x ∈ X, x.length ≤ 1048576) {k : Nat} (hk : X.length + 1050000 < k) :
    ∃ r : List (List Int) × Bool, (r.1.length ≤ 40 ∧ ∀ y ∈ r.1, y.length ≤ 10) ∧ spec_SwapCouples.f k c0 q X i j = some r ∧ impl_SwapCouples.f k c0 q X i j = some r := by
  obtain ⟨k, rfl⟩ := k_succ (show 0 < k by omega)
  have hj0 : ∀ X : List (List Int), spec_SwapCouples.j0 (k + 1) X i j true = some ([], false) := fun X => by simp only [spec_SwapCouples.j0]; rw [if_pos trivial]
  have hF : ∃ r : List (List Int) × Bool, (r.1.length ≤ 40 ∧ ∀ y ∈ r.1, y.length ≤ 10) ∧ some (([] : List (List Int)), false) = some r ∧ some (([] : List (List Int)), false) = some r := ⟨([], false), by simp, rfl, rfl⟩
  unfold spec_SwapCouples.f impl_SwapCouples.f spec_cuGood.f impl_IsCompany.f
  simp only [l1In_eq, in_eq, Option.bind_some]
  cases h1 : inB c0 1 4
  · simp only [Bool.false_eq_true, if_false, Option.bind_some, hj0]; exact hF
  simp only [if_true, Option.bind_some]
  cases h2 : inB q 1 4
  · simp only [Bool.false_eq_true, if_false, hj0]; exact hF
  simp only [if_true]
  rw [inB_true] at h1 h2
  obtain ⟨c, rfl⟩ : ∃ c : Nat, c0 = (c : Int) := ⟨c0.toNat, by omega⟩
  have hc : 1 ≤ c ∧ c ≤ 4 := by omega
  have hw : wrap64 ((c : Int) - 1) = (c : Int) - 1 := wrap_id (by omega) (by omega)
  rw [hw]
  by_cases hlen : (X.length : Int) > 40
  · simp only [if_pos hlen, hj0]
    cases inB i 0 ((c : Int) - 1) <;> cases inB j 0 ((c : Int) - 1) <;> simp
  simp only [if_neg hlen]
  obtain ⟨b, p1, p2, p3⟩ := plan_both hc h2 hn hX (k := k + 1) (by omega)
  rw [p1, p2]
  simp only [Option.bind_some]
  cases b
  · simp only [Bool.false_eq_true, if_false, hj0]
    cases inB i 0 ((c : Int) - 1) <;> cases inB j 0 ((c : Int) - 1) <;> simp
  simp only [if_true]
  cases hi : inB i 0 ((c : Int) - 1)
  · simp only [Bool.false_eq_true, if_false, hj0]; exact hF
  simp only [if_true]
  cases hj : inB j 0 ((c : Int) - 1)
  · simp only [Bool.false_eq_true, if_false, Bool.not_false, hj0]; exact hF
  simp only [if_true, Bool.not_true]
  rw [inB_true] at hi hj
  have hG := p3 rfl
  have hok : swOk X = true := List.all_eq_true.2 fun t ht => by
    have := (hG t ht).1
    rw [Bool.and_eq_true, decide_eq_true_eq, decide_eq_true_eq]
    omega
  rw [clone_eq hn hX (by omega), Option.bind_some, if_pos hok, if_pos (by omega)]
  simp only [spec_SwapCouples.j0, Bool.false_eq_true, if_false]
  rw [show (0 : Int) = ((0 : Nat) : Int) by rfl, swap_l0 hc h2 hi hj (by omega) hG X.length k 0 [] (by omega) (Nat.le_refl _) (by omega), List.drop_zero, List.nil_append]
  refine ⟨_, ⟨?_, ?_⟩, rfl, rfl⟩
  · show (X.map (swS i j)).length ≤ 40
    rw [List.length_map]
    omega
  · intro y hy
    obtain ⟨t, ht, rfl⟩ := List.mem_map.1 hy
    rw [swS_len]
    have := (hG t ht).1
    omega
theorem markIntS_any : ∀ (d k i : Nat) (l : List Int) (m : Int), i + d = l.length → l.length ≤ 1048576 → 0 ≤ m → m + d ≤ 4000000000000000000 → d < k → ∃ l', laws_markIntS.l0 k l m (i : Int) = some (m + d, l') := by
  intro d
  induction d with
  | zero =>
    intro k i l m hi hn h0 hm hk
    obtain ⟨k, rfl⟩ := k_succ hk
    simp only [laws_markIntS.l0]
    rw [if_neg (by omega)]
    exact ⟨l, by simp⟩
  | succ d ih =>
    intro k i l m hi hn h0 hm hk
    obtain ⟨k, rfl⟩ := k_succ hk
    simp only [laws_markIntS.l0]
    rw [if_pos (by omega), if_pos (by omega), wrap_succ (show i < l.length by omega) (by omega), wrap_id (n := m + 1) (by omega) (by omega)]
    obtain ⟨l', h⟩ := ih k (i + 1) (l.set (i : Int).toNat m) (m + 1) (by rw [List.length_set]; omega) (by rw [List.length_set]; exact hn) (by omega) (by omega) (by omega)
    exact ⟨l', by rw [h, show m + 1 + (d : Int) = m + ((d + 1 : Nat) : Int) by omega]⟩
theorem markIntSS_any : ∀ (rest done : List (List Int)) (k : Nat) (m : Int), (∀ x ∈ rest, x.length ≤ 1048576) → done.length + rest.length ≤ 1048576 → 0 ≤ m → m + rest.length * 1048576 ≤ 4000000000000000000 → rest.length + 1048577 < k →
    ∃ (m' : Int) (l' : List (List Int)), laws_markIntSS.l0 k (done ++ rest) m (done.length : Int) = some (m', l') ∧ 0 ≤ m' := by
  intro rest
  induction rest with
  | nil =>
    intro done k m _ hl h0 hm hk
    obtain ⟨k, rfl⟩ := k_succ hk
    simp only [laws_markIntSS.l0]
    rw [List.append_nil, if_neg (by omega)]
    exact ⟨m, _, rfl, h0⟩
  | cons r rest ih =>
    intro done k m hr hl h0 hm hk
    obtain ⟨k, rfl⟩ := k_succ hk
    have hr0 := hr r List.mem_cons_self
    simp only [List.length_cons] at hl hm hk
    have hlen : (done ++ r :: rest).length = done.length + (rest.length + 1) := by simp
    have eg : (done ++ r :: rest).getD (done.length : Int).toNat [] = r := by
      rw [Int.toNat_natCast, List.getD_eq_getElem?_getD, List.getElem?_append_right (Nat.le_refl _), Nat.sub_self]
      rfl
    obtain ⟨r', e1⟩ := markIntS_any r.length k 0 r m (by omega) hr0 h0 (by omega) (by omega)
    have e1' : laws_markIntS.f k r m = some (m + (r.length : Int), r') := e1
    have es : (done ++ r :: rest).set (done.length : Int).toNat r' = (done ++ [r']) ++ rest := by
      rw [Int.toNat_natCast, List.set_append_right _ _ (Nat.le_refl _), Nat.sub_self, List.append_assoc]
      rfl
    have hdl : (done ++ [r']).length = done.length + 1 := by simp
    simp only [laws_markIntSS.l0]
    rw [if_pos (by omega), if_pos (by omega), eg, e1', Option.bind_some]
    dsimp only
    rw [es, wrap_succ (n := (done ++ r :: rest).length) (by omega) (by omega), ← hdl]
    exact ih (done ++ [r']) k _ (fun x hx => hr x (List.mem_cons_of_mem _ hx)) (by omega) (by omega) (by omega) (by omega)
theorem pure : ∀ (a0_0 : Int) (a0_1 : Int) (l1 : List (List Int)) (a2 : Int) (a3 : Int), Opn.okI a0_0 → Opn.okI a0_1 → (∀ y0 ∈ l1, (y0.length ≤ 9223372036854775807 ∧ ∀ y1 ∈ y0, Opn.okI y1)) → l1.length ≤ 9223372036854775807 → Opn.okI a2 → Opn.okI a3 → ∃ k, laws_FnExactSwapCouples.f k a0_0 a0_1 l1 a2 a3 = some true := by
  intro c q X i j _ _ hX hn _ _
  refine ⟨X.length + 3000000, ?_⟩
  unfold laws_FnExactSwapCouples.f laws_szIntSS.f
  rw [wrap_id (n := 1048576 - (X.length : Int)) (by omega) (by omega)]
  by_cases hg : 1048576 - (X.length : Int) < 0
  · rw [if_pos hg, Option.bind_some, if_pos (by omega)]
  · rw [if_neg hg]
    obtain ⟨z, hz, hzc⟩ := szIntSS_l0 (l := X) (by omega) (fun x h => (hX x h).1) X.length (X.length + 3000000) 0 (1048576 - (X.length : Int)) (by omega) (by omega) (by omega) (by omega)
    rw [show (0 : Int) = ((0 : Nat) : Int) by rfl, hz, Option.bind_some]
    by_cases c3 : z < 0
    · rw [if_pos (by omega)]
    · rw [if_neg (by omega)]
      have hr : ∀ x ∈ X, x.length ≤ 1048576 := by
        have := hzc.resolve_left c3
        rwa [List.drop_zero] at this
      obtain ⟨⟨s, b⟩, ⟨h1, h2⟩, e1, e2⟩ := both c q i j (X := X) (by omega) hr (k := X.length + 3000000) (by omega)
      have h1' : s.length ≤ 40 := h1
      have h2' : ∀ y ∈ s, y.length ≤ 10 := h2
      obtain ⟨m, l', m1, m2⟩ := markSS_eq (l := s) (by omega) h2' (k := X.length + 3000000) (by omega)
      obtain ⟨mx, lx, x1, x2⟩ := markIntSS_any X [] (X.length + 3000000) 1 hr (by simp; omega) (by omega) (by omega) (by omega)
      have x1' : laws_markIntSS.f (X.length + 3000000) X 1 = some (mx, lx) := x1
      rw [toIntSS_eq (by omega) hr (by omega), Option.bind_some, e1, e2, Option.bind_some, Option.bind_some, if_pos rfl]
      dsimp only
      rw [eqIntSS_eq (by omega) (fun d h => by have := h2' d h; omega) (by omega), Option.bind_some, if_pos rfl, eqIntSS_eq (by omega) hr (by omega), Option.bind_some, if_pos rfl, x1', Option.bind_some]
      dsimp only
      rw [if_neg (by omega), m1, Option.bind_some]
      dsimp only
      rw [m2, Option.bind_some, if_neg (by omega), if_pos rfl]

end Go.Proofs.Ytkdmjjihphnmdaa.fnExactSwapCouples
