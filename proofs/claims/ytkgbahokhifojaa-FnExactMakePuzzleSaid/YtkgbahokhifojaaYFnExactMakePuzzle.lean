/- FnExactMakePuzzle, the plain statement: what the printed functions compute makes the law's function return true. Conditions: the numbers are of their kind. -/
import Derived.Test.YtkgbahokhifojaaOpn
import Derived.Test.YtkgbahokhifojaaQHidx17
namespace Go.Proofs.Ytkgbahokhifojaa.fnExactMakePuzzle
open Go.RowKit Go.Proofs.YtkgbahokhifojaaW.PrintWords Go.Proofs.YtkgbahokhifojaaW.PrintLast Go.Proofs.YtkgbahokhifojaaW.PrintMore Go.Proofs.Ytkgbahokhifojaa.QHid
set_option linter.unusedVariables false
set_option linter.unusedSimpArgs false

/-- x lies between a and b. -/
def inB (x a b : Int) : Bool := decide (a ≤ x) && decide (x ≤ b)
theorem inB_true {x a b : Int} : inB x a b = true ↔ a ≤ x ∧ x ≤ b := by simp [inB]
theorem wrap_id {n : Int} (h0 : -9223372036854775808 ≤ n) (h1 : n ≤ 9223372036854775807) : wrap64 n = n := by
  unfold wrap64
  omega
theorem wrap_succ {i n : Nat} (h : i < n) (hn : n ≤ 9223372036854775807) : wrap64 ((i : Int) + 1) = ((i + 1 : Nat) : Int) := by
  unfold wrap64
  omega
theorem getD_take {α : Type} (l : List α) (i : Nat) (h : i < l.length) (z : α) : l.take (i + 1) = l.take i ++ [l.getD i z] := by
  rw [List.take_succ_eq_append_getElem h, List.getD_eq_getElem?_getD, List.getElem?_eq_getElem h]
  rfl
theorem getD_drop {α : Type} (l : List α) (i : Nat) (h : i < l.length) (z : α) : l.drop i = l.getD i z :: l.drop (i + 1) := by
  rw [List.drop_eq_getElem_cons h, List.getD_eq_getElem?_getD, List.getElem?_eq_getElem h]
  rfl
theorem set_take {α : Type} (l : List α) (i : Nat) (h : i < l.length) (v : α) : (l.set i v).take (i + 1) = l.take i ++ [v] := by
  rw [List.take_succ_eq_append_getElem (by rw [List.length_set]; exact h), List.take_set_of_le (Nat.le_refl i), List.getElem_set_self]
theorem k_succ {k d : Nat} (h : d < k) : ∃ m, k = m + 1 := ⟨k - 1, by omega⟩
theorem getD_map_at {α β : Type} (f : α → β) (l : List α) (i : Nat) (h : i < l.length) (z : α) (y : β) : (l.map f).getD i y = f (l.getD i z) := by
  rw [List.getD_eq_getElem?_getD, List.getD_eq_getElem?_getD, List.getElem?_map, List.getElem?_eq_getElem h]
  rfl
theorem l1In_eq (x a b : Int) : spec_l1In.f x a b = some (inB x a b) := by
  unfold spec_l1In.f inB
  by_cases h : a ≤ x <;> simp [h]
theorem in_eq (x a b : Int) : impl_in.f x a b = some (inB x a b) := by
  unfold impl_in.f inB
  by_cases h : a ≤ x <;> simp [h]
theorem toIntS_l0 {l : List Int} (hn : l.length ≤ 9223372036854775807) : ∀ (d k i : Nat) (x : List Int), i + d = l.length → x.length = l.length → x.take i = l.take i → d < k → laws_toIntS.l0 k l x (i : Int) = some l := by
  intro d
  induction d with
  | zero =>
    intro k i x hi hx ht hk
    obtain ⟨k, rfl⟩ := k_succ hk
    simp only [laws_toIntS.l0]
    rw [if_neg (by omega)]
    rw [show i = l.length by omega, List.take_length, ← hx, List.take_length] at ht
    rw [ht]
  | succ d ih =>
    intro k i x hi hx ht hk
    obtain ⟨k, rfl⟩ := k_succ hk
    have hlt : i < l.length := by omega
    simp only [laws_toIntS.l0]
    rw [if_pos (by omega), if_pos (by omega), if_pos (by omega), wrap_succ hlt hn]
    refine ih k (i + 1) _ (by omega) (by rw [List.length_set]; exact hx) ?_ (by omega)
    rw [Int.toNat_natCast, set_take _ _ (by omega), ht, getD_take l i hlt 0]
    rfl
theorem toIntS_eq {l : List Int} (hn : l.length ≤ 1048576) {k : Nat} (hk : l.length < k) : laws_toIntS.f k l = some l := by
  unfold laws_toIntS.f
  rw [if_pos (by omega), if_pos (by omega)]
  exact toIntS_l0 (by omega) l.length k 0 _ (by omega) (by simp) (by simp) hk
theorem eqIntS_l0 {l : List Int} (hn : l.length ≤ 9223372036854775807) : ∀ (d k i : Nat), i + d = l.length → d < k → laws_eqIntS.l0 k l l (i : Int) = some true := by
  intro d
  induction d with
  | zero =>
    intro k i hi hk
    obtain ⟨k, rfl⟩ := k_succ hk
    simp only [laws_eqIntS.l0]
    rw [if_neg (by omega)]
  | succ d ih =>
    intro k i hi hk
    obtain ⟨k, rfl⟩ := k_succ hk
    have hlt : i < l.length := by omega
    simp only [laws_eqIntS.l0]
    rw [if_pos (by omega), if_pos (by omega), if_pos (by omega), if_pos trivial, wrap_succ hlt hn]
    exact ih k (i + 1) (by omega) (by omega)
theorem eqIntS_eq {l : List Int} (hn : l.length ≤ 9223372036854775807) {k : Nat} (hk : l.length < k) : laws_eqIntS.f k l l = some true := by
  unfold laws_eqIntS.f
  rw [if_pos rfl]
  exact eqIntS_l0 hn l.length k 0 (by omega) hk
theorem l1All_l0 {l : List Int} (hn : l.length ≤ 9223372036854775807) (a b : Int) : ∀ (d k i : Nat), i + d = l.length → d < k → spec_l1All.l0 k a b l (l.length : Int) (i : Int) = some ((l.drop i).all fun x => inB x a b) := by
  intro d
  induction d with
  | zero =>
    intro k i hi hk
    obtain ⟨k, rfl⟩ := k_succ hk
    simp only [spec_l1All.l0]
    rw [if_neg (by omega), show i = l.length by omega, List.drop_length]
    rfl
  | succ d ih =>
    intro k i hi hk
    obtain ⟨k, rfl⟩ := k_succ hk
    have hlt : i < l.length := by omega
    simp only [spec_l1All.l0]
    rw [if_pos (by omega), if_pos (by omega), if_pos (by omega), l1In_eq, Option.bind_some, wrap_succ hlt hn, ih k (i + 1) (by omega) (by omega), getD_drop l i hlt 0, List.all_cons]
    show (if inB (l.getD i 0) a b = true then _ else _) = _
    cases inB (l.getD i 0) a b <;> simp
theorem l1All_eq {l : List Int} (hn : l.length ≤ 9223372036854775807) (a b : Int) {k : Nat} (hk : l.length < k) : spec_l1All.f k l a b = some (l.all fun x => inB x a b) := by
  unfold spec_l1All.f
  exact l1All_l0 hn a b l.length k 0 (by omega) hk
theorem areIn_eq (l : List Int) (a b c d : Int) : impl_areIn.f l a b c d = some (inB (l.length : Int) c d && l.all fun x => inB x a b) := by
  unfold impl_areIn.f inB
  simp [List.not_any_eq_all_not]
theorem markIntS_l0 : ∀ (d k i : Nat) (l : List Int), i + d = l.length → l.length ≤ 1048576 → (∀ j, j < i → l.getD j 0 = ((1 + j : Nat) : Int)) → d < k →
    ∃ l', laws_markIntS.l0 k l ((1 + i : Nat) : Int) (i : Int) = some (((1 + l.length : Nat) : Int), l') ∧ l'.length = l.length ∧ ∀ j, j < l.length → l'.getD j 0 = ((1 + j : Nat) : Int) := by
  intro d
  induction d with
  | zero =>
    intro k i l hi hn hp hk
    obtain ⟨k, rfl⟩ := k_succ hk
    simp only [laws_markIntS.l0]
    refine ⟨l, ?_, rfl, fun j hj => hp j (by omega)⟩
    rw [if_neg (by omega), show 1 + i = 1 + l.length by omega]
  | succ d ih =>
    intro k i l hi hn hp hk
    obtain ⟨k, rfl⟩ := k_succ hk
    have hlt : i < l.length := by omega
    have e1 : wrap64 (((1 + i : Nat) : Int) + 1) = ((1 + (i + 1) : Nat) : Int) := by unfold wrap64; omega
    have e2 : ((i : Int)).toNat = i := by omega
    simp only [laws_markIntS.l0]
    rw [if_pos (by omega), if_pos (by omega), wrap_succ hlt (by omega), e1, e2]
    obtain ⟨l', h1, h2, h3⟩ := ih k (i + 1) (l.set i ((1 + i : Nat) : Int)) (by rw [List.length_set]; omega) (by rw [List.length_set]; exact hn) (by
      intro j hj
      by_cases h : j = i
      · subst h
        rw [List.getD_eq_getElem?_getD, List.getElem?_set_self hlt]
        rfl
      · rw [List.getD_eq_getElem?_getD, List.getElem?_set_ne (Ne.symm h), ← List.getD_eq_getElem?_getD]
        exact hp j (by omega)) (by omega)
    rw [List.length_set] at h1 h2 h3
    exact ⟨l', h1, h2, h3⟩
theorem markIntS_eq {l : List Int} (hn : l.length ≤ 1048576) {k : Nat} (hk : l.length < k) :
    ∃ l', laws_markIntS.f k l 1 = some (((1 + l.length : Nat) : Int), l') ∧ l'.length = l.length ∧ ∀ j, j < l.length → l'.getD j 0 = ((1 + j : Nat) : Int) := by
  unfold laws_markIntS.f
  exact markIntS_l0 l.length k 0 l (by omega) hn (fun j hj => absurd hj (Nat.not_lt_zero j)) hk
theorem eqClueS_l0 {l : List S45} (hn : l.length ≤ 9223372036854775807) : ∀ (d k i : Nat), i + d = l.length → d < k → laws_eqClueS.l0 k l l (i : Int) = some true := by
  intro d
  induction d with
  | zero =>
    intro k i hi hk
    obtain ⟨k, rfl⟩ := k_succ hk
    simp only [laws_eqClueS.l0]
    rw [if_neg (by omega)]
  | succ d ih =>
    intro k i hi hk
    obtain ⟨k, rfl⟩ := k_succ hk
    have hlt : i < l.length := by omega
    simp only [laws_eqClueS.l0, laws_eqClue.f, if_true, Option.bind_some]
    rw [if_pos (by omega), if_pos (by omega), if_pos (by omega), wrap_succ hlt hn]
    exact ih k (i + 1) (by omega) (by omega)
theorem eqPuzzle_eq {n : Int} {l : List S45} (hn : l.length ≤ 9223372036854775807) {k : Nat} (hk : l.length < k) : laws_eqPuzzle.f k n l n l = some true := by
  unfold laws_eqPuzzle.f laws_eqClueS.f
  rw [if_pos rfl, if_pos rfl, show (0 : Int) = ((0 : Nat) : Int) by rfl, eqClueS_l0 hn l.length k 0 (by omega) hk]
  rfl
theorem rd_set_clue {x : List S45} {i : Nat} (h : i < x.length) (v : S45) : rd_T45 (x.set i v) (i : Int) = v := by
  unfold rd_T45
  rw [Int.toNat_natCast, List.getD_eq_getElem?_getD, List.getElem?_set_self h]
  rfl
/-- The clues that are marked from m on. -/
def marksC (n : Nat) (m : Int) : List S45 := (List.range n).map fun j : Nat => (⟨m + 3 * (j : Int), m + 3 * (j : Int) + 1, m + 3 * (j : Int) + 2⟩ : S45)
theorem marksC_len (n : Nat) (m : Int) : (marksC n m).length = n := by simp [marksC]
theorem marksC_get {n i : Nat} (m : Int) (h : i < n) (z : S45) : (marksC n m).getD i z = ⟨m + 3 * (i : Int), m + 3 * (i : Int) + 1, m + 3 * (i : Int) + 2⟩ := by
  rw [List.getD_eq_getElem?_getD, marksC, List.getElem?_map, List.getElem?_range h]
  rfl
theorem markClueS_l0 {n : Nat} {m : Int} (h0 : 0 ≤ m) (hm : m ≤ 100000000) (hn : n ≤ 2000000) : ∀ (d k i : Nat) (x : List S45), i + d = n → x.length = n → x.take i = (marksC n m).take i → d < k →
    laws_markClueS.l0 k x (m + 3 * (i : Int)) (i : Int) = some (m + 3 * (n : Int), marksC n m) := by
  intro d
  induction d with
  | zero =>
    intro k i x hi hx ht hk
    obtain ⟨k, rfl⟩ := k_succ hk
    simp only [laws_markClueS.l0]
    rw [if_neg (by omega)]
    rw [List.take_of_length_le (by omega), List.take_of_length_le (by rw [marksC_len]; omega)] at ht
    rw [ht, show i = n by omega]
  | succ d ih =>
    intro k i x hi hx ht hk
    obtain ⟨k, rfl⟩ := k_succ hk
    have hlt : i < x.length := by omega
    simp only [laws_markClueS.l0]
    rw [if_pos (by omega), if_pos (by omega)]
    simp only [Option.bind_some, Int.toNat_natCast]
    have r1 := fun v => rd_set_clue (x := x) hlt v
    have r2 := fun v u => rd_set_clue (x := x.set i v) (i := i) (by rw [List.length_set]; exact hlt) u
    simp only [r1, r2, List.set_set]
    rw [wrap_succ hlt (by omega),
      wrap_id (n := m + 3 * (i : Int) + 1) (by omega) (by omega), wrap_id (n := m + 3 * (i : Int) + 1 + 1) (by omega) (by omega), wrap_id (n := m + 3 * (i : Int) + 1 + 1 + 1) (by omega) (by omega),
      show m + 3 * (i : Int) + 1 + 1 + 1 = m + 3 * ((i + 1 : Nat) : Int) by omega, show m + 3 * (i : Int) + 1 + 1 = m + 3 * (i : Int) + 2 by omega]
    refine ih k (i + 1) _ (by omega) (by rw [List.length_set]; exact hx) ?_ (by omega)
    rw [set_take _ _ hlt, ht, getD_take (marksC n m) i (by rw [marksC_len]; omega) z45, marksC_get m (by omega)]
theorem markPuzzle_eq {p m : Int} (h0 : 0 ≤ m) (hm : m ≤ 100000000) {l : List S45} (hn : l.length ≤ 2000000) {k : Nat} (hk : l.length < k) :
    laws_markPuzzle.f k p l m = some (m + 3 * (l.length : Int), marksC l.length m) := by
  unfold laws_markPuzzle.f laws_markClueS.f
  have h := markClueS_l0 h0 hm hn l.length k 0 l (by omega) rfl (by simp) hk
  rw [show m + 3 * ((0 : Nat) : Int) = m by omega] at h
  rw [show ((0 : Nat) : Int) = 0 by rfl] at h
  rw [h]
  rfl
theorem heldClueS_l0 {n : Nat} {m : Int} (h0 : 0 ≤ m) (hm : m ≤ 100000000) (hn : n ≤ 2000000) : ∀ (d k i : Nat), i + d = n → d < k →
    laws_heldClueS.l0 k (marksC n m) (m + 3 * (i : Int)) (i : Int) = some (m + 3 * (n : Int)) := by
  intro d
  induction d with
  | zero =>
    intro k i hi hk
    obtain ⟨k, rfl⟩ := k_succ hk
    simp only [laws_heldClueS.l0]
    rw [marksC_len, if_neg (by omega), show i = n by omega]
  | succ d ih =>
    intro k i hi hk
    obtain ⟨k, rfl⟩ := k_succ hk
    have hr : rd_T45 (marksC n m) (i : Int) = ⟨m + 3 * (i : Int), m + 3 * (i : Int) + 1, m + 3 * (i : Int) + 2⟩ := by
      unfold rd_T45
      rw [Int.toNat_natCast, marksC_get m (by omega)]
    simp only [laws_heldClueS.l0, hr]
    rw [marksC_len, if_pos (by omega), if_pos (by omega), if_pos trivial, wrap_id (n := m + 3 * (i : Int) + 1) (by omega) (by omega), if_pos rfl, wrap_id (n := m + 3 * (i : Int) + 1 + 1) (by omega) (by omega),
      if_pos (by omega), wrap_id (n := m + 3 * (i : Int) + 1 + 1 + 1) (by omega) (by omega), wrap_succ (n := n) (by omega) (by omega), show m + 3 * (i : Int) + 1 + 1 + 1 = m + 3 * ((i + 1 : Nat) : Int) by omega]
    exact ih k (i + 1) (by omega) (by omega)
theorem heldPuzzle_eq {p m : Int} (h0 : 0 ≤ m) (hm : m ≤ 100000000) {n : Nat} (hn : n ≤ 2000000) {k : Nat} (hk : n < k) :
    laws_heldPuzzle.f k p (marksC n m) m = some (m + 3 * (n : Int)) := by
  unfold laws_heldPuzzle.f laws_heldClueS.f
  have h := heldClueS_l0 h0 hm hn n k 0 (by omega) hk
  rw [show m + 3 * ((0 : Nat) : Int) = m by omega, show ((0 : Nat) : Int) = 0 by rfl] at h
  rw [h, Option.bind_some, if_neg (by omega)]
/-- The numbers of a row from place i on do not fall; up to place i. -/
def upB (l : List Int) (i j : Nat) : Prop := ∀ m, i ≤ m → m < j → rd l ((m : Int) - 1) ≤ rd l (m : Int)
theorem pzHidden_l0 {l : List Int} (hn : l.length ≤ 1048576) : ∀ (d k i : Nat), 1 ≤ i → i + d = l.length ∨ (d = 0 ∧ l.length ≤ i ∧ i ≤ 1) → d < k → ∃ b, spec_pzHidden.l0 k l (i : Int) = some b ∧ (b = true ↔ upB l i l.length) := by
  intro d
  induction d with
  | zero =>
    intro k i h1 hi hk
    obtain ⟨k, rfl⟩ := k_succ hk
    refine ⟨true, ?_, ?_⟩
    · simp only [spec_pzHidden.l0]
      rw [if_neg (by omega)]
    · simp only [true_iff]
      intro m h2 h3
      omega
  | succ d ih =>
    intro k i h1 hi hk
    obtain ⟨k, rfl⟩ := k_succ hk
    have hlt : i < l.length := by omega
    have hw : wrap64 ((i : Int) - 1) = (i : Int) - 1 := wrap_id (by omega) (by omega)
    simp only [spec_pzHidden.l0]
    rw [if_pos (by omega), hw, if_pos (by omega), if_pos (by omega), if_pos (by omega), wrap_succ hlt (by omega)]
    by_cases hgt : rd l ((i : Int) - 1) > rd l (i : Int)
    · rw [if_pos hgt]
      refine ⟨false, rfl, ?_⟩
      simp only [Bool.false_eq_true, false_iff]
      intro h
      have := h i (Nat.le_refl _) hlt
      omega
    · rw [if_neg hgt]
      obtain ⟨b, hb, hiff⟩ := ih k (i + 1) (by omega) (by omega) (by omega)
      refine ⟨b, hb, hiff.trans ⟨fun h m h2 h3 => ?_, fun h m h2 h3 => h m (by omega) h3⟩⟩
      by_cases e : m = i
      · subst e; omega
      · exact h m (by omega) h3
theorem isSorted_l0 {l : List Int} (hn : l.length ≤ 1048576) : ∀ (i k : Nat), i < l.length ∨ i = 0 → i < k → ∃ b, slices_IsSorted_int_int.l0 k l (i : Int) = some b ∧ (b = true ↔ upB l 1 (i + 1)) := by
  intro i
  induction i with
  | zero =>
    intro k _ hk
    obtain ⟨k, rfl⟩ := k_succ hk
    refine ⟨true, ?_, ?_⟩
    · simp only [slices_IsSorted_int_int.l0]
      rw [if_neg (by omega)]
    · simp only [true_iff]
      intro m h2 h3
      omega
  | succ i ih =>
    intro k hi hk
    obtain ⟨k, rfl⟩ := k_succ hk
    have hw : wrap64 (((i + 1 : Nat) : Int) - 1) = (i : Int) := by rw [wrap_id (by omega) (by omega)]; omega
    simp only [slices_IsSorted_int_int.l0]
    rw [if_pos (by omega), if_pos (by omega), if_pos (by omega), hw, if_pos (by omega), if_pos (by omega)]
    have hl : cmp_Less_int.f (rd l ((i + 1 : Nat) : Int)) (rd l (i : Int)) = some (decide (rd l ((i + 1 : Nat) : Int) < rd l (i : Int))) := by
      unfold cmp_Less_int.f cmp_isNaN_int.f
      simp
    rw [hl, Option.bind_some]
    by_cases hgt : rd l ((i + 1 : Nat) : Int) < rd l (i : Int)
    · rw [if_pos (by simpa using hgt)]
      refine ⟨false, rfl, ?_⟩
      simp only [Bool.false_eq_true, false_iff]
      intro h
      have := h (i + 1) (by omega) (by omega)
      rw [show ((i + 1 : Nat) : Int) - 1 = (i : Int) by omega] at this
      omega
    · rw [if_neg (by simpa using hgt)]
      obtain ⟨b, hb, hiff⟩ := ih k (by omega) (by omega)
      refine ⟨b, hb, hiff.trans ⟨fun h m h2 h3 => ?_, fun h m h2 h3 => h m h2 (by omega)⟩⟩
      by_cases e : m = i + 1
      · subst e
        rw [show ((i + 1 : Nat) : Int) - 1 = (i : Int) by omega]
        omega
      · exact h m h2 (by omega)
/-- Hidden times. -/
theorem hid_both {l : List Int} (hn : l.length ≤ 1048576) {k : Nat} (hk : l.length + 1 < k) : ∃ b, spec_pzHidden.f k l = some b ∧ impl_IsHidden.f k l = some b ∧ (b = true → (1 ≤ l.length ∧ l.length ≤ 4) ∧ (l.all fun x => inB x 1 6) = true ∧ upB l 1 l.length) := by
  unfold spec_pzHidden.f spec_pzPeople.f impl_IsHidden.f
  rw [l1In_eq, areIn_eq, l1All_eq (by omega) 1 6 (by omega)]
  simp only [Option.bind_some]
  obtain ⟨m, rfl⟩ := k_succ hk
  cases h1 : inB (l.length : Int) 1 4
  · exact ⟨false, by simp [spec_pzHidden.j0], by simp, by simp⟩
  · cases h2 : l.all fun x => inB x 1 6
    · exact ⟨false, by simp [spec_pzHidden.j0], by simp, by simp⟩
    · rw [inB_true] at h1
      obtain ⟨b, hb, hbi⟩ := pzHidden_l0 hn (l.length - 1) m 1 (by omega) (by omega) (by omega)
      obtain ⟨c, hc, hci⟩ := isSorted_l0 hn (l.length - 1) (m + 1) (by omega) (by omega)
      have e : b = c := by
        rw [Bool.eq_iff_iff, hbi, hci, show l.length - 1 + 1 = l.length by omega]
      subst e
      refine ⟨b, ?_, ?_, fun hb2 => ⟨by omega, rfl, hbi.1 hb2⟩⟩
      · simp only [if_true, Bool.not_true, spec_pzHidden.j0, Bool.false_eq_true, if_false]
        rw [show ((1 : Nat) : Int) = 1 by rfl] at hb
        rw [hb]
      · simp only [Bool.and_self, if_true]
        unfold slices_IsSorted_int_int.f
        rw [show wrap64 ((l.length : Int) - 1) = ((l.length - 1 : Nat) : Int) by rw [wrap_id (by omega) (by omega)]; omega, hc]
        rfl
/-- The model's value of a kind is what the program tells. -/
def chkK (l : List Int) (kd : Int) : Bool := match spec_pzValue.f 40 kd 0 l with
  | some v => decide (impl_told.f 40 kd 0 l = some (kd, v, 0))
  | none => false
def chkP (l : List Int) (kd : Int) (i : Nat) : Bool := match spec_pzValue.f 40 kd (i : Int) l with
  | some v => decide (impl_told.f 40 kd (i : Int) l = some (kd, (i : Int), v))
  | none => false
def chk (l : List Int) : Bool := (chkK l 1 && (chkK l 2 && (chkK l 3 && chkK l 5))) && (List.range l.length).all fun i => chkP l 0 i && chkP l 4 i
def six : List Int := [1, 2, 3, 4, 5, 6]
theorem mem6 {a : Int} (h : inB a 1 6 = true) : a ∈ six := by
  rw [inB_true] at h
  simp [six]
  omega
theorem all1 : (six.all fun a => chk [a]) = true := by decide +kernel
theorem all2 : (six.all fun a => six.all fun b => decide (b < a) || chk [a, b]) = true := by decide +kernel
theorem all3 : (six.all fun a => six.all fun b => decide (b < a) || six.all fun c => decide (c < b) || chk [a, b, c]) = true := by decide +kernel
theorem all4 : (six.all fun a => six.all fun b => decide (b < a) || six.all fun c => decide (c < b) || six.all fun d => decide (d < c) || chk [a, b, c, d]) = true := by decide +kernel
theorem chk_of {l : List Int} (h : 1 ≤ l.length ∧ l.length ≤ 4) (hx : (l.all fun x => inB x 1 6) = true) (hu : upB l 1 l.length) : chk l = true := by
  match l, h with
  | [a], _ =>
    simp only [List.all_cons, List.all_nil, Bool.and_true] at hx
    exact List.all_eq_true.1 all1 a (mem6 hx)
  | [a, b], _ =>
    simp only [List.all_cons, List.all_nil, Bool.and_true, Bool.and_eq_true] at hx
    have u1 : a ≤ b := hu 1 (by decide) (by simp)
    have h1 := List.all_eq_true.1 (List.all_eq_true.1 all2 a (mem6 hx.1)) b (mem6 hx.2)
    rw [decide_eq_false (by omega), Bool.false_or] at h1
    exact h1
  | [a, b, c], _ =>
    simp only [List.all_cons, List.all_nil, Bool.and_true, Bool.and_eq_true] at hx
    have u1 : a ≤ b := hu 1 (by decide) (by simp)
    have u2 : b ≤ c := hu 2 (by decide) (by simp)
    have h1 := List.all_eq_true.1 (List.all_eq_true.1 all3 a (mem6 hx.1)) b (mem6 hx.2.1)
    rw [decide_eq_false (by omega), Bool.false_or] at h1
    have h2 := List.all_eq_true.1 h1 c (mem6 hx.2.2)
    rw [decide_eq_false (by omega), Bool.false_or] at h2
    exact h2
  | [a, b, c, d], _ =>
    simp only [List.all_cons, List.all_nil, Bool.and_true, Bool.and_eq_true] at hx
    have u1 : a ≤ b := hu 1 (by decide) (by simp)
    have u2 : b ≤ c := hu 2 (by decide) (by simp)
    have u3 : c ≤ d := hu 3 (by decide) (by simp)
    have h1 := List.all_eq_true.1 (List.all_eq_true.1 all4 a (mem6 hx.1)) b (mem6 hx.2.1)
    rw [decide_eq_false (by omega), Bool.false_or] at h1
    have h2 := List.all_eq_true.1 h1 c (mem6 hx.2.2.1)
    rw [decide_eq_false (by omega), Bool.false_or] at h2
    have h3 := List.all_eq_true.1 h2 d (mem6 hx.2.2.2)
    rw [decide_eq_false (by omega), Bool.false_or] at h3
    exact h3
theorem val_K {l : List Int} {kd : Int} (h : chkK l kd = true) : ∃ v, ∀ k, 40 ≤ k → spec_pzValue.f k kd 0 l = some v ∧ impl_told.f k kd 0 l = some (kd, v, 0) := by
  unfold chkK at h
  cases hv : spec_pzValue.f 40 kd 0 l with
  | none => rw [hv] at h; cases h
  | some v =>
    rw [hv] at h
    exact ⟨v, fun k hk => ⟨at_rounds (fun k => spec_pzValue.mono kd 0 l k) hk hv, at_rounds (fun k => impl_told.mono kd 0 l k) hk (of_decide_eq_true h)⟩⟩
theorem val_P {l : List Int} {kd : Int} {i : Nat} (h : chkP l kd i = true) : ∃ v, ∀ k, 40 ≤ k → spec_pzValue.f k kd (i : Int) l = some v ∧ impl_told.f k kd (i : Int) l = some (kd, (i : Int), v) := by
  unfold chkP at h
  cases hv : spec_pzValue.f 40 kd (i : Int) l with
  | none => rw [hv] at h; cases h
  | some v =>
    rw [hv] at h
    exact ⟨v, fun k hk => ⟨at_rounds (fun k => spec_pzValue.mono kd (i : Int) l k) hk hv, at_rounds (fun k => impl_told.mono kd (i : Int) l k) hk (of_decide_eq_true h)⟩⟩
theorem next_eq (z : Int) : spec_pzNext.f z = some (QHid.mkNext z) := by
  unfold spec_pzNext.f QHid.mkNext
  rw [Int.mul_comm]
theorem next_in {z : Int} (h0 : 0 ≤ z) (h1 : z ≤ 10006) : 0 ≤ QHid.mkNext z ∧ QHid.mkNext z ≤ 10006 := by
  unfold QHid.mkNext
  rw [wrap_id (n := z * 139) (by omega) (by omega), wrap_id (n := z * 139 + 2971) (by omega) (by omega), Int.tmod_eq_emod_of_nonneg (by omega)]
  omega
theorem of_P {l : List Int} {kd : Int} (hkd : kd = 0 ∨ kd = 4) {i : Nat} (hi : i < l.length) (h : chk l = true) : ∃ t : Int × Int × Int, ∀ k, 42 < k → spec_pzOf.f k kd (i : Int) l = some t ∧ impl_told.f k kd (i : Int) l = some t := by
  unfold chk at h
  simp only [Bool.and_eq_true] at h
  have hp := List.all_eq_true.1 h.2 i (by rw [List.mem_range]; omega)
  simp only [Bool.and_eq_true] at hp
  have hpk : chkP l kd i = true := by rcases hkd with rfl | rfl; exact hp.1; exact hp.2
  obtain ⟨v, hv⟩ := val_P hpk
  refine ⟨(kd, (i : Int), v), fun k hk => ⟨?_, (hv k (by omega)).2⟩⟩
  obtain ⟨k, rfl⟩ := k_succ hk
  unfold spec_pzOf.f
  rcases hkd with rfl | rfl
  · rw [if_pos rfl]
    simp only [spec_pzOf.j0]
    rw [if_pos trivial, (hv k (by omega)).1, Option.bind_some]
  · rw [if_neg (by decide)]
    simp only [spec_pzOf.j0]
    rw [if_pos (by rfl), (hv k (by omega)).1, Option.bind_some]
theorem of_K {l : List Int} {kd : Int} (h0 : kd ≠ 0) (h4 : kd ≠ 4) (h : chkK l kd = true) : ∃ t : Int × Int × Int, ∀ k, 42 < k → spec_pzOf.f k kd 0 l = some t ∧ impl_told.f k kd 0 l = some t := by
  obtain ⟨v, hv⟩ := val_K h
  refine ⟨(kd, v, 0), fun k hk => ⟨?_, (hv k (by omega)).2⟩⟩
  obtain ⟨k, rfl⟩ := k_succ hk
  have e4 : (kd == 4) = false := beq_eq_false_iff_ne.mpr h4
  unfold spec_pzOf.f
  rw [if_neg h0]
  simp only [spec_pzOf.j0]
  rw [e4, if_neg (by simp), (hv k (by omega)).1, Option.bind_some]
theorem run_both {l : List Int} (hl : 1 ≤ l.length ∧ l.length ≤ 4) (hc : chk l = true) : ∀ (n : Nat) (z : Int) (acc : List S45), 0 ≤ z → z ≤ 10006 → acc.length + n ≤ 100 → ∃ r : List S45, r.length ≤ acc.length + n ∧ ∀ k, 2 * n + 50 < k → spec_MakePuzzle.l0 k l (n : Int) z (l.length : Int) acc = some ((l.length : Int), r, true) ∧ QHid.mkRun k l n z acc = some r := by
  intro n
  induction n with
  | zero =>
    intro z acc _ _ _
    refine ⟨acc, by omega, fun k hk => ?_⟩
    obtain ⟨k, rfl⟩ := k_succ hk
    simp only [spec_MakePuzzle.l0]
    exact ⟨by rw [if_neg (by omega)], rfl⟩
  | succ n ih =>
    intro z acc h0 h1 ha
    obtain ⟨z10, z11⟩ := next_in h0 h1
    obtain ⟨z20, z21⟩ := next_in z10 z11
    have k0 : 0 ≤ Int.tmod (QHid.mkNext z) 6 := by rw [Int.tmod_eq_emod_of_nonneg z10]; omega
    have k5 : Int.tmod (QHid.mkNext z) 6 ≤ 5 := by rw [Int.tmod_eq_emod_of_nonneg z10]; omega
    have hw : wrap64 (((n + 1 : Nat) : Int) - 1) = (n : Int) := by rw [wrap_id (by omega) (by omega)]; omega
    by_cases c : Int.tmod (QHid.mkNext z) 6 = 0 ∨ Int.tmod (QHid.mkNext z) 6 = 4
    · obtain ⟨i, hi, hil⟩ : ∃ i : Nat, Int.tmod (QHid.mkNext (QHid.mkNext z)) (l.length : Int) = (i : Int) ∧ i < l.length := by
        have e := Int.tmod_eq_emod_of_nonneg (a := QHid.mkNext (QHid.mkNext z)) (b := (l.length : Int)) z20
        have p0 := Int.emod_nonneg (QHid.mkNext (QHid.mkNext z)) (b := (l.length : Int)) (by omega)
        have p1 := Int.emod_lt_of_pos (QHid.mkNext (QHid.mkNext z)) (b := (l.length : Int)) (by omega)
        exact ⟨(Int.tmod (QHid.mkNext (QHid.mkNext z)) (l.length : Int)).toNat, by omega, by omega⟩
      obtain ⟨⟨t1, t2, t3⟩, ht⟩ := of_P c hil hc
      obtain ⟨r, hr, hrk⟩ := ih (QHid.mkNext (QHid.mkNext z)) (acc ++ [⟨t1, t2, t3⟩]) z20 z21 (by simp; omega)
      refine ⟨r, by simp at hr; omega, fun k hk => ?_⟩
      obtain ⟨k, rfl⟩ := k_succ hk
      obtain ⟨k, rfl⟩ := k_succ (show 0 < k by omega)
      have e2 : QHid.mkStep (k + 1 + 1) l z acc = some (QHid.mkNext (QHid.mkNext z), acc ++ [⟨t1, t2, t3⟩]) := by
        unfold QHid.mkStep
        rw [if_pos c, if_neg (by omega), hi, (ht _ (by omega)).2, Option.bind_some, if_pos (by omega)]
      have ej : ∀ b, b = true → spec_MakePuzzle.j2 (k + 1) l ((n + 1 : Nat) : Int) (QHid.mkNext z) (Int.tmod (QHid.mkNext z) 6) 0 b (l.length : Int) acc = some ((l.length : Int), r, true) := by
        rintro b rfl
        simp only [spec_MakePuzzle.j2]
        rw [if_pos trivial, next_eq, Option.bind_some, if_neg (by omega), hi, (ht _ (by omega)).1, Option.bind_some, if_pos (by omega), hw]
        exact (hrk k (by omega)).1
      refine ⟨?_, ?_⟩
      · simp only [spec_MakePuzzle.l0]
        rw [if_pos (by omega), next_eq, Option.bind_some]
        rcases c with c | c
        · rw [if_pos c]; exact ej _ rfl
        · rw [if_neg (by omega)]; exact ej _ (beq_iff_eq.mpr c)
      · simp only [QHid.mkRun]
        rw [e2, Option.bind_some]
        exact (hrk (k + 1 + 1) (by omega)).2
    · have hk4 : chkK l (Int.tmod (QHid.mkNext z) 6) = true := by
        unfold chk at hc
        simp only [Bool.and_eq_true] at hc
        obtain ⟨⟨c1, c2, c3, c5⟩, -⟩ := hc
        have : Int.tmod (QHid.mkNext z) 6 = 1 ∨ Int.tmod (QHid.mkNext z) 6 = 2 ∨ Int.tmod (QHid.mkNext z) 6 = 3 ∨ Int.tmod (QHid.mkNext z) 6 = 5 := by omega
        rcases this with e | e | e | e
        · rw [e]; exact c1
        · rw [e]; exact c2
        · rw [e]; exact c3
        · rw [e]; exact c5
      obtain ⟨⟨t1, t2, t3⟩, ht⟩ := of_K (fun e => c (Or.inl e)) (fun e => c (Or.inr e)) hk4
      obtain ⟨r, hr, hrk⟩ := ih (QHid.mkNext z) (acc ++ [⟨t1, t2, t3⟩]) z10 z11 (by simp; omega)
      refine ⟨r, by simp at hr; omega, fun k hk => ?_⟩
      obtain ⟨k, rfl⟩ := k_succ hk
      obtain ⟨k, rfl⟩ := k_succ (show 0 < k by omega)
      have e2 : QHid.mkStep (k + 1 + 1) l z acc = some (QHid.mkNext z, acc ++ [⟨t1, t2, t3⟩]) := by
        unfold QHid.mkStep
        rw [if_neg c, (ht _ (by omega)).2, Option.bind_some, if_pos (by omega)]
      have e4 : (Int.tmod (QHid.mkNext z) 6 == 4) = false := beq_eq_false_iff_ne.mpr (fun e => c (Or.inr e))
      refine ⟨?_, ?_⟩
      · simp only [spec_MakePuzzle.l0]
        rw [if_pos (by omega), next_eq, Option.bind_some, if_neg (fun e => c (Or.inl e)), e4]
        simp only [spec_MakePuzzle.j2]
        rw [if_neg (by simp), (ht _ (by omega)).1, Option.bind_some, if_pos (by omega), hw]
        exact (hrk k (by omega)).1
      · simp only [QHid.mkRun]
        rw [e2, Option.bind_some]
        exact (hrk (k + 1 + 1) (by omega)).2
theorem both {l : List Int} (hn : l.length ≤ 1048576) (a s : Int) {k : Nat} (hk : l.length + 200 < k) : ∃ r : Int × List S45 × Bool, r.2.1.length ≤ 100 ∧ spec_MakePuzzle.f k l a s = some r ∧ impl_MakePuzzle.f k l a s = some r := by
  obtain ⟨h, f1, f2, e3⟩ := hid_both hn (k := k) (by omega)
  unfold spec_MakePuzzle.f impl_MakePuzzle.f
  obtain ⟨k, rfl⟩ := k_succ hk
  rw [f1, f2, Option.bind_some, Option.bind_some]
  simp only [l1In_eq, in_eq, Option.bind_some, spec_MakePuzzle.j0]
  cases h
  · exact ⟨(0, [], false), by simp, by simp, by simp⟩
  · cases ha : inB a 0 6
    · exact ⟨(0, [], false), by simp, by simp, by simp⟩
    · cases hs : inB s 0 9999
      · exact ⟨(0, [], false), by simp, by simp, by simp⟩
      · obtain ⟨h1, h2, h3⟩ := e3 rfl
        rw [inB_true] at ha hs
        obtain ⟨n, rfl⟩ : ∃ n : Nat, a = (n : Int) := ⟨a.toNat, by omega⟩
        obtain ⟨r, hr, hrk⟩ := run_both h1 (chk_of h1 h2 h3) n s [] (by omega) (by omega) (by simp; omega)
        refine ⟨((l.length : Int), r, true), by simp at hr ⊢; omega, ?_, ?_⟩
        · simp only [if_true, Bool.not_true, Bool.false_eq_true, if_false]
          exact (hrk k (by omega)).1
        · simp only [if_true, Int.toNat_natCast]
          rw [(hrk (k + 1) (by omega)).2, Option.bind_some]
theorem pure : ∀ (l0 : List Int) (a1 : Int) (a2 : Int), (∀ y0 ∈ l0, Opn.okI y0) → l0.length ≤ 9223372036854775807 → Opn.okI a1 → Opn.okI a2 → ∃ k, laws_FnExactMakePuzzle.f k l0 a1 a2 = some true := by
  intro l a s _ hn _ _
  obtain ⟨K, hK⟩ : ∃ K, K = l.length + 400 := ⟨_, rfl⟩
  refine ⟨K + 1, ?_⟩
  unfold laws_FnExactMakePuzzle.f
  by_cases hg : (l.length : Int) > 1048576
  · rw [if_pos hg]
  · rw [if_neg hg, toIntS_eq (by omega) (by omega)]
    simp only [Option.bind_some]
    obtain ⟨⟨n, c, b⟩, hp0, e1, e2⟩ := both (l := l) (by omega) a s (k := l.length + 300) (by omega)
    have hp : c.length ≤ 100 := hp0
    have he1 : ∀ k, l.length + 300 ≤ k → spec_MakePuzzle.f k l a s = some (n, c, b) := fun k hk => at_rounds (fun k => spec_MakePuzzle.mono l a s k) hk e1
    have he2 : ∀ k, l.length + 300 ≤ k → impl_MakePuzzle.f k l a s = some (n, c, b) := fun k hk => at_rounds (fun k => impl_MakePuzzle.mono l a s k) hk e2
    rw [he1 _ (by omega), he2 _ (by omega)]
    simp only [Option.bind_some]
    rw [eqPuzzle_eq (by omega) (by omega), Option.bind_some, if_pos rfl]
    obtain ⟨K, rfl⟩ := k_succ (show 0 < K by omega)
    simp only [laws_FnExactMakePuzzle.j0]
    rw [if_neg (by simp), toIntS_eq (by omega) (by omega)]
    simp only [Option.bind_some]
    rw [eqIntS_eq (by omega) (by omega)]
    simp only [Option.bind_some]
    obtain ⟨l', m1, m2, m3⟩ := markIntS_eq (l := l) (by omega) (k := K + 1) (by omega)
    rw [if_pos trivial, m1]
    simp only [Option.bind_some]
    rw [if_neg (by omega), eqPuzzle_eq (by omega) (by omega)]
    simp only [Option.bind_some]
    rw [if_pos trivial]
    obtain ⟨K, rfl⟩ := k_succ (show 0 < K by omega)
    simp only [laws_FnExactMakePuzzle.j1]
    rw [if_neg (by simp), markPuzzle_eq (by omega) (by omega) (by omega) (by omega)]
    simp only [Option.bind_some]
    rw [heldPuzzle_eq (by omega) (by omega) (by omega) (by omega)]
    simp only [Option.bind_some]
    rw [if_neg (by omega), if_pos trivial, toIntS_eq (by omega) (by omega)]
    simp only [Option.bind_some]
    rw [he2 _ (by omega)]
    simp only [Option.bind_some]
    rw [eqPuzzle_eq (by omega) (by omega)]
    simp only [Option.bind_some]
    rw [if_pos trivial]
    obtain ⟨K, rfl⟩ := k_succ (show 0 < K by omega)
    simp only [laws_FnExactMakePuzzle.j2]
    rw [if_neg (by simp), heldPuzzle_eq (by omega) (by omega) (by omega) (by omega)]
    simp only [Option.bind_some]
    rw [if_neg (by omega), if_pos trivial]

end Go.Proofs.Ytkgbahokhifojaa.fnExactMakePuzzle
