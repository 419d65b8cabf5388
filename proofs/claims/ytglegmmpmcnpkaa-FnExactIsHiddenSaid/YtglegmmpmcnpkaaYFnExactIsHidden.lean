import Derived.Test.YtglegmmpmcnpkaaOpn
import Derived.Test.YtglegmmpmcnpkaaQFnExactIsHiddenx2
namespace Go.Proofs.Ytglegmmpmcnpkaa.fnExactIsHidden
open Go.RowKit Go.Proofs.YtglegmmpmcnpkaaW.PrintWords Go.Proofs.YtglegmmpmcnpkaaW.PrintLast Go.Proofs.YtglegmmpmcnpkaaW.PrintMore Go.Proofs.Ytglegmmpmcnpkaa.QFnExactIsHidden
set_option linter.unusedVariables false
set_option linter.unusedSimpArgs false

/-- x lies between a and b. -/
def inB (x a b : Int) : Bool := decide (a ≤ x) && decide (x ≤ b)
theorem inB_true {x a b : Int} : inB x a b = true ↔ a ≤ x ∧ x ≤ b := by simp [inB]
theorem wrap_id {n : Int} (h0 : -9223372036854775808 ≤ n) (h1 : n ≤ 9223372036854775807) : wrap64 n = n := by
  unfold wrap64
  omega
theorem wrap_succ {i n : Nat} (h : i < n) (hn : n ≤ 9223372036854775807) : wrap64 ((i : Int) + 1) = ((i + 1 : Nat) : Int) := by
  unfold wrap64
  omega
theorem getD_take {α : Type} (l : List α) (i : Nat) (h : i < l.length) (z : α) : l.take (i + 1) = l.take i ++ [l.getD i z] := by
  rw [List.take_succ_eq_append_getElem h, List.getD_eq_getElem?_getD, List.getElem?_eq_getElem h]
  rfl
theorem getD_drop {α : Type} (l : List α) (i : Nat) (h : i < l.length) (z : α) : l.drop i = l.getD i z :: l.drop (i + 1) := by
  rw [List.drop_eq_getElem_cons h, List.getD_eq_getElem?_getD, List.getElem?_eq_getElem h]
  rfl
theorem set_take {α : Type} (l : List α) (i : Nat) (h : i < l.length) (v : α) : (l.set i v).take (i + 1) = l.take i ++ [v] := by
  rw [List.take_succ_eq_append_getElem (by rw [List.length_set]; exact h), List.take_set_of_le (Nat.le_refl i), List.getElem_set_self]
theorem k_succ {k d : Nat} (h : d < k) : ∃ m, k = m + 1 := ⟨k - 1, by omega⟩
theorem l1In_eq (x a b : Int) : spec_l1In.f x a b = some (inB x a b) := by
  unfold spec_l1In.f inB
  by_cases h : a ≤ x <;> simp [h]
theorem in_eq (x a b : Int) : impl_in.f x a b = some (inB x a b) := by
  unfold impl_in.f inB
  by_cases h : a ≤ x <;> simp [h]
theorem toIntS_l0 {l : List Int} (hn : l.length ≤ 9223372036854775807) : ∀ (d k i : Nat) (x : List Int), i + d = l.length → x.length = l.length → x.take i = l.take i → d < k → laws_toIntS.l0 k l x (i : Int) = some l := by
  intro d
  induction d with
  | zero =>
    intro k i x hi hx ht hk
    obtain ⟨k, rfl⟩ := k_succ hk
    simp only [laws_toIntS.l0]
    rw [if_neg (by omega)]
    rw [show i = l.length by omega, List.take_length, ← hx, List.take_length] at ht
    rw [ht]
  | succ d ih =>
    intro k i x hi hx ht hk
    obtain ⟨k, rfl⟩ := k_succ hk
    have hlt : i < l.length := by omega
    simp only [laws_toIntS.l0]
    rw [if_pos (by omega), if_pos (by omega), if_pos (by omega), wrap_succ hlt hn]
    refine ih k (i + 1) _ (by omega) (by rw [List.length_set]; exact hx) ?_ (by omega)
    rw [Int.toNat_natCast, set_take _ _ (by omega), ht, getD_take l i hlt 0]
    rfl
theorem toIntS_eq {l : List Int} (hn : l.length ≤ 1048576) {k : Nat} (hk : l.length < k) : laws_toIntS.f k l = some l := by
  unfold laws_toIntS.f
  rw [if_pos (by omega), if_pos (by omega)]
  exact toIntS_l0 (by omega) l.length k 0 _ (by omega) (by simp) (by simp) hk
theorem eqIntS_l0 {l : List Int} (hn : l.length ≤ 9223372036854775807) : ∀ (d k i : Nat), i + d = l.length → d < k → laws_eqIntS.l0 k l l (i : Int) = some true := by
  intro d
  induction d with
  | zero =>
    intro k i hi hk
    obtain ⟨k, rfl⟩ := k_succ hk
    simp only [laws_eqIntS.l0]
    rw [if_neg (by omega)]
  | succ d ih =>
    intro k i hi hk
    obtain ⟨k, rfl⟩ := k_succ hk
    have hlt : i < l.length := by omega
    simp only [laws_eqIntS.l0]
    rw [if_pos (by omega), if_pos (by omega), if_pos (by omega), if_pos trivial, wrap_succ hlt hn]
    exact ih k (i + 1) (by omega) (by omega)
theorem eqIntS_eq {l : List Int} (hn : l.length ≤ 9223372036854775807) {k : Nat} (hk : l.length < k) : laws_eqIntS.f k l l = some true := by
  unfold laws_eqIntS.f
  rw [if_pos rfl]
  exact eqIntS_l0 hn l.length k 0 (by omega) hk
theorem l1All_l0 {l : List Int} (hn : l.length ≤ 9223372036854775807) (a b : Int) : ∀ (d k i : Nat), i + d = l.length → d < k → spec_l1All.l0 k a b l (l.length : Int) (i : Int) = some ((l.drop i).all fun x => inB x a b) := by
  intro d
  induction d with
  | zero =>
    intro k i hi hk
    obtain ⟨k, rfl⟩ := k_succ hk
    simp only [spec_l1All.l0]
    rw [if_neg (by omega), show i = l.length by omega, List.drop_length]
    rfl
  | succ d ih =>
    intro k i hi hk
    obtain ⟨k, rfl⟩ := k_succ hk
    have hlt : i < l.length := by omega
    simp only [spec_l1All.l0]
    rw [if_pos (by omega), if_pos (by omega), if_pos (by omega), l1In_eq, Option.bind_some, wrap_succ hlt hn, ih k (i + 1) (by omega) (by omega), getD_drop l i hlt 0, List.all_cons]
    show (if inB (l.getD i 0) a b = true then _ else _) = _
    cases inB (l.getD i 0) a b <;> simp
theorem l1All_eq {l : List Int} (hn : l.length ≤ 9223372036854775807) (a b : Int) {k : Nat} (hk : l.length < k) : spec_l1All.f k l a b = some (l.all fun x => inB x a b) := by
  unfold spec_l1All.f
  exact l1All_l0 hn a b l.length k 0 (by omega) hk
theorem areIn_eq (l : List Int) (a b c d : Int) : impl_areIn.f l a b c d = some (inB (l.length : Int) c d && l.all fun x => inB x a b) := by
  unfold impl_areIn.f inB
  simp [List.not_any_eq_all_not]
/-- The numbers of a row from place i on do not fall; up to place i. -/
def upB (l : List Int) (i j : Nat) : Prop := ∀ m, i ≤ m → m < j → rd l ((m : Int) - 1) ≤ rd l (m : Int)
theorem pzHidden_l0 {l : List Int} (hn : l.length ≤ 1048576) : ∀ (d k i : Nat), 1 ≤ i → i + d = l.length ∨ (d = 0 ∧ l.length ≤ i ∧ i ≤ 1) → d < k → ∃ b, spec_pzHidden.l0 k l (i : Int) = some b ∧ (b = true ↔ upB l i l.length) := by
  intro d
  induction d with
  | zero =>
    intro k i h1 hi hk
    obtain ⟨k, rfl⟩ := k_succ hk
    refine ⟨true, ?_, ?_⟩
    · simp only [spec_pzHidden.l0]
      rw [if_neg (by omega)]
    · simp only [true_iff]
      intro m h2 h3
      omega
  | succ d ih =>
    intro k i h1 hi hk
    obtain ⟨k, rfl⟩ := k_succ hk
    have hlt : i < l.length := by omega
    have hw : wrap64 ((i : Int) - 1) = (i : Int) - 1 := wrap_id (by omega) (by omega)
    simp only [spec_pzHidden.l0]
    rw [if_pos (by omega), hw, if_pos (by omega), if_pos (by omega), if_pos (by omega), wrap_succ hlt (by omega)]
    by_cases hgt : rd l ((i : Int) - 1) > rd l (i : Int)
    · rw [if_pos hgt]
      refine ⟨false, rfl, ?_⟩
      simp only [Bool.false_eq_true, false_iff]
      intro h
      have := h i (Nat.le_refl _) hlt
      omega
    · rw [if_neg hgt]
      obtain ⟨b, hb, hiff⟩ := ih k (i + 1) (by omega) (by omega) (by omega)
      refine ⟨b, hb, hiff.trans ⟨fun h m h2 h3 => ?_, fun h m h2 h3 => h m (by omega) h3⟩⟩
      by_cases e : m = i
      · subst e; omega
      · exact h m (by omega) h3
theorem isSorted_l0 {l : List Int} (hn : l.length ≤ 1048576) : ∀ (i k : Nat), i < l.length ∨ i = 0 → i < k → ∃ b, slices_IsSorted_int_int.l0 k l (i : Int) = some b ∧ (b = true ↔ upB l 1 (i + 1)) := by
  intro i
  induction i with
  | zero =>
    intro k _ hk
    obtain ⟨k, rfl⟩ := k_succ hk
    refine ⟨true, ?_, ?_⟩
    · simp only [slices_IsSorted_int_int.l0]
      rw [if_neg (by omega)]
    · simp only [true_iff]
      intro m h2 h3
      omega
  | succ i ih =>
    intro k hi hk
    obtain ⟨k, rfl⟩ := k_succ hk
    have hw : wrap64 (((i + 1 : Nat) : Int) - 1) = (i : Int) := by rw [wrap_id (by omega) (by omega)]; omega
    simp only [slices_IsSorted_int_int.l0]
    rw [if_pos (by omega), if_pos (by omega), if_pos (by omega), hw, if_pos (by omega), if_pos (by omega)]
    have hl : cmp_Less_int.f (rd l ((i + 1 : Nat) : Int)) (rd l (i : Int)) = some (decide (rd l ((i + 1 : Nat) : Int) < rd l (i : Int))) := by
      unfold cmp_Less_int.f cmp_isNaN_int.f
      simp
    rw [hl, Option.bind_some]
    by_cases hgt : rd l ((i + 1 : Nat) : Int) < rd l (i : Int)
    · rw [if_pos (by simpa using hgt)]
      refine ⟨false, rfl, ?_⟩
      simp only [Bool.false_eq_true, false_iff]
      intro h
      have := h (i + 1) (by omega) (by omega)
      rw [show ((i + 1 : Nat) : Int) - 1 = (i : Int) by omega] at this
      omega
    · rw [if_neg (by simpa using hgt)]
      obtain ⟨b, hb, hiff⟩ := ih k (by omega) (by omega)
      refine ⟨b, hb, hiff.trans ⟨fun h m h2 h3 => ?_, fun h m h2 h3 => h m h2 (by omega)⟩⟩
      by_cases e : m = i + 1
      · subst e
        rw [show ((i + 1 : Nat) : Int) - 1 = (i : Int) by omega]
        omega
      · exact h m h2 (by omega)
/-- Hidden times. -/
theorem hidden_both {l : List Int} (hn : l.length ≤ 1048576) {k : Nat} (hk : l.length + 1 < k) : ∃ b, spec_IsHidden.f k l = some b ∧ impl_IsHidden.f k l = some b := by
  unfold spec_IsHidden.f spec_pzHidden.f spec_pzPeople.f impl_IsHidden.f
  rw [l1In_eq, areIn_eq, l1All_eq (by omega) 1 6 (by omega)]
  simp only [Option.bind_some]
  obtain ⟨m, rfl⟩ := k_succ hk
  cases h1 : inB (l.length : Int) 1 4
  · exact ⟨false, by simp [spec_pzHidden.j0], by simp⟩
  · cases h2 : l.all fun x => inB x 1 6
    · exact ⟨false, by simp [spec_pzHidden.j0], by simp⟩
    · rw [inB_true] at h1
      obtain ⟨b, hb, hbi⟩ := pzHidden_l0 hn (l.length - 1) m 1 (by omega) (by omega) (by omega)
      obtain ⟨c, hc, hci⟩ := isSorted_l0 hn (l.length - 1) (m + 1) (by omega) (by omega)
      have e : b = c := by
        rw [Bool.eq_iff_iff, hbi, hci, show l.length - 1 + 1 = l.length by omega]
      subst e
      refine ⟨b, ?_, ?_⟩
      · simp only [if_true, Bool.not_true, spec_pzHidden.j0, Bool.false_eq_true, if_false]
        rw [show ((1 : Nat) : Int) = 1 by rfl] at hb
        rw [hb]
        rfl
      · simp only [Bool.and_self, if_true]
        unfold slices_IsSorted_int_int.f
        rw [show wrap64 ((l.length : Int) - 1) = ((l.length - 1 : Nat) : Int) by rw [wrap_id (by omega) (by omega)]; omega, hc]
        rfl
theorem pure : ∀ (l0 : List Int), (∀ y0 ∈ l0, Opn.okI y0) → l0.length ≤ 9223372036854775807 → ∃ k, laws_FnExactIsHidden.f k l0 = some true := by
  intro l _ hn
  refine ⟨l.length + 2, ?_⟩
  unfold laws_FnExactIsHidden.f
  by_cases hg : (l.length : Int) > 1048576
  · rw [if_pos hg]
  · rw [if_neg hg]
    obtain ⟨b, h1, h2⟩ := hidden_both (l := l) (by omega) (k := l.length + 2) (by omega)
    rw [toIntS_eq (by omega) (by omega)]
    simp only [Option.bind_some, h1, h2]
    rw [if_neg (by simp), eqIntS_eq hn (by omega)]
    simp

end Go.Proofs.Ytglegmmpmcnpkaa.fnExactIsHidden
