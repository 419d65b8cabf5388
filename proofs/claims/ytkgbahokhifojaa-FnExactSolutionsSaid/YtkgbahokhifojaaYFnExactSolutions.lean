/- FnExactSolutions, the plain statement: what the printed functions compute makes the law's function return true. Conditions: the numbers are of their kind. -/
import Derived.Test.YtkgbahokhifojaaOpn
import Derived.Test.YtkgbahokhifojaaQHidx36
namespace Go.Proofs.Ytkgbahokhifojaa.fnExactSolutions
open Go.RowKit Go.Proofs.YtkgbahokhifojaaW.PrintWords Go.Proofs.YtkgbahokhifojaaW.PrintLast Go.Proofs.YtkgbahokhifojaaW.PrintMore Go.Proofs.Ytkgbahokhifojaa.QHid
set_option linter.unusedVariables false
set_option linter.unusedSimpArgs false

/-- x lies between a and b. -/
def inB (x a b : Int) : Bool := decide (a ≤ x) && decide (x ≤ b)
theorem inB_true {x a b : Int} : inB x a b = true ↔ a ≤ x ∧ x ≤ b := by simp [inB]
theorem wrap_id {n : Int} (h0 : -9223372036854775808 ≤ n) (h1 : n ≤ 9223372036854775807) : wrap64 n = n := by
  unfold wrap64
  omega
theorem wrap_succ {i n : Nat} (h : i < n) (hn : n ≤ 9223372036854775807) : wrap64 ((i : Int) + 1) = ((i + 1 : Nat) : Int) := by
  unfold wrap64
  omega
theorem getD_take {α : Type} (l : List α) (i : Nat) (h : i < l.length) (z : α) : l.take (i + 1) = l.take i ++ [l.getD i z] := by
  rw [List.take_succ_eq_append_getElem h, List.getD_eq_getElem?_getD, List.getElem?_eq_getElem h]
  rfl
theorem getD_drop {α : Type} (l : List α) (i : Nat) (h : i < l.length) (z : α) : l.drop i = l.getD i z :: l.drop (i + 1) := by
  rw [List.drop_eq_getElem_cons h, List.getD_eq_getElem?_getD, List.getElem?_eq_getElem h]
  rfl
theorem set_take {α : Type} (l : List α) (i : Nat) (h : i < l.length) (v : α) : (l.set i v).take (i + 1) = l.take i ++ [v] := by
  rw [List.take_succ_eq_append_getElem (by rw [List.length_set]; exact h), List.take_set_of_le (Nat.le_refl i), List.getElem_set_self]
theorem k_succ {k d : Nat} (h : d < k) : ∃ m, k = m + 1 := ⟨k - 1, by omega⟩
theorem getD_map_at {α β : Type} (f : α → β) (l : List α) (i : Nat) (h : i < l.length) (z : α) (y : β) : (l.map f).getD i y = f (l.getD i z) := by
  rw [List.getD_eq_getElem?_getD, List.getD_eq_getElem?_getD, List.getElem?_map, List.getElem?_eq_getElem h]
  rfl
theorem l1In_eq (x a b : Int) : spec_l1In.f x a b = some (inB x a b) := by
  unfold spec_l1In.f inB
  by_cases h : a ≤ x <;> simp [h]
theorem in_eq (x a b : Int) : impl_in.f x a b = some (inB x a b) := by
  unfold impl_in.f inB
  by_cases h : a ≤ x <;> simp [h]
/-- A clue of so many people (of whom there is a number). -/
def clueT (n kd a b : Int) : Bool :=
  if kd = 0 then inB a 0 (n - 1) && inB b 1 6 else if kd = 4 then inB a 0 (n - 1) && inB b 0 5 else if kd = 1 then inB a 1 24 && decide (b = 0)
    else if kd = 2 ∨ kd = 3 then inB a 1 100 && decide (b = 0) else if kd = 5 then inB a 0 n && decide (b = 0) else false
theorem wrap_pred {n : Int} (h : inB n 1 4 = true) : wrap64 (n - 1) = n - 1 := by
  rw [inB_true] at h
  exact wrap_id (by omega) (by omega)
theorem pzClue_eq {n : Int} (h : inB n 1 4 = true) {k : Nat} (hk : 0 < k) (kd a b : Int) : spec_pzClue.f k n kd a b = some (clueT n kd a b) := by
  obtain ⟨k, rfl⟩ := k_succ hk
  unfold spec_pzClue.f clueT
  simp only [l1In_eq, Option.bind_some, spec_pzClue.j0]
  rw [wrap_pred h]
  by_cases h0 : kd = 0
  · subst h0; cases inB a 0 (n - 1) <;> simp
  by_cases h4 : kd = 4
  · subst h4; cases inB a 0 (n - 1) <;> simp
  by_cases hb : b = 0
  · subst hb
    by_cases h1 : kd = 1
    · subst h1; simp
    by_cases h2 : kd = 2
    · subst h2; simp
    by_cases h3 : kd = 3
    · subst h3; simp
    by_cases h5 : kd = 5
    · subst h5; simp
    simp [h0, h1, h2, h3, h4, h5]
  · simp [h0, h4, hb]
theorem IsClue_eq {k : Nat} (hk : 0 < k) (n kd a b : Int) : impl_IsClue.f k n kd a b = some (inB n 1 4 && clueT n kd a b) := by
  obtain ⟨k, rfl⟩ := k_succ hk
  unfold impl_IsClue.f impl_isPeople.f clueT
  simp only [in_eq, Option.bind_some, impl_IsClue.j0]
  cases h : inB n 1 4
  · simp
  · rw [wrap_pred h]
    by_cases h0 : kd = 0
    · subst h0; cases inB a 0 (n - 1) <;> simp
    by_cases h4 : kd = 4
    · subst h4; cases inB a 0 (n - 1) <;> simp
    by_cases h1 : kd = 1
    · subst h1; cases inB a 1 24 <;> simp <;> rfl
    by_cases h2 : kd = 2
    · subst h2; cases inB a 1 100 <;> simp <;> rfl
    by_cases h3 : kd = 3
    · subst h3; cases inB a 1 100 <;> simp <;> rfl
    by_cases h5 : kd = 5
    · subst h5; cases inB a 0 n <;> simp <;> rfl
    simp [h0, h1, h2, h3, h4, h5]
/-- The law's clue as the program's. -/
def clueOf (c : S42) : S45 := ⟨c.f0, c.f1, c.f2⟩
theorem toClueS_l0 {l : List S42} (hn : l.length ≤ 9223372036854775807) : ∀ (d k i : Nat) (x : List S45), i + d = l.length → x.length = l.length → x.take i = (l.map clueOf).take i → d < k → laws_toClueS.l0 k l x (i : Int) = some (l.map clueOf) := by
  intro d
  induction d with
  | zero =>
    intro k i x hi hx ht hk
    obtain ⟨k, rfl⟩ := k_succ hk
    simp only [laws_toClueS.l0]
    rw [if_neg (by omega)]
    rw [show i = l.length by omega, ← hx, List.take_length, hx, ← List.length_map (f := clueOf), List.take_length] at ht
    rw [ht]
  | succ d ih =>
    intro k i x hi hx ht hk
    obtain ⟨k, rfl⟩ := k_succ hk
    have hlt : i < l.length := by omega
    simp only [laws_toClueS.l0, laws_toClue.f, Option.bind_some]
    rw [if_pos (by omega), if_pos (by omega), if_pos (by omega), wrap_succ hlt hn]
    refine ih k (i + 1) _ (by omega) (by rw [List.length_set]; exact hx) ?_ (by omega)
    rw [Int.toNat_natCast, set_take _ _ (by omega), ht, getD_take (l.map clueOf) i (by rw [List.length_map]; exact hlt) (clueOf z42), getD_map_at clueOf l i hlt z42]
    rfl
theorem toClueS_eq {l : List S42} (hn : l.length ≤ 1048576) {k : Nat} (hk : l.length < k) : laws_toClueS.f k l = some (l.map clueOf) := by
  unfold laws_toClueS.f
  rw [if_pos (by omega), if_pos (by omega)]
  exact toClueS_l0 (by omega) l.length k 0 _ (by omega) (by simp) (by simp) hk
theorem toPuzzle_eq {n : Int} {l : List S42} (hn : l.length ≤ 1048576) {k : Nat} (hk : l.length < k) : laws_toPuzzle.f k n l = some (n, l.map clueOf) := by
  unfold laws_toPuzzle.f
  rw [toClueS_eq hn hk]
  rfl
theorem szPuzzle_eq {n : Int} {l : List S42} (hn : l.length ≤ 9223372036854775807) (h : l.length ≤ 1048576) : laws_szPuzzle.f n l 1048576 = some (1048576 - (l.length : Int)) := by
  unfold laws_szPuzzle.f laws_szClueS.f
  rw [wrap_id (by omega) (by omega), if_neg (by omega), Option.bind_some, if_neg (by omega)]
theorem szPuzzle_big {n : Int} {l : List S42} (hn : l.length ≤ 9223372036854775807) (h : ¬ l.length ≤ 1048576) : laws_szPuzzle.f n l 1048576 = some (-1) := by
  unfold laws_szPuzzle.f laws_szClueS.f
  rw [wrap_id (by omega) (by omega), if_pos (by omega), Option.bind_some, if_pos (by omega)]
theorem eqClueS_l0 {l : List S45} (hn : l.length ≤ 9223372036854775807) : ∀ (d k i : Nat), i + d = l.length → d < k → laws_eqClueS.l0 k l l (i : Int) = some true := by
  intro d
  induction d with
  | zero =>
    intro k i hi hk
    obtain ⟨k, rfl⟩ := k_succ hk
    simp only [laws_eqClueS.l0]
    rw [if_neg (by omega)]
  | succ d ih =>
    intro k i hi hk
    obtain ⟨k, rfl⟩ := k_succ hk
    have hlt : i < l.length := by omega
    simp only [laws_eqClueS.l0, laws_eqClue.f, if_true, Option.bind_some]
    rw [if_pos (by omega), if_pos (by omega), if_pos (by omega), wrap_succ hlt hn]
    exact ih k (i + 1) (by omega) (by omega)
theorem eqPuzzle_eq {n : Int} {l : List S45} (hn : l.length ≤ 9223372036854775807) {k : Nat} (hk : l.length < k) : laws_eqPuzzle.f k n l n l = some true := by
  unfold laws_eqPuzzle.f laws_eqClueS.f
  rw [if_pos rfl, if_pos rfl, show (0 : Int) = ((0 : Nat) : Int) by rfl, eqClueS_l0 hn l.length k 0 (by omega) hk]
  rfl
/-- A puzzle. -/
def goodP (n : Int) (l : List S45) : Bool := inB n 1 4 && (decide (l.length ≤ 6) && l.all fun c => clueT n c.f0 c.f1 c.f2)
theorem pzGood_l0 {n : Int} (h4 : inB n 1 4 = true) {l : List S45} (hn : l.length ≤ 9223372036854775807) : ∀ (d k i : Nat), i + d = l.length → d + 1 < k → spec_pzGood.l0 k l (l.length : Int) (i : Int) n l = some ((l.drop i).all fun c => clueT n c.f0 c.f1 c.f2) := by
  intro d
  induction d with
  | zero =>
    intro k i hi hk
    obtain ⟨k, rfl⟩ := k_succ hk
    simp only [spec_pzGood.l0]
    rw [if_neg (by omega), show i = l.length by omega, List.drop_length]
    rfl
  | succ d ih =>
    intro k i hi hk
    obtain ⟨k, rfl⟩ := k_succ hk
    have hlt : i < l.length := by omega
    simp only [spec_pzGood.l0]
    rw [if_pos (by omega), if_pos (by omega), if_pos (by omega), pzClue_eq h4 (by omega), Option.bind_some, wrap_succ hlt hn, ih k (i + 1) (by omega) (by omega), getD_drop l i hlt z45, List.all_cons]
    show (if clueT n (l.getD i z45).f0 (l.getD i z45).f1 (l.getD i z45).f2 = true then _ else _) = _
    cases clueT n (l.getD i z45).f0 (l.getD i z45).f1 (l.getD i z45).f2 <;> simp
theorem pzGood_eq (n : Int) {l : List S45} (hn : l.length ≤ 9223372036854775807) {k : Nat} (hk : l.length + 2 < k) : spec_pzGood.f k n l = some (goodP n l) := by
  unfold spec_pzGood.f spec_pzPeople.f goodP
  rw [l1In_eq]
  simp only [Option.bind_some]
  obtain ⟨k, rfl⟩ := k_succ hk
  cases h4 : inB n 1 4
  · simp [spec_pzGood.j0]
  · by_cases h6 : l.length ≤ 6
    · have e : decide ((l.length : Int) > 6) = false := decide_eq_false (by omega)
      simp only [if_true, spec_pzGood.j0, e, Bool.false_eq_true, if_false]
      rw [show (0 : Int) = ((0 : Nat) : Int) by rfl, pzGood_l0 h4 hn l.length k 0 (by omega) (by omega)]
      simp [h6]
    · have e : decide ((l.length : Int) > 6) = true := decide_eq_true (by omega)
      simp [spec_pzGood.j0, e, h6]
theorem IsPuzzle_eq (n : Int) {l : List S45} {k : Nat} (hk : 0 < k) : impl_IsPuzzle.f k n l = some (goodP n l) := by
  unfold impl_IsPuzzle.f impl_isPeople.f goodP
  rw [in_eq]
  simp only [Option.bind_some, IsClue_eq hk]
  rw [anyO_some (fun c : S45 => !(inB n 1 4 && clueT n c.f0 c.f1 c.f2))]
  cases h4 : inB n 1 4
  · simp
  · by_cases h6 : l.length ≤ 6
    · rw [if_pos rfl, if_pos (by omega)]
      simp [h6, List.not_any_eq_all_not]
    · rw [if_pos rfl, if_neg (by omega)]
      simp [h6]
theorem rd_set_clue {x : List S45} {i : Nat} (h : i < x.length) (v : S45) : rd_T45 (x.set i v) (i : Int) = v := by
  unfold rd_T45
  rw [Int.toNat_natCast, List.getD_eq_getElem?_getD, List.getElem?_set_self h]
  rfl
/-- The clues that are marked from m on. -/
def marksC (n : Nat) (m : Int) : List S45 := (List.range n).map fun j : Nat => (⟨m + 3 * (j : Int), m + 3 * (j : Int) + 1, m + 3 * (j : Int) + 2⟩ : S45)
theorem marksC_len (n : Nat) (m : Int) : (marksC n m).length = n := by simp [marksC]
theorem marksC_get {n i : Nat} (m : Int) (h : i < n) (z : S45) : (marksC n m).getD i z = ⟨m + 3 * (i : Int), m + 3 * (i : Int) + 1, m + 3 * (i : Int) + 2⟩ := by
  rw [List.getD_eq_getElem?_getD, marksC, List.getElem?_map, List.getElem?_range h]
  rfl
theorem markClueS_l0 {n : Nat} {m : Int} (h0 : 0 ≤ m) (hm : m ≤ 100000000) (hn : n ≤ 2000000) : ∀ (d k i : Nat) (x : List S45), i + d = n → x.length = n → x.take i = (marksC n m).take i → d < k →
    laws_markClueS.l0 k x (m + 3 * (i : Int)) (i : Int) = some (m + 3 * (n : Int), marksC n m) := by
  intro d
  induction d with
  | zero =>
    intro k i x hi hx ht hk
    obtain ⟨k, rfl⟩ := k_succ hk
    simp only [laws_markClueS.l0]
    rw [if_neg (by omega)]
    rw [List.take_of_length_le (by omega), List.take_of_length_le (by rw [marksC_len]; omega)] at ht
    rw [ht, show i = n by omega]
  | succ d ih =>
    intro k i x hi hx ht hk
    obtain ⟨k, rfl⟩ := k_succ hk
    have hlt : i < x.length := by omega
    simp only [laws_markClueS.l0]
    rw [if_pos (by omega), if_pos (by omega)]
    simp only [Option.bind_some, Int.toNat_natCast]
    have r1 := fun v => rd_set_clue (x := x) hlt v
    have r2 := fun v u => rd_set_clue (x := x.set i v) (i := i) (by rw [List.length_set]; exact hlt) u
    simp only [r1, r2, List.set_set]
    rw [wrap_succ hlt (by omega),
      wrap_id (n := m + 3 * (i : Int) + 1) (by omega) (by omega), wrap_id (n := m + 3 * (i : Int) + 1 + 1) (by omega) (by omega), wrap_id (n := m + 3 * (i : Int) + 1 + 1 + 1) (by omega) (by omega),
      show m + 3 * (i : Int) + 1 + 1 + 1 = m + 3 * ((i + 1 : Nat) : Int) by omega, show m + 3 * (i : Int) + 1 + 1 = m + 3 * (i : Int) + 2 by omega]
    refine ih k (i + 1) _ (by omega) (by rw [List.length_set]; exact hx) ?_ (by omega)
    rw [set_take _ _ hlt, ht, getD_take (marksC n m) i (by rw [marksC_len]; omega) z45, marksC_get m (by omega)]
theorem markPuzzle_eq {p m : Int} (h0 : 0 ≤ m) (hm : m ≤ 100000000) {l : List S45} (hn : l.length ≤ 2000000) {k : Nat} (hk : l.length < k) :
    laws_markPuzzle.f k p l m = some (m + 3 * (l.length : Int), marksC l.length m) := by
  unfold laws_markPuzzle.f laws_markClueS.f
  have h := markClueS_l0 h0 hm hn l.length k 0 l (by omega) rfl (by simp) hk
  rw [show m + 3 * ((0 : Nat) : Int) = m by omega] at h
  rw [show ((0 : Nat) : Int) = 0 by rfl] at h
  rw [h]
  rfl
theorem eqIntS_l0 {l : List Int} (hn : l.length ≤ 9223372036854775807) : ∀ (d k i : Nat), i + d = l.length → d < k → laws_eqIntS.l0 k l l (i : Int) = some true := by
  intro d
  induction d with
  | zero =>
    intro k i hi hk
    obtain ⟨k, rfl⟩ := k_succ hk
    simp only [laws_eqIntS.l0]
    rw [if_neg (by omega)]
  | succ d ih =>
    intro k i hi hk
    obtain ⟨k, rfl⟩ := k_succ hk
    have hlt : i < l.length := by omega
    simp only [laws_eqIntS.l0]
    rw [if_pos (by omega), if_pos (by omega), if_pos (by omega), if_pos trivial, wrap_succ hlt hn]
    exact ih k (i + 1) (by omega) (by omega)
theorem eqIntS_eq {l : List Int} (hn : l.length ≤ 9223372036854775807) {k : Nat} (hk : l.length < k) : laws_eqIntS.f k l l = some true := by
  unfold laws_eqIntS.f
  rw [if_pos rfl]
  exact eqIntS_l0 hn l.length k 0 (by omega) hk
theorem mem_getD {α : Type} {l : List α} {i : Nat} (h : i < l.length) (z : α) : l.getD i z ∈ l := by
  rw [List.getD_eq_getElem?_getD, List.getElem?_eq_getElem h]
  exact List.getElem_mem h
theorem rd_row (l : List (List Int)) (i : Nat) : rd_L1 l (i : Int) = l.getD i [] := by
  unfold rd_L1
  rw [Int.toNat_natCast]
theorem eqIntSS_l0 {l : List (List Int)} (hn : l.length ≤ 1048576) (hl : ∀ x ∈ l, x.length ≤ 1048576) : ∀ (d k i : Nat), i + d = l.length → d + 1048577 < k → laws_eqIntSS.l0 k l l (i : Int) = some true := by
  intro d
  induction d with
  | zero =>
    intro k i hi hk
    obtain ⟨k, rfl⟩ := k_succ hk
    simp only [laws_eqIntSS.l0]
    rw [if_neg (by omega)]
  | succ d ih =>
    intro k i hi hk
    obtain ⟨k, rfl⟩ := k_succ hk
    have hlt : i < l.length := by omega
    have hm := hl _ (mem_getD hlt [])
    simp only [laws_eqIntSS.l0, rd_row]
    rw [if_pos (by omega), if_pos (by omega), if_pos (by omega), eqIntS_eq (by omega) (by omega), Option.bind_some, if_pos rfl, wrap_succ hlt (by omega)]
    exact ih k (i + 1) (by omega) (by omega)
theorem eqIntSS_eq {l : List (List Int)} (hn : l.length ≤ 1048576) (hl : ∀ x ∈ l, x.length ≤ 1048576) {k : Nat} (hk : l.length + 1048577 < k) : laws_eqIntSS.f k l l = some true := by
  unfold laws_eqIntSS.f
  rw [if_pos rfl]
  exact eqIntSS_l0 hn hl l.length k 0 (by omega) hk
theorem markIntS_l0 {m : Nat} (hm : m ≤ 100000000) : ∀ (d k i : Nat) (l : List Int), i + d = l.length → l.length ≤ 1048576 → (∀ j, j < i → l.getD j 0 = ((m + j : Nat) : Int)) → d < k →
    ∃ l', laws_markIntS.l0 k l ((m + i : Nat) : Int) (i : Int) = some (((m + l.length : Nat) : Int), l') ∧ l'.length = l.length ∧ ∀ j, j < l.length → l'.getD j 0 = ((m + j : Nat) : Int) := by
  intro d
  induction d with
  | zero =>
    intro k i l hi hn hp hk
    obtain ⟨k, rfl⟩ := k_succ hk
    simp only [laws_markIntS.l0]
    refine ⟨l, ?_, rfl, fun j hj => hp j (by omega)⟩
    rw [if_neg (by omega), show m + i = m + l.length by omega]
  | succ d ih =>
    intro k i l hi hn hp hk
    obtain ⟨k, rfl⟩ := k_succ hk
    have hlt : i < l.length := by omega
    have e1 : wrap64 (((m + i : Nat) : Int) + 1) = ((m + (i + 1) : Nat) : Int) := by unfold wrap64; omega
    have e2 : ((i : Int)).toNat = i := by omega
    simp only [laws_markIntS.l0]
    rw [if_pos (by omega), if_pos (by omega), wrap_succ hlt (by omega), e1, e2]
    obtain ⟨l', h1, h2, h3⟩ := ih k (i + 1) (l.set i ((m + i : Nat) : Int)) (by rw [List.length_set]; omega) (by rw [List.length_set]; exact hn) (by
      intro j hj
      by_cases h : j = i
      · subst h
        rw [List.getD_eq_getElem?_getD, List.getElem?_set_self hlt]
        rfl
      · rw [List.getD_eq_getElem?_getD, List.getElem?_set_ne (Ne.symm h), ← List.getD_eq_getElem?_getD]
        exact hp j (by omega)) (by omega)
    rw [List.length_set] at h1 h2 h3
    exact ⟨l', h1, h2, h3⟩
theorem markIntS_eq {m : Nat} (hm : m ≤ 100000000) {l : List Int} (hn : l.length ≤ 1048576) {k : Nat} (hk : l.length < k) :
    ∃ l', laws_markIntS.f k l (m : Int) = some (((m + l.length : Nat) : Int), l') ∧ l'.length = l.length ∧ ∀ j, j < l.length → l'.getD j 0 = ((m + j : Nat) : Int) := by
  unfold laws_markIntS.f
  exact markIntS_l0 hm l.length k 0 l (by omega) hn (fun j hj => absurd hj (Nat.not_lt_zero j)) hk
theorem heldIntS_l0 {m : Nat} (hm : m ≤ 100000000) {l : List Int} (hn : l.length ≤ 1048576) (h : ∀ j, j < l.length → l.getD j 0 = ((m + j : Nat) : Int)) : ∀ (d k i : Nat), i + d = l.length → d < k →
    laws_heldIntS.l0 k l ((m + i : Nat) : Int) (i : Int) = some ((m + l.length : Nat) : Int) := by
  intro d
  induction d with
  | zero =>
    intro k i hi hk
    obtain ⟨k, rfl⟩ := k_succ hk
    simp only [laws_heldIntS.l0]
    rw [if_neg (by omega), show m + i = m + l.length by omega]
  | succ d ih =>
    intro k i hi hk
    obtain ⟨k, rfl⟩ := k_succ hk
    have hlt : i < l.length := by omega
    have e1 : wrap64 (((m + i : Nat) : Int) + 1) = ((m + (i + 1) : Nat) : Int) := by unfold wrap64; omega
    simp only [laws_heldIntS.l0]
    rw [if_pos (by omega), if_pos (by omega), if_pos (show rd l (i : Int) = _ from h i hlt), wrap_succ hlt (by omega), e1]
    exact ih k (i + 1) (by omega) (by omega)
theorem heldIntS_eq {m : Nat} (hm : m ≤ 100000000) {l : List Int} (hn : l.length ≤ 1048576) (h : ∀ j, j < l.length → l.getD j 0 = ((m + j : Nat) : Int)) {k : Nat} (hk : l.length < k) : laws_heldIntS.f k l (m : Int) = some ((m + l.length : Nat) : Int) := by
  unfold laws_heldIntS.f
  exact heldIntS_l0 hm hn h l.length k 0 (by omega) hk
/-- Rows that hold the numbers from m on, up to m'. -/
def HeldR : Nat → List (List Int) → Nat → Prop
  | m, [], m' => m = m'
  | m, r :: rs, m' => (∀ j, j < r.length → r.getD j 0 = ((m + j : Nat) : Int)) ∧ HeldR (m + r.length) rs m'
theorem heldR_append : ∀ (a b : List (List Int)) (m m1 m2 : Nat), HeldR m a m1 → HeldR m1 b m2 → HeldR m (a ++ b) m2
  | [], _, _, _, _, h, k => by
    have e : _ = _ := h
    subst e
    exact k
  | r :: a, b, m, m1, m2, h, k => ⟨h.1, heldR_append a b (m + r.length) m1 m2 h.2 k⟩
theorem markSS_l0 : ∀ (rest done : List (List Int)) (k m0 m : Nat), HeldR m0 done m → (∀ r ∈ rest, r.length ≤ 10) → done.length + rest.length ≤ 2000 → m + 10 * rest.length ≤ 100000 → rest.length + 12 < k →
    ∃ (m' : Nat) (rest' : List (List Int)), laws_markIntSS.l0 k (done ++ rest) (m : Int) (done.length : Int) = some ((m' : Int), done ++ rest') ∧ rest'.length = rest.length ∧ (∀ r ∈ rest', r.length ≤ 10) ∧ HeldR m0 (done ++ rest') m' ∧ m' ≤ 100000 := by
  intro rest
  induction rest with
  | nil =>
    intro done k m0 m hd hr hl hm hk
    obtain ⟨k, rfl⟩ := k_succ hk
    simp only [laws_markIntSS.l0]
    rw [List.append_nil, if_neg (by omega)]
    exact ⟨m, [], by rw [List.append_nil], rfl, by simp, by rw [List.append_nil]; exact hd, by omega⟩
  | cons r rest ih =>
    intro done k m0 m hd hr hl hm hk
    obtain ⟨k, rfl⟩ := k_succ hk
    have hr0 := hr r List.mem_cons_self
    simp only [List.length_cons] at hl hm hk
    have hlen : (done ++ r :: rest).length = done.length + (rest.length + 1) := by simp
    obtain ⟨r', e1, e2, e3⟩ := markIntS_eq (m := m) (by omega) (l := r) (by omega) (k := k) (by omega)
    have eg : (done ++ r :: rest).getD (done.length : Int).toNat [] = r := by
      rw [Int.toNat_natCast, List.getD_eq_getElem?_getD, List.getElem?_append_right (Nat.le_refl _), Nat.sub_self]
      rfl
    have es : (done ++ r :: rest).set (done.length : Int).toNat r' = (done ++ [r']) ++ rest := by
      rw [Int.toNat_natCast, List.set_append_right _ _ (Nat.le_refl _), Nat.sub_self, List.append_assoc]
      rfl
    simp only [laws_markIntSS.l0]
    rw [if_pos (by omega), if_pos (by omega), eg, e1, Option.bind_some]
    dsimp only
    rw [es, wrap_succ (n := (done ++ r :: rest).length) (by omega) (by omega)]
    have hd2 : HeldR m0 (done ++ [r']) (m + r.length) := heldR_append done [r'] m0 m _ hd ⟨by rw [e2]; exact e3, by rw [e2]; rfl⟩
    obtain ⟨m', rest', f1, f2, f3, f4, f5⟩ := ih (done ++ [r']) k m0 (m + r.length) hd2 (fun q hq => hr q (List.mem_cons_of_mem _ hq)) (by simp; omega) (by omega) (by omega)
    have hdl : (done ++ [r']).length = done.length + 1 := by simp
    rw [hdl] at f1
    refine ⟨m', r' :: rest', ?_, by simp [f2], ?_, ?_, f5⟩
    · rw [f1, List.append_assoc]
      rfl
    · intro q hq
      rcases List.mem_cons.1 hq with rfl | hq
      · omega
      · exact f3 q hq
    · rw [List.append_assoc] at f4
      exact f4
theorem heldSS_l0 {l : List (List Int)} (hn : l.length ≤ 2000) (hr : ∀ r ∈ l, r.length ≤ 10) : ∀ (d k i m m' : Nat), i + d = l.length → HeldR m (l.drop i) m' → m + 10 * d ≤ 100000 → d + 12 < k → laws_heldIntSS.l0 k l (m : Int) (i : Int) = some (m' : Int) := by
  intro d
  induction d with
  | zero =>
    intro k i m m' hi h hm hk
    obtain ⟨k, rfl⟩ := k_succ hk
    simp only [laws_heldIntSS.l0]
    rw [List.drop_of_length_le (by omega)] at h
    have e : m = m' := h
    rw [if_neg (by omega), e]
  | succ d ih =>
    intro k i m m' hi h hm hk
    obtain ⟨k, rfl⟩ := k_succ hk
    have hlt : i < l.length := by omega
    rw [getD_drop l i hlt []] at h
    have hr0 := hr _ (mem_getD hlt [])
    simp only [laws_heldIntSS.l0]
    rw [if_pos (by omega), if_pos (by omega), rd_row, heldIntS_eq (m := m) (by omega) (by omega) h.1 (by omega), Option.bind_some, if_neg (by omega), wrap_succ hlt (by omega)]
    exact ih k (i + 1) _ m' (by omega) h.2 (by omega) (by omega)
/-- Rows are marked, and then they hold the marks. -/
theorem markSS_eq {l : List (List Int)} (hn : l.length ≤ 2000) (hr : ∀ r ∈ l, r.length ≤ 10) {k : Nat} (hk : l.length + 20 < k) :
    ∃ (m : Nat) (l' : List (List Int)), laws_markIntSS.f k l 1 = some ((m : Int), l') ∧ laws_heldIntSS.f k l' 1 = some (m : Int) := by
  obtain ⟨m, l', e1, e2, e3, e4, e5⟩ := markSS_l0 l [] k 1 1 rfl hr (by simpa using hn) (by omega) (by omega)
  refine ⟨m, l', e1, ?_⟩
  exact heldSS_l0 (by omega) e3 l'.length k 0 1 m (by omega) e4 (by omega) (by omega)
/-- The numbers of a row from place i on do not fall; up to place i. -/
def upB (l : List Int) (i j : Nat) : Prop := ∀ m, i ≤ m → m < j → rd l ((m : Int) - 1) ≤ rd l (m : Int)
/-- The model's value of a kind is what the program tells. -/
def chkK (l : List Int) (kd : Int) : Bool := match spec_pzValue.f 40 kd 0 l with
  | some v => decide (impl_told.f 40 kd 0 l = some (kd, v, 0))
  | none => false
def chkP (l : List Int) (kd : Int) (i : Nat) : Bool := match spec_pzValue.f 40 kd (i : Int) l with
  | some v => decide (impl_told.f 40 kd (i : Int) l = some (kd, (i : Int), v))
  | none => false
def chk (l : List Int) : Bool := (chkK l 1 && (chkK l 2 && (chkK l 3 && chkK l 5))) && (List.range l.length).all fun i => chkP l 0 i && chkP l 4 i
def six : List Int := [1, 2, 3, 4, 5, 6]
theorem mem6 {a : Int} (h : inB a 1 6 = true) : a ∈ six := by
  rw [inB_true] at h
  simp [six]
  omega
theorem all1 : (six.all fun a => chk [a]) = true := by decide +kernel
theorem all2 : (six.all fun a => six.all fun b => decide (b < a) || chk [a, b]) = true := by decide +kernel
theorem all3 : (six.all fun a => six.all fun b => decide (b < a) || six.all fun c => decide (c < b) || chk [a, b, c]) = true := by decide +kernel
theorem all4 : (six.all fun a => six.all fun b => decide (b < a) || six.all fun c => decide (c < b) || six.all fun d => decide (d < c) || chk [a, b, c, d]) = true := by decide +kernel
theorem chk_of {l : List Int} (h : 1 ≤ l.length ∧ l.length ≤ 4) (hx : (l.all fun x => inB x 1 6) = true) (hu : upB l 1 l.length) : chk l = true := by
  match l, h with
  | [a], _ =>
    simp only [List.all_cons, List.all_nil, Bool.and_true] at hx
    exact List.all_eq_true.1 all1 a (mem6 hx)
  | [a, b], _ =>
    simp only [List.all_cons, List.all_nil, Bool.and_true, Bool.and_eq_true] at hx
    have u1 : a ≤ b := hu 1 (by decide) (by simp)
    have h1 := List.all_eq_true.1 (List.all_eq_true.1 all2 a (mem6 hx.1)) b (mem6 hx.2)
    rw [decide_eq_false (by omega), Bool.false_or] at h1
    exact h1
  | [a, b, c], _ =>
    simp only [List.all_cons, List.all_nil, Bool.and_true, Bool.and_eq_true] at hx
    have u1 : a ≤ b := hu 1 (by decide) (by simp)
    have u2 : b ≤ c := hu 2 (by decide) (by simp)
    have h1 := List.all_eq_true.1 (List.all_eq_true.1 all3 a (mem6 hx.1)) b (mem6 hx.2.1)
    rw [decide_eq_false (by omega), Bool.false_or] at h1
    have h2 := List.all_eq_true.1 h1 c (mem6 hx.2.2)
    rw [decide_eq_false (by omega), Bool.false_or] at h2
    exact h2
  | [a, b, c, d], _ =>
    simp only [List.all_cons, List.all_nil, Bool.and_true, Bool.and_eq_true] at hx
    have u1 : a ≤ b := hu 1 (by decide) (by simp)
    have u2 : b ≤ c := hu 2 (by decide) (by simp)
    have u3 : c ≤ d := hu 3 (by decide) (by simp)
    have h1 := List.all_eq_true.1 (List.all_eq_true.1 all4 a (mem6 hx.1)) b (mem6 hx.2.1)
    rw [decide_eq_false (by omega), Bool.false_or] at h1
    have h2 := List.all_eq_true.1 h1 c (mem6 hx.2.2.1)
    rw [decide_eq_false (by omega), Bool.false_or] at h2
    have h3 := List.all_eq_true.1 h2 d (mem6 hx.2.2.2)
    rw [decide_eq_false (by omega), Bool.false_or] at h3
    exact h3
theorem val_K {l : List Int} {kd : Int} (h : chkK l kd = true) : ∃ v, ∀ k, 40 ≤ k → spec_pzValue.f k kd 0 l = some v ∧ impl_told.f k kd 0 l = some (kd, v, 0) := by
  unfold chkK at h
  cases hv : spec_pzValue.f 40 kd 0 l with
  | none => rw [hv] at h; cases h
  | some v =>
    rw [hv] at h
    exact ⟨v, fun k hk => ⟨at_rounds (fun k => spec_pzValue.mono kd 0 l k) hk hv, at_rounds (fun k => impl_told.mono kd 0 l k) hk (of_decide_eq_true h)⟩⟩
theorem val_P {l : List Int} {kd : Int} {i : Nat} (h : chkP l kd i = true) : ∃ v, ∀ k, 40 ≤ k → spec_pzValue.f k kd (i : Int) l = some v ∧ impl_told.f k kd (i : Int) l = some (kd, (i : Int), v) := by
  unfold chkP at h
  cases hv : spec_pzValue.f 40 kd (i : Int) l with
  | none => rw [hv] at h; cases h
  | some v =>
    rw [hv] at h
    exact ⟨v, fun k hk => ⟨at_rounds (fun k => spec_pzValue.mono kd (i : Int) l k) hk hv, at_rounds (fun k => impl_told.mono kd (i : Int) l k) hk (of_decide_eq_true h)⟩⟩
theorem told_any {k : Nat} {kd : Int} (h0 : kd ≠ 0) (h4 : kd ≠ 4) (x y : Int) (l : List Int) : impl_told.f k kd x l = impl_told.f k kd y l := by
  unfold impl_told.f
  simp [h0, h4]
theorem fits_K {l : List Int} {kd a : Int} (h0 : kd ≠ 0) (h4 : kd ≠ 4) (h : chkK l kd = true) {k : Nat} (hk : 41 < k) : ∃ r, spec_pzFits.f k kd a 0 l = some r ∧ impl_Clue_fits.f k kd a 0 l = some r := by
  obtain ⟨k, rfl⟩ := k_succ hk
  obtain ⟨v, hv⟩ := val_K h
  unfold spec_pzFits.f impl_Clue_fits.f
  rw [if_neg h0, told_any h0 h4 _ 0, (hv (k + 1) (by omega)).2, Option.bind_some]
  have e4 : (kd == 4) = false := by rw [beq_eq_false_iff_ne]; exact h4
  simp only [spec_pzFits.j0]
  rw [e4, if_neg (by simp), (hv k (by omega)).1, Option.bind_some]
  exact ⟨_, rfl, by simp⟩
theorem fits_P {l : List Int} (hn : 1 ≤ l.length ∧ l.length ≤ 4) {kd a b : Int} (hkd : kd = 0 ∨ kd = 4) (ha : 0 ≤ a ∧ a ≤ (l.length : Int) - 1) (h : chk l = true) {k : Nat} (hk : 41 < k) : ∃ r, spec_pzFits.f k kd a b l = some r ∧ impl_Clue_fits.f k kd a b l = some r := by
  obtain ⟨k, rfl⟩ := k_succ hk
  obtain ⟨i, rfl⟩ : ∃ i : Nat, a = (i : Int) := ⟨a.toNat, by omega⟩
  unfold chk at h
  simp only [Bool.and_eq_true] at h
  have hp := List.all_eq_true.1 h.2 i (by rw [List.mem_range]; omega)
  simp only [Bool.and_eq_true] at hp
  have hpk : chkP l kd i = true := by rcases hkd with rfl | rfl; exact hp.1; exact hp.2
  obtain ⟨v, hv⟩ := val_P hpk
  have em : mn (i : Int) (wrap64 ((l.length : Int) - 1)) = (i : Int) := by
    rw [wrap_id (by omega) (by omega)]
    unfold mn
    split <;> omega
  have ej : spec_pzFits.f (k + 1) kd (i : Int) b l = some (v == b) := by
    unfold spec_pzFits.f
    rcases hkd with rfl | rfl
    · rw [if_pos rfl]
      simp only [spec_pzFits.j0]
      rw [if_pos trivial, (hv k (by omega)).1, Option.bind_some]
    · rw [if_neg (by decide)]
      simp only [spec_pzFits.j0]
      rw [if_pos (by rfl), (hv k (by omega)).1, Option.bind_some]
  refine ⟨_, ej, ?_⟩
  unfold impl_Clue_fits.f
  rw [em, (hv (k + 1) (by omega)).2, Option.bind_some]
  simp
theorem fits_both {l : List Int} (h1 : 1 ≤ l.length ∧ l.length ≤ 4) (hc : chk l = true) {kd a b : Int} (ht : clueT (l.length : Int) kd a b = true) {k : Nat} (hk : 41 < k) : ∃ r, spec_pzFits.f k kd a b l = some r ∧ impl_Clue_fits.f k kd a b l = some r := by
  have hc2 := hc
  unfold chk at hc2
  simp only [Bool.and_eq_true] at hc2
  obtain ⟨⟨c1, c2, c3, c5⟩, -⟩ := hc2
  unfold clueT at ht
  by_cases k0 : kd = 0
  · rw [if_pos k0] at ht
    simp only [Bool.and_eq_true, inB_true] at ht
    exact fits_P h1 (Or.inl k0) ht.1 hc hk
  · rw [if_neg k0] at ht
    by_cases k4 : kd = 4
    · rw [if_pos k4] at ht
      simp only [Bool.and_eq_true, inB_true] at ht
      exact fits_P h1 (Or.inr k4) ht.1 hc hk
    · rw [if_neg k4] at ht
      by_cases k1 : kd = 1
      · rw [if_pos k1] at ht
        simp only [Bool.and_eq_true, decide_eq_true_eq] at ht
        rw [ht.2, k1]
        exact fits_K (by decide) (by decide) c1 hk
      · rw [if_neg k1] at ht
        by_cases k2 : kd = 2 ∨ kd = 3
        · rw [if_pos k2] at ht
          simp only [Bool.and_eq_true, decide_eq_true_eq] at ht
          rw [ht.2]
          rcases k2 with rfl | rfl
          · exact fits_K (by decide) (by decide) c2 hk
          · exact fits_K (by decide) (by decide) c3 hk
        · rw [if_neg k2] at ht
          by_cases k5 : kd = 5
          · rw [if_pos k5] at ht
            simp only [Bool.and_eq_true, decide_eq_true_eq] at ht
            rw [ht.2, k5]
            exact fits_K (by decide) (by decide) c5 hk
          · rw [if_neg k5] at ht
            cases ht
/-- A list that does not fall, its numbers from one to six. -/
def pre (l : List Int) : Prop := (∀ y ∈ l, 1 ≤ y ∧ y ≤ 6) ∧ upB l 1 l.length
theorem pre_nil : pre [] := ⟨by simp, fun m h1 h2 => absurd h2 (by simp)⟩
theorem rd_left {l : List Int} {x : Int} {i : Nat} (h : i < l.length) : rd (l ++ [x]) (i : Int) = rd l (i : Int) := by
  unfold rd
  rw [Int.toNat_natCast, List.getD_eq_getElem?_getD, List.getElem?_append_left h, ← List.getD_eq_getElem?_getD]
theorem rd_last {l : List Int} {x : Int} : rd (l ++ [x]) (l.length : Int) = x := by
  unfold rd
  rw [Int.toNat_natCast, List.getD_eq_getElem?_getD, List.getElem?_append_right (Nat.le_refl _), Nat.sub_self]
  rfl
theorem leastOf_le {l : List Int} (h : pre l) : QHid.leastOf l ≤ 6 := by
  unfold QHid.leastOf
  by_cases c : l.length = 0
  · rw [if_pos c]; decide
  · rw [if_neg c]
    unfold rd
    rw [List.getD_eq_getElem?_getD, List.getElem?_eq_getElem (by omega)]
    exact (h.1 _ (List.getElem_mem _)).2
theorem pre_app {l : List Int} {x : Int} (h : pre l) (h1 : QHid.leastOf l ≤ x) (h6 : x ≤ 6) : pre (l ++ [x]) := by
  have hx := QHid.leastOf_ge (fun y hy => (h.1 y hy).1)
  refine ⟨fun y hy => ?_, fun m hm1 hm => ?_⟩
  · rw [List.mem_append, List.mem_singleton] at hy
    rcases hy with hy | rfl
    · exact h.1 y hy
    · exact ⟨by omega, h6⟩
  · rw [List.length_append, List.length_singleton] at hm
    rw [show (m : Int) - 1 = ((m - 1 : Nat) : Int) by omega, rd_left (by omega)]
    by_cases c : m = l.length
    · subst c
      rw [rd_last]
      unfold QHid.leastOf at h1
      rw [if_neg (by omega)] at h1
      rw [show ((l.length - 1 : Nat) : Int) = (l.length : Int) - 1 by omega]
      exact h1
    · rw [rd_left (by omega)]
      have := h.2 m hm1 (by omega)
      rw [show (m : Int) - 1 = ((m - 1 : Nat) : Int) by omega] at this
      exact this
theorem rounds_both {p q : List Int → Option Bool} {N d : Nat} {l : List Int}
    (ih : ∀ (x : Int) (acc : List (List Int)), QHid.leastOf l ≤ x → x ≤ 6 → acc.length + 6 ^ d ≤ 1000000 → ∃ r, QHid.look p d (l ++ [x]) acc = some r ∧ QHid.look q d (l ++ [x]) acc = some r ∧ r.length ≤ acc.length + 6 ^ d ∧ ∀ y ∈ r, y ∈ acc ∨ (y.length = N ∧ pre y)) :
    ∀ (n : Nat) (x : Int) (acc : List (List Int)), QHid.leastOf l ≤ x → x + n ≤ 7 → acc.length + n * 6 ^ d ≤ 1000000 → ∃ r, QHid.lkRounds (fun x a => QHid.look p d (l ++ [x]) a) n x acc = some r ∧ QHid.lkRounds (fun x a => QHid.look q d (l ++ [x]) a) n x acc = some r ∧ r.length ≤ acc.length + n * 6 ^ d ∧ ∀ y ∈ r, y ∈ acc ∨ (y.length = N ∧ pre y) := by
  intro n
  induction n with
  | zero => exact fun x acc _ _ _ => ⟨acc, rfl, rfl, by omega, fun y h => .inl h⟩
  | succ n ihn =>
    intro x acc h1 h2 h3
    rw [Nat.succ_mul] at h3 ⊢
    obtain ⟨r1, e1, e2, e3, e4⟩ := ih x acc h1 (by omega) (by omega)
    obtain ⟨r2, f1, f2, f3, f4⟩ := ihn (x + 1) r1 (by omega) (by omega) (by omega)
    simp only [QHid.lkRounds]
    rw [e1, e2, Option.bind_some, Option.bind_some, f1, f2]
    refine ⟨r2, rfl, rfl, by omega, fun y hy => ?_⟩
    rcases f4 y hy with h | h
    · exact e4 y h
    · exact .inr h
theorem look_both {p q : List Int → Option Bool} {N : Nat} (h : ∀ l, l.length = N → pre l → ∃ b, p l = some b ∧ q l = some b) :
    ∀ (d : Nat) (l : List Int) (acc : List (List Int)), l.length + d = N → pre l → acc.length + 6 ^ d ≤ 1000000 → ∃ r, QHid.look p d l acc = some r ∧ QHid.look q d l acc = some r ∧ r.length ≤ acc.length + 6 ^ d ∧ ∀ y ∈ r, y ∈ acc ∨ (y.length = N ∧ pre y) := by
  intro d
  induction d with
  | zero =>
    intro l acc hl hp ha
    obtain ⟨b, h1, h2⟩ := h l (by omega) hp
    simp only [QHid.look, h1, h2, Option.bind_some]
    cases b
    · exact ⟨acc, by simp, by simp, by omega, fun y h => .inl h⟩
    · have hlt : acc.length < 1000000 := by simp at ha; omega
      refine ⟨acc ++ [l], by simp [hlt], by simp [hlt], by simp, fun y hy => ?_⟩
      rw [List.mem_append, List.mem_singleton] at hy
      rcases hy with hy | rfl
      · exact .inl hy
      · exact .inr ⟨by omega, hp⟩
  | succ d ih =>
    intro l acc hl hp ha
    have hpow : 6 ^ (d + 1) = 6 * 6 ^ d := by rw [Nat.pow_succ, Nat.mul_comm]
    have hle : 1 ≤ QHid.leastOf l := QHid.leastOf_ge (fun y hy => (hp.1 y hy).1)
    have hl6 := leastOf_le hp
    have hmul : (7 - QHid.leastOf l).toNat * 6 ^ d ≤ 6 * 6 ^ d := Nat.mul_le_mul_right _ (by omega)
    obtain ⟨r, e1, e2, e3, e4⟩ := rounds_both (N := N) (fun x a hx h6 ha' => ih (l ++ [x]) a (by simp; omega) (pre_app hp hx h6) ha') (7 - QHid.leastOf l).toNat (QHid.leastOf l) acc (Int.le_refl _) (by omega) (by omega)
    exact ⟨r, e1, e2, by omega, e4⟩
theorem anyO_both {α : Type} {p q : α → Option Bool} : ∀ {l : List α}, (∀ x ∈ l, ∃ b, p x = some b ∧ q x = some b) → ∃ b, anyO p l = some b ∧ anyO q l = some b
  | [], _ => ⟨false, rfl, rfl⟩
  | x :: l, h => by
    obtain ⟨b, h1, h2⟩ := h x (List.mem_cons_self ..)
    obtain ⟨c, h3, h4⟩ := anyO_both (l := l) (fun y hy => h y (List.mem_cons_of_mem _ hy))
    simp only [anyO, h1, h2, Option.bind_some]
    cases b
    · exact ⟨c, by simpa using h3, by simpa using h4⟩
    · exact ⟨true, by simp, by simp⟩
/-- The program and the model list the same. -/
theorem hid_same {n : Int} {c : List S45} (hn : inB n 1 4 = true) (hc : (c.all fun c => clueT n c.f0 c.f1 c.f2) = true) {k : Nat} (hk : 41 < k) :
    ∃ r, impl_hidden.f k n c = some r ∧ spec_pzAll.f k n c = some r ∧ r.length ≤ 1296 ∧ ∀ y ∈ r, y.length = n.toNat := by
  rw [inB_true] at hn
  have hp : ∀ l : List Int, l.length = n.toNat → pre l → ∃ b, impl_hidden.p k c l = some b ∧ spec_pzAll.p k c l = some b := by
    intro l hl hpre
    have hk1 : chk l = true := chk_of (by omega) (List.all_eq_true.2 fun y hy => inB_true.2 (hpre.1 y hy)) hpre.2
    obtain ⟨b, h1, h2⟩ := anyO_both (l := c) (p := fun c : S45 => (impl_Clue_fits.f k c.f0 c.f1 c.f2 l).bind fun t => some (!t)) (q := fun c : S45 => (spec_pzFits.f k c.f0 c.f1 c.f2 l).bind fun t => some (!t)) (fun x hx => by
      have ht := List.all_eq_true.1 hc x hx
      obtain ⟨r, f1, f2⟩ := fits_both (l := l) (by omega) hk1 (kd := x.f0) (a := x.f1) (b := x.f2) (by rw [show (l.length : Int) = n by omega]; exact ht) hk
      exact ⟨!r, by simp only [f2, Option.bind_some], by simp only [f1, Option.bind_some]⟩)
    refine ⟨!b, ?_, ?_⟩
    · unfold impl_hidden.p; rw [h1]; rfl
    · unfold spec_pzAll.p; rw [h2]; rfl
  obtain ⟨r, e1, e2, e3, e4⟩ := look_both hp n.toNat [] [] (by simp) pre_nil (by
    have : 6 ^ n.toNat ≤ 6 ^ 4 := Nat.pow_le_pow_right (by decide) (by omega)
    simp at this ⊢; omega)
  have h6 : 6 ^ n.toNat ≤ 6 ^ 4 := Nat.pow_le_pow_right (by decide) (by omega)
  refine ⟨r, ?_, ?_, by simp at e3 h6 ⊢; omega, fun y hy => ?_⟩
  · unfold impl_hidden.f; rw [if_pos (by omega), if_pos (by omega)]; exact e1
  · unfold spec_pzAll.f; rw [if_pos (by omega), if_pos (by omega)]; exact e2
  · rcases e4 y hy with h | h
    · simp at h
    · exact h.1
theorem goodP_parts {n : Int} {c : List S45} (h : goodP n c = true) : inB n 1 4 = true ∧ c.length ≤ 6 ∧ (c.all fun c => clueT n c.f0 c.f1 c.f2) = true := by
  unfold goodP at h
  simp only [Bool.and_eq_true, decide_eq_true_eq] at h
  exact ⟨h.1, h.2.1, h.2.2⟩
theorem both (n : Int) {c : List S45} (hn : c.length ≤ 1048576) {k : Nat} (hk : c.length + 1000 < k) : ∃ r : List (List Int) × Bool, (r.1.length ≤ 1296 ∧ ∀ y ∈ r.1, y.length ≤ 10) ∧ spec_Solutions.f k n c = some r ∧ impl_Solutions.f k n c = some r := by
  unfold spec_Solutions.f impl_Solutions.f
  rw [pzGood_eq n (by omega) (by omega), IsPuzzle_eq n (by omega)]
  simp only [Option.bind_some]
  cases h : goodP n c
  · exact ⟨([], false), by simp, by simp, by simp⟩
  · obtain ⟨h1, -, h3⟩ := goodP_parts h
    obtain ⟨r, e1, e2, e3, e4⟩ := hid_same h1 h3 (k := k) (by omega)
    rw [inB_true] at h1
    simp only [if_true, e1, e2, Option.bind_some]
    exact ⟨(r, true), ⟨e3, fun y hy => by have := e4 y hy; omega⟩, rfl, rfl⟩
theorem pure : ∀ (a0_0 : Int) (l0_1 : List (S42)), Opn.okI a0_0 → (∀ y0 ∈ l0_1, (Opn.okI y0.f0) ∧ (Opn.okI y0.f1) ∧ (Opn.okI y0.f2)) → l0_1.length ≤ 9223372036854775807 → ∃ k, laws_FnExactSolutions.f k a0_0 l0_1 = some true := by
  intro n l _ _ hn
  obtain ⟨K, hK⟩ : ∃ K, K = l.length + 1048577 + 6000 := ⟨_, rfl⟩
  refine ⟨K, ?_⟩
  unfold laws_FnExactSolutions.f
  by_cases hg : l.length ≤ 1048576
  · have hl : (l.map clueOf).length = l.length := List.length_map ..
    obtain ⟨⟨s, b⟩, ⟨h1, h2⟩, e1, e2⟩ := both n (c := l.map clueOf) (by omega) (k := K) (by omega)
    have h1' : s.length ≤ 1296 := h1
    have h2' : ∀ y ∈ s, y.length ≤ 10 := h2
    obtain ⟨m, l', m1, m2⟩ := markSS_eq (l := s) (by omega) h2' (k := K) (by omega)
    rw [szPuzzle_eq hn hg, Option.bind_some, if_neg (by omega), toPuzzle_eq hg (by omega), Option.bind_some]
    dsimp only
    rw [e1, e2, Option.bind_some, Option.bind_some, if_pos rfl]
    dsimp only
    rw [eqIntSS_eq (by omega) (fun d h => by have := h2' d h; omega) (by omega), Option.bind_some, if_pos rfl, eqPuzzle_eq (by omega) (by omega), Option.bind_some, if_pos rfl, markPuzzle_eq (by omega) (by omega) (by omega) (by omega), Option.bind_some]
    dsimp only
    rw [if_neg (by omega), m1, Option.bind_some]
    dsimp only
    rw [m2, Option.bind_some, if_neg (by omega), if_pos rfl]
  · rw [szPuzzle_big hn hg, Option.bind_some, if_pos (by omega)]

end Go.Proofs.Ytkgbahokhifojaa.fnExactSolutions
