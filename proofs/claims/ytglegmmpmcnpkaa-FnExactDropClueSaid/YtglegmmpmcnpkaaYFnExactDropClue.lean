/- FnExactDropClue, the plain statement: what the printed functions compute makes the law's function return true. Conditions: the numbers are of their kind. -/
import Derived.Test.YtglegmmpmcnpkaaOpn
import Derived.Test.YtglegmmpmcnpkaaQFnExactDropCluex5
namespace Go.Proofs.Ytglegmmpmcnpkaa.fnExactDropClue
open Go.RowKit Go.Proofs.YtglegmmpmcnpkaaW.PrintWords Go.Proofs.YtglegmmpmcnpkaaW.PrintLast Go.Proofs.YtglegmmpmcnpkaaW.PrintMore Go.Proofs.Ytglegmmpmcnpkaa.QFnExactDropClue
set_option linter.unusedVariables false
set_option linter.unusedSimpArgs false

/-- x lies between a and b. -/
def inB (x a b : Int) : Bool := decide (a ≤ x) && decide (x ≤ b)
theorem inB_true {x a b : Int} : inB x a b = true ↔ a ≤ x ∧ x ≤ b := by simp [inB]
theorem wrap_id {n : Int} (h0 : -9223372036854775808 ≤ n) (h1 : n ≤ 9223372036854775807) : wrap64 n = n := by
  unfold wrap64
  omega
theorem wrap_succ {i n : Nat} (h : i < n) (hn : n ≤ 9223372036854775807) : wrap64 ((i : Int) + 1) = ((i + 1 : Nat) : Int) := by
  unfold wrap64
  omega
theorem getD_take {α : Type} (l : List α) (i : Nat) (h : i < l.length) (z : α) : l.take (i + 1) = l.take i ++ [l.getD i z] := by
  rw [List.take_succ_eq_append_getElem h, List.getD_eq_getElem?_getD, List.getElem?_eq_getElem h]
  rfl
theorem getD_drop {α : Type} (l : List α) (i : Nat) (h : i < l.length) (z : α) : l.drop i = l.getD i z :: l.drop (i + 1) := by
  rw [List.drop_eq_getElem_cons h, List.getD_eq_getElem?_getD, List.getElem?_eq_getElem h]
  rfl
theorem set_take {α : Type} (l : List α) (i : Nat) (h : i < l.length) (v : α) : (l.set i v).take (i + 1) = l.take i ++ [v] := by
  rw [List.take_succ_eq_append_getElem (by rw [List.length_set]; exact h), List.take_set_of_le (Nat.le_refl i), List.getElem_set_self]
theorem k_succ {k d : Nat} (h : d < k) : ∃ m, k = m + 1 := ⟨k - 1, by omega⟩
theorem getD_map_at {α β : Type} (f : α → β) (l : List α) (i : Nat) (h : i < l.length) (z : α) (y : β) : (l.map f).getD i y = f (l.getD i z) := by
  rw [List.getD_eq_getElem?_getD, List.getD_eq_getElem?_getD, List.getElem?_map, List.getElem?_eq_getElem h]
  rfl
theorem l1In_eq (x a b : Int) : spec_l1In.f x a b = some (inB x a b) := by
  unfold spec_l1In.f inB
  by_cases h : a ≤ x <;> simp [h]
theorem in_eq (x a b : Int) : impl_in.f x a b = some (inB x a b) := by
  unfold impl_in.f inB
  by_cases h : a ≤ x <;> simp [h]
/-- A clue of so many people (of whom there is a number). -/
def clueT (n kd a b : Int) : Bool :=
  if kd = 0 then inB a 0 (n - 1) && inB b 1 6 else if kd = 4 then inB a 0 (n - 1) && inB b 0 5 else if kd = 1 then inB a 1 24 && decide (b = 0)
    else if kd = 2 ∨ kd = 3 then inB a 1 100 && decide (b = 0) else if kd = 5 then inB a 0 n && decide (b = 0) else false
theorem wrap_pred {n : Int} (h : inB n 1 4 = true) : wrap64 (n - 1) = n - 1 := by
  rw [inB_true] at h
  exact wrap_id (by omega) (by omega)
theorem pzClue_eq {n : Int} (h : inB n 1 4 = true) {k : Nat} (hk : 0 < k) (kd a b : Int) : spec_pzClue.f k n kd a b = some (clueT n kd a b) := by
  obtain ⟨k, rfl⟩ := k_succ hk
  unfold spec_pzClue.f clueT
  simp only [l1In_eq, Option.bind_some, spec_pzClue.j0]
  rw [wrap_pred h]
  by_cases h0 : kd = 0
  · subst h0; cases inB a 0 (n - 1) <;> simp
  by_cases h4 : kd = 4
  · subst h4; cases inB a 0 (n - 1) <;> simp
  by_cases hb : b = 0
  · subst hb
    by_cases h1 : kd = 1
    · subst h1; simp
    by_cases h2 : kd = 2
    · subst h2; simp
    by_cases h3 : kd = 3
    · subst h3; simp
    by_cases h5 : kd = 5
    · subst h5; simp
    simp [h0, h1, h2, h3, h4, h5]
  · simp [h0, h4, hb]
theorem IsClue_eq {k : Nat} (hk : 0 < k) (n kd a b : Int) : impl_IsClue.f k n kd a b = some (inB n 1 4 && clueT n kd a b) := by
  obtain ⟨k, rfl⟩ := k_succ hk
  unfold impl_IsClue.f impl_isPeople.f clueT
  simp only [in_eq, Option.bind_some, impl_IsClue.j0]
  cases h : inB n 1 4
  · simp
  · rw [wrap_pred h]
    by_cases h0 : kd = 0
    · subst h0; cases inB a 0 (n - 1) <;> simp
    by_cases h4 : kd = 4
    · subst h4; cases inB a 0 (n - 1) <;> simp
    by_cases h1 : kd = 1
    · subst h1; cases inB a 1 24 <;> simp <;> rfl
    by_cases h2 : kd = 2
    · subst h2; cases inB a 1 100 <;> simp <;> rfl
    by_cases h3 : kd = 3
    · subst h3; cases inB a 1 100 <;> simp <;> rfl
    by_cases h5 : kd = 5
    · subst h5; cases inB a 0 n <;> simp <;> rfl
    simp [h0, h1, h2, h3, h4, h5]
/-- The law's clue as the program's. -/
def clueOf (c : S23) : S25 := ⟨c.f0, c.f1, c.f2⟩
theorem toClueS_l0 {l : List S23} (hn : l.length ≤ 9223372036854775807) : ∀ (d k i : Nat) (x : List S25), i + d = l.length → x.length = l.length → x.take i = (l.map clueOf).take i → d < k → laws_toClueS.l0 k l x (i : Int) = some (l.map clueOf) := by
  intro d
  induction d with
  | zero =>
    intro k i x hi hx ht hk
    obtain ⟨k, rfl⟩ := k_succ hk
    simp only [laws_toClueS.l0]
    rw [if_neg (by omega)]
    rw [show i = l.length by omega, ← hx, List.take_length, hx, ← List.length_map (f := clueOf), List.take_length] at ht
    rw [ht]
  | succ d ih =>
    intro k i x hi hx ht hk
    obtain ⟨k, rfl⟩ := k_succ hk
    have hlt : i < l.length := by omega
    simp only [laws_toClueS.l0, laws_toClue.f, Option.bind_some]
    rw [if_pos (by omega), if_pos (by omega), if_pos (by omega), wrap_succ hlt hn]
    refine ih k (i + 1) _ (by omega) (by rw [List.length_set]; exact hx) ?_ (by omega)
    rw [Int.toNat_natCast, set_take _ _ (by omega), ht, getD_take (l.map clueOf) i (by rw [List.length_map]; exact hlt) (clueOf z23), getD_map_at clueOf l i hlt z23]
    rfl
theorem toClueS_eq {l : List S23} (hn : l.length ≤ 1048576) {k : Nat} (hk : l.length < k) : laws_toClueS.f k l = some (l.map clueOf) := by
  unfold laws_toClueS.f
  rw [if_pos (by omega), if_pos (by omega)]
  exact toClueS_l0 (by omega) l.length k 0 _ (by omega) (by simp) (by simp) hk
theorem toPuzzle_eq {n : Int} {l : List S23} (hn : l.length ≤ 1048576) {k : Nat} (hk : l.length < k) : laws_toPuzzle.f k n l = some (n, l.map clueOf) := by
  unfold laws_toPuzzle.f
  rw [toClueS_eq hn hk]
  rfl
theorem szPuzzle_eq {n : Int} {l : List S23} (hn : l.length ≤ 9223372036854775807) (h : l.length ≤ 1048576) : laws_szPuzzle.f n l 1048576 = some (1048576 - (l.length : Int)) := by
  unfold laws_szPuzzle.f laws_szClueS.f
  rw [wrap_id (by omega) (by omega), if_neg (by omega), Option.bind_some, if_neg (by omega)]
theorem szPuzzle_big {n : Int} {l : List S23} (hn : l.length ≤ 9223372036854775807) (h : ¬ l.length ≤ 1048576) : laws_szPuzzle.f n l 1048576 = some (-1) := by
  unfold laws_szPuzzle.f laws_szClueS.f
  rw [wrap_id (by omega) (by omega), if_pos (by omega), Option.bind_some, if_pos (by omega)]
theorem eqClueS_l0 {l : List S25} (hn : l.length ≤ 9223372036854775807) : ∀ (d k i : Nat), i + d = l.length → d < k → laws_eqClueS.l0 k l l (i : Int) = some true := by
  intro d
  induction d with
  | zero =>
    intro k i hi hk
    obtain ⟨k, rfl⟩ := k_succ hk
    simp only [laws_eqClueS.l0]
    rw [if_neg (by omega)]
  | succ d ih =>
    intro k i hi hk
    obtain ⟨k, rfl⟩ := k_succ hk
    have hlt : i < l.length := by omega
    simp only [laws_eqClueS.l0, laws_eqClue.f, if_true, Option.bind_some]
    rw [if_pos (by omega), if_pos (by omega), if_pos (by omega), wrap_succ hlt hn]
    exact ih k (i + 1) (by omega) (by omega)
theorem eqPuzzle_eq {n : Int} {l : List S25} (hn : l.length ≤ 9223372036854775807) {k : Nat} (hk : l.length < k) : laws_eqPuzzle.f k n l n l = some true := by
  unfold laws_eqPuzzle.f laws_eqClueS.f
  rw [if_pos rfl, if_pos rfl, show (0 : Int) = ((0 : Nat) : Int) by rfl, eqClueS_l0 hn l.length k 0 (by omega) hk]
  rfl
/-- A puzzle. -/
def goodP (n : Int) (l : List S25) : Bool := inB n 1 4 && (decide (l.length ≤ 6) && l.all fun c => clueT n c.f0 c.f1 c.f2)
theorem pzGood_l0 {n : Int} (h4 : inB n 1 4 = true) {l : List S25} (hn : l.length ≤ 9223372036854775807) : ∀ (d k i : Nat), i + d = l.length → d + 1 < k → spec_pzGood.l0 k l (l.length : Int) (i : Int) n l = some ((l.drop i).all fun c => clueT n c.f0 c.f1 c.f2) := by
  intro d
  induction d with
  | zero =>
    intro k i hi hk
    obtain ⟨k, rfl⟩ := k_succ hk
    simp only [spec_pzGood.l0]
    rw [if_neg (by omega), show i = l.length by omega, List.drop_length]
    rfl
  | succ d ih =>
    intro k i hi hk
    obtain ⟨k, rfl⟩ := k_succ hk
    have hlt : i < l.length := by omega
    simp only [spec_pzGood.l0]
    rw [if_pos (by omega), if_pos (by omega), if_pos (by omega), pzClue_eq h4 (by omega), Option.bind_some, wrap_succ hlt hn, ih k (i + 1) (by omega) (by omega), getD_drop l i hlt z25, List.all_cons]
    show (if clueT n (l.getD i z25).f0 (l.getD i z25).f1 (l.getD i z25).f2 = true then _ else _) = _
    cases clueT n (l.getD i z25).f0 (l.getD i z25).f1 (l.getD i z25).f2 <;> simp
theorem pzGood_eq (n : Int) {l : List S25} (hn : l.length ≤ 9223372036854775807) {k : Nat} (hk : l.length + 2 < k) : spec_pzGood.f k n l = some (goodP n l) := by
  unfold spec_pzGood.f spec_pzPeople.f goodP
  rw [l1In_eq]
  simp only [Option.bind_some]
  obtain ⟨k, rfl⟩ := k_succ hk
  cases h4 : inB n 1 4
  · simp [spec_pzGood.j0]
  · by_cases h6 : l.length ≤ 6
    · have e : decide ((l.length : Int) > 6) = false := decide_eq_false (by omega)
      simp only [if_true, spec_pzGood.j0, e, Bool.false_eq_true, if_false]
      rw [show (0 : Int) = ((0 : Nat) : Int) by rfl, pzGood_l0 h4 hn l.length k 0 (by omega) (by omega)]
      simp [h6]
    · have e : decide ((l.length : Int) > 6) = true := decide_eq_true (by omega)
      simp [spec_pzGood.j0, e, h6]
theorem IsPuzzle_eq (n : Int) {l : List S25} {k : Nat} (hk : 0 < k) : impl_IsPuzzle.f k n l = some (goodP n l) := by
  unfold impl_IsPuzzle.f impl_isPeople.f goodP
  rw [in_eq]
  simp only [Option.bind_some, IsClue_eq hk]
  rw [anyO_some (fun c : S25 => !(inB n 1 4 && clueT n c.f0 c.f1 c.f2))]
  cases h4 : inB n 1 4
  · simp
  · by_cases h6 : l.length ≤ 6
    · rw [if_pos rfl, if_pos (by omega)]
      simp [h6, List.not_any_eq_all_not]
    · rw [if_pos rfl, if_neg (by omega)]
      simp [h6]
theorem rd_set_clue {x : List S25} {i : Nat} (h : i < x.length) (v : S25) : rd_T25 (x.set i v) (i : Int) = v := by
  unfold rd_T25
  rw [Int.toNat_natCast, List.getD_eq_getElem?_getD, List.getElem?_set_self h]
  rfl
/-- The clues that are marked from m on. -/
def marksC (n : Nat) (m : Int) : List S25 := (List.range n).map fun j : Nat => (⟨m + 3 * (j : Int), m + 3 * (j : Int) + 1, m + 3 * (j : Int) + 2⟩ : S25)
theorem marksC_len (n : Nat) (m : Int) : (marksC n m).length = n := by simp [marksC]
theorem marksC_get {n i : Nat} (m : Int) (h : i < n) (z : S25) : (marksC n m).getD i z = ⟨m + 3 * (i : Int), m + 3 * (i : Int) + 1, m + 3 * (i : Int) + 2⟩ := by
  rw [List.getD_eq_getElem?_getD, marksC, List.getElem?_map, List.getElem?_range h]
  rfl
theorem markClueS_l0 {n : Nat} {m : Int} (h0 : 0 ≤ m) (hm : m ≤ 100000000) (hn : n ≤ 2000000) : ∀ (d k i : Nat) (x : List S25), i + d = n → x.length = n → x.take i = (marksC n m).take i → d < k →
    laws_markClueS.l0 k x (m + 3 * (i : Int)) (i : Int) = some (m + 3 * (n : Int), marksC n m) := by
  intro d
  induction d with
  | zero =>
    intro k i x hi hx ht hk
    obtain ⟨k, rfl⟩ := k_succ hk
    simp only [laws_markClueS.l0]
    rw [if_neg (by omega)]
    rw [List.take_of_length_le (by omega), List.take_of_length_le (by rw [marksC_len]; omega)] at ht
    rw [ht, show i = n by omega]
  | succ d ih =>
    intro k i x hi hx ht hk
    obtain ⟨k, rfl⟩ := k_succ hk
    have hlt : i < x.length := by omega
    simp only [laws_markClueS.l0]
    rw [if_pos (by omega), if_pos (by omega)]
    simp only [Option.bind_some, Int.toNat_natCast]
    have r1 := fun v => rd_set_clue (x := x) hlt v
    have r2 := fun v u => rd_set_clue (x := x.set i v) (i := i) (by rw [List.length_set]; exact hlt) u
    simp only [r1, r2, List.set_set]
    rw [wrap_succ hlt (by omega),
      wrap_id (n := m + 3 * (i : Int) + 1) (by omega) (by omega), wrap_id (n := m + 3 * (i : Int) + 1 + 1) (by omega) (by omega), wrap_id (n := m + 3 * (i : Int) + 1 + 1 + 1) (by omega) (by omega),
      show m + 3 * (i : Int) + 1 + 1 + 1 = m + 3 * ((i + 1 : Nat) : Int) by omega, show m + 3 * (i : Int) + 1 + 1 = m + 3 * (i : Int) + 2 by omega]
    refine ih k (i + 1) _ (by omega) (by rw [List.length_set]; exact hx) ?_ (by omega)
    rw [set_take _ _ hlt, ht, getD_take (marksC n m) i (by rw [marksC_len]; omega) z25, marksC_get m (by omega)]
theorem markPuzzle_eq {p m : Int} (h0 : 0 ≤ m) (hm : m ≤ 100000000) {l : List S25} (hn : l.length ≤ 2000000) {k : Nat} (hk : l.length < k) :
    laws_markPuzzle.f k p l m = some (m + 3 * (l.length : Int), marksC l.length m) := by
  unfold laws_markPuzzle.f laws_markClueS.f
  have h := markClueS_l0 h0 hm hn l.length k 0 l (by omega) rfl (by simp) hk
  rw [show m + 3 * ((0 : Nat) : Int) = m by omega] at h
  rw [show ((0 : Nat) : Int) = 0 by rfl] at h
  rw [h]
  rfl
theorem heldClueS_l0 {n : Nat} {m : Int} (h0 : 0 ≤ m) (hm : m ≤ 100000000) (hn : n ≤ 2000000) : ∀ (d k i : Nat), i + d = n → d < k →
    laws_heldClueS.l0 k (marksC n m) (m + 3 * (i : Int)) (i : Int) = some (m + 3 * (n : Int)) := by
  intro d
  induction d with
  | zero =>
    intro k i hi hk
    obtain ⟨k, rfl⟩ := k_succ hk
    simp only [laws_heldClueS.l0]
    rw [marksC_len, if_neg (by omega), show i = n by omega]
  | succ d ih =>
    intro k i hi hk
    obtain ⟨k, rfl⟩ := k_succ hk
    have hr : rd_T25 (marksC n m) (i : Int) = ⟨m + 3 * (i : Int), m + 3 * (i : Int) + 1, m + 3 * (i : Int) + 2⟩ := by
      unfold rd_T25
      rw [Int.toNat_natCast, marksC_get m (by omega)]
    simp only [laws_heldClueS.l0, hr]
    rw [marksC_len, if_pos (by omega), if_pos (by omega), if_pos trivial, wrap_id (n := m + 3 * (i : Int) + 1) (by omega) (by omega), if_pos rfl, wrap_id (n := m + 3 * (i : Int) + 1 + 1) (by omega) (by omega),
      if_pos (by omega), wrap_id (n := m + 3 * (i : Int) + 1 + 1 + 1) (by omega) (by omega), wrap_succ (n := n) (by omega) (by omega), show m + 3 * (i : Int) + 1 + 1 + 1 = m + 3 * ((i + 1 : Nat) : Int) by omega]
    exact ih k (i + 1) (by omega) (by omega)
theorem heldPuzzle_eq {p m : Int} (h0 : 0 ≤ m) (hm : m ≤ 100000000) {n : Nat} (hn : n ≤ 2000000) {k : Nat} (hk : n < k) :
    laws_heldPuzzle.f k p (marksC n m) m = some (m + 3 * (n : Int)) := by
  unfold laws_heldPuzzle.f laws_heldClueS.f
  have h := heldClueS_l0 h0 hm hn n k 0 (by omega) hk
  rw [show m + 3 * ((0 : Nat) : Int) = m by omega, show ((0 : Nat) : Int) = 0 by rfl] at h
  rw [h, Option.bind_some, if_neg (by omega)]
/-- The puzzle without a clue. -/
def dropP (n : Int) (l : List S25) (a : Int) : Int × List S25 × Bool := if goodP n l = true ∧ inB a 0 ((l.length : Int) - 1) = true then (n, l.eraseIdx a.toNat, true) else (0, [], false)
theorem spec_eq (n : Int) {l : List S25} (hn : l.length ≤ 1048576) (a : Int) {k : Nat} (hk : l.length + 2 < k) : spec_DropClue.f k n l a = some (dropP n l a) := by
  unfold spec_DropClue.f dropP
  rw [pzGood_eq n (by omega) hk, Option.bind_some]
  cases hg : goodP n l
  · simp
  · rw [if_pos rfl, wrap_id (by omega) (by omega), l1In_eq, Option.bind_some]
    cases hi : inB a 0 ((l.length : Int) - 1)
    · simp
    · rw [if_pos rfl]
      obtain ⟨h0, h1⟩ := inB_true.1 hi
      obtain ⟨j, rfl⟩ : ∃ j : Nat, a = (j : Int) := ⟨a.toNat, by omega⟩
      have hj : j < l.length := by omega
      have e : spec_pzWithout.f l (j : Int) = some (l.eraseIdx j) := by
        unfold spec_pzWithout.f
        rw [wrap_id (by omega) (by omega)]
        simp only [Option.bind_some, List.nil_append, List.length_nil]
        rw [if_pos (by omega), if_pos (by omega)]
        have t1 : ((j : Int)).toNat = j := by omega
        have t2 : ((j : Int) + 1).toNat = j + 1 := by omega
        rw [t1, t2]
        have l1 : (l.take j).length = j := by rw [List.length_take]; omega
        have l2 : (l.drop (j + 1)).length = l.length - (j + 1) := List.length_drop ..
        rw [l1, l2, if_pos (by omega), if_pos (by omega), if_pos (by omega), if_pos (by omega), List.eraseIdx_eq_take_drop_succ]
      rw [e]
      simp
theorem impl_eq (n : Int) {l : List S25} (hn : l.length ≤ 1048576) (a : Int) {k : Nat} (hk : 0 < k) : impl_DropClue.f k n l a = some (dropP n l a) := by
  unfold impl_DropClue.f dropP
  rw [IsPuzzle_eq n hk, Option.bind_some]
  cases hg : goodP n l
  · simp
  · rw [if_pos rfl, wrap_id (by omega) (by omega), in_eq, Option.bind_some]
    cases hi : inB a 0 ((l.length : Int) - 1)
    · simp
    · rw [if_pos rfl]
      obtain ⟨h0, h1⟩ := inB_true.1 hi
      unfold impl_Puzzle_without.f
      rw [if_pos (by omega), if_pos (by omega), if_pos (by omega)]
      simp
theorem dropP_len (n : Int) (l : List S25) (a : Int) : (dropP n l a).2.1.length ≤ l.length := by
  unfold dropP
  split
  · show (l.eraseIdx a.toNat).length ≤ l.length
    exact List.length_eraseIdx_le l a.toNat
  · simp
theorem pure : ∀ (a0_0 : Int) (l0_1 : List (S23)) (a1 : Int), Opn.okI a0_0 → (∀ y0 ∈ l0_1, (Opn.okI y0.f0) ∧ (Opn.okI y0.f1) ∧ (Opn.okI y0.f2)) → l0_1.length ≤ 9223372036854775807 → Opn.okI a1 → ∃ k, laws_FnExactDropClue.f k a0_0 l0_1 a1 = some true := by
  intro n l a _ _ hn _
  obtain ⟨K, hK⟩ : ∃ K, K = l.length + 8 := ⟨_, rfl⟩
  refine ⟨K + 1, ?_⟩
  unfold laws_FnExactDropClue.f
  by_cases hg : l.length ≤ 1048576
  · have hm : (l.map clueOf).length ≤ 1048576 := by rw [List.length_map]; exact hg
    have hl : (l.map clueOf).length = l.length := List.length_map ..
    rw [szPuzzle_eq hn hg, Option.bind_some, if_neg (by omega), toPuzzle_eq hg (by omega)]
    simp only [Option.bind_some]
    rw [spec_eq n hm a (by omega), impl_eq n hm a (by omega)]
    have hlen := dropP_len n (l.map clueOf) a
    obtain ⟨⟨p, q, r⟩, he⟩ : ∃ x, dropP n (l.map clueOf) a = x := ⟨_, rfl⟩
    rw [he] at hlen ⊢
    simp only [Option.bind_some] at hlen ⊢
    rw [eqPuzzle_eq (by omega) (by omega), Option.bind_some, if_pos rfl]
    obtain ⟨K, rfl⟩ := k_succ (show 0 < K by omega)
    simp only [laws_FnExactDropClue.j0]
    rw [if_neg (by simp), toPuzzle_eq hg (by omega)]
    simp only [Option.bind_some]
    rw [eqPuzzle_eq (by omega) (by omega)]
    simp only [Option.bind_some]
    rw [if_pos trivial, markPuzzle_eq (by omega) (by omega) (by omega) (by omega)]
    simp only [Option.bind_some]
    rw [if_neg (by omega), eqPuzzle_eq (by omega) (by omega)]
    simp only [Option.bind_some]
    rw [if_pos trivial]
    obtain ⟨K, rfl⟩ := k_succ (show 0 < K by omega)
    simp only [laws_FnExactDropClue.j1]
    rw [if_neg (by simp), markPuzzle_eq (by omega) (by omega) (by omega) (by omega)]
    simp only [Option.bind_some]
    rw [heldPuzzle_eq (by omega) (by omega) (by omega) (by omega)]
    simp only [Option.bind_some]
    rw [if_neg (by omega), if_pos trivial, toPuzzle_eq hg (by omega)]
    simp only [Option.bind_some]
    rw [impl_eq n hm a (by omega), he]
    simp only [Option.bind_some]
    rw [eqPuzzle_eq (by omega) (by omega)]
    simp only [Option.bind_some]
    rw [if_pos trivial]
    obtain ⟨K, rfl⟩ := k_succ (show 0 < K by omega)
    simp only [laws_FnExactDropClue.j2]
    rw [if_neg (by simp), heldPuzzle_eq (by omega) (by omega) (by omega) (by omega)]
    simp only [Option.bind_some]
    rw [if_neg (by omega), if_pos trivial]
  · rw [szPuzzle_big hn hg, Option.bind_some, if_pos (by omega)]

end Go.Proofs.Ytglegmmpmcnpkaa.fnExactDropClue
