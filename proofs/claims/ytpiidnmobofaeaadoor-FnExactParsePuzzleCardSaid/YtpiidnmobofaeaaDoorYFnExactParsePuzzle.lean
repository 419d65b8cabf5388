/- FnExactParsePuzzle, the plain statement: what the printed functions compute makes the law's function return true. Conditions: the numbers are of their kind. -/
import Derived.Test.YtpiidnmobofaeaaDoorOpn
import Derived.Test.YtpiidnmobofaeaaDoorQFnExactParsePuzzlex9
namespace Go.Proofs.YtpiidnmobofaeaaDoor.fnExactParsePuzzle
open Go.RowKit Go.Proofs.YtpiidnmobofaeaaDoorW.PrintWords Go.Proofs.YtpiidnmobofaeaaDoorW.PrintLast Go.Proofs.YtpiidnmobofaeaaDoorW.PrintMore Go.Proofs.YtpiidnmobofaeaaDoor.QFnExactParsePuzzle
set_option linter.unusedVariables false
set_option linter.unusedSimpArgs false

/-- x lies between a and b. -/
def inB (x a b : Int) : Bool := decide (a ≤ x) && decide (x ≤ b)
theorem inB_true {x a b : Int} : inB x a b = true ↔ a ≤ x ∧ x ≤ b := by simp [inB]
theorem wrap_id {n : Int} (h0 : -9223372036854775808 ≤ n) (h1 : n ≤ 9223372036854775807) : wrap64 n = n := by
  unfold wrap64
  omega
theorem wrap_succ {i n : Nat} (h : i < n) (hn : n ≤ 9223372036854775807) : wrap64 ((i : Int) + 1) = ((i + 1 : Nat) : Int) := by
  unfold wrap64
  omega
theorem getD_take {α : Type} (l : List α) (i : Nat) (h : i < l.length) (z : α) : l.take (i + 1) = l.take i ++ [l.getD i z] := by
  rw [List.take_succ_eq_append_getElem h, List.getD_eq_getElem?_getD, List.getElem?_eq_getElem h]
  rfl
theorem getD_drop {α : Type} (l : List α) (i : Nat) (h : i < l.length) (z : α) : l.drop i = l.getD i z :: l.drop (i + 1) := by
  rw [List.drop_eq_getElem_cons h, List.getD_eq_getElem?_getD, List.getElem?_eq_getElem h]
  rfl
theorem set_take {α : Type} (l : List α) (i : Nat) (h : i < l.length) (v : α) : (l.set i v).take (i + 1) = l.take i ++ [v] := by
  rw [List.take_succ_eq_append_getElem (by rw [List.length_set]; exact h), List.take_set_of_le (Nat.le_refl i), List.getElem_set_self]
theorem k_succ {k d : Nat} (h : d < k) : ∃ m, k = m + 1 := ⟨k - 1, by omega⟩
theorem getD_map_at {α β : Type} (f : α → β) (l : List α) (i : Nat) (h : i < l.length) (z : α) (y : β) : (l.map f).getD i y = f (l.getD i z) := by
  rw [List.getD_eq_getElem?_getD, List.getD_eq_getElem?_getD, List.getElem?_map, List.getElem?_eq_getElem h]
  rfl
/-- A text by its bytes. -/
def bs (l : List UInt8) : ByteArray := ⟨l.toArray⟩
theorem bs_app (l m : List UInt8) : bs l ++ bs m = bs (l ++ m) := by
  apply ByteArray.ext
  simp [bs, ByteArray.data_append]
theorem bs_size (l : List UInt8) : (bs l).size = l.length := by simp [bs, ByteArray.size]
theorem bs_nums (xs : List Int) : strOfNums xs = bs (xs.map fun n => UInt8.ofNat n.toNat) := rfl
theorem l1In_eq (x a b : Int) : spec_l1In.f x a b = some (inB x a b) := by
  unfold spec_l1In.f inB
  by_cases h : a ≤ x <;> simp [h]
theorem in_eq (x a b : Int) : impl_in.f x a b = some (inB x a b) := by
  unfold impl_in.f inB
  by_cases h : a ≤ x <;> simp [h]
/-- A clue of so many people (of whom there is a number). -/
def clueT (n kd a b : Int) : Bool :=
  if kd = 0 then inB a 0 (n - 1) && inB b 1 6 else if kd = 4 then inB a 0 (n - 1) && inB b 0 5 else if kd = 1 then inB a 1 24 && decide (b = 0)
    else if kd = 2 ∨ kd = 3 then inB a 1 100 && decide (b = 0) else if kd = 5 then inB a 0 n && decide (b = 0) else false
theorem wrap_pred {n : Int} (h : inB n 1 4 = true) : wrap64 (n - 1) = n - 1 := by
  rw [inB_true] at h
  exact wrap_id (by omega) (by omega)
theorem pzClue_eq {n : Int} (h : inB n 1 4 = true) {k : Nat} (hk : 0 < k) (kd a b : Int) : spec_pzClue.f k n kd a b = some (clueT n kd a b) := by
  obtain ⟨k, rfl⟩ := k_succ hk
  unfold spec_pzClue.f clueT
  simp only [l1In_eq, Option.bind_some, spec_pzClue.j0]
  rw [wrap_pred h]
  by_cases h0 : kd = 0
  · subst h0; cases inB a 0 (n - 1) <;> simp
  by_cases h4 : kd = 4
  · subst h4; cases inB a 0 (n - 1) <;> simp
  by_cases hb : b = 0
  · subst hb
    by_cases h1 : kd = 1
    · subst h1; simp
    by_cases h2 : kd = 2
    · subst h2; simp
    by_cases h3 : kd = 3
    · subst h3; simp
    by_cases h5 : kd = 5
    · subst h5; simp
    simp [h0, h1, h2, h3, h4, h5]
  · simp [h0, h4, hb]
theorem IsClue_eq {k : Nat} (hk : 0 < k) (n kd a b : Int) : impl_IsClue.f k n kd a b = some (inB n 1 4 && clueT n kd a b) := by
  obtain ⟨k, rfl⟩ := k_succ hk
  unfold impl_IsClue.f impl_isPeople.f clueT
  simp only [in_eq, Option.bind_some, impl_IsClue.j0]
  cases h : inB n 1 4
  · simp
  · rw [wrap_pred h]
    by_cases h0 : kd = 0
    · subst h0; cases inB a 0 (n - 1) <;> simp
    by_cases h4 : kd = 4
    · subst h4; cases inB a 0 (n - 1) <;> simp
    by_cases h1 : kd = 1
    · subst h1; cases inB a 1 24 <;> simp <;> rfl
    by_cases h2 : kd = 2
    · subst h2; cases inB a 1 100 <;> simp <;> rfl
    by_cases h3 : kd = 3
    · subst h3; cases inB a 1 100 <;> simp <;> rfl
    by_cases h5 : kd = 5
    · subst h5; cases inB a 0 n <;> simp <;> rfl
    simp [h0, h1, h2, h3, h4, h5]
theorem eqClueS_l0 {l : List S117} (hn : l.length ≤ 9223372036854775807) : ∀ (d k i : Nat), i + d = l.length → d < k → laws_eqClueS.l0 k l l (i : Int) = some true := by
  intro d
  induction d with
  | zero =>
    intro k i hi hk
    obtain ⟨k, rfl⟩ := k_succ hk
    simp only [laws_eqClueS.l0]
    rw [if_neg (by omega)]
  | succ d ih =>
    intro k i hi hk
    obtain ⟨k, rfl⟩ := k_succ hk
    have hlt : i < l.length := by omega
    simp only [laws_eqClueS.l0, laws_eqClue.f, if_true, Option.bind_some]
    rw [if_pos (by omega), if_pos (by omega), if_pos (by omega), wrap_succ hlt hn]
    exact ih k (i + 1) (by omega) (by omega)
theorem eqPuzzle_eq {n : Int} {l : List S117} (hn : l.length ≤ 9223372036854775807) {k : Nat} (hk : l.length < k) : laws_eqPuzzle.f k n l n l = some true := by
  unfold laws_eqPuzzle.f laws_eqClueS.f
  rw [if_pos rfl, if_pos rfl, show (0 : Int) = ((0 : Nat) : Int) by rfl, eqClueS_l0 hn l.length k 0 (by omega) hk]
  rfl
/-- A puzzle. -/
def goodP (n : Int) (l : List S117) : Bool := inB n 1 4 && (decide (l.length ≤ 6) && l.all fun c => clueT n c.f0 c.f1 c.f2)
theorem pzGood_l0 {n : Int} (h4 : inB n 1 4 = true) {l : List S117} (hn : l.length ≤ 9223372036854775807) : ∀ (d k i : Nat), i + d = l.length → d + 1 < k → spec_pzGood.l0 k l (l.length : Int) (i : Int) n l = some ((l.drop i).all fun c => clueT n c.f0 c.f1 c.f2) := by
  intro d
  induction d with
  | zero =>
    intro k i hi hk
    obtain ⟨k, rfl⟩ := k_succ hk
    simp only [spec_pzGood.l0]
    rw [if_neg (by omega), show i = l.length by omega, List.drop_length]
    rfl
  | succ d ih =>
    intro k i hi hk
    obtain ⟨k, rfl⟩ := k_succ hk
    have hlt : i < l.length := by omega
    simp only [spec_pzGood.l0]
    rw [if_pos (by omega), if_pos (by omega), if_pos (by omega), pzClue_eq h4 (by omega), Option.bind_some, wrap_succ hlt hn, ih k (i + 1) (by omega) (by omega), getD_drop l i hlt z117, List.all_cons]
    show (if clueT n (l.getD i z117).f0 (l.getD i z117).f1 (l.getD i z117).f2 = true then _ else _) = _
    cases clueT n (l.getD i z117).f0 (l.getD i z117).f1 (l.getD i z117).f2 <;> simp
theorem pzGood_eq (n : Int) {l : List S117} (hn : l.length ≤ 9223372036854775807) {k : Nat} (hk : l.length + 2 < k) : spec_pzGood.f k n l = some (goodP n l) := by
  unfold spec_pzGood.f spec_pzPeople.f goodP
  rw [l1In_eq]
  simp only [Option.bind_some]
  obtain ⟨k, rfl⟩ := k_succ hk
  cases h4 : inB n 1 4
  · simp [spec_pzGood.j0]
  · by_cases h6 : l.length ≤ 6
    · have e : decide ((l.length : Int) > 6) = false := decide_eq_false (by omega)
      simp only [if_true, spec_pzGood.j0, e, Bool.false_eq_true, if_false]
      rw [show (0 : Int) = ((0 : Nat) : Int) by rfl, pzGood_l0 h4 hn l.length k 0 (by omega) (by omega)]
      simp [h6]
    · have e : decide ((l.length : Int) > 6) = true := decide_eq_true (by omega)
      simp [spec_pzGood.j0, e, h6]
theorem IsPuzzle_eq (n : Int) {l : List S117} {k : Nat} (hk : 0 < k) : impl_IsPuzzle.f k n l = some (goodP n l) := by
  unfold impl_IsPuzzle.f impl_isPeople.f goodP
  rw [in_eq]
  simp only [Option.bind_some, IsClue_eq hk]
  rw [anyO_some (fun c : S117 => !(inB n 1 4 && clueT n c.f0 c.f1 c.f2))]
  cases h4 : inB n 1 4
  · simp
  · by_cases h6 : l.length ≤ 6
    · rw [if_pos rfl, if_pos (by omega)]
      simp [h6, List.not_any_eq_all_not]
    · rw [if_pos rfl, if_neg (by omega)]
      simp [h6]
/-- A number's text. -/
def numT (n : Int) : List UInt8 := Lib.decDigits n.toNat
theorem itoa_eq {n : Int} (h0 : 0 ≤ n) (h1 : n ≤ 9223372036854775807) : strconv_Itoa.f n = some (bs (numT n)) := by
  unfold strconv_Itoa.f Lib.itoa
  rw [if_pos (by omega), if_pos h1, if_neg (by omega)]
  rfl
theorem numT_small {n : Int} (h0 : 0 ≤ n) (h : n < 10) : numT n = [UInt8.ofNat (48 + n.toNat)] := by
  unfold numT
  rw [Lib.decDigits_one (by omega)]
theorem numT_step {n : Int} (h0 : 0 ≤ n) (h : ¬ n < 10) : numT n = numT (n / 10) ++ [UInt8.ofNat (48 + n % 10).toNat] := by
  unfold numT
  rw [Lib.decDigits, dif_neg (by omega)]
  have e1 : n.toNat / 10 = (n / 10).toNat := by omega
  have e2 : 48 + n.toNat % 10 = (48 + n % 10).toNat := by omega
  rw [e1, e2]
theorem dec_len : ∀ (d n : Nat), n < 10 ^ (d + 1) → (Lib.decDigits n).length ≤ d + 1 := by
  intro d
  induction d with
  | zero =>
    intro n h
    rw [Lib.decDigits_one (by simpa using h)]
    simp
  | succ d ih =>
    intro n h
    by_cases h10 : n < 10
    · rw [Lib.decDigits_one h10]
      simp
    · rw [Lib.decDigits, dif_neg h10, List.length_append]
      have hp : 10 ^ (d + 1 + 1) = 10 ^ (d + 1) * 10 := Nat.pow_succ ..
      have := ih (n / 10) (by omega)
      simp only [List.length_cons, List.length_nil]
      omega
theorem numT_4 {n : Int} (h0 : 0 ≤ n) (h1 : n < 10000) : (numT n).length ≤ 4 := dec_len 3 n.toNat (by omega)
theorem numT_6 {n : Int} (h0 : 0 ≤ n) (h1 : n < 1000000) : (numT n).length ≤ 6 := dec_len 5 n.toNat (by omega)
/-- Numbers with commas between. -/
def numsT : List Int → List UInt8
  | [] => []
  | x :: r => numT x ++ Lib.joinTail [44] (r.map numT)
theorem joinTail_cons (sep : List UInt8) (x : List UInt8) (r : List (List UInt8)) : Lib.joinTail sep (x :: r) = sep ++ x ++ Lib.joinTail sep r := by simp [Lib.joinTail]
theorem joinTail_len (r : List Int) (h : ∀ x ∈ r, 0 ≤ x ∧ x < 10000) : (Lib.joinTail [44] (r.map numT)).length ≤ 5 * r.length := by
  induction r with
  | nil => simp [Lib.joinTail]
  | cons x r ih =>
    have := ih (fun y hy => h y (List.mem_cons_of_mem _ hy))
    have h4 := numT_4 (h x List.mem_cons_self).1 (h x List.mem_cons_self).2
    rw [List.map_cons, joinTail_cons]
    simp only [List.length_append, List.length_cons, List.length_nil]
    omega
theorem numsT_len (r : List Int) (h : ∀ x ∈ r, 0 ≤ x ∧ x < 10000) : (numsT r).length ≤ 5 * r.length := by
  cases r with
  | nil => simp [numsT]
  | cons x r =>
    have := joinTail_len r (fun y hy => h y (List.mem_cons_of_mem _ hy))
    have h4 := numT_4 (h x List.mem_cons_self).1 (h x List.mem_cons_self).2
    simp only [numsT, List.length_append, List.length_cons]
    omega
theorem digit_eq {n : Int} (h0 : 0 ≤ n) (h : n < 10) : strOfNums [(wrap64 (48 + n)) % 256] = bs [UInt8.ofNat (48 + n).toNat] := by
  rw [wrap_id (by omega) (by omega), bs_nums]
  have e : (48 + n) % 256 = 48 + n := by omega
  rw [e]
  rfl
theorem l1Num_eq : ∀ (d k : Nat) (n : Int), 0 ≤ n → n < 10 ^ (d + 1) → n ≤ 1000000000000 → d ≤ 100 → d < k → spec_l1Num.f k n = some (bs (numT n)) ∧ (numT n).length ≤ d + 1 := by
  intro d
  induction d with
  | zero =>
    intro k n h0 h1 _ _ hk
    obtain ⟨k, rfl⟩ := k_succ hk
    have h10 : n < 10 := by simpa using h1
    simp only [spec_l1Num.f]
    rw [if_pos h10, digit_eq h0 h10, numT_small h0 h10]
    have e : (48 + n).toNat = 48 + n.toNat := by omega
    rw [e]
    exact ⟨rfl, by simp⟩
  | succ d ih =>
    intro k n h0 h1 h9 hd hk
    obtain ⟨k, rfl⟩ := k_succ hk
    simp only [spec_l1Num.f]
    by_cases h10 : n < 10
    · rw [if_pos h10, digit_eq h0 h10, numT_small h0 h10]
      have e : (48 + n).toNat = 48 + n.toNat := by omega
      rw [e]
      exact ⟨rfl, by simp⟩
    · have e1 : Int.tdiv n 10 = n / 10 := Int.tdiv_eq_ediv_of_nonneg h0
      have e2 : Int.tmod n 10 = n % 10 := Int.tmod_eq_emod_of_nonneg h0
      have hp : (10 : Int) ^ (d + 1 + 1) = 10 * 10 ^ (d + 1) := by rw [Int.pow_succ, Int.mul_comm]
      rw [hp] at h1
      obtain ⟨q1, q2⟩ := ih k (n / 10) (by omega) (by omega) (by omega) (by omega) (by omega)
      rw [if_neg h10, e1, e2, wrap_id (by omega) (by omega), q1]
      simp only [Option.bind_some]
      rw [digit_eq (by omega) (by omega)]
      have s1 := bs_size (numT (n / 10))
      have s2 := bs_size [UInt8.ofNat (48 + n % 10).toNat]
      simp only [List.length_cons, List.length_nil] at s2
      rw [if_pos (by omega), bs_app, numT_step h0 h10]
      exact ⟨rfl, by rw [List.length_append]; simp; omega⟩
/-- Numbers of at most four digits. -/
theorem l1Num_4 {n : Int} (h0 : 0 ≤ n) (h1 : n < 10000) {k : Nat} (hk : 3 < k) : spec_l1Num.f k n = some (bs (numT n)) := (l1Num_eq 3 k n h0 (by simpa using h1) (by omega) (by decide) hk).1
/-- The text of a clue. -/
def clT (c : S117) : List UInt8 := numT c.f0 ++ [46] ++ numT c.f1 ++ [46] ++ numT c.f2
/-- A clue of small numbers. -/
def okC (c : S117) : Prop := (0 ≤ c.f0 ∧ c.f0 < 10000) ∧ (0 ≤ c.f1 ∧ c.f1 < 10000) ∧ (0 ≤ c.f2 ∧ c.f2 < 10000)
theorem clT_len {c : S117} (h : okC c) : (clT c).length ≤ 14 := by
  obtain ⟨h0, h1, h2⟩ := h
  have a0 := numT_4 h0.1 h0.2
  have a1 := numT_4 h1.1 h1.2
  have a2 := numT_4 h2.1 h2.2
  simp only [clT, List.length_append, List.length_cons, List.length_nil]
  omega
theorem okC_of {n : Int} (hn : inB n 1 4 = true) {c : S117} (h : clueT n c.f0 c.f1 c.f2 = true) : okC c := by
  rw [inB_true] at hn
  unfold clueT at h
  unfold okC
  split at h
  · simp only [Bool.and_eq_true, inB_true] at h; omega
  split at h
  · simp only [Bool.and_eq_true, inB_true] at h; omega
  split at h
  · simp only [Bool.and_eq_true, inB_true, decide_eq_true_eq] at h; omega
  split at h
  · simp only [Bool.and_eq_true, inB_true, decide_eq_true_eq] at h; omega
  split at h
  · simp only [Bool.and_eq_true, inB_true, decide_eq_true_eq] at h; omega
  · simp at h
theorem rd_clue (l : List S117) (i : Nat) : rd_T117 l (i : Int) = l.getD i z117 := by
  unfold rd_T117
  rw [Int.toNat_natCast]
theorem mem_getD {α : Type} {l : List α} {i : Nat} (h : i < l.length) (z : α) : l.getD i z ∈ l := by
  rw [List.getD_eq_getElem?_getD, List.getElem?_eq_getElem h]
  exact List.getElem_mem h
/-- Clues with commas between. -/
def cluesT (l : List S117) : List UInt8 := Lib.join (l.map clT) [44]
theorem clTail_len (r : List S117) (h : ∀ c ∈ r, okC c) : (Lib.joinTail [44] (r.map clT)).length ≤ 15 * r.length := by
  induction r with
  | nil => simp [Lib.joinTail]
  | cons x r ih =>
    have := ih (fun y hy => h y (List.mem_cons_of_mem _ hy))
    have h4 := clT_len (h x List.mem_cons_self)
    rw [List.map_cons, joinTail_cons]
    simp only [List.length_append, List.length_cons, List.length_nil]
    omega
theorem cluesT_len (r : List S117) (h : ∀ c ∈ r, okC c) : (cluesT r).length ≤ 15 * r.length := by
  cases r with
  | nil => simp [cluesT, Lib.join_nil]
  | cons x r =>
    have := clTail_len r (fun y hy => h y (List.mem_cons_of_mem _ hy))
    have h4 := clT_len (h x List.mem_cons_self)
    rw [cluesT, List.map_cons, Lib.join_cons]
    simp only [List.length_append, List.length_cons]
    omega
/-- The text of a puzzle. -/
def puzT (n : Int) (l : List S117) : List UInt8 := numT n ++ [58] ++ cluesT l
theorem pzText_tail {l : List S117} (hn : l.length ≤ 1000) (h : ∀ c ∈ l, okC c) : ∀ (d k i : Nat) (x : List UInt8), i + d = l.length → 0 < i → x.length ≤ 15 * i + 100 → d + 4 < k →
    spec_pzText.l0 k (bs x) l (l.length : Int) (i : Int) = some (bs (x ++ Lib.joinTail [44] ((l.drop i).map clT))) := by
  intro d
  induction d with
  | zero =>
    intro k i x hi hp hx hk
    obtain ⟨k, rfl⟩ := k_succ hk
    simp only [spec_pzText.l0]
    rw [if_neg (by omega), List.drop_of_length_le (by omega)]
    simp [Lib.joinTail]
  | succ d ih =>
    intro k i x hi hp hx hk
    obtain ⟨k, rfl⟩ := k_succ hk
    have hlt : i < l.length := by omega
    have hc := h _ (mem_getD hlt z117)
    have h4 := clT_len hc
    have hstep := ih k (i + 1) (x ++ [44] ++ clT (l.getD i z117)) (by omega) (by omega) (by simp only [List.length_append, List.length_cons, List.length_nil]; omega) (by omega)
    rw [getD_drop l i hlt z117, List.map_cons, joinTail_cons]
    simp only [spec_pzText.l0, rd_clue]
    rw [wrap_succ hlt (by omega)]
    obtain ⟨h0, h1, h2⟩ := hc
    generalize l.getD i z117 = c at *
    rw [l1Num_4 h0.1 h0.2 (by omega), l1Num_4 h1.1 h1.2 (by omega), l1Num_4 h2.1 h2.2 (by omega)]
    simp only [Option.bind_some]
    rw [show (⟨#[44]⟩ : ByteArray) = bs [44] from rfl, show (⟨#[46]⟩ : ByteArray) = bs [46] from rfl]
    simp only [bs_app]
    simp only [clT, List.length_append, List.length_cons, List.length_nil] at h4
    simp only [bs_size, List.length_append, List.length_cons, List.length_nil]
    rw [if_pos (by omega), if_pos (by omega), if_pos (by omega), if_pos (by omega), if_pos (by omega), if_pos (by omega), if_pos (by omega), if_pos (by omega), if_pos (by omega), if_pos (by omega)]
    refine Eq.trans ?_ (hstep.trans ?_)
    · simp [clT]
    · simp
theorem pzText_eq {l : List S117} (hn : l.length ≤ 1000) (h : ∀ c ∈ l, okC c) {s : Int} (h0 : 0 ≤ s) (h1 : s < 10000) {k : Nat} (hk : l.length + 5 < k) : spec_pzText.f k s l = some (bs (puzT s l)) := by
  unfold spec_pzText.f puzT
  have s1 := bs_size (numT s)
  have h4 := numT_4 h0 h1
  rw [l1Num_4 h0 h1 (by omega), Option.bind_some, if_pos (by omega), show (⟨#[58]⟩ : ByteArray) = bs [58] from rfl, bs_app]
  cases l with
  | nil =>
    obtain ⟨k, rfl⟩ := k_succ hk
    simp only [spec_pzText.l0]
    rw [if_neg (by simp)]
    simp [cluesT, Lib.join_nil]
  | cons c r =>
    obtain ⟨k, rfl⟩ := k_succ hk
    have hc := h c List.mem_cons_self
    have h4x := clT_len hc
    have hl : (c :: r).length = r.length + 1 := rfl
    have hstep := pzText_tail hn h r.length k (0 + 1) (numT s ++ [58] ++ clT c) (by omega) (by omega) (by simp only [List.length_append, List.length_cons, List.length_nil]; omega) (by omega)
    simp only [spec_pzText.l0]
    rw [show (0 : Int) = ((0 : Nat) : Int) from rfl, rd_clue]
    rw [show (c :: r).getD 0 z117 = c from rfl, wrap_succ (n := (c :: r).length) (by omega) (by omega)]
    obtain ⟨g0, g1, g2⟩ := hc
    rw [l1Num_4 g0.1 g0.2 (by omega), l1Num_4 g1.1 g1.2 (by omega), l1Num_4 g2.1 g2.2 (by omega)]
    simp only [Option.bind_some]
    rw [show (⟨#[46]⟩ : ByteArray) = bs [46] from rfl]
    simp only [bs_app]
    simp only [clT, List.length_append, List.length_cons, List.length_nil] at h4x
    simp only [bs_size, List.length_append, List.length_cons, List.length_nil] at hstep ⊢
    rw [if_pos (by omega), if_pos (by omega), if_pos (by omega), if_neg (by omega), if_pos (by omega), if_pos (by omega), if_pos (by omega), if_pos (by omega), if_pos (by omega)]
    refine Eq.trans ?_ (hstep.trans ?_)
    · simp [clT]
    · rw [cluesT, List.map_cons, Lib.join_cons]
      simp
theorem text_l0 {l : List S117} (hn : l.length ≤ 1000) (h : ∀ c ∈ l, okC c) {s : Int} (h0 : 0 ≤ s) (h1 : s < 10000) : ∀ (d k i : Nat), i + d = l.length → d < k →
    impl_Puzzle_text.l0 k ((l.take i).map fun c => bs (clT c)) l (l.length : Int) (i : Int) s l = some (bs (puzT s l)) := by
  intro d
  induction d with
  | zero =>
    intro k i hi hk
    obtain ⟨k, rfl⟩ := k_succ hk
    simp only [impl_Puzzle_text.l0]
    rw [if_neg (by omega), List.take_of_length_le (by omega), itoa_eq h0 (by omega)]
    unfold strings_Join.f
    have e : ((l.map fun c => bs (clT c)).map (·.data.toList)) = l.map clT := by
      rw [List.map_map]
      apply List.map_congr_left
      intro x _
      simp [bs]
    have e2 : (⟨#[44]⟩ : ByteArray).data.toList = [44] := rfl
    have hl := cluesT_len l h
    have h4 := numT_4 h0 h1
    rw [e, e2, show Lib.join (l.map clT) [44] = cluesT l from rfl, if_pos (c := (l.map fun c => bs (clT c)).length ≤ 140737488355328) (by rw [List.length_map]; omega), if_pos (c := (cluesT l).length ≤ 140737488355328) (by omega)]
    simp only [Option.bind_some]
    rw [show (⟨#[58]⟩ : ByteArray) = bs [58] from rfl, show (⟨(cluesT l).toArray⟩ : ByteArray) = bs (cluesT l) from rfl]
    simp only [bs_app, bs_size, List.length_append, List.length_cons, List.length_nil]
    rw [if_pos (by omega), if_pos (by omega)]
    rfl
  | succ d ih =>
    intro k i hi hk
    obtain ⟨k, rfl⟩ := k_succ hk
    have hlt : i < l.length := by omega
    have hc := h _ (mem_getD hlt z117)
    have h4 := clT_len hc
    have hstep := ih k (i + 1) (by omega) (by omega)
    rw [getD_take l i hlt z117, List.map_append] at hstep
    simp only [impl_Puzzle_text.l0, rd_clue]
    rw [wrap_succ hlt (by omega)]
    have hl2 : ((l.take i).map fun c => bs (clT c)).length = i := by rw [List.length_map, List.length_take]; omega
    rw [hl2]
    obtain ⟨g0, g1, g2⟩ := hc
    generalize l.getD i z117 = c at *
    rw [itoa_eq g0.1 (by omega), itoa_eq g1.1 (by omega), itoa_eq g2.1 (by omega)]
    simp only [Option.bind_some]
    rw [show (⟨#[46]⟩ : ByteArray) = bs [46] from rfl]
    simp only [bs_app]
    simp only [clT, List.length_append, List.length_cons, List.length_nil] at h4
    simp only [bs_size, List.length_append, List.length_cons, List.length_nil]
    rw [if_pos (by omega), if_pos (by omega), if_pos (by omega), if_pos (by omega), if_pos (by omega), if_pos (by omega), if_pos (by omega), if_pos (by omega)]
    exact hstep
theorem text_eq {l : List S117} (hn : l.length ≤ 1000) (h : ∀ c ∈ l, okC c) {s : Int} (h0 : 0 ≤ s) (h1 : s < 10000) {k : Nat} (hk : l.length < k) : impl_Puzzle_text.f k s l = some (bs (puzT s l)) := by
  unfold impl_Puzzle_text.f
  exact text_l0 hn h h0 h1 l.length k 0 (by omega) hk
theorem rd_set_clue {x : List S117} {i : Nat} (h : i < x.length) (v : S117) : rd_T117 (x.set i v) (i : Int) = v := by
  unfold rd_T117
  rw [Int.toNat_natCast, List.getD_eq_getElem?_getD, List.getElem?_set_self h]
  rfl
/-- The clues that are marked from m on. -/
def marksC (n : Nat) (m : Int) : List S117 := (List.range n).map fun j : Nat => (⟨m + 3 * (j : Int), m + 3 * (j : Int) + 1, m + 3 * (j : Int) + 2⟩ : S117)
theorem marksC_len (n : Nat) (m : Int) : (marksC n m).length = n := by simp [marksC]
theorem marksC_get {n i : Nat} (m : Int) (h : i < n) (z : S117) : (marksC n m).getD i z = ⟨m + 3 * (i : Int), m + 3 * (i : Int) + 1, m + 3 * (i : Int) + 2⟩ := by
  rw [List.getD_eq_getElem?_getD, marksC, List.getElem?_map, List.getElem?_range h]
  rfl
theorem markClueS_l0 {n : Nat} {m : Int} (h0 : 0 ≤ m) (hm : m ≤ 100000000) (hn : n ≤ 2000000) : ∀ (d k i : Nat) (x : List S117), i + d = n → x.length = n → x.take i = (marksC n m).take i → d < k →
    laws_markClueS.l0 k x (m + 3 * (i : Int)) (i : Int) = some (m + 3 * (n : Int), marksC n m) := by
  intro d
  induction d with
  | zero =>
    intro k i x hi hx ht hk
    obtain ⟨k, rfl⟩ := k_succ hk
    simp only [laws_markClueS.l0]
    rw [if_neg (by omega)]
    rw [List.take_of_length_le (by omega), List.take_of_length_le (by rw [marksC_len]; omega)] at ht
    rw [ht, show i = n by omega]
  | succ d ih =>
    intro k i x hi hx ht hk
    obtain ⟨k, rfl⟩ := k_succ hk
    have hlt : i < x.length := by omega
    simp only [laws_markClueS.l0]
    rw [if_pos (by omega), if_pos (by omega)]
    simp only [Option.bind_some, Int.toNat_natCast]
    have r1 := fun v => rd_set_clue (x := x) hlt v
    have r2 := fun v u => rd_set_clue (x := x.set i v) (i := i) (by rw [List.length_set]; exact hlt) u
    simp only [r1, r2, List.set_set]
    rw [wrap_succ hlt (by omega),
      wrap_id (n := m + 3 * (i : Int) + 1) (by omega) (by omega), wrap_id (n := m + 3 * (i : Int) + 1 + 1) (by omega) (by omega), wrap_id (n := m + 3 * (i : Int) + 1 + 1 + 1) (by omega) (by omega),
      show m + 3 * (i : Int) + 1 + 1 + 1 = m + 3 * ((i + 1 : Nat) : Int) by omega, show m + 3 * (i : Int) + 1 + 1 = m + 3 * (i : Int) + 2 by omega]
    refine ih k (i + 1) _ (by omega) (by rw [List.length_set]; exact hx) ?_ (by omega)
    rw [set_take _ _ hlt, ht, getD_take (marksC n m) i (by rw [marksC_len]; omega) z117, marksC_get m (by omega)]
theorem markPuzzle_eq {p m : Int} (h0 : 0 ≤ m) (hm : m ≤ 100000000) {l : List S117} (hn : l.length ≤ 2000000) {k : Nat} (hk : l.length < k) :
    laws_markPuzzle.f k p l m = some (m + 3 * (l.length : Int), marksC l.length m) := by
  unfold laws_markPuzzle.f laws_markClueS.f
  have h := markClueS_l0 h0 hm hn l.length k 0 l (by omega) rfl (by simp) hk
  rw [show m + 3 * ((0 : Nat) : Int) = m by omega] at h
  rw [show ((0 : Nat) : Int) = 0 by rfl] at h
  rw [h]
  rfl
theorem heldClueS_l0 {n : Nat} {m : Int} (h0 : 0 ≤ m) (hm : m ≤ 100000000) (hn : n ≤ 2000000) : ∀ (d k i : Nat), i + d = n → d < k →
    laws_heldClueS.l0 k (marksC n m) (m + 3 * (i : Int)) (i : Int) = some (m + 3 * (n : Int)) := by
  intro d
  induction d with
  | zero =>
    intro k i hi hk
    obtain ⟨k, rfl⟩ := k_succ hk
    simp only [laws_heldClueS.l0]
    rw [marksC_len, if_neg (by omega), show i = n by omega]
  | succ d ih =>
    intro k i hi hk
    obtain ⟨k, rfl⟩ := k_succ hk
    have hr : rd_T117 (marksC n m) (i : Int) = ⟨m + 3 * (i : Int), m + 3 * (i : Int) + 1, m + 3 * (i : Int) + 2⟩ := by
      unfold rd_T117
      rw [Int.toNat_natCast, marksC_get m (by omega)]
    simp only [laws_heldClueS.l0, hr]
    rw [marksC_len, if_pos (by omega), if_pos (by omega), if_pos trivial, wrap_id (n := m + 3 * (i : Int) + 1) (by omega) (by omega), if_pos rfl, wrap_id (n := m + 3 * (i : Int) + 1 + 1) (by omega) (by omega),
      if_pos (by omega), wrap_id (n := m + 3 * (i : Int) + 1 + 1 + 1) (by omega) (by omega), wrap_succ (n := n) (by omega) (by omega), show m + 3 * (i : Int) + 1 + 1 + 1 = m + 3 * ((i + 1 : Nat) : Int) by omega]
    exact ih k (i + 1) (by omega) (by omega)
theorem heldPuzzle_eq {p m : Int} (h0 : 0 ≤ m) (hm : m ≤ 100000000) {n : Nat} (hn : n ≤ 2000000) {k : Nat} (hk : n < k) :
    laws_heldPuzzle.f k p (marksC n m) m = some (m + 3 * (n : Int)) := by
  unfold laws_heldPuzzle.f laws_heldClueS.f
  have h := heldClueS_l0 h0 hm hn n k 0 (by omega) hk
  rw [show m + 3 * ((0 : Nat) : Int) = m by omega, show ((0 : Nat) : Int) = 0 by rfl] at h
  rw [h, Option.bind_some, if_neg (by omega)]
/-- A text taken apart at a sign. -/
def splitL (c : UInt8) : List UInt8 → List (List UInt8)
  | [] => [[]]
  | b :: r => if b = c then [] :: splitL c r else (b :: (splitL c r).headD []) :: (splitL c r).tail
theorem splitL_ne (c : UInt8) : ∀ l, splitL c l ≠ []
  | [] => by simp [splitL]
  | b :: r => by unfold splitL; split <;> simp
theorem splitL_cons_head (c : UInt8) (l : List UInt8) : ∃ x xs, splitL c l = x :: xs := by
  cases h : splitL c l with
  | nil => exact absurd h (splitL_ne c l)
  | cons x xs => exact ⟨x, xs, rfl⟩
theorem splitL_hit (c : UInt8) (r : List UInt8) : splitL c (c :: r) = [] :: splitL c r := by
  rw [splitL, if_pos rfl]
theorem splitL_miss {c b : UInt8} (h : b ≠ c) {r x : List UInt8} {xs : List (List UInt8)} (hr : splitL c r = x :: xs) : splitL c (b :: r) = (b :: x) :: xs := by
  rw [splitL, if_neg h, hr]
  rfl
theorem splitL_append (c : UInt8) : ∀ (a l : List UInt8) {x : List UInt8} {xs : List (List UInt8)}, (∀ b ∈ a, b ≠ c) → splitL c l = x :: xs → splitL c (a ++ l) = (a ++ x) :: xs
  | [], _, _, _, _, h => h
  | b :: a, l, x, xs, ha, h => by
    rw [List.cons_append, List.cons_append]
    exact splitL_miss (ha b List.mem_cons_self) (splitL_append c a l (fun q hq => ha q (List.mem_cons_of_mem _ hq)) h)
theorem splitL_none (c : UInt8) {a : List UInt8} (h : ∀ b ∈ a, b ≠ c) : splitL c a = [a] := by
  have := splitL_append c a [] (x := []) (xs := []) h rfl
  simpa using this
theorem splitL_two (c : UInt8) {a : List UInt8} (h : ∀ b ∈ a, b ≠ c) (l : List UInt8) : splitL c (a ++ c :: l) = a :: splitL c l := by
  have := splitL_append c a (c :: l) h (splitL_hit c l)
  simpa using this
/-- Put together again. -/
theorem join_splitL (c : UInt8) : ∀ l, Lib.join (splitL c l) [c] = l
  | [] => by simp [splitL, Lib.join_one]
  | b :: r => by
    have ih := join_splitL c r
    obtain ⟨x, xs, hx⟩ := splitL_cons_head c r
    by_cases h : b = c
    · subst h
      rw [splitL_hit, Lib.join_cons]
      rw [hx, Lib.join_cons] at ih
      rw [hx]
      simp only [Lib.joinTail, List.map_cons, List.flatten_cons, List.nil_append] at ih ⊢
      rw [List.append_assoc, ih]
      rfl
    · rw [splitL_miss h hx, Lib.join_cons]
      rw [hx, Lib.join_cons] at ih
      rw [List.cons_append, ih]
theorem splitL_join (c : UInt8) : ∀ (ps : List (List UInt8)), ps ≠ [] → (∀ p ∈ ps, ∀ b ∈ p, b ≠ c) → splitL c (Lib.join ps [c]) = ps
  | [], h, _ => absurd rfl h
  | [p], _, h => by rw [Lib.join_one]; exact splitL_none c (h p List.mem_cons_self)
  | p :: q :: r, _, h => by
    have ih := splitL_join c (q :: r) (by simp) (fun x hx => h x (List.mem_cons_of_mem _ hx))
    have e : Lib.join (p :: q :: r) [c] = p ++ c :: Lib.join (q :: r) [c] := by
      rw [Lib.join_cons, Lib.join_cons]
      simp [Lib.joinTail]
    rw [e, splitL_two c (h p List.mem_cons_self), ih]
theorem splitL_len (c : UInt8) : ∀ l, (splitL c l).length ≤ l.length + 1
  | [] => by simp [splitL]
  | b :: r => by
    have := splitL_len c r
    obtain ⟨x, xs, hx⟩ := splitL_cons_head c r
    rw [hx] at this
    by_cases h : b = c
    · subst h; rw [splitL_hit, hx]; simp at this ⊢; omega
    · rw [splitL_miss h hx]; simp at this ⊢; omega
theorem splitL_mem_len (c : UInt8) : ∀ l, ∀ p ∈ splitL c l, p.length ≤ l.length
  | [], p, hp => by simp [splitL] at hp; simp [hp]
  | b :: r, p, hp => by
    have ih := splitL_mem_len c r
    obtain ⟨x, xs, hx⟩ := splitL_cons_head c r
    by_cases h : b = c
    · subst h
      rw [splitL_hit] at hp
      rcases List.mem_cons.1 hp with rfl | hp
      · simp
      · have := ih p hp; simp; omega
    · rw [splitL_miss h hx] at hp
      rcases List.mem_cons.1 hp with rfl | hp
      · have := ih x (by rw [hx]; exact List.mem_cons_self); simp; omega
      · have := ih p (by rw [hx]; exact List.mem_cons_of_mem _ hp); simp; omega
theorem index_hit (c : UInt8) : ∀ (a r : List UInt8), (∀ b ∈ a, b ≠ c) → Lib.index (a ++ c :: r) [c] = (a.length : Int)
  | [], r, _ => by simp [Lib.index, List.isPrefixOf]
  | b :: a, r, h => by
    have hb : b ≠ c := h b List.mem_cons_self
    have ih := index_hit c a r (fun q hq => h q (List.mem_cons_of_mem _ hq))
    have hp : ([c] : List UInt8).isPrefixOf (b :: (a ++ c :: r)) = false := by simp [List.isPrefixOf, Ne.symm hb]
    have hq : ((a.length : Int) == -1) = false := by simp
    rw [List.cons_append, Lib.index, hp, ih, hq]
    simp
theorem index_miss (c : UInt8) : ∀ (a : List UInt8), (∀ b ∈ a, b ≠ c) → Lib.index a [c] = -1
  | [], _ => by simp [Lib.index]
  | b :: a, h => by
    have hb : b ≠ c := h b List.mem_cons_self
    have ih := index_miss c a (fun q hq => h q (List.mem_cons_of_mem _ hq))
    have hp : ([c] : List UInt8).isPrefixOf (b :: a) = false := by simp [List.isPrefixOf, Ne.symm hb]
    rw [Lib.index, hp, ih]
    simp
theorem at_sign (c : UInt8) : ∀ l : List UInt8, (∀ b ∈ l, b ≠ c) ∨ ∃ a r, l = a ++ c :: r ∧ ∀ b ∈ a, b ≠ c
  | [] => Or.inl (by simp)
  | b :: l => by
    by_cases hb : b = c
    · exact Or.inr ⟨[], l, by rw [hb]; rfl, by simp⟩
    · rcases at_sign c l with h | ⟨a, r, rfl, h⟩
      · exact Or.inl (by intro q hq; rcases List.mem_cons.1 hq with rfl | hq; exact hb; exact h q hq)
      · exact Or.inr ⟨b :: a, r, rfl, by intro q hq; rcases List.mem_cons.1 hq with rfl | hq; exact hb; exact h q hq⟩
theorem splitK_splitL (c : UInt8) : ∀ (n : Nat) (l : List UInt8), l.length ≤ n → Lib.splitK [c] 0 (Lib.count l [c]) l = splitL c l := by
  intro n
  induction n with
  | zero =>
    intro l hl
    have : l = [] := by cases l with | nil => rfl | cons _ _ => simp at hl
    subst this
    rfl
  | succ n ih =>
    intro l hl
    rcases at_sign c l with h | ⟨a, r, rfl, h⟩
    · rw [Lib.count_one, List.count_eq_zero_of_not_mem (fun hc => h c hc rfl), splitL_none c h]
      rfl
    · have e : Lib.count (a ++ c :: r) [c] = Lib.count r [c] + 1 := by
        rw [Lib.count_one, Lib.count_one, List.count_append, List.count_eq_zero_of_not_mem (fun hc => h c hc rfl), List.count_cons_self]
        omega
      have hn : ((a.length : Int) == -1) = false := by simp
      rw [e, Lib.splitK, index_hit c a r h, hn, splitL_two c h]
      have e1 : (a ++ c :: r).take ((a.length : Int).toNat + 0) = a := by simp
      have e2 : (a ++ c :: r).drop ((a.length : Int).toNat + [c].length) = r := by simp
      rw [e1, e2, ih r (by simp at hl; omega)]
      simp
theorem bs_data (s : ByteArray) : bs s.data.toList = s := Lib.mk_data s
theorem data_bs (l : List UInt8) : (bs l).data.toList = l := by simp [bs]
theorem splitB_eq (c : UInt8) (l : List UInt8) : Lib.splitB ⟨#[c]⟩ 0 (Lib.countB (bs l) ⟨#[c]⟩) (bs l) = (splitL c l).map bs := by
  have h := Lib.splitB_data ⟨#[c]⟩ 0 (Lib.countB (bs l) ⟨#[c]⟩) (bs l)
  have e : ∀ xs : List ByteArray, (xs.map (·.data.toList)).map bs = xs := by
    intro xs
    rw [List.map_map]
    conv => rhs; rw [← List.map_id xs]
    apply List.map_congr_left
    intro x _
    exact bs_data x
  rw [← e (Lib.splitB ⟨#[c]⟩ 0 (Lib.countB (bs l) ⟨#[c]⟩) (bs l)), h]
  have hc : Lib.countB (bs l) ⟨#[c]⟩ = Lib.count l [c] := by
    unfold Lib.countB
    rw [data_bs]
  rw [hc, data_bs]
  exact congrArg (List.map bs) (splitK_splitL c l.length l (Nat.le_refl _))
theorem cut_hit (c : UInt8) {a : List UInt8} (r : List UInt8) (h : ∀ b ∈ a, b ≠ c) : Lib.cut (a ++ c :: r) [c] = (a, r, true) := by
  unfold Lib.cut
  rw [index_hit c a r h, if_pos (by omega)]
  simp
theorem cut_miss (c : UInt8) {a : List UInt8} (h : ∀ b ∈ a, b ≠ c) : Lib.cut a [c] = (a, [], false) := by
  unfold Lib.cut
  rw [index_miss c a h, if_neg (by omega)]
/-- A digit. -/
def isD (b : UInt8) : Bool := decide (48 ≤ b.toNat) && decide (b.toNat ≤ 57)
theorem isD_true {b : UInt8} : isD b = true ↔ 48 ≤ b.toNat ∧ b.toNat ≤ 57 := by simp [isD]
def digN (b : UInt8) : Nat := b.toNat - 48
/-- What digits spell behind others. -/
def spellN (a : Nat) (l : List UInt8) : Nat := l.foldl (fun n b => 10 * n + digN b) a
theorem spellN_nil (a : Nat) : spellN a [] = a := rfl
theorem spellN_cons (a : Nat) (b : UInt8) (r : List UInt8) : spellN a (b :: r) = spellN (10 * a + digN b) r := by
  unfold spellN
  rw [List.foldl_cons]
theorem spellN_append (l m : List UInt8) (a : Nat) : spellN a (l ++ m) = spellN (spellN a l) m := List.foldl_append
theorem spellN_ge : ∀ (l : List UInt8) (a : Nat), a ≤ spellN a l := by
  intro l
  induction l with
  | nil => intro a; exact Nat.le_refl a
  | cons b l ih =>
    intro a
    rw [spellN_cons]
    have h := ih (10 * a + digN b)
    exact Nat.le_trans (by omega) h
theorem byte_nat {d : Nat} (h : d < 256) : (UInt8.ofNat d).toNat = d := by
  rw [UInt8.toNat_ofNat']
  omega
theorem byte_of (b : UInt8) {d : Nat} (h : b.toNat = d) : UInt8.ofNat d = b := by
  rw [← h]
  exact UInt8.ofNat_toNat
theorem dec_small {n : Nat} (h : n < 10) : Lib.decDigits n = [UInt8.ofNat (48 + n)] := by rw [Lib.decDigits, dif_pos h]
theorem dec_step {n : Nat} (h : ¬ n < 10) : Lib.decDigits n = Lib.decDigits (n / 10) ++ [UInt8.ofNat (48 + n % 10)] := by rw [Lib.decDigits, dif_neg h]
theorem dec_digits (n : Nat) : (∀ b ∈ Lib.decDigits n, isD b = true) ∧ spellN 0 (Lib.decDigits n) = n ∧ Lib.decDigits n ≠ [] ∧ ∀ r, Lib.decDigits n = 48 :: r → r = [] := by
  induction n using Nat.strongRecOn with
  | ind n ih =>
    by_cases h : n < 10
    · rw [dec_small h]
      refine ⟨?_, ?_, by simp, ?_⟩
      · intro b hb
        rw [List.mem_singleton.1 hb, isD_true, byte_nat (by omega)]
        omega
      · simp only [spellN_cons, spellN_nil, digN]
        rw [byte_nat (by omega)]
        omega
      · intro r hr
        exact (List.cons.inj hr).2.symm
    · obtain ⟨i1, i2, i3, i4⟩ := ih (n / 10) (by omega)
      rw [dec_step h]
      refine ⟨?_, ?_, by simp, ?_⟩
      · intro b hb
        rcases List.mem_append.1 hb with hb | hb
        · exact i1 b hb
        · rw [List.mem_singleton.1 hb, isD_true, byte_nat (by omega)]
          omega
      · rw [spellN_append, i2]
        simp only [spellN_cons, spellN_nil, digN]
        rw [byte_nat (by omega)]
        omega
      · intro r hr
        cases hd : Lib.decDigits (n / 10) with
        | nil => exact absurd hd i3
        | cons c q =>
          rw [hd, List.cons_append] at hr
          obtain ⟨rfl, -⟩ := List.cons.inj hr
          have hq := i4 q hd
          subst hq
          rw [hd] at i2
          have e0 : spellN 0 [48] = 0 := by decide
          omega
theorem dec_behind : ∀ (l : List UInt8) (a : Nat), 0 < a → (∀ b ∈ l, isD b = true) → Lib.decDigits (spellN a l) = Lib.decDigits a ++ l
  | [], a, _, _ => by simp [spellN_nil]
  | b :: l, a, ha, h => by
    have hb := isD_true.1 (h b List.mem_cons_self)
    rw [spellN_cons, dec_behind l _ (by unfold digN; omega) (fun q hq => h q (List.mem_cons_of_mem _ hq)), dec_step (by unfold digN; omega)]
    have e1 : (10 * a + digN b) / 10 = a := by unfold digN; omega
    have e2 : UInt8.ofNat (48 + (10 * a + digN b) % 10) = b := byte_of b (by unfold digN; omega)
    rw [e1, e2, List.append_assoc]
    rfl
/-- Digits without a useless 0 are the text of what they spell. -/
theorem dec_val {t : List UInt8} (h0 : t ≠ []) (hd : ∀ b ∈ t, isD b = true) (hz : ∀ r, t = 48 :: r → r = []) : Lib.decDigits (spellN 0 t) = t := by
  cases t with
  | nil => exact absurd rfl h0
  | cons b r =>
    have hb := isD_true.1 (hd b List.mem_cons_self)
    by_cases h48 : b = 48
    · subst h48
      have hr := hz r rfl
      subst hr
      have e0 : spellN 0 [48] = 0 := by decide
      rw [e0, dec_small (by decide)]
      rfl
    · have hp : b.toNat ≠ 48 := fun e => h48 (UInt8.toNat_inj.1 e)
      rw [spellN_cons, dec_behind r _ (by unfold digN; omega) (fun q hq => hd q (List.mem_cons_of_mem _ hq)), dec_small (by unfold digN; omega)]
      have e2 : UInt8.ofNat (48 + (10 * 0 + digN b)) = b := byte_of b (by unfold digN; omega)
      rw [e2]
      rfl
theorem parse_val : ∀ (l : List UInt8) (a : Nat), (∀ b ∈ l, isD b = true) → spellN a l < 9223372036854775808 → Lib.parseUint10 a l = .ok (spellN a l)
  | [], _, _, _ => rfl
  | b :: l, a, h, hv => by
    have hb := isD_true.1 (h b List.mem_cons_self)
    have hg := spellN_ge l (10 * a + digN b)
    rw [spellN_cons] at hv ⊢
    have e : a * 10 + (b.toNat - 48) = 10 * a + digN b := by unfold digN; omega
    rw [Lib.parseUint10, if_pos hb, if_neg (by omega), if_neg (by omega), e]
    exact parse_val l _ (fun q hq => h q (List.mem_cons_of_mem _ hq)) hv
theorem atoi_dec {n : Nat} (h : n < 9223372036854775808) : Lib.atoiAll (Lib.decDigits n) = .ok (n : Int) := by
  obtain ⟨d1, d2, d3, -⟩ := dec_digits n
  cases hd : Lib.decDigits n with
  | nil => exact absurd hd d3
  | cons c r =>
    have hc := isD_true.1 (d1 c (by rw [hd]; exact List.mem_cons_self))
    have hp := parse_val (Lib.decDigits n) 0 d1 (by omega)
    rw [d2, hd] at hp
    rw [Lib.atoiAll_plain c r (by omega) (by omega), Lib.parseMag, if_neg (by simp), hp]
    simp only [Lib.signless]
    rw [if_neg (by omega)]
theorem numT_digits (n : Int) : ∀ b ∈ numT n, isD b = true := (dec_digits n.toNat).1
theorem numT_val {n : Int} (h : 0 ≤ n) : (spellN 0 (numT n) : Int) = n := by
  have := (dec_digits n.toNat).2.1
  unfold numT
  omega
theorem numT_free (n : Int) {c : UInt8} (h : isD c = false) : ∀ b ∈ numT n, b ≠ c := by
  intro b hb e
  subst e
  rw [numT_digits n b hb] at h
  cases h
theorem bt_at (l : List UInt8) (i : Nat) (h : i < l.length) : bt (bs l) (i : Int) = ((l[i]).toNat : Int) := by
  unfold bt
  have hs : (i : Int).toNat < (bs l).size := by rw [bs_size]; omega
  rw [dif_pos hs]
  rfl
theorem bs_extract (l : List UInt8) (a b : Nat) : (bs l).extract a b = bs ((l.drop a).take (b - a)) := by
  rw [Lib.extract_eq, data_bs]
  rfl
theorem byte_eq {a b : UInt8} : ((a.toNat : Int) = (b.toNat : Int)) ↔ a = b := by
  constructor
  · intro h
    exact UInt8.toNat_inj.1 (by omega)
  · intro h
    rw [h]
theorem l1Split_l0 {t : List UInt8} (hn : t.length ≤ 1048576) {c : UInt8} : ∀ (d k i j : Nat) (ps : List ByteArray), i + d = t.length → j ≤ i → (∀ b ∈ (t.drop j).take (i - j), b ≠ c) → ps.length ≤ i → d < k →
    spec_l1Split.l0 k (bs t) (c.toNat : Int) ps (j : Int) (i : Int) = some (ps ++ (splitL c (t.drop j)).map bs) := by
  intro d
  induction d with
  | zero =>
    intro k i j ps hi hj hf hp hk
    obtain ⟨k, rfl⟩ := k_succ hk
    have hs := bs_size t
    simp only [spec_l1Split.l0]
    have e : (t.drop j).take (i - j) = t.drop j := List.take_of_length_le (by rw [List.length_drop]; omega)
    rw [e] at hf
    rw [if_neg (by omega), if_pos (by omega), if_pos (by omega), if_pos (by omega), splitL_none c hf, bs_extract, hs, List.take_of_length_le (by rw [List.length_drop]; omega)]
    rfl
  | succ d ih =>
    intro k i j ps hi hj hf hp hk
    obtain ⟨k, rfl⟩ := k_succ hk
    have hs := bs_size t
    have hlt : i < t.length := by omega
    simp only [spec_l1Split.l0]
    rw [if_pos (by omega), if_pos (by omega), bt_at t i hlt]
    by_cases hc : t[i] = c
    · rw [if_pos (byte_eq.2 hc), if_pos (by omega), if_pos (by omega), if_pos (by omega), if_pos (by omega), wrap_succ hlt (by omega), bs_extract]
      rw [ih k (i + 1) (i + 1) _ (by omega) (Nat.le_refl _) (by simp) (by rw [List.length_append]; simp; omega) (by omega)]
      have e : t.drop j = (t.drop j).take (i - j) ++ c :: t.drop (i + 1) := by
        have e1 := List.take_append_drop (i - j) (t.drop j)
        rw [List.drop_drop] at e1
        have e2 : j + (i - j) = i := by omega
        rw [e2, List.drop_eq_getElem_cons hlt, hc] at e1
        exact e1.symm
      have e3 : splitL c (t.drop j) = (t.drop j).take (i - j) :: splitL c (t.drop (i + 1)) := by
        conv => lhs; rw [e]
        exact splitL_two c hf _
      have e4 : ((i : Int)).toNat - ((j : Int)).toNat = i - j := by omega
      rw [e3, e4]
      simp
    · rw [if_neg (fun h => hc (byte_eq.1 h)), wrap_succ hlt (by omega)]
      refine ih k (i + 1) j ps (by omega) (by omega) ?_ (by omega) (by omega)
      have e : i + 1 - j = (i - j) + 1 := by omega
      have hl : i - j < (t.drop j).length := by rw [List.length_drop]; omega
      rw [e, List.take_succ_eq_append_getElem hl]
      intro b hb
      rcases List.mem_append.1 hb with hb | hb
      · exact hf b hb
      · rw [List.mem_singleton.1 hb, List.getElem_drop]
        have e2 : j + (i - j) = i := by omega
        simp only [e2]
        exact hc
theorem l1Split_eq {t : List UInt8} (hn : t.length ≤ 1048576) (c : UInt8) {k : Nat} (hk : t.length < k) : spec_l1Split.f k (bs t) (c.toNat : Int) = some ((splitL c t).map bs) := by
  unfold spec_l1Split.f
  have h := l1Split_l0 hn (c := c) t.length k 0 0 [] (by omega) (Nat.le_refl _) (by simp) (Nat.zero_le _) hk
  simpa using h
theorem rdOf_map (ps : List (List UInt8)) (i : Nat) (h : i < ps.length) : rdOf ByteArray.empty (ps.map bs) (i : Int) = bs ps[i] := by
  unfold rdOf
  rw [List.getD_eq_getElem?_getD, List.getElem?_map]
  have e : ((i : Int)).toNat = i := by omega
  rw [e, List.getElem?_eq_getElem h]
  rfl
/-- A numeral of at most six digits, else -1. -/
def readL (t : List UInt8) : Int := if 1 ≤ t.length ∧ t.length ≤ 6 then (if t.head? = some 48 ∧ 1 < t.length then -1 else if t.all isD = true then (spellN 0 t : Int) else -1) else -1
theorem l1Read_l0 {t : List UInt8} (hn : t.length ≤ 6) : ∀ (d k i v : Nat), i + d = t.length → v = spellN 0 (t.take i) → v < 10 ^ i → d < k → spec_l1Read.l0 k (bs t) (v : Int) (i : Int) = some (if (t.drop i).all isD = true then (spellN 0 t : Int) else -1) := by
  intro d
  induction d with
  | zero =>
    intro k i v hi hv hb hk
    obtain ⟨k, rfl⟩ := k_succ hk
    have hs := bs_size t
    simp only [spec_l1Read.l0]
    rw [if_neg (by omega), show i = t.length by omega, List.drop_length, hv, show i = t.length by omega, List.take_length]
    rfl
  | succ d ih =>
    intro k i v hi hv hb hk
    obtain ⟨k, rfl⟩ := k_succ hk
    have hs := bs_size t
    have hlt : i < t.length := by omega
    have hp : 10 ^ i ≤ 10 ^ 5 := Nat.pow_le_pow_right (by decide) (by omega)
    have hp2 : 10 ^ (i + 1) = 10 ^ i * 10 := Nat.pow_succ ..
    simp only [spec_l1Read.l0]
    rw [if_pos (by omega), if_pos (by omega), bt_at t i hlt, List.drop_eq_getElem_cons hlt, List.all_cons]
    have hb8 := UInt8.toNat_lt t[i]
    by_cases h1 : (t[i].toNat : Int) < 48
    · have e : isD t[i] = false := by
        unfold isD
        rw [decide_eq_false (by omega)]
        rfl
      rw [if_pos h1, e]
      rfl
    · rw [if_neg h1]
      by_cases h2 : (t[i].toNat : Int) > 57
      · have e : isD t[i] = false := by
          unfold isD
          rw [decide_eq_false (p := t[i].toNat ≤ 57) (by omega), Bool.and_false]
        rw [if_pos h2, e]
        rfl
      · have e : isD t[i] = true := isD_true.2 (by omega)
        have hg : digN t[i] = t[i].toNat - 48 := rfl
        have ev : wrap64 (wrap64 (10 * (v : Int)) + ((t[i].toNat : Int) - 48) % 256) = ((10 * v + digN t[i] : Nat) : Int) := by
          rw [wrap_id (n := 10 * (v : Int)) (by omega) (by omega), wrap_id (by omega) (by omega)]
          omega
        rw [if_neg h2, ev, wrap_succ hlt (by omega), e, Bool.true_and]
        have hb3 : ∀ P B : Nat, v < P → B ≤ 57 → 10 * v + (B - 48) < P * 10 := by intro P B h h'; omega
        have hb4 : 10 * v + digN t[i] < 10 ^ (i + 1) := by
          rw [hg, hp2]
          exact hb3 _ _ hb (by omega)
        clear hb3 hp hp2
        refine ih k (i + 1) _ (by omega) ?_ hb4 (by omega)
        rw [List.take_succ_eq_append_getElem hlt, spellN_append, ← hv, spellN_cons, spellN_nil]
theorem l1Read_eq (t : List UInt8) (hn : t.length ≤ 1048576) {k : Nat} (hk : 8 < k) : spec_l1Read.f k (bs t) = some (readL t) := by
  unfold spec_l1Read.f readL
  have hs := bs_size t
  obtain ⟨k, rfl⟩ := k_succ hk
  rw [l1In_eq, Option.bind_some]
  cases hin : inB ((bs t).size : Int) 1 6
  · have hne : ¬ (1 ≤ t.length ∧ t.length ≤ 6) := by
      intro h
      have : inB ((bs t).size : Int) 1 6 = true := inB_true.2 (by omega)
      rw [hin] at this
      cases this
    rw [if_neg (by simp), if_neg hne]
    simp only [spec_l1Read.j0]
    rw [if_pos trivial]
  · have h := inB_true.1 hin
    have h0 : 0 < t.length := by omega
    rw [if_pos rfl, if_pos (by omega), if_pos (show 1 ≤ t.length ∧ t.length ≤ 6 by omega), show bt (bs t) 0 = ((t[0]).toNat : Int) from bt_at t 0 h0]
    have hl : ∀ q, q = k → spec_l1Read.l0 q (bs t) 0 0 = some (if t.all isD = true then (spellN 0 t : Int) else -1) := by
      intro q hq
      have := l1Read_l0 (t := t) (by omega) t.length q 0 0 (by omega) rfl (by decide) (by omega)
      simpa using this
    have hh : t.head? = some t[0] := by
      cases t with
      | nil => simp at h0
      | cons b r => rfl
    by_cases h48 : t[0] = 48
    · rw [if_pos (by rw [h48]; rfl)]
      simp only [spec_l1Read.j0]
      by_cases h1 : 1 < t.length
      · rw [if_pos (by rw [decide_eq_true_iff]; omega), if_pos ⟨by rw [hh, h48], h1⟩]
      · rw [if_neg (by rw [decide_eq_true_iff]; omega), if_neg (fun q => h1 q.2), hl k rfl]
    · have hz : ¬ ((t[0].toNat : Int) = 48) := fun q => h48 (byte_eq.1 (by rw [q]; rfl))
      have hw : ¬ (t.head? = some 48 ∧ 1 < t.length) := fun q => h48 (by have := q.1; rw [hh] at this; exact Option.some.inj this)
      rw [if_neg hz, if_neg hw]
      simp only [spec_l1Read.j0]
      rw [if_neg (by simp), hl k rfl]
theorem readL_num {n : Int} (h0 : 0 ≤ n) (h1 : n < 1000000) : readL (numT n) = n := by
  have h6 := numT_6 h0 h1
  obtain ⟨d1, d2, d3, d4⟩ := dec_digits n.toNat
  have hl : 1 ≤ (numT n).length := List.length_pos_iff.2 d3
  unfold readL
  rw [if_pos ⟨hl, h6⟩, if_neg, if_pos (List.all_eq_true.2 (numT_digits n))]
  · exact numT_val h0
  · rintro ⟨q1, q2⟩
    cases hd : numT n with
    | nil => rw [hd] at q1; cases q1
    | cons b r =>
      rw [hd] at q1 q2
      obtain rfl : b = 48 := Option.some.inj q1
      have := d4 r hd
      rw [this] at q2
      simp at q2
theorem spellN_lt : ∀ (l : List UInt8) (a : Nat), (∀ b ∈ l, isD b = true) → spellN a l < (a + 1) * 10 ^ l.length := by
  intro l
  induction l with
  | nil => intro a _; rw [spellN_nil]; simp
  | cons b l ih =>
    intro a h
    have hb := isD_true.1 (h b List.mem_cons_self)
    have hd : digN b = b.toNat - 48 := rfl
    have hi := ih (10 * a + digN b) (fun q hq => h q (List.mem_cons_of_mem _ hq))
    rw [spellN_cons, List.length_cons, Nat.pow_succ]
    have hm : (10 * a + digN b + 1) * 10 ^ l.length ≤ ((a + 1) * 10) * 10 ^ l.length := Nat.mul_le_mul_right _ (by omega)
    have e : (a + 1) * (10 ^ l.length * 10) = ((a + 1) * 10) * 10 ^ l.length := by
      rw [Nat.mul_comm (10 ^ l.length) 10, Nat.mul_assoc]
    omega
theorem readL_sound {t : List UInt8} (h : 0 ≤ readL t) : numT (readL t) = t ∧ readL t < 1000000 := by
  unfold readL at h ⊢
  by_cases h1 : 1 ≤ t.length ∧ t.length ≤ 6
  · rw [if_pos h1] at h ⊢
    by_cases h2 : t.head? = some 48 ∧ 1 < t.length
    · rw [if_pos h2] at h
      omega
    · rw [if_neg h2] at h ⊢
      by_cases h3 : t.all isD = true
      · rw [if_pos h3]
        have hd : ∀ b ∈ t, isD b = true := List.all_eq_true.1 h3
        have hv := spellN_lt t 0 hd
        have hp : 10 ^ t.length ≤ 10 ^ 6 := Nat.pow_le_pow_right (by decide) h1.2
        refine ⟨?_, by omega⟩
        unfold numT
        have e : ((spellN 0 t : Nat) : Int).toNat = spellN 0 t := by omega
        rw [e]
        refine dec_val (by intro e; rw [e] at h1; simp at h1) hd ?_
        intro r hr
        cases r with
        | nil => rfl
        | cons x y => exact absurd ⟨by rw [hr]; rfl, by rw [hr]; simp⟩ h2
      · rw [if_neg h3] at h
        omega
  · rw [if_neg h1] at h
    omega
theorem toList_bs (l : List UInt8) : (bs l).toList = l := by rw [ByteArray.toList_eq, data_bs]
theorem itoa_dec {n : Int} (h : 0 ≤ n) : Lib.itoa n = numT n := by
  unfold Lib.itoa numT
  rw [if_neg (by omega)]
/-- What readNumber answers. -/
def rn (t : List UInt8) : Int × Bool := match Lib.atoiAll t with
  | .ok v => (v, decide (0 ≤ v) && (Lib.itoa v == t))
  | .range => (Lib.atoiSat t, false)
  | _ => (0, false)
theorem readNumber_eq {t : List UInt8} (hn : t.length ≤ 1048576) : impl_readNumber.f (bs t) = some (rn t) := by
  unfold impl_readNumber.f rn
  rw [if_pos (by rw [bs_size]; exact hn), data_bs]
  cases Lib.atoiAll t with
  | ok v => simp only [toList_bs]; rw [show ((⟨(Lib.itoa v).toArray⟩ : ByteArray)) = bs (Lib.itoa v) from rfl, toList_bs]
  | range => rfl
  | _ => rfl
theorem rn_num {n : Int} (h0 : 0 ≤ n) (h1 : n < 1000000) : rn (numT n) = (n, true) := by
  have h := atoi_dec (n := n.toNat) (by omega)
  unfold rn
  have e : Lib.atoiAll (numT n) = .ok n := by
    unfold numT
    rw [h]
    congr 1
    omega
  rw [e]
  simp only [itoa_dec h0]
  simp [h0]
theorem split_eq {t : List UInt8} (hn : t.length ≤ 1048576) (c : UInt8) : strings_Split.f (bs t) ⟨#[c]⟩ = some ((splitL c t).map bs) := by
  unfold strings_Split.f
  have hs := bs_size t
  have hl := splitL_len c t
  rw [if_pos (by omega), if_pos (show (1 : Nat) ≤ (⟨#[c]⟩ : ByteArray).size from Nat.le_refl 1), splitB_eq, if_pos (by rw [List.length_map]; omega)]
/-- The first numbers that are read, and whether all are. -/
def rns : List (List UInt8) → List Int → List Int × Bool
  | [], a => (a, true)
  | p :: r, a => if (rn p).2 = true then rns r (a ++ [(rn p).1]) else ([], false)
theorem readNumbers_l0 {ps : List (List UInt8)} (hp : ps.length ≤ 1048577) (hl : ∀ p ∈ ps, p.length ≤ 1048576) : ∀ (d k i : Nat) (a : List Int), i + d = ps.length → a.length ≤ i → d < k →
    impl_readNumbers.l0 k a (ps.map bs) (ps.length : Int) (i : Int) = some (rns (ps.drop i) a) := by
  intro d
  induction d with
  | zero =>
    intro k i a hi ha hk
    obtain ⟨k, rfl⟩ := k_succ hk
    simp only [impl_readNumbers.l0]
    rw [if_neg (by omega), List.drop_of_length_le (by omega)]
    rfl
  | succ d ih =>
    intro k i a hi ha hk
    obtain ⟨k, rfl⟩ := k_succ hk
    have hlt : i < ps.length := by omega
    simp only [impl_readNumbers.l0]
    rw [if_pos (by omega), if_pos (by omega), if_pos (by rw [List.length_map]; omega), rdOf_map ps i hlt, readNumber_eq (hl _ (List.getElem_mem hlt)), Option.bind_some, List.drop_eq_getElem_cons hlt]
    unfold rns
    by_cases h : (rn ps[i]).2 = true
    · rw [if_pos h, if_pos h, if_pos (by omega), wrap_succ hlt (by omega)]
      exact ih k (i + 1) _ (by omega) (by rw [List.length_append]; simp; omega) (by omega)
    · rw [if_neg h, if_neg h]
theorem readNumbers_eq {t : List UInt8} (hn : t.length ≤ 1048576) (c : UInt8) {k : Nat} (hk : t.length + 1 < k) : impl_readNumbers.f k (bs t) ⟨#[c]⟩ = some (rns (splitL c t) []) := by
  unfold impl_readNumbers.f
  have hs := splitL_len c t
  rw [split_eq hn c, Option.bind_some, List.length_map]
  exact readNumbers_l0 (by omega) (fun p hp => Nat.le_trans (splitL_mem_len c t p hp) hn) (splitL c t).length k 0 [] (by omega) (Nat.zero_le _) (by omega)
theorem rns_num : ∀ (l : List Int) (a : List Int), (∀ x ∈ l, 0 ≤ x ∧ x < 10000) → rns (l.map numT) a = (a ++ l, true)
  | [], a, _ => by simp [rns]
  | x :: l, a, h => by
    have hx := h x List.mem_cons_self
    rw [List.map_cons, rns, rn_num hx.1 (by omega), if_pos rfl, rns_num l _ (fun y hy => h y (List.mem_cons_of_mem _ hy))]
    simp
theorem cut_eq {t : List UInt8} (hn : t.length ≤ 1048576) (c : UInt8) : strings_Cut.f (bs t) ⟨#[c]⟩ = some (bs (Lib.cut t [c]).1, bs (Lib.cut t [c]).2.1, (Lib.cut t [c]).2.2) := by
  unfold strings_Cut.f
  rw [if_pos (by rw [bs_size]; omega), data_bs]
  rfl
theorem cut_len (t : List UInt8) (c : UInt8) : (Lib.cut t [c]).1.length ≤ t.length ∧ (Lib.cut t [c]).2.1.length ≤ t.length := by
  unfold Lib.cut
  split
  · exact ⟨by rw [List.length_take]; omega, by rw [List.length_drop]; omega⟩
  · exact ⟨Nat.le_refl _, Nat.zero_le _⟩
theorem numsT_join (l : List Int) : numsT l = Lib.join (l.map numT) [44] := by
  cases l with
  | nil => rfl
  | cons x r => rw [List.map_cons, Lib.join_cons]; rfl
theorem numsT_split {l : List Int} (h : l ≠ []) : splitL 44 (numsT l) = l.map numT := by
  rw [numsT_join]
  refine splitL_join 44 _ (by simpa using h) ?_
  intro p hp
  obtain ⟨x, -, rfl⟩ := List.mem_map.1 hp
  exact numT_free x (by decide)
theorem two_or (ps : List (List UInt8)) : ps.length ≠ 2 ∨ ∃ a b, ps = [a, b] := by
  match ps with
  | [] => exact Or.inl (by simp)
  | [_] => exact Or.inl (by simp)
  | [a, b] => exact Or.inr ⟨a, b, rfl⟩
  | _ :: _ :: _ :: _ => exact Or.inl (by simp)
theorem three_or (ps : List (List UInt8)) : ps.length ≠ 3 ∨ ∃ a b c, ps = [a, b, c] := by
  match ps with
  | [] => exact Or.inl (by simp)
  | [_] => exact Or.inl (by simp)
  | [_, _] => exact Or.inl (by simp)
  | [a, b, c] => exact Or.inr ⟨a, b, c, rfl⟩
  | _ :: _ :: _ :: _ :: _ => exact Or.inl (by simp)
theorem good_all {n : Int} {l : List S117} (hg : goodP n l = true) : (1 ≤ n ∧ n ≤ 4) ∧ l.length ≤ 6 ∧ ∀ c ∈ l, okC c := by
  unfold goodP at hg
  simp only [Bool.and_eq_true, decide_eq_true_eq] at hg
  obtain ⟨g1, g2, g3⟩ := hg
  exact ⟨inB_true.1 g1, g2, fun c hc => okC_of g1 (List.all_eq_true.1 g3 c hc)⟩
theorem puzT_cons (n : Int) (l : List S117) : puzT n l = numT n ++ 58 :: cluesT l := by
  unfold puzT
  rw [List.append_assoc]
  rfl
theorem puzT_len {n : Int} {l : List S117} (hg : goodP n l = true) : (puzT n l).length ≤ 100 := by
  obtain ⟨h1, h2, h3⟩ := good_all hg
  have a1 := numT_4 (n := n) (by omega) (by omega)
  have a2 := cluesT_len l h3
  rw [puzT_cons]
  simp only [List.length_append, List.length_cons]
  omega
/-- The end of the model's parse. -/
theorem pz_end (x : List UInt8) (n : Int) {l : List S117} (hn : l.length ≤ 1048577) {k : Nat} (hk : l.length + 20 < k) :
    ((spec_pzGood.f k n l).bind fun t169 => (if t169 = true then ((spec_pzText.f k n l).bind fun t170 => (some (n, l, (t170.toList == (bs x).toList)))) else (some (n, l, false)))) = some (n, l, goodP n l && (puzT n l == x)) := by
  rw [pzGood_eq n (by omega) (by omega), Option.bind_some]
  cases hg : goodP n l
  · rfl
  · obtain ⟨h1, h2, h3⟩ := good_all hg
    rw [if_pos rfl, pzText_eq (by omega) h3 (by omega) (by omega) (by omega), Option.bind_some, toList_bs, toList_bs]
    rfl
theorem pzParse_l0_or (x : List UInt8) (n : Int) {ps : List (List UInt8)} (hp : ps.length ≤ 200) (hl : ∀ p ∈ ps, p.length ≤ 200) : ∀ (d k i : Nat) (a : List S117), i + d = ps.length → a.length ≤ i → d + 400 < k →
    ∃ m cs ok, spec_pzParse.l0 k (bs x) (ps.map bs) (ps.length : Int) (i : Int) n a = some (m, cs, ok) ∧ (ok = true → goodP m cs = true ∧ puzT m cs = x) := by
  intro d
  induction d with
  | zero =>
    intro k i a hi ha hk
    obtain ⟨k, rfl⟩ := k_succ hk
    simp only [spec_pzParse.l0]
    rw [if_neg (by omega), pz_end x n (by omega) (by omega)]
    exact ⟨_, _, _, rfl, fun h => by simpa using h⟩
  | succ d ih =>
    intro k i a hi ha hk
    obtain ⟨k, rfl⟩ := k_succ hk
    have hlt : i < ps.length := by omega
    have hpl := hl _ (List.getElem_mem hlt)
    simp only [spec_pzParse.l0]
    rw [if_pos (by omega), if_pos (by omega), if_pos (by rw [List.length_map]; omega), rdOf_map ps i hlt, show (46 : Int) = ((46 : UInt8).toNat : Int) from rfl, l1Split_eq (by omega) 46 (by omega), Option.bind_some]
    rcases three_or (splitL 46 ps[i]) with h | ⟨p, q, r, h⟩
    · rw [if_neg (by rw [List.length_map]; omega)]
      exact ⟨_, _, _, rfl, fun h => by cases h⟩
    · have l1 : p.length ≤ ps[i].length := splitL_mem_len 46 ps[i] p (by rw [h]; simp)
      have l2 : q.length ≤ ps[i].length := splitL_mem_len 46 ps[i] q (by rw [h]; simp)
      have l3 : r.length ≤ ps[i].length := splitL_mem_len 46 ps[i] r (by rw [h]; simp)
      have r0 : rdOf ByteArray.empty ([p, q, r].map bs) 0 = bs p := rdOf_map [p, q, r] 0 (by simp)
      have r1 : rdOf ByteArray.empty ([p, q, r].map bs) 1 = bs q := rdOf_map [p, q, r] 1 (by simp)
      have r2 : rdOf ByteArray.empty ([p, q, r].map bs) 2 = bs r := rdOf_map [p, q, r] 2 (by simp)
      rw [h, if_pos (by simp), if_pos (by simp), r0, l1Read_eq p (by omega) (by omega), Option.bind_some, if_pos (by simp), r1, l1Read_eq q (by omega) (by omega), Option.bind_some, if_pos (by simp), r2, l1Read_eq r (by omega) (by omega), Option.bind_some, if_pos (by omega), wrap_succ hlt (by omega)]
      exact ih k (i + 1) _ (by omega) (by rw [List.length_append]; simp; omega) (by omega)
theorem spec_or {x : List UInt8} (hn : x.length ≤ 1048576) {k : Nat} (hk : 800 < k) : spec_ParsePuzzle.f k (bs x) = some (0, [], false) ∨ ∃ n l, goodP n l = true ∧ x = puzT n l := by
  have hs := bs_size x
  unfold spec_ParsePuzzle.f spec_pzParse.f
  by_cases h60 : 100 < x.length
  · rw [if_pos (by omega)]
    exact Or.inl rfl
  rw [if_neg (by omega), show (58 : Int) = ((58 : UInt8).toNat : Int) from rfl, l1Split_eq (by omega) 58 (by omega), Option.bind_some]
  rcases two_or (splitL 58 x) with h | ⟨a, b, h⟩
  · rw [if_neg (by rw [List.length_map]; omega)]
    exact Or.inl rfl
  · have ha : a.length ≤ x.length := splitL_mem_len 58 x a (by rw [h]; simp)
    have hb : b.length ≤ x.length := splitL_mem_len 58 x b (by rw [h]; simp)
    have r0 : rdOf ByteArray.empty ([a, b].map bs) 0 = bs a := rdOf_map [a, b] 0 (by simp)
    have r1 : rdOf ByteArray.empty ([a, b].map bs) 1 = bs b := rdOf_map [a, b] 1 (by simp)
    have hsb := bs_size b
    rw [h, if_pos (by simp), if_pos (by simp), r0, l1Read_eq a (by omega) (by omega), Option.bind_some, if_pos (by simp), r1]
    by_cases hb0 : 0 < b.length
    · have hq := splitL_len 44 b
      rw [if_pos (by omega), show (44 : Int) = ((44 : UInt8).toNat : Int) from rfl, l1Split_eq (by omega) 44 (by omega), Option.bind_some, List.length_map]
      obtain ⟨m, cs, ok, e, ho⟩ := pzParse_l0_or x (readL a) (ps := splitL 44 b) (by omega) (fun p hp => by have := splitL_mem_len 44 b p hp; omega) (splitL 44 b).length k 0 [] (by omega) (Nat.zero_le _) (by omega)
      rw [show (0 : Int) = ((0 : Nat) : Int) from rfl, e, Option.bind_some]
      dsimp only
      cases ok
      · exact Or.inl rfl
      · obtain ⟨h1, h2⟩ := ho rfl
        exact Or.inr ⟨m, cs, h1, h2.symm⟩
    · rw [if_neg (by omega), pz_end x (readL a) (by simp) (by simp; omega), Option.bind_some]
      dsimp only
      by_cases hg : (goodP (readL a) [] && (puzT (readL a) [] == x)) = true
      · simp only [Bool.and_eq_true] at hg
        exact Or.inr ⟨_, _, hg.1, (eq_of_beq hg.2).symm⟩
      · rw [if_neg hg]
        exact Or.inl rfl
theorem clT_free {c : UInt8} (hd : isD c = false) (h46 : (46 : UInt8) ≠ c) (q : S117) : ∀ b ∈ clT q, b ≠ c := by
  intro b hb
  unfold clT at hb
  simp only [List.mem_append, List.mem_singleton] at hb
  rcases hb with (((hb | hb) | hb) | hb) | hb
  · exact numT_free _ hd b hb
  · rw [hb]; exact h46
  · exact numT_free _ hd b hb
  · rw [hb]; exact h46
  · exact numT_free _ hd b hb
theorem clT_split (q : S117) : splitL 46 (clT q) = [numT q.f0, numT q.f1, numT q.f2] := by
  have e : clT q = numT q.f0 ++ 46 :: (numT q.f1 ++ 46 :: numT q.f2) := by simp [clT]
  rw [e, splitL_two 46 (numT_free _ (by decide)), splitL_two 46 (numT_free _ (by decide)), splitL_none 46 (numT_free _ (by decide))]
theorem join_free {c : UInt8} (h44 : (44 : UInt8) ≠ c) : ∀ ps : List (List UInt8), (∀ p ∈ ps, ∀ b ∈ p, b ≠ c) → ∀ b ∈ Lib.join ps [44], b ≠ c
  | [], _, b, hb => by simp [Lib.join_nil] at hb
  | [p], h, b, hb => by rw [Lib.join_one] at hb; exact h p List.mem_cons_self b hb
  | p :: q :: r, h, b, hb => by
    have e : Lib.join (p :: q :: r) [44] = p ++ 44 :: Lib.join (q :: r) [44] := by
      rw [Lib.join_cons, Lib.join_cons]
      simp [Lib.joinTail]
    rw [e] at hb
    rcases List.mem_append.1 hb with hb | hb
    · exact h p List.mem_cons_self b hb
    · rcases List.mem_cons.1 hb with rfl | hb
      · exact h44
      · exact join_free h44 (q :: r) (fun x hx => h x (List.mem_cons_of_mem _ hx)) b hb
theorem cluesT_free {c : UInt8} (hd : isD c = false) (h46 : (46 : UInt8) ≠ c) (h44 : (44 : UInt8) ≠ c) (l : List S117) : ∀ b ∈ cluesT l, b ≠ c := by
  refine join_free h44 _ ?_
  intro p hp
  obtain ⟨q, -, rfl⟩ := List.mem_map.1 hp
  exact clT_free hd h46 q
theorem cluesT_split {l : List S117} (h : l ≠ []) : splitL 44 (cluesT l) = l.map clT := by
  unfold cluesT
  refine splitL_join 44 _ (by simpa using h) ?_
  intro p hp
  obtain ⟨x, -, rfl⟩ := List.mem_map.1 hp
  exact clT_free (by decide) (by decide) x
theorem cluesT_pos {l : List S117} (h : l ≠ []) : 0 < (cluesT l).length := by
  cases l with
  | nil => exact absurd rfl h
  | cons c r =>
    unfold cluesT
    rw [List.map_cons, Lib.join_cons]
    simp [clT]
    omega
theorem pzParse_l0_hit (x : List UInt8) (n : Int) {l : List S117} (hp : l.length ≤ 6) (hl : ∀ c ∈ l, okC c) : ∀ (d k i : Nat), i + d = l.length → d + 400 < k →
    spec_pzParse.l0 k (bs x) ((l.map clT).map bs) ((l.map clT).length : Int) (i : Int) n (l.take i) = some (n, l, goodP n l && (puzT n l == x)) := by
  intro d
  induction d with
  | zero =>
    intro k i hi hk
    obtain ⟨k, rfl⟩ := k_succ hk
    simp only [spec_pzParse.l0]
    rw [if_neg (by rw [List.length_map]; omega), List.take_of_length_le (by omega), pz_end x n (by omega) (by omega)]
  | succ d ih =>
    intro k i hi hk
    obtain ⟨k, rfl⟩ := k_succ hk
    have hlt : i < l.length := by omega
    have hm : i < (l.map clT).length := by rw [List.length_map]; exact hlt
    have hc := hl _ (List.getElem_mem hlt)
    have hcl := clT_len hc
    obtain ⟨q0, q1, q2⟩ := hc
    simp only [spec_pzParse.l0]
    rw [if_pos (by omega), if_pos (by omega), if_pos (by rw [List.length_map]; omega), rdOf_map (l.map clT) i hm, List.getElem_map, show (46 : Int) = ((46 : UInt8).toNat : Int) from rfl, l1Split_eq (by omega) 46 (by omega), Option.bind_some, clT_split]
    have n0 := numT_4 q0.1 q0.2
    have n1 := numT_4 q1.1 q1.2
    have n2 := numT_4 q2.1 q2.2
    have r0 : rdOf ByteArray.empty ([numT l[i].f0, numT l[i].f1, numT l[i].f2].map bs) 0 = bs (numT l[i].f0) := rdOf_map [numT l[i].f0, numT l[i].f1, numT l[i].f2] 0 (by simp)
    have r1 : rdOf ByteArray.empty ([numT l[i].f0, numT l[i].f1, numT l[i].f2].map bs) 1 = bs (numT l[i].f1) := rdOf_map [numT l[i].f0, numT l[i].f1, numT l[i].f2] 1 (by simp)
    have r2 : rdOf ByteArray.empty ([numT l[i].f0, numT l[i].f1, numT l[i].f2].map bs) 2 = bs (numT l[i].f2) := rdOf_map [numT l[i].f0, numT l[i].f1, numT l[i].f2] 2 (by simp)
    rw [if_pos (by simp), if_pos (by simp), r0, l1Read_eq _ (by omega) (by omega), Option.bind_some, if_pos (by simp), r1, l1Read_eq _ (by omega) (by omega), Option.bind_some, if_pos (by simp), r2, l1Read_eq _ (by omega) (by omega), Option.bind_some, readL_num q0.1 (by omega), readL_num q1.1 (by omega), readL_num q2.1 (by omega),
      if_pos (by rw [List.length_take]; omega), wrap_succ hm (by rw [List.length_map]; omega)]
    have e : l.take i ++ [(⟨l[i].f0, l[i].f1, l[i].f2⟩ : S117)] = l.take (i + 1) := by rw [List.take_succ_eq_append_getElem hlt]
    rw [e]
    exact ih k (i + 1) (by omega) (by omega)
theorem spec_hit {n : Int} {l : List S117} (hg : goodP n l = true) {k : Nat} (hk : 800 < k) : spec_ParsePuzzle.f k (bs (puzT n l)) = some (n, l, true) := by
  obtain ⟨h1, h2, h3⟩ := good_all hg
  have hx := puzT_len hg
  have hs := bs_size (puzT n l)
  have a1 := numT_4 (n := n) (by omega) (by omega)
  have a2 := cluesT_len l h3
  have hsb := bs_size (cluesT l)
  have e1 : splitL 58 (puzT n l) = [numT n, cluesT l] := by
    rw [puzT_cons, splitL_two 58 (numT_free n (by decide)), splitL_none 58 (cluesT_free (by decide) (by decide) (by decide) l)]
  have r0 : rdOf ByteArray.empty ([numT n, cluesT l].map bs) 0 = bs (numT n) := rdOf_map [numT n, cluesT l] 0 (by simp)
  have r1 : rdOf ByteArray.empty ([numT n, cluesT l].map bs) 1 = bs (cluesT l) := rdOf_map [numT n, cluesT l] 1 (by simp)
  unfold spec_ParsePuzzle.f spec_pzParse.f
  rw [if_neg (by omega), show (58 : Int) = ((58 : UInt8).toNat : Int) from rfl, l1Split_eq (by omega) 58 (by omega), Option.bind_some, e1, if_pos (by simp), if_pos (by simp), r0, l1Read_eq _ (by omega) (by omega), Option.bind_some, if_pos (by simp), r1, readL_num (by omega) (by omega)]
  by_cases hl : l = []
  · subst hl
    have h0 : (cluesT []).length = 0 := rfl
    rw [if_neg (by omega), pz_end (puzT n []) n (by simp) (by simp; omega), Option.bind_some]
    dsimp only
    rw [if_pos (by rw [hg]; simp)]
  · have hpos := cluesT_pos hl
    rw [if_pos (by omega), show (44 : Int) = ((44 : UInt8).toNat : Int) from rfl, l1Split_eq (by omega) 44 (by omega), Option.bind_some, cluesT_split hl, List.length_map]
    have := pzParse_l0_hit (puzT n l) n h2 h3 l.length k 0 (by omega) (by omega)
    rw [List.take_zero] at this
    rw [show (0 : Int) = ((0 : Nat) : Int) from rfl, this, Option.bind_some]
    dsimp only
    rw [if_pos (by rw [hg]; simp)]
theorem impl_j1 (x : List UInt8) (f : Bool) (n : Int) {l : List S117} {k : Nat} (hk : 20 < k) :
    impl_ParsePuzzle.j1 k (bs x) f n l = some (if f = true ∧ goodP n l = true ∧ puzT n l = x then (n, l, true) else (0, [], false)) := by
  obtain ⟨k, rfl⟩ := k_succ hk
  simp only [impl_ParsePuzzle.j1]
  cases f
  · rw [if_neg (by simp), if_neg (by simp)]
  · rw [if_pos rfl, IsPuzzle_eq n (by omega), Option.bind_some]
    cases hg : goodP n l
    · rw [if_neg (by simp), if_neg (by simp)]
    · obtain ⟨h1, h2, h3⟩ := good_all hg
      rw [if_pos rfl, text_eq (by omega) h3 (by omega) (by omega) (by omega), Option.bind_some, toList_bs, toList_bs]
      by_cases he : puzT n l = x
      · rw [if_pos he, if_pos ⟨rfl, rfl, he⟩]
      · rw [if_neg he, if_neg (fun h => he h.2.2)]
theorem impl_l0_or (x tl : List UInt8) (f : Bool) (n : Int) {ps : List (List UInt8)} (hp : ps.length ≤ 1048577) {M : Nat} (hM : M ≤ 1048576) (hl : ∀ p ∈ ps, p.length ≤ M) : ∀ (d k i : Nat) (a : List S117), i + d = ps.length → a.length ≤ i → d + M + 400 < k →
    impl_ParsePuzzle.l0 k (bs x) (bs tl) f (ps.map bs) (ps.length : Int) (i : Int) n a = some (0, [], false) ∨ ∃ m cs, goodP m cs = true ∧ x = puzT m cs := by
  have key : ∀ (k : Nat) (a : List S117), 20 < k → impl_ParsePuzzle.j1 k (bs x) f n a = some (0, [], false) ∨ ∃ m cs, goodP m cs = true ∧ x = puzT m cs := by
    intro k a hk
    rw [impl_j1 x f n hk]
    by_cases h : f = true ∧ goodP n a = true ∧ puzT n a = x
    · exact Or.inr ⟨n, a, h.2.1, h.2.2.symm⟩
    · rw [if_neg h]
      exact Or.inl rfl
  intro d
  induction d with
  | zero =>
    intro k i a hi ha hk
    obtain ⟨k, rfl⟩ := k_succ hk
    simp only [impl_ParsePuzzle.l0]
    rw [if_neg (by omega)]
    exact key k a (by omega)
  | succ d ih =>
    intro k i a hi ha hk
    obtain ⟨k, rfl⟩ := k_succ hk
    have hlt : i < ps.length := by omega
    have hpl := hl _ (List.getElem_mem hlt)
    simp only [impl_ParsePuzzle.l0]
    rw [if_pos (by omega), if_pos (by omega), if_pos (by rw [List.length_map]; omega), toList_bs]
    by_cases ht : tl = []
    · rw [if_pos ht]
      exact key k a (by omega)
    · rw [if_neg ht, rdOf_map ps i hlt, readNumbers_eq (by omega) 46 (by omega), Option.bind_some]
      generalize rns (splitL 46 ps[i]) [] = w
      by_cases h1 : w.2 = true
      · rw [if_pos h1]
        by_cases h3 : (w.1.length : Int) = 3
        · rw [if_pos h3, if_pos (by omega), if_pos (by omega), if_pos (by omega), if_pos (by omega), wrap_succ hlt (by omega)]
          exact ih k (i + 1) _ (by omega) (by rw [List.length_append]; simp; omega) (by omega)
        · rw [if_neg h3]
          exact Or.inl rfl
      · rw [if_neg h1]
        exact Or.inl rfl
theorem impl_or {x : List UInt8} (hn : x.length ≤ 1048576) {k : Nat} (hk : 2 * x.length + 800 < k) : impl_ParsePuzzle.f k (bs x) = some (0, [], false) ∨ ∃ n l, goodP n l = true ∧ x = puzT n l := by
  have hc := cut_len x 58
  have hq := splitL_len 44 (Lib.cut x [58]).2.1
  unfold impl_ParsePuzzle.f
  rw [cut_eq hn 58, Option.bind_some]
  dsimp only
  rw [readNumber_eq (by omega), Option.bind_some, split_eq (by omega) 44, Option.bind_some, List.length_map]
  exact impl_l0_or x _ _ _ (by omega) (M := x.length) hn (fun p hp => by have := splitL_mem_len 44 _ p hp; omega) (splitL 44 (Lib.cut x [58]).2.1).length k 0 [] (by omega) (Nat.zero_le _) (by omega)
theorem impl_l0_hit (x tl : List UInt8) (ht : tl ≠ []) (n : Int) {l : List S117} (hp : l.length ≤ 6) (hl : ∀ c ∈ l, okC c) : ∀ (d k i : Nat), i + d = l.length → d + 400 < k →
    impl_ParsePuzzle.l0 k (bs x) (bs tl) true ((l.map clT).map bs) ((l.map clT).length : Int) (i : Int) n (l.take i) = some (if goodP n l = true ∧ puzT n l = x then (n, l, true) else (0, [], false)) := by
  intro d
  induction d with
  | zero =>
    intro k i hi hk
    obtain ⟨k, rfl⟩ := k_succ hk
    simp only [impl_ParsePuzzle.l0]
    rw [if_neg (by rw [List.length_map]; omega), List.take_of_length_le (by omega), impl_j1 x true n (by omega)]
    simp
  | succ d ih =>
    intro k i hi hk
    obtain ⟨k, rfl⟩ := k_succ hk
    have hlt : i < l.length := by omega
    have hm : i < (l.map clT).length := by rw [List.length_map]; exact hlt
    have hc := hl _ (List.getElem_mem hlt)
    have hcl := clT_len hc
    obtain ⟨q0, q1, q2⟩ := hc
    simp only [impl_ParsePuzzle.l0]
    have e3 : rns [numT l[i].f0, numT l[i].f1, numT l[i].f2] [] = ([l[i].f0, l[i].f1, l[i].f2], true) := by
      have := rns_num [l[i].f0, l[i].f1, l[i].f2] [] (by
        intro y hy
        simp only [List.mem_cons, List.not_mem_nil, or_false] at hy
        rcases hy with rfl | rfl | rfl
        · exact q0
        · exact q1
        · exact q2)
      simpa using this
    rw [if_pos (by omega), if_pos (by omega), if_pos (by rw [List.length_map]; omega), toList_bs, if_neg ht, rdOf_map (l.map clT) i hm, List.getElem_map, readNumbers_eq (by omega) 46 (by omega), Option.bind_some, clT_split, e3]
    dsimp only
    rw [if_pos rfl, if_pos (by simp), if_pos (by simp), if_pos (by simp), if_pos (by simp), if_pos (by rw [List.length_take]; omega), wrap_succ hm (by rw [List.length_map]; omega)]
    have e : l.take i ++ [(⟨rd [l[i].f0, l[i].f1, l[i].f2] 0, rd [l[i].f0, l[i].f1, l[i].f2] 1, rd [l[i].f0, l[i].f1, l[i].f2] 2⟩ : S117)] = l.take (i + 1) := by
      rw [List.take_succ_eq_append_getElem hlt]
      rfl
    rw [e]
    exact ih k (i + 1) (by omega) (by omega)
theorem impl_hit {n : Int} {l : List S117} (hg : goodP n l = true) {k : Nat} (hk : 800 < k) : impl_ParsePuzzle.f k (bs (puzT n l)) = some (n, l, true) := by
  obtain ⟨h1, h2, h3⟩ := good_all hg
  have hx := puzT_len hg
  have a1 := numT_4 (n := n) (by omega) (by omega)
  have a2 := cluesT_len l h3
  have e1 : Lib.cut (puzT n l) [58] = (numT n, cluesT l, true) := by rw [puzT_cons]; exact cut_hit 58 _ (numT_free n (by decide))
  unfold impl_ParsePuzzle.f
  rw [cut_eq (by omega) 58, Option.bind_some, e1]
  dsimp only
  rw [readNumber_eq (by omega), Option.bind_some, rn_num (by omega) (by omega), split_eq (by omega) 44, Option.bind_some, List.length_map]
  by_cases hl : l = []
  · subst hl
    obtain ⟨k, rfl⟩ := k_succ hk
    have e2 : splitL 44 (cluesT []) = [[]] := rfl
    rw [e2]
    simp only [impl_ParsePuzzle.l0]
    rw [if_pos (by simp), if_pos (by simp), if_pos (by simp), if_pos (by rw [toList_bs]; rfl), impl_j1 (puzT n []) true n (by omega), if_pos ⟨rfl, hg, rfl⟩]
  · have hne : cluesT l ≠ [] := by
      intro e
      have := cluesT_pos hl
      rw [e] at this
      simp at this
    have := impl_l0_hit (puzT n l) (cluesT l) hne n h2 h3 l.length k 0 (by omega) (by omega)
    rw [List.take_zero] at this
    rw [cluesT_split hl, show (0 : Int) = ((0 : Nat) : Int) from rfl, this, if_pos ⟨hg, rfl⟩]
theorem both {x : List UInt8} (hn : x.length ≤ 1048576) : ∃ n l ok, l.length ≤ 1048576 ∧ (∀ k, 2 * x.length + 800 < k → spec_ParsePuzzle.f k (bs x) = some (n, l, ok)) ∧ (∀ k, 2 * x.length + 800 < k → impl_ParsePuzzle.f k (bs x) = some (n, l, ok)) := by
  by_cases h : ∃ n l, goodP n l = true ∧ x = puzT n l
  · obtain ⟨n, l, hg, rfl⟩ := h
    refine ⟨n, l, true, ?_, fun k hk => spec_hit hg (by omega), fun k hk => impl_hit hg (by omega)⟩
    have := good_all hg
    omega
  · refine ⟨0, [], false, by simp, fun k hk => ?_, fun k hk => ?_⟩
    · rcases spec_or hn (k := k) (by omega) with e | e
      · exact e
      · exact absurd e h
    · rcases impl_or hn (k := k) (by omega) with e | e
      · exact e
      · exact absurd e h
theorem pure : ∀ (a0 : ByteArray), a0.size ≤ 9223372036854775807 → ∃ k, laws_FnExactParsePuzzle.f k a0 = some true := by
  intro a0 _
  obtain ⟨x, rfl⟩ : ∃ x, a0 = bs x := ⟨a0.data.toList, (bs_data a0).symm⟩
  have hs := bs_size x
  by_cases h1 : x.length ≤ 1048576
  · obtain ⟨n, l, ok, hl, e1, e2⟩ := both h1
    obtain ⟨K, hK⟩ : ∃ K, K = 2 * x.length + l.length + 2000 := ⟨_, rfl⟩
    refine ⟨K + 2, ?_⟩
    unfold laws_FnExactParsePuzzle.f
    rw [if_neg (by omega), e1 _ (by omega), Option.bind_some, e2 _ (by omega), Option.bind_some]
    dsimp only
    rw [eqPuzzle_eq (by omega) (by omega), Option.bind_some, if_pos rfl]
    simp only [laws_FnExactParsePuzzle.j0]
    rw [if_neg (by simp), markPuzzle_eq (by omega) (by omega) (by omega) (by omega), Option.bind_some]
    dsimp only
    rw [heldPuzzle_eq (by omega) (by omega) (by omega) (by omega), Option.bind_some, if_neg (by omega), if_pos rfl, e2 _ (by omega), Option.bind_some]
    dsimp only
    rw [eqPuzzle_eq (by omega) (by omega), Option.bind_some, if_pos rfl]
    simp only [laws_FnExactParsePuzzle.j1]
    rw [if_neg (by simp), heldPuzzle_eq (by omega) (by omega) (by omega) (by omega), Option.bind_some, if_neg (by omega), if_pos rfl]
  · refine ⟨1, ?_⟩
    unfold laws_FnExactParsePuzzle.f
    rw [if_pos (by omega)]

end Go.Proofs.YtpiidnmobofaeaaDoor.fnExactParsePuzzle
