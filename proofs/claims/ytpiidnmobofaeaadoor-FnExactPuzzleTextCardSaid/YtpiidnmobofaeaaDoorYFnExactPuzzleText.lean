/- FnExactPuzzleText, the plain statement: what the printed functions compute makes the law's function return true. Conditions: the numbers are of their kind. -/
import Derived.Test.YtpiidnmobofaeaaDoorOpn
import Derived.Test.YtpiidnmobofaeaaDoorQFnExactPuzzleTextx6
namespace Go.Proofs.YtpiidnmobofaeaaDoor.fnExactPuzzleText
open Go.RowKit Go.Proofs.YtpiidnmobofaeaaDoorW.PrintWords Go.Proofs.YtpiidnmobofaeaaDoorW.PrintLast Go.Proofs.YtpiidnmobofaeaaDoorW.PrintMore Go.Proofs.YtpiidnmobofaeaaDoor.QFnExactPuzzleText
set_option linter.unusedVariables false
set_option linter.unusedSimpArgs false

/-- x lies between a and b. -/
def inB (x a b : Int) : Bool := decide (a ≤ x) && decide (x ≤ b)
theorem inB_true {x a b : Int} : inB x a b = true ↔ a ≤ x ∧ x ≤ b := by simp [inB]
theorem wrap_id {n : Int} (h0 : -9223372036854775808 ≤ n) (h1 : n ≤ 9223372036854775807) : wrap64 n = n := by
  unfold wrap64
  omega
theorem wrap_succ {i n : Nat} (h : i < n) (hn : n ≤ 9223372036854775807) : wrap64 ((i : Int) + 1) = ((i + 1 : Nat) : Int) := by
  unfold wrap64
  omega
theorem getD_take {α : Type} (l : List α) (i : Nat) (h : i < l.length) (z : α) : l.take (i + 1) = l.take i ++ [l.getD i z] := by
  rw [List.take_succ_eq_append_getElem h, List.getD_eq_getElem?_getD, List.getElem?_eq_getElem h]
  rfl
theorem getD_drop {α : Type} (l : List α) (i : Nat) (h : i < l.length) (z : α) : l.drop i = l.getD i z :: l.drop (i + 1) := by
  rw [List.drop_eq_getElem_cons h, List.getD_eq_getElem?_getD, List.getElem?_eq_getElem h]
  rfl
theorem set_take {α : Type} (l : List α) (i : Nat) (h : i < l.length) (v : α) : (l.set i v).take (i + 1) = l.take i ++ [v] := by
  rw [List.take_succ_eq_append_getElem (by rw [List.length_set]; exact h), List.take_set_of_le (Nat.le_refl i), List.getElem_set_self]
theorem k_succ {k d : Nat} (h : d < k) : ∃ m, k = m + 1 := ⟨k - 1, by omega⟩
theorem getD_map_at {α β : Type} (f : α → β) (l : List α) (i : Nat) (h : i < l.length) (z : α) (y : β) : (l.map f).getD i y = f (l.getD i z) := by
  rw [List.getD_eq_getElem?_getD, List.getD_eq_getElem?_getD, List.getElem?_map, List.getElem?_eq_getElem h]
  rfl
/-- A text by its bytes. -/
def bs (l : List UInt8) : ByteArray := ⟨l.toArray⟩
theorem bs_app (l m : List UInt8) : bs l ++ bs m = bs (l ++ m) := by
  apply ByteArray.ext
  simp [bs, ByteArray.data_append]
theorem bs_size (l : List UInt8) : (bs l).size = l.length := by simp [bs, ByteArray.size]
theorem bs_nums (xs : List Int) : strOfNums xs = bs (xs.map fun n => UInt8.ofNat n.toNat) := rfl
theorem l1In_eq (x a b : Int) : spec_l1In.f x a b = some (inB x a b) := by
  unfold spec_l1In.f inB
  by_cases h : a ≤ x <;> simp [h]
theorem in_eq (x a b : Int) : impl_in.f x a b = some (inB x a b) := by
  unfold impl_in.f inB
  by_cases h : a ≤ x <;> simp [h]
/-- A clue of so many people (of whom there is a number). -/
def clueT (n kd a b : Int) : Bool :=
  if kd = 0 then inB a 0 (n - 1) && inB b 1 6 else if kd = 4 then inB a 0 (n - 1) && inB b 0 5 else if kd = 1 then inB a 1 24 && decide (b = 0)
    else if kd = 2 ∨ kd = 3 then inB a 1 100 && decide (b = 0) else if kd = 5 then inB a 0 n && decide (b = 0) else false
theorem wrap_pred {n : Int} (h : inB n 1 4 = true) : wrap64 (n - 1) = n - 1 := by
  rw [inB_true] at h
  exact wrap_id (by omega) (by omega)
theorem pzClue_eq {n : Int} (h : inB n 1 4 = true) {k : Nat} (hk : 0 < k) (kd a b : Int) : spec_pzClue.f k n kd a b = some (clueT n kd a b) := by
  obtain ⟨k, rfl⟩ := k_succ hk
  unfold spec_pzClue.f clueT
  simp only [l1In_eq, Option.bind_some, spec_pzClue.j0]
  rw [wrap_pred h]
  by_cases h0 : kd = 0
  · subst h0; cases inB a 0 (n - 1) <;> simp
  by_cases h4 : kd = 4
  · subst h4; cases inB a 0 (n - 1) <;> simp
  by_cases hb : b = 0
  · subst hb
    by_cases h1 : kd = 1
    · subst h1; simp
    by_cases h2 : kd = 2
    · subst h2; simp
    by_cases h3 : kd = 3
    · subst h3; simp
    by_cases h5 : kd = 5
    · subst h5; simp
    simp [h0, h1, h2, h3, h4, h5]
  · simp [h0, h4, hb]
theorem IsClue_eq {k : Nat} (hk : 0 < k) (n kd a b : Int) : impl_IsClue.f k n kd a b = some (inB n 1 4 && clueT n kd a b) := by
  obtain ⟨k, rfl⟩ := k_succ hk
  unfold impl_IsClue.f impl_isPeople.f clueT
  simp only [in_eq, Option.bind_some, impl_IsClue.j0]
  cases h : inB n 1 4
  · simp
  · rw [wrap_pred h]
    by_cases h0 : kd = 0
    · subst h0; cases inB a 0 (n - 1) <;> simp
    by_cases h4 : kd = 4
    · subst h4; cases inB a 0 (n - 1) <;> simp
    by_cases h1 : kd = 1
    · subst h1; cases inB a 1 24 <;> simp <;> rfl
    by_cases h2 : kd = 2
    · subst h2; cases inB a 1 100 <;> simp <;> rfl
    by_cases h3 : kd = 3
    · subst h3; cases inB a 1 100 <;> simp <;> rfl
    by_cases h5 : kd = 5
    · subst h5; cases inB a 0 n <;> simp <;> rfl
    simp [h0, h1, h2, h3, h4, h5]
/-- The law's clue as the program's. -/
def clueOf (c : S128) : S117 := ⟨c.f0, c.f1, c.f2⟩
theorem toClueS_l0 {l : List S128} (hn : l.length ≤ 9223372036854775807) : ∀ (d k i : Nat) (x : List S117), i + d = l.length → x.length = l.length → x.take i = (l.map clueOf).take i → d < k → laws_toClueS.l0 k l x (i : Int) = some (l.map clueOf) := by
  intro d
  induction d with
  | zero =>
    intro k i x hi hx ht hk
    obtain ⟨k, rfl⟩ := k_succ hk
    simp only [laws_toClueS.l0]
    rw [if_neg (by omega)]
    rw [show i = l.length by omega, ← hx, List.take_length, hx, ← List.length_map (f := clueOf), List.take_length] at ht
    rw [ht]
  | succ d ih =>
    intro k i x hi hx ht hk
    obtain ⟨k, rfl⟩ := k_succ hk
    have hlt : i < l.length := by omega
    simp only [laws_toClueS.l0, laws_toClue.f, Option.bind_some]
    rw [if_pos (by omega), if_pos (by omega), if_pos (by omega), wrap_succ hlt hn]
    refine ih k (i + 1) _ (by omega) (by rw [List.length_set]; exact hx) ?_ (by omega)
    rw [Int.toNat_natCast, set_take _ _ (by omega), ht, getD_take (l.map clueOf) i (by rw [List.length_map]; exact hlt) (clueOf z128), getD_map_at clueOf l i hlt z128]
    rfl
theorem toClueS_eq {l : List S128} (hn : l.length ≤ 1048576) {k : Nat} (hk : l.length < k) : laws_toClueS.f k l = some (l.map clueOf) := by
  unfold laws_toClueS.f
  rw [if_pos (by omega), if_pos (by omega)]
  exact toClueS_l0 (by omega) l.length k 0 _ (by omega) (by simp) (by simp) hk
theorem toPuzzle_eq {n : Int} {l : List S128} (hn : l.length ≤ 1048576) {k : Nat} (hk : l.length < k) : laws_toPuzzle.f k n l = some (n, l.map clueOf) := by
  unfold laws_toPuzzle.f
  rw [toClueS_eq hn hk]
  rfl
theorem szPuzzle_eq {n : Int} {l : List S128} (hn : l.length ≤ 9223372036854775807) (h : l.length ≤ 1048576) : laws_szPuzzle.f n l 1048576 = some (1048576 - (l.length : Int)) := by
  unfold laws_szPuzzle.f laws_szClueS.f
  rw [wrap_id (by omega) (by omega), if_neg (by omega), Option.bind_some, if_neg (by omega)]
theorem szPuzzle_big {n : Int} {l : List S128} (hn : l.length ≤ 9223372036854775807) (h : ¬ l.length ≤ 1048576) : laws_szPuzzle.f n l 1048576 = some (-1) := by
  unfold laws_szPuzzle.f laws_szClueS.f
  rw [wrap_id (by omega) (by omega), if_pos (by omega), Option.bind_some, if_pos (by omega)]
theorem eqClueS_l0 {l : List S117} (hn : l.length ≤ 9223372036854775807) : ∀ (d k i : Nat), i + d = l.length → d < k → laws_eqClueS.l0 k l l (i : Int) = some true := by
  intro d
  induction d with
  | zero =>
    intro k i hi hk
    obtain ⟨k, rfl⟩ := k_succ hk
    simp only [laws_eqClueS.l0]
    rw [if_neg (by omega)]
  | succ d ih =>
    intro k i hi hk
    obtain ⟨k, rfl⟩ := k_succ hk
    have hlt : i < l.length := by omega
    simp only [laws_eqClueS.l0, laws_eqClue.f, if_true, Option.bind_some]
    rw [if_pos (by omega), if_pos (by omega), if_pos (by omega), wrap_succ hlt hn]
    exact ih k (i + 1) (by omega) (by omega)
theorem eqPuzzle_eq {n : Int} {l : List S117} (hn : l.length ≤ 9223372036854775807) {k : Nat} (hk : l.length < k) : laws_eqPuzzle.f k n l n l = some true := by
  unfold laws_eqPuzzle.f laws_eqClueS.f
  rw [if_pos rfl, if_pos rfl, show (0 : Int) = ((0 : Nat) : Int) by rfl, eqClueS_l0 hn l.length k 0 (by omega) hk]
  rfl
/-- A puzzle. -/
def goodP (n : Int) (l : List S117) : Bool := inB n 1 4 && (decide (l.length ≤ 6) && l.all fun c => clueT n c.f0 c.f1 c.f2)
theorem pzGood_l0 {n : Int} (h4 : inB n 1 4 = true) {l : List S117} (hn : l.length ≤ 9223372036854775807) : ∀ (d k i : Nat), i + d = l.length → d + 1 < k → spec_pzGood.l0 k l (l.length : Int) (i : Int) n l = some ((l.drop i).all fun c => clueT n c.f0 c.f1 c.f2) := by
  intro d
  induction d with
  | zero =>
    intro k i hi hk
    obtain ⟨k, rfl⟩ := k_succ hk
    simp only [spec_pzGood.l0]
    rw [if_neg (by omega), show i = l.length by omega, List.drop_length]
    rfl
  | succ d ih =>
    intro k i hi hk
    obtain ⟨k, rfl⟩ := k_succ hk
    have hlt : i < l.length := by omega
    simp only [spec_pzGood.l0]
    rw [if_pos (by omega), if_pos (by omega), if_pos (by omega), pzClue_eq h4 (by omega), Option.bind_some, wrap_succ hlt hn, ih k (i + 1) (by omega) (by omega), getD_drop l i hlt z117, List.all_cons]
    show (if clueT n (l.getD i z117).f0 (l.getD i z117).f1 (l.getD i z117).f2 = true then _ else _) = _
    cases clueT n (l.getD i z117).f0 (l.getD i z117).f1 (l.getD i z117).f2 <;> simp
theorem pzGood_eq (n : Int) {l : List S117} (hn : l.length ≤ 9223372036854775807) {k : Nat} (hk : l.length + 2 < k) : spec_pzGood.f k n l = some (goodP n l) := by
  unfold spec_pzGood.f spec_pzPeople.f goodP
  rw [l1In_eq]
  simp only [Option.bind_some]
  obtain ⟨k, rfl⟩ := k_succ hk
  cases h4 : inB n 1 4
  · simp [spec_pzGood.j0]
  · by_cases h6 : l.length ≤ 6
    · have e : decide ((l.length : Int) > 6) = false := decide_eq_false (by omega)
      simp only [if_true, spec_pzGood.j0, e, Bool.false_eq_true, if_false]
      rw [show (0 : Int) = ((0 : Nat) : Int) by rfl, pzGood_l0 h4 hn l.length k 0 (by omega) (by omega)]
      simp [h6]
    · have e : decide ((l.length : Int) > 6) = true := decide_eq_true (by omega)
      simp [spec_pzGood.j0, e, h6]
theorem IsPuzzle_eq (n : Int) {l : List S117} {k : Nat} (hk : 0 < k) : impl_IsPuzzle.f k n l = some (goodP n l) := by
  unfold impl_IsPuzzle.f impl_isPeople.f goodP
  rw [in_eq]
  simp only [Option.bind_some, IsClue_eq hk]
  rw [anyO_some (fun c : S117 => !(inB n 1 4 && clueT n c.f0 c.f1 c.f2))]
  cases h4 : inB n 1 4
  · simp
  · by_cases h6 : l.length ≤ 6
    · rw [if_pos rfl, if_pos (by omega)]
      simp [h6, List.not_any_eq_all_not]
    · rw [if_pos rfl, if_neg (by omega)]
      simp [h6]
/-- A number's text. -/
def numT (n : Int) : List UInt8 := Lib.decDigits n.toNat
theorem itoa_eq {n : Int} (h0 : 0 ≤ n) (h1 : n ≤ 9223372036854775807) : strconv_Itoa.f n = some (bs (numT n)) := by
  unfold strconv_Itoa.f Lib.itoa
  rw [if_pos (by omega), if_pos h1, if_neg (by omega)]
  rfl
theorem numT_small {n : Int} (h0 : 0 ≤ n) (h : n < 10) : numT n = [UInt8.ofNat (48 + n.toNat)] := by
  unfold numT
  rw [Lib.decDigits_one (by omega)]
theorem numT_step {n : Int} (h0 : 0 ≤ n) (h : ¬ n < 10) : numT n = numT (n / 10) ++ [UInt8.ofNat (48 + n % 10).toNat] := by
  unfold numT
  rw [Lib.decDigits, dif_neg (by omega)]
  have e1 : n.toNat / 10 = (n / 10).toNat := by omega
  have e2 : 48 + n.toNat % 10 = (48 + n % 10).toNat := by omega
  rw [e1, e2]
theorem digit_eq {n : Int} (h0 : 0 ≤ n) (h : n < 10) : strOfNums [(wrap64 (48 + n)) % 256] = bs [UInt8.ofNat (48 + n).toNat] := by
  rw [wrap_id (by omega) (by omega), bs_nums]
  have e : (48 + n) % 256 = 48 + n := by omega
  rw [e]
  rfl
theorem l1Num_eq : ∀ (d k : Nat) (n : Int), 0 ≤ n → n < 10 ^ (d + 1) → n ≤ 1000000000000 → d ≤ 100 → d < k → spec_l1Num.f k n = some (bs (numT n)) ∧ (numT n).length ≤ d + 1 := by
  intro d
  induction d with
  | zero =>
    intro k n h0 h1 _ _ hk
    obtain ⟨k, rfl⟩ := k_succ hk
    have h10 : n < 10 := by simpa using h1
    simp only [spec_l1Num.f]
    rw [if_pos h10, digit_eq h0 h10, numT_small h0 h10]
    have e : (48 + n).toNat = 48 + n.toNat := by omega
    rw [e]
    exact ⟨rfl, by simp⟩
  | succ d ih =>
    intro k n h0 h1 h9 hd hk
    obtain ⟨k, rfl⟩ := k_succ hk
    simp only [spec_l1Num.f]
    by_cases h10 : n < 10
    · rw [if_pos h10, digit_eq h0 h10, numT_small h0 h10]
      have e : (48 + n).toNat = 48 + n.toNat := by omega
      rw [e]
      exact ⟨rfl, by simp⟩
    · have e1 : Int.tdiv n 10 = n / 10 := Int.tdiv_eq_ediv_of_nonneg h0
      have e2 : Int.tmod n 10 = n % 10 := Int.tmod_eq_emod_of_nonneg h0
      have hp : (10 : Int) ^ (d + 1 + 1) = 10 * 10 ^ (d + 1) := by rw [Int.pow_succ, Int.mul_comm]
      rw [hp] at h1
      obtain ⟨q1, q2⟩ := ih k (n / 10) (by omega) (by omega) (by omega) (by omega) (by omega)
      rw [if_neg h10, e1, e2, wrap_id (by omega) (by omega), q1]
      simp only [Option.bind_some]
      rw [digit_eq (by omega) (by omega)]
      have s1 := bs_size (numT (n / 10))
      have s2 := bs_size [UInt8.ofNat (48 + n % 10).toNat]
      simp only [List.length_cons, List.length_nil] at s2
      rw [if_pos (by omega), bs_app, numT_step h0 h10]
      exact ⟨rfl, by rw [List.length_append]; simp; omega⟩
/-- Numbers of at most four digits. -/
theorem l1Num_4 {n : Int} (h0 : 0 ≤ n) (h1 : n < 10000) {k : Nat} (hk : 3 < k) : spec_l1Num.f k n = some (bs (numT n)) := (l1Num_eq 3 k n h0 (by simpa using h1) (by omega) (by decide) hk).1
theorem numT_4 {n : Int} (h0 : 0 ≤ n) (h1 : n < 10000) : (numT n).length ≤ 4 := (l1Num_eq 3 4 n h0 (by simpa using h1) (by omega) (by decide) (by decide)).2
/-- Numbers with commas between. -/
def numsT : List Int → List UInt8
  | [] => []
  | x :: r => numT x ++ Lib.joinTail [44] (r.map numT)
theorem joinTail_cons (sep : List UInt8) (x : List UInt8) (r : List (List UInt8)) : Lib.joinTail sep (x :: r) = sep ++ x ++ Lib.joinTail sep r := by simp [Lib.joinTail]
theorem joinTail_len (r : List Int) (h : ∀ x ∈ r, 0 ≤ x ∧ x < 10000) : (Lib.joinTail [44] (r.map numT)).length ≤ 5 * r.length := by
  induction r with
  | nil => simp [Lib.joinTail]
  | cons x r ih =>
    have := ih (fun y hy => h y (List.mem_cons_of_mem _ hy))
    have h4 := numT_4 (h x List.mem_cons_self).1 (h x List.mem_cons_self).2
    rw [List.map_cons, joinTail_cons]
    simp only [List.length_append, List.length_cons, List.length_nil]
    omega
theorem numsT_len (r : List Int) (h : ∀ x ∈ r, 0 ≤ x ∧ x < 10000) : (numsT r).length ≤ 5 * r.length := by
  cases r with
  | nil => simp [numsT]
  | cons x r =>
    have := joinTail_len r (fun y hy => h y (List.mem_cons_of_mem _ hy))
    have h4 := numT_4 (h x List.mem_cons_self).1 (h x List.mem_cons_self).2
    simp only [numsT, List.length_append, List.length_cons]
    omega
/-- The text of a clue. -/
def clT (c : S117) : List UInt8 := numT c.f0 ++ [46] ++ numT c.f1 ++ [46] ++ numT c.f2
/-- A clue of small numbers. -/
def okC (c : S117) : Prop := (0 ≤ c.f0 ∧ c.f0 < 10000) ∧ (0 ≤ c.f1 ∧ c.f1 < 10000) ∧ (0 ≤ c.f2 ∧ c.f2 < 10000)
theorem clT_len {c : S117} (h : okC c) : (clT c).length ≤ 14 := by
  obtain ⟨h0, h1, h2⟩ := h
  have a0 := numT_4 h0.1 h0.2
  have a1 := numT_4 h1.1 h1.2
  have a2 := numT_4 h2.1 h2.2
  simp only [clT, List.length_append, List.length_cons, List.length_nil]
  omega
theorem okC_of {n : Int} (hn : inB n 1 4 = true) {c : S117} (h : clueT n c.f0 c.f1 c.f2 = true) : okC c := by
  rw [inB_true] at hn
  unfold clueT at h
  unfold okC
  split at h
  · simp only [Bool.and_eq_true, inB_true] at h; omega
  split at h
  · simp only [Bool.and_eq_true, inB_true] at h; omega
  split at h
  · simp only [Bool.and_eq_true, inB_true, decide_eq_true_eq] at h; omega
  split at h
  · simp only [Bool.and_eq_true, inB_true, decide_eq_true_eq] at h; omega
  split at h
  · simp only [Bool.and_eq_true, inB_true, decide_eq_true_eq] at h; omega
  · simp at h
theorem rd_clue (l : List S117) (i : Nat) : rd_T117 l (i : Int) = l.getD i z117 := by
  unfold rd_T117
  rw [Int.toNat_natCast]
theorem mem_getD {α : Type} {l : List α} {i : Nat} (h : i < l.length) (z : α) : l.getD i z ∈ l := by
  rw [List.getD_eq_getElem?_getD, List.getElem?_eq_getElem h]
  exact List.getElem_mem h
/-- Clues with commas between. -/
def cluesT (l : List S117) : List UInt8 := Lib.join (l.map clT) [44]
theorem clTail_len (r : List S117) (h : ∀ c ∈ r, okC c) : (Lib.joinTail [44] (r.map clT)).length ≤ 15 * r.length := by
  induction r with
  | nil => simp [Lib.joinTail]
  | cons x r ih =>
    have := ih (fun y hy => h y (List.mem_cons_of_mem _ hy))
    have h4 := clT_len (h x List.mem_cons_self)
    rw [List.map_cons, joinTail_cons]
    simp only [List.length_append, List.length_cons, List.length_nil]
    omega
theorem cluesT_len (r : List S117) (h : ∀ c ∈ r, okC c) : (cluesT r).length ≤ 15 * r.length := by
  cases r with
  | nil => simp [cluesT, Lib.join_nil]
  | cons x r =>
    have := clTail_len r (fun y hy => h y (List.mem_cons_of_mem _ hy))
    have h4 := clT_len (h x List.mem_cons_self)
    rw [cluesT, List.map_cons, Lib.join_cons]
    simp only [List.length_append, List.length_cons]
    omega
/-- The text of a puzzle. -/
def puzT (n : Int) (l : List S117) : List UInt8 := numT n ++ [58] ++ cluesT l
theorem pzText_tail {l : List S117} (hn : l.length ≤ 1000) (h : ∀ c ∈ l, okC c) : ∀ (d k i : Nat) (x : List UInt8), i + d = l.length → 0 < i → x.length ≤ 15 * i + 100 → d + 4 < k →
    spec_pzText.l0 k (bs x) l (l.length : Int) (i : Int) = some (bs (x ++ Lib.joinTail [44] ((l.drop i).map clT))) := by
  intro d
  induction d with
  | zero =>
    intro k i x hi hp hx hk
    obtain ⟨k, rfl⟩ := k_succ hk
    simp only [spec_pzText.l0]
    rw [if_neg (by omega), List.drop_of_length_le (by omega)]
    simp [Lib.joinTail]
  | succ d ih =>
    intro k i x hi hp hx hk
    obtain ⟨k, rfl⟩ := k_succ hk
    have hlt : i < l.length := by omega
    have hc := h _ (mem_getD hlt z117)
    have h4 := clT_len hc
    have hstep := ih k (i + 1) (x ++ [44] ++ clT (l.getD i z117)) (by omega) (by omega) (by simp only [List.length_append, List.length_cons, List.length_nil]; omega) (by omega)
    rw [getD_drop l i hlt z117, List.map_cons, joinTail_cons]
    simp only [spec_pzText.l0, rd_clue]
    rw [wrap_succ hlt (by omega)]
    obtain ⟨h0, h1, h2⟩ := hc
    generalize l.getD i z117 = c at *
    rw [l1Num_4 h0.1 h0.2 (by omega), l1Num_4 h1.1 h1.2 (by omega), l1Num_4 h2.1 h2.2 (by omega)]
    simp only [Option.bind_some]
    rw [show (⟨#[44]⟩ : ByteArray) = bs [44] from rfl, show (⟨#[46]⟩ : ByteArray) = bs [46] from rfl]
    simp only [bs_app]
    simp only [clT, List.length_append, List.length_cons, List.length_nil] at h4
    simp only [bs_size, List.length_append, List.length_cons, List.length_nil]
    rw [if_pos (by omega), if_pos (by omega), if_pos (by omega), if_pos (by omega), if_pos (by omega), if_pos (by omega), if_pos (by omega), if_pos (by omega), if_pos (by omega), if_pos (by omega)]
    refine Eq.trans ?_ (hstep.trans ?_)
    · simp [clT]
    · simp
theorem pzText_eq {l : List S117} (hn : l.length ≤ 1000) (h : ∀ c ∈ l, okC c) {s : Int} (h0 : 0 ≤ s) (h1 : s < 10000) {k : Nat} (hk : l.length + 5 < k) : spec_pzText.f k s l = some (bs (puzT s l)) := by
  unfold spec_pzText.f puzT
  have s1 := bs_size (numT s)
  have h4 := numT_4 h0 h1
  rw [l1Num_4 h0 h1 (by omega), Option.bind_some, if_pos (by omega), show (⟨#[58]⟩ : ByteArray) = bs [58] from rfl, bs_app]
  cases l with
  | nil =>
    obtain ⟨k, rfl⟩ := k_succ hk
    simp only [spec_pzText.l0]
    rw [if_neg (by simp)]
    simp [cluesT, Lib.join_nil]
  | cons c r =>
    obtain ⟨k, rfl⟩ := k_succ hk
    have hc := h c List.mem_cons_self
    have h4x := clT_len hc
    have hl : (c :: r).length = r.length + 1 := rfl
    have hstep := pzText_tail hn h r.length k (0 + 1) (numT s ++ [58] ++ clT c) (by omega) (by omega) (by simp only [List.length_append, List.length_cons, List.length_nil]; omega) (by omega)
    simp only [spec_pzText.l0]
    rw [show (0 : Int) = ((0 : Nat) : Int) from rfl, rd_clue]
    rw [show (c :: r).getD 0 z117 = c from rfl, wrap_succ (n := (c :: r).length) (by omega) (by omega)]
    obtain ⟨g0, g1, g2⟩ := hc
    rw [l1Num_4 g0.1 g0.2 (by omega), l1Num_4 g1.1 g1.2 (by omega), l1Num_4 g2.1 g2.2 (by omega)]
    simp only [Option.bind_some]
    rw [show (⟨#[46]⟩ : ByteArray) = bs [46] from rfl]
    simp only [bs_app]
    simp only [clT, List.length_append, List.length_cons, List.length_nil] at h4x
    simp only [bs_size, List.length_append, List.length_cons, List.length_nil] at hstep ⊢
    rw [if_pos (by omega), if_pos (by omega), if_pos (by omega), if_neg (by omega), if_pos (by omega), if_pos (by omega), if_pos (by omega), if_pos (by omega), if_pos (by omega)]
    refine Eq.trans ?_ (hstep.trans ?_)
    · simp [clT]
    · rw [cluesT, List.map_cons, Lib.join_cons]
      simp
theorem text_l0 {l : List S117} (hn : l.length ≤ 1000) (h : ∀ c ∈ l, okC c) {s : Int} (h0 : 0 ≤ s) (h1 : s < 10000) : ∀ (d k i : Nat), i + d = l.length → d < k →
    impl_Puzzle_text.l0 k ((l.take i).map fun c => bs (clT c)) l (l.length : Int) (i : Int) s l = some (bs (puzT s l)) := by
  intro d
  induction d with
  | zero =>
    intro k i hi hk
    obtain ⟨k, rfl⟩ := k_succ hk
    simp only [impl_Puzzle_text.l0]
    rw [if_neg (by omega), List.take_of_length_le (by omega), itoa_eq h0 (by omega)]
    unfold strings_Join.f
    have e : ((l.map fun c => bs (clT c)).map (·.data.toList)) = l.map clT := by
      rw [List.map_map]
      apply List.map_congr_left
      intro x _
      simp [bs]
    have e2 : (⟨#[44]⟩ : ByteArray).data.toList = [44] := rfl
    have hl := cluesT_len l h
    have h4 := numT_4 h0 h1
    rw [e, e2, show Lib.join (l.map clT) [44] = cluesT l from rfl, if_pos (c := (l.map fun c => bs (clT c)).length ≤ 140737488355328) (by rw [List.length_map]; omega), if_pos (c := (cluesT l).length ≤ 140737488355328) (by omega)]
    simp only [Option.bind_some]
    rw [show (⟨#[58]⟩ : ByteArray) = bs [58] from rfl, show (⟨(cluesT l).toArray⟩ : ByteArray) = bs (cluesT l) from rfl]
    simp only [bs_app, bs_size, List.length_append, List.length_cons, List.length_nil]
    rw [if_pos (by omega), if_pos (by omega)]
    rfl
  | succ d ih =>
    intro k i hi hk
    obtain ⟨k, rfl⟩ := k_succ hk
    have hlt : i < l.length := by omega
    have hc := h _ (mem_getD hlt z117)
    have h4 := clT_len hc
    have hstep := ih k (i + 1) (by omega) (by omega)
    rw [getD_take l i hlt z117, List.map_append] at hstep
    simp only [impl_Puzzle_text.l0, rd_clue]
    rw [wrap_succ hlt (by omega)]
    have hl2 : ((l.take i).map fun c => bs (clT c)).length = i := by rw [List.length_map, List.length_take]; omega
    rw [hl2]
    obtain ⟨g0, g1, g2⟩ := hc
    generalize l.getD i z117 = c at *
    rw [itoa_eq g0.1 (by omega), itoa_eq g1.1 (by omega), itoa_eq g2.1 (by omega)]
    simp only [Option.bind_some]
    rw [show (⟨#[46]⟩ : ByteArray) = bs [46] from rfl]
    simp only [bs_app]
    simp only [clT, List.length_append, List.length_cons, List.length_nil] at h4
    simp only [bs_size, List.length_append, List.length_cons, List.length_nil]
    rw [if_pos (by omega), if_pos (by omega), if_pos (by omega), if_pos (by omega), if_pos (by omega), if_pos (by omega), if_pos (by omega), if_pos (by omega)]
    exact hstep
theorem text_eq {l : List S117} (hn : l.length ≤ 1000) (h : ∀ c ∈ l, okC c) {s : Int} (h0 : 0 ≤ s) (h1 : s < 10000) {k : Nat} (hk : l.length < k) : impl_Puzzle_text.f k s l = some (bs (puzT s l)) := by
  unfold impl_Puzzle_text.f
  exact text_l0 hn h h0 h1 l.length k 0 (by omega) hk
theorem both (n : Int) {l : List S117} (hl : l.length ≤ 1048576) {k : Nat} (hk : l.length + 5 < k) : ∃ x, spec_PuzzleText.f k n l = some x ∧ impl_PuzzleText.f k n l = some x := by
  unfold spec_PuzzleText.f impl_PuzzleText.f
  rw [pzGood_eq n (by omega) (by omega), IsPuzzle_eq n (by omega)]
  simp only [Option.bind_some]
  cases hg : goodP n l
  · exact ⟨_, by rw [if_neg (by simp)], by rw [if_neg (by simp)]⟩
  · unfold goodP at hg
    simp only [Bool.and_eq_true, decide_eq_true_eq] at hg
    obtain ⟨g1, g2, g3⟩ := hg
    have hx : ∀ c ∈ l, okC c := fun c hc => okC_of g1 (List.all_eq_true.1 g3 c hc)
    rw [inB_true] at g1
    rw [if_pos rfl, if_pos rfl, pzText_eq (by omega) hx (by omega) (by omega) hk, text_eq (by omega) hx (by omega) (by omega) (by omega)]
    exact ⟨_, rfl, rfl⟩
theorem pure : ∀ (a0_0 : Int) (l0_1 : List (S128)), Opn.okI a0_0 → (∀ y0 ∈ l0_1, (Opn.okI y0.f0) ∧ (Opn.okI y0.f1) ∧ (Opn.okI y0.f2)) → l0_1.length ≤ 9223372036854775807 → ∃ k, laws_FnExactPuzzleText.f k a0_0 l0_1 = some true := by
  intro n l _ _ hn
  obtain ⟨K, hK⟩ : ∃ K, K = l.length + 8 := ⟨_, rfl⟩
  refine ⟨K + 1, ?_⟩
  unfold laws_FnExactPuzzleText.f
  by_cases hg : l.length ≤ 1048576
  · have hm : (l.map clueOf).length ≤ 1048576 := by rw [List.length_map]; exact hg
    have hl : (l.map clueOf).length = l.length := List.length_map ..
    obtain ⟨x, e1, e2⟩ := both n hm (k := K + 1) (by omega)
    rw [szPuzzle_eq hn hg, Option.bind_some, if_neg (by omega), toPuzzle_eq hg (by omega)]
    simp only [Option.bind_some, e1, e2]
    rw [if_pos trivial]
    simp only [laws_FnExactPuzzleText.j0]
    rw [if_neg (by simp), toPuzzle_eq hg (by omega)]
    simp only [Option.bind_some]
    rw [eqPuzzle_eq (by omega) (by omega), Option.bind_some, if_pos rfl]
  · rw [szPuzzle_big hn hg, Option.bind_some, if_pos (by omega)]

end Go.Proofs.YtpiidnmobofaeaaDoor.fnExactPuzzleText
