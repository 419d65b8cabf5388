/- FnExactParseNight, the plain statement: what the printed functions compute makes the law's function return true. Conditions: the numbers are of their kind. -/
import Derived.Test.YtpiidnmobofaeaaDoorOpn
import Derived.Test.YtpiidnmobofaeaaDoorQFnExactParseNightx6
namespace Go.Proofs.YtpiidnmobofaeaaDoor.fnExactParseNight
open Go.RowKit Go.Proofs.YtpiidnmobofaeaaDoorW.PrintWords Go.Proofs.YtpiidnmobofaeaaDoorW.PrintLast Go.Proofs.YtpiidnmobofaeaaDoorW.PrintMore Go.Proofs.YtpiidnmobofaeaaDoor.QFnExactParseNight
set_option linter.unusedVariables false
set_option linter.unusedSimpArgs false

/-- x lies between a and b. -/
def inB (x a b : Int) : Bool := decide (a ≤ x) && decide (x ≤ b)
theorem inB_true {x a b : Int} : inB x a b = true ↔ a ≤ x ∧ x ≤ b := by simp [inB]
theorem wrap_id {n : Int} (h0 : -9223372036854775808 ≤ n) (h1 : n ≤ 9223372036854775807) : wrap64 n = n := by
  unfold wrap64
  omega
theorem wrap_succ {i n : Nat} (h : i < n) (hn : n ≤ 9223372036854775807) : wrap64 ((i : Int) + 1) = ((i + 1 : Nat) : Int) := by
  unfold wrap64
  omega
theorem getD_take {α : Type} (l : List α) (i : Nat) (h : i < l.length) (z : α) : l.take (i + 1) = l.take i ++ [l.getD i z] := by
  rw [List.take_succ_eq_append_getElem h, List.getD_eq_getElem?_getD, List.getElem?_eq_getElem h]
  rfl
theorem getD_drop {α : Type} (l : List α) (i : Nat) (h : i < l.length) (z : α) : l.drop i = l.getD i z :: l.drop (i + 1) := by
  rw [List.drop_eq_getElem_cons h, List.getD_eq_getElem?_getD, List.getElem?_eq_getElem h]
  rfl
theorem set_take {α : Type} (l : List α) (i : Nat) (h : i < l.length) (v : α) : (l.set i v).take (i + 1) = l.take i ++ [v] := by
  rw [List.take_succ_eq_append_getElem (by rw [List.length_set]; exact h), List.take_set_of_le (Nat.le_refl i), List.getElem_set_self]
theorem k_succ {k d : Nat} (h : d < k) : ∃ m, k = m + 1 := ⟨k - 1, by omega⟩
theorem getD_map_at {α β : Type} (f : α → β) (l : List α) (i : Nat) (h : i < l.length) (z : α) (y : β) : (l.map f).getD i y = f (l.getD i z) := by
  rw [List.getD_eq_getElem?_getD, List.getD_eq_getElem?_getD, List.getElem?_map, List.getElem?_eq_getElem h]
  rfl
/-- A text by its bytes. -/
def bs (l : List UInt8) : ByteArray := ⟨l.toArray⟩
theorem bs_app (l m : List UInt8) : bs l ++ bs m = bs (l ++ m) := by
  apply ByteArray.ext
  simp [bs, ByteArray.data_append]
theorem bs_size (l : List UInt8) : (bs l).size = l.length := by simp [bs, ByteArray.size]
theorem bs_nums (xs : List Int) : strOfNums xs = bs (xs.map fun n => UInt8.ofNat n.toNat) := rfl
theorem l1In_eq (x a b : Int) : spec_l1In.f x a b = some (inB x a b) := by
  unfold spec_l1In.f inB
  by_cases h : a ≤ x <;> simp [h]
theorem in_eq (x a b : Int) : impl_in.f x a b = some (inB x a b) := by
  unfold impl_in.f inB
  by_cases h : a ≤ x <;> simp [h]
theorem eqIntS_l0 {l : List Int} (hn : l.length ≤ 9223372036854775807) : ∀ (d k i : Nat), i + d = l.length → d < k → laws_eqIntS.l0 k l l (i : Int) = some true := by
  intro d
  induction d with
  | zero =>
    intro k i hi hk
    obtain ⟨k, rfl⟩ := k_succ hk
    simp only [laws_eqIntS.l0]
    rw [if_neg (by omega)]
  | succ d ih =>
    intro k i hi hk
    obtain ⟨k, rfl⟩ := k_succ hk
    have hlt : i < l.length := by omega
    simp only [laws_eqIntS.l0]
    rw [if_pos (by omega), if_pos (by omega), if_pos (by omega), if_pos trivial, wrap_succ hlt hn]
    exact ih k (i + 1) (by omega) (by omega)
theorem eqIntS_eq {l : List Int} (hn : l.length ≤ 9223372036854775807) {k : Nat} (hk : l.length < k) : laws_eqIntS.f k l l = some true := by
  unfold laws_eqIntS.f
  rw [if_pos rfl]
  exact eqIntS_l0 hn l.length k 0 (by omega) hk
theorem l1All_l0 {l : List Int} (hn : l.length ≤ 9223372036854775807) (a b : Int) : ∀ (d k i : Nat), i + d = l.length → d < k → spec_l1All.l0 k a b l (l.length : Int) (i : Int) = some ((l.drop i).all fun x => inB x a b) := by
  intro d
  induction d with
  | zero =>
    intro k i hi hk
    obtain ⟨k, rfl⟩ := k_succ hk
    simp only [spec_l1All.l0]
    rw [if_neg (by omega), show i = l.length by omega, List.drop_length]
    rfl
  | succ d ih =>
    intro k i hi hk
    obtain ⟨k, rfl⟩ := k_succ hk
    have hlt : i < l.length := by omega
    simp only [spec_l1All.l0]
    rw [if_pos (by omega), if_pos (by omega), if_pos (by omega), l1In_eq, Option.bind_some, wrap_succ hlt hn, ih k (i + 1) (by omega) (by omega), getD_drop l i hlt 0, List.all_cons]
    show (if inB (l.getD i 0) a b = true then _ else _) = _
    cases inB (l.getD i 0) a b <;> simp
theorem l1All_eq {l : List Int} (hn : l.length ≤ 9223372036854775807) (a b : Int) {k : Nat} (hk : l.length < k) : spec_l1All.f k l a b = some (l.all fun x => inB x a b) := by
  unfold spec_l1All.f
  exact l1All_l0 hn a b l.length k 0 (by omega) hk
theorem areIn_eq (l : List Int) (a b c d : Int) : impl_areIn.f l a b c d = some (inB (l.length : Int) c d && l.all fun x => inB x a b) := by
  unfold impl_areIn.f inB
  simp [List.not_any_eq_all_not]
/-- A number's text. -/
def numT (n : Int) : List UInt8 := Lib.decDigits n.toNat
theorem itoa_eq {n : Int} (h0 : 0 ≤ n) (h1 : n ≤ 9223372036854775807) : strconv_Itoa.f n = some (bs (numT n)) := by
  unfold strconv_Itoa.f Lib.itoa
  rw [if_pos (by omega), if_pos h1, if_neg (by omega)]
  rfl
theorem numT_small {n : Int} (h0 : 0 ≤ n) (h : n < 10) : numT n = [UInt8.ofNat (48 + n.toNat)] := by
  unfold numT
  rw [Lib.decDigits_one (by omega)]
theorem numT_step {n : Int} (h0 : 0 ≤ n) (h : ¬ n < 10) : numT n = numT (n / 10) ++ [UInt8.ofNat (48 + n % 10).toNat] := by
  unfold numT
  rw [Lib.decDigits, dif_neg (by omega)]
  have e1 : n.toNat / 10 = (n / 10).toNat := by omega
  have e2 : 48 + n.toNat % 10 = (48 + n % 10).toNat := by omega
  rw [e1, e2]
theorem dec_len : ∀ (d n : Nat), n < 10 ^ (d + 1) → (Lib.decDigits n).length ≤ d + 1 := by
  intro d
  induction d with
  | zero =>
    intro n h
    rw [Lib.decDigits_one (by simpa using h)]
    simp
  | succ d ih =>
    intro n h
    by_cases h10 : n < 10
    · rw [Lib.decDigits_one h10]
      simp
    · rw [Lib.decDigits, dif_neg h10, List.length_append]
      have hp : 10 ^ (d + 1 + 1) = 10 ^ (d + 1) * 10 := Nat.pow_succ ..
      have := ih (n / 10) (by omega)
      simp only [List.length_cons, List.length_nil]
      omega
theorem numT_4 {n : Int} (h0 : 0 ≤ n) (h1 : n < 10000) : (numT n).length ≤ 4 := dec_len 3 n.toNat (by omega)
theorem numT_6 {n : Int} (h0 : 0 ≤ n) (h1 : n < 1000000) : (numT n).length ≤ 6 := dec_len 5 n.toNat (by omega)
/-- Numbers with commas between. -/
def numsT : List Int → List UInt8
  | [] => []
  | x :: r => numT x ++ Lib.joinTail [44] (r.map numT)
theorem joinTail_cons (sep : List UInt8) (x : List UInt8) (r : List (List UInt8)) : Lib.joinTail sep (x :: r) = sep ++ x ++ Lib.joinTail sep r := by simp [Lib.joinTail]
theorem joinTail_len (r : List Int) (h : ∀ x ∈ r, 0 ≤ x ∧ x < 10000) : (Lib.joinTail [44] (r.map numT)).length ≤ 5 * r.length := by
  induction r with
  | nil => simp [Lib.joinTail]
  | cons x r ih =>
    have := ih (fun y hy => h y (List.mem_cons_of_mem _ hy))
    have h4 := numT_4 (h x List.mem_cons_self).1 (h x List.mem_cons_self).2
    rw [List.map_cons, joinTail_cons]
    simp only [List.length_append, List.length_cons, List.length_nil]
    omega
theorem numsT_len (r : List Int) (h : ∀ x ∈ r, 0 ≤ x ∧ x < 10000) : (numsT r).length ≤ 5 * r.length := by
  cases r with
  | nil => simp [numsT]
  | cons x r =>
    have := joinTail_len r (fun y hy => h y (List.mem_cons_of_mem _ hy))
    have h4 := numT_4 (h x List.mem_cons_self).1 (h x List.mem_cons_self).2
    simp only [numsT, List.length_append, List.length_cons]
    omega
theorem digit_eq {n : Int} (h0 : 0 ≤ n) (h : n < 10) : strOfNums [(wrap64 (48 + n)) % 256] = bs [UInt8.ofNat (48 + n).toNat] := by
  rw [wrap_id (by omega) (by omega), bs_nums]
  have e : (48 + n) % 256 = 48 + n := by omega
  rw [e]
  rfl
theorem l1Num_eq : ∀ (d k : Nat) (n : Int), 0 ≤ n → n < 10 ^ (d + 1) → n ≤ 1000000000000 → d ≤ 100 → d < k → spec_l1Num.f k n = some (bs (numT n)) ∧ (numT n).length ≤ d + 1 := by
  intro d
  induction d with
  | zero =>
    intro k n h0 h1 _ _ hk
    obtain ⟨k, rfl⟩ := k_succ hk
    have h10 : n < 10 := by simpa using h1
    simp only [spec_l1Num.f]
    rw [if_pos h10, digit_eq h0 h10, numT_small h0 h10]
    have e : (48 + n).toNat = 48 + n.toNat := by omega
    rw [e]
    exact ⟨rfl, by simp⟩
  | succ d ih =>
    intro k n h0 h1 h9 hd hk
    obtain ⟨k, rfl⟩ := k_succ hk
    simp only [spec_l1Num.f]
    by_cases h10 : n < 10
    · rw [if_pos h10, digit_eq h0 h10, numT_small h0 h10]
      have e : (48 + n).toNat = 48 + n.toNat := by omega
      rw [e]
      exact ⟨rfl, by simp⟩
    · have e1 : Int.tdiv n 10 = n / 10 := Int.tdiv_eq_ediv_of_nonneg h0
      have e2 : Int.tmod n 10 = n % 10 := Int.tmod_eq_emod_of_nonneg h0
      have hp : (10 : Int) ^ (d + 1 + 1) = 10 * 10 ^ (d + 1) := by rw [Int.pow_succ, Int.mul_comm]
      rw [hp] at h1
      obtain ⟨q1, q2⟩ := ih k (n / 10) (by omega) (by omega) (by omega) (by omega) (by omega)
      rw [if_neg h10, e1, e2, wrap_id (by omega) (by omega), q1]
      simp only [Option.bind_some]
      rw [digit_eq (by omega) (by omega)]
      have s1 := bs_size (numT (n / 10))
      have s2 := bs_size [UInt8.ofNat (48 + n % 10).toNat]
      simp only [List.length_cons, List.length_nil] at s2
      rw [if_pos (by omega), bs_app, numT_step h0 h10]
      exact ⟨rfl, by rw [List.length_append]; simp; omega⟩
/-- Numbers of at most four digits. -/
theorem l1Num_4 {n : Int} (h0 : 0 ≤ n) (h1 : n < 10000) {k : Nat} (hk : 3 < k) : spec_l1Num.f k n = some (bs (numT n)) := (l1Num_eq 3 k n h0 (by simpa using h1) (by omega) (by decide) hk).1
theorem numbers_l0 {l : List Int} (hn : l.length ≤ 1000) (h : ∀ x ∈ l, 0 ≤ x ∧ x < 10000) : ∀ (d k i : Nat), i + d = l.length → d < k →
    impl_numbers.l0 k ((l.take i).map fun x => bs (numT x)) l (l.length : Int) (i : Int) = some (bs (numsT l)) := by
  intro d
  induction d with
  | zero =>
    intro k i hi hk
    obtain ⟨k, rfl⟩ := k_succ hk
    simp only [impl_numbers.l0]
    rw [if_neg (by omega), List.take_of_length_le (by omega)]
    unfold strings_Join.f
    have e : ((l.map fun x => bs (numT x)).map (·.data.toList)) = l.map numT := by
      rw [List.map_map]
      apply List.map_congr_left
      intro x _
      simp [bs]
    have e2 : (⟨#[44]⟩ : ByteArray).data.toList = [44] := rfl
    have e3 : Lib.join (l.map numT) [44] = numsT l := by
      cases l with
      | nil => rfl
      | cons x r => rw [List.map_cons, Lib.join_cons]; rfl
    have hl := numsT_len l h
    rw [e, e2, e3, if_pos (by rw [List.length_map]; omega), if_pos (by omega)]
    rfl
  | succ d ih =>
    intro k i hi hk
    obtain ⟨k, rfl⟩ := k_succ hk
    have hlt : i < l.length := by omega
    have hx : l.getD i 0 ∈ l := by
      rw [List.getD_eq_getElem?_getD, List.getElem?_eq_getElem hlt]
      exact List.getElem_mem hlt
    have hb := h _ hx
    simp only [impl_numbers.l0]
    rw [if_pos (by omega), if_pos (by omega), if_pos (by omega)]
    show (Option.bind (strconv_Itoa.f (l.getD i 0)) _) = _
    rw [itoa_eq hb.1 (by omega), Option.bind_some, if_pos (by rw [List.length_map, List.length_take]; omega), wrap_succ hlt (by omega)]
    have e : ((l.take i).map fun x => bs (numT x)) ++ [bs (numT (l.getD i 0))] = (l.take (i + 1)).map fun x => bs (numT x) := by
      rw [getD_take l i hlt 0, List.map_append]
      rfl
    rw [e]
    exact ih k (i + 1) (by omega) (by omega)
theorem numbers_eq {l : List Int} (hn : l.length ≤ 1000) (h : ∀ x ∈ l, 0 ≤ x ∧ x < 10000) {k : Nat} (hk : l.length < k) : impl_numbers.f k l = some (bs (numsT l)) := by
  unfold impl_numbers.f
  exact numbers_l0 hn h l.length k 0 (by omega) hk
/-- The text of a party. -/
def partyT (l : List Int) (s : Int) : List UInt8 := numT s ++ [58] ++ numsT l
theorem paShown_tail {l : List Int} (hn : l.length ≤ 1000) (h : ∀ x ∈ l, 0 ≤ x ∧ x < 10000) : ∀ (d k i : Nat) (x : List UInt8), i + d = l.length → 0 < i → x.length ≤ 5 * i + 100 → d + 4 < k →
    spec_paShown.l0 k (bs x) l (l.length : Int) (i : Int) = some (bs (x ++ Lib.joinTail [44] ((l.drop i).map numT))) := by
  intro d
  induction d with
  | zero =>
    intro k i x hi hp hx hk
    obtain ⟨k, rfl⟩ := k_succ hk
    simp only [spec_paShown.l0]
    rw [if_neg (by omega), List.drop_of_length_le (by omega)]
    simp [Lib.joinTail]
  | succ d ih =>
    intro k i x hi hp hx hk
    obtain ⟨k, rfl⟩ := k_succ hk
    have hlt : i < l.length := by omega
    have hm : l.getD i 0 ∈ l := by
      rw [List.getD_eq_getElem?_getD, List.getElem?_eq_getElem hlt]
      exact List.getElem_mem hlt
    have hb := h _ hm
    have h4 := numT_4 hb.1 hb.2
    have s1 := bs_size x
    have s2 := bs_size (numT (l.getD i 0))
    simp only [spec_paShown.l0]
    rw [if_pos (by omega), if_pos (by omega), if_pos (by omega), if_pos (by omega), if_pos (by omega)]
    show (Option.bind (spec_l1Num.f k (l.getD i 0)) _) = _
    rw [l1Num_4 hb.1 hb.2 (by omega), Option.bind_some, show (⟨#[44]⟩ : ByteArray) = bs [44] from rfl, bs_app]
    have s3 := bs_size (x ++ [44])
    simp only [List.length_append, List.length_cons, List.length_nil] at s3
    rw [if_pos (by omega), bs_app, wrap_succ hlt (by omega), ih k (i + 1) _ (by omega) (by omega) (by simp only [List.length_append, List.length_cons, List.length_nil]; omega) (by omega), getD_drop l i hlt 0, List.map_cons, joinTail_cons]
    simp
theorem paShown_eq {l : List Int} (hn : l.length ≤ 1000) (h : ∀ x ∈ l, 0 ≤ x ∧ x < 10000) {s : Int} (h0 : 0 ≤ s) (h1 : s < 10000) {k : Nat} (hk : l.length + 5 < k) : spec_paShown.f k l s = some (bs (partyT l s)) := by
  unfold spec_paShown.f partyT
  have s1 := bs_size (numT s)
  have h4 := numT_4 h0 h1
  rw [l1Num_4 h0 h1 (by omega), Option.bind_some, if_pos (by omega), show (⟨#[58]⟩ : ByteArray) = bs [58] from rfl, bs_app]
  have s3 := bs_size (numT s ++ [58])
  simp only [List.length_append, List.length_cons, List.length_nil] at s3
  cases l with
  | nil =>
    obtain ⟨k, rfl⟩ := k_succ hk
    simp only [spec_paShown.l0]
    rw [if_neg (by simp)]
    simp [numsT]
  | cons x r =>
    obtain ⟨k, rfl⟩ := k_succ hk
    have hb := h x List.mem_cons_self
    have h4x := numT_4 hb.1 hb.2
    have s2 := bs_size (numT x)
    have hl : (x :: r).length = r.length + 1 := rfl
    simp only [spec_paShown.l0]
    rw [if_pos (by omega), if_pos (by omega), if_pos (by omega), if_neg (by omega)]
    show (Option.bind (spec_l1Num.f k x) _) = _
    rw [l1Num_4 hb.1 hb.2 (by omega), Option.bind_some, if_pos (by omega), bs_app, show (0 : Int) = ((0 : Nat) : Int) from rfl, wrap_succ (n := (x :: r).length) (by omega) (by omega),
      paShown_tail hn h r.length k (0 + 1) _ (by omega) (by omega) (by simp only [List.length_append, List.length_cons, List.length_nil]; omega) (by omega)]
    simp [numsT]
theorem all_in {l : List Int} {a b : Int} (h : (l.all fun x => inB x a b) = true) (ha : 0 ≤ a) (hb : b < 10000) : ∀ x ∈ l, 0 ≤ x ∧ x < 10000 := by
  intro x hx
  have := inB_true.1 (List.all_eq_true.1 h x hx)
  omega
/-- A text taken apart at a sign. -/
def splitL (c : UInt8) : List UInt8 → List (List UInt8)
  | [] => [[]]
  | b :: r => if b = c then [] :: splitL c r else (b :: (splitL c r).headD []) :: (splitL c r).tail
theorem splitL_ne (c : UInt8) : ∀ l, splitL c l ≠ []
  | [] => by simp [splitL]
  | b :: r => by unfold splitL; split <;> simp
theorem splitL_cons_head (c : UInt8) (l : List UInt8) : ∃ x xs, splitL c l = x :: xs := by
  cases h : splitL c l with
  | nil => exact absurd h (splitL_ne c l)
  | cons x xs => exact ⟨x, xs, rfl⟩
theorem splitL_hit (c : UInt8) (r : List UInt8) : splitL c (c :: r) = [] :: splitL c r := by
  rw [splitL, if_pos rfl]
theorem splitL_miss {c b : UInt8} (h : b ≠ c) {r x : List UInt8} {xs : List (List UInt8)} (hr : splitL c r = x :: xs) : splitL c (b :: r) = (b :: x) :: xs := by
  rw [splitL, if_neg h, hr]
  rfl
theorem splitL_append (c : UInt8) : ∀ (a l : List UInt8) {x : List UInt8} {xs : List (List UInt8)}, (∀ b ∈ a, b ≠ c) → splitL c l = x :: xs → splitL c (a ++ l) = (a ++ x) :: xs
  | [], _, _, _, _, h => h
  | b :: a, l, x, xs, ha, h => by
    rw [List.cons_append, List.cons_append]
    exact splitL_miss (ha b List.mem_cons_self) (splitL_append c a l (fun q hq => ha q (List.mem_cons_of_mem _ hq)) h)
theorem splitL_none (c : UInt8) {a : List UInt8} (h : ∀ b ∈ a, b ≠ c) : splitL c a = [a] := by
  have := splitL_append c a [] (x := []) (xs := []) h rfl
  simpa using this
theorem splitL_two (c : UInt8) {a : List UInt8} (h : ∀ b ∈ a, b ≠ c) (l : List UInt8) : splitL c (a ++ c :: l) = a :: splitL c l := by
  have := splitL_append c a (c :: l) h (splitL_hit c l)
  simpa using this
/-- Put together again. -/
theorem join_splitL (c : UInt8) : ∀ l, Lib.join (splitL c l) [c] = l
  | [] => by simp [splitL, Lib.join_one]
  | b :: r => by
    have ih := join_splitL c r
    obtain ⟨x, xs, hx⟩ := splitL_cons_head c r
    by_cases h : b = c
    · subst h
      rw [splitL_hit, Lib.join_cons]
      rw [hx, Lib.join_cons] at ih
      rw [hx]
      simp only [Lib.joinTail, List.map_cons, List.flatten_cons, List.nil_append] at ih ⊢
      rw [List.append_assoc, ih]
      rfl
    · rw [splitL_miss h hx, Lib.join_cons]
      rw [hx, Lib.join_cons] at ih
      rw [List.cons_append, ih]
theorem splitL_join (c : UInt8) : ∀ (ps : List (List UInt8)), ps ≠ [] → (∀ p ∈ ps, ∀ b ∈ p, b ≠ c) → splitL c (Lib.join ps [c]) = ps
  | [], h, _ => absurd rfl h
  | [p], _, h => by rw [Lib.join_one]; exact splitL_none c (h p List.mem_cons_self)
  | p :: q :: r, _, h => by
    have ih := splitL_join c (q :: r) (by simp) (fun x hx => h x (List.mem_cons_of_mem _ hx))
    have e : Lib.join (p :: q :: r) [c] = p ++ c :: Lib.join (q :: r) [c] := by
      rw [Lib.join_cons, Lib.join_cons]
      simp [Lib.joinTail]
    rw [e, splitL_two c (h p List.mem_cons_self), ih]
theorem splitL_len (c : UInt8) : ∀ l, (splitL c l).length ≤ l.length + 1
  | [] => by simp [splitL]
  | b :: r => by
    have := splitL_len c r
    obtain ⟨x, xs, hx⟩ := splitL_cons_head c r
    rw [hx] at this
    by_cases h : b = c
    · subst h; rw [splitL_hit, hx]; simp at this ⊢; omega
    · rw [splitL_miss h hx]; simp at this ⊢; omega
theorem splitL_mem_len (c : UInt8) : ∀ l, ∀ p ∈ splitL c l, p.length ≤ l.length
  | [], p, hp => by simp [splitL] at hp; simp [hp]
  | b :: r, p, hp => by
    have ih := splitL_mem_len c r
    obtain ⟨x, xs, hx⟩ := splitL_cons_head c r
    by_cases h : b = c
    · subst h
      rw [splitL_hit] at hp
      rcases List.mem_cons.1 hp with rfl | hp
      · simp
      · have := ih p hp; simp; omega
    · rw [splitL_miss h hx] at hp
      rcases List.mem_cons.1 hp with rfl | hp
      · have := ih x (by rw [hx]; exact List.mem_cons_self); simp; omega
      · have := ih p (by rw [hx]; exact List.mem_cons_of_mem _ hp); simp; omega
theorem index_hit (c : UInt8) : ∀ (a r : List UInt8), (∀ b ∈ a, b ≠ c) → Lib.index (a ++ c :: r) [c] = (a.length : Int)
  | [], r, _ => by simp [Lib.index, List.isPrefixOf]
  | b :: a, r, h => by
    have hb : b ≠ c := h b List.mem_cons_self
    have ih := index_hit c a r (fun q hq => h q (List.mem_cons_of_mem _ hq))
    have hp : ([c] : List UInt8).isPrefixOf (b :: (a ++ c :: r)) = false := by simp [List.isPrefixOf, Ne.symm hb]
    have hq : ((a.length : Int) == -1) = false := by simp
    rw [List.cons_append, Lib.index, hp, ih, hq]
    simp
theorem index_miss (c : UInt8) : ∀ (a : List UInt8), (∀ b ∈ a, b ≠ c) → Lib.index a [c] = -1
  | [], _ => by simp [Lib.index]
  | b :: a, h => by
    have hb : b ≠ c := h b List.mem_cons_self
    have ih := index_miss c a (fun q hq => h q (List.mem_cons_of_mem _ hq))
    have hp : ([c] : List UInt8).isPrefixOf (b :: a) = false := by simp [List.isPrefixOf, Ne.symm hb]
    rw [Lib.index, hp, ih]
    simp
theorem at_sign (c : UInt8) : ∀ l : List UInt8, (∀ b ∈ l, b ≠ c) ∨ ∃ a r, l = a ++ c :: r ∧ ∀ b ∈ a, b ≠ c
  | [] => Or.inl (by simp)
  | b :: l => by
    by_cases hb : b = c
    · exact Or.inr ⟨[], l, by rw [hb]; rfl, by simp⟩
    · rcases at_sign c l with h | ⟨a, r, rfl, h⟩
      · exact Or.inl (by intro q hq; rcases List.mem_cons.1 hq with rfl | hq; exact hb; exact h q hq)
      · exact Or.inr ⟨b :: a, r, rfl, by intro q hq; rcases List.mem_cons.1 hq with rfl | hq; exact hb; exact h q hq⟩
theorem splitK_splitL (c : UInt8) : ∀ (n : Nat) (l : List UInt8), l.length ≤ n → Lib.splitK [c] 0 (Lib.count l [c]) l = splitL c l := by
  intro n
  induction n with
  | zero =>
    intro l hl
    have : l = [] := by cases l with | nil => rfl | cons _ _ => simp at hl
    subst this
    rfl
  | succ n ih =>
    intro l hl
    rcases at_sign c l with h | ⟨a, r, rfl, h⟩
    · rw [Lib.count_one, List.count_eq_zero_of_not_mem (fun hc => h c hc rfl), splitL_none c h]
      rfl
    · have e : Lib.count (a ++ c :: r) [c] = Lib.count r [c] + 1 := by
        rw [Lib.count_one, Lib.count_one, List.count_append, List.count_eq_zero_of_not_mem (fun hc => h c hc rfl), List.count_cons_self]
        omega
      have hn : ((a.length : Int) == -1) = false := by simp
      rw [e, Lib.splitK, index_hit c a r h, hn, splitL_two c h]
      have e1 : (a ++ c :: r).take ((a.length : Int).toNat + 0) = a := by simp
      have e2 : (a ++ c :: r).drop ((a.length : Int).toNat + [c].length) = r := by simp
      rw [e1, e2, ih r (by simp at hl; omega)]
      simp
theorem bs_data (s : ByteArray) : bs s.data.toList = s := Lib.mk_data s
theorem data_bs (l : List UInt8) : (bs l).data.toList = l := by simp [bs]
theorem splitB_eq (c : UInt8) (l : List UInt8) : Lib.splitB ⟨#[c]⟩ 0 (Lib.countB (bs l) ⟨#[c]⟩) (bs l) = (splitL c l).map bs := by
  have h := Lib.splitB_data ⟨#[c]⟩ 0 (Lib.countB (bs l) ⟨#[c]⟩) (bs l)
  have e : ∀ xs : List ByteArray, (xs.map (·.data.toList)).map bs = xs := by
    intro xs
    rw [List.map_map]
    conv => rhs; rw [← List.map_id xs]
    apply List.map_congr_left
    intro x _
    exact bs_data x
  rw [← e (Lib.splitB ⟨#[c]⟩ 0 (Lib.countB (bs l) ⟨#[c]⟩) (bs l)), h]
  have hc : Lib.countB (bs l) ⟨#[c]⟩ = Lib.count l [c] := by
    unfold Lib.countB
    rw [data_bs]
  rw [hc, data_bs]
  exact congrArg (List.map bs) (splitK_splitL c l.length l (Nat.le_refl _))
theorem cut_hit (c : UInt8) {a : List UInt8} (r : List UInt8) (h : ∀ b ∈ a, b ≠ c) : Lib.cut (a ++ c :: r) [c] = (a, r, true) := by
  unfold Lib.cut
  rw [index_hit c a r h, if_pos (by omega)]
  simp
theorem cut_miss (c : UInt8) {a : List UInt8} (h : ∀ b ∈ a, b ≠ c) : Lib.cut a [c] = (a, [], false) := by
  unfold Lib.cut
  rw [index_miss c a h, if_neg (by omega)]
/-- A digit. -/
def isD (b : UInt8) : Bool := decide (48 ≤ b.toNat) && decide (b.toNat ≤ 57)
theorem isD_true {b : UInt8} : isD b = true ↔ 48 ≤ b.toNat ∧ b.toNat ≤ 57 := by simp [isD]
def digN (b : UInt8) : Nat := b.toNat - 48
/-- What digits spell behind others. -/
def spellN (a : Nat) (l : List UInt8) : Nat := l.foldl (fun n b => 10 * n + digN b) a
theorem spellN_nil (a : Nat) : spellN a [] = a := rfl
theorem spellN_cons (a : Nat) (b : UInt8) (r : List UInt8) : spellN a (b :: r) = spellN (10 * a + digN b) r := by
  unfold spellN
  rw [List.foldl_cons]
theorem spellN_append (l m : List UInt8) (a : Nat) : spellN a (l ++ m) = spellN (spellN a l) m := List.foldl_append
theorem spellN_ge : ∀ (l : List UInt8) (a : Nat), a ≤ spellN a l := by
  intro l
  induction l with
  | nil => intro a; exact Nat.le_refl a
  | cons b l ih =>
    intro a
    rw [spellN_cons]
    have h := ih (10 * a + digN b)
    exact Nat.le_trans (by omega) h
theorem byte_nat {d : Nat} (h : d < 256) : (UInt8.ofNat d).toNat = d := by
  rw [UInt8.toNat_ofNat']
  omega
theorem byte_of (b : UInt8) {d : Nat} (h : b.toNat = d) : UInt8.ofNat d = b := by
  rw [← h]
  exact UInt8.ofNat_toNat
theorem dec_small {n : Nat} (h : n < 10) : Lib.decDigits n = [UInt8.ofNat (48 + n)] := by rw [Lib.decDigits, dif_pos h]
theorem dec_step {n : Nat} (h : ¬ n < 10) : Lib.decDigits n = Lib.decDigits (n / 10) ++ [UInt8.ofNat (48 + n % 10)] := by rw [Lib.decDigits, dif_neg h]
theorem dec_digits (n : Nat) : (∀ b ∈ Lib.decDigits n, isD b = true) ∧ spellN 0 (Lib.decDigits n) = n ∧ Lib.decDigits n ≠ [] ∧ ∀ r, Lib.decDigits n = 48 :: r → r = [] := by
  induction n using Nat.strongRecOn with
  | ind n ih =>
    by_cases h : n < 10
    · rw [dec_small h]
      refine ⟨?_, ?_, by simp, ?_⟩
      · intro b hb
        rw [List.mem_singleton.1 hb, isD_true, byte_nat (by omega)]
        omega
      · simp only [spellN_cons, spellN_nil, digN]
        rw [byte_nat (by omega)]
        omega
      · intro r hr
        exact (List.cons.inj hr).2.symm
    · obtain ⟨i1, i2, i3, i4⟩ := ih (n / 10) (by omega)
      rw [dec_step h]
      refine ⟨?_, ?_, by simp, ?_⟩
      · intro b hb
        rcases List.mem_append.1 hb with hb | hb
        · exact i1 b hb
        · rw [List.mem_singleton.1 hb, isD_true, byte_nat (by omega)]
          omega
      · rw [spellN_append, i2]
        simp only [spellN_cons, spellN_nil, digN]
        rw [byte_nat (by omega)]
        omega
      · intro r hr
        cases hd : Lib.decDigits (n / 10) with
        | nil => exact absurd hd i3
        | cons c q =>
          rw [hd, List.cons_append] at hr
          obtain ⟨rfl, -⟩ := List.cons.inj hr
          have hq := i4 q hd
          subst hq
          rw [hd] at i2
          have e0 : spellN 0 [48] = 0 := by decide
          omega
theorem dec_behind : ∀ (l : List UInt8) (a : Nat), 0 < a → (∀ b ∈ l, isD b = true) → Lib.decDigits (spellN a l) = Lib.decDigits a ++ l
  | [], a, _, _ => by simp [spellN_nil]
  | b :: l, a, ha, h => by
    have hb := isD_true.1 (h b List.mem_cons_self)
    rw [spellN_cons, dec_behind l _ (by unfold digN; omega) (fun q hq => h q (List.mem_cons_of_mem _ hq)), dec_step (by unfold digN; omega)]
    have e1 : (10 * a + digN b) / 10 = a := by unfold digN; omega
    have e2 : UInt8.ofNat (48 + (10 * a + digN b) % 10) = b := byte_of b (by unfold digN; omega)
    rw [e1, e2, List.append_assoc]
    rfl
/-- Digits without a useless 0 are the text of what they spell. -/
theorem dec_val {t : List UInt8} (h0 : t ≠ []) (hd : ∀ b ∈ t, isD b = true) (hz : ∀ r, t = 48 :: r → r = []) : Lib.decDigits (spellN 0 t) = t := by
  cases t with
  | nil => exact absurd rfl h0
  | cons b r =>
    have hb := isD_true.1 (hd b List.mem_cons_self)
    by_cases h48 : b = 48
    · subst h48
      have hr := hz r rfl
      subst hr
      have e0 : spellN 0 [48] = 0 := by decide
      rw [e0, dec_small (by decide)]
      rfl
    · have hp : b.toNat ≠ 48 := fun e => h48 (UInt8.toNat_inj.1 e)
      rw [spellN_cons, dec_behind r _ (by unfold digN; omega) (fun q hq => hd q (List.mem_cons_of_mem _ hq)), dec_small (by unfold digN; omega)]
      have e2 : UInt8.ofNat (48 + (10 * 0 + digN b)) = b := byte_of b (by unfold digN; omega)
      rw [e2]
      rfl
theorem parse_val : ∀ (l : List UInt8) (a : Nat), (∀ b ∈ l, isD b = true) → spellN a l < 9223372036854775808 → Lib.parseUint10 a l = .ok (spellN a l)
  | [], _, _, _ => rfl
  | b :: l, a, h, hv => by
    have hb := isD_true.1 (h b List.mem_cons_self)
    have hg := spellN_ge l (10 * a + digN b)
    rw [spellN_cons] at hv ⊢
    have e : a * 10 + (b.toNat - 48) = 10 * a + digN b := by unfold digN; omega
    rw [Lib.parseUint10, if_pos hb, if_neg (by omega), if_neg (by omega), e]
    exact parse_val l _ (fun q hq => h q (List.mem_cons_of_mem _ hq)) hv
theorem atoi_dec {n : Nat} (h : n < 9223372036854775808) : Lib.atoiAll (Lib.decDigits n) = .ok (n : Int) := by
  obtain ⟨d1, d2, d3, -⟩ := dec_digits n
  cases hd : Lib.decDigits n with
  | nil => exact absurd hd d3
  | cons c r =>
    have hc := isD_true.1 (d1 c (by rw [hd]; exact List.mem_cons_self))
    have hp := parse_val (Lib.decDigits n) 0 d1 (by omega)
    rw [d2, hd] at hp
    rw [Lib.atoiAll_plain c r (by omega) (by omega), Lib.parseMag, if_neg (by simp), hp]
    simp only [Lib.signless]
    rw [if_neg (by omega)]
theorem numT_digits (n : Int) : ∀ b ∈ numT n, isD b = true := (dec_digits n.toNat).1
theorem numT_val {n : Int} (h : 0 ≤ n) : (spellN 0 (numT n) : Int) = n := by
  have := (dec_digits n.toNat).2.1
  unfold numT
  omega
theorem numT_free (n : Int) {c : UInt8} (h : isD c = false) : ∀ b ∈ numT n, b ≠ c := by
  intro b hb e
  subst e
  rw [numT_digits n b hb] at h
  cases h
theorem bt_at (l : List UInt8) (i : Nat) (h : i < l.length) : bt (bs l) (i : Int) = ((l[i]).toNat : Int) := by
  unfold bt
  have hs : (i : Int).toNat < (bs l).size := by rw [bs_size]; omega
  rw [dif_pos hs]
  rfl
theorem bs_extract (l : List UInt8) (a b : Nat) : (bs l).extract a b = bs ((l.drop a).take (b - a)) := by
  rw [Lib.extract_eq, data_bs]
  rfl
theorem byte_eq {a b : UInt8} : ((a.toNat : Int) = (b.toNat : Int)) ↔ a = b := by
  constructor
  · intro h
    exact UInt8.toNat_inj.1 (by omega)
  · intro h
    rw [h]
theorem l1Split_l0 {t : List UInt8} (hn : t.length ≤ 1048576) {c : UInt8} : ∀ (d k i j : Nat) (ps : List ByteArray), i + d = t.length → j ≤ i → (∀ b ∈ (t.drop j).take (i - j), b ≠ c) → ps.length ≤ i → d < k →
    spec_l1Split.l0 k (bs t) (c.toNat : Int) ps (j : Int) (i : Int) = some (ps ++ (splitL c (t.drop j)).map bs) := by
  intro d
  induction d with
  | zero =>
    intro k i j ps hi hj hf hp hk
    obtain ⟨k, rfl⟩ := k_succ hk
    have hs := bs_size t
    simp only [spec_l1Split.l0]
    have e : (t.drop j).take (i - j) = t.drop j := List.take_of_length_le (by rw [List.length_drop]; omega)
    rw [e] at hf
    rw [if_neg (by omega), if_pos (by omega), if_pos (by omega), if_pos (by omega), splitL_none c hf, bs_extract, hs, List.take_of_length_le (by rw [List.length_drop]; omega)]
    rfl
  | succ d ih =>
    intro k i j ps hi hj hf hp hk
    obtain ⟨k, rfl⟩ := k_succ hk
    have hs := bs_size t
    have hlt : i < t.length := by omega
    simp only [spec_l1Split.l0]
    rw [if_pos (by omega), if_pos (by omega), bt_at t i hlt]
    by_cases hc : t[i] = c
    · rw [if_pos (byte_eq.2 hc), if_pos (by omega), if_pos (by omega), if_pos (by omega), if_pos (by omega), wrap_succ hlt (by omega), bs_extract]
      rw [ih k (i + 1) (i + 1) _ (by omega) (Nat.le_refl _) (by simp) (by rw [List.length_append]; simp; omega) (by omega)]
      have e : t.drop j = (t.drop j).take (i - j) ++ c :: t.drop (i + 1) := by
        have e1 := List.take_append_drop (i - j) (t.drop j)
        rw [List.drop_drop] at e1
        have e2 : j + (i - j) = i := by omega
        rw [e2, List.drop_eq_getElem_cons hlt, hc] at e1
        exact e1.symm
      have e3 : splitL c (t.drop j) = (t.drop j).take (i - j) :: splitL c (t.drop (i + 1)) := by
        conv => lhs; rw [e]
        exact splitL_two c hf _
      have e4 : ((i : Int)).toNat - ((j : Int)).toNat = i - j := by omega
      rw [e3, e4]
      simp
    · rw [if_neg (fun h => hc (byte_eq.1 h)), wrap_succ hlt (by omega)]
      refine ih k (i + 1) j ps (by omega) (by omega) ?_ (by omega) (by omega)
      have e : i + 1 - j = (i - j) + 1 := by omega
      have hl : i - j < (t.drop j).length := by rw [List.length_drop]; omega
      rw [e, List.take_succ_eq_append_getElem hl]
      intro b hb
      rcases List.mem_append.1 hb with hb | hb
      · exact hf b hb
      · rw [List.mem_singleton.1 hb, List.getElem_drop]
        have e2 : j + (i - j) = i := by omega
        simp only [e2]
        exact hc
theorem l1Split_eq {t : List UInt8} (hn : t.length ≤ 1048576) (c : UInt8) {k : Nat} (hk : t.length < k) : spec_l1Split.f k (bs t) (c.toNat : Int) = some ((splitL c t).map bs) := by
  unfold spec_l1Split.f
  have h := l1Split_l0 hn (c := c) t.length k 0 0 [] (by omega) (Nat.le_refl _) (by simp) (Nat.zero_le _) hk
  simpa using h
theorem rdOf_map (ps : List (List UInt8)) (i : Nat) (h : i < ps.length) : rdOf ByteArray.empty (ps.map bs) (i : Int) = bs ps[i] := by
  unfold rdOf
  rw [List.getD_eq_getElem?_getD, List.getElem?_map]
  have e : ((i : Int)).toNat = i := by omega
  rw [e, List.getElem?_eq_getElem h]
  rfl
/-- A numeral of at most six digits, else -1. -/
def readL (t : List UInt8) : Int := if 1 ≤ t.length ∧ t.length ≤ 6 then (if t.head? = some 48 ∧ 1 < t.length then -1 else if t.all isD = true then (spellN 0 t : Int) else -1) else -1
theorem l1Read_l0 {t : List UInt8} (hn : t.length ≤ 6) : ∀ (d k i v : Nat), i + d = t.length → v = spellN 0 (t.take i) → v < 10 ^ i → d < k → spec_l1Read.l0 k (bs t) (v : Int) (i : Int) = some (if (t.drop i).all isD = true then (spellN 0 t : Int) else -1) := by
  intro d
  induction d with
  | zero =>
    intro k i v hi hv hb hk
    obtain ⟨k, rfl⟩ := k_succ hk
    have hs := bs_size t
    simp only [spec_l1Read.l0]
    rw [if_neg (by omega), show i = t.length by omega, List.drop_length, hv, show i = t.length by omega, List.take_length]
    rfl
  | succ d ih =>
    intro k i v hi hv hb hk
    obtain ⟨k, rfl⟩ := k_succ hk
    have hs := bs_size t
    have hlt : i < t.length := by omega
    have hp : 10 ^ i ≤ 10 ^ 5 := Nat.pow_le_pow_right (by decide) (by omega)
    have hp2 : 10 ^ (i + 1) = 10 ^ i * 10 := Nat.pow_succ ..
    simp only [spec_l1Read.l0]
    rw [if_pos (by omega), if_pos (by omega), bt_at t i hlt, List.drop_eq_getElem_cons hlt, List.all_cons]
    have hb8 := UInt8.toNat_lt t[i]
    by_cases h1 : (t[i].toNat : Int) < 48
    · have e : isD t[i] = false := by
        unfold isD
        rw [decide_eq_false (by omega)]
        rfl
      rw [if_pos h1, e]
      rfl
    · rw [if_neg h1]
      by_cases h2 : (t[i].toNat : Int) > 57
      · have e : isD t[i] = false := by
          unfold isD
          rw [decide_eq_false (p := t[i].toNat ≤ 57) (by omega), Bool.and_false]
        rw [if_pos h2, e]
        rfl
      · have e : isD t[i] = true := isD_true.2 (by omega)
        have hg : digN t[i] = t[i].toNat - 48 := rfl
        have ev : wrap64 (wrap64 (10 * (v : Int)) + ((t[i].toNat : Int) - 48) % 256) = ((10 * v + digN t[i] : Nat) : Int) := by
          rw [wrap_id (n := 10 * (v : Int)) (by omega) (by omega), wrap_id (by omega) (by omega)]
          omega
        rw [if_neg h2, ev, wrap_succ hlt (by omega), e, Bool.true_and]
        have hb3 : ∀ P B : Nat, v < P → B ≤ 57 → 10 * v + (B - 48) < P * 10 := by intro P B h h'; omega
        have hb4 : 10 * v + digN t[i] < 10 ^ (i + 1) := by
          rw [hg, hp2]
          exact hb3 _ _ hb (by omega)
        clear hb3 hp hp2
        refine ih k (i + 1) _ (by omega) ?_ hb4 (by omega)
        rw [List.take_succ_eq_append_getElem hlt, spellN_append, ← hv, spellN_cons, spellN_nil]
theorem l1Read_eq (t : List UInt8) (hn : t.length ≤ 1048576) {k : Nat} (hk : 8 < k) : spec_l1Read.f k (bs t) = some (readL t) := by
  unfold spec_l1Read.f readL
  have hs := bs_size t
  obtain ⟨k, rfl⟩ := k_succ hk
  rw [l1In_eq, Option.bind_some]
  cases hin : inB ((bs t).size : Int) 1 6
  · have hne : ¬ (1 ≤ t.length ∧ t.length ≤ 6) := by
      intro h
      have : inB ((bs t).size : Int) 1 6 = true := inB_true.2 (by omega)
      rw [hin] at this
      cases this
    rw [if_neg (by simp), if_neg hne]
    simp only [spec_l1Read.j0]
    rw [if_pos trivial]
  · have h := inB_true.1 hin
    have h0 : 0 < t.length := by omega
    rw [if_pos rfl, if_pos (by omega), if_pos (show 1 ≤ t.length ∧ t.length ≤ 6 by omega), show bt (bs t) 0 = ((t[0]).toNat : Int) from bt_at t 0 h0]
    have hl : ∀ q, q = k → spec_l1Read.l0 q (bs t) 0 0 = some (if t.all isD = true then (spellN 0 t : Int) else -1) := by
      intro q hq
      have := l1Read_l0 (t := t) (by omega) t.length q 0 0 (by omega) rfl (by decide) (by omega)
      simpa using this
    have hh : t.head? = some t[0] := by
      cases t with
      | nil => simp at h0
      | cons b r => rfl
    by_cases h48 : t[0] = 48
    · rw [if_pos (by rw [h48]; rfl)]
      simp only [spec_l1Read.j0]
      by_cases h1 : 1 < t.length
      · rw [if_pos (by rw [decide_eq_true_iff]; omega), if_pos ⟨by rw [hh, h48], h1⟩]
      · rw [if_neg (by rw [decide_eq_true_iff]; omega), if_neg (fun q => h1 q.2), hl k rfl]
    · have hz : ¬ ((t[0].toNat : Int) = 48) := fun q => h48 (byte_eq.1 (by rw [q]; rfl))
      have hw : ¬ (t.head? = some 48 ∧ 1 < t.length) := fun q => h48 (by have := q.1; rw [hh] at this; exact Option.some.inj this)
      rw [if_neg hz, if_neg hw]
      simp only [spec_l1Read.j0]
      rw [if_neg (by simp), hl k rfl]
theorem readL_num {n : Int} (h0 : 0 ≤ n) (h1 : n < 1000000) : readL (numT n) = n := by
  have h6 := numT_6 h0 h1
  obtain ⟨d1, d2, d3, d4⟩ := dec_digits n.toNat
  have hl : 1 ≤ (numT n).length := List.length_pos_iff.2 d3
  unfold readL
  rw [if_pos ⟨hl, h6⟩, if_neg, if_pos (List.all_eq_true.2 (numT_digits n))]
  · exact numT_val h0
  · rintro ⟨q1, q2⟩
    cases hd : numT n with
    | nil => rw [hd] at q1; cases q1
    | cons b r =>
      rw [hd] at q1 q2
      obtain rfl : b = 48 := Option.some.inj q1
      have := d4 r hd
      rw [this] at q2
      simp at q2
theorem spellN_lt : ∀ (l : List UInt8) (a : Nat), (∀ b ∈ l, isD b = true) → spellN a l < (a + 1) * 10 ^ l.length := by
  intro l
  induction l with
  | nil => intro a _; rw [spellN_nil]; simp
  | cons b l ih =>
    intro a h
    have hb := isD_true.1 (h b List.mem_cons_self)
    have hd : digN b = b.toNat - 48 := rfl
    have hi := ih (10 * a + digN b) (fun q hq => h q (List.mem_cons_of_mem _ hq))
    rw [spellN_cons, List.length_cons, Nat.pow_succ]
    have hm : (10 * a + digN b + 1) * 10 ^ l.length ≤ ((a + 1) * 10) * 10 ^ l.length := Nat.mul_le_mul_right _ (by omega)
    have e : (a + 1) * (10 ^ l.length * 10) = ((a + 1) * 10) * 10 ^ l.length := by
      rw [Nat.mul_comm (10 ^ l.length) 10, Nat.mul_assoc]
    omega
theorem readL_sound {t : List UInt8} (h : 0 ≤ readL t) : numT (readL t) = t ∧ readL t < 1000000 := by
  unfold readL at h ⊢
  by_cases h1 : 1 ≤ t.length ∧ t.length ≤ 6
  · rw [if_pos h1] at h ⊢
    by_cases h2 : t.head? = some 48 ∧ 1 < t.length
    · rw [if_pos h2] at h
      omega
    · rw [if_neg h2] at h ⊢
      by_cases h3 : t.all isD = true
      · rw [if_pos h3]
        have hd : ∀ b ∈ t, isD b = true := List.all_eq_true.1 h3
        have hv := spellN_lt t 0 hd
        have hp : 10 ^ t.length ≤ 10 ^ 6 := Nat.pow_le_pow_right (by decide) h1.2
        refine ⟨?_, by omega⟩
        unfold numT
        have e : ((spellN 0 t : Nat) : Int).toNat = spellN 0 t := by omega
        rw [e]
        refine dec_val (by intro e; rw [e] at h1; simp at h1) hd ?_
        intro r hr
        cases r with
        | nil => rfl
        | cons x y => exact absurd ⟨by rw [hr]; rfl, by rw [hr]; simp⟩ h2
      · rw [if_neg h3] at h
        omega
  · rw [if_neg h1] at h
    omega
theorem toList_bs (l : List UInt8) : (bs l).toList = l := by rw [ByteArray.toList_eq, data_bs]
theorem itoa_dec {n : Int} (h : 0 ≤ n) : Lib.itoa n = numT n := by
  unfold Lib.itoa numT
  rw [if_neg (by omega)]
/-- What readNumber answers. -/
def rn (t : List UInt8) : Int × Bool := match Lib.atoiAll t with
  | .ok v => (v, decide (0 ≤ v) && (Lib.itoa v == t))
  | .range => (Lib.atoiSat t, false)
  | _ => (0, false)
theorem readNumber_eq {t : List UInt8} (hn : t.length ≤ 1048576) : impl_readNumber.f (bs t) = some (rn t) := by
  unfold impl_readNumber.f rn
  rw [if_pos (by rw [bs_size]; exact hn), data_bs]
  cases Lib.atoiAll t with
  | ok v => simp only [toList_bs]; rw [show ((⟨(Lib.itoa v).toArray⟩ : ByteArray)) = bs (Lib.itoa v) from rfl, toList_bs]
  | range => rfl
  | _ => rfl
theorem rn_num {n : Int} (h0 : 0 ≤ n) (h1 : n < 1000000) : rn (numT n) = (n, true) := by
  have h := atoi_dec (n := n.toNat) (by omega)
  unfold rn
  have e : Lib.atoiAll (numT n) = .ok n := by
    unfold numT
    rw [h]
    congr 1
    omega
  rw [e]
  simp only [itoa_dec h0]
  simp [h0]
theorem split_eq {t : List UInt8} (hn : t.length ≤ 1048576) (c : UInt8) : strings_Split.f (bs t) ⟨#[c]⟩ = some ((splitL c t).map bs) := by
  unfold strings_Split.f
  have hs := bs_size t
  have hl := splitL_len c t
  rw [if_pos (by omega), if_pos (show (1 : Nat) ≤ (⟨#[c]⟩ : ByteArray).size from Nat.le_refl 1), splitB_eq, if_pos (by rw [List.length_map]; omega)]
/-- The first numbers that are read, and whether all are. -/
def rns : List (List UInt8) → List Int → List Int × Bool
  | [], a => (a, true)
  | p :: r, a => if (rn p).2 = true then rns r (a ++ [(rn p).1]) else ([], false)
theorem readNumbers_l0 {ps : List (List UInt8)} (hp : ps.length ≤ 1048577) (hl : ∀ p ∈ ps, p.length ≤ 1048576) : ∀ (d k i : Nat) (a : List Int), i + d = ps.length → a.length ≤ i → d < k →
    impl_readNumbers.l0 k a (ps.map bs) (ps.length : Int) (i : Int) = some (rns (ps.drop i) a) := by
  intro d
  induction d with
  | zero =>
    intro k i a hi ha hk
    obtain ⟨k, rfl⟩ := k_succ hk
    simp only [impl_readNumbers.l0]
    rw [if_neg (by omega), List.drop_of_length_le (by omega)]
    rfl
  | succ d ih =>
    intro k i a hi ha hk
    obtain ⟨k, rfl⟩ := k_succ hk
    have hlt : i < ps.length := by omega
    simp only [impl_readNumbers.l0]
    rw [if_pos (by omega), if_pos (by omega), if_pos (by rw [List.length_map]; omega), rdOf_map ps i hlt, readNumber_eq (hl _ (List.getElem_mem hlt)), Option.bind_some, List.drop_eq_getElem_cons hlt]
    unfold rns
    by_cases h : (rn ps[i]).2 = true
    · rw [if_pos h, if_pos h, if_pos (by omega), wrap_succ hlt (by omega)]
      exact ih k (i + 1) _ (by omega) (by rw [List.length_append]; simp; omega) (by omega)
    · rw [if_neg h, if_neg h]
theorem readNumbers_eq {t : List UInt8} (hn : t.length ≤ 1048576) (c : UInt8) {k : Nat} (hk : t.length + 1 < k) : impl_readNumbers.f k (bs t) ⟨#[c]⟩ = some (rns (splitL c t) []) := by
  unfold impl_readNumbers.f
  have hs := splitL_len c t
  rw [split_eq hn c, Option.bind_some, List.length_map]
  exact readNumbers_l0 (by omega) (fun p hp => Nat.le_trans (splitL_mem_len c t p hp) hn) (splitL c t).length k 0 [] (by omega) (Nat.zero_le _) (by omega)
theorem rns_num : ∀ (l : List Int) (a : List Int), (∀ x ∈ l, 0 ≤ x ∧ x < 10000) → rns (l.map numT) a = (a ++ l, true)
  | [], a, _ => by simp [rns]
  | x :: l, a, h => by
    have hx := h x List.mem_cons_self
    rw [List.map_cons, rns, rn_num hx.1 (by omega), if_pos rfl, rns_num l _ (fun y hy => h y (List.mem_cons_of_mem _ hy))]
    simp
theorem cut_eq {t : List UInt8} (hn : t.length ≤ 1048576) (c : UInt8) : strings_Cut.f (bs t) ⟨#[c]⟩ = some (bs (Lib.cut t [c]).1, bs (Lib.cut t [c]).2.1, (Lib.cut t [c]).2.2) := by
  unfold strings_Cut.f
  rw [if_pos (by rw [bs_size]; omega), data_bs]
  rfl
theorem cut_len (t : List UInt8) (c : UInt8) : (Lib.cut t [c]).1.length ≤ t.length ∧ (Lib.cut t [c]).2.1.length ≤ t.length := by
  unfold Lib.cut
  split
  · exact ⟨by rw [List.length_take]; omega, by rw [List.length_drop]; omega⟩
  · exact ⟨Nat.le_refl _, Nat.zero_le _⟩
theorem numsT_join (l : List Int) : numsT l = Lib.join (l.map numT) [44] := by
  cases l with
  | nil => rfl
  | cons x r => rw [List.map_cons, Lib.join_cons]; rfl
theorem numsT_split {l : List Int} (h : l ≠ []) : splitL 44 (numsT l) = l.map numT := by
  rw [numsT_join]
  refine splitL_join 44 _ (by simpa using h) ?_
  intro p hp
  obtain ⟨x, -, rfl⟩ := List.mem_map.1 hp
  exact numT_free x (by decide)
theorem joinTail_free {c : UInt8} (hd : isD c = false) (h44 : (44 : UInt8) ≠ c) : ∀ l : List Int, ∀ b ∈ Lib.joinTail [44] (l.map numT), b ≠ c
  | [], b, hb => by simp [Lib.joinTail] at hb
  | x :: l, b, hb => by
    rw [List.map_cons, joinTail_cons] at hb
    rcases List.mem_append.1 hb with hb | hb
    · rcases List.mem_append.1 hb with hb | hb
      · rw [List.mem_singleton.1 hb]
        exact h44
      · exact numT_free x hd b hb
    · exact joinTail_free hd h44 l b hb
theorem numsT_free {c : UInt8} (hd : isD c = false) (h44 : (44 : UInt8) ≠ c) (l : List Int) : ∀ b ∈ numsT l, b ≠ c := by
  cases l with
  | nil => intro b hb; simp [numsT] at hb
  | cons x r =>
    intro b hb
    unfold numsT at hb
    rcases List.mem_append.1 hb with hb | hb
    · exact numT_free x hd b hb
    · exact joinTail_free hd h44 r b hb
theorem map_back : ∀ ps : List (List UInt8), (∀ x ∈ ps.map readL, 0 ≤ x) → (ps.map readL).map numT = ps
  | [], _ => rfl
  | p :: r, h => by
    rw [List.map_cons, List.map_cons, (readL_sound (h (readL p) (by simp))).1, map_back r (fun x hx => h x (by rw [List.map_cons]; exact List.mem_cons_of_mem _ hx))]
/-- Numbers that are read from pieces are told by them. -/
theorem nums_back {b : List UInt8} (h : ∀ x ∈ (splitL 44 b).map readL, 0 ≤ x) : numsT ((splitL 44 b).map readL) = b := by
  rw [numsT_join, map_back _ h, join_splitL]
theorem two_back {c : UInt8} {t a b : List UInt8} (h : splitL c t = [a, b]) : t = a ++ c :: b := by
  have e := join_splitL c t
  rw [h, Lib.join_cons] at e
  simp [Lib.joinTail] at e
  exact e.symm
theorem two_or (ps : List (List UInt8)) : ps.length ≠ 2 ∨ ∃ a b, ps = [a, b] := by
  cases ps with
  | nil => exact Or.inl (by simp)
  | cons a r =>
    cases r with
    | nil => exact Or.inl (by simp)
    | cons b q =>
      cases q with
      | nil => exact Or.inr ⟨a, b, rfl⟩
      | cons _ _ => exact Or.inl (by simp)
theorem markIntS_l0 : ∀ (d k i : Nat) (l : List Int), i + d = l.length → l.length ≤ 1048576 → (∀ j, j < i → l.getD j 0 = ((1 + j : Nat) : Int)) → d < k →
    ∃ l', laws_markIntS.l0 k l ((1 + i : Nat) : Int) (i : Int) = some (((1 + l.length : Nat) : Int), l') ∧ l'.length = l.length ∧ ∀ j, j < l.length → l'.getD j 0 = ((1 + j : Nat) : Int) := by
  intro d
  induction d with
  | zero =>
    intro k i l hi hn hp hk
    obtain ⟨k, rfl⟩ := k_succ hk
    simp only [laws_markIntS.l0]
    refine ⟨l, ?_, rfl, fun j hj => hp j (by omega)⟩
    rw [if_neg (by omega), show 1 + i = 1 + l.length by omega]
  | succ d ih =>
    intro k i l hi hn hp hk
    obtain ⟨k, rfl⟩ := k_succ hk
    have hlt : i < l.length := by omega
    have e1 : wrap64 (((1 + i : Nat) : Int) + 1) = ((1 + (i + 1) : Nat) : Int) := by unfold wrap64; omega
    have e2 : ((i : Int)).toNat = i := by omega
    simp only [laws_markIntS.l0]
    rw [if_pos (by omega), if_pos (by omega), wrap_succ hlt (by omega), e1, e2]
    obtain ⟨l', h1, h2, h3⟩ := ih k (i + 1) (l.set i ((1 + i : Nat) : Int)) (by rw [List.length_set]; omega) (by rw [List.length_set]; exact hn) (by
      intro j hj
      by_cases h : j = i
      · subst h
        rw [List.getD_eq_getElem?_getD, List.getElem?_set_self hlt]
        rfl
      · rw [List.getD_eq_getElem?_getD, List.getElem?_set_ne (Ne.symm h), ← List.getD_eq_getElem?_getD]
        exact hp j (by omega)) (by omega)
    rw [List.length_set] at h1 h2 h3
    exact ⟨l', h1, h2, h3⟩
theorem markIntS_eq {l : List Int} (hn : l.length ≤ 1048576) {k : Nat} (hk : l.length < k) :
    ∃ l', laws_markIntS.f k l 1 = some (((1 + l.length : Nat) : Int), l') ∧ l'.length = l.length ∧ ∀ j, j < l.length → l'.getD j 0 = ((1 + j : Nat) : Int) := by
  unfold laws_markIntS.f
  exact markIntS_l0 l.length k 0 l (by omega) hn (fun j hj => absurd hj (Nat.not_lt_zero j)) hk
theorem heldIntS_l0 {l : List Int} (hn : l.length ≤ 1048576) (h : ∀ j, j < l.length → l.getD j 0 = ((1 + j : Nat) : Int)) : ∀ (d k i : Nat), i + d = l.length → d < k →
    laws_heldIntS.l0 k l ((1 + i : Nat) : Int) (i : Int) = some ((1 + l.length : Nat) : Int) := by
  intro d
  induction d with
  | zero =>
    intro k i hi hk
    obtain ⟨k, rfl⟩ := k_succ hk
    simp only [laws_heldIntS.l0]
    rw [if_neg (by omega), show 1 + i = 1 + l.length by omega]
  | succ d ih =>
    intro k i hi hk
    obtain ⟨k, rfl⟩ := k_succ hk
    have hlt : i < l.length := by omega
    have e1 : wrap64 (((1 + i : Nat) : Int) + 1) = ((1 + (i + 1) : Nat) : Int) := by unfold wrap64; omega
    simp only [laws_heldIntS.l0]
    rw [if_pos (by omega), if_pos (by omega), if_pos (show rd l (i : Int) = _ from h i hlt), wrap_succ hlt (by omega), e1]
    exact ih k (i + 1) (by omega) (by omega)
theorem heldIntS_eq {l : List Int} (hn : l.length ≤ 1048576) (h : ∀ j, j < l.length → l.getD j 0 = ((1 + j : Nat) : Int)) {k : Nat} (hk : l.length < k) : laws_heldIntS.f k l 1 = some ((1 + l.length : Nat) : Int) := by
  unfold laws_heldIntS.f
  exact heldIntS_l0 hn h l.length k 0 (by omega) hk
/-- A night. -/
def nightB (l : List Int) (s t : Int) : Bool := inB (l.length : Int) 1 6 && ((l.all fun x => inB x 1 1000) && (inB s 1 3 && inB t 1 2))
theorem toGood_eq {l : List Int} (hn : l.length ≤ 9223372036854775807) (s t : Int) {k : Nat} (hk : l.length < k) : spec_toGood.f k l s t = some (nightB l s t) := by
  unfold spec_toGood.f nightB
  rw [l1In_eq, l1All_eq hn 1 1000 hk, l1In_eq, l1In_eq]
  simp only [Option.bind_some]
  cases inB (l.length : Int) 1 6 <;> cases (l.all fun x => inB x 1 1000) <;> cases inB s 1 3 <;> simp
theorem IsNight_eq (l : List Int) (s t : Int) : impl_IsNight.f l s t = some (nightB l s t) := by
  unfold impl_IsNight.f nightB
  rw [areIn_eq, in_eq, in_eq]
  simp only [Option.bind_some]
  cases inB (l.length : Int) 1 6 <;> cases (l.all fun x => inB x 1 1000) <;> cases inB s 1 3 <;> simp
theorem eqNight_eq {l : List Int} (hn : l.length ≤ 9223372036854775807) (s t : Int) {k : Nat} (hk : l.length < k) : laws_eqNight.f k l s t l s t = some true := by
  unfold laws_eqNight.f
  rw [eqIntS_eq hn hk]
  simp
theorem night_all {l : List Int} {s t : Int} (hg : nightB l s t = true) : (∀ x ∈ l, 0 ≤ x ∧ x < 10000) ∧ 1 ≤ l.length ∧ l.length ≤ 6 ∧ 1 ≤ s ∧ s ≤ 3 ∧ 1 ≤ t ∧ t ≤ 2 := by
  unfold nightB at hg
  simp only [Bool.and_eq_true] at hg
  obtain ⟨g1, g2, g3, g4⟩ := hg
  have hx := all_in g2 (by decide) (by decide)
  rw [inB_true] at g1 g3 g4
  exact ⟨hx, by omega⟩
/-- The text of a night. -/
def nightT (l : List Int) (s t : Int) : List UInt8 := numT t ++ 42 :: partyT l s
theorem partyT_cons (l : List Int) (s : Int) : partyT l s = numT s ++ 58 :: numsT l := by
  unfold partyT
  rw [List.append_assoc]
  rfl
theorem nightT_len {l : List Int} {s t : Int} (hg : nightB l s t = true) : (nightT l s t).length ≤ 60 := by
  obtain ⟨hx, h1, h2, h3, h4, h5, h6⟩ := night_all hg
  have a1 := numT_4 (n := s) (by omega) (by omega)
  have a2 := numT_4 (n := t) (by omega) (by omega)
  have hl := numsT_len l hx
  unfold nightT
  rw [partyT_cons]
  simp only [List.length_append, List.length_cons]
  omega
theorem toText_eq {l : List Int} {s t : Int} (hg : nightB l s t = true) {k : Nat} (hk : 20 < k) : spec_toText.f k l s t = some (bs (nightT l s t)) := by
  obtain ⟨hx, h1, h2, h3, h4, h5, h6⟩ := night_all hg
  have a1 := numT_4 (n := s) (by omega) (by omega)
  have a2 := numT_4 (n := t) (by omega) (by omega)
  have hl := numsT_len l hx
  unfold spec_toText.f nightT
  rw [l1Num_4 (by omega) (by omega) (by omega), paShown_eq (by omega) hx (by omega) (by omega) (by omega)]
  simp only [Option.bind_some]
  rw [show (⟨#[42]⟩ : ByteArray) = bs [42] from rfl]
  simp only [bs_app, bs_size, partyT_cons, List.length_append, List.length_cons, List.length_nil]
  rw [if_pos (by omega), if_pos (by omega)]
  simp [List.append_assoc]
theorem nightText_eq {l : List Int} {s t : Int} (hg : nightB l s t = true) {k : Nat} (hk : 20 < k) : impl_Night_text.f k l s t = some (bs (nightT l s t)) := by
  obtain ⟨hx, h1, h2, h3, h4, h5, h6⟩ := night_all hg
  have a1 := numT_4 (n := s) (by omega) (by omega)
  have a2 := numT_4 (n := t) (by omega) (by omega)
  have hl := numsT_len l hx
  unfold impl_Night_text.f nightT
  rw [itoa_eq (by omega) (by omega), itoa_eq (by omega) (by omega), numbers_eq (by omega) hx (by omega)]
  simp only [Option.bind_some]
  rw [show (⟨#[42]⟩ : ByteArray) = bs [42] from rfl, show (⟨#[58]⟩ : ByteArray) = bs [58] from rfl]
  simp only [bs_app, bs_size, partyT_cons, List.length_append, List.length_cons, List.length_nil]
  rw [if_pos (by omega), if_pos (by omega), if_pos (by omega), if_pos (by omega)]
  simp [List.append_assoc]
theorem toParse_l0 (x : List UInt8) {ps : List (List UInt8)} (hp : ps.length ≤ 1048577) (hl : ∀ p ∈ ps, p.length ≤ 1048576) (s t : Int) : ∀ (d k i : Nat) (a : List Int), i + d = ps.length → a.length = i → ps.length + d + 30 < k →
    spec_toParse.l0 k (bs x) (ps.map bs) (ps.length : Int) (i : Int) a s t = some (a ++ (ps.drop i).map readL, s, t, nightB (a ++ (ps.drop i).map readL) s t && (nightT (a ++ (ps.drop i).map readL) s t == x)) := by
  intro d
  induction d with
  | zero =>
    intro k i a hi ha hk
    obtain ⟨k, rfl⟩ := k_succ hk
    simp only [spec_toParse.l0]
    rw [if_neg (by omega), List.drop_of_length_le (by omega), toGood_eq (by omega) s t (by omega), Option.bind_some, List.map_nil, List.append_nil]
    cases hg : nightB a s t
    · rfl
    · rw [if_pos rfl, toText_eq hg (by omega), Option.bind_some, toList_bs, toList_bs]
      rfl
  | succ d ih =>
    intro k i a hi ha hk
    obtain ⟨k, rfl⟩ := k_succ hk
    have hlt : i < ps.length := by omega
    simp only [spec_toParse.l0]
    rw [if_pos (by omega), if_pos (by omega), if_pos (by rw [List.length_map]; omega), rdOf_map ps i hlt, l1Read_eq _ (hl _ (List.getElem_mem hlt)) (by omega), Option.bind_some, if_pos (by omega), wrap_succ hlt (by omega),
      ih k (i + 1) _ (by omega) (by rw [List.length_append]; simp; omega) (by omega), List.drop_eq_getElem_cons hlt, List.map_cons, List.append_assoc]
    rfl
theorem spec_no {x : List UInt8} (hn : x.length ≤ 1048576) (h : 60 < x.length ∨ (splitL 42 x).length ≠ 2) {k : Nat} (hk : x.length + 200 < k) : spec_toParse.f k (bs x) = some ([], 0, 0, false) := by
  obtain ⟨k, rfl⟩ := k_succ hk
  have hs := bs_size x
  unfold spec_toParse.f
  rw [show (42 : Int) = ((42 : UInt8).toNat : Int) from rfl, l1Split_eq (by omega) 42 (by omega), Option.bind_some]
  simp only [spec_toParse.j0]
  by_cases h60 : 60 < x.length
  · rw [if_pos (by omega), if_pos trivial]
  · have h2 : (splitL 42 x).length ≠ 2 := by rcases h with h | h; exact absurd h h60; exact h
    rw [if_neg (by omega), if_pos (by rw [List.length_map]; simp; omega)]
theorem spec_no2 {x a b : List UInt8} (hn : x.length ≤ 60) (h : splitL 42 x = [a, b]) (h2 : (splitL 58 b).length ≠ 2) {k : Nat} (hk : 400 < k) : spec_toParse.f k (bs x) = some ([], 0, 0, false) := by
  obtain ⟨k, rfl⟩ := k_succ hk
  have hs := bs_size x
  have hb : b.length ≤ x.length := splitL_mem_len 42 x b (by rw [h]; simp)
  unfold spec_toParse.f
  rw [show (42 : Int) = ((42 : UInt8).toNat : Int) from rfl, l1Split_eq (by omega) 42 (by omega), Option.bind_some, if_neg (by omega), h]
  simp only [spec_toParse.j0]
  have r1 : rdOf ByteArray.empty ([a, b].map bs) 1 = bs b := rdOf_map [a, b] 1 (by simp)
  rw [if_neg (by simp), if_pos (by simp), r1, show (58 : Int) = ((58 : UInt8).toNat : Int) from rfl, l1Split_eq (by omega) 58 (by omega), Option.bind_some, List.length_map, if_neg (by omega)]
theorem toParse_two {x a b c d : List UInt8} (hn : x.length ≤ 60) (h : splitL 42 x = [a, b]) (h2 : splitL 58 b = [c, d]) {k : Nat} (hk : 400 < k) :
    spec_toParse.f k (bs x) = some ((splitL 44 d).map readL, readL c, readL a, nightB ((splitL 44 d).map readL) (readL c) (readL a) && (nightT ((splitL 44 d).map readL) (readL c) (readL a) == x)) := by
  obtain ⟨k, rfl⟩ := k_succ hk
  have hs := bs_size x
  have ha : a.length ≤ x.length := splitL_mem_len 42 x a (by rw [h]; simp)
  have hb : b.length ≤ x.length := splitL_mem_len 42 x b (by rw [h]; simp)
  have hc : c.length ≤ b.length := splitL_mem_len 58 b c (by rw [h2]; simp)
  have hd : d.length ≤ b.length := splitL_mem_len 58 b d (by rw [h2]; simp)
  have hq := splitL_len 44 d
  unfold spec_toParse.f
  rw [show (42 : Int) = ((42 : UInt8).toNat : Int) from rfl, l1Split_eq (by omega) 42 (by omega), Option.bind_some, if_neg (by omega), h]
  simp only [spec_toParse.j0]
  have r0 : rdOf ByteArray.empty ([a, b].map bs) 0 = bs a := rdOf_map [a, b] 0 (by simp)
  have r1 : rdOf ByteArray.empty ([a, b].map bs) 1 = bs b := rdOf_map [a, b] 1 (by simp)
  have r2 : rdOf ByteArray.empty ([c, d].map bs) 0 = bs c := rdOf_map [c, d] 0 (by simp)
  have r3 : rdOf ByteArray.empty ([c, d].map bs) 1 = bs d := rdOf_map [c, d] 1 (by simp)
  rw [if_neg (by simp), if_pos (by simp), r1, show (58 : Int) = ((58 : UInt8).toNat : Int) from rfl, l1Split_eq (by omega) 58 (by omega), Option.bind_some, h2, if_pos (by simp), if_pos (by simp), r0, l1Read_eq a (by omega) (by omega), Option.bind_some,
    if_pos (by simp), r2, l1Read_eq c (by omega) (by omega), Option.bind_some, if_pos (by simp), r3, show (44 : Int) = ((44 : UInt8).toNat : Int) from rfl, l1Split_eq (by omega) 44 (by omega), Option.bind_some, List.length_map]
  have := toParse_l0 x (ps := splitL 44 d) (by omega) (fun p hp => by have := splitL_mem_len 44 d p hp; omega) (readL c) (readL a) (splitL 44 d).length k 0 [] (by omega) rfl (by omega)
  simpa using this
theorem spec_or {x : List UInt8} (hn : x.length ≤ 1048576) {k : Nat} (hk : x.length + 400 < k) : spec_ParseNight.f k (bs x) = some ([], 0, 0, false) ∨ ∃ l s t, nightB l s t = true ∧ x = nightT l s t := by
  unfold spec_ParseNight.f
  by_cases h60 : 60 < x.length
  · rw [spec_no hn (Or.inl h60) (by omega)]
    exact Or.inl rfl
  rcases two_or (splitL 42 x) with h | ⟨a, b, h⟩
  · rw [spec_no hn (Or.inr h) (by omega)]
    exact Or.inl rfl
  rcases two_or (splitL 58 b) with h2 | ⟨c, d, h2⟩
  · rw [spec_no2 (by omega) h h2 (by omega)]
    exact Or.inl rfl
  · rw [toParse_two (by omega) h h2 (by omega), Option.bind_some]
    dsimp only
    by_cases hg : nightB ((splitL 44 d).map readL) (readL c) (readL a) = true
    · by_cases he : nightT ((splitL 44 d).map readL) (readL c) (readL a) = x
      · exact Or.inr ⟨_, _, _, hg, he.symm⟩
      · rw [if_neg (by simp [he])]
        exact Or.inl rfl
    · rw [if_neg (by simp [hg])]
      exact Or.inl rfl
theorem spec_hit {l : List Int} {s t : Int} (hg : nightB l s t = true) {k : Nat} (hk : 400 < k) : spec_ParseNight.f k (bs (nightT l s t)) = some (l, s, t, true) := by
  obtain ⟨hx, h1, h2, h3, h4, h5, h6⟩ := night_all hg
  have hl : l ≠ [] := by intro e; rw [e] at h1; simp at h1
  have e1 : splitL 42 (nightT l s t) = [numT t, partyT l s] := by
    unfold nightT
    rw [splitL_two 42 (numT_free t (by decide)), splitL_none 42]
    rw [partyT_cons]
    intro b hb
    rcases List.mem_append.1 hb with hb | hb
    · exact numT_free s (by decide) b hb
    · rcases List.mem_cons.1 hb with rfl | hb
      · decide
      · exact numsT_free (by decide) (by decide) l b hb
  have e2 : splitL 58 (partyT l s) = [numT s, numsT l] := by
    rw [partyT_cons, splitL_two 58 (numT_free s (by decide)), splitL_none 58 (numsT_free (by decide) (by decide) l)]
  have e3 : (l.map numT).map readL = l := by
    rw [List.map_map]
    conv => rhs; rw [← List.map_id l]
    apply List.map_congr_left
    intro x hxl
    exact readL_num (hx x hxl).1 (by have := (hx x hxl).2; omega)
  unfold spec_ParseNight.f
  rw [toParse_two (nightT_len hg) e1 e2 hk, Option.bind_some, numsT_split hl, e3, readL_num (by omega) (by omega), readL_num (by omega) (by omega)]
  dsimp only
  rw [if_pos (by rw [hg]; simp)]
theorem impl_or {x : List UInt8} (hn : x.length ≤ 1048576) {k : Nat} (hk : x.length + 400 < k) : impl_ParseNight.f k (bs x) = some ([], 0, 0, false) ∨ ∃ l s t, nightB l s t = true ∧ x = nightT l s t := by
  have hc := cut_len x 42
  have hc2 := cut_len (Lib.cut x [42]).2.1 58
  unfold impl_ParseNight.f
  rw [cut_eq hn 42, Option.bind_some]
  dsimp only
  rw [readNumber_eq (by omega), Option.bind_some, cut_eq (by omega) 58, Option.bind_some]
  dsimp only
  rw [readNumber_eq (by omega), Option.bind_some, readNumbers_eq (by omega) 44 (by omega), Option.bind_some]
  generalize rn (Lib.cut x [42]).1 = p1
  generalize rn (Lib.cut (Lib.cut x [42]).2.1 [58]).1 = p2
  generalize rns (splitL 44 (Lib.cut (Lib.cut x [42]).2.1 [58]).2.1) [] = p3
  by_cases h1 : p1.2 = true
  · rw [if_pos h1]
    by_cases h2 : p2.2 = true
    · rw [if_pos h2]
      by_cases h3 : p3.2 = true
      · rw [if_pos h3, IsNight_eq, Option.bind_some]
        by_cases hg : nightB p3.1 p2.1 p1.1 = true
        · rw [if_pos hg, nightText_eq hg (by omega), Option.bind_some, toList_bs, toList_bs]
          by_cases he : nightT p3.1 p2.1 p1.1 = x
          · exact Or.inr ⟨_, _, _, hg, he.symm⟩
          · rw [if_neg he]
            exact Or.inl rfl
        · rw [if_neg hg]
          exact Or.inl rfl
      · rw [if_neg h3]
        exact Or.inl rfl
    · rw [if_neg h2]
      exact Or.inl rfl
  · rw [if_neg h1]
    exact Or.inl rfl
theorem impl_hit {l : List Int} {s t : Int} (hg : nightB l s t = true) {k : Nat} (hk : 400 < k) : impl_ParseNight.f k (bs (nightT l s t)) = some (l, s, t, true) := by
  obtain ⟨hx, h1, h2, h3, h4, h5, h6⟩ := night_all hg
  have hl : l ≠ [] := by intro e; rw [e] at h1; simp at h1
  have hn := nightT_len hg
  have h7 := numsT_len l hx
  have a1 := numT_4 (n := s) (by omega) (by omega)
  have a2 := numT_4 (n := t) (by omega) (by omega)
  have hp : (partyT l s).length ≤ 60 := by rw [partyT_cons]; simp; omega
  have e1 : Lib.cut (nightT l s t) [42] = (numT t, partyT l s, true) := cut_hit 42 _ (numT_free t (by decide))
  have e2 : Lib.cut (partyT l s) [58] = (numT s, numsT l, true) := by rw [partyT_cons]; exact cut_hit 58 _ (numT_free s (by decide))
  unfold impl_ParseNight.f
  rw [cut_eq (by omega) 42, Option.bind_some, e1]
  dsimp only
  rw [readNumber_eq (by omega), Option.bind_some, rn_num (by omega) (by omega), cut_eq (by omega) 58, Option.bind_some, e2]
  dsimp only
  rw [readNumber_eq (by omega), Option.bind_some, rn_num (by omega) (by omega), readNumbers_eq (by omega) 44 (by omega), Option.bind_some, numsT_split hl, rns_num l [] hx, List.nil_append, if_pos rfl, if_pos rfl, if_pos rfl, IsNight_eq, Option.bind_some, if_pos hg,
    nightText_eq hg (by omega), Option.bind_some, if_pos rfl]
theorem both {x : List UInt8} (hn : x.length ≤ 1048576) : ∃ l s t ok, l.length ≤ 1048576 ∧ (∀ k, x.length + 400 < k → spec_ParseNight.f k (bs x) = some (l, s, t, ok)) ∧ (∀ k, x.length + 400 < k → impl_ParseNight.f k (bs x) = some (l, s, t, ok)) := by
  by_cases h : ∃ l s t, nightB l s t = true ∧ x = nightT l s t
  · obtain ⟨l, s, t, hg, rfl⟩ := h
    refine ⟨l, s, t, true, ?_, fun k hk => spec_hit hg (by omega), fun k hk => impl_hit hg (by omega)⟩
    have := night_all hg
    omega
  · refine ⟨[], 0, 0, false, by simp, fun k hk => ?_, fun k hk => ?_⟩
    · rcases spec_or hn (k := k) (by omega) with e | e
      · exact e
      · exact absurd e h
    · rcases impl_or hn (k := k) (by omega) with e | e
      · exact e
      · exact absurd e h
theorem heldNight_eq {l : List Int} (hn : l.length ≤ 1048576) (s t : Int) (h : ∀ j, j < l.length → l.getD j 0 = ((1 + j : Nat) : Int)) {k : Nat} (hk : l.length < k) : laws_heldNight.f k l s t 1 = some ((1 + l.length : Nat) : Int) := by
  unfold laws_heldNight.f
  rw [heldIntS_eq hn h hk, Option.bind_some, if_neg (by omega)]
theorem pure : ∀ (a0 : ByteArray), a0.size ≤ 9223372036854775807 → ∃ k, laws_FnExactParseNight.f k a0 = some true := by
  intro a0 _
  obtain ⟨x, rfl⟩ : ∃ x, a0 = bs x := ⟨a0.data.toList, (bs_data a0).symm⟩
  have hs := bs_size x
  by_cases h1 : x.length ≤ 1048576
  · obtain ⟨l, s, t, ok, hl, e1, e2⟩ := both h1
    obtain ⟨K, hK⟩ : ∃ K, K = x.length + l.length + 2000 := ⟨_, rfl⟩
    obtain ⟨l', m1, m2, m3⟩ := markIntS_eq hl (k := K + 1) (by omega)
    refine ⟨K + 2, ?_⟩
    unfold laws_FnExactParseNight.f
    rw [if_neg (by omega), e1 _ (by omega), Option.bind_some, e2 _ (by omega), Option.bind_some]
    dsimp only
    rw [eqNight_eq (by omega) s t (by omega), Option.bind_some, if_pos rfl]
    simp only [laws_FnExactParseNight.j0]
    unfold laws_markNight.f
    rw [if_neg (by simp), m1, Option.bind_some, Option.bind_some]
    dsimp only
    rw [heldNight_eq (by omega) s t (by rw [m2]; exact m3) (by omega), Option.bind_some, m2, if_neg (by omega), if_pos rfl, e2 _ (by omega), Option.bind_some]
    dsimp only
    rw [eqNight_eq (by omega) s t (by omega), Option.bind_some, if_pos rfl]
    simp only [laws_FnExactParseNight.j1]
    rw [if_neg (by simp), heldNight_eq (by omega) s t (by rw [m2]; exact m3) (by omega), Option.bind_some, m2, if_neg (by omega), if_pos rfl]
  · refine ⟨1, ?_⟩
    unfold laws_FnExactParseNight.f
    rw [if_pos (by omega)]

end Go.Proofs.YtpiidnmobofaeaaDoor.fnExactParseNight
