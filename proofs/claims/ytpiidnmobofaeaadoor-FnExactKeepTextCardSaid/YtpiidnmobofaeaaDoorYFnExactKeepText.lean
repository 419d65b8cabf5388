/- FnExactKeepText, the plain statement: what the printed functions compute makes the law's function return true. Conditions: the numbers are of their kind. -/
import Derived.Test.YtpiidnmobofaeaaDoorOpn
import Derived.Test.YtpiidnmobofaeaaDoorQFnExactKeepTextx7
namespace Go.Proofs.YtpiidnmobofaeaaDoor.fnExactKeepText
open Go.RowKit Go.Proofs.YtpiidnmobofaeaaDoorW.PrintWords Go.Proofs.YtpiidnmobofaeaaDoorW.PrintLast Go.Proofs.YtpiidnmobofaeaaDoorW.PrintMore Go.Proofs.YtpiidnmobofaeaaDoor.QFnExactKeepText
set_option linter.unusedVariables false
set_option linter.unusedSimpArgs false

/-- x lies between a and b. -/
def inB (x a b : Int) : Bool := decide (a ≤ x) && decide (x ≤ b)
theorem inB_true {x a b : Int} : inB x a b = true ↔ a ≤ x ∧ x ≤ b := by simp [inB]
theorem wrap_id {n : Int} (h0 : -9223372036854775808 ≤ n) (h1 : n ≤ 9223372036854775807) : wrap64 n = n := by
  unfold wrap64
  omega
theorem wrap_succ {i n : Nat} (h : i < n) (hn : n ≤ 9223372036854775807) : wrap64 ((i : Int) + 1) = ((i + 1 : Nat) : Int) := by
  unfold wrap64
  omega
theorem getD_take {α : Type} (l : List α) (i : Nat) (h : i < l.length) (z : α) : l.take (i + 1) = l.take i ++ [l.getD i z] := by
  rw [List.take_succ_eq_append_getElem h, List.getD_eq_getElem?_getD, List.getElem?_eq_getElem h]
  rfl
theorem getD_drop {α : Type} (l : List α) (i : Nat) (h : i < l.length) (z : α) : l.drop i = l.getD i z :: l.drop (i + 1) := by
  rw [List.drop_eq_getElem_cons h, List.getD_eq_getElem?_getD, List.getElem?_eq_getElem h]
  rfl
theorem set_take {α : Type} (l : List α) (i : Nat) (h : i < l.length) (v : α) : (l.set i v).take (i + 1) = l.take i ++ [v] := by
  rw [List.take_succ_eq_append_getElem (by rw [List.length_set]; exact h), List.take_set_of_le (Nat.le_refl i), List.getElem_set_self]
theorem k_succ {k d : Nat} (h : d < k) : ∃ m, k = m + 1 := ⟨k - 1, by omega⟩
theorem getD_map_at {α β : Type} (f : α → β) (l : List α) (i : Nat) (h : i < l.length) (z : α) (y : β) : (l.map f).getD i y = f (l.getD i z) := by
  rw [List.getD_eq_getElem?_getD, List.getD_eq_getElem?_getD, List.getElem?_map, List.getElem?_eq_getElem h]
  rfl
/-- A text by its bytes. -/
def bs (l : List UInt8) : ByteArray := ⟨l.toArray⟩
theorem bs_app (l m : List UInt8) : bs l ++ bs m = bs (l ++ m) := by
  apply ByteArray.ext
  simp [bs, ByteArray.data_append]
theorem bs_size (l : List UInt8) : (bs l).size = l.length := by simp [bs, ByteArray.size]
theorem bs_nums (xs : List Int) : strOfNums xs = bs (xs.map fun n => UInt8.ofNat n.toNat) := rfl
theorem l1In_eq (x a b : Int) : spec_l1In.f x a b = some (inB x a b) := by
  unfold spec_l1In.f inB
  by_cases h : a ≤ x <;> simp [h]
theorem in_eq (x a b : Int) : impl_in.f x a b = some (inB x a b) := by
  unfold impl_in.f inB
  by_cases h : a ≤ x <;> simp [h]
theorem toIntS_l0 {l : List Int} (hn : l.length ≤ 9223372036854775807) : ∀ (d k i : Nat) (x : List Int), i + d = l.length → x.length = l.length → x.take i = l.take i → d < k → laws_toIntS.l0 k l x (i : Int) = some l := by
  intro d
  induction d with
  | zero =>
    intro k i x hi hx ht hk
    obtain ⟨k, rfl⟩ := k_succ hk
    simp only [laws_toIntS.l0]
    rw [if_neg (by omega)]
    rw [show i = l.length by omega, List.take_length, ← hx, List.take_length] at ht
    rw [ht]
  | succ d ih =>
    intro k i x hi hx ht hk
    obtain ⟨k, rfl⟩ := k_succ hk
    have hlt : i < l.length := by omega
    simp only [laws_toIntS.l0]
    rw [if_pos (by omega), if_pos (by omega), if_pos (by omega), wrap_succ hlt hn]
    refine ih k (i + 1) _ (by omega) (by rw [List.length_set]; exact hx) ?_ (by omega)
    rw [Int.toNat_natCast, set_take _ _ (by omega), ht, getD_take l i hlt 0]
    rfl
theorem toIntS_eq {l : List Int} (hn : l.length ≤ 1048576) {k : Nat} (hk : l.length < k) : laws_toIntS.f k l = some l := by
  unfold laws_toIntS.f
  rw [if_pos (by omega), if_pos (by omega)]
  exact toIntS_l0 (by omega) l.length k 0 _ (by omega) (by simp) (by simp) hk
theorem eqIntS_l0 {l : List Int} (hn : l.length ≤ 9223372036854775807) : ∀ (d k i : Nat), i + d = l.length → d < k → laws_eqIntS.l0 k l l (i : Int) = some true := by
  intro d
  induction d with
  | zero =>
    intro k i hi hk
    obtain ⟨k, rfl⟩ := k_succ hk
    simp only [laws_eqIntS.l0]
    rw [if_neg (by omega)]
  | succ d ih =>
    intro k i hi hk
    obtain ⟨k, rfl⟩ := k_succ hk
    have hlt : i < l.length := by omega
    simp only [laws_eqIntS.l0]
    rw [if_pos (by omega), if_pos (by omega), if_pos (by omega), if_pos trivial, wrap_succ hlt hn]
    exact ih k (i + 1) (by omega) (by omega)
theorem eqIntS_eq {l : List Int} (hn : l.length ≤ 9223372036854775807) {k : Nat} (hk : l.length < k) : laws_eqIntS.f k l l = some true := by
  unfold laws_eqIntS.f
  rw [if_pos rfl]
  exact eqIntS_l0 hn l.length k 0 (by omega) hk
theorem areIn_eq (l : List Int) (a b c d : Int) : impl_areIn.f l a b c d = some (inB (l.length : Int) c d && l.all fun x => inB x a b) := by
  unfold impl_areIn.f inB
  simp [List.not_any_eq_all_not]
/-- A number's text. -/
def numT (n : Int) : List UInt8 := Lib.decDigits n.toNat
theorem itoa_eq {n : Int} (h0 : 0 ≤ n) (h1 : n ≤ 9223372036854775807) : strconv_Itoa.f n = some (bs (numT n)) := by
  unfold strconv_Itoa.f Lib.itoa
  rw [if_pos (by omega), if_pos h1, if_neg (by omega)]
  rfl
theorem numT_small {n : Int} (h0 : 0 ≤ n) (h : n < 10) : numT n = [UInt8.ofNat (48 + n.toNat)] := by
  unfold numT
  rw [Lib.decDigits_one (by omega)]
theorem numT_step {n : Int} (h0 : 0 ≤ n) (h : ¬ n < 10) : numT n = numT (n / 10) ++ [UInt8.ofNat (48 + n % 10).toNat] := by
  unfold numT
  rw [Lib.decDigits, dif_neg (by omega)]
  have e1 : n.toNat / 10 = (n / 10).toNat := by omega
  have e2 : 48 + n.toNat % 10 = (48 + n % 10).toNat := by omega
  rw [e1, e2]
theorem digit_eq {n : Int} (h0 : 0 ≤ n) (h : n < 10) : strOfNums [(wrap64 (48 + n)) % 256] = bs [UInt8.ofNat (48 + n).toNat] := by
  rw [wrap_id (by omega) (by omega), bs_nums]
  have e : (48 + n) % 256 = 48 + n := by omega
  rw [e]
  rfl
theorem l1Num_eq : ∀ (d k : Nat) (n : Int), 0 ≤ n → n < 10 ^ (d + 1) → n ≤ 1000000000000 → d ≤ 100 → d < k → spec_l1Num.f k n = some (bs (numT n)) ∧ (numT n).length ≤ d + 1 := by
  intro d
  induction d with
  | zero =>
    intro k n h0 h1 _ _ hk
    obtain ⟨k, rfl⟩ := k_succ hk
    have h10 : n < 10 := by simpa using h1
    simp only [spec_l1Num.f]
    rw [if_pos h10, digit_eq h0 h10, numT_small h0 h10]
    have e : (48 + n).toNat = 48 + n.toNat := by omega
    rw [e]
    exact ⟨rfl, by simp⟩
  | succ d ih =>
    intro k n h0 h1 h9 hd hk
    obtain ⟨k, rfl⟩ := k_succ hk
    simp only [spec_l1Num.f]
    by_cases h10 : n < 10
    · rw [if_pos h10, digit_eq h0 h10, numT_small h0 h10]
      have e : (48 + n).toNat = 48 + n.toNat := by omega
      rw [e]
      exact ⟨rfl, by simp⟩
    · have e1 : Int.tdiv n 10 = n / 10 := Int.tdiv_eq_ediv_of_nonneg h0
      have e2 : Int.tmod n 10 = n % 10 := Int.tmod_eq_emod_of_nonneg h0
      have hp : (10 : Int) ^ (d + 1 + 1) = 10 * 10 ^ (d + 1) := by rw [Int.pow_succ, Int.mul_comm]
      rw [hp] at h1
      obtain ⟨q1, q2⟩ := ih k (n / 10) (by omega) (by omega) (by omega) (by omega) (by omega)
      rw [if_neg h10, e1, e2, wrap_id (by omega) (by omega), q1]
      simp only [Option.bind_some]
      rw [digit_eq (by omega) (by omega)]
      have s1 := bs_size (numT (n / 10))
      have s2 := bs_size [UInt8.ofNat (48 + n % 10).toNat]
      simp only [List.length_cons, List.length_nil] at s2
      rw [if_pos (by omega), bs_app, numT_step h0 h10]
      exact ⟨rfl, by rw [List.length_append]; simp; omega⟩
/-- Numbers of at most four digits. -/
theorem l1Num_4 {n : Int} (h0 : 0 ≤ n) (h1 : n < 10000) {k : Nat} (hk : 3 < k) : spec_l1Num.f k n = some (bs (numT n)) := (l1Num_eq 3 k n h0 (by simpa using h1) (by omega) (by decide) hk).1
theorem numT_4 {n : Int} (h0 : 0 ≤ n) (h1 : n < 10000) : (numT n).length ≤ 4 := (l1Num_eq 3 4 n h0 (by simpa using h1) (by omega) (by decide) (by decide)).2
/-- Numbers with commas between. -/
def numsT : List Int → List UInt8
  | [] => []
  | x :: r => numT x ++ Lib.joinTail [44] (r.map numT)
theorem joinTail_cons (sep : List UInt8) (x : List UInt8) (r : List (List UInt8)) : Lib.joinTail sep (x :: r) = sep ++ x ++ Lib.joinTail sep r := by simp [Lib.joinTail]
theorem joinTail_len (r : List Int) (h : ∀ x ∈ r, 0 ≤ x ∧ x < 10000) : (Lib.joinTail [44] (r.map numT)).length ≤ 5 * r.length := by
  induction r with
  | nil => simp [Lib.joinTail]
  | cons x r ih =>
    have := ih (fun y hy => h y (List.mem_cons_of_mem _ hy))
    have h4 := numT_4 (h x List.mem_cons_self).1 (h x List.mem_cons_self).2
    rw [List.map_cons, joinTail_cons]
    simp only [List.length_append, List.length_cons, List.length_nil]
    omega
theorem numsT_len (r : List Int) (h : ∀ x ∈ r, 0 ≤ x ∧ x < 10000) : (numsT r).length ≤ 5 * r.length := by
  cases r with
  | nil => simp [numsT]
  | cons x r =>
    have := joinTail_len r (fun y hy => h y (List.mem_cons_of_mem _ hy))
    have h4 := numT_4 (h x List.mem_cons_self).1 (h x List.mem_cons_self).2
    simp only [numsT, List.length_append, List.length_cons]
    omega
theorem mem_getD {α : Type} {l : List α} {i : Nat} (h : i < l.length) (z : α) : l.getD i z ∈ l := by
  rw [List.getD_eq_getElem?_getD, List.getElem?_eq_getElem h]
  exact List.getElem_mem h
theorem rd_row (l : List (List Int)) (i : Nat) : rd_L1 l (i : Int) = l.getD i [] := by
  unfold rd_L1
  rw [Int.toNat_natCast]
theorem szIntSS_l0 {l : List (List Int)} (hn : l.length ≤ 1048576) (hl : ∀ x ∈ l, x.length ≤ 9223372036854775807) : ∀ (d k i : Nat) (a : Int), i + d = l.length → 0 ≤ a → a ≤ 1048576 → d < k → ∃ z, laws_szIntSS.l0 k l a (i : Int) = some z ∧ (z < 0 ∨ ∀ x ∈ l.drop i, x.length ≤ 1048576) := by
  intro d
  induction d with
  | zero =>
    intro k i a hi _ _ hk
    obtain ⟨k, rfl⟩ := k_succ hk
    simp only [laws_szIntSS.l0]
    rw [if_neg (by omega), List.drop_of_length_le (by omega)]
    exact ⟨_, rfl, .inr (fun x hx => by simp at hx)⟩
  | succ d ih =>
    intro k i a hi h0 h1 hk
    obtain ⟨k, rfl⟩ := k_succ hk
    have hlt : i < l.length := by omega
    have hx := hl _ (mem_getD hlt [])
    simp only [laws_szIntSS.l0, rd_row, laws_szIntS.f]
    rw [if_pos (by omega), if_pos (by omega), wrap_id (n := a - ((l.getD i []).length : Int)) (by omega) (by omega), wrap_succ hlt (by omega)]
    by_cases hc : a - ((l.getD i []).length : Int) < 0
    · rw [if_pos hc, Option.bind_some, if_pos (by omega)]
      exact ⟨_, rfl, .inl (by omega)⟩
    · rw [if_neg hc, Option.bind_some, if_neg hc]
      obtain ⟨z, hz, h⟩ := ih k (i + 1) (a - ((l.getD i []).length : Int)) (by omega) (by omega) (by omega) (by omega)
      refine ⟨z, hz, h.imp_right fun h => ?_⟩
      rw [getD_drop l i hlt []]
      intro x hx
      rcases List.mem_cons.1 hx with rfl | hx
      · omega
      · exact h x hx
theorem toIntSS_l0 {l : List (List Int)} (hn : l.length ≤ 1048576) (hl : ∀ x ∈ l, x.length ≤ 1048576) : ∀ (d k i : Nat) (x : List (List Int)), i + d = l.length → x.length = l.length → x.take i = l.take i → d + 1048577 < k → laws_toIntSS.l0 k l x (i : Int) = some l := by
  intro d
  induction d with
  | zero =>
    intro k i x hi hx ht hk
    obtain ⟨k, rfl⟩ := k_succ hk
    simp only [laws_toIntSS.l0]
    rw [if_neg (by omega)]
    rw [show i = l.length by omega, ← hx, List.take_length, hx, List.take_length] at ht
    rw [ht]
  | succ d ih =>
    intro k i x hi hx ht hk
    obtain ⟨k, rfl⟩ := k_succ hk
    have hlt : i < l.length := by omega
    have hm := hl _ (mem_getD hlt [])
    simp only [laws_toIntSS.l0, rd_row]
    rw [if_pos (by omega), if_pos (by omega), toIntS_eq hm (by omega), Option.bind_some, if_pos (by omega), wrap_succ hlt (by omega)]
    refine ih k (i + 1) _ (by omega) (by rw [List.length_set]; exact hx) ?_ (by omega)
    rw [Int.toNat_natCast, set_take _ _ (by omega), ht, getD_take l i hlt []]
theorem toIntSS_eq {l : List (List Int)} (hn : l.length ≤ 1048576) (hl : ∀ x ∈ l, x.length ≤ 1048576) {k : Nat} (hk : l.length + 1048577 < k) : laws_toIntSS.f k l = some l := by
  unfold laws_toIntSS.f
  rw [if_pos (by omega), if_pos (by omega)]
  exact toIntSS_l0 hn hl l.length k 0 _ (by omega) (by simp) (by simp) hk
theorem eqIntSS_l0 {l : List (List Int)} (hn : l.length ≤ 1048576) (hl : ∀ x ∈ l, x.length ≤ 1048576) : ∀ (d k i : Nat), i + d = l.length → d + 1048577 < k → laws_eqIntSS.l0 k l l (i : Int) = some true := by
  intro d
  induction d with
  | zero =>
    intro k i hi hk
    obtain ⟨k, rfl⟩ := k_succ hk
    simp only [laws_eqIntSS.l0]
    rw [if_neg (by omega)]
  | succ d ih =>
    intro k i hi hk
    obtain ⟨k, rfl⟩ := k_succ hk
    have hlt : i < l.length := by omega
    have hm := hl _ (mem_getD hlt [])
    simp only [laws_eqIntSS.l0, rd_row]
    rw [if_pos (by omega), if_pos (by omega), if_pos (by omega), eqIntS_eq (by omega) (by omega), Option.bind_some, if_pos rfl, wrap_succ hlt (by omega)]
    exact ih k (i + 1) (by omega) (by omega)
theorem eqIntSS_eq {l : List (List Int)} (hn : l.length ≤ 1048576) (hl : ∀ x ∈ l, x.length ≤ 1048576) {k : Nat} (hk : l.length + 1048577 < k) : laws_eqIntSS.f k l l = some true := by
  unfold laws_eqIntSS.f
  rw [if_pos rfl]
  exact eqIntSS_l0 hn hl l.length k 0 (by omega) hk
theorem wrap_back {i n : Nat} (h : i + 1 < n) (hn : n ≤ 1048576) : wrap64 (((i + 1 : Nat) : Int) - 1) = ((i : Nat) : Int) := by
  rw [wrap_id (by omega) (by omega)]
  omega
theorem pos_succ (i : Nat) : ((i + 1 : Nat) : Int) > 0 := by omega
theorem nat_nonneg (i : Nat) : 0 ≤ ((i : Nat) : Int) := by omega
theorem lt_cast {i n : Nat} (h : i + 1 < n) : ((i : Nat) : Int) < (n : Int) := by omega
/-- A danger: two things, the smaller first. -/
def okD (n : Int) (d : List Int) : Bool := decide (d.length = 2) && (inB (d.getD 0 0) 0 (n - 1) && (inB (d.getD 1 0) 0 (n - 1) && decide (d.getD 0 0 < d.getD 1 0)))
/-- One danger stands before another. -/
def befD (a b : List Int) : Bool := decide (a.getD 0 0 < b.getD 0 0) || (decide (a.getD 0 0 = b.getD 0 0) && decide (a.getD 1 0 < b.getD 1 0))
def chkD (n : Int) : Option (List Int) → List (List Int) → Bool
  | _, [] => true
  | p, d :: r => okD n d && ((match p with | none => true | some q => befD q d) && chkD n (some d) r)
def keepB (n : Int) (l : List (List Int)) (s : Int) : Bool := inB n 0 8 && (inB s 0 8 && chkD n none l)
theorem rd_nat (l : List Int) (i : Nat) : rd l (i : Int) = l.getD i 0 := by
  unfold rd
  rw [Int.toNat_natCast]
theorem two {d : List Int} (h : d.length = 2) : ∃ a b, d = [a, b] := by
  match d, h with
  | [a, b], _ => exact ⟨a, b, rfl⟩
theorem rising_two (a b x y : Int) {k : Nat} (hk : 2 < k) : spec_l1Rising.f k [a, b] x y = some (inB a x y && (inB b x y && decide (a < b))) := by
  obtain ⟨k, rfl⟩ := k_succ hk
  unfold spec_l1Rising.f
  simp only [spec_l1Rising.l0, l1In_eq, Option.bind_some]
  obtain ⟨k, rfl⟩ := k_succ (show 1 < k by omega)
  have w1 : wrap64 ((0 : Int) + 1) = 1 := by rw [wrap_id (by decide) (by decide)]; rfl
  have w2 : wrap64 ((1 : Int) - 1) = 0 := by rw [wrap_id (by decide) (by decide)]; rfl
  have w3 : wrap64 ((1 : Int) + 1) = 2 := by rw [wrap_id (by decide) (by decide)]; rfl
  have r0 : rd [a, b] 0 = a := rfl
  have r1 : rd [a, b] 1 = b := rfl
  obtain ⟨k, rfl⟩ := k_succ (show 0 < k by omega)
  simp only [spec_l1Rising.l0, l1In_eq, Option.bind_some, List.length_cons, List.length_nil, w1, w2, w3, r0, r1]
  cases inB a x y
  · simp
  · cases inB b x y
    · simp
    · by_cases h : a < b
      · simp [h, Int.not_le.2 h]
      · simp [h, Int.not_lt.1 h]
theorem before_two (a b c d : Int) : spec_keBefore.f [a, b] [c, d] = some (befD [a, b] [c, d]) := by
  unfold spec_keBefore.f befD
  have r0 : rd [a, b] 0 = a := rfl
  have r1 : rd [a, b] 1 = b := rfl
  have r2 : rd [c, d] 0 = c := rfl
  have r3 : rd [c, d] 1 = d := rfl
  simp only [r0, r1, r2, r3, List.length_cons, List.length_nil]
  by_cases h1 : a < c
  · simp [h1]
  · by_cases h2 : a = c
    · simp [h2]
    · simp [h1, h2]
theorem cmp_eq (a b : Int) : cmp_Compare_int.f a b = some (if a < b then -1 else if a > b then 1 else 0) := by
  unfold cmp_Compare_int.f cmp_isNaN_int.f
  simp only [Option.bind_some, bne_self_eq_false, Bool.false_eq_true, if_false]
  split
  · rfl
  · split <;> rfl
theorem compare_two (a b c d : Int) {k : Nat} (hk : 2 < k) : ∃ r, slices_Compare_int_int.f k [a, b] [c, d] = some r ∧ decide (r ≥ 0) = !befD [a, b] [c, d] := by
  obtain ⟨k, rfl⟩ := k_succ hk
  obtain ⟨k, rfl⟩ := k_succ (show 1 < k by omega)
  obtain ⟨k, rfl⟩ := k_succ (show 0 < k by omega)
  have w1 : wrap64 ((0 : Int) + 1) = 1 := by rw [wrap_id (by decide) (by decide)]; rfl
  have w3 : wrap64 ((1 : Int) + 1) = 2 := by rw [wrap_id (by decide) (by decide)]; rfl
  have r0 : rd [a, b] 0 = a := rfl
  have r1 : rd [a, b] 1 = b := rfl
  have r2 : rd [c, d] 0 = c := rfl
  have r3 : rd [c, d] 1 = d := rfl
  unfold slices_Compare_int_int.f befD
  simp only [slices_Compare_int_int.l0, cmp_eq, Option.bind_some, List.length_cons, List.length_nil, w1, w3, r0, r1, r2, r3]
  by_cases h1 : a < c
  · exact ⟨-1, by simp [h1], by simp [h1]⟩
  · by_cases h2 : a = c
    · subst h2
      by_cases h3 : b < d
      · exact ⟨-1, by simp [h3], by simp [h3]⟩
      · by_cases h4 : b = d
        · subst h4
          exact ⟨0, by simp, by simp⟩
        · have h5 : b > d := by omega
          exact ⟨1, by simp [h3, h5], by simp [h3]⟩
    · have h5 : a > c := by omega
      exact ⟨1, by simp [h1, h5], by simp [h1, h2]⟩
theorem chkD_drop {n : Int} {l : List (List Int)} {i : Nat} (h : i < l.length) (p : Option (List Int)) : chkD n p (l.drop i) = (okD n (l.getD i []) && ((match p with | none => true | some q => befD q (l.getD i [])) && chkD n (some (l.getD i [])) (l.drop (i + 1)))) := by
  rw [getD_drop l i h []]
  rfl
/-- The danger before the one at i. -/
def prevD (l : List (List Int)) : Nat → Option (List Int)
  | 0 => none
  | i + 1 => some (l.getD i [])
theorem okD_two {n : Int} {d : List Int} (h : okD n d = true) : ∃ a b, d = [a, b] := by
  unfold okD at h
  simp only [Bool.and_eq_true, decide_eq_true_eq] at h
  exact two h.1
set_option maxHeartbeats 4000000 in
theorem keGood_l0 {n : Int} (h8 : inB n 0 8 = true) {l : List (List Int)} (hn : l.length ≤ 1048576) (s : Int) : ∀ (d k i : Nat), i + d = l.length → 2 * d + 8 < k → (∀ q, prevD l i = some q → ∃ a b, q = [a, b]) →
    spec_keGood.l0 k l (l.length : Int) (i : Int) n l s = some (chkD n (prevD l i) (l.drop i)) := by
  have h9 := inB_true.1 h8
  intro d
  induction d with
  | zero =>
    intro k i hi hk hp
    obtain ⟨k, rfl⟩ := k_succ hk
    simp only [spec_keGood.l0]
    rw [if_neg (by omega), List.drop_of_length_le (by omega)]
    rfl
  | succ d ih =>
    intro k i hi hk hp
    obtain ⟨k, rfl⟩ := k_succ hk
    obtain ⟨k, rfl⟩ := k_succ (show 0 < k by omega)
    have hlt : i < l.length := by omega
    simp only [spec_keGood.l0, rd_row]
    rw [if_pos (by omega), if_pos (by omega), if_pos (by omega), chkD_drop hlt, wrap_id (n := n - 1) (by omega) (by omega)]
    have hstep := ih k (i + 1) (by omega) (by omega)
    have hw := wrap_succ hlt (show l.length ≤ 9223372036854775807 by omega)
    simp only [prevD] at hstep
    generalize hd : l.getD i [] = x at *
    by_cases h2 : x.length = 2
    · rw [if_pos (by omega)]
      obtain ⟨a, b, rfl⟩ := two h2
      rw [rising_two a b 0 (n - 1) (by omega), Option.bind_some]
      simp only [spec_keGood.j2]
      have e : (inB a 0 (n - 1) && (inB b 0 (n - 1) && decide (a < b))) = okD n [a, b] := by simp [okD]
      rw [e]
      cases ho : okD n [a, b]
      · simp
      · simp only [Bool.not_true, Bool.false_eq_true, if_false, Bool.true_and]
        have hs := hstep (fun q hq => ⟨a, b, by injection hq with hq; exact hq.symm⟩)
        rw [hw, hs]
        cases i with
        | zero => rw [if_neg (by omega)]; simp [prevD]
        | succ i =>
          obtain ⟨c, e, hce⟩ := hp _ rfl
          rw [if_pos (pos_succ i), wrap_back hlt hn, if_pos (nat_nonneg i), if_pos (lt_cast hlt), rd_row, hce, before_two, Option.bind_some]
          simp only [prevD, hce]
          cases befD [c, e] [a, b] <;> simp
    · rw [if_neg (by omega)]
      simp only [spec_keGood.j2]
      simp [okD, h2]
theorem keGood_eq (n : Int) {l : List (List Int)} (hn : l.length ≤ 1048576) (s : Int) {k : Nat} (hk : 2 * l.length + 12 < k) : spec_keGood.f k n l s = some (keepB n l s) := by
  unfold spec_keGood.f keepB
  rw [l1In_eq, l1In_eq]
  simp only [Option.bind_some]
  obtain ⟨k, rfl⟩ := k_succ hk
  cases h1 : inB n 0 8
  · simp [spec_keGood.j0]
  · rw [if_pos rfl]
    simp only [spec_keGood.j0]
    cases h2 : inB s 0 8
    · simp
    · simp only [Bool.not_true, Bool.false_eq_true, if_false, Bool.true_and]
      have h := keGood_l0 h1 hn s l.length k 0 (by omega) (by omega) (fun q hq => by simp [prevD] at hq)
      exact h
set_option maxHeartbeats 4000000 in
theorem IsKeep_l0 {n : Int} (h8 : inB n 0 8 = true) {l : List (List Int)} (hn : l.length ≤ 1048576) (s : Int) : ∀ (d k i : Nat), i + d = l.length → 2 * d + 8 < k → (∀ q, prevD l i = some q → ∃ a b, q = [a, b]) →
    impl_IsKeep.l0 k l (l.length : Int) (i : Int) n l s = some (chkD n (prevD l i) (l.drop i)) := by
  have h9 := inB_true.1 h8
  intro d
  induction d with
  | zero =>
    intro k i hi hk hp
    obtain ⟨k, rfl⟩ := k_succ hk
    simp only [impl_IsKeep.l0]
    rw [if_neg (by omega), List.drop_of_length_le (by omega)]
    rfl
  | succ d ih =>
    intro k i hi hk hp
    obtain ⟨k, rfl⟩ := k_succ hk
    have hlt : i < l.length := by omega
    simp only [impl_IsKeep.l0, rd_row]
    rw [if_pos (by omega), if_pos (by omega), if_pos (by omega), chkD_drop hlt, wrap_id (n := n - 1) (by omega) (by omega), areIn_eq, Option.bind_some]
    have hstep := ih k (i + 1) (by omega) (by omega)
    have hw := wrap_succ hlt (show l.length ≤ 9223372036854775807 by omega)
    simp only [prevD] at hstep
    generalize hd : l.getD i [] = x at *
    by_cases h2 : x.length = 2
    · obtain ⟨a, b, rfl⟩ := two h2
      have e0 : inB (([a, b] : List Int).length : Int) 2 2 = true := by simp [inB]
      have r0 : rd [a, b] 0 = a := rfl
      have r1 : rd [a, b] 1 = b := rfl
      rw [e0, Bool.true_and]
      simp only [List.all_cons, List.all_nil, Bool.and_true, r0, r1, List.length_cons, List.length_nil]
      cases ha : inB a 0 (n - 1)
      · simp [okD, ha]
      · cases hb : inB b 0 (n - 1)
        · simp [okD, hb]
        · rw [Bool.true_and, if_pos rfl, if_pos (by omega), if_pos (by omega)]
          by_cases hab : a < b
          · rw [if_neg (Int.not_le.2 hab)]
            have eo : okD n [a, b] = true := by simp [okD, ha, hb, hab]
            rw [eo, Bool.true_and]
            have hs := hstep (fun q hq => ⟨a, b, by injection hq with hq; exact hq.symm⟩)
            rw [hw, hs]
            cases i with
            | zero => rw [if_neg (by omega)]; simp [prevD]
            | succ i =>
              obtain ⟨c, e, hce⟩ := hp _ rfl
              rw [if_pos (pos_succ i), wrap_back hlt hn, if_pos (nat_nonneg i), if_pos (lt_cast hlt), rd_row, hce]
              obtain ⟨r, hr, hr2⟩ := compare_two c e a b (k := k) (by omega)
              rw [hr, Option.bind_some]
              simp only [prevD, hce]
              by_cases hr0 : r ≥ 0
              · have : befD [c, e] [a, b] = false := by simpa [hr0] using hr2.symm
                rw [if_pos hr0, this]
                simp
              · have : befD [c, e] [a, b] = true := by simpa [hr0] using hr2.symm
                rw [if_neg hr0, this]
                simp
          · rw [if_pos (Int.not_lt.1 hab)]
            simp [okD, hab]
    · have e0 : inB (x.length : Int) 2 2 = false := by
        cases h : inB (x.length : Int) 2 2
        · rfl
        · have := inB_true.1 h; omega
      rw [e0, Bool.false_and, if_neg (by simp)]
      simp [okD, h2]
theorem IsKeep_eq (n : Int) {l : List (List Int)} (hn : l.length ≤ 1048576) (s : Int) {k : Nat} (hk : 2 * l.length + 12 < k) : impl_IsKeep.f k n l s = some (keepB n l s) := by
  unfold impl_IsKeep.f keepB
  rw [in_eq, in_eq]
  simp only [Option.bind_some]
  obtain ⟨k, rfl⟩ := k_succ hk
  cases h1 : inB n 0 8
  · simp [impl_IsKeep.j0]
  · rw [if_pos rfl]
    simp only [impl_IsKeep.j0]
    cases h2 : inB s 0 8
    · simp
    · simp only [Bool.not_true, Bool.false_eq_true, if_false, Bool.true_and]
      have h := IsKeep_l0 h1 hn s l.length k 0 (by omega) (by omega) (fun q hq => by simp [prevD] at hq)
      exact h
/-- A danger's text. -/
def dgT (d : List Int) : List UInt8 := numT (d.getD 0 0) ++ numT (d.getD 1 0)
/-- Two small numbers. -/
def twoD (d : List Int) : Prop := ∃ a b, d = [a, b] ∧ 0 ≤ a ∧ a < 10000 ∧ 0 ≤ b ∧ b < 10000
theorem chkD_mem {n : Int} : ∀ {l : List (List Int)} {p : Option (List Int)}, chkD n p l = true → ∀ d ∈ l, okD n d = true
  | [], _, _, d, hd => by cases hd
  | x :: r, p, h, d, hd => by
    simp only [chkD, Bool.and_eq_true] at h
    rcases List.mem_cons.1 hd with rfl | hd
    · exact h.1
    · exact chkD_mem h.2.2 d hd
theorem okD_small {n : Int} (hn : inB n 0 8 = true) {d : List Int} (h : okD n d = true) : twoD d := by
  obtain ⟨a, b, rfl⟩ := okD_two h
  unfold okD at h
  rw [inB_true] at hn
  simp only [Bool.and_eq_true, inB_true] at h
  have r0 : ([a, b] : List Int).getD 0 0 = a := rfl
  have r1 : ([a, b] : List Int).getD 1 0 = b := rfl
  rw [r0, r1] at h
  exact ⟨a, b, rfl, by omega, by omega, by omega, by omega⟩
theorem dgT_len {d : List Int} (h : twoD d) : (dgT d).length ≤ 8 := by
  obtain ⟨a, b, rfl, h0, h1, h2, h3⟩ := h
  have a1 := numT_4 h0 h1
  have a2 := numT_4 h2 h3
  show (numT a ++ numT b).length ≤ 8
  rw [List.length_append]
  omega
theorem digits_eq {d : List Int} (h : twoD d) {k : Nat} (hk : 2 < k) : impl_digits.f k d = some (bs (dgT d)) := by
  obtain ⟨a, b, rfl, h0, h1, h2, h3⟩ := h
  obtain ⟨k, rfl⟩ := k_succ hk
  obtain ⟨k, rfl⟩ := k_succ (show 1 < k by omega)
  obtain ⟨k, rfl⟩ := k_succ (show 0 < k by omega)
  have w1 : wrap64 ((0 : Int) + 1) = 1 := by rw [wrap_id (by decide) (by decide)]; rfl
  have w3 : wrap64 ((1 : Int) + 1) = 2 := by rw [wrap_id (by decide) (by decide)]; rfl
  have r0 : rd [a, b] 0 = a := rfl
  have r1 : rd [a, b] 1 = b := rfl
  have a1 := numT_4 h0 h1
  have a2 := numT_4 h2 h3
  have s1 := bs_size (numT a)
  have s2 := bs_size (numT b)
  unfold impl_digits.f
  rw [show (⟨#[]⟩ : ByteArray) = bs [] from rfl]
  simp only [impl_digits.l0, List.length_cons, List.length_nil]
  rw [if_pos (by omega), if_pos (by omega), if_pos (by omega), r0, itoa_eq h0 (by omega), Option.bind_some, bs_app]
  simp only [bs_size, List.length_nil, List.nil_append]
  rw [if_pos (by omega), w1, if_pos (by omega), if_pos (by omega), if_pos (by omega), r1, itoa_eq h2 (by omega), Option.bind_some, bs_app]
  rw [if_pos (by omega), w3, if_neg (by omega)]
  rfl
/-- Dangers with points between. -/
def dgsT (l : List (List Int)) : List UInt8 := Lib.join (l.map dgT) [46]
theorem dgTail_len (r : List (List Int)) (h : ∀ c ∈ r, twoD c) : (Lib.joinTail [46] (r.map dgT)).length ≤ 9 * r.length := by
  induction r with
  | nil => simp [Lib.joinTail]
  | cons x r ih =>
    have := ih (fun y hy => h y (List.mem_cons_of_mem _ hy))
    have h4 := dgT_len (h x List.mem_cons_self)
    rw [List.map_cons, joinTail_cons]
    simp only [List.length_append, List.length_cons, List.length_nil]
    omega
theorem dgsT_len (r : List (List Int)) (h : ∀ c ∈ r, twoD c) : (dgsT r).length ≤ 9 * r.length := by
  cases r with
  | nil => simp [dgsT, Lib.join_nil]
  | cons x r =>
    have := dgTail_len r (fun y hy => h y (List.mem_cons_of_mem _ hy))
    have h4 := dgT_len (h x List.mem_cons_self)
    rw [dgsT, List.map_cons, Lib.join_cons]
    simp only [List.length_append, List.length_cons]
    omega
/-- The text of a keep. -/
def keepT (n : Int) (l : List (List Int)) (s : Int) : List UInt8 := numT n ++ [47] ++ numT s ++ [47] ++ dgsT l
theorem keText_tail {l : List (List Int)} (hn : l.length ≤ 1048576) (h : ∀ c ∈ l, twoD c) : ∀ (d k i : Nat) (x : List UInt8), i + d = l.length → 0 < i → x.length ≤ 9 * i + 100 → d + 4 < k →
    spec_keText.l0 k (bs x) l (l.length : Int) (i : Int) = some (bs (x ++ Lib.joinTail [46] ((l.drop i).map dgT))) := by
  intro d
  induction d with
  | zero =>
    intro k i x hi hp hx hk
    obtain ⟨k, rfl⟩ := k_succ hk
    simp only [spec_keText.l0]
    rw [if_neg (by omega), List.drop_of_length_le (by omega)]
    simp [Lib.joinTail]
  | succ d ih =>
    intro k i x hi hp hx hk
    obtain ⟨k, rfl⟩ := k_succ hk
    have hlt : i < l.length := by omega
    have hc := h _ (mem_getD hlt [])
    have h4 := dgT_len hc
    have hstep := ih k (i + 1) (x ++ [46] ++ dgT (l.getD i [])) (by omega) (by omega) (by simp only [List.length_append, List.length_cons, List.length_nil]; omega) (by omega)
    rw [getD_drop l i hlt [], List.map_cons, joinTail_cons]
    simp only [spec_keText.l0, rd_row]
    rw [wrap_succ hlt (by omega)]
    obtain ⟨a, b, hab, g0, g1, g2, g3⟩ := hc
    rw [hab] at hstep h4 ⊢
    have r0 : rd [a, b] 0 = a := rfl
    have r1 : rd [a, b] 1 = b := rfl
    have e : dgT [a, b] = numT a ++ numT b := rfl
    rw [e] at hstep h4 ⊢
    rw [r0, r1, l1Num_4 g0 g1 (by omega), l1Num_4 g2 g3 (by omega)]
    simp only [Option.bind_some, List.length_cons, List.length_nil]
    rw [show (⟨#[46]⟩ : ByteArray) = bs [46] from rfl]
    simp only [bs_app]
    simp only [List.length_append] at h4
    simp only [bs_size, List.length_append, List.length_cons, List.length_nil]
    rw [if_pos (by omega), if_pos (by omega), if_pos (by omega), if_pos (by omega), if_pos (by omega), if_pos (by omega), if_pos (by omega), if_pos (by omega), if_pos (by omega)]
    refine Eq.trans ?_ (hstep.trans ?_)
    · simp
    · simp
theorem keText_eq {l : List (List Int)} (hn : l.length ≤ 1048576) (h : ∀ c ∈ l, twoD c) {n s : Int} (h0 : 0 ≤ n) (h1 : n < 10000) (h2 : 0 ≤ s) (h3 : s < 10000) {k : Nat} (hk : l.length + 5 < k) : spec_keText.f k n l s = some (bs (keepT n l s)) := by
  unfold spec_keText.f keepT
  have a1 := numT_4 h0 h1
  have a2 := numT_4 h2 h3
  rw [l1Num_4 h0 h1 (by omega), l1Num_4 h2 h3 (by omega)]
  simp only [Option.bind_some]
  rw [show (⟨#[47]⟩ : ByteArray) = bs [47] from rfl]
  simp only [bs_app, bs_size, List.length_append, List.length_cons, List.length_nil]
  rw [if_pos (by omega), if_pos (by omega), if_pos (by omega)]
  cases l with
  | nil =>
    obtain ⟨k, rfl⟩ := k_succ hk
    simp only [spec_keText.l0]
    rw [if_neg (by simp)]
    simp [dgsT, Lib.join_nil]
  | cons c r =>
    obtain ⟨k, rfl⟩ := k_succ hk
    have hc := h c List.mem_cons_self
    have h4x := dgT_len hc
    have hl : (c :: r).length = r.length + 1 := rfl
    have hstep := keText_tail hn h r.length k (0 + 1) (numT n ++ [47] ++ numT s ++ [47] ++ dgT c) (by omega) (by omega) (by simp only [List.length_append, List.length_cons, List.length_nil]; omega) (by omega)
    simp only [spec_keText.l0]
    rw [show (0 : Int) = ((0 : Nat) : Int) from rfl, rd_row]
    rw [show (c :: r).getD 0 [] = c from rfl, wrap_succ (n := (c :: r).length) (by omega) (by omega)]
    obtain ⟨a, b, rfl, g0, g1, g2, g3⟩ := hc
    have r0 : rd [a, b] ((0 : Nat) : Int) = a := rfl
    have r1 : rd [a, b] 1 = b := rfl
    have e : dgT [a, b] = numT a ++ numT b := rfl
    rw [e] at hstep h4x
    rw [r0, r1, l1Num_4 g0 g1 (by omega), l1Num_4 g2 g3 (by omega)]
    simp only [Option.bind_some]
    simp only [bs_app]
    simp only [List.length_append] at h4x
    simp only [bs_size, List.length_append, List.length_cons, List.length_nil] at hstep ⊢
    rw [if_pos (by omega), if_pos (by omega), if_pos (by omega), if_neg (by omega), if_pos (by omega), if_pos (by omega), if_pos (by omega), if_pos (by omega)]
    refine Eq.trans ?_ (hstep.trans ?_)
    · simp
    · rw [dgsT, List.map_cons, Lib.join_cons, e]
      simp
theorem text_l0 {l : List (List Int)} (hn : l.length ≤ 1048576) (h : ∀ c ∈ l, twoD c) {n s : Int} (h0 : 0 ≤ n) (h1 : n < 10000) (h2 : 0 ≤ s) (h3 : s < 10000) : ∀ (d k i : Nat), i + d = l.length → d + 4 < k →
    impl_Keep_text.l0 k ((l.take i).map fun c => bs (dgT c)) l (l.length : Int) (i : Int) n l s = some (bs (keepT n l s)) := by
  intro d
  induction d with
  | zero =>
    intro k i hi hk
    obtain ⟨k, rfl⟩ := k_succ hk
    simp only [impl_Keep_text.l0]
    rw [if_neg (by omega), List.take_of_length_le (by omega), itoa_eq h0 (by omega), itoa_eq h2 (by omega)]
    unfold strings_Join.f
    have e : ((l.map fun c => bs (dgT c)).map (·.data.toList)) = l.map dgT := by
      rw [List.map_map]
      apply List.map_congr_left
      intro x _
      simp [bs]
    have e2 : (⟨#[46]⟩ : ByteArray).data.toList = [46] := rfl
    have hl := dgsT_len l h
    have a1 := numT_4 h0 h1
    have a2 := numT_4 h2 h3
    rw [e, e2, show Lib.join (l.map dgT) [46] = dgsT l from rfl, if_pos (c := (l.map fun c => bs (dgT c)).length ≤ 140737488355328) (by rw [List.length_map]; omega), if_pos (c := (dgsT l).length ≤ 140737488355328) (by omega)]
    simp only [Option.bind_some]
    rw [show (⟨#[47]⟩ : ByteArray) = bs [47] from rfl, show (⟨(dgsT l).toArray⟩ : ByteArray) = bs (dgsT l) from rfl]
    simp only [bs_app, bs_size, List.length_append, List.length_cons, List.length_nil]
    rw [if_pos (by omega), if_pos (by omega), if_pos (by omega), if_pos (by omega)]
    rfl
  | succ d ih =>
    intro k i hi hk
    obtain ⟨k, rfl⟩ := k_succ hk
    have hlt : i < l.length := by omega
    have hc := h _ (mem_getD hlt [])
    have hstep := ih k (i + 1) (by omega) (by omega)
    rw [getD_take l i hlt [], List.map_append] at hstep
    simp only [impl_Keep_text.l0, rd_row]
    have hl2 : ((l.take i).map fun c => bs (dgT c)).length = i := by rw [List.length_map, List.length_take]; omega
    rw [wrap_succ hlt (by omega), hl2, digits_eq hc (by omega), if_pos (by omega), if_pos (by omega), if_pos (by omega), Option.bind_some, if_pos (by omega)]
    exact hstep
theorem text_eq {l : List (List Int)} (hn : l.length ≤ 1048576) (h : ∀ c ∈ l, twoD c) {n s : Int} (h0 : 0 ≤ n) (h1 : n < 10000) (h2 : 0 ≤ s) (h3 : s < 10000) {k : Nat} (hk : l.length + 5 < k) : impl_Keep_text.f k n l s = some (bs (keepT n l s)) := by
  unfold impl_Keep_text.f
  exact text_l0 hn h h0 h1 h2 h3 l.length k 0 (by omega) (by omega)
theorem szKeep_eq {n s : Int} {l : List (List Int)} (hn : l.length ≤ 9223372036854775807) (hl : ∀ x ∈ l, x.length ≤ 9223372036854775807) {k : Nat} (hk : l.length < k) : ∃ z, laws_szKeep.f k n l s 1048576 = some z ∧ (z < 0 ∨ (l.length ≤ 1048576 ∧ ∀ x ∈ l, x.length ≤ 1048576)) := by
  unfold laws_szKeep.f laws_szIntSS.f
  rw [wrap_id (n := 1048576 - (l.length : Int)) (by omega) (by omega)]
  by_cases h : l.length ≤ 1048576
  · rw [if_neg (by omega)]
    obtain ⟨z, hz, h2⟩ := szIntSS_l0 h hl l.length k 0 (1048576 - (l.length : Int)) (by omega) (by omega) (by omega) hk
    rw [show ((0 : Nat) : Int) = 0 from rfl] at hz
    rw [hz, Option.bind_some]
    by_cases hz0 : z < 0
    · rw [if_pos hz0]
      exact ⟨_, rfl, .inl (by omega)⟩
    · rw [if_neg hz0]
      exact ⟨_, rfl, .inr ⟨h, by simpa using h2.resolve_left hz0⟩⟩
  · rw [if_pos (by omega), Option.bind_some, if_pos (by omega)]
    exact ⟨_, rfl, .inl (by omega)⟩
theorem toKeep_eq {n s : Int} {l : List (List Int)} (hn : l.length ≤ 1048576) (hl : ∀ x ∈ l, x.length ≤ 1048576) {k : Nat} (hk : l.length + 1048577 < k) : laws_toKeep.f k n l s = some (n, l, s) := by
  unfold laws_toKeep.f
  rw [toIntSS_eq hn hl hk]
  rfl
theorem eqKeep_eq {n s : Int} {l : List (List Int)} (hn : l.length ≤ 1048576) (hl : ∀ x ∈ l, x.length ≤ 1048576) {k : Nat} (hk : l.length + 1048577 < k) : laws_eqKeep.f k n l s n l s = some true := by
  unfold laws_eqKeep.f
  rw [if_pos rfl, eqIntSS_eq hn hl hk]
  simp
theorem both (n : Int) {l : List (List Int)} (hl : l.length ≤ 1048576) (s : Int) {k : Nat} (hk : 2 * l.length + 12 < k) : ∃ x, spec_KeepText.f k n l s = some x ∧ impl_KeepText.f k n l s = some x := by
  unfold spec_KeepText.f impl_KeepText.f
  rw [keGood_eq n hl s hk, IsKeep_eq n hl s hk]
  simp only [Option.bind_some]
  cases hg : keepB n l s
  · exact ⟨_, by rw [if_neg (by simp)], by rw [if_neg (by simp)]⟩
  · unfold keepB at hg
    simp only [Bool.and_eq_true] at hg
    obtain ⟨g1, g2, g3⟩ := hg
    have hx : ∀ c ∈ l, twoD c := fun c hc => okD_small g1 (chkD_mem g3 c hc)
    rw [inB_true] at g1 g2
    rw [if_pos rfl, if_pos rfl, keText_eq hl hx (by omega) (by omega) (by omega) (by omega) (by omega), text_eq hl hx (by omega) (by omega) (by omega) (by omega) (by omega)]
    exact ⟨_, rfl, rfl⟩
theorem pure : ∀ (a0_0 : Int) (l0_1 : List (List Int)) (a0_2 : Int), Opn.okI a0_0 → (∀ y0 ∈ l0_1, (y0.length ≤ 9223372036854775807 ∧ ∀ y1 ∈ y0, Opn.okI y1)) → l0_1.length ≤ 9223372036854775807 → Opn.okI a0_2 → ∃ k, laws_FnExactKeepText.f k a0_0 l0_1 a0_2 = some true := by
  intro n l s _ hx hn _
  obtain ⟨K, hK⟩ : ∃ K, K = 2 * l.length + 1048600 := ⟨_, rfl⟩
  refine ⟨K + 1, ?_⟩
  unfold laws_FnExactKeepText.f
  obtain ⟨z, hz, h1⟩ := szKeep_eq (n := n) (s := s) hn (fun x h => (hx x h).1) (k := K + 1) (by omega)
  rw [hz, Option.bind_some]
  by_cases hz0 : z < 0
  · rw [if_pos hz0]
  · obtain ⟨h2, h3⟩ := h1.resolve_left hz0
    obtain ⟨x, e1, e2⟩ := both n h2 s (k := K + 1) (by omega)
    rw [if_neg hz0, toKeep_eq h2 h3 (by omega)]
    simp only [Option.bind_some, e1, e2]
    rw [if_pos trivial]
    simp only [laws_FnExactKeepText.j0]
    rw [if_neg (by simp), toKeep_eq h2 h3 (by omega)]
    simp only [Option.bind_some]
    rw [eqKeep_eq h2 h3 (by omega), Option.bind_some, if_pos rfl]

end Go.Proofs.YtpiidnmobofaeaaDoor.fnExactKeepText
