/- FnExactParseKeep, the plain statement: what the printed functions compute makes the law's function return true. Conditions: the numbers are of their kind. -/
import Derived.Test.YtpiidnmobofaeaaDoorOpn
import Derived.Test.YtpiidnmobofaeaaDoorQFnExactParseKeepx9
namespace Go.Proofs.YtpiidnmobofaeaaDoor.fnExactParseKeep
open Go.RowKit Go.Proofs.YtpiidnmobofaeaaDoorW.PrintWords Go.Proofs.YtpiidnmobofaeaaDoorW.PrintLast Go.Proofs.YtpiidnmobofaeaaDoorW.PrintMore Go.Proofs.YtpiidnmobofaeaaDoor.QFnExactParseKeep
set_option linter.unusedVariables false
set_option linter.unusedSimpArgs false

/-- x lies between a and b. -/
def inB (x a b : Int) : Bool := decide (a ≤ x) && decide (x ≤ b)
theorem inB_true {x a b : Int} : inB x a b = true ↔ a ≤ x ∧ x ≤ b := by simp [inB]
theorem wrap_id {n : Int} (h0 : -9223372036854775808 ≤ n) (h1 : n ≤ 9223372036854775807) : wrap64 n = n := by
  unfold wrap64
  omega
theorem wrap_succ {i n : Nat} (h : i < n) (hn : n ≤ 9223372036854775807) : wrap64 ((i : Int) + 1) = ((i + 1 : Nat) : Int) := by
  unfold wrap64
  omega
theorem getD_take {α : Type} (l : List α) (i : Nat) (h : i < l.length) (z : α) : l.take (i + 1) = l.take i ++ [l.getD i z] := by
  rw [List.take_succ_eq_append_getElem h, List.getD_eq_getElem?_getD, List.getElem?_eq_getElem h]
  rfl
theorem getD_drop {α : Type} (l : List α) (i : Nat) (h : i < l.length) (z : α) : l.drop i = l.getD i z :: l.drop (i + 1) := by
  rw [List.drop_eq_getElem_cons h, List.getD_eq_getElem?_getD, List.getElem?_eq_getElem h]
  rfl
theorem set_take {α : Type} (l : List α) (i : Nat) (h : i < l.length) (v : α) : (l.set i v).take (i + 1) = l.take i ++ [v] := by
  rw [List.take_succ_eq_append_getElem (by rw [List.length_set]; exact h), List.take_set_of_le (Nat.le_refl i), List.getElem_set_self]
theorem k_succ {k d : Nat} (h : d < k) : ∃ m, k = m + 1 := ⟨k - 1, by omega⟩
theorem getD_map_at {α β : Type} (f : α → β) (l : List α) (i : Nat) (h : i < l.length) (z : α) (y : β) : (l.map f).getD i y = f (l.getD i z) := by
  rw [List.getD_eq_getElem?_getD, List.getD_eq_getElem?_getD, List.getElem?_map, List.getElem?_eq_getElem h]
  rfl
/-- A text by its bytes. -/
def bs (l : List UInt8) : ByteArray := ⟨l.toArray⟩
theorem bs_app (l m : List UInt8) : bs l ++ bs m = bs (l ++ m) := by
  apply ByteArray.ext
  simp [bs, ByteArray.data_append]
theorem bs_size (l : List UInt8) : (bs l).size = l.length := by simp [bs, ByteArray.size]
theorem bs_nums (xs : List Int) : strOfNums xs = bs (xs.map fun n => UInt8.ofNat n.toNat) := rfl
theorem l1In_eq (x a b : Int) : spec_l1In.f x a b = some (inB x a b) := by
  unfold spec_l1In.f inB
  by_cases h : a ≤ x <;> simp [h]
theorem in_eq (x a b : Int) : impl_in.f x a b = some (inB x a b) := by
  unfold impl_in.f inB
  by_cases h : a ≤ x <;> simp [h]
theorem eqIntS_l0 {l : List Int} (hn : l.length ≤ 9223372036854775807) : ∀ (d k i : Nat), i + d = l.length → d < k → laws_eqIntS.l0 k l l (i : Int) = some true := by
  intro d
  induction d with
  | zero =>
    intro k i hi hk
    obtain ⟨k, rfl⟩ := k_succ hk
    simp only [laws_eqIntS.l0]
    rw [if_neg (by omega)]
  | succ d ih =>
    intro k i hi hk
    obtain ⟨k, rfl⟩ := k_succ hk
    have hlt : i < l.length := by omega
    simp only [laws_eqIntS.l0]
    rw [if_pos (by omega), if_pos (by omega), if_pos (by omega), if_pos trivial, wrap_succ hlt hn]
    exact ih k (i + 1) (by omega) (by omega)
theorem eqIntS_eq {l : List Int} (hn : l.length ≤ 9223372036854775807) {k : Nat} (hk : l.length < k) : laws_eqIntS.f k l l = some true := by
  unfold laws_eqIntS.f
  rw [if_pos rfl]
  exact eqIntS_l0 hn l.length k 0 (by omega) hk
theorem areIn_eq (l : List Int) (a b c d : Int) : impl_areIn.f l a b c d = some (inB (l.length : Int) c d && l.all fun x => inB x a b) := by
  unfold impl_areIn.f inB
  simp [List.not_any_eq_all_not]
/-- A number's text. -/
def numT (n : Int) : List UInt8 := Lib.decDigits n.toNat
theorem itoa_eq {n : Int} (h0 : 0 ≤ n) (h1 : n ≤ 9223372036854775807) : strconv_Itoa.f n = some (bs (numT n)) := by
  unfold strconv_Itoa.f Lib.itoa
  rw [if_pos (by omega), if_pos h1, if_neg (by omega)]
  rfl
theorem numT_small {n : Int} (h0 : 0 ≤ n) (h : n < 10) : numT n = [UInt8.ofNat (48 + n.toNat)] := by
  unfold numT
  rw [Lib.decDigits_one (by omega)]
theorem numT_step {n : Int} (h0 : 0 ≤ n) (h : ¬ n < 10) : numT n = numT (n / 10) ++ [UInt8.ofNat (48 + n % 10).toNat] := by
  unfold numT
  rw [Lib.decDigits, dif_neg (by omega)]
  have e1 : n.toNat / 10 = (n / 10).toNat := by omega
  have e2 : 48 + n.toNat % 10 = (48 + n % 10).toNat := by omega
  rw [e1, e2]
theorem dec_len : ∀ (d n : Nat), n < 10 ^ (d + 1) → (Lib.decDigits n).length ≤ d + 1 := by
  intro d
  induction d with
  | zero =>
    intro n h
    rw [Lib.decDigits_one (by simpa using h)]
    simp
  | succ d ih =>
    intro n h
    by_cases h10 : n < 10
    · rw [Lib.decDigits_one h10]
      simp
    · rw [Lib.decDigits, dif_neg h10, List.length_append]
      have hp : 10 ^ (d + 1 + 1) = 10 ^ (d + 1) * 10 := Nat.pow_succ ..
      have := ih (n / 10) (by omega)
      simp only [List.length_cons, List.length_nil]
      omega
theorem numT_4 {n : Int} (h0 : 0 ≤ n) (h1 : n < 10000) : (numT n).length ≤ 4 := dec_len 3 n.toNat (by omega)
theorem numT_6 {n : Int} (h0 : 0 ≤ n) (h1 : n < 1000000) : (numT n).length ≤ 6 := dec_len 5 n.toNat (by omega)
/-- Numbers with commas between. -/
def numsT : List Int → List UInt8
  | [] => []
  | x :: r => numT x ++ Lib.joinTail [44] (r.map numT)
theorem joinTail_cons (sep : List UInt8) (x : List UInt8) (r : List (List UInt8)) : Lib.joinTail sep (x :: r) = sep ++ x ++ Lib.joinTail sep r := by simp [Lib.joinTail]
theorem joinTail_len (r : List Int) (h : ∀ x ∈ r, 0 ≤ x ∧ x < 10000) : (Lib.joinTail [44] (r.map numT)).length ≤ 5 * r.length := by
  induction r with
  | nil => simp [Lib.joinTail]
  | cons x r ih =>
    have := ih (fun y hy => h y (List.mem_cons_of_mem _ hy))
    have h4 := numT_4 (h x List.mem_cons_self).1 (h x List.mem_cons_self).2
    rw [List.map_cons, joinTail_cons]
    simp only [List.length_append, List.length_cons, List.length_nil]
    omega
theorem numsT_len (r : List Int) (h : ∀ x ∈ r, 0 ≤ x ∧ x < 10000) : (numsT r).length ≤ 5 * r.length := by
  cases r with
  | nil => simp [numsT]
  | cons x r =>
    have := joinTail_len r (fun y hy => h y (List.mem_cons_of_mem _ hy))
    have h4 := numT_4 (h x List.mem_cons_self).1 (h x List.mem_cons_self).2
    simp only [numsT, List.length_append, List.length_cons]
    omega
theorem mem_getD {α : Type} {l : List α} {i : Nat} (h : i < l.length) (z : α) : l.getD i z ∈ l := by
  rw [List.getD_eq_getElem?_getD, List.getElem?_eq_getElem h]
  exact List.getElem_mem h
theorem rd_row (l : List (List Int)) (i : Nat) : rd_L1 l (i : Int) = l.getD i [] := by
  unfold rd_L1
  rw [Int.toNat_natCast]
theorem eqIntSS_l0 {l : List (List Int)} (hn : l.length ≤ 1048576) (hl : ∀ x ∈ l, x.length ≤ 1048576) : ∀ (d k i : Nat), i + d = l.length → d + 1048577 < k → laws_eqIntSS.l0 k l l (i : Int) = some true := by
  intro d
  induction d with
  | zero =>
    intro k i hi hk
    obtain ⟨k, rfl⟩ := k_succ hk
    simp only [laws_eqIntSS.l0]
    rw [if_neg (by omega)]
  | succ d ih =>
    intro k i hi hk
    obtain ⟨k, rfl⟩ := k_succ hk
    have hlt : i < l.length := by omega
    have hm := hl _ (mem_getD hlt [])
    simp only [laws_eqIntSS.l0, rd_row]
    rw [if_pos (by omega), if_pos (by omega), if_pos (by omega), eqIntS_eq (by omega) (by omega), Option.bind_some, if_pos rfl, wrap_succ hlt (by omega)]
    exact ih k (i + 1) (by omega) (by omega)
theorem eqIntSS_eq {l : List (List Int)} (hn : l.length ≤ 1048576) (hl : ∀ x ∈ l, x.length ≤ 1048576) {k : Nat} (hk : l.length + 1048577 < k) : laws_eqIntSS.f k l l = some true := by
  unfold laws_eqIntSS.f
  rw [if_pos rfl]
  exact eqIntSS_l0 hn hl l.length k 0 (by omega) hk
theorem wrap_back {i n : Nat} (h : i + 1 < n) (hn : n ≤ 1048576) : wrap64 (((i + 1 : Nat) : Int) - 1) = ((i : Nat) : Int) := by
  rw [wrap_id (by omega) (by omega)]
  omega
theorem pos_succ (i : Nat) : ((i + 1 : Nat) : Int) > 0 := by omega
theorem nat_nonneg (i : Nat) : 0 ≤ ((i : Nat) : Int) := by omega
theorem lt_cast {i n : Nat} (h : i + 1 < n) : ((i : Nat) : Int) < (n : Int) := by omega
/-- A danger: two things, the smaller first. -/
def okD (n : Int) (d : List Int) : Bool := decide (d.length = 2) && (inB (d.getD 0 0) 0 (n - 1) && (inB (d.getD 1 0) 0 (n - 1) && decide (d.getD 0 0 < d.getD 1 0)))
/-- One danger stands before another. -/
def befD (a b : List Int) : Bool := decide (a.getD 0 0 < b.getD 0 0) || (decide (a.getD 0 0 = b.getD 0 0) && decide (a.getD 1 0 < b.getD 1 0))
def chkD (n : Int) : Option (List Int) → List (List Int) → Bool
  | _, [] => true
  | p, d :: r => okD n d && ((match p with | none => true | some q => befD q d) && chkD n (some d) r)
def keepB (n : Int) (l : List (List Int)) (s : Int) : Bool := inB n 0 8 && (inB s 0 8 && chkD n none l)
theorem rd_nat (l : List Int) (i : Nat) : rd l (i : Int) = l.getD i 0 := by
  unfold rd
  rw [Int.toNat_natCast]
theorem two {d : List Int} (h : d.length = 2) : ∃ a b, d = [a, b] := by
  match d, h with
  | [a, b], _ => exact ⟨a, b, rfl⟩
theorem rising_two (a b x y : Int) {k : Nat} (hk : 2 < k) : spec_l1Rising.f k [a, b] x y = some (inB a x y && (inB b x y && decide (a < b))) := by
  obtain ⟨k, rfl⟩ := k_succ hk
  unfold spec_l1Rising.f
  simp only [spec_l1Rising.l0, l1In_eq, Option.bind_some]
  obtain ⟨k, rfl⟩ := k_succ (show 1 < k by omega)
  have w1 : wrap64 ((0 : Int) + 1) = 1 := by rw [wrap_id (by decide) (by decide)]; rfl
  have w2 : wrap64 ((1 : Int) - 1) = 0 := by rw [wrap_id (by decide) (by decide)]; rfl
  have w3 : wrap64 ((1 : Int) + 1) = 2 := by rw [wrap_id (by decide) (by decide)]; rfl
  have r0 : rd [a, b] 0 = a := rfl
  have r1 : rd [a, b] 1 = b := rfl
  obtain ⟨k, rfl⟩ := k_succ (show 0 < k by omega)
  simp only [spec_l1Rising.l0, l1In_eq, Option.bind_some, List.length_cons, List.length_nil, w1, w2, w3, r0, r1]
  cases inB a x y
  · simp
  · cases inB b x y
    · simp
    · by_cases h : a < b
      · simp [h, Int.not_le.2 h]
      · simp [h, Int.not_lt.1 h]
theorem before_two (a b c d : Int) : spec_keBefore.f [a, b] [c, d] = some (befD [a, b] [c, d]) := by
  unfold spec_keBefore.f befD
  have r0 : rd [a, b] 0 = a := rfl
  have r1 : rd [a, b] 1 = b := rfl
  have r2 : rd [c, d] 0 = c := rfl
  have r3 : rd [c, d] 1 = d := rfl
  simp only [r0, r1, r2, r3, List.length_cons, List.length_nil]
  by_cases h1 : a < c
  · simp [h1]
  · by_cases h2 : a = c
    · simp [h2]
    · simp [h1, h2]
theorem cmp_eq (a b : Int) : cmp_Compare_int.f a b = some (if a < b then -1 else if a > b then 1 else 0) := by
  unfold cmp_Compare_int.f cmp_isNaN_int.f
  simp only [Option.bind_some, bne_self_eq_false, Bool.false_eq_true, if_false]
  split
  · rfl
  · split <;> rfl
theorem compare_two (a b c d : Int) {k : Nat} (hk : 2 < k) : ∃ r, slices_Compare_int_int.f k [a, b] [c, d] = some r ∧ decide (r ≥ 0) = !befD [a, b] [c, d] := by
  obtain ⟨k, rfl⟩ := k_succ hk
  obtain ⟨k, rfl⟩ := k_succ (show 1 < k by omega)
  obtain ⟨k, rfl⟩ := k_succ (show 0 < k by omega)
  have w1 : wrap64 ((0 : Int) + 1) = 1 := by rw [wrap_id (by decide) (by decide)]; rfl
  have w3 : wrap64 ((1 : Int) + 1) = 2 := by rw [wrap_id (by decide) (by decide)]; rfl
  have r0 : rd [a, b] 0 = a := rfl
  have r1 : rd [a, b] 1 = b := rfl
  have r2 : rd [c, d] 0 = c := rfl
  have r3 : rd [c, d] 1 = d := rfl
  unfold slices_Compare_int_int.f befD
  simp only [slices_Compare_int_int.l0, cmp_eq, Option.bind_some, List.length_cons, List.length_nil, w1, w3, r0, r1, r2, r3]
  by_cases h1 : a < c
  · exact ⟨-1, by simp [h1], by simp [h1]⟩
  · by_cases h2 : a = c
    · subst h2
      by_cases h3 : b < d
      · exact ⟨-1, by simp [h3], by simp [h3]⟩
      · by_cases h4 : b = d
        · subst h4
          exact ⟨0, by simp, by simp⟩
        · have h5 : b > d := by omega
          exact ⟨1, by simp [h3, h5], by simp [h3]⟩
    · have h5 : a > c := by omega
      exact ⟨1, by simp [h1, h5], by simp [h1, h2]⟩
theorem chkD_drop {n : Int} {l : List (List Int)} {i : Nat} (h : i < l.length) (p : Option (List Int)) : chkD n p (l.drop i) = (okD n (l.getD i []) && ((match p with | none => true | some q => befD q (l.getD i [])) && chkD n (some (l.getD i [])) (l.drop (i + 1)))) := by
  rw [getD_drop l i h []]
  rfl
/-- The danger before the one at i. -/
def prevD (l : List (List Int)) : Nat → Option (List Int)
  | 0 => none
  | i + 1 => some (l.getD i [])
theorem okD_two {n : Int} {d : List Int} (h : okD n d = true) : ∃ a b, d = [a, b] := by
  unfold okD at h
  simp only [Bool.and_eq_true, decide_eq_true_eq] at h
  exact two h.1
set_option maxHeartbeats 4000000 in
theorem keGood_l0 {n : Int} (h8 : inB n 0 8 = true) {l : List (List Int)} (hn : l.length ≤ 1048576) (s : Int) : ∀ (d k i : Nat), i + d = l.length → 2 * d + 8 < k → (∀ q, prevD l i = some q → ∃ a b, q = [a, b]) →
    spec_keGood.l0 k l (l.length : Int) (i : Int) n l s = some (chkD n (prevD l i) (l.drop i)) := by
  have h9 := inB_true.1 h8
  intro d
  induction d with
  | zero =>
    intro k i hi hk hp
    obtain ⟨k, rfl⟩ := k_succ hk
    simp only [spec_keGood.l0]
    rw [if_neg (by omega), List.drop_of_length_le (by omega)]
    rfl
  | succ d ih =>
    intro k i hi hk hp
    obtain ⟨k, rfl⟩ := k_succ hk
    obtain ⟨k, rfl⟩ := k_succ (show 0 < k by omega)
    have hlt : i < l.length := by omega
    simp only [spec_keGood.l0, rd_row]
    rw [if_pos (by omega), if_pos (by omega), if_pos (by omega), chkD_drop hlt, wrap_id (n := n - 1) (by omega) (by omega)]
    have hstep := ih k (i + 1) (by omega) (by omega)
    have hw := wrap_succ hlt (show l.length ≤ 9223372036854775807 by omega)
    simp only [prevD] at hstep
    generalize hd : l.getD i [] = x at *
    by_cases h2 : x.length = 2
    · rw [if_pos (by omega)]
      obtain ⟨a, b, rfl⟩ := two h2
      rw [rising_two a b 0 (n - 1) (by omega), Option.bind_some]
      simp only [spec_keGood.j2]
      have e : (inB a 0 (n - 1) && (inB b 0 (n - 1) && decide (a < b))) = okD n [a, b] := by simp [okD]
      rw [e]
      cases ho : okD n [a, b]
      · simp
      · simp only [Bool.not_true, Bool.false_eq_true, if_false, Bool.true_and]
        have hs := hstep (fun q hq => ⟨a, b, by injection hq with hq; exact hq.symm⟩)
        rw [hw, hs]
        cases i with
        | zero => rw [if_neg (by omega)]; simp [prevD]
        | succ i =>
          obtain ⟨c, e, hce⟩ := hp _ rfl
          rw [if_pos (pos_succ i), wrap_back hlt hn, if_pos (nat_nonneg i), if_pos (lt_cast hlt), rd_row, hce, before_two, Option.bind_some]
          simp only [prevD, hce]
          cases befD [c, e] [a, b] <;> simp
    · rw [if_neg (by omega)]
      simp only [spec_keGood.j2]
      simp [okD, h2]
theorem keGood_eq (n : Int) {l : List (List Int)} (hn : l.length ≤ 1048576) (s : Int) {k : Nat} (hk : 2 * l.length + 12 < k) : spec_keGood.f k n l s = some (keepB n l s) := by
  unfold spec_keGood.f keepB
  rw [l1In_eq, l1In_eq]
  simp only [Option.bind_some]
  obtain ⟨k, rfl⟩ := k_succ hk
  cases h1 : inB n 0 8
  · simp [spec_keGood.j0]
  · rw [if_pos rfl]
    simp only [spec_keGood.j0]
    cases h2 : inB s 0 8
    · simp
    · simp only [Bool.not_true, Bool.false_eq_true, if_false, Bool.true_and]
      have h := keGood_l0 h1 hn s l.length k 0 (by omega) (by omega) (fun q hq => by simp [prevD] at hq)
      exact h
set_option maxHeartbeats 4000000 in
theorem IsKeep_l0 {n : Int} (h8 : inB n 0 8 = true) {l : List (List Int)} (hn : l.length ≤ 1048576) (s : Int) : ∀ (d k i : Nat), i + d = l.length → 2 * d + 8 < k → (∀ q, prevD l i = some q → ∃ a b, q = [a, b]) →
    impl_IsKeep.l0 k l (l.length : Int) (i : Int) n l s = some (chkD n (prevD l i) (l.drop i)) := by
  have h9 := inB_true.1 h8
  intro d
  induction d with
  | zero =>
    intro k i hi hk hp
    obtain ⟨k, rfl⟩ := k_succ hk
    simp only [impl_IsKeep.l0]
    rw [if_neg (by omega), List.drop_of_length_le (by omega)]
    rfl
  | succ d ih =>
    intro k i hi hk hp
    obtain ⟨k, rfl⟩ := k_succ hk
    have hlt : i < l.length := by omega
    simp only [impl_IsKeep.l0, rd_row]
    rw [if_pos (by omega), if_pos (by omega), if_pos (by omega), chkD_drop hlt, wrap_id (n := n - 1) (by omega) (by omega), areIn_eq, Option.bind_some]
    have hstep := ih k (i + 1) (by omega) (by omega)
    have hw := wrap_succ hlt (show l.length ≤ 9223372036854775807 by omega)
    simp only [prevD] at hstep
    generalize hd : l.getD i [] = x at *
    by_cases h2 : x.length = 2
    · obtain ⟨a, b, rfl⟩ := two h2
      have e0 : inB (([a, b] : List Int).length : Int) 2 2 = true := by simp [inB]
      have r0 : rd [a, b] 0 = a := rfl
      have r1 : rd [a, b] 1 = b := rfl
      rw [e0, Bool.true_and]
      simp only [List.all_cons, List.all_nil, Bool.and_true, r0, r1, List.length_cons, List.length_nil]
      cases ha : inB a 0 (n - 1)
      · simp [okD, ha]
      · cases hb : inB b 0 (n - 1)
        · simp [okD, hb]
        · rw [Bool.true_and, if_pos rfl, if_pos (by omega), if_pos (by omega)]
          by_cases hab : a < b
          · rw [if_neg (Int.not_le.2 hab)]
            have eo : okD n [a, b] = true := by simp [okD, ha, hb, hab]
            rw [eo, Bool.true_and]
            have hs := hstep (fun q hq => ⟨a, b, by injection hq with hq; exact hq.symm⟩)
            rw [hw, hs]
            cases i with
            | zero => rw [if_neg (by omega)]; simp [prevD]
            | succ i =>
              obtain ⟨c, e, hce⟩ := hp _ rfl
              rw [if_pos (pos_succ i), wrap_back hlt hn, if_pos (nat_nonneg i), if_pos (lt_cast hlt), rd_row, hce]
              obtain ⟨r, hr, hr2⟩ := compare_two c e a b (k := k) (by omega)
              rw [hr, Option.bind_some]
              simp only [prevD, hce]
              by_cases hr0 : r ≥ 0
              · have : befD [c, e] [a, b] = false := by simpa [hr0] using hr2.symm
                rw [if_pos hr0, this]
                simp
              · have : befD [c, e] [a, b] = true := by simpa [hr0] using hr2.symm
                rw [if_neg hr0, this]
                simp
          · rw [if_pos (Int.not_lt.1 hab)]
            simp [okD, hab]
    · have e0 : inB (x.length : Int) 2 2 = false := by
        cases h : inB (x.length : Int) 2 2
        · rfl
        · have := inB_true.1 h; omega
      rw [e0, Bool.false_and, if_neg (by simp)]
      simp [okD, h2]
theorem IsKeep_eq (n : Int) {l : List (List Int)} (hn : l.length ≤ 1048576) (s : Int) {k : Nat} (hk : 2 * l.length + 12 < k) : impl_IsKeep.f k n l s = some (keepB n l s) := by
  unfold impl_IsKeep.f keepB
  rw [in_eq, in_eq]
  simp only [Option.bind_some]
  obtain ⟨k, rfl⟩ := k_succ hk
  cases h1 : inB n 0 8
  · simp [impl_IsKeep.j0]
  · rw [if_pos rfl]
    simp only [impl_IsKeep.j0]
    cases h2 : inB s 0 8
    · simp
    · simp only [Bool.not_true, Bool.false_eq_true, if_false, Bool.true_and]
      have h := IsKeep_l0 h1 hn s l.length k 0 (by omega) (by omega) (fun q hq => by simp [prevD] at hq)
      exact h
/-- A danger's text. -/
def dgT (d : List Int) : List UInt8 := numT (d.getD 0 0) ++ numT (d.getD 1 0)
/-- Two small numbers. -/
def twoD (d : List Int) : Prop := ∃ a b, d = [a, b] ∧ 0 ≤ a ∧ a < 10000 ∧ 0 ≤ b ∧ b < 10000
theorem chkD_mem {n : Int} : ∀ {l : List (List Int)} {p : Option (List Int)}, chkD n p l = true → ∀ d ∈ l, okD n d = true
  | [], _, _, d, hd => by cases hd
  | x :: r, p, h, d, hd => by
    simp only [chkD, Bool.and_eq_true] at h
    rcases List.mem_cons.1 hd with rfl | hd
    · exact h.1
    · exact chkD_mem h.2.2 d hd
theorem okD_small {n : Int} (hn : inB n 0 8 = true) {d : List Int} (h : okD n d = true) : twoD d := by
  obtain ⟨a, b, rfl⟩ := okD_two h
  unfold okD at h
  rw [inB_true] at hn
  simp only [Bool.and_eq_true, inB_true] at h
  have r0 : ([a, b] : List Int).getD 0 0 = a := rfl
  have r1 : ([a, b] : List Int).getD 1 0 = b := rfl
  rw [r0, r1] at h
  exact ⟨a, b, rfl, by omega, by omega, by omega, by omega⟩
theorem dgT_len {d : List Int} (h : twoD d) : (dgT d).length ≤ 8 := by
  obtain ⟨a, b, rfl, h0, h1, h2, h3⟩ := h
  have a1 := numT_4 h0 h1
  have a2 := numT_4 h2 h3
  show (numT a ++ numT b).length ≤ 8
  rw [List.length_append]
  omega
theorem digits_eq {d : List Int} (h : twoD d) {k : Nat} (hk : 2 < k) : impl_digits.f k d = some (bs (dgT d)) := by
  obtain ⟨a, b, rfl, h0, h1, h2, h3⟩ := h
  obtain ⟨k, rfl⟩ := k_succ hk
  obtain ⟨k, rfl⟩ := k_succ (show 1 < k by omega)
  obtain ⟨k, rfl⟩ := k_succ (show 0 < k by omega)
  have w1 : wrap64 ((0 : Int) + 1) = 1 := by rw [wrap_id (by decide) (by decide)]; rfl
  have w3 : wrap64 ((1 : Int) + 1) = 2 := by rw [wrap_id (by decide) (by decide)]; rfl
  have r0 : rd [a, b] 0 = a := rfl
  have r1 : rd [a, b] 1 = b := rfl
  have a1 := numT_4 h0 h1
  have a2 := numT_4 h2 h3
  have s1 := bs_size (numT a)
  have s2 := bs_size (numT b)
  unfold impl_digits.f
  rw [show (⟨#[]⟩ : ByteArray) = bs [] from rfl]
  simp only [impl_digits.l0, List.length_cons, List.length_nil]
  rw [if_pos (by omega), if_pos (by omega), if_pos (by omega), r0, itoa_eq h0 (by omega), Option.bind_some, bs_app]
  simp only [bs_size, List.length_nil, List.nil_append]
  rw [if_pos (by omega), w1, if_pos (by omega), if_pos (by omega), if_pos (by omega), r1, itoa_eq h2 (by omega), Option.bind_some, bs_app]
  rw [if_pos (by omega), w3, if_neg (by omega)]
  rfl
/-- Dangers with points between. -/
def dgsT (l : List (List Int)) : List UInt8 := Lib.join (l.map dgT) [46]
theorem dgTail_len (r : List (List Int)) (h : ∀ c ∈ r, twoD c) : (Lib.joinTail [46] (r.map dgT)).length ≤ 9 * r.length := by
  induction r with
  | nil => simp [Lib.joinTail]
  | cons x r ih =>
    have := ih (fun y hy => h y (List.mem_cons_of_mem _ hy))
    have h4 := dgT_len (h x List.mem_cons_self)
    rw [List.map_cons, joinTail_cons]
    simp only [List.length_append, List.length_cons, List.length_nil]
    omega
theorem dgsT_len (r : List (List Int)) (h : ∀ c ∈ r, twoD c) : (dgsT r).length ≤ 9 * r.length := by
  cases r with
  | nil => simp [dgsT, Lib.join_nil]
  | cons x r =>
    have := dgTail_len r (fun y hy => h y (List.mem_cons_of_mem _ hy))
    have h4 := dgT_len (h x List.mem_cons_self)
    rw [dgsT, List.map_cons, Lib.join_cons]
    simp only [List.length_append, List.length_cons]
    omega
/-- The text of a keep. -/
def keepT (n : Int) (l : List (List Int)) (s : Int) : List UInt8 := numT n ++ [47] ++ numT s ++ [47] ++ dgsT l
theorem text_l0 {l : List (List Int)} (hn : l.length ≤ 1048576) (h : ∀ c ∈ l, twoD c) {n s : Int} (h0 : 0 ≤ n) (h1 : n < 10000) (h2 : 0 ≤ s) (h3 : s < 10000) : ∀ (d k i : Nat), i + d = l.length → d + 4 < k →
    impl_Keep_text.l0 k ((l.take i).map fun c => bs (dgT c)) l (l.length : Int) (i : Int) n l s = some (bs (keepT n l s)) := by
  intro d
  induction d with
  | zero =>
    intro k i hi hk
    obtain ⟨k, rfl⟩ := k_succ hk
    simp only [impl_Keep_text.l0]
    rw [if_neg (by omega), List.take_of_length_le (by omega), itoa_eq h0 (by omega), itoa_eq h2 (by omega)]
    unfold strings_Join.f
    have e : ((l.map fun c => bs (dgT c)).map (·.data.toList)) = l.map dgT := by
      rw [List.map_map]
      apply List.map_congr_left
      intro x _
      simp [bs]
    have e2 : (⟨#[46]⟩ : ByteArray).data.toList = [46] := rfl
    have hl := dgsT_len l h
    have a1 := numT_4 h0 h1
    have a2 := numT_4 h2 h3
    rw [e, e2, show Lib.join (l.map dgT) [46] = dgsT l from rfl, if_pos (c := (l.map fun c => bs (dgT c)).length ≤ 140737488355328) (by rw [List.length_map]; omega), if_pos (c := (dgsT l).length ≤ 140737488355328) (by omega)]
    simp only [Option.bind_some]
    rw [show (⟨#[47]⟩ : ByteArray) = bs [47] from rfl, show (⟨(dgsT l).toArray⟩ : ByteArray) = bs (dgsT l) from rfl]
    simp only [bs_app, bs_size, List.length_append, List.length_cons, List.length_nil]
    rw [if_pos (by omega), if_pos (by omega), if_pos (by omega), if_pos (by omega)]
    rfl
  | succ d ih =>
    intro k i hi hk
    obtain ⟨k, rfl⟩ := k_succ hk
    have hlt : i < l.length := by omega
    have hc := h _ (mem_getD hlt [])
    have hstep := ih k (i + 1) (by omega) (by omega)
    rw [getD_take l i hlt [], List.map_append] at hstep
    simp only [impl_Keep_text.l0, rd_row]
    have hl2 : ((l.take i).map fun c => bs (dgT c)).length = i := by rw [List.length_map, List.length_take]; omega
    rw [wrap_succ hlt (by omega), hl2, digits_eq hc (by omega), if_pos (by omega), if_pos (by omega), if_pos (by omega), Option.bind_some, if_pos (by omega)]
    exact hstep
theorem text_eq {l : List (List Int)} (hn : l.length ≤ 1048576) (h : ∀ c ∈ l, twoD c) {n s : Int} (h0 : 0 ≤ n) (h1 : n < 10000) (h2 : 0 ≤ s) (h3 : s < 10000) {k : Nat} (hk : l.length + 5 < k) : impl_Keep_text.f k n l s = some (bs (keepT n l s)) := by
  unfold impl_Keep_text.f
  exact text_l0 hn h h0 h1 h2 h3 l.length k 0 (by omega) (by omega)
/-- The place of a pair among all pairs of eight. -/
def rkN (a b : Nat) : Nat := ([0, 7, 13, 18, 22, 25, 27, 28].getD a 0) + b - a - 1
theorem rk_lt : ∀ a b c d : Fin 8, a.val < b.val → c.val < d.val → (a.val < c.val ∨ a.val = c.val ∧ b.val < d.val) → rkN a.val b.val < rkN c.val d.val := by decide
theorem rk_most : ∀ a b : Fin 8, a.val < b.val → rkN a.val b.val ≤ 27 := by decide
def rkD (d : List Int) : Nat := rkN (d.getD 0 0).toNat (d.getD 1 0).toNat
theorem okD_bounds {n : Int} (hn : inB n 0 8 = true) {d : List Int} (h : okD n d = true) : 0 ≤ d.getD 0 0 ∧ d.getD 0 0 < d.getD 1 0 ∧ d.getD 1 0 ≤ 7 := by
  unfold okD at h
  rw [inB_true] at hn
  simp only [Bool.and_eq_true, inB_true, decide_eq_true_eq] at h
  omega
theorem rkD_most {n : Int} (hn : inB n 0 8 = true) {d : List Int} (h : okD n d = true) : rkD d ≤ 27 := by
  obtain ⟨h0, h1, h2⟩ := okD_bounds hn h
  exact rk_most ⟨(d.getD 0 0).toNat, by omega⟩ ⟨(d.getD 1 0).toNat, by omega⟩ (by show (d.getD 0 0).toNat < (d.getD 1 0).toNat; omega)
theorem rkD_lt {n : Int} (hn : inB n 0 8 = true) {d e : List Int} (h : okD n d = true) (k : okD n e = true) (hb : befD d e = true) : rkD d < rkD e := by
  obtain ⟨h0, h1, h2⟩ := okD_bounds hn h
  obtain ⟨k0, k1, k2⟩ := okD_bounds hn k
  unfold befD at hb
  simp only [Bool.or_eq_true, Bool.and_eq_true, decide_eq_true_eq] at hb
  refine rk_lt ⟨(d.getD 0 0).toNat, by omega⟩ ⟨(d.getD 1 0).toNat, by omega⟩ ⟨(e.getD 0 0).toNat, by omega⟩ ⟨(e.getD 1 0).toNat, by omega⟩ ?_ ?_ ?_
  · show (d.getD 0 0).toNat < (d.getD 1 0).toNat
    omega
  · show (e.getD 0 0).toNat < (e.getD 1 0).toNat
    omega
  · show (d.getD 0 0).toNat < (e.getD 0 0).toNat ∨ (d.getD 0 0).toNat = (e.getD 0 0).toNat ∧ (d.getD 1 0).toNat < (e.getD 1 0).toNat
    omega
theorem chkD_few {n : Int} (hn : inB n 0 8 = true) : ∀ (l : List (List Int)) (q : List Int), okD n q = true → chkD n (some q) l = true → rkD q + l.length ≤ 27
  | [], q, hq, _ => by
    have := rkD_most hn hq
    simpa using this
  | d :: r, q, hq, h => by
    simp only [chkD, Bool.and_eq_true] at h
    have := chkD_few hn r d h.1 h.2.2
    have hlt := rkD_lt hn hq h.1 h.2.1
    simp only [List.length_cons]
    omega
theorem keep_few {n : Int} {l : List (List Int)} {s : Int} (h : keepB n l s = true) : l.length ≤ 28 := by
  unfold keepB at h
  simp only [Bool.and_eq_true] at h
  obtain ⟨hn, -, hc⟩ := h
  cases l with
  | nil => simp
  | cons d r =>
    simp only [chkD, Bool.and_eq_true] at hc
    have := chkD_few hn r d hc.1 hc.2.2
    simp only [List.length_cons]
    omega
/-- A text taken apart at a sign. -/
def splitL (c : UInt8) : List UInt8 → List (List UInt8)
  | [] => [[]]
  | b :: r => if b = c then [] :: splitL c r else (b :: (splitL c r).headD []) :: (splitL c r).tail
theorem splitL_ne (c : UInt8) : ∀ l, splitL c l ≠ []
  | [] => by simp [splitL]
  | b :: r => by unfold splitL; split <;> simp
theorem splitL_cons_head (c : UInt8) (l : List UInt8) : ∃ x xs, splitL c l = x :: xs := by
  cases h : splitL c l with
  | nil => exact absurd h (splitL_ne c l)
  | cons x xs => exact ⟨x, xs, rfl⟩
theorem splitL_hit (c : UInt8) (r : List UInt8) : splitL c (c :: r) = [] :: splitL c r := by
  rw [splitL, if_pos rfl]
theorem splitL_miss {c b : UInt8} (h : b ≠ c) {r x : List UInt8} {xs : List (List UInt8)} (hr : splitL c r = x :: xs) : splitL c (b :: r) = (b :: x) :: xs := by
  rw [splitL, if_neg h, hr]
  rfl
theorem splitL_append (c : UInt8) : ∀ (a l : List UInt8) {x : List UInt8} {xs : List (List UInt8)}, (∀ b ∈ a, b ≠ c) → splitL c l = x :: xs → splitL c (a ++ l) = (a ++ x) :: xs
  | [], _, _, _, _, h => h
  | b :: a, l, x, xs, ha, h => by
    rw [List.cons_append, List.cons_append]
    exact splitL_miss (ha b List.mem_cons_self) (splitL_append c a l (fun q hq => ha q (List.mem_cons_of_mem _ hq)) h)
theorem splitL_none (c : UInt8) {a : List UInt8} (h : ∀ b ∈ a, b ≠ c) : splitL c a = [a] := by
  have := splitL_append c a [] (x := []) (xs := []) h rfl
  simpa using this
theorem splitL_two (c : UInt8) {a : List UInt8} (h : ∀ b ∈ a, b ≠ c) (l : List UInt8) : splitL c (a ++ c :: l) = a :: splitL c l := by
  have := splitL_append c a (c :: l) h (splitL_hit c l)
  simpa using this
/-- Put together again. -/
theorem join_splitL (c : UInt8) : ∀ l, Lib.join (splitL c l) [c] = l
  | [] => by simp [splitL, Lib.join_one]
  | b :: r => by
    have ih := join_splitL c r
    obtain ⟨x, xs, hx⟩ := splitL_cons_head c r
    by_cases h : b = c
    · subst h
      rw [splitL_hit, Lib.join_cons]
      rw [hx, Lib.join_cons] at ih
      rw [hx]
      simp only [Lib.joinTail, List.map_cons, List.flatten_cons, List.nil_append] at ih ⊢
      rw [List.append_assoc, ih]
      rfl
    · rw [splitL_miss h hx, Lib.join_cons]
      rw [hx, Lib.join_cons] at ih
      rw [List.cons_append, ih]
theorem splitL_join (c : UInt8) : ∀ (ps : List (List UInt8)), ps ≠ [] → (∀ p ∈ ps, ∀ b ∈ p, b ≠ c) → splitL c (Lib.join ps [c]) = ps
  | [], h, _ => absurd rfl h
  | [p], _, h => by rw [Lib.join_one]; exact splitL_none c (h p List.mem_cons_self)
  | p :: q :: r, _, h => by
    have ih := splitL_join c (q :: r) (by simp) (fun x hx => h x (List.mem_cons_of_mem _ hx))
    have e : Lib.join (p :: q :: r) [c] = p ++ c :: Lib.join (q :: r) [c] := by
      rw [Lib.join_cons, Lib.join_cons]
      simp [Lib.joinTail]
    rw [e, splitL_two c (h p List.mem_cons_self), ih]
theorem splitL_len (c : UInt8) : ∀ l, (splitL c l).length ≤ l.length + 1
  | [] => by simp [splitL]
  | b :: r => by
    have := splitL_len c r
    obtain ⟨x, xs, hx⟩ := splitL_cons_head c r
    rw [hx] at this
    by_cases h : b = c
    · subst h; rw [splitL_hit, hx]; simp at this ⊢; omega
    · rw [splitL_miss h hx]; simp at this ⊢; omega
theorem splitL_mem_len (c : UInt8) : ∀ l, ∀ p ∈ splitL c l, p.length ≤ l.length
  | [], p, hp => by simp [splitL] at hp; simp [hp]
  | b :: r, p, hp => by
    have ih := splitL_mem_len c r
    obtain ⟨x, xs, hx⟩ := splitL_cons_head c r
    by_cases h : b = c
    · subst h
      rw [splitL_hit] at hp
      rcases List.mem_cons.1 hp with rfl | hp
      · simp
      · have := ih p hp; simp; omega
    · rw [splitL_miss h hx] at hp
      rcases List.mem_cons.1 hp with rfl | hp
      · have := ih x (by rw [hx]; exact List.mem_cons_self); simp; omega
      · have := ih p (by rw [hx]; exact List.mem_cons_of_mem _ hp); simp; omega
theorem index_hit (c : UInt8) : ∀ (a r : List UInt8), (∀ b ∈ a, b ≠ c) → Lib.index (a ++ c :: r) [c] = (a.length : Int)
  | [], r, _ => by simp [Lib.index, List.isPrefixOf]
  | b :: a, r, h => by
    have hb : b ≠ c := h b List.mem_cons_self
    have ih := index_hit c a r (fun q hq => h q (List.mem_cons_of_mem _ hq))
    have hp : ([c] : List UInt8).isPrefixOf (b :: (a ++ c :: r)) = false := by simp [List.isPrefixOf, Ne.symm hb]
    have hq : ((a.length : Int) == -1) = false := by simp
    rw [List.cons_append, Lib.index, hp, ih, hq]
    simp
theorem index_miss (c : UInt8) : ∀ (a : List UInt8), (∀ b ∈ a, b ≠ c) → Lib.index a [c] = -1
  | [], _ => by simp [Lib.index]
  | b :: a, h => by
    have hb : b ≠ c := h b List.mem_cons_self
    have ih := index_miss c a (fun q hq => h q (List.mem_cons_of_mem _ hq))
    have hp : ([c] : List UInt8).isPrefixOf (b :: a) = false := by simp [List.isPrefixOf, Ne.symm hb]
    rw [Lib.index, hp, ih]
    simp
theorem at_sign (c : UInt8) : ∀ l : List UInt8, (∀ b ∈ l, b ≠ c) ∨ ∃ a r, l = a ++ c :: r ∧ ∀ b ∈ a, b ≠ c
  | [] => Or.inl (by simp)
  | b :: l => by
    by_cases hb : b = c
    · exact Or.inr ⟨[], l, by rw [hb]; rfl, by simp⟩
    · rcases at_sign c l with h | ⟨a, r, rfl, h⟩
      · exact Or.inl (by intro q hq; rcases List.mem_cons.1 hq with rfl | hq; exact hb; exact h q hq)
      · exact Or.inr ⟨b :: a, r, rfl, by intro q hq; rcases List.mem_cons.1 hq with rfl | hq; exact hb; exact h q hq⟩
theorem splitK_splitL (c : UInt8) : ∀ (n : Nat) (l : List UInt8), l.length ≤ n → Lib.splitK [c] 0 (Lib.count l [c]) l = splitL c l := by
  intro n
  induction n with
  | zero =>
    intro l hl
    have : l = [] := by cases l with | nil => rfl | cons _ _ => simp at hl
    subst this
    rfl
  | succ n ih =>
    intro l hl
    rcases at_sign c l with h | ⟨a, r, rfl, h⟩
    · rw [Lib.count_one, List.count_eq_zero_of_not_mem (fun hc => h c hc rfl), splitL_none c h]
      rfl
    · have e : Lib.count (a ++ c :: r) [c] = Lib.count r [c] + 1 := by
        rw [Lib.count_one, Lib.count_one, List.count_append, List.count_eq_zero_of_not_mem (fun hc => h c hc rfl), List.count_cons_self]
        omega
      have hn : ((a.length : Int) == -1) = false := by simp
      rw [e, Lib.splitK, index_hit c a r h, hn, splitL_two c h]
      have e1 : (a ++ c :: r).take ((a.length : Int).toNat + 0) = a := by simp
      have e2 : (a ++ c :: r).drop ((a.length : Int).toNat + [c].length) = r := by simp
      rw [e1, e2, ih r (by simp at hl; omega)]
      simp
theorem bs_data (s : ByteArray) : bs s.data.toList = s := Lib.mk_data s
theorem data_bs (l : List UInt8) : (bs l).data.toList = l := by simp [bs]
theorem splitB_eq (c : UInt8) (l : List UInt8) : Lib.splitB ⟨#[c]⟩ 0 (Lib.countB (bs l) ⟨#[c]⟩) (bs l) = (splitL c l).map bs := by
  have h := Lib.splitB_data ⟨#[c]⟩ 0 (Lib.countB (bs l) ⟨#[c]⟩) (bs l)
  have e : ∀ xs : List ByteArray, (xs.map (·.data.toList)).map bs = xs := by
    intro xs
    rw [List.map_map]
    conv => rhs; rw [← List.map_id xs]
    apply List.map_congr_left
    intro x _
    exact bs_data x
  rw [← e (Lib.splitB ⟨#[c]⟩ 0 (Lib.countB (bs l) ⟨#[c]⟩) (bs l)), h]
  have hc : Lib.countB (bs l) ⟨#[c]⟩ = Lib.count l [c] := by
    unfold Lib.countB
    rw [data_bs]
  rw [hc, data_bs]
  exact congrArg (List.map bs) (splitK_splitL c l.length l (Nat.le_refl _))
theorem cut_hit (c : UInt8) {a : List UInt8} (r : List UInt8) (h : ∀ b ∈ a, b ≠ c) : Lib.cut (a ++ c :: r) [c] = (a, r, true) := by
  unfold Lib.cut
  rw [index_hit c a r h, if_pos (by omega)]
  simp
theorem cut_miss (c : UInt8) {a : List UInt8} (h : ∀ b ∈ a, b ≠ c) : Lib.cut a [c] = (a, [], false) := by
  unfold Lib.cut
  rw [index_miss c a h, if_neg (by omega)]
/-- A digit. -/
def isD (b : UInt8) : Bool := decide (48 ≤ b.toNat) && decide (b.toNat ≤ 57)
theorem isD_true {b : UInt8} : isD b = true ↔ 48 ≤ b.toNat ∧ b.toNat ≤ 57 := by simp [isD]
def digN (b : UInt8) : Nat := b.toNat - 48
/-- What digits spell behind others. -/
def spellN (a : Nat) (l : List UInt8) : Nat := l.foldl (fun n b => 10 * n + digN b) a
theorem spellN_nil (a : Nat) : spellN a [] = a := rfl
theorem spellN_cons (a : Nat) (b : UInt8) (r : List UInt8) : spellN a (b :: r) = spellN (10 * a + digN b) r := by
  unfold spellN
  rw [List.foldl_cons]
theorem spellN_append (l m : List UInt8) (a : Nat) : spellN a (l ++ m) = spellN (spellN a l) m := List.foldl_append
theorem spellN_ge : ∀ (l : List UInt8) (a : Nat), a ≤ spellN a l := by
  intro l
  induction l with
  | nil => intro a; exact Nat.le_refl a
  | cons b l ih =>
    intro a
    rw [spellN_cons]
    have h := ih (10 * a + digN b)
    exact Nat.le_trans (by omega) h
theorem byte_nat {d : Nat} (h : d < 256) : (UInt8.ofNat d).toNat = d := by
  rw [UInt8.toNat_ofNat']
  omega
theorem byte_of (b : UInt8) {d : Nat} (h : b.toNat = d) : UInt8.ofNat d = b := by
  rw [← h]
  exact UInt8.ofNat_toNat
theorem dec_small {n : Nat} (h : n < 10) : Lib.decDigits n = [UInt8.ofNat (48 + n)] := by rw [Lib.decDigits, dif_pos h]
theorem dec_step {n : Nat} (h : ¬ n < 10) : Lib.decDigits n = Lib.decDigits (n / 10) ++ [UInt8.ofNat (48 + n % 10)] := by rw [Lib.decDigits, dif_neg h]
theorem dec_digits (n : Nat) : (∀ b ∈ Lib.decDigits n, isD b = true) ∧ spellN 0 (Lib.decDigits n) = n ∧ Lib.decDigits n ≠ [] ∧ ∀ r, Lib.decDigits n = 48 :: r → r = [] := by
  induction n using Nat.strongRecOn with
  | ind n ih =>
    by_cases h : n < 10
    · rw [dec_small h]
      refine ⟨?_, ?_, by simp, ?_⟩
      · intro b hb
        rw [List.mem_singleton.1 hb, isD_true, byte_nat (by omega)]
        omega
      · simp only [spellN_cons, spellN_nil, digN]
        rw [byte_nat (by omega)]
        omega
      · intro r hr
        exact (List.cons.inj hr).2.symm
    · obtain ⟨i1, i2, i3, i4⟩ := ih (n / 10) (by omega)
      rw [dec_step h]
      refine ⟨?_, ?_, by simp, ?_⟩
      · intro b hb
        rcases List.mem_append.1 hb with hb | hb
        · exact i1 b hb
        · rw [List.mem_singleton.1 hb, isD_true, byte_nat (by omega)]
          omega
      · rw [spellN_append, i2]
        simp only [spellN_cons, spellN_nil, digN]
        rw [byte_nat (by omega)]
        omega
      · intro r hr
        cases hd : Lib.decDigits (n / 10) with
        | nil => exact absurd hd i3
        | cons c q =>
          rw [hd, List.cons_append] at hr
          obtain ⟨rfl, -⟩ := List.cons.inj hr
          have hq := i4 q hd
          subst hq
          rw [hd] at i2
          have e0 : spellN 0 [48] = 0 := by decide
          omega
theorem dec_behind : ∀ (l : List UInt8) (a : Nat), 0 < a → (∀ b ∈ l, isD b = true) → Lib.decDigits (spellN a l) = Lib.decDigits a ++ l
  | [], a, _, _ => by simp [spellN_nil]
  | b :: l, a, ha, h => by
    have hb := isD_true.1 (h b List.mem_cons_self)
    rw [spellN_cons, dec_behind l _ (by unfold digN; omega) (fun q hq => h q (List.mem_cons_of_mem _ hq)), dec_step (by unfold digN; omega)]
    have e1 : (10 * a + digN b) / 10 = a := by unfold digN; omega
    have e2 : UInt8.ofNat (48 + (10 * a + digN b) % 10) = b := byte_of b (by unfold digN; omega)
    rw [e1, e2, List.append_assoc]
    rfl
/-- Digits without a useless 0 are the text of what they spell. -/
theorem dec_val {t : List UInt8} (h0 : t ≠ []) (hd : ∀ b ∈ t, isD b = true) (hz : ∀ r, t = 48 :: r → r = []) : Lib.decDigits (spellN 0 t) = t := by
  cases t with
  | nil => exact absurd rfl h0
  | cons b r =>
    have hb := isD_true.1 (hd b List.mem_cons_self)
    by_cases h48 : b = 48
    · subst h48
      have hr := hz r rfl
      subst hr
      have e0 : spellN 0 [48] = 0 := by decide
      rw [e0, dec_small (by decide)]
      rfl
    · have hp : b.toNat ≠ 48 := fun e => h48 (UInt8.toNat_inj.1 e)
      rw [spellN_cons, dec_behind r _ (by unfold digN; omega) (fun q hq => hd q (List.mem_cons_of_mem _ hq)), dec_small (by unfold digN; omega)]
      have e2 : UInt8.ofNat (48 + (10 * 0 + digN b)) = b := byte_of b (by unfold digN; omega)
      rw [e2]
      rfl
theorem parse_val : ∀ (l : List UInt8) (a : Nat), (∀ b ∈ l, isD b = true) → spellN a l < 9223372036854775808 → Lib.parseUint10 a l = .ok (spellN a l)
  | [], _, _, _ => rfl
  | b :: l, a, h, hv => by
    have hb := isD_true.1 (h b List.mem_cons_self)
    have hg := spellN_ge l (10 * a + digN b)
    rw [spellN_cons] at hv ⊢
    have e : a * 10 + (b.toNat - 48) = 10 * a + digN b := by unfold digN; omega
    rw [Lib.parseUint10, if_pos hb, if_neg (by omega), if_neg (by omega), e]
    exact parse_val l _ (fun q hq => h q (List.mem_cons_of_mem _ hq)) hv
theorem atoi_dec {n : Nat} (h : n < 9223372036854775808) : Lib.atoiAll (Lib.decDigits n) = .ok (n : Int) := by
  obtain ⟨d1, d2, d3, -⟩ := dec_digits n
  cases hd : Lib.decDigits n with
  | nil => exact absurd hd d3
  | cons c r =>
    have hc := isD_true.1 (d1 c (by rw [hd]; exact List.mem_cons_self))
    have hp := parse_val (Lib.decDigits n) 0 d1 (by omega)
    rw [d2, hd] at hp
    rw [Lib.atoiAll_plain c r (by omega) (by omega), Lib.parseMag, if_neg (by simp), hp]
    simp only [Lib.signless]
    rw [if_neg (by omega)]
theorem numT_digits (n : Int) : ∀ b ∈ numT n, isD b = true := (dec_digits n.toNat).1
theorem numT_val {n : Int} (h : 0 ≤ n) : (spellN 0 (numT n) : Int) = n := by
  have := (dec_digits n.toNat).2.1
  unfold numT
  omega
theorem numT_free (n : Int) {c : UInt8} (h : isD c = false) : ∀ b ∈ numT n, b ≠ c := by
  intro b hb e
  subst e
  rw [numT_digits n b hb] at h
  cases h
theorem bt_at (l : List UInt8) (i : Nat) (h : i < l.length) : bt (bs l) (i : Int) = ((l[i]).toNat : Int) := by
  unfold bt
  have hs : (i : Int).toNat < (bs l).size := by rw [bs_size]; omega
  rw [dif_pos hs]
  rfl
theorem bs_extract (l : List UInt8) (a b : Nat) : (bs l).extract a b = bs ((l.drop a).take (b - a)) := by
  rw [Lib.extract_eq, data_bs]
  rfl
theorem byte_eq {a b : UInt8} : ((a.toNat : Int) = (b.toNat : Int)) ↔ a = b := by
  constructor
  · intro h
    exact UInt8.toNat_inj.1 (by omega)
  · intro h
    rw [h]
theorem l1Split_l0 {t : List UInt8} (hn : t.length ≤ 1048576) {c : UInt8} : ∀ (d k i j : Nat) (ps : List ByteArray), i + d = t.length → j ≤ i → (∀ b ∈ (t.drop j).take (i - j), b ≠ c) → ps.length ≤ i → d < k →
    spec_l1Split.l0 k (bs t) (c.toNat : Int) ps (j : Int) (i : Int) = some (ps ++ (splitL c (t.drop j)).map bs) := by
  intro d
  induction d with
  | zero =>
    intro k i j ps hi hj hf hp hk
    obtain ⟨k, rfl⟩ := k_succ hk
    have hs := bs_size t
    simp only [spec_l1Split.l0]
    have e : (t.drop j).take (i - j) = t.drop j := List.take_of_length_le (by rw [List.length_drop]; omega)
    rw [e] at hf
    rw [if_neg (by omega), if_pos (by omega), if_pos (by omega), if_pos (by omega), splitL_none c hf, bs_extract, hs, List.take_of_length_le (by rw [List.length_drop]; omega)]
    rfl
  | succ d ih =>
    intro k i j ps hi hj hf hp hk
    obtain ⟨k, rfl⟩ := k_succ hk
    have hs := bs_size t
    have hlt : i < t.length := by omega
    simp only [spec_l1Split.l0]
    rw [if_pos (by omega), if_pos (by omega), bt_at t i hlt]
    by_cases hc : t[i] = c
    · rw [if_pos (byte_eq.2 hc), if_pos (by omega), if_pos (by omega), if_pos (by omega), if_pos (by omega), wrap_succ hlt (by omega), bs_extract]
      rw [ih k (i + 1) (i + 1) _ (by omega) (Nat.le_refl _) (by simp) (by rw [List.length_append]; simp; omega) (by omega)]
      have e : t.drop j = (t.drop j).take (i - j) ++ c :: t.drop (i + 1) := by
        have e1 := List.take_append_drop (i - j) (t.drop j)
        rw [List.drop_drop] at e1
        have e2 : j + (i - j) = i := by omega
        rw [e2, List.drop_eq_getElem_cons hlt, hc] at e1
        exact e1.symm
      have e3 : splitL c (t.drop j) = (t.drop j).take (i - j) :: splitL c (t.drop (i + 1)) := by
        conv => lhs; rw [e]
        exact splitL_two c hf _
      have e4 : ((i : Int)).toNat - ((j : Int)).toNat = i - j := by omega
      rw [e3, e4]
      simp
    · rw [if_neg (fun h => hc (byte_eq.1 h)), wrap_succ hlt (by omega)]
      refine ih k (i + 1) j ps (by omega) (by omega) ?_ (by omega) (by omega)
      have e : i + 1 - j = (i - j) + 1 := by omega
      have hl : i - j < (t.drop j).length := by rw [List.length_drop]; omega
      rw [e, List.take_succ_eq_append_getElem hl]
      intro b hb
      rcases List.mem_append.1 hb with hb | hb
      · exact hf b hb
      · rw [List.mem_singleton.1 hb, List.getElem_drop]
        have e2 : j + (i - j) = i := by omega
        simp only [e2]
        exact hc
theorem l1Split_eq {t : List UInt8} (hn : t.length ≤ 1048576) (c : UInt8) {k : Nat} (hk : t.length < k) : spec_l1Split.f k (bs t) (c.toNat : Int) = some ((splitL c t).map bs) := by
  unfold spec_l1Split.f
  have h := l1Split_l0 hn (c := c) t.length k 0 0 [] (by omega) (Nat.le_refl _) (by simp) (Nat.zero_le _) hk
  simpa using h
theorem rdOf_map (ps : List (List UInt8)) (i : Nat) (h : i < ps.length) : rdOf ByteArray.empty (ps.map bs) (i : Int) = bs ps[i] := by
  unfold rdOf
  rw [List.getD_eq_getElem?_getD, List.getElem?_map]
  have e : ((i : Int)).toNat = i := by omega
  rw [e, List.getElem?_eq_getElem h]
  rfl
/-- A numeral of at most six digits, else -1. -/
def readL (t : List UInt8) : Int := if 1 ≤ t.length ∧ t.length ≤ 6 then (if t.head? = some 48 ∧ 1 < t.length then -1 else if t.all isD = true then (spellN 0 t : Int) else -1) else -1
theorem l1Read_l0 {t : List UInt8} (hn : t.length ≤ 6) : ∀ (d k i v : Nat), i + d = t.length → v = spellN 0 (t.take i) → v < 10 ^ i → d < k → spec_l1Read.l0 k (bs t) (v : Int) (i : Int) = some (if (t.drop i).all isD = true then (spellN 0 t : Int) else -1) := by
  intro d
  induction d with
  | zero =>
    intro k i v hi hv hb hk
    obtain ⟨k, rfl⟩ := k_succ hk
    have hs := bs_size t
    simp only [spec_l1Read.l0]
    rw [if_neg (by omega), show i = t.length by omega, List.drop_length, hv, show i = t.length by omega, List.take_length]
    rfl
  | succ d ih =>
    intro k i v hi hv hb hk
    obtain ⟨k, rfl⟩ := k_succ hk
    have hs := bs_size t
    have hlt : i < t.length := by omega
    have hp : 10 ^ i ≤ 10 ^ 5 := Nat.pow_le_pow_right (by decide) (by omega)
    have hp2 : 10 ^ (i + 1) = 10 ^ i * 10 := Nat.pow_succ ..
    simp only [spec_l1Read.l0]
    rw [if_pos (by omega), if_pos (by omega), bt_at t i hlt, List.drop_eq_getElem_cons hlt, List.all_cons]
    have hb8 := UInt8.toNat_lt t[i]
    by_cases h1 : (t[i].toNat : Int) < 48
    · have e : isD t[i] = false := by
        unfold isD
        rw [decide_eq_false (by omega)]
        rfl
      rw [if_pos h1, e]
      rfl
    · rw [if_neg h1]
      by_cases h2 : (t[i].toNat : Int) > 57
      · have e : isD t[i] = false := by
          unfold isD
          rw [decide_eq_false (p := t[i].toNat ≤ 57) (by omega), Bool.and_false]
        rw [if_pos h2, e]
        rfl
      · have e : isD t[i] = true := isD_true.2 (by omega)
        have hg : digN t[i] = t[i].toNat - 48 := rfl
        have ev : wrap64 (wrap64 (10 * (v : Int)) + ((t[i].toNat : Int) - 48) % 256) = ((10 * v + digN t[i] : Nat) : Int) := by
          rw [wrap_id (n := 10 * (v : Int)) (by omega) (by omega), wrap_id (by omega) (by omega)]
          omega
        rw [if_neg h2, ev, wrap_succ hlt (by omega), e, Bool.true_and]
        have hb3 : ∀ P B : Nat, v < P → B ≤ 57 → 10 * v + (B - 48) < P * 10 := by intro P B h h'; omega
        have hb4 : 10 * v + digN t[i] < 10 ^ (i + 1) := by
          rw [hg, hp2]
          exact hb3 _ _ hb (by omega)
        clear hb3 hp hp2
        refine ih k (i + 1) _ (by omega) ?_ hb4 (by omega)
        rw [List.take_succ_eq_append_getElem hlt, spellN_append, ← hv, spellN_cons, spellN_nil]
theorem l1Read_eq (t : List UInt8) (hn : t.length ≤ 1048576) {k : Nat} (hk : 8 < k) : spec_l1Read.f k (bs t) = some (readL t) := by
  unfold spec_l1Read.f readL
  have hs := bs_size t
  obtain ⟨k, rfl⟩ := k_succ hk
  rw [l1In_eq, Option.bind_some]
  cases hin : inB ((bs t).size : Int) 1 6
  · have hne : ¬ (1 ≤ t.length ∧ t.length ≤ 6) := by
      intro h
      have : inB ((bs t).size : Int) 1 6 = true := inB_true.2 (by omega)
      rw [hin] at this
      cases this
    rw [if_neg (by simp), if_neg hne]
    simp only [spec_l1Read.j0]
    rw [if_pos trivial]
  · have h := inB_true.1 hin
    have h0 : 0 < t.length := by omega
    rw [if_pos rfl, if_pos (by omega), if_pos (show 1 ≤ t.length ∧ t.length ≤ 6 by omega), show bt (bs t) 0 = ((t[0]).toNat : Int) from bt_at t 0 h0]
    have hl : ∀ q, q = k → spec_l1Read.l0 q (bs t) 0 0 = some (if t.all isD = true then (spellN 0 t : Int) else -1) := by
      intro q hq
      have := l1Read_l0 (t := t) (by omega) t.length q 0 0 (by omega) rfl (by decide) (by omega)
      simpa using this
    have hh : t.head? = some t[0] := by
      cases t with
      | nil => simp at h0
      | cons b r => rfl
    by_cases h48 : t[0] = 48
    · rw [if_pos (by rw [h48]; rfl)]
      simp only [spec_l1Read.j0]
      by_cases h1 : 1 < t.length
      · rw [if_pos (by rw [decide_eq_true_iff]; omega), if_pos ⟨by rw [hh, h48], h1⟩]
      · rw [if_neg (by rw [decide_eq_true_iff]; omega), if_neg (fun q => h1 q.2), hl k rfl]
    · have hz : ¬ ((t[0].toNat : Int) = 48) := fun q => h48 (byte_eq.1 (by rw [q]; rfl))
      have hw : ¬ (t.head? = some 48 ∧ 1 < t.length) := fun q => h48 (by have := q.1; rw [hh] at this; exact Option.some.inj this)
      rw [if_neg hz, if_neg hw]
      simp only [spec_l1Read.j0]
      rw [if_neg (by simp), hl k rfl]
theorem readL_num {n : Int} (h0 : 0 ≤ n) (h1 : n < 1000000) : readL (numT n) = n := by
  have h6 := numT_6 h0 h1
  obtain ⟨d1, d2, d3, d4⟩ := dec_digits n.toNat
  have hl : 1 ≤ (numT n).length := List.length_pos_iff.2 d3
  unfold readL
  rw [if_pos ⟨hl, h6⟩, if_neg, if_pos (List.all_eq_true.2 (numT_digits n))]
  · exact numT_val h0
  · rintro ⟨q1, q2⟩
    cases hd : numT n with
    | nil => rw [hd] at q1; cases q1
    | cons b r =>
      rw [hd] at q1 q2
      obtain rfl : b = 48 := Option.some.inj q1
      have := d4 r hd
      rw [this] at q2
      simp at q2
theorem spellN_lt : ∀ (l : List UInt8) (a : Nat), (∀ b ∈ l, isD b = true) → spellN a l < (a + 1) * 10 ^ l.length := by
  intro l
  induction l with
  | nil => intro a _; rw [spellN_nil]; simp
  | cons b l ih =>
    intro a h
    have hb := isD_true.1 (h b List.mem_cons_self)
    have hd : digN b = b.toNat - 48 := rfl
    have hi := ih (10 * a + digN b) (fun q hq => h q (List.mem_cons_of_mem _ hq))
    rw [spellN_cons, List.length_cons, Nat.pow_succ]
    have hm : (10 * a + digN b + 1) * 10 ^ l.length ≤ ((a + 1) * 10) * 10 ^ l.length := Nat.mul_le_mul_right _ (by omega)
    have e : (a + 1) * (10 ^ l.length * 10) = ((a + 1) * 10) * 10 ^ l.length := by
      rw [Nat.mul_comm (10 ^ l.length) 10, Nat.mul_assoc]
    omega
theorem readL_sound {t : List UInt8} (h : 0 ≤ readL t) : numT (readL t) = t ∧ readL t < 1000000 := by
  unfold readL at h ⊢
  by_cases h1 : 1 ≤ t.length ∧ t.length ≤ 6
  · rw [if_pos h1] at h ⊢
    by_cases h2 : t.head? = some 48 ∧ 1 < t.length
    · rw [if_pos h2] at h
      omega
    · rw [if_neg h2] at h ⊢
      by_cases h3 : t.all isD = true
      · rw [if_pos h3]
        have hd : ∀ b ∈ t, isD b = true := List.all_eq_true.1 h3
        have hv := spellN_lt t 0 hd
        have hp : 10 ^ t.length ≤ 10 ^ 6 := Nat.pow_le_pow_right (by decide) h1.2
        refine ⟨?_, by omega⟩
        unfold numT
        have e : ((spellN 0 t : Nat) : Int).toNat = spellN 0 t := by omega
        rw [e]
        refine dec_val (by intro e; rw [e] at h1; simp at h1) hd ?_
        intro r hr
        cases r with
        | nil => rfl
        | cons x y => exact absurd ⟨by rw [hr]; rfl, by rw [hr]; simp⟩ h2
      · rw [if_neg h3] at h
        omega
  · rw [if_neg h1] at h
    omega
theorem toList_bs (l : List UInt8) : (bs l).toList = l := by rw [ByteArray.toList_eq, data_bs]
theorem itoa_dec {n : Int} (h : 0 ≤ n) : Lib.itoa n = numT n := by
  unfold Lib.itoa numT
  rw [if_neg (by omega)]
/-- What readNumber answers. -/
def rn (t : List UInt8) : Int × Bool := match Lib.atoiAll t with
  | .ok v => (v, decide (0 ≤ v) && (Lib.itoa v == t))
  | .range => (Lib.atoiSat t, false)
  | _ => (0, false)
theorem readNumber_eq {t : List UInt8} (hn : t.length ≤ 1048576) : impl_readNumber.f (bs t) = some (rn t) := by
  unfold impl_readNumber.f rn
  rw [if_pos (by rw [bs_size]; exact hn), data_bs]
  cases Lib.atoiAll t with
  | ok v => simp only [toList_bs]; rw [show ((⟨(Lib.itoa v).toArray⟩ : ByteArray)) = bs (Lib.itoa v) from rfl, toList_bs]
  | range => rfl
  | _ => rfl
theorem rn_num {n : Int} (h0 : 0 ≤ n) (h1 : n < 1000000) : rn (numT n) = (n, true) := by
  have h := atoi_dec (n := n.toNat) (by omega)
  unfold rn
  have e : Lib.atoiAll (numT n) = .ok n := by
    unfold numT
    rw [h]
    congr 1
    omega
  rw [e]
  simp only [itoa_dec h0]
  simp [h0]
theorem split_eq {t : List UInt8} (hn : t.length ≤ 1048576) (c : UInt8) : strings_Split.f (bs t) ⟨#[c]⟩ = some ((splitL c t).map bs) := by
  unfold strings_Split.f
  have hs := bs_size t
  have hl := splitL_len c t
  rw [if_pos (by omega), if_pos (show (1 : Nat) ≤ (⟨#[c]⟩ : ByteArray).size from Nat.le_refl 1), splitB_eq, if_pos (by rw [List.length_map]; omega)]
theorem two_or (ps : List (List UInt8)) : ps.length ≠ 2 ∨ ∃ a b, ps = [a, b] := by
  match ps with
  | [] => exact Or.inl (by simp)
  | [_] => exact Or.inl (by simp)
  | [a, b] => exact Or.inr ⟨a, b, rfl⟩
  | _ :: _ :: _ :: _ => exact Or.inl (by simp)
theorem three_or (ps : List (List UInt8)) : ps.length ≠ 3 ∨ ∃ a b c, ps = [a, b, c] := by
  match ps with
  | [] => exact Or.inl (by simp)
  | [_] => exact Or.inl (by simp)
  | [_, _] => exact Or.inl (by simp)
  | [a, b, c] => exact Or.inr ⟨a, b, c, rfl⟩
  | _ :: _ :: _ :: _ :: _ => exact Or.inl (by simp)
theorem two_back {c : UInt8} {t a b : List UInt8} (h : splitL c t = [a, b]) : t = a ++ c :: b := by
  have e := join_splitL c t
  rw [h, Lib.join_cons] at e
  simp [Lib.joinTail] at e
  exact e.symm
theorem join_free {c s : UInt8} (h44 : s ≠ c) : ∀ ps : List (List UInt8), (∀ p ∈ ps, ∀ b ∈ p, b ≠ c) → ∀ b ∈ Lib.join ps [s], b ≠ c
  | [], _, b, hb => by simp [Lib.join_nil] at hb
  | [p], h, b, hb => by rw [Lib.join_one] at hb; exact h p List.mem_cons_self b hb
  | p :: q :: r, h, b, hb => by
    have e : Lib.join (p :: q :: r) [s] = p ++ s :: Lib.join (q :: r) [s] := by
      rw [Lib.join_cons, Lib.join_cons]
      simp [Lib.joinTail]
    rw [e] at hb
    rcases List.mem_append.1 hb with hb | hb
    · exact h p List.mem_cons_self b hb
    · rcases List.mem_cons.1 hb with rfl | hb
      · exact h44
      · exact join_free h44 (q :: r) (fun x hx => h x (List.mem_cons_of_mem _ hx)) b hb
theorem markIntS_l0 {m : Nat} (hm : m ≤ 100000000) : ∀ (d k i : Nat) (l : List Int), i + d = l.length → l.length ≤ 1048576 → (∀ j, j < i → l.getD j 0 = ((m + j : Nat) : Int)) → d < k →
    ∃ l', laws_markIntS.l0 k l ((m + i : Nat) : Int) (i : Int) = some (((m + l.length : Nat) : Int), l') ∧ l'.length = l.length ∧ ∀ j, j < l.length → l'.getD j 0 = ((m + j : Nat) : Int) := by
  intro d
  induction d with
  | zero =>
    intro k i l hi hn hp hk
    obtain ⟨k, rfl⟩ := k_succ hk
    simp only [laws_markIntS.l0]
    refine ⟨l, ?_, rfl, fun j hj => hp j (by omega)⟩
    rw [if_neg (by omega), show m + i = m + l.length by omega]
  | succ d ih =>
    intro k i l hi hn hp hk
    obtain ⟨k, rfl⟩ := k_succ hk
    have hlt : i < l.length := by omega
    have e1 : wrap64 (((m + i : Nat) : Int) + 1) = ((m + (i + 1) : Nat) : Int) := by unfold wrap64; omega
    have e2 : ((i : Int)).toNat = i := by omega
    simp only [laws_markIntS.l0]
    rw [if_pos (by omega), if_pos (by omega), wrap_succ hlt (by omega), e1, e2]
    obtain ⟨l', h1, h2, h3⟩ := ih k (i + 1) (l.set i ((m + i : Nat) : Int)) (by rw [List.length_set]; omega) (by rw [List.length_set]; exact hn) (by
      intro j hj
      by_cases h : j = i
      · subst h
        rw [List.getD_eq_getElem?_getD, List.getElem?_set_self hlt]
        rfl
      · rw [List.getD_eq_getElem?_getD, List.getElem?_set_ne (Ne.symm h), ← List.getD_eq_getElem?_getD]
        exact hp j (by omega)) (by omega)
    rw [List.length_set] at h1 h2 h3
    exact ⟨l', h1, h2, h3⟩
theorem markIntS_eq {m : Nat} (hm : m ≤ 100000000) {l : List Int} (hn : l.length ≤ 1048576) {k : Nat} (hk : l.length < k) :
    ∃ l', laws_markIntS.f k l (m : Int) = some (((m + l.length : Nat) : Int), l') ∧ l'.length = l.length ∧ ∀ j, j < l.length → l'.getD j 0 = ((m + j : Nat) : Int) := by
  unfold laws_markIntS.f
  exact markIntS_l0 hm l.length k 0 l (by omega) hn (fun j hj => absurd hj (Nat.not_lt_zero j)) hk
theorem heldIntS_l0 {m : Nat} (hm : m ≤ 100000000) {l : List Int} (hn : l.length ≤ 1048576) (h : ∀ j, j < l.length → l.getD j 0 = ((m + j : Nat) : Int)) : ∀ (d k i : Nat), i + d = l.length → d < k →
    laws_heldIntS.l0 k l ((m + i : Nat) : Int) (i : Int) = some ((m + l.length : Nat) : Int) := by
  intro d
  induction d with
  | zero =>
    intro k i hi hk
    obtain ⟨k, rfl⟩ := k_succ hk
    simp only [laws_heldIntS.l0]
    rw [if_neg (by omega), show m + i = m + l.length by omega]
  | succ d ih =>
    intro k i hi hk
    obtain ⟨k, rfl⟩ := k_succ hk
    have hlt : i < l.length := by omega
    have e1 : wrap64 (((m + i : Nat) : Int) + 1) = ((m + (i + 1) : Nat) : Int) := by unfold wrap64; omega
    simp only [laws_heldIntS.l0]
    rw [if_pos (by omega), if_pos (by omega), if_pos (show rd l (i : Int) = _ from h i hlt), wrap_succ hlt (by omega), e1]
    exact ih k (i + 1) (by omega) (by omega)
theorem heldIntS_eq {m : Nat} (hm : m ≤ 100000000) {l : List Int} (hn : l.length ≤ 1048576) (h : ∀ j, j < l.length → l.getD j 0 = ((m + j : Nat) : Int)) {k : Nat} (hk : l.length < k) : laws_heldIntS.f k l (m : Int) = some ((m + l.length : Nat) : Int) := by
  unfold laws_heldIntS.f
  exact heldIntS_l0 hm hn h l.length k 0 (by omega) hk
/-- Rows that hold the numbers from m on, up to m'. -/
def HeldR : Nat → List (List Int) → Nat → Prop
  | m, [], m' => m = m'
  | m, r :: rs, m' => (∀ j, j < r.length → r.getD j 0 = ((m + j : Nat) : Int)) ∧ HeldR (m + r.length) rs m'
theorem heldR_append : ∀ (a b : List (List Int)) (m m1 m2 : Nat), HeldR m a m1 → HeldR m1 b m2 → HeldR m (a ++ b) m2
  | [], _, _, _, _, h, k => by
    have e : _ = _ := h
    subst e
    exact k
  | r :: a, b, m, m1, m2, h, k => ⟨h.1, heldR_append a b (m + r.length) m1 m2 h.2 k⟩
theorem markSS_l0 : ∀ (rest done : List (List Int)) (k m0 m : Nat), HeldR m0 done m → (∀ r ∈ rest, r.length ≤ 10) → done.length + rest.length ≤ 1000 → m + 10 * rest.length ≤ 100000 → rest.length + 12 < k →
    ∃ (m' : Nat) (rest' : List (List Int)), laws_markIntSS.l0 k (done ++ rest) (m : Int) (done.length : Int) = some ((m' : Int), done ++ rest') ∧ rest'.length = rest.length ∧ (∀ r ∈ rest', r.length ≤ 10) ∧ HeldR m0 (done ++ rest') m' ∧ m' ≤ 100000 := by
  intro rest
  induction rest with
  | nil =>
    intro done k m0 m hd hr hl hm hk
    obtain ⟨k, rfl⟩ := k_succ hk
    simp only [laws_markIntSS.l0]
    rw [List.append_nil, if_neg (by omega)]
    exact ⟨m, [], by rw [List.append_nil], rfl, by simp, by rw [List.append_nil]; exact hd, by omega⟩
  | cons r rest ih =>
    intro done k m0 m hd hr hl hm hk
    obtain ⟨k, rfl⟩ := k_succ hk
    have hr0 := hr r List.mem_cons_self
    simp only [List.length_cons] at hl hm hk
    have hlen : (done ++ r :: rest).length = done.length + (rest.length + 1) := by simp
    obtain ⟨r', e1, e2, e3⟩ := markIntS_eq (m := m) (by omega) (l := r) (by omega) (k := k) (by omega)
    have eg : (done ++ r :: rest).getD (done.length : Int).toNat [] = r := by
      rw [Int.toNat_natCast, List.getD_eq_getElem?_getD, List.getElem?_append_right (Nat.le_refl _), Nat.sub_self]
      rfl
    have es : (done ++ r :: rest).set (done.length : Int).toNat r' = (done ++ [r']) ++ rest := by
      rw [Int.toNat_natCast, List.set_append_right _ _ (Nat.le_refl _), Nat.sub_self, List.append_assoc]
      rfl
    simp only [laws_markIntSS.l0]
    rw [if_pos (by omega), if_pos (by omega), eg, e1, Option.bind_some]
    dsimp only
    rw [es, wrap_succ (n := (done ++ r :: rest).length) (by omega) (by omega)]
    have hd2 : HeldR m0 (done ++ [r']) (m + r.length) := heldR_append done [r'] m0 m _ hd ⟨by rw [e2]; exact e3, by rw [e2]; rfl⟩
    obtain ⟨m', rest', f1, f2, f3, f4, f5⟩ := ih (done ++ [r']) k m0 (m + r.length) hd2 (fun q hq => hr q (List.mem_cons_of_mem _ hq)) (by simp; omega) (by omega) (by omega)
    have hdl : (done ++ [r']).length = done.length + 1 := by simp
    rw [hdl] at f1
    refine ⟨m', r' :: rest', ?_, by simp [f2], ?_, ?_, f5⟩
    · rw [f1, List.append_assoc]
      rfl
    · intro q hq
      rcases List.mem_cons.1 hq with rfl | hq
      · omega
      · exact f3 q hq
    · rw [List.append_assoc] at f4
      exact f4
theorem heldSS_l0 {l : List (List Int)} (hn : l.length ≤ 1000) (hr : ∀ r ∈ l, r.length ≤ 10) : ∀ (d k i m m' : Nat), i + d = l.length → HeldR m (l.drop i) m' → m + 10 * d ≤ 100000 → d + 12 < k → laws_heldIntSS.l0 k l (m : Int) (i : Int) = some (m' : Int) := by
  intro d
  induction d with
  | zero =>
    intro k i m m' hi h hm hk
    obtain ⟨k, rfl⟩ := k_succ hk
    simp only [laws_heldIntSS.l0]
    rw [List.drop_of_length_le (by omega)] at h
    have e : m = m' := h
    rw [if_neg (by omega), e]
  | succ d ih =>
    intro k i m m' hi h hm hk
    obtain ⟨k, rfl⟩ := k_succ hk
    have hlt : i < l.length := by omega
    rw [getD_drop l i hlt []] at h
    have hr0 := hr _ (mem_getD hlt [])
    simp only [laws_heldIntSS.l0]
    rw [if_pos (by omega), if_pos (by omega), rd_row, heldIntS_eq (m := m) (by omega) (by omega) h.1 (by omega), Option.bind_some, if_neg (by omega), wrap_succ hlt (by omega)]
    exact ih k (i + 1) _ m' (by omega) h.2 (by omega) (by omega)
/-- Rows are marked, and then they hold the marks. -/
theorem markSS_eq {l : List (List Int)} (hn : l.length ≤ 1000) (hr : ∀ r ∈ l, r.length ≤ 10) {k : Nat} (hk : l.length + 20 < k) :
    ∃ (m : Nat) (l' : List (List Int)), laws_markIntSS.f k l 1 = some ((m : Int), l') ∧ laws_heldIntSS.f k l' 1 = some (m : Int) := by
  obtain ⟨m, l', e1, e2, e3, e4, e5⟩ := markSS_l0 l [] k 1 1 rfl hr (by simpa using hn) (by omega) (by omega)
  refine ⟨m, l', e1, ?_⟩
  exact heldSS_l0 (by omega) e3 l'.length k 0 1 m (by omega) e4 (by omega) (by omega)
theorem eqKeep_eq {n s : Int} {l : List (List Int)} (hn : l.length ≤ 1048576) (hl : ∀ x ∈ l, x.length ≤ 1048576) {k : Nat} (hk : l.length + 1048577 < k) : laws_eqKeep.f k n l s n l s = some true := by
  unfold laws_eqKeep.f
  rw [if_pos rfl, eqIntSS_eq hn hl hk]
  simp
/-- What is read of a piece of two signs. -/
def rdD (p : List UInt8) : List Int := [((p.getD 0 0).toNat : Int) - 48, ((p.getD 1 0).toNat : Int) - 48]
theorem rdD_two (a b : UInt8) : rdD [a, b] = [(a.toNat : Int) - 48, (b.toNat : Int) - 48] := rfl
theorem rdD_eq {p : List UInt8} (h : p.length = 2) : ([wrap64 ((wrap64 (bt (bs p) 0)) - 48), wrap64 ((wrap64 (bt (bs p) 1)) - 48)] : List Int) = rdD p := by
  match p, h with
  | [a, b], _ =>
    have e0 : bt (bs [a, b]) 0 = (a.toNat : Int) := bt_at [a, b] 0 (by simp)
    have e1 : bt (bs [a, b]) 1 = (b.toNat : Int) := bt_at [a, b] 1 (by simp)
    have h0 := UInt8.toNat_lt a
    have h1 := UInt8.toNat_lt b
    rw [e0, e1, rdD_two, wrap_id (n := (a.toNat : Int)) (by omega) (by omega), wrap_id (n := (b.toNat : Int)) (by omega) (by omega), wrap_id (by omega) (by omega), wrap_id (by omega) (by omega)]
theorem numT_byte {a : UInt8} (h0 : 0 ≤ (a.toNat : Int) - 48) (h1 : (a.toNat : Int) - 48 ≤ 7) : numT ((a.toNat : Int) - 48) = [a] := by
  rw [numT_small h0 (by omega)]
  have e : 48 + ((a.toNat : Int) - 48).toNat = a.toNat := by omega
  rw [e]
  exact congrArg (fun x => [x]) (byte_of a rfl)
theorem rdD_back {n : Int} (hn : inB n 0 8 = true) {p : List UInt8} (h : p.length = 2) (ho : okD n (rdD p) = true) : dgT (rdD p) = p := by
  obtain ⟨h0, h1, h2⟩ := okD_bounds hn ho
  match p, h with
  | [a, b], _ =>
    have r0 : (rdD [a, b]).getD 0 0 = (a.toNat : Int) - 48 := rfl
    have r1 : (rdD [a, b]).getD 1 0 = (b.toNat : Int) - 48 := rfl
    rw [r0, r1] at h1
    rw [r0] at h0
    rw [r1] at h2
    unfold dgT
    rw [r0, r1, numT_byte h0 (by omega), numT_byte (by omega) h2]
    rfl
theorem rdD_hit {n : Int} (hn : inB n 0 8 = true) {d : List Int} (h : okD n d = true) : (dgT d).length = 2 ∧ rdD (dgT d) = d := by
  obtain ⟨a, b, rfl⟩ := okD_two h
  obtain ⟨h0, h1, h2⟩ := okD_bounds hn h
  have r0 : ([a, b] : List Int).getD 0 0 = a := rfl
  have r1 : ([a, b] : List Int).getD 1 0 = b := rfl
  rw [r0, r1] at h1
  rw [r0] at h0
  rw [r1] at h2
  unfold dgT
  rw [r0, r1, numT_small h0 (by omega), numT_small (by omega) (by omega)]
  refine ⟨rfl, ?_⟩
  show [((UInt8.ofNat (48 + a.toNat)).toNat : Int) - 48, ((UInt8.ofNat (48 + b.toNat)).toNat : Int) - 48] = [a, b]
  rw [byte_nat (by omega), byte_nat (by omega)]
  have e0 : ((48 + a.toNat : Nat) : Int) - 48 = a := by omega
  have e1 : ((48 + b.toNat : Nat) : Int) - 48 = b := by omega
  rw [e0, e1]
theorem keep_all {n : Int} {l : List (List Int)} {s : Int} (hg : keepB n l s = true) : inB n 0 8 = true ∧ (0 ≤ n ∧ n ≤ 8) ∧ (0 ≤ s ∧ s ≤ 8) ∧ (∀ d ∈ l, okD n d = true) ∧ (∀ d ∈ l, twoD d) ∧ l.length ≤ 28 := by
  have hf := keep_few hg
  unfold keepB at hg
  simp only [Bool.and_eq_true] at hg
  obtain ⟨h1, h2, h3⟩ := hg
  exact ⟨h1, inB_true.1 h1, inB_true.1 h2, chkD_mem h3, fun d hd => okD_small h1 (chkD_mem h3 d hd), hf⟩
theorem keepT_cons (n : Int) (l : List (List Int)) (s : Int) : keepT n l s = numT n ++ 47 :: (numT s ++ 47 :: dgsT l) := by
  unfold keepT
  simp
theorem dgsT_two {l : List (List Int)} (h : ∀ d ∈ l, (dgT d).length = 2) : (dgsT l).length ≤ 3 * l.length := by
  have key : ∀ r : List (List Int), (∀ d ∈ r, (dgT d).length = 2) → (Lib.joinTail [46] (r.map dgT)).length = 3 * r.length := by
    intro r
    induction r with
    | nil => intro _; simp [Lib.joinTail]
    | cons x r ih =>
      intro hr
      have hx := hr x List.mem_cons_self
      have := ih (fun d hd => hr d (List.mem_cons_of_mem _ hd))
      have e : Lib.joinTail [46] ((x :: r).map dgT) = [46] ++ dgT x ++ Lib.joinTail [46] (r.map dgT) := by simp [Lib.joinTail]
      rw [e]
      simp only [List.length_append, List.length_cons, List.length_nil]
      omega
  cases l with
  | nil => simp [dgsT, Lib.join_nil]
  | cons x r =>
    have hx := h x List.mem_cons_self
    have := key r (fun d hd => h d (List.mem_cons_of_mem _ hd))
    unfold dgsT
    rw [List.map_cons, Lib.join_cons, List.length_append, List.length_cons]
    omega
theorem numT_1 {n : Int} (h0 : 0 ≤ n) (h1 : n ≤ 8) : (numT n).length = 1 := by
  rw [numT_small h0 (by omega)]
  rfl
theorem keepT_len {n : Int} {l : List (List Int)} {s : Int} (hg : keepB n l s = true) : (keepT n l s).length ≤ 120 := by
  obtain ⟨h1, h2, h3, h4, h5, h6⟩ := keep_all hg
  have a1 := numT_1 h2.1 h2.2
  have a2 := numT_1 h3.1 h3.2
  have a3 := dgsT_two (fun d hd => (rdD_hit h1 (h4 d hd)).1)
  rw [keepT_cons]
  simp only [List.length_append, List.length_cons]
  omega
theorem three_back {c : UInt8} {t p q r : List UInt8} (h : splitL c t = [p, q, r]) : t = p ++ c :: (q ++ c :: r) := by
  have e := join_splitL c t
  rw [h, Lib.join_cons] at e
  simp [Lib.joinTail] at e
  exact e.symm
theorem dgsT_free {c : UInt8} (hd : isD c = false) (h : (46 : UInt8) ≠ c) (l : List (List Int)) : ∀ b ∈ dgsT l, b ≠ c := by
  refine join_free h _ ?_
  intro p hp
  obtain ⟨q, -, rfl⟩ := List.mem_map.1 hp
  intro b hb
  unfold dgT at hb
  rcases List.mem_append.1 hb with hb | hb
  · exact numT_free _ hd b hb
  · exact numT_free _ hd b hb
theorem dgsT_split {l : List (List Int)} (h : l ≠ []) : splitL 46 (dgsT l) = l.map dgT := by
  unfold dgsT
  refine splitL_join 46 _ (by simpa using h) ?_
  intro p hp
  obtain ⟨x, -, rfl⟩ := List.mem_map.1 hp
  intro b hb
  unfold dgT at hb
  rcases List.mem_append.1 hb with hb | hb
  · exact numT_free _ (by decide) b hb
  · exact numT_free _ (by decide) b hb
theorem dgsT_ne {n : Int} (hn : inB n 0 8 = true) {l : List (List Int)} (h : l ≠ []) (ho : ∀ d ∈ l, okD n d = true) : dgsT l ≠ [] := by
  intro e
  cases l with
  | nil => exact absurd rfl h
  | cons d r =>
    have h2 := (rdD_hit hn (ho d List.mem_cons_self)).1
    unfold dgsT at e
    rw [List.map_cons, Lib.join_cons] at e
    have : (dgT d ++ Lib.joinTail [46] (r.map dgT)).length = 0 := by rw [e]; rfl
    rw [List.length_append] at this
    omega
/-- What a good answer is, else none. -/
def finK (n : Int) (l : List (List Int)) (s : Int) : Int × List (List Int) × Int × Bool := if keepB n l s = true then (n, l, s, true) else (0, [], 0, false)
theorem ke_end (n : Int) {l : List (List Int)} (hn : l.length ≤ 1048576) (s : Int) {k : Nat} (hk : 2 * l.length + 12 < k) :
    ((spec_keGood.f k n l s).bind fun t => (if t = true then (some (n, l, s, true)) else (some (0, ([] : List (List Int)), 0, false)))) = some (finK n l s) := by
  rw [keGood_eq n hn s hk, Option.bind_some]
  unfold finK
  cases keepB n l s <;> rfl
theorem keParse_l0 (n s : Int) {ps : List (List UInt8)} (hp : ps.length ≤ 200) : ∀ (d k i : Nat) (a : List (List Int)), i + d = ps.length → a.length ≤ i → 3 * ps.length + d + 40 < k →
    spec_keParse.l0 k (ps.map bs) (ps.length : Int) (i : Int) n a s = some (if ((ps.drop i).all fun p => decide (p.length = 2)) = true then finK n (a ++ (ps.drop i).map rdD) s else (0, [], 0, false)) := by
  intro d
  induction d with
  | zero =>
    intro k i a hi ha hk
    obtain ⟨k, rfl⟩ := k_succ hk
    simp only [spec_keParse.l0]
    rw [if_neg (by omega), List.drop_of_length_le (by omega), ke_end n (by omega) s (by omega), List.map_nil, List.append_nil]
    rfl
  | succ d ih =>
    intro k i a hi ha hk
    obtain ⟨k, rfl⟩ := k_succ hk
    have hlt : i < ps.length := by omega
    have hs := bs_size ps[i]
    simp only [spec_keParse.l0]
    rw [if_pos (by omega), if_pos (by omega), if_pos (by rw [List.length_map]; omega), rdOf_map ps i hlt, List.drop_eq_getElem_cons hlt, List.all_cons]
    by_cases h2 : ps[i].length = 2
    · rw [if_pos (by omega), if_pos (by omega), if_pos (by omega), if_pos (by omega), rdD_eq h2, wrap_succ hlt (by omega), ih k (i + 1) _ (by omega) (by rw [List.length_append]; simp; omega) (by omega), decide_eq_true h2, Bool.true_and, List.map_cons, List.append_assoc]
      rfl
    · rw [if_neg (by omega), decide_eq_false h2, Bool.false_and, if_neg (by simp)]
theorem spec_no {t : List UInt8} (hn : t.length ≤ 1048576) (h : 120 < t.length ∨ (splitL 47 t).length ≠ 3) {k : Nat} (hk : t.length + 200 < k) : spec_keParse.f k (bs t) = some (0, [], 0, false) := by
  obtain ⟨k, rfl⟩ := k_succ hk
  have hs := bs_size t
  unfold spec_keParse.f
  rw [show (47 : Int) = ((47 : UInt8).toNat : Int) from rfl, l1Split_eq (by omega) 47 (by omega), Option.bind_some]
  simp only [spec_keParse.j0]
  by_cases h60 : 120 < t.length
  · rw [if_pos (by omega), if_pos trivial]
  · have h2 : (splitL 47 t).length ≠ 3 := by rcases h with h | h; exact absurd h h60; exact h
    rw [if_neg (by omega), if_pos (by rw [List.length_map]; simp; omega)]
/-- What the model answers at three parts. -/
theorem keParse_three {t a b c : List UInt8} (hn : t.length ≤ 120) (h : splitL 47 t = [a, b, c]) {k : Nat} (hk : 1000 < k) :
    spec_keParse.f k (bs t) = some (if c = [] then finK (readL a) [] (readL b) else if ((splitL 46 c).all fun p => decide (p.length = 2)) = true then finK (readL a) ((splitL 46 c).map rdD) (readL b) else (0, [], 0, false)) := by
  obtain ⟨k, rfl⟩ := k_succ hk
  have hs := bs_size t
  have ha : a.length ≤ t.length := splitL_mem_len 47 t a (by rw [h]; simp)
  have hb : b.length ≤ t.length := splitL_mem_len 47 t b (by rw [h]; simp)
  have hc : c.length ≤ t.length := splitL_mem_len 47 t c (by rw [h]; simp)
  have hq := splitL_len 46 c
  unfold spec_keParse.f
  rw [show (47 : Int) = ((47 : UInt8).toNat : Int) from rfl, l1Split_eq (by omega) 47 (by omega), Option.bind_some, if_neg (by omega), h]
  simp only [spec_keParse.j0]
  have r0 : rdOf ByteArray.empty ([a, b, c].map bs) 0 = bs a := rdOf_map [a, b, c] 0 (by simp)
  have r1 : rdOf ByteArray.empty ([a, b, c].map bs) 1 = bs b := rdOf_map [a, b, c] 1 (by simp)
  have r2 : rdOf ByteArray.empty ([a, b, c].map bs) 2 = bs c := rdOf_map [a, b, c] 2 (by simp)
  rw [if_neg (by simp), if_pos (by simp), r0, l1Read_eq a (by omega) (by omega), Option.bind_some, if_pos (by simp), r1, l1Read_eq b (by omega) (by omega), Option.bind_some, if_pos (by simp), r2, toList_bs]
  by_cases hc0 : c = []
  · rw [if_pos hc0, if_pos hc0, ke_end (readL a) (by simp) (readL b) (by simp; omega)]
  · rw [if_neg hc0, if_neg hc0, show (46 : Int) = ((46 : UInt8).toNat : Int) from rfl, l1Split_eq (by omega) 46 (by omega), Option.bind_some, List.length_map]
    have := keParse_l0 (readL a) (readL b) (ps := splitL 46 c) (by omega) (splitL 46 c).length k 0 [] (by omega) (Nat.zero_le _) (by omega)
    simpa using this
theorem keep_back {t a b c : List UInt8} (h : splitL 47 t = [a, b, c]) {l : List (List Int)} (hg : keepB (readL a) l (readL b) = true) (hl : dgsT l = c) : t = keepT (readL a) l (readL b) := by
  obtain ⟨h1, h2, h3, h4, h5, h6⟩ := keep_all hg
  rw [keepT_cons, (readL_sound (t := a) (by omega)).1, (readL_sound (t := b) (by omega)).1, hl]
  exact three_back h
theorem map_id_of {α : Type} (f : α → α) : ∀ l : List α, (∀ x ∈ l, f x = x) → l.map f = l
  | [], _ => rfl
  | x :: r, h => by rw [List.map_cons, h x List.mem_cons_self, map_id_of f r (fun y hy => h y (List.mem_cons_of_mem _ hy))]
theorem spec_or {t : List UInt8} (hn : t.length ≤ 1048576) {k : Nat} (hk : t.length + 1000 < k) : spec_keParse.f k (bs t) = some (0, [], 0, false) ∨ ∃ n l s, keepB n l s = true ∧ t = keepT n l s := by
  by_cases h60 : 120 < t.length
  · exact Or.inl (spec_no hn (Or.inl h60) (by omega))
  rcases three_or (splitL 47 t) with h | ⟨a, b, c, h⟩
  · exact Or.inl (spec_no hn (Or.inr h) (by omega))
  · rw [keParse_three (by omega) h (by omega)]
    by_cases hc0 : c = []
    · rw [if_pos hc0]
      unfold finK
      by_cases hg : keepB (readL a) [] (readL b) = true
      · exact Or.inr ⟨_, _, _, hg, keep_back h hg (by rw [hc0]; rfl)⟩
      · rw [if_neg hg]
        exact Or.inl rfl
    · rw [if_neg hc0]
      by_cases ha : ((splitL 46 c).all fun p => decide (p.length = 2)) = true
      · rw [if_pos ha]
        unfold finK
        by_cases hg : keepB (readL a) ((splitL 46 c).map rdD) (readL b) = true
        · refine Or.inr ⟨_, _, _, hg, keep_back h hg ?_⟩
          obtain ⟨h1, h2, h3, h4, h5, h6⟩ := keep_all hg
          unfold dgsT
          rw [List.map_map, map_id_of (dgT ∘ rdD) (splitL 46 c), join_splitL]
          intro p hp
          exact rdD_back h1 (of_decide_eq_true (List.all_eq_true.1 ha p hp)) (h4 _ (List.mem_map.2 ⟨p, hp, rfl⟩))
        · rw [if_neg hg]
          exact Or.inl rfl
      · rw [if_neg ha]
        exact Or.inl rfl
theorem keep_split {n : Int} {l : List (List Int)} {s : Int} : splitL 47 (keepT n l s) = [numT n, numT s, dgsT l] := by
  rw [keepT_cons, splitL_two 47 (numT_free n (by decide)), splitL_two 47 (numT_free s (by decide)), splitL_none 47 (dgsT_free (by decide) (by decide) l)]
theorem spec_hit {n : Int} {l : List (List Int)} {s : Int} (hg : keepB n l s = true) {k : Nat} (hk : 1000 < k) : spec_keParse.f k (bs (keepT n l s)) = some (n, l, s, true) := by
  obtain ⟨h1, h2, h3, h4, h5, h6⟩ := keep_all hg
  have hfin : finK n l s = (n, l, s, true) := by unfold finK; rw [if_pos hg]
  rw [keParse_three (keepT_len hg) keep_split hk, readL_num h2.1 (by omega), readL_num h3.1 (by omega)]
  by_cases hl : l = []
  · subst hl
    rw [if_pos (by rfl), hfin]
  · rw [if_neg (dgsT_ne h1 hl h4), dgsT_split hl, if_pos, List.map_map, map_id_of (rdD ∘ dgT) l (fun d hd => (rdD_hit h1 (h4 d hd)).2), hfin]
    rw [List.all_eq_true]
    intro p hp
    obtain ⟨d, hd, rfl⟩ := List.mem_map.1 hp
    exact decide_eq_true (rdD_hit h1 (h4 d hd)).1
theorem impl_j1 (x : List UInt8) (f g : Bool) (n : Int) {l : List (List Int)} (hn : l.length ≤ 1048576) (s : Int) {k : Nat} (hk : 2 * l.length + 60 < k) :
    impl_ParseKeep.j1 k (bs x) f g n l s = some (if f = true ∧ g = true ∧ keepB n l s = true ∧ keepT n l s = x then (n, l, s, true) else (0, [], 0, false)) := by
  obtain ⟨k, rfl⟩ := k_succ hk
  simp only [impl_ParseKeep.j1]
  cases f
  · rw [if_neg (by simp), if_neg (by simp)]
  · rw [if_pos rfl]
    cases g
    · rw [if_neg (by simp), if_neg (by simp)]
    · rw [if_pos rfl, IsKeep_eq n hn s (by omega), Option.bind_some]
      cases hg : keepB n l s
      · rw [if_neg (by simp), if_neg (by simp)]
      · obtain ⟨h1, h2, h3, h4, h5, h6⟩ := keep_all hg
        rw [if_pos rfl, text_eq (by omega) h5 h2.1 (by omega) h3.1 (by omega) (by omega), Option.bind_some, toList_bs, toList_bs]
        by_cases he : keepT n l s = x
        · rw [if_pos he, if_pos ⟨rfl, rfl, rfl, he⟩]
        · rw [if_neg he, if_neg (fun h => he h.2.2.2)]
theorem impl_l0_or (x p q r : List UInt8) (f g : Bool) (n s : Int) {ps : List (List UInt8)} (hp : ps.length ≤ 1048576) : ∀ (d k i : Nat) (a : List (List Int)), i + d = ps.length → a.length ≤ i → 3 * ps.length + d + 100 < k →
    impl_ParseKeep.l0 k (bs x) ([p, q, r].map bs) f g (ps.map bs) (ps.length : Int) (i : Int) n a s = some (0, [], 0, false) ∨ ∃ n l s, keepB n l s = true ∧ x = keepT n l s := by
  have key : ∀ (k : Nat) (a : List (List Int)), a.length ≤ 1048576 → 2 * a.length + 60 < k → impl_ParseKeep.j1 k (bs x) f g n a s = some (0, [], 0, false) ∨ ∃ n l s, keepB n l s = true ∧ x = keepT n l s := by
    intro k a ha hk
    rw [impl_j1 x f g n ha s hk]
    by_cases h : f = true ∧ g = true ∧ keepB n a s = true ∧ keepT n a s = x
    · exact Or.inr ⟨n, a, s, h.2.2.1, h.2.2.2.symm⟩
    · rw [if_neg h]
      exact Or.inl rfl
  have r2 : rdOf ByteArray.empty ([p, q, r].map bs) 2 = bs r := rdOf_map [p, q, r] 2 (by simp)
  intro d
  induction d with
  | zero =>
    intro k i a hi ha hk
    obtain ⟨k, rfl⟩ := k_succ hk
    simp only [impl_ParseKeep.l0]
    rw [if_neg (by omega)]
    exact key k a (by omega) (by omega)
  | succ d ih =>
    intro k i a hi ha hk
    obtain ⟨k, rfl⟩ := k_succ hk
    have hlt : i < ps.length := by omega
    have hs := bs_size ps[i]
    simp only [impl_ParseKeep.l0]
    rw [if_pos (by omega), if_pos (by omega), if_pos (by rw [List.length_map]; omega), if_pos (by simp), r2, toList_bs]
    by_cases ht : r = []
    · rw [if_pos ht]
      exact key k a (by omega) (by omega)
    · rw [if_neg ht, rdOf_map ps i hlt]
      by_cases h2 : ps[i].length = 2
      · rw [if_pos (by omega), if_pos (by omega), if_pos (by omega), if_pos (by omega), rdD_eq h2, wrap_succ hlt (by omega)]
        exact ih k (i + 1) _ (by omega) (by rw [List.length_append]; simp; omega) (by omega)
      · rw [if_neg (by omega)]
        exact Or.inl rfl
theorem impl_or {x : List UInt8} (hn : x.length ≤ 1048576) {k : Nat} (hk : 4 * x.length + 1000 < k) : impl_ParseKeep.f k (bs x) = some (0, [], 0, false) ∨ ∃ n l s, keepB n l s = true ∧ x = keepT n l s := by
  unfold impl_ParseKeep.f
  rw [split_eq (by omega) 47, Option.bind_some]
  rcases three_or (splitL 47 x) with h | ⟨a, b, c, h⟩
  · rw [if_neg (by rw [List.length_map]; omega)]
    exact Or.inl rfl
  · have ha : a.length ≤ x.length := splitL_mem_len 47 x a (by rw [h]; simp)
    have hb : b.length ≤ x.length := splitL_mem_len 47 x b (by rw [h]; simp)
    have hc : c.length + 2 ≤ x.length := by
      rw [three_back h]
      simp
      omega
    have hq := splitL_len 46 c
    have r0 : rdOf ByteArray.empty ([a, b, c].map bs) 0 = bs a := rdOf_map [a, b, c] 0 (by simp)
    have r1 : rdOf ByteArray.empty ([a, b, c].map bs) 1 = bs b := rdOf_map [a, b, c] 1 (by simp)
    have r2 : rdOf ByteArray.empty ([a, b, c].map bs) 2 = bs c := rdOf_map [a, b, c] 2 (by simp)
    rw [h, if_pos (by simp), if_pos (by simp), r0, readNumber_eq (by omega), Option.bind_some, if_pos (by simp), r1, readNumber_eq (by omega), Option.bind_some, if_pos (by simp), r2, split_eq (by omega) 46, Option.bind_some, List.length_map]
    exact impl_l0_or x a b c _ _ _ _ (by omega) (splitL 46 c).length k 0 [] (by omega) (Nat.zero_le _) (by omega)
theorem impl_l0_hit (x p q r : List UInt8) (hr : r ≠ []) (n s : Int) (hn : inB n 0 8 = true) {l : List (List Int)} (hp : l.length ≤ 28) (hl : ∀ d ∈ l, okD n d = true) : ∀ (d k i : Nat) (f : Bool), f = true → i + d = l.length → d + 400 < k →
    impl_ParseKeep.l0 k (bs x) ([p, q, r].map bs) f f ((l.map dgT).map bs) ((l.map dgT).length : Int) (i : Int) n (l.take i) s = some (if keepB n l s = true ∧ keepT n l s = x then (n, l, s, true) else (0, [], 0, false)) := by
  have r2 : rdOf ByteArray.empty ([p, q, r].map bs) 2 = bs r := rdOf_map [p, q, r] 2 (by simp)
  intro d
  induction d with
  | zero =>
    intro k i f hf hi hk
    obtain ⟨k, rfl⟩ := k_succ hk
    simp only [impl_ParseKeep.l0]
    rw [if_neg (by rw [List.length_map]; omega), List.take_of_length_le (by omega), impl_j1 x f f n (by omega) s (by omega)]
    simp [hf]
  | succ d ih =>
    intro k i f hf hi hk
    obtain ⟨k, rfl⟩ := k_succ hk
    have hlt : i < l.length := by omega
    have hm : i < (l.map dgT).length := by rw [List.length_map]; exact hlt
    obtain ⟨d1, d2⟩ := rdD_hit hn (hl _ (List.getElem_mem hlt))
    have hs := bs_size (dgT l[i])
    simp only [impl_ParseKeep.l0]
    rw [if_pos (by omega), if_pos (by omega), if_pos (by rw [List.length_map]; omega), if_pos (by simp), r2, toList_bs, if_neg hr, rdOf_map (l.map dgT) i hm, List.getElem_map, if_pos (by omega), if_pos (by omega), if_pos (by omega), if_pos (by rw [List.length_take]; omega), rdD_eq d1, d2, wrap_succ hm (by rw [List.length_map]; omega)]
    have e : l.take i ++ [l[i]] = l.take (i + 1) := by rw [List.take_succ_eq_append_getElem hlt]
    rw [e]
    exact ih k (i + 1) f hf (by omega) (by omega)
theorem impl_hit {n : Int} {l : List (List Int)} {s : Int} (hg : keepB n l s = true) {k : Nat} (hk : 1000 < k) : impl_ParseKeep.f k (bs (keepT n l s)) = some (n, l, s, true) := by
  obtain ⟨h1, h2, h3, h4, h5, h6⟩ := keep_all hg
  have hx := keepT_len hg
  have a1 := numT_1 h2.1 h2.2
  have a2 := numT_1 h3.1 h3.2
  have a3 := dgsT_two (fun d hd => (rdD_hit h1 (h4 d hd)).1)
  have r0 : rdOf ByteArray.empty ([numT n, numT s, dgsT l].map bs) 0 = bs (numT n) := rdOf_map [numT n, numT s, dgsT l] 0 (by simp)
  have r1 : rdOf ByteArray.empty ([numT n, numT s, dgsT l].map bs) 1 = bs (numT s) := rdOf_map [numT n, numT s, dgsT l] 1 (by simp)
  have r2 : rdOf ByteArray.empty ([numT n, numT s, dgsT l].map bs) 2 = bs (dgsT l) := rdOf_map [numT n, numT s, dgsT l] 2 (by simp)
  unfold impl_ParseKeep.f
  rw [split_eq (by omega) 47, Option.bind_some, keep_split, if_pos (by simp), if_pos (by simp), r0, readNumber_eq (by omega), Option.bind_some, rn_num h2.1 (by omega), if_pos (by simp), r1, readNumber_eq (by omega), Option.bind_some, rn_num h3.1 (by omega), if_pos (by simp), r2, split_eq (by omega) 46, Option.bind_some, List.length_map]
  by_cases hl : l = []
  · subst hl
    obtain ⟨k, rfl⟩ := k_succ hk
    have e2 : splitL 46 (dgsT []) = [[]] := rfl
    rw [e2]
    simp only [impl_ParseKeep.l0]
    rw [if_pos (by simp), if_pos (by simp), if_pos (by simp), if_pos (by simp), r2, if_pos (by rw [toList_bs]; rfl), impl_j1 (keepT n [] s) true true n (by simp) s (by simp; omega), if_pos ⟨rfl, rfl, hg, rfl⟩]
  · have := impl_l0_hit (keepT n l s) (numT n) (numT s) (dgsT l) (dgsT_ne h1 hl h4) n s h1 h6 h4 l.length k 0 true rfl (by omega) (by omega)
    rw [List.take_zero] at this
    rw [dgsT_split hl]
    dsimp only
    rw [show (0 : Int) = ((0 : Nat) : Int) from rfl, this, if_pos ⟨hg, rfl⟩]
theorem both {x : List UInt8} (hn : x.length ≤ 1048576) : ∃ n l s ok, l.length ≤ 28 ∧ (∀ d ∈ l, d.length ≤ 10) ∧ (∀ k, 4 * x.length + 1000 < k → spec_ParseKeep.f k (bs x) = some (n, l, s, ok)) ∧ (∀ k, 4 * x.length + 1000 < k → impl_ParseKeep.f k (bs x) = some (n, l, s, ok)) := by
  by_cases h : ∃ n l s, keepB n l s = true ∧ x = keepT n l s
  · obtain ⟨n, l, s, hg, rfl⟩ := h
    obtain ⟨h1, h2, h3, h4, h5, h6⟩ := keep_all hg
    refine ⟨n, l, s, true, h6, fun d hd => ?_, fun k hk => ?_, fun k hk => impl_hit hg (by omega)⟩
    · obtain ⟨a, b, rfl⟩ := okD_two (h4 d hd)
      simp
    · unfold spec_ParseKeep.f
      rw [spec_hit hg (by omega)]
      rfl
  · refine ⟨0, [], 0, false, by simp, by simp, fun k hk => ?_, fun k hk => ?_⟩
    · unfold spec_ParseKeep.f
      rcases spec_or (by omega) (k := k) (by omega) with e | e
      · rw [e]
        rfl
      · exact absurd e h
    · rcases impl_or hn (k := k) (by omega) with e | e
      · exact e
      · exact absurd e h
theorem pure : ∀ (a0 : ByteArray), a0.size ≤ 9223372036854775807 → ∃ k, laws_FnExactParseKeep.f k a0 = some true := by
  intro a0 _
  obtain ⟨x, rfl⟩ : ∃ x, a0 = bs x := ⟨a0.data.toList, (bs_data a0).symm⟩
  have hs := bs_size x
  by_cases h1 : x.length ≤ 1048576
  · obtain ⟨n, l, s, ok, hl, hd, e1, e2⟩ := both h1
    obtain ⟨K, hK⟩ : ∃ K, K = 4 * x.length + 1048577 + 2000 := ⟨_, rfl⟩
    obtain ⟨m, l', m1, m2⟩ := markSS_eq (l := l) (by omega) hd (k := K) (by omega)
    refine ⟨K, ?_⟩
    unfold laws_FnExactParseKeep.f
    rw [if_neg (by omega), e1 _ (by omega), Option.bind_some, e2 _ (by omega), Option.bind_some, if_pos rfl]
    dsimp only
    rw [eqKeep_eq (by omega) (fun d h => by have := hd d h; omega) (by omega), Option.bind_some, if_pos rfl, m1, Option.bind_some]
    unfold laws_heldKeep.f
    dsimp only
    rw [m2, Option.bind_some, if_neg (by omega), Option.bind_some, if_neg (by omega), if_pos rfl]
  · refine ⟨1, ?_⟩
    unfold laws_FnExactParseKeep.f
    rw [if_pos (by omega)]

end Go.Proofs.YtpiidnmobofaeaaDoor.fnExactParseKeep
