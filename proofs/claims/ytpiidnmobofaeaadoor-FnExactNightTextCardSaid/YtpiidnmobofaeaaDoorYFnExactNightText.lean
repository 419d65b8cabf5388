/- FnExactNightText, the plain statement: what the printed functions compute makes the law's function return true. Conditions: the numbers are of their kind. -/
import Derived.Test.YtpiidnmobofaeaaDoorOpn
import Derived.Test.YtpiidnmobofaeaaDoorQFnExactNightTextx3
namespace Go.Proofs.YtpiidnmobofaeaaDoor.fnExactNightText
open Go.RowKit Go.Proofs.YtpiidnmobofaeaaDoorW.PrintWords Go.Proofs.YtpiidnmobofaeaaDoorW.PrintLast Go.Proofs.YtpiidnmobofaeaaDoorW.PrintMore Go.Proofs.YtpiidnmobofaeaaDoor.QFnExactNightText
set_option linter.unusedVariables false
set_option linter.unusedSimpArgs false

/-- x lies between a and b. -/
def inB (x a b : Int) : Bool := decide (a ≤ x) && decide (x ≤ b)
theorem inB_true {x a b : Int} : inB x a b = true ↔ a ≤ x ∧ x ≤ b := by simp [inB]
theorem wrap_id {n : Int} (h0 : -9223372036854775808 ≤ n) (h1 : n ≤ 9223372036854775807) : wrap64 n = n := by
  unfold wrap64
  omega
theorem wrap_succ {i n : Nat} (h : i < n) (hn : n ≤ 9223372036854775807) : wrap64 ((i : Int) + 1) = ((i + 1 : Nat) : Int) := by
  unfold wrap64
  omega
theorem getD_take {α : Type} (l : List α) (i : Nat) (h : i < l.length) (z : α) : l.take (i + 1) = l.take i ++ [l.getD i z] := by
  rw [List.take_succ_eq_append_getElem h, List.getD_eq_getElem?_getD, List.getElem?_eq_getElem h]
  rfl
theorem getD_drop {α : Type} (l : List α) (i : Nat) (h : i < l.length) (z : α) : l.drop i = l.getD i z :: l.drop (i + 1) := by
  rw [List.drop_eq_getElem_cons h, List.getD_eq_getElem?_getD, List.getElem?_eq_getElem h]
  rfl
theorem set_take {α : Type} (l : List α) (i : Nat) (h : i < l.length) (v : α) : (l.set i v).take (i + 1) = l.take i ++ [v] := by
  rw [List.take_succ_eq_append_getElem (by rw [List.length_set]; exact h), List.take_set_of_le (Nat.le_refl i), List.getElem_set_self]
theorem k_succ {k d : Nat} (h : d < k) : ∃ m, k = m + 1 := ⟨k - 1, by omega⟩
theorem getD_map_at {α β : Type} (f : α → β) (l : List α) (i : Nat) (h : i < l.length) (z : α) (y : β) : (l.map f).getD i y = f (l.getD i z) := by
  rw [List.getD_eq_getElem?_getD, List.getD_eq_getElem?_getD, List.getElem?_map, List.getElem?_eq_getElem h]
  rfl
/-- A text by its bytes. -/
def bs (l : List UInt8) : ByteArray := ⟨l.toArray⟩
theorem bs_app (l m : List UInt8) : bs l ++ bs m = bs (l ++ m) := by
  apply ByteArray.ext
  simp [bs, ByteArray.data_append]
theorem bs_size (l : List UInt8) : (bs l).size = l.length := by simp [bs, ByteArray.size]
theorem bs_nums (xs : List Int) : strOfNums xs = bs (xs.map fun n => UInt8.ofNat n.toNat) := rfl
theorem l1In_eq (x a b : Int) : spec_l1In.f x a b = some (inB x a b) := by
  unfold spec_l1In.f inB
  by_cases h : a ≤ x <;> simp [h]
theorem in_eq (x a b : Int) : impl_in.f x a b = some (inB x a b) := by
  unfold impl_in.f inB
  by_cases h : a ≤ x <;> simp [h]
theorem toIntS_l0 {l : List Int} (hn : l.length ≤ 9223372036854775807) : ∀ (d k i : Nat) (x : List Int), i + d = l.length → x.length = l.length → x.take i = l.take i → d < k → laws_toIntS.l0 k l x (i : Int) = some l := by
  intro d
  induction d with
  | zero =>
    intro k i x hi hx ht hk
    obtain ⟨k, rfl⟩ := k_succ hk
    simp only [laws_toIntS.l0]
    rw [if_neg (by omega)]
    rw [show i = l.length by omega, List.take_length, ← hx, List.take_length] at ht
    rw [ht]
  | succ d ih =>
    intro k i x hi hx ht hk
    obtain ⟨k, rfl⟩ := k_succ hk
    have hlt : i < l.length := by omega
    simp only [laws_toIntS.l0]
    rw [if_pos (by omega), if_pos (by omega), if_pos (by omega), wrap_succ hlt hn]
    refine ih k (i + 1) _ (by omega) (by rw [List.length_set]; exact hx) ?_ (by omega)
    rw [Int.toNat_natCast, set_take _ _ (by omega), ht, getD_take l i hlt 0]
    rfl
theorem toIntS_eq {l : List Int} (hn : l.length ≤ 1048576) {k : Nat} (hk : l.length < k) : laws_toIntS.f k l = some l := by
  unfold laws_toIntS.f
  rw [if_pos (by omega), if_pos (by omega)]
  exact toIntS_l0 (by omega) l.length k 0 _ (by omega) (by simp) (by simp) hk
theorem eqIntS_l0 {l : List Int} (hn : l.length ≤ 9223372036854775807) : ∀ (d k i : Nat), i + d = l.length → d < k → laws_eqIntS.l0 k l l (i : Int) = some true := by
  intro d
  induction d with
  | zero =>
    intro k i hi hk
    obtain ⟨k, rfl⟩ := k_succ hk
    simp only [laws_eqIntS.l0]
    rw [if_neg (by omega)]
  | succ d ih =>
    intro k i hi hk
    obtain ⟨k, rfl⟩ := k_succ hk
    have hlt : i < l.length := by omega
    simp only [laws_eqIntS.l0]
    rw [if_pos (by omega), if_pos (by omega), if_pos (by omega), if_pos trivial, wrap_succ hlt hn]
    exact ih k (i + 1) (by omega) (by omega)
theorem eqIntS_eq {l : List Int} (hn : l.length ≤ 9223372036854775807) {k : Nat} (hk : l.length < k) : laws_eqIntS.f k l l = some true := by
  unfold laws_eqIntS.f
  rw [if_pos rfl]
  exact eqIntS_l0 hn l.length k 0 (by omega) hk
theorem l1All_l0 {l : List Int} (hn : l.length ≤ 9223372036854775807) (a b : Int) : ∀ (d k i : Nat), i + d = l.length → d < k → spec_l1All.l0 k a b l (l.length : Int) (i : Int) = some ((l.drop i).all fun x => inB x a b) := by
  intro d
  induction d with
  | zero =>
    intro k i hi hk
    obtain ⟨k, rfl⟩ := k_succ hk
    simp only [spec_l1All.l0]
    rw [if_neg (by omega), show i = l.length by omega, List.drop_length]
    rfl
  | succ d ih =>
    intro k i hi hk
    obtain ⟨k, rfl⟩ := k_succ hk
    have hlt : i < l.length := by omega
    simp only [spec_l1All.l0]
    rw [if_pos (by omega), if_pos (by omega), if_pos (by omega), l1In_eq, Option.bind_some, wrap_succ hlt hn, ih k (i + 1) (by omega) (by omega), getD_drop l i hlt 0, List.all_cons]
    show (if inB (l.getD i 0) a b = true then _ else _) = _
    cases inB (l.getD i 0) a b <;> simp
theorem l1All_eq {l : List Int} (hn : l.length ≤ 9223372036854775807) (a b : Int) {k : Nat} (hk : l.length < k) : spec_l1All.f k l a b = some (l.all fun x => inB x a b) := by
  unfold spec_l1All.f
  exact l1All_l0 hn a b l.length k 0 (by omega) hk
theorem areIn_eq (l : List Int) (a b c d : Int) : impl_areIn.f l a b c d = some (inB (l.length : Int) c d && l.all fun x => inB x a b) := by
  unfold impl_areIn.f inB
  simp [List.not_any_eq_all_not]
/-- A number's text. -/
def numT (n : Int) : List UInt8 := Lib.decDigits n.toNat
theorem itoa_eq {n : Int} (h0 : 0 ≤ n) (h1 : n ≤ 9223372036854775807) : strconv_Itoa.f n = some (bs (numT n)) := by
  unfold strconv_Itoa.f Lib.itoa
  rw [if_pos (by omega), if_pos h1, if_neg (by omega)]
  rfl
theorem numT_small {n : Int} (h0 : 0 ≤ n) (h : n < 10) : numT n = [UInt8.ofNat (48 + n.toNat)] := by
  unfold numT
  rw [Lib.decDigits_one (by omega)]
theorem numT_step {n : Int} (h0 : 0 ≤ n) (h : ¬ n < 10) : numT n = numT (n / 10) ++ [UInt8.ofNat (48 + n % 10).toNat] := by
  unfold numT
  rw [Lib.decDigits, dif_neg (by omega)]
  have e1 : n.toNat / 10 = (n / 10).toNat := by omega
  have e2 : 48 + n.toNat % 10 = (48 + n % 10).toNat := by omega
  rw [e1, e2]
theorem digit_eq {n : Int} (h0 : 0 ≤ n) (h : n < 10) : strOfNums [(wrap64 (48 + n)) % 256] = bs [UInt8.ofNat (48 + n).toNat] := by
  rw [wrap_id (by omega) (by omega), bs_nums]
  have e : (48 + n) % 256 = 48 + n := by omega
  rw [e]
  rfl
theorem l1Num_eq : ∀ (d k : Nat) (n : Int), 0 ≤ n → n < 10 ^ (d + 1) → n ≤ 1000000000000 → d ≤ 100 → d < k → spec_l1Num.f k n = some (bs (numT n)) ∧ (numT n).length ≤ d + 1 := by
  intro d
  induction d with
  | zero =>
    intro k n h0 h1 _ _ hk
    obtain ⟨k, rfl⟩ := k_succ hk
    have h10 : n < 10 := by simpa using h1
    simp only [spec_l1Num.f]
    rw [if_pos h10, digit_eq h0 h10, numT_small h0 h10]
    have e : (48 + n).toNat = 48 + n.toNat := by omega
    rw [e]
    exact ⟨rfl, by simp⟩
  | succ d ih =>
    intro k n h0 h1 h9 hd hk
    obtain ⟨k, rfl⟩ := k_succ hk
    simp only [spec_l1Num.f]
    by_cases h10 : n < 10
    · rw [if_pos h10, digit_eq h0 h10, numT_small h0 h10]
      have e : (48 + n).toNat = 48 + n.toNat := by omega
      rw [e]
      exact ⟨rfl, by simp⟩
    · have e1 : Int.tdiv n 10 = n / 10 := Int.tdiv_eq_ediv_of_nonneg h0
      have e2 : Int.tmod n 10 = n % 10 := Int.tmod_eq_emod_of_nonneg h0
      have hp : (10 : Int) ^ (d + 1 + 1) = 10 * 10 ^ (d + 1) := by rw [Int.pow_succ, Int.mul_comm]
      rw [hp] at h1
      obtain ⟨q1, q2⟩ := ih k (n / 10) (by omega) (by omega) (by omega) (by omega) (by omega)
      rw [if_neg h10, e1, e2, wrap_id (by omega) (by omega), q1]
      simp only [Option.bind_some]
      rw [digit_eq (by omega) (by omega)]
      have s1 := bs_size (numT (n / 10))
      have s2 := bs_size [UInt8.ofNat (48 + n % 10).toNat]
      simp only [List.length_cons, List.length_nil] at s2
      rw [if_pos (by omega), bs_app, numT_step h0 h10]
      exact ⟨rfl, by rw [List.length_append]; simp; omega⟩
/-- Numbers of at most four digits. -/
theorem l1Num_4 {n : Int} (h0 : 0 ≤ n) (h1 : n < 10000) {k : Nat} (hk : 3 < k) : spec_l1Num.f k n = some (bs (numT n)) := (l1Num_eq 3 k n h0 (by simpa using h1) (by omega) (by decide) hk).1
theorem numT_4 {n : Int} (h0 : 0 ≤ n) (h1 : n < 10000) : (numT n).length ≤ 4 := (l1Num_eq 3 4 n h0 (by simpa using h1) (by omega) (by decide) (by decide)).2
/-- Numbers with commas between. -/
def numsT : List Int → List UInt8
  | [] => []
  | x :: r => numT x ++ Lib.joinTail [44] (r.map numT)
theorem joinTail_cons (sep : List UInt8) (x : List UInt8) (r : List (List UInt8)) : Lib.joinTail sep (x :: r) = sep ++ x ++ Lib.joinTail sep r := by simp [Lib.joinTail]
theorem joinTail_len (r : List Int) (h : ∀ x ∈ r, 0 ≤ x ∧ x < 10000) : (Lib.joinTail [44] (r.map numT)).length ≤ 5 * r.length := by
  induction r with
  | nil => simp [Lib.joinTail]
  | cons x r ih =>
    have := ih (fun y hy => h y (List.mem_cons_of_mem _ hy))
    have h4 := numT_4 (h x List.mem_cons_self).1 (h x List.mem_cons_self).2
    rw [List.map_cons, joinTail_cons]
    simp only [List.length_append, List.length_cons, List.length_nil]
    omega
theorem numsT_len (r : List Int) (h : ∀ x ∈ r, 0 ≤ x ∧ x < 10000) : (numsT r).length ≤ 5 * r.length := by
  cases r with
  | nil => simp [numsT]
  | cons x r =>
    have := joinTail_len r (fun y hy => h y (List.mem_cons_of_mem _ hy))
    have h4 := numT_4 (h x List.mem_cons_self).1 (h x List.mem_cons_self).2
    simp only [numsT, List.length_append, List.length_cons]
    omega
theorem numbers_l0 {l : List Int} (hn : l.length ≤ 1000) (h : ∀ x ∈ l, 0 ≤ x ∧ x < 10000) : ∀ (d k i : Nat), i + d = l.length → d < k →
    impl_numbers.l0 k ((l.take i).map fun x => bs (numT x)) l (l.length : Int) (i : Int) = some (bs (numsT l)) := by
  intro d
  induction d with
  | zero =>
    intro k i hi hk
    obtain ⟨k, rfl⟩ := k_succ hk
    simp only [impl_numbers.l0]
    rw [if_neg (by omega), List.take_of_length_le (by omega)]
    unfold strings_Join.f
    have e : ((l.map fun x => bs (numT x)).map (·.data.toList)) = l.map numT := by
      rw [List.map_map]
      apply List.map_congr_left
      intro x _
      simp [bs]
    have e2 : (⟨#[44]⟩ : ByteArray).data.toList = [44] := rfl
    have e3 : Lib.join (l.map numT) [44] = numsT l := by
      cases l with
      | nil => rfl
      | cons x r => rw [List.map_cons, Lib.join_cons]; rfl
    have hl := numsT_len l h
    rw [e, e2, e3, if_pos (by rw [List.length_map]; omega), if_pos (by omega)]
    rfl
  | succ d ih =>
    intro k i hi hk
    obtain ⟨k, rfl⟩ := k_succ hk
    have hlt : i < l.length := by omega
    have hx : l.getD i 0 ∈ l := by
      rw [List.getD_eq_getElem?_getD, List.getElem?_eq_getElem hlt]
      exact List.getElem_mem hlt
    have hb := h _ hx
    simp only [impl_numbers.l0]
    rw [if_pos (by omega), if_pos (by omega), if_pos (by omega)]
    show (Option.bind (strconv_Itoa.f (l.getD i 0)) _) = _
    rw [itoa_eq hb.1 (by omega), Option.bind_some, if_pos (by rw [List.length_map, List.length_take]; omega), wrap_succ hlt (by omega)]
    have e : ((l.take i).map fun x => bs (numT x)) ++ [bs (numT (l.getD i 0))] = (l.take (i + 1)).map fun x => bs (numT x) := by
      rw [getD_take l i hlt 0, List.map_append]
      rfl
    rw [e]
    exact ih k (i + 1) (by omega) (by omega)
theorem numbers_eq {l : List Int} (hn : l.length ≤ 1000) (h : ∀ x ∈ l, 0 ≤ x ∧ x < 10000) {k : Nat} (hk : l.length < k) : impl_numbers.f k l = some (bs (numsT l)) := by
  unfold impl_numbers.f
  exact numbers_l0 hn h l.length k 0 (by omega) hk
/-- The text of a party. -/
def partyT (l : List Int) (s : Int) : List UInt8 := numT s ++ [58] ++ numsT l
theorem paShown_tail {l : List Int} (hn : l.length ≤ 1000) (h : ∀ x ∈ l, 0 ≤ x ∧ x < 10000) : ∀ (d k i : Nat) (x : List UInt8), i + d = l.length → 0 < i → x.length ≤ 5 * i + 100 → d + 4 < k →
    spec_paShown.l0 k (bs x) l (l.length : Int) (i : Int) = some (bs (x ++ Lib.joinTail [44] ((l.drop i).map numT))) := by
  intro d
  induction d with
  | zero =>
    intro k i x hi hp hx hk
    obtain ⟨k, rfl⟩ := k_succ hk
    simp only [spec_paShown.l0]
    rw [if_neg (by omega), List.drop_of_length_le (by omega)]
    simp [Lib.joinTail]
  | succ d ih =>
    intro k i x hi hp hx hk
    obtain ⟨k, rfl⟩ := k_succ hk
    have hlt : i < l.length := by omega
    have hm : l.getD i 0 ∈ l := by
      rw [List.getD_eq_getElem?_getD, List.getElem?_eq_getElem hlt]
      exact List.getElem_mem hlt
    have hb := h _ hm
    have h4 := numT_4 hb.1 hb.2
    have s1 := bs_size x
    have s2 := bs_size (numT (l.getD i 0))
    simp only [spec_paShown.l0]
    rw [if_pos (by omega), if_pos (by omega), if_pos (by omega), if_pos (by omega), if_pos (by omega)]
    show (Option.bind (spec_l1Num.f k (l.getD i 0)) _) = _
    rw [l1Num_4 hb.1 hb.2 (by omega), Option.bind_some, show (⟨#[44]⟩ : ByteArray) = bs [44] from rfl, bs_app]
    have s3 := bs_size (x ++ [44])
    simp only [List.length_append, List.length_cons, List.length_nil] at s3
    rw [if_pos (by omega), bs_app, wrap_succ hlt (by omega), ih k (i + 1) _ (by omega) (by omega) (by simp only [List.length_append, List.length_cons, List.length_nil]; omega) (by omega), getD_drop l i hlt 0, List.map_cons, joinTail_cons]
    simp
theorem paShown_eq {l : List Int} (hn : l.length ≤ 1000) (h : ∀ x ∈ l, 0 ≤ x ∧ x < 10000) {s : Int} (h0 : 0 ≤ s) (h1 : s < 10000) {k : Nat} (hk : l.length + 5 < k) : spec_paShown.f k l s = some (bs (partyT l s)) := by
  unfold spec_paShown.f partyT
  have s1 := bs_size (numT s)
  have h4 := numT_4 h0 h1
  rw [l1Num_4 h0 h1 (by omega), Option.bind_some, if_pos (by omega), show (⟨#[58]⟩ : ByteArray) = bs [58] from rfl, bs_app]
  have s3 := bs_size (numT s ++ [58])
  simp only [List.length_append, List.length_cons, List.length_nil] at s3
  cases l with
  | nil =>
    obtain ⟨k, rfl⟩ := k_succ hk
    simp only [spec_paShown.l0]
    rw [if_neg (by simp)]
    simp [numsT]
  | cons x r =>
    obtain ⟨k, rfl⟩ := k_succ hk
    have hb := h x List.mem_cons_self
    have h4x := numT_4 hb.1 hb.2
    have s2 := bs_size (numT x)
    have hl : (x :: r).length = r.length + 1 := rfl
    simp only [spec_paShown.l0]
    rw [if_pos (by omega), if_pos (by omega), if_pos (by omega), if_neg (by omega)]
    show (Option.bind (spec_l1Num.f k x) _) = _
    rw [l1Num_4 hb.1 hb.2 (by omega), Option.bind_some, if_pos (by omega), bs_app, show (0 : Int) = ((0 : Nat) : Int) from rfl, wrap_succ (n := (x :: r).length) (by omega) (by omega),
      paShown_tail hn h r.length k (0 + 1) _ (by omega) (by omega) (by simp only [List.length_append, List.length_cons, List.length_nil]; omega) (by omega)]
    simp [numsT]
theorem all_in {l : List Int} {a b : Int} (h : (l.all fun x => inB x a b) = true) (ha : 0 ≤ a) (hb : b < 10000) : ∀ x ∈ l, 0 ≤ x ∧ x < 10000 := by
  intro x hx
  have := inB_true.1 (List.all_eq_true.1 h x hx)
  omega
/-- A night. -/
def nightB (l : List Int) (s t : Int) : Bool := inB (l.length : Int) 1 6 && ((l.all fun x => inB x 1 1000) && (inB s 1 3 && inB t 1 2))
theorem toGood_eq {l : List Int} (hn : l.length ≤ 9223372036854775807) (s t : Int) {k : Nat} (hk : l.length < k) : spec_toGood.f k l s t = some (nightB l s t) := by
  unfold spec_toGood.f nightB
  rw [l1In_eq, l1All_eq hn 1 1000 hk, l1In_eq, l1In_eq]
  simp only [Option.bind_some]
  cases inB (l.length : Int) 1 6 <;> cases (l.all fun x => inB x 1 1000) <;> cases inB s 1 3 <;> simp
theorem IsNight_eq (l : List Int) (s t : Int) : impl_IsNight.f l s t = some (nightB l s t) := by
  unfold impl_IsNight.f nightB
  rw [areIn_eq, in_eq, in_eq]
  simp only [Option.bind_some]
  cases inB (l.length : Int) 1 6 <;> cases (l.all fun x => inB x 1 1000) <;> cases inB s 1 3 <;> simp
theorem szNight_eq {l : List Int} {s t : Int} {b : Nat} (hb : b ≤ 1048576) (hn : l.length ≤ 9223372036854775807) : laws_szNight.f l s t (b : Int) = some (if l.length ≤ b then ((b - l.length : Nat) : Int) else -1) := by
  unfold laws_szNight.f laws_szIntS.f
  rw [wrap_id (by omega) (by omega)]
  by_cases h : l.length ≤ b
  · rw [if_neg (by omega), Option.bind_some, if_neg (by omega), if_pos h]
    congr 1
    omega
  · rw [if_pos (by omega), Option.bind_some, if_pos (by omega), if_neg h]
theorem toNight_eq {l : List Int} (hn : l.length ≤ 1048576) (s t : Int) {k : Nat} (hk : l.length < k) : laws_toNight.f k l s t = some (l, s, t) := by
  unfold laws_toNight.f
  rw [toIntS_eq hn hk]
  rfl
theorem eqNight_eq {l : List Int} (hn : l.length ≤ 9223372036854775807) (s t : Int) {k : Nat} (hk : l.length < k) : laws_eqNight.f k l s t l s t = some true := by
  unfold laws_eqNight.f
  rw [eqIntS_eq hn hk]
  simp
theorem both {l : List Int} (hl : l.length ≤ 1048576) (s t : Int) {k : Nat} (hk : l.length + 5 < k) : ∃ x, spec_NightText.f k l s t = some x ∧ impl_NightText.f k l s t = some x := by
  unfold spec_NightText.f impl_NightText.f
  rw [toGood_eq (by omega) s t (by omega), IsNight_eq]
  simp only [Option.bind_some]
  cases hg : nightB l s t
  · exact ⟨_, by rw [if_neg (by simp)], by rw [if_neg (by simp)]⟩
  · unfold nightB at hg
    simp only [Bool.and_eq_true] at hg
    obtain ⟨g1, g2, g3, g4⟩ := hg
    have hx := all_in g2 (by decide) (by decide)
    rw [inB_true] at g1 g3 g4
    have hl := numsT_len l hx
    have a1 := numT_4 (n := s) (by omega) (by omega)
    have a2 := numT_4 (n := t) (by omega) (by omega)
    rw [if_pos rfl, if_pos rfl]
    unfold spec_toText.f impl_Night_text.f
    rw [l1Num_4 (by omega) (by omega) (by omega), paShown_eq (by omega) hx (by omega) (by omega) hk, itoa_eq (by omega) (by omega), itoa_eq (by omega) (by omega), numbers_eq (by omega) hx (by omega)]
    simp only [Option.bind_some]
    rw [show (⟨#[42]⟩ : ByteArray) = bs [42] from rfl, show (⟨#[58]⟩ : ByteArray) = bs [58] from rfl]
    simp only [bs_app, bs_size, partyT, List.length_append, List.length_cons, List.length_nil]
    rw [if_pos (by omega), if_pos (by omega), if_pos (by omega), if_pos (by omega)]
    simp only [Option.bind_some]
    rw [if_pos (by omega)]
    refine ⟨_, rfl, ?_⟩
    try rw [if_pos (by omega)]
    simp [List.append_assoc]
theorem pure : ∀ (l0_0 : List Int) (a0_1 : Int) (a0_2 : Int), (∀ y0 ∈ l0_0, Opn.okI y0) → l0_0.length ≤ 9223372036854775807 → Opn.okI a0_1 → Opn.okI a0_2 → ∃ k, laws_FnExactNightText.f k l0_0 a0_1 a0_2 = some true := by
  intro l s t _ hl _ _
  obtain ⟨K, hK⟩ : ∃ K, K = l.length + 8 := ⟨_, rfl⟩
  refine ⟨K + 1, ?_⟩
  unfold laws_FnExactNightText.f
  rw [show (1048576 : Int) = ((1048576 : Nat) : Int) by rfl, szNight_eq (Nat.le_refl _) hl, Option.bind_some]
  by_cases h1 : l.length ≤ 1048576
  · obtain ⟨x, e1, e2⟩ := both h1 s t (k := K + 1) (by omega)
    rw [if_pos h1, if_neg (by omega), toNight_eq h1 s t (by omega)]
    simp only [Option.bind_some, e1, e2]
    rw [if_pos trivial]
    simp only [laws_FnExactNightText.j0]
    rw [if_neg (by simp), toNight_eq h1 s t (by omega)]
    simp only [Option.bind_some]
    rw [eqNight_eq hl s t (by omega), Option.bind_some, if_pos rfl]
  · rw [if_neg h1, if_pos (by omega)]

end Go.Proofs.YtpiidnmobofaeaaDoor.fnExactNightText
