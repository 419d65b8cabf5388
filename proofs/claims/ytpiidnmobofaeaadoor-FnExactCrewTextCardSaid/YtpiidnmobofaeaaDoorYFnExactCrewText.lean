/- FnExactCrewText, the plain statement: what the printed functions compute makes the law's function return true. Conditions: the numbers are of their kind. -/
import Derived.Test.YtpiidnmobofaeaaDoorOpn
import Derived.Test.YtpiidnmobofaeaaDoorQFnExactCrewTextx4
namespace Go.Proofs.YtpiidnmobofaeaaDoor.fnExactCrewText
open Go.RowKit Go.Proofs.YtpiidnmobofaeaaDoorW.PrintWords Go.Proofs.YtpiidnmobofaeaaDoorW.PrintLast Go.Proofs.YtpiidnmobofaeaaDoorW.PrintMore Go.Proofs.YtpiidnmobofaeaaDoor.QFnExactCrewText
set_option linter.unusedVariables false
set_option linter.unusedSimpArgs false

/-- x lies between a and b. -/
def inB (x a b : Int) : Bool := decide (a ≤ x) && decide (x ≤ b)
theorem inB_true {x a b : Int} : inB x a b = true ↔ a ≤ x ∧ x ≤ b := by simp [inB]
theorem wrap_id {n : Int} (h0 : -9223372036854775808 ≤ n) (h1 : n ≤ 9223372036854775807) : wrap64 n = n := by
  unfold wrap64
  omega
theorem wrap_succ {i n : Nat} (h : i < n) (hn : n ≤ 9223372036854775807) : wrap64 ((i : Int) + 1) = ((i + 1 : Nat) : Int) := by
  unfold wrap64
  omega
theorem getD_take {α : Type} (l : List α) (i : Nat) (h : i < l.length) (z : α) : l.take (i + 1) = l.take i ++ [l.getD i z] := by
  rw [List.take_succ_eq_append_getElem h, List.getD_eq_getElem?_getD, List.getElem?_eq_getElem h]
  rfl
theorem getD_drop {α : Type} (l : List α) (i : Nat) (h : i < l.length) (z : α) : l.drop i = l.getD i z :: l.drop (i + 1) := by
  rw [List.drop_eq_getElem_cons h, List.getD_eq_getElem?_getD, List.getElem?_eq_getElem h]
  rfl
theorem set_take {α : Type} (l : List α) (i : Nat) (h : i < l.length) (v : α) : (l.set i v).take (i + 1) = l.take i ++ [v] := by
  rw [List.take_succ_eq_append_getElem (by rw [List.length_set]; exact h), List.take_set_of_le (Nat.le_refl i), List.getElem_set_self]
theorem k_succ {k d : Nat} (h : d < k) : ∃ m, k = m + 1 := ⟨k - 1, by omega⟩
theorem getD_map_at {α β : Type} (f : α → β) (l : List α) (i : Nat) (h : i < l.length) (z : α) (y : β) : (l.map f).getD i y = f (l.getD i z) := by
  rw [List.getD_eq_getElem?_getD, List.getD_eq_getElem?_getD, List.getElem?_map, List.getElem?_eq_getElem h]
  rfl
/-- A text by its bytes. -/
def bs (l : List UInt8) : ByteArray := ⟨l.toArray⟩
theorem bs_app (l m : List UInt8) : bs l ++ bs m = bs (l ++ m) := by
  apply ByteArray.ext
  simp [bs, ByteArray.data_append]
theorem bs_size (l : List UInt8) : (bs l).size = l.length := by simp [bs, ByteArray.size]
theorem bs_nums (xs : List Int) : strOfNums xs = bs (xs.map fun n => UInt8.ofNat n.toNat) := rfl
theorem l1In_eq (x a b : Int) : spec_l1In.f x a b = some (inB x a b) := by
  unfold spec_l1In.f inB
  by_cases h : a ≤ x <;> simp [h]
theorem in_eq (x a b : Int) : impl_in.f x a b = some (inB x a b) := by
  unfold impl_in.f inB
  by_cases h : a ≤ x <;> simp [h]
theorem toIntS_l0 {l : List Int} (hn : l.length ≤ 9223372036854775807) : ∀ (d k i : Nat) (x : List Int), i + d = l.length → x.length = l.length → x.take i = l.take i → d < k → laws_toIntS.l0 k l x (i : Int) = some l := by
  intro d
  induction d with
  | zero =>
    intro k i x hi hx ht hk
    obtain ⟨k, rfl⟩ := k_succ hk
    simp only [laws_toIntS.l0]
    rw [if_neg (by omega)]
    rw [show i = l.length by omega, List.take_length, ← hx, List.take_length] at ht
    rw [ht]
  | succ d ih =>
    intro k i x hi hx ht hk
    obtain ⟨k, rfl⟩ := k_succ hk
    have hlt : i < l.length := by omega
    simp only [laws_toIntS.l0]
    rw [if_pos (by omega), if_pos (by omega), if_pos (by omega), wrap_succ hlt hn]
    refine ih k (i + 1) _ (by omega) (by rw [List.length_set]; exact hx) ?_ (by omega)
    rw [Int.toNat_natCast, set_take _ _ (by omega), ht, getD_take l i hlt 0]
    rfl
theorem toIntS_eq {l : List Int} (hn : l.length ≤ 1048576) {k : Nat} (hk : l.length < k) : laws_toIntS.f k l = some l := by
  unfold laws_toIntS.f
  rw [if_pos (by omega), if_pos (by omega)]
  exact toIntS_l0 (by omega) l.length k 0 _ (by omega) (by simp) (by simp) hk
theorem eqIntS_l0 {l : List Int} (hn : l.length ≤ 9223372036854775807) : ∀ (d k i : Nat), i + d = l.length → d < k → laws_eqIntS.l0 k l l (i : Int) = some true := by
  intro d
  induction d with
  | zero =>
    intro k i hi hk
    obtain ⟨k, rfl⟩ := k_succ hk
    simp only [laws_eqIntS.l0]
    rw [if_neg (by omega)]
  | succ d ih =>
    intro k i hi hk
    obtain ⟨k, rfl⟩ := k_succ hk
    have hlt : i < l.length := by omega
    simp only [laws_eqIntS.l0]
    rw [if_pos (by omega), if_pos (by omega), if_pos (by omega), if_pos trivial, wrap_succ hlt hn]
    exact ih k (i + 1) (by omega) (by omega)
theorem eqIntS_eq {l : List Int} (hn : l.length ≤ 9223372036854775807) {k : Nat} (hk : l.length < k) : laws_eqIntS.f k l l = some true := by
  unfold laws_eqIntS.f
  rw [if_pos rfl]
  exact eqIntS_l0 hn l.length k 0 (by omega) hk
theorem toBoolS_l0 {l : List Bool} (hn : l.length ≤ 9223372036854775807) : ∀ (d k i : Nat) (x : List Bool), i + d = l.length → x.length = l.length → x.take i = l.take i → d < k → laws_toBoolS.l0 k l x (i : Int) = some l := by
  intro d
  induction d with
  | zero =>
    intro k i x hi hx ht hk
    obtain ⟨k, rfl⟩ := k_succ hk
    simp only [laws_toBoolS.l0]
    rw [if_neg (by omega)]
    rw [show i = l.length by omega, List.take_length, ← hx, List.take_length] at ht
    rw [ht]
  | succ d ih =>
    intro k i x hi hx ht hk
    obtain ⟨k, rfl⟩ := k_succ hk
    have hlt : i < l.length := by omega
    simp only [laws_toBoolS.l0]
    rw [if_pos (by omega), if_pos (by omega), if_pos (by omega), wrap_succ hlt hn]
    refine ih k (i + 1) _ (by omega) (by rw [List.length_set]; exact hx) ?_ (by omega)
    rw [Int.toNat_natCast, set_take _ _ (by omega), ht, getD_take l i hlt false]
    rfl
theorem toBoolS_eq {l : List Bool} (hn : l.length ≤ 1048576) {k : Nat} (hk : l.length < k) : laws_toBoolS.f k l = some l := by
  unfold laws_toBoolS.f
  rw [if_pos (by omega), if_pos (by omega)]
  exact toBoolS_l0 (by omega) l.length k 0 _ (by omega) (by simp) (by simp) hk
theorem eqBoolS_l0 {l : List Bool} (hn : l.length ≤ 9223372036854775807) : ∀ (d k i : Nat), i + d = l.length → d < k → laws_eqBoolS.l0 k l l (i : Int) = some true := by
  intro d
  induction d with
  | zero =>
    intro k i hi hk
    obtain ⟨k, rfl⟩ := k_succ hk
    simp only [laws_eqBoolS.l0]
    rw [if_neg (by omega)]
  | succ d ih =>
    intro k i hi hk
    obtain ⟨k, rfl⟩ := k_succ hk
    have hlt : i < l.length := by omega
    simp only [laws_eqBoolS.l0]
    rw [if_pos (by omega), if_pos (by omega), if_pos (by omega), if_neg (by simp), wrap_succ hlt hn]
    exact ih k (i + 1) (by omega) (by omega)
theorem eqBoolS_eq {l : List Bool} (hn : l.length ≤ 9223372036854775807) {k : Nat} (hk : l.length < k) : laws_eqBoolS.f k l l = some true := by
  unfold laws_eqBoolS.f
  rw [if_pos rfl]
  exact eqBoolS_l0 hn l.length k 0 (by omega) hk
theorem l1All_l0 {l : List Int} (hn : l.length ≤ 9223372036854775807) (a b : Int) : ∀ (d k i : Nat), i + d = l.length → d < k → spec_l1All.l0 k a b l (l.length : Int) (i : Int) = some ((l.drop i).all fun x => inB x a b) := by
  intro d
  induction d with
  | zero =>
    intro k i hi hk
    obtain ⟨k, rfl⟩ := k_succ hk
    simp only [spec_l1All.l0]
    rw [if_neg (by omega), show i = l.length by omega, List.drop_length]
    rfl
  | succ d ih =>
    intro k i hi hk
    obtain ⟨k, rfl⟩ := k_succ hk
    have hlt : i < l.length := by omega
    simp only [spec_l1All.l0]
    rw [if_pos (by omega), if_pos (by omega), if_pos (by omega), l1In_eq, Option.bind_some, wrap_succ hlt hn, ih k (i + 1) (by omega) (by omega), getD_drop l i hlt 0, List.all_cons]
    show (if inB (l.getD i 0) a b = true then _ else _) = _
    cases inB (l.getD i 0) a b <;> simp
theorem l1All_eq {l : List Int} (hn : l.length ≤ 9223372036854775807) (a b : Int) {k : Nat} (hk : l.length < k) : spec_l1All.f k l a b = some (l.all fun x => inB x a b) := by
  unfold spec_l1All.f
  exact l1All_l0 hn a b l.length k 0 (by omega) hk
theorem areIn_eq (l : List Int) (a b c d : Int) : impl_areIn.f l a b c d = some (inB (l.length : Int) c d && l.all fun x => inB x a b) := by
  unfold impl_areIn.f inB
  simp [List.not_any_eq_all_not]
/-- A number's text. -/
def numT (n : Int) : List UInt8 := Lib.decDigits n.toNat
theorem itoa_eq {n : Int} (h0 : 0 ≤ n) (h1 : n ≤ 9223372036854775807) : strconv_Itoa.f n = some (bs (numT n)) := by
  unfold strconv_Itoa.f Lib.itoa
  rw [if_pos (by omega), if_pos h1, if_neg (by omega)]
  rfl
theorem numT_small {n : Int} (h0 : 0 ≤ n) (h : n < 10) : numT n = [UInt8.ofNat (48 + n.toNat)] := by
  unfold numT
  rw [Lib.decDigits_one (by omega)]
theorem numT_step {n : Int} (h0 : 0 ≤ n) (h : ¬ n < 10) : numT n = numT (n / 10) ++ [UInt8.ofNat (48 + n % 10).toNat] := by
  unfold numT
  rw [Lib.decDigits, dif_neg (by omega)]
  have e1 : n.toNat / 10 = (n / 10).toNat := by omega
  have e2 : 48 + n.toNat % 10 = (48 + n % 10).toNat := by omega
  rw [e1, e2]
theorem digit_eq {n : Int} (h0 : 0 ≤ n) (h : n < 10) : strOfNums [(wrap64 (48 + n)) % 256] = bs [UInt8.ofNat (48 + n).toNat] := by
  rw [wrap_id (by omega) (by omega), bs_nums]
  have e : (48 + n) % 256 = 48 + n := by omega
  rw [e]
  rfl
theorem l1Num_eq : ∀ (d k : Nat) (n : Int), 0 ≤ n → n < 10 ^ (d + 1) → n ≤ 1000000000000 → d ≤ 100 → d < k → spec_l1Num.f k n = some (bs (numT n)) ∧ (numT n).length ≤ d + 1 := by
  intro d
  induction d with
  | zero =>
    intro k n h0 h1 _ _ hk
    obtain ⟨k, rfl⟩ := k_succ hk
    have h10 : n < 10 := by simpa using h1
    simp only [spec_l1Num.f]
    rw [if_pos h10, digit_eq h0 h10, numT_small h0 h10]
    have e : (48 + n).toNat = 48 + n.toNat := by omega
    rw [e]
    exact ⟨rfl, by simp⟩
  | succ d ih =>
    intro k n h0 h1 h9 hd hk
    obtain ⟨k, rfl⟩ := k_succ hk
    simp only [spec_l1Num.f]
    by_cases h10 : n < 10
    · rw [if_pos h10, digit_eq h0 h10, numT_small h0 h10]
      have e : (48 + n).toNat = 48 + n.toNat := by omega
      rw [e]
      exact ⟨rfl, by simp⟩
    · have e1 : Int.tdiv n 10 = n / 10 := Int.tdiv_eq_ediv_of_nonneg h0
      have e2 : Int.tmod n 10 = n % 10 := Int.tmod_eq_emod_of_nonneg h0
      have hp : (10 : Int) ^ (d + 1 + 1) = 10 * 10 ^ (d + 1) := by rw [Int.pow_succ, Int.mul_comm]
      rw [hp] at h1
      obtain ⟨q1, q2⟩ := ih k (n / 10) (by omega) (by omega) (by omega) (by omega) (by omega)
      rw [if_neg h10, e1, e2, wrap_id (by omega) (by omega), q1]
      simp only [Option.bind_some]
      rw [digit_eq (by omega) (by omega)]
      have s1 := bs_size (numT (n / 10))
      have s2 := bs_size [UInt8.ofNat (48 + n % 10).toNat]
      simp only [List.length_cons, List.length_nil] at s2
      rw [if_pos (by omega), bs_app, numT_step h0 h10]
      exact ⟨rfl, by rw [List.length_append]; simp; omega⟩
/-- Numbers of at most four digits. -/
theorem l1Num_4 {n : Int} (h0 : 0 ≤ n) (h1 : n < 10000) {k : Nat} (hk : 3 < k) : spec_l1Num.f k n = some (bs (numT n)) := (l1Num_eq 3 k n h0 (by simpa using h1) (by omega) (by decide) hk).1
theorem numT_4 {n : Int} (h0 : 0 ≤ n) (h1 : n < 10000) : (numT n).length ≤ 4 := (l1Num_eq 3 4 n h0 (by simpa using h1) (by omega) (by decide) (by decide)).2
/-- Numbers with commas between. -/
def numsT : List Int → List UInt8
  | [] => []
  | x :: r => numT x ++ Lib.joinTail [44] (r.map numT)
theorem joinTail_cons (sep : List UInt8) (x : List UInt8) (r : List (List UInt8)) : Lib.joinTail sep (x :: r) = sep ++ x ++ Lib.joinTail sep r := by simp [Lib.joinTail]
theorem joinTail_len (r : List Int) (h : ∀ x ∈ r, 0 ≤ x ∧ x < 10000) : (Lib.joinTail [44] (r.map numT)).length ≤ 5 * r.length := by
  induction r with
  | nil => simp [Lib.joinTail]
  | cons x r ih =>
    have := ih (fun y hy => h y (List.mem_cons_of_mem _ hy))
    have h4 := numT_4 (h x List.mem_cons_self).1 (h x List.mem_cons_self).2
    rw [List.map_cons, joinTail_cons]
    simp only [List.length_append, List.length_cons, List.length_nil]
    omega
theorem numsT_len (r : List Int) (h : ∀ x ∈ r, 0 ≤ x ∧ x < 10000) : (numsT r).length ≤ 5 * r.length := by
  cases r with
  | nil => simp [numsT]
  | cons x r =>
    have := joinTail_len r (fun y hy => h y (List.mem_cons_of_mem _ hy))
    have h4 := numT_4 (h x List.mem_cons_self).1 (h x List.mem_cons_self).2
    simp only [numsT, List.length_append, List.length_cons]
    omega
theorem all_in {l : List Int} {a b : Int} (h : (l.all fun x => inB x a b) = true) (ha : 0 ≤ a) (hb : b < 10000) : ∀ x ∈ l, 0 ≤ x ∧ x < 10000 := by
  intro x hx
  have := inB_true.1 (List.all_eq_true.1 h x hx)
  omega
theorem mem_getD {α : Type} {l : List α} {i : Nat} (h : i < l.length) (z : α) : l.getD i z ∈ l := by
  rw [List.getD_eq_getElem?_getD, List.getElem?_eq_getElem h]
  exact List.getElem_mem h
/-- A member's text: the weight, and a letter for one who rows. -/
def crT (p : Int × Bool) : List UInt8 := numT p.1 ++ (if p.2 = true then [114] else [])
theorem crT_len {p : Int × Bool} (h0 : 0 ≤ p.1) (h1 : p.1 < 10000) : (crT p).length ≤ 5 := by
  have := numT_4 h0 h1
  unfold crT
  split <;> simp <;> omega
theorem zip_getD {l : List Int} {o : List Bool} {i : Nat} (h : i < l.length) (h2 : i < o.length) : (l.zip o).getD i (0, false) = (l.getD i 0, o.getD i false) := by
  have hz : i < (l.zip o).length := by rw [List.length_zip]; omega
  rw [List.getD_eq_getElem?_getD, List.getD_eq_getElem?_getD, List.getD_eq_getElem?_getD, List.getElem?_eq_getElem hz, List.getElem?_eq_getElem h, List.getElem?_eq_getElem h2]
  simp
/-- Members with commas between. -/
def crewsT (z : List (Int × Bool)) : List UInt8 := Lib.join (z.map crT) [44]
theorem crTail_len (r : List (Int × Bool)) (h : ∀ c ∈ r, 0 ≤ c.1 ∧ c.1 < 10000) : (Lib.joinTail [44] (r.map crT)).length ≤ 6 * r.length := by
  induction r with
  | nil => simp [Lib.joinTail]
  | cons x r ih =>
    have := ih (fun y hy => h y (List.mem_cons_of_mem _ hy))
    have h4 := crT_len (h x List.mem_cons_self).1 (h x List.mem_cons_self).2
    rw [List.map_cons, joinTail_cons]
    simp only [List.length_append, List.length_cons, List.length_nil]
    omega
theorem crewsT_len (r : List (Int × Bool)) (h : ∀ c ∈ r, 0 ≤ c.1 ∧ c.1 < 10000) : (crewsT r).length ≤ 6 * r.length := by
  cases r with
  | nil => simp [crewsT, Lib.join_nil]
  | cons x r =>
    have := crTail_len r (fun y hy => h y (List.mem_cons_of_mem _ hy))
    have h4 := crT_len (h x List.mem_cons_self).1 (h x List.mem_cons_self).2
    rw [crewsT, List.map_cons, Lib.join_cons]
    simp only [List.length_append, List.length_cons]
    omega
/-- The text of a crew. -/
def crewT (l : List Int) (o : List Bool) (s : Int) : List UInt8 := numT s ++ [61] ++ crewsT (l.zip o)
theorem zip_small {l : List Int} {o : List Bool} (h : ∀ x ∈ l, 0 ≤ x ∧ x < 10000) : ∀ c ∈ l.zip o, 0 ≤ c.1 ∧ c.1 < 10000 := by
  rintro ⟨a, b⟩ hc
  exact h _ (List.of_mem_zip hc).1
theorem loText_tail {l : List Int} {o : List Bool} (ho : o.length = l.length) (hn : l.length ≤ 1000) (h : ∀ x ∈ l, 0 ≤ x ∧ x < 10000) (s : Int) : ∀ (d k i : Nat) (x : List UInt8), i + d = l.length → 0 < i → x.length ≤ 6 * i + 100 → d + 4 < k →
    spec_loText.l0 k (bs x) l (l.length : Int) (i : Int) l o s = some (bs (x ++ Lib.joinTail [44] (((l.zip o).drop i).map crT))) := by
  intro d
  induction d with
  | zero =>
    intro k i x hi hp hx hk
    obtain ⟨k, rfl⟩ := k_succ hk
    simp only [spec_loText.l0]
    rw [if_neg (by omega), List.drop_of_length_le (by rw [List.length_zip]; omega)]
    simp [Lib.joinTail]
  | succ d ih =>
    intro k i x hi hp hx hk
    obtain ⟨k, rfl⟩ := k_succ hk
    have hlt : i < l.length := by omega
    have hb := h _ (mem_getD hlt 0)
    have h4 := numT_4 hb.1 hb.2
    have hc4 := crT_len (p := (l.getD i 0, o.getD i false)) hb.1 hb.2
    have hstep := ih k (i + 1) (x ++ [44] ++ crT (l.getD i 0, o.getD i false)) (by omega) (by omega) (by simp only [List.length_append, List.length_cons, List.length_nil]; omega) (by omega)
    rw [getD_drop (l.zip o) i (by rw [List.length_zip]; omega) (0, false), zip_getD hlt (by omega), List.map_cons, joinTail_cons]
    simp only [spec_loText.l0, rd, rdOf, Int.toNat_natCast]
    rw [wrap_succ hlt (by omega), l1Num_4 hb.1 hb.2 (by omega)]
    simp only [Option.bind_some]
    rw [show (⟨#[44]⟩ : ByteArray) = bs [44] from rfl, show (⟨#[114]⟩ : ByteArray) = bs [114] from rfl]
    simp only [bs_app, bs_size, List.length_append, List.length_cons, List.length_nil]
    rw [if_pos (by omega), if_pos (by omega), if_pos (by omega), if_pos (by omega), if_pos (by omega), if_pos (by omega), if_pos (by omega)]
    refine Eq.trans ?_ (hstep.trans ?_)
    · cases o.getD i false
      · rw [if_neg (by simp)]
        simp [crT]
      · rw [if_pos rfl, if_pos (by omega)]
        simp [crT]
    · simp
theorem loText_eq {l : List Int} {o : List Bool} (ho : o.length = l.length) (hn : l.length ≤ 1000) (h : ∀ x ∈ l, 0 ≤ x ∧ x < 10000) {s : Int} (h0 : 0 ≤ s) (h1 : s < 10000) {k : Nat} (hk : l.length + 5 < k) : spec_loText.f k l o s = some (bs (crewT l o s)) := by
  unfold spec_loText.f crewT
  have s1 := bs_size (numT s)
  have h4 := numT_4 h0 h1
  rw [l1Num_4 h0 h1 (by omega), Option.bind_some, if_pos (by omega), show (⟨#[61]⟩ : ByteArray) = bs [61] from rfl, bs_app]
  cases l with
  | nil =>
    obtain ⟨k, rfl⟩ := k_succ hk
    simp only [spec_loText.l0]
    rw [if_neg (by simp)]
    simp [crewsT, Lib.join_nil]
  | cons c r =>
    obtain ⟨k, rfl⟩ := k_succ hk
    obtain ⟨b, r2, rfl⟩ : ∃ b r2, o = b :: r2 := by
      cases o with
      | nil => simp at ho
      | cons b r2 => exact ⟨b, r2, rfl⟩
    have hb := h c List.mem_cons_self
    have h4x := numT_4 hb.1 hb.2
    have hc4 := crT_len (p := (c, b)) hb.1 hb.2
    have hl : (c :: r).length = r.length + 1 := rfl
    have hl2 : (b :: r2).length = r2.length + 1 := rfl
    have hstep := loText_tail ho hn h s r.length k (0 + 1) (numT s ++ [61] ++ crT (c, b)) (by omega) (by omega) (by simp only [List.length_append, List.length_cons, List.length_nil]; omega) (by omega)
    simp only [spec_loText.l0]
    rw [show (0 : Int) = ((0 : Nat) : Int) from rfl, show rd (c :: r) ((0 : Nat) : Int) = c from rfl, show rdOf false (b :: r2) ((0 : Nat) : Int) = b from rfl]
    rw [wrap_succ (n := (c :: r).length) (by omega) (by omega), l1Num_4 hb.1 hb.2 (by omega)]
    simp only [Option.bind_some]
    rw [show (⟨#[114]⟩ : ByteArray) = bs [114] from rfl]
    simp only [bs_app, bs_size, List.length_append, List.length_cons, List.length_nil] at hstep ⊢
    rw [if_pos (by omega), if_pos (by omega), if_pos (by omega), if_neg (by omega), if_pos (by omega), if_pos (by omega)]
    refine Eq.trans ?_ (hstep.trans ?_)
    · cases b
      · rw [if_neg (by simp)]
        simp [crT]
      · rw [if_pos rfl, if_pos (by omega)]
        simp [crT]
    · rw [crewsT, List.zip_cons_cons, List.map_cons, Lib.join_cons]
      simp
theorem repeat_eq (b : Bool) : (impl_bit.f b).bind (fun t => strings_Repeat.f (⟨#[114]⟩ : ByteArray) t) = some (bs (if b = true then [114] else [])) := by
  cases b
  · simp [impl_bit.f, strings_Repeat.f, bs]
  · simp [impl_bit.f, strings_Repeat.f, bs]
theorem crew_l0 {l : List Int} {o : List Bool} (ho : o.length = l.length) (hn : l.length ≤ 1000) (h : ∀ x ∈ l, 0 ≤ x ∧ x < 10000) {s : Int} (h0 : 0 ≤ s) (h1 : s < 10000) : ∀ (d k i : Nat), i + d = l.length → d < k →
    impl_Crew_text.l0 k (((l.zip o).take i).map fun c => bs (crT c)) l (l.length : Int) (i : Int) l o s = some (bs (crewT l o s)) := by
  intro d
  have hzl : (l.zip o).length = l.length := by rw [List.length_zip]; omega
  induction d with
  | zero =>
    intro k i hi hk
    obtain ⟨k, rfl⟩ := k_succ hk
    simp only [impl_Crew_text.l0]
    rw [if_neg (by omega), List.take_of_length_le (by omega), itoa_eq h0 (by omega)]
    unfold strings_Join.f
    have e : (((l.zip o).map fun c => bs (crT c)).map (·.data.toList)) = (l.zip o).map crT := by
      rw [List.map_map]
      apply List.map_congr_left
      intro x _
      simp [bs]
    have e2 : (⟨#[44]⟩ : ByteArray).data.toList = [44] := rfl
    have hl := crewsT_len (l.zip o) (zip_small h)
    have h4 := numT_4 h0 h1
    rw [e, e2, show Lib.join ((l.zip o).map crT) [44] = crewsT (l.zip o) from rfl, if_pos (c := ((l.zip o).map fun c => bs (crT c)).length ≤ 140737488355328) (by rw [List.length_map]; omega), if_pos (c := (crewsT (l.zip o)).length ≤ 140737488355328) (by omega)]
    simp only [Option.bind_some]
    rw [show (⟨#[61]⟩ : ByteArray) = bs [61] from rfl, show (⟨(crewsT (l.zip o)).toArray⟩ : ByteArray) = bs (crewsT (l.zip o)) from rfl]
    simp only [bs_app, bs_size, List.length_append, List.length_cons, List.length_nil]
    rw [if_pos (by omega), if_pos (by omega)]
    rfl
  | succ d ih =>
    intro k i hi hk
    obtain ⟨k, rfl⟩ := k_succ hk
    have hlt : i < l.length := by omega
    have hb := h _ (mem_getD hlt 0)
    have h4 := numT_4 hb.1 hb.2
    have hstep := ih k (i + 1) (by omega) (by omega)
    rw [getD_take (l.zip o) i (by omega) (0, false), zip_getD hlt (by omega), List.map_append] at hstep
    simp only [impl_Crew_text.l0, rd, rdOf, Int.toNat_natCast]
    have hl2 : (((l.zip o).take i).map fun c => bs (crT c)).length = i := by rw [List.length_map, List.length_take]; omega
    rw [wrap_succ hlt (by omega), hl2, itoa_eq hb.1 (by omega)]
    simp only [Option.bind_some]
    rw [if_pos (by omega), if_pos (by omega), if_pos (by omega), if_pos (by omega)]
    have hr := repeat_eq (o.getD i false)
    obtain ⟨t, ht, hr2⟩ := Option.bind_eq_some_iff.mp hr
    rw [ht, Option.bind_some, hr2, Option.bind_some]
    simp only [bs_app, bs_size]
    rw [if_pos (by split <;> (simp only [List.length_cons, List.length_nil]; omega)), if_pos (by omega)]
    exact hstep
theorem crew_eq {l : List Int} {o : List Bool} (ho : o.length = l.length) (hn : l.length ≤ 1000) (h : ∀ x ∈ l, 0 ≤ x ∧ x < 10000) {s : Int} (h0 : 0 ≤ s) (h1 : s < 10000) {k : Nat} (hk : l.length < k) : impl_Crew_text.f k l o s = some (bs (crewT l o s)) := by
  unfold impl_Crew_text.f
  exact crew_l0 ho hn h h0 h1 l.length k 0 (by omega) hk
/-- A crew. -/
def crewB (l : List Int) (o : List Bool) (s : Int) : Bool := inB (l.length : Int) 1 7 && (decide (o.length = l.length) && ((l.all fun x => inB x 1 500) && inB s 0 2000))
theorem loGood_eq {l : List Int} (hn : l.length ≤ 9223372036854775807) (o : List Bool) (s : Int) {k : Nat} (hk : l.length < k) : spec_loGood.f k l o s = some (crewB l o s) := by
  unfold spec_loGood.f crewB
  rw [l1In_eq, l1All_eq hn 1 500 hk, l1In_eq]
  simp only [Option.bind_some]
  by_cases he : o.length = l.length
  · have : (o.length : Int) = (l.length : Int) := by omega
    rw [if_pos this]
    cases inB (l.length : Int) 1 7 <;> cases (l.all fun x => inB x 1 500) <;> simp [he]
  · have : ¬ (o.length : Int) = (l.length : Int) := by omega
    rw [if_neg this]
    cases inB (l.length : Int) 1 7 <;> simp [he]
theorem IsCrew_eq (l : List Int) (o : List Bool) (s : Int) : impl_IsCrew.f l o s = some (crewB l o s) := by
  unfold impl_IsCrew.f crewB
  rw [areIn_eq, in_eq]
  simp only [Option.bind_some]
  by_cases he : o.length = l.length
  · have : (o.length : Int) = (l.length : Int) := by omega
    rw [if_pos this]
    cases inB (l.length : Int) 1 7 <;> cases (l.all fun x => inB x 1 500) <;> simp [he]
  · have : ¬ (o.length : Int) = (l.length : Int) := by omega
    rw [if_neg this]
    cases inB (l.length : Int) 1 7 <;> cases (l.all fun x => inB x 1 500) <;> simp [he]
theorem szCrew_eq {l : List Int} {o : List Bool} {s : Int} (hn : l.length ≤ 9223372036854775807) (hm : o.length ≤ 9223372036854775807) : ∃ z, laws_szCrew.f l o s 1048576 = some z ∧ (z < 0 ∨ l.length + o.length ≤ 1048576) := by
  unfold laws_szCrew.f laws_szIntS.f laws_szBoolS.f
  rw [wrap_id (n := 1048576 - (l.length : Int)) (by omega) (by omega)]
  by_cases h : l.length ≤ 1048576
  · rw [if_neg (by omega), Option.bind_some, if_neg (by omega)]
    rw [wrap_id (n := 1048576 - (l.length : Int) - (o.length : Int)) (by omega) (by omega)]
    by_cases h2 : l.length + o.length ≤ 1048576
    · rw [if_neg (by omega), Option.bind_some, if_neg (by omega)]
      exact ⟨_, rfl, .inr h2⟩
    · rw [if_pos (by omega), Option.bind_some, if_pos (by omega)]
      exact ⟨_, rfl, .inl (by omega)⟩
  · rw [if_pos (by omega), Option.bind_some, if_pos (by omega)]
    exact ⟨_, rfl, .inl (by omega)⟩
theorem toCrew_eq {l : List Int} (hn : l.length ≤ 1048576) {o : List Bool} (hm : o.length ≤ 1048576) (s : Int) {k : Nat} (hk : l.length < k) (hk2 : o.length < k) : laws_toCrew.f k l o s = some (l, o, s) := by
  unfold laws_toCrew.f
  rw [toIntS_eq hn hk, Option.bind_some, toBoolS_eq hm hk2]
  rfl
theorem eqCrew_eq {l : List Int} (hn : l.length ≤ 9223372036854775807) {o : List Bool} (hm : o.length ≤ 9223372036854775807) (s : Int) {k : Nat} (hk : l.length < k) (hk2 : o.length < k) : laws_eqCrew.f k l o s l o s = some true := by
  unfold laws_eqCrew.f
  rw [eqIntS_eq hn hk, Option.bind_some, if_pos rfl, eqBoolS_eq hm hk2]
  simp
theorem both {l : List Int} (hl : l.length ≤ 1048576) (o : List Bool) (s : Int) {k : Nat} (hk : l.length + 5 < k) : ∃ x, spec_CrewText.f k l o s = some x ∧ impl_CrewText.f k l o s = some x := by
  unfold spec_CrewText.f impl_CrewText.f
  rw [loGood_eq (by omega) o s (by omega), IsCrew_eq]
  simp only [Option.bind_some]
  cases hg : crewB l o s
  · exact ⟨_, by rw [if_neg (by simp)], by rw [if_neg (by simp)]⟩
  · unfold crewB at hg
    simp only [Bool.and_eq_true, decide_eq_true_eq] at hg
    obtain ⟨g1, g0, g2, g3⟩ := hg
    have hx := all_in g2 (by decide) (by decide)
    rw [inB_true] at g1 g3
    rw [if_pos rfl, if_pos rfl, loText_eq g0 (by omega) hx (by omega) (by omega) hk, crew_eq g0 (by omega) hx (by omega) (by omega) (by omega)]
    exact ⟨_, rfl, rfl⟩
theorem pure : ∀ (l0_0 : List Int) (l0_1 : List Bool) (a0_2 : Int), (∀ y0 ∈ l0_0, Opn.okI y0) → l0_0.length ≤ 9223372036854775807 → (∀ y0 ∈ l0_1, True) → l0_1.length ≤ 9223372036854775807 → Opn.okI a0_2 → ∃ k, laws_FnExactCrewText.f k l0_0 l0_1 a0_2 = some true := by
  intro l o s _ hl _ ho _
  obtain ⟨K, hK⟩ : ∃ K, K = l.length + o.length + 8 := ⟨_, rfl⟩
  refine ⟨K + 1, ?_⟩
  unfold laws_FnExactCrewText.f
  obtain ⟨z, hz, h1⟩ := szCrew_eq (l := l) (o := o) (s := s) hl ho
  rw [hz, Option.bind_some]
  by_cases hz0 : z < 0
  · rw [if_pos hz0]
  · have h2 : l.length + o.length ≤ 1048576 := by omega
    obtain ⟨x, e1, e2⟩ := both (l := l) (by omega) o s (k := K + 1) (by omega)
    rw [if_neg hz0, toCrew_eq (l := l) (by omega) (o := o) (by omega) s (by omega) (by omega)]
    simp only [Option.bind_some, e1, e2]
    rw [if_pos trivial]
    simp only [laws_FnExactCrewText.j0]
    rw [if_neg (by simp), toCrew_eq (l := l) (by omega) (o := o) (by omega) s (by omega) (by omega)]
    simp only [Option.bind_some]
    rw [eqCrew_eq hl ho s (by omega) (by omega), Option.bind_some, if_pos rfl]

end Go.Proofs.YtpiidnmobofaeaaDoor.fnExactCrewText
