/- FnExactStateText, the plain statement: what the printed functions compute makes the law's function return true. Conditions: the numbers are of their kind. -/
import Derived.Test.YtglegmmpmcnpkaaOpn
import Derived.Test.YtglegmmpmcnpkaaQFnExactStateTextx4
namespace Go.Proofs.Ytglegmmpmcnpkaa.fnExactStateText
open Go.RowKit Go.Proofs.YtglegmmpmcnpkaaW.PrintWords Go.Proofs.YtglegmmpmcnpkaaW.PrintLast Go.Proofs.YtglegmmpmcnpkaaW.PrintMore Go.Proofs.Ytglegmmpmcnpkaa.QFnExactStateText
set_option linter.unusedVariables false
set_option linter.unusedSimpArgs false

/-- x lies between a and b. -/
def inB (x a b : Int) : Bool := decide (a ≤ x) && decide (x ≤ b)
theorem inB_true {x a b : Int} : inB x a b = true ↔ a ≤ x ∧ x ≤ b := by simp [inB]
theorem wrap_id {n : Int} (h0 : -9223372036854775808 ≤ n) (h1 : n ≤ 9223372036854775807) : wrap64 n = n := by
  unfold wrap64
  omega
theorem wrap_succ {i n : Nat} (h : i < n) (hn : n ≤ 9223372036854775807) : wrap64 ((i : Int) + 1) = ((i + 1 : Nat) : Int) := by
  unfold wrap64
  omega
theorem getD_take {α : Type} (l : List α) (i : Nat) (h : i < l.length) (z : α) : l.take (i + 1) = l.take i ++ [l.getD i z] := by
  rw [List.take_succ_eq_append_getElem h, List.getD_eq_getElem?_getD, List.getElem?_eq_getElem h]
  rfl
theorem getD_drop {α : Type} (l : List α) (i : Nat) (h : i < l.length) (z : α) : l.drop i = l.getD i z :: l.drop (i + 1) := by
  rw [List.drop_eq_getElem_cons h, List.getD_eq_getElem?_getD, List.getElem?_eq_getElem h]
  rfl
theorem set_take {α : Type} (l : List α) (i : Nat) (h : i < l.length) (v : α) : (l.set i v).take (i + 1) = l.take i ++ [v] := by
  rw [List.take_succ_eq_append_getElem (by rw [List.length_set]; exact h), List.take_set_of_le (Nat.le_refl i), List.getElem_set_self]
theorem k_succ {k d : Nat} (h : d < k) : ∃ m, k = m + 1 := ⟨k - 1, by omega⟩
theorem getD_map_at {α β : Type} (f : α → β) (l : List α) (i : Nat) (h : i < l.length) (z : α) (y : β) : (l.map f).getD i y = f (l.getD i z) := by
  rw [List.getD_eq_getElem?_getD, List.getD_eq_getElem?_getD, List.getElem?_map, List.getElem?_eq_getElem h]
  rfl
/-- A text by its bytes. -/
def bs (l : List UInt8) : ByteArray := ⟨l.toArray⟩
theorem bs_app (l m : List UInt8) : bs l ++ bs m = bs (l ++ m) := by
  apply ByteArray.ext
  simp [bs, ByteArray.data_append]
theorem bs_size (l : List UInt8) : (bs l).size = l.length := by simp [bs, ByteArray.size]
theorem bs_nums (xs : List Int) : strOfNums xs = bs (xs.map fun n => UInt8.ofNat n.toNat) := rfl
theorem l1In_eq (x a b : Int) : spec_l1In.f x a b = some (inB x a b) := by
  unfold spec_l1In.f inB
  by_cases h : a ≤ x <;> simp [h]
theorem in_eq (x a b : Int) : impl_in.f x a b = some (inB x a b) := by
  unfold impl_in.f inB
  by_cases h : a ≤ x <;> simp [h]
theorem toIntS_l0 {l : List Int} (hn : l.length ≤ 9223372036854775807) : ∀ (d k i : Nat) (x : List Int), i + d = l.length → x.length = l.length → x.take i = l.take i → d < k → laws_toIntS.l0 k l x (i : Int) = some l := by
  intro d
  induction d with
  | zero =>
    intro k i x hi hx ht hk
    obtain ⟨k, rfl⟩ := k_succ hk
    simp only [laws_toIntS.l0]
    rw [if_neg (by omega)]
    rw [show i = l.length by omega, List.take_length, ← hx, List.take_length] at ht
    rw [ht]
  | succ d ih =>
    intro k i x hi hx ht hk
    obtain ⟨k, rfl⟩ := k_succ hk
    have hlt : i < l.length := by omega
    simp only [laws_toIntS.l0]
    rw [if_pos (by omega), if_pos (by omega), if_pos (by omega), wrap_succ hlt hn]
    refine ih k (i + 1) _ (by omega) (by rw [List.length_set]; exact hx) ?_ (by omega)
    rw [Int.toNat_natCast, set_take _ _ (by omega), ht, getD_take l i hlt 0]
    rfl
theorem toIntS_eq {l : List Int} (hn : l.length ≤ 1048576) {k : Nat} (hk : l.length < k) : laws_toIntS.f k l = some l := by
  unfold laws_toIntS.f
  rw [if_pos (by omega), if_pos (by omega)]
  exact toIntS_l0 (by omega) l.length k 0 _ (by omega) (by simp) (by simp) hk
theorem eqIntS_l0 {l : List Int} (hn : l.length ≤ 9223372036854775807) : ∀ (d k i : Nat), i + d = l.length → d < k → laws_eqIntS.l0 k l l (i : Int) = some true := by
  intro d
  induction d with
  | zero =>
    intro k i hi hk
    obtain ⟨k, rfl⟩ := k_succ hk
    simp only [laws_eqIntS.l0]
    rw [if_neg (by omega)]
  | succ d ih =>
    intro k i hi hk
    obtain ⟨k, rfl⟩ := k_succ hk
    have hlt : i < l.length := by omega
    simp only [laws_eqIntS.l0]
    rw [if_pos (by omega), if_pos (by omega), if_pos (by omega), if_pos trivial, wrap_succ hlt hn]
    exact ih k (i + 1) (by omega) (by omega)
theorem eqIntS_eq {l : List Int} (hn : l.length ≤ 9223372036854775807) {k : Nat} (hk : l.length < k) : laws_eqIntS.f k l l = some true := by
  unfold laws_eqIntS.f
  rw [if_pos rfl]
  exact eqIntS_l0 hn l.length k 0 (by omega) hk
theorem toBoolS_l0 {l : List Bool} (hn : l.length ≤ 9223372036854775807) : ∀ (d k i : Nat) (x : List Bool), i + d = l.length → x.length = l.length → x.take i = l.take i → d < k → laws_toBoolS.l0 k l x (i : Int) = some l := by
  intro d
  induction d with
  | zero =>
    intro k i x hi hx ht hk
    obtain ⟨k, rfl⟩ := k_succ hk
    simp only [laws_toBoolS.l0]
    rw [if_neg (by omega)]
    rw [show i = l.length by omega, List.take_length, ← hx, List.take_length] at ht
    rw [ht]
  | succ d ih =>
    intro k i x hi hx ht hk
    obtain ⟨k, rfl⟩ := k_succ hk
    have hlt : i < l.length := by omega
    simp only [laws_toBoolS.l0]
    rw [if_pos (by omega), if_pos (by omega), if_pos (by omega), wrap_succ hlt hn]
    refine ih k (i + 1) _ (by omega) (by rw [List.length_set]; exact hx) ?_ (by omega)
    rw [Int.toNat_natCast, set_take _ _ (by omega), ht, getD_take l i hlt false]
    rfl
theorem toBoolS_eq {l : List Bool} (hn : l.length ≤ 1048576) {k : Nat} (hk : l.length < k) : laws_toBoolS.f k l = some l := by
  unfold laws_toBoolS.f
  rw [if_pos (by omega), if_pos (by omega)]
  exact toBoolS_l0 (by omega) l.length k 0 _ (by omega) (by simp) (by simp) hk
theorem eqBoolS_l0 {l : List Bool} (hn : l.length ≤ 9223372036854775807) : ∀ (d k i : Nat), i + d = l.length → d < k → laws_eqBoolS.l0 k l l (i : Int) = some true := by
  intro d
  induction d with
  | zero =>
    intro k i hi hk
    obtain ⟨k, rfl⟩ := k_succ hk
    simp only [laws_eqBoolS.l0]
    rw [if_neg (by omega)]
  | succ d ih =>
    intro k i hi hk
    obtain ⟨k, rfl⟩ := k_succ hk
    have hlt : i < l.length := by omega
    simp only [laws_eqBoolS.l0]
    rw [if_pos (by omega), if_pos (by omega), if_pos (by omega), if_neg (by simp), wrap_succ hlt hn]
    exact ih k (i + 1) (by omega) (by omega)
theorem eqBoolS_eq {l : List Bool} (hn : l.length ≤ 9223372036854775807) {k : Nat} (hk : l.length < k) : laws_eqBoolS.f k l l = some true := by
  unfold laws_eqBoolS.f
  rw [if_pos rfl]
  exact eqBoolS_l0 hn l.length k 0 (by omega) hk
theorem l1All_l0 {l : List Int} (hn : l.length ≤ 9223372036854775807) (a b : Int) : ∀ (d k i : Nat), i + d = l.length → d < k → spec_l1All.l0 k a b l (l.length : Int) (i : Int) = some ((l.drop i).all fun x => inB x a b) := by
  intro d
  induction d with
  | zero =>
    intro k i hi hk
    obtain ⟨k, rfl⟩ := k_succ hk
    simp only [spec_l1All.l0]
    rw [if_neg (by omega), show i = l.length by omega, List.drop_length]
    rfl
  | succ d ih =>
    intro k i hi hk
    obtain ⟨k, rfl⟩ := k_succ hk
    have hlt : i < l.length := by omega
    simp only [spec_l1All.l0]
    rw [if_pos (by omega), if_pos (by omega), if_pos (by omega), l1In_eq, Option.bind_some, wrap_succ hlt hn, ih k (i + 1) (by omega) (by omega), getD_drop l i hlt 0, List.all_cons]
    show (if inB (l.getD i 0) a b = true then _ else _) = _
    cases inB (l.getD i 0) a b <;> simp
theorem l1All_eq {l : List Int} (hn : l.length ≤ 9223372036854775807) (a b : Int) {k : Nat} (hk : l.length < k) : spec_l1All.f k l a b = some (l.all fun x => inB x a b) := by
  unfold spec_l1All.f
  exact l1All_l0 hn a b l.length k 0 (by omega) hk
theorem areIn_eq (l : List Int) (a b c d : Int) : impl_areIn.f l a b c d = some (inB (l.length : Int) c d && l.all fun x => inB x a b) := by
  unfold impl_areIn.f inB
  simp [List.not_any_eq_all_not]
theorem szParty_eq {l : List Int} {s : Int} {b : Nat} (hb : b ≤ 1048576) (hn : l.length ≤ 9223372036854775807) : laws_szParty.f l s (b : Int) = some (if l.length ≤ b then ((b - l.length : Nat) : Int) else -1) := by
  unfold laws_szParty.f laws_szIntS.f
  rw [wrap_id (by omega) (by omega)]
  by_cases h : l.length ≤ b
  · rw [if_neg (by omega), Option.bind_some, if_neg (by omega), if_pos h]
    congr 1
    omega
  · rw [if_pos (by omega), Option.bind_some, if_pos (by omega), if_neg h]
theorem szState_eq {l : List Bool} {s : Bool} {b : Nat} (hb : b ≤ 1048576) (hn : l.length ≤ 9223372036854775807) : laws_szState.f l s (b : Int) = some (if l.length ≤ b then ((b - l.length : Nat) : Int) else -1) := by
  unfold laws_szState.f laws_szBoolS.f
  rw [wrap_id (by omega) (by omega)]
  by_cases h : l.length ≤ b
  · rw [if_neg (by omega), Option.bind_some, if_neg (by omega), if_pos h]
    congr 1
    omega
  · rw [if_pos (by omega), Option.bind_some, if_pos (by omega), if_neg h]
/-- A party. -/
def partyB (l : List Int) (s : Int) : Bool := inB (l.length : Int) 1 8 && ((l.all fun x => inB x 1 1000) && inB s 1 3)
theorem paGood_eq {l : List Int} (hn : l.length ≤ 9223372036854775807) (s : Int) {k : Nat} (hk : l.length < k) : spec_paGood.f k l s = some (partyB l s) := by
  unfold spec_paGood.f partyB
  rw [l1In_eq, l1All_eq hn 1 1000 hk, l1In_eq]
  simp only [Option.bind_some]
  cases inB (l.length : Int) 1 8 <;> cases (l.all fun x => inB x 1 1000) <;> simp
theorem IsParty_eq (l : List Int) (s : Int) : impl_IsParty.f l s = some (partyB l s) := by
  unfold impl_IsParty.f partyB
  rw [areIn_eq, in_eq]
  simp only [Option.bind_some]
  cases inB (l.length : Int) 1 8 <;> cases (l.all fun x => inB x 1 1000) <;> simp
theorem toParty_eq {l : List Int} (hn : l.length ≤ 1048576) (s : Int) {k : Nat} (hk : l.length < k) : laws_toParty.f k l s = some (l, s) := by
  unfold laws_toParty.f
  rw [toIntS_eq hn hk]
  rfl
theorem eqParty_eq {l : List Int} (hn : l.length ≤ 9223372036854775807) (s : Int) {k : Nat} (hk : l.length < k) : laws_eqParty.f k l s l s = some true := by
  unfold laws_eqParty.f
  rw [eqIntS_eq hn hk]
  simp
theorem toState_eq {l : List Bool} (hn : l.length ≤ 1048576) (s : Bool) {k : Nat} (hk : l.length < k) : laws_toState.f k l s = some (l, s) := by
  unfold laws_toState.f
  rw [toBoolS_eq hn hk]
  rfl
theorem eqState_eq {l : List Bool} (hn : l.length ≤ 9223372036854775807) (s : Bool) {k : Nat} (hk : l.length < k) : laws_eqState.f k l s l s = some true := by
  unfold laws_eqState.f
  rw [eqBoolS_eq hn hk]
  simp
/-- A state of so many people. -/
def stateB (n : Nat) (o : List Bool) (t : Bool) : Bool := decide (o.length = n) && o.any fun b => b == t
theorem paState_l0 {o : List Bool} (t : Bool) (hn : o.length ≤ 9223372036854775807) : ∀ (d k i : Nat), i + d = o.length → d < k → spec_paState.l0 k o (o.length : Int) (i : Int) o t = some ((o.drop i).any fun b => b == t) := by
  intro d
  induction d with
  | zero =>
    intro k i hi hk
    obtain ⟨k, rfl⟩ := k_succ hk
    simp only [spec_paState.l0]
    rw [if_neg (by omega), show i = o.length by omega, List.drop_length]
    rfl
  | succ d ih =>
    intro k i hi hk
    obtain ⟨k, rfl⟩ := k_succ hk
    have hlt : i < o.length := by omega
    simp only [spec_paState.l0]
    rw [if_pos (by omega), if_pos (by omega), if_pos (by omega), wrap_succ hlt hn, ih k (i + 1) (by omega) (by omega), getD_drop o i hlt false, List.any_cons]
    show (if (o.getD i false == t) = true then _ else _) = _
    cases o.getD i false == t <;> simp
theorem paState_eq {l : List Int} {s : Int} {o : List Bool} (t : Bool) (hn : o.length ≤ 9223372036854775807) {k : Nat} (hk : o.length < k) : spec_paState.f k l s o t = some (stateB l.length o t) := by
  unfold spec_paState.f stateB
  by_cases h : o.length = l.length
  · rw [if_pos (by omega), show (0 : Int) = ((0 : Nat) : Int) by rfl, paState_l0 t hn o.length k 0 (by omega) hk]
    simp [h]
  · rw [if_neg (by omega)]
    simp [h]
theorem index_l0 {o : List Bool} (t : Bool) (hn : o.length ≤ 9223372036854775807) : ∀ (d k i : Nat), i + d = o.length → d < k → ∃ r, slices_Index_bool_bool.l0 k o t (o.length : Int) (i : Int) = some r ∧ decide (r ≥ 0) = (o.drop i).any fun b => b == t := by
  intro d
  induction d with
  | zero =>
    intro k i hi hk
    obtain ⟨k, rfl⟩ := k_succ hk
    simp only [slices_Index_bool_bool.l0]
    rw [if_neg (by omega), show i = o.length by omega, List.drop_length]
    exact ⟨-1, rfl, rfl⟩
  | succ d ih =>
    intro k i hi hk
    obtain ⟨k, rfl⟩ := k_succ hk
    have hlt : i < o.length := by omega
    simp only [slices_Index_bool_bool.l0]
    rw [if_pos (by omega), if_pos (by omega), if_pos (by omega), wrap_succ hlt hn, getD_drop o i hlt false, List.any_cons]
    show ∃ r, (if (t == o.getD i false) = true then _ else _) = _ ∧ _
    obtain ⟨r, hr, hd⟩ := ih k (i + 1) (by omega) (by omega)
    generalize o.getD i false = c
    by_cases e : c = t
    · subst e
      rw [if_pos (by simp)]
      refine ⟨_, rfl, ?_⟩
      simp
    · rw [if_neg (by simp; exact fun h => e h.symm)]
      refine ⟨r, hr, ?_⟩
      rw [hd]
      simp [e]
theorem containsB_eq {o : List Bool} (t : Bool) (hn : o.length ≤ 9223372036854775807) {k : Nat} (hk : o.length < k) : slices_Contains_bool_bool.f k o t = some (o.any fun b => b == t) := by
  unfold slices_Contains_bool_bool.f slices_Index_bool_bool.f
  obtain ⟨r, hr, hd⟩ := index_l0 t hn o.length k 0 (by omega) hk
  rw [show ((0 : Nat) : Int) = 0 by rfl] at hr
  rw [hr, Option.bind_some, hd, List.drop_zero]
theorem isStateOf_eq {n : Nat} {o : List Bool} (t : Bool) (hn : o.length ≤ 9223372036854775807) {k : Nat} (hk : o.length < k) : impl_isStateOf.f k (n : Int) o t = some (stateB n o t) := by
  unfold impl_isStateOf.f stateB
  rw [containsB_eq t hn hk]
  by_cases h : o.length = n
  · rw [if_pos (by omega)]
    simp [h]
  · rw [if_neg (by omega)]
    simp [h]
theorem paAsked_eq {l : List Int} (hl : l.length ≤ 9223372036854775807) (s : Int) {o : List Bool} (t : Bool) (hn : o.length ≤ 9223372036854775807) {k : Nat} (hk : o.length < k) (hk2 : l.length < k) : spec_paAsked.f k l s o t = some (partyB l s && stateB l.length o t) := by
  unfold spec_paAsked.f
  rw [paGood_eq hl s hk2, paState_eq t hn hk]
  simp only [Option.bind_some]
  cases partyB l s <;> simp
theorem hasState_eq {l : List Int} (s : Int) {o : List Bool} (t : Bool) (hn : o.length ≤ 9223372036854775807) {k : Nat} (hk : o.length < k) : impl_Party_hasState.f k l s o t = some (partyB l s && stateB l.length o t) := by
  unfold impl_Party_hasState.f
  rw [IsParty_eq, isStateOf_eq t hn hk]
  simp only [Option.bind_some]
  cases partyB l s <;> simp
/-- The text of a state. -/
def stateT (o : List Bool) (t : Bool) : List UInt8 := (o.map fun b => if b = true then 120 else 46) ++ [if t = true then 62 else 60]
theorem paText_l0 {o : List Bool} (t : Bool) (hn : o.length ≤ 1048576) : ∀ (d k i : Nat) (x : List UInt8), i + d = o.length → x.length = i → d < k → spec_paText.l0 k (bs x) o (o.length : Int) (i : Int) o t = some (bs (x ++ stateT (o.drop i) t)) := by
  intro d
  induction d with
  | zero =>
    intro k i x hi hx hk
    obtain ⟨k, rfl⟩ := k_succ hk
    simp only [spec_paText.l0]
    rw [if_neg (by omega), show i = o.length by omega, List.drop_length]
    have hs := bs_size x
    cases t
    · rw [if_neg (by simp), if_pos (by omega), show (⟨#[60]⟩ : ByteArray) = bs [60] from rfl, bs_app]
      rfl
    · rw [if_pos rfl, if_pos (by omega), show (⟨#[62]⟩ : ByteArray) = bs [62] from rfl, bs_app]
      rfl
  | succ d ih =>
    intro k i x hi hx hk
    obtain ⟨k, rfl⟩ := k_succ hk
    have hlt : i < o.length := by omega
    have hs := bs_size x
    simp only [spec_paText.l0]
    rw [if_pos (by omega), if_pos (by omega), if_pos (by omega), wrap_succ hlt (by omega), getD_drop o i hlt false]
    show (if o.getD i false = true then _ else _) = _
    cases hb : o.getD i false
    · rw [if_neg (by simp), if_pos (by omega), show (⟨#[46]⟩ : ByteArray) = bs [46] from rfl, bs_app, ih k (i + 1) _ (by omega) (by simp [hx]) (by omega)]
      simp [stateT]
    · rw [if_pos rfl, if_pos (by omega), show (⟨#[120]⟩ : ByteArray) = bs [120] from rfl, bs_app, ih k (i + 1) _ (by omega) (by simp [hx]) (by omega)]
      simp [stateT]
theorem paText_eq {o : List Bool} (t : Bool) (hn : o.length ≤ 1048576) {k : Nat} (hk : o.length < k) : spec_paText.f k o t = some (bs (stateT o t)) := by
  unfold spec_paText.f
  have h := paText_l0 t hn o.length k 0 [] (by omega) rfl hk
  exact h
theorem text_l0 {o : List Bool} (t : Bool) (hn : o.length ≤ 1048576) : ∀ (d k i : Nat) (x : List Int), i + d = o.length → x.length = i → d < k → impl_State_text.l0 k x o (o.length : Int) (i : Int) o t = some (bs ((x.map fun n => UInt8.ofNat n.toNat) ++ stateT (o.drop i) t)) := by
  intro d
  induction d with
  | zero =>
    intro k i x hi hx hk
    obtain ⟨k, rfl⟩ := k_succ hk
    simp only [impl_State_text.l0, impl_bit.f]
    rw [if_neg (by omega), show i = o.length by omega, List.drop_length]
    cases t
    · simp only [Bool.false_eq_true, if_false, Option.bind_some]
      rw [if_pos (by omega), if_pos (by omega), if_pos (by omega), bs_nums, List.map_append]
      rfl
    · simp only [if_true, Option.bind_some]
      rw [if_pos (by omega), if_pos (by omega), if_pos (by omega), bs_nums, List.map_append]
      rfl
  | succ d ih =>
    intro k i x hi hx hk
    obtain ⟨k, rfl⟩ := k_succ hk
    have hlt : i < o.length := by omega
    simp only [impl_State_text.l0, impl_bit.f]
    rw [if_pos (by omega), if_pos (by omega), if_pos (by omega), wrap_succ hlt (by omega), getD_drop o i hlt false]
    show (Option.bind (if o.getD i false = true then some 1 else some 0) _) = _
    cases hb : o.getD i false
    · simp only [Bool.false_eq_true, if_false, Option.bind_some]
      rw [if_pos (by omega), if_pos (by omega), if_pos (by omega), ih k (i + 1) _ (by omega) (by simp [hx]) (by omega)]
      simp [stateT]
      rfl
    · simp only [if_true, Option.bind_some]
      rw [if_pos (by omega), if_pos (by omega), if_pos (by omega), ih k (i + 1) _ (by omega) (by simp [hx]) (by omega)]
      simp [stateT]
      rfl
theorem text_eq {o : List Bool} (t : Bool) (hn : o.length ≤ 1048576) {k : Nat} (hk : o.length < k) : impl_State_text.f k o t = some (bs (stateT o t)) := by
  unfold impl_State_text.f
  have h := text_l0 t hn o.length k 0 [] (by omega) rfl hk
  exact h
theorem both {l : List Int} (hl : l.length ≤ 1048576) (s : Int) {o : List Bool} (t : Bool) (ho : o.length ≤ 1048576) {k : Nat} (hk : l.length < k) (hk2 : o.length < k) :
    ∃ x, spec_StateText.f k l s o t = some x ∧ impl_StateText.f k l s o t = some x := by
  unfold spec_StateText.f impl_StateText.f
  rw [paAsked_eq (by omega) s t (by omega) hk2 hk, hasState_eq s t (by omega) hk2, paText_eq t ho hk2, text_eq t ho hk2]
  simp only [Option.bind_some]
  cases partyB l s && stateB l.length o t
  · exact ⟨_, by simp; rfl, by simp⟩
  · exact ⟨_, by simp; rfl, by simp⟩
theorem pure : ∀ (l0_0 : List Int) (a0_1 : Int) (l1_0 : List Bool) (a1_1 : Bool), (∀ y0 ∈ l0_0, Opn.okI y0) → l0_0.length ≤ 9223372036854775807 → Opn.okI a0_1 → (∀ y0 ∈ l1_0, True) → l1_0.length ≤ 9223372036854775807 → ∃ k, laws_FnExactStateText.f k l0_0 a0_1 l1_0 a1_1 = some true := by
  intro l s o t _ hl _ _ ho
  obtain ⟨K, hK⟩ : ∃ K, K = l.length + o.length + 1 := ⟨_, rfl⟩
  refine ⟨K + 1, ?_⟩
  unfold laws_FnExactStateText.f
  rw [show (1048576 : Int) = ((1048576 : Nat) : Int) by rfl, szParty_eq (Nat.le_refl _) hl, Option.bind_some]
  by_cases h1 : l.length ≤ 1048576
  · rw [if_pos h1, if_neg (by omega), szState_eq (by omega) ho, Option.bind_some]
    by_cases h2 : o.length ≤ 1048576 - l.length
    · rw [if_pos h2, if_neg (by omega), toParty_eq h1 s (by omega), toState_eq (l := o) (by omega) t (by omega)]
      obtain ⟨x, e1, e2⟩ := both h1 s (o := o) t (by omega) (k := K + 1) (by omega) (by omega)
      simp only [Option.bind_some, e1, e2]
      rw [if_pos trivial]
      simp only [laws_FnExactStateText.j0]
      rw [if_neg (by simp), toParty_eq h1 s (by omega)]
      simp only [Option.bind_some]
      rw [eqParty_eq hl s (by omega), Option.bind_some, if_pos rfl, toState_eq (l := o) (by omega) t (by omega)]
      simp only [Option.bind_some]
      rw [eqState_eq ho t (by omega)]
      rfl
    · rw [if_neg h2, if_pos (by omega)]
  · rw [if_neg h1, if_pos (by omega)]

end Go.Proofs.Ytglegmmpmcnpkaa.fnExactStateText
