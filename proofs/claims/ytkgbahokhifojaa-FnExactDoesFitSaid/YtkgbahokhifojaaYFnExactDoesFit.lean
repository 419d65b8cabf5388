/- FnExactDoesFit, the plain statement: what the printed functions compute makes the law's function return true. Conditions: the numbers are of their kind. -/
import Derived.Test.YtkgbahokhifojaaOpn
import Derived.Test.YtkgbahokhifojaaQHidx11
namespace Go.Proofs.Ytkgbahokhifojaa.fnExactDoesFit
open Go.RowKit Go.Proofs.YtkgbahokhifojaaW.PrintWords Go.Proofs.YtkgbahokhifojaaW.PrintLast Go.Proofs.YtkgbahokhifojaaW.PrintMore Go.Proofs.Ytkgbahokhifojaa.QHid
set_option linter.unusedVariables false
set_option linter.unusedSimpArgs false

/-- x lies between a and b. -/
def inB (x a b : Int) : Bool := decide (a ≤ x) && decide (x ≤ b)
theorem inB_true {x a b : Int} : inB x a b = true ↔ a ≤ x ∧ x ≤ b := by simp [inB]
theorem wrap_id {n : Int} (h0 : -9223372036854775808 ≤ n) (h1 : n ≤ 9223372036854775807) : wrap64 n = n := by
  unfold wrap64
  omega
theorem wrap_succ {i n : Nat} (h : i < n) (hn : n ≤ 9223372036854775807) : wrap64 ((i : Int) + 1) = ((i + 1 : Nat) : Int) := by
  unfold wrap64
  omega
theorem getD_take {α : Type} (l : List α) (i : Nat) (h : i < l.length) (z : α) : l.take (i + 1) = l.take i ++ [l.getD i z] := by
  rw [List.take_succ_eq_append_getElem h, List.getD_eq_getElem?_getD, List.getElem?_eq_getElem h]
  rfl
theorem getD_drop {α : Type} (l : List α) (i : Nat) (h : i < l.length) (z : α) : l.drop i = l.getD i z :: l.drop (i + 1) := by
  rw [List.drop_eq_getElem_cons h, List.getD_eq_getElem?_getD, List.getElem?_eq_getElem h]
  rfl
theorem set_take {α : Type} (l : List α) (i : Nat) (h : i < l.length) (v : α) : (l.set i v).take (i + 1) = l.take i ++ [v] := by
  rw [List.take_succ_eq_append_getElem (by rw [List.length_set]; exact h), List.take_set_of_le (Nat.le_refl i), List.getElem_set_self]
theorem k_succ {k d : Nat} (h : d < k) : ∃ m, k = m + 1 := ⟨k - 1, by omega⟩
theorem getD_map_at {α β : Type} (f : α → β) (l : List α) (i : Nat) (h : i < l.length) (z : α) (y : β) : (l.map f).getD i y = f (l.getD i z) := by
  rw [List.getD_eq_getElem?_getD, List.getD_eq_getElem?_getD, List.getElem?_map, List.getElem?_eq_getElem h]
  rfl
theorem l1In_eq (x a b : Int) : spec_l1In.f x a b = some (inB x a b) := by
  unfold spec_l1In.f inB
  by_cases h : a ≤ x <;> simp [h]
theorem in_eq (x a b : Int) : impl_in.f x a b = some (inB x a b) := by
  unfold impl_in.f inB
  by_cases h : a ≤ x <;> simp [h]
theorem toIntS_l0 {l : List Int} (hn : l.length ≤ 9223372036854775807) : ∀ (d k i : Nat) (x : List Int), i + d = l.length → x.length = l.length → x.take i = l.take i → d < k → laws_toIntS.l0 k l x (i : Int) = some l := by
  intro d
  induction d with
  | zero =>
    intro k i x hi hx ht hk
    obtain ⟨k, rfl⟩ := k_succ hk
    simp only [laws_toIntS.l0]
    rw [if_neg (by omega)]
    rw [show i = l.length by omega, List.take_length, ← hx, List.take_length] at ht
    rw [ht]
  | succ d ih =>
    intro k i x hi hx ht hk
    obtain ⟨k, rfl⟩ := k_succ hk
    have hlt : i < l.length := by omega
    simp only [laws_toIntS.l0]
    rw [if_pos (by omega), if_pos (by omega), if_pos (by omega), wrap_succ hlt hn]
    refine ih k (i + 1) _ (by omega) (by rw [List.length_set]; exact hx) ?_ (by omega)
    rw [Int.toNat_natCast, set_take _ _ (by omega), ht, getD_take l i hlt 0]
    rfl
theorem toIntS_eq {l : List Int} (hn : l.length ≤ 1048576) {k : Nat} (hk : l.length < k) : laws_toIntS.f k l = some l := by
  unfold laws_toIntS.f
  rw [if_pos (by omega), if_pos (by omega)]
  exact toIntS_l0 (by omega) l.length k 0 _ (by omega) (by simp) (by simp) hk
theorem eqIntS_l0 {l : List Int} (hn : l.length ≤ 9223372036854775807) : ∀ (d k i : Nat), i + d = l.length → d < k → laws_eqIntS.l0 k l l (i : Int) = some true := by
  intro d
  induction d with
  | zero =>
    intro k i hi hk
    obtain ⟨k, rfl⟩ := k_succ hk
    simp only [laws_eqIntS.l0]
    rw [if_neg (by omega)]
  | succ d ih =>
    intro k i hi hk
    obtain ⟨k, rfl⟩ := k_succ hk
    have hlt : i < l.length := by omega
    simp only [laws_eqIntS.l0]
    rw [if_pos (by omega), if_pos (by omega), if_pos (by omega), if_pos trivial, wrap_succ hlt hn]
    exact ih k (i + 1) (by omega) (by omega)
theorem eqIntS_eq {l : List Int} (hn : l.length ≤ 9223372036854775807) {k : Nat} (hk : l.length < k) : laws_eqIntS.f k l l = some true := by
  unfold laws_eqIntS.f
  rw [if_pos rfl]
  exact eqIntS_l0 hn l.length k 0 (by omega) hk
theorem l1All_l0 {l : List Int} (hn : l.length ≤ 9223372036854775807) (a b : Int) : ∀ (d k i : Nat), i + d = l.length → d < k → spec_l1All.l0 k a b l (l.length : Int) (i : Int) = some ((l.drop i).all fun x => inB x a b) := by
  intro d
  induction d with
  | zero =>
    intro k i hi hk
    obtain ⟨k, rfl⟩ := k_succ hk
    simp only [spec_l1All.l0]
    rw [if_neg (by omega), show i = l.length by omega, List.drop_length]
    rfl
  | succ d ih =>
    intro k i hi hk
    obtain ⟨k, rfl⟩ := k_succ hk
    have hlt : i < l.length := by omega
    simp only [spec_l1All.l0]
    rw [if_pos (by omega), if_pos (by omega), if_pos (by omega), l1In_eq, Option.bind_some, wrap_succ hlt hn, ih k (i + 1) (by omega) (by omega), getD_drop l i hlt 0, List.all_cons]
    show (if inB (l.getD i 0) a b = true then _ else _) = _
    cases inB (l.getD i 0) a b <;> simp
theorem l1All_eq {l : List Int} (hn : l.length ≤ 9223372036854775807) (a b : Int) {k : Nat} (hk : l.length < k) : spec_l1All.f k l a b = some (l.all fun x => inB x a b) := by
  unfold spec_l1All.f
  exact l1All_l0 hn a b l.length k 0 (by omega) hk
theorem areIn_eq (l : List Int) (a b c d : Int) : impl_areIn.f l a b c d = some (inB (l.length : Int) c d && l.all fun x => inB x a b) := by
  unfold impl_areIn.f inB
  simp [List.not_any_eq_all_not]
/-- A clue of so many people (of whom there is a number). -/
def clueT (n kd a b : Int) : Bool :=
  if kd = 0 then inB a 0 (n - 1) && inB b 1 6 else if kd = 4 then inB a 0 (n - 1) && inB b 0 5 else if kd = 1 then inB a 1 24 && decide (b = 0)
    else if kd = 2 ∨ kd = 3 then inB a 1 100 && decide (b = 0) else if kd = 5 then inB a 0 n && decide (b = 0) else false
theorem wrap_pred {n : Int} (h : inB n 1 4 = true) : wrap64 (n - 1) = n - 1 := by
  rw [inB_true] at h
  exact wrap_id (by omega) (by omega)
theorem pzClue_eq {n : Int} (h : inB n 1 4 = true) {k : Nat} (hk : 0 < k) (kd a b : Int) : spec_pzClue.f k n kd a b = some (clueT n kd a b) := by
  obtain ⟨k, rfl⟩ := k_succ hk
  unfold spec_pzClue.f clueT
  simp only [l1In_eq, Option.bind_some, spec_pzClue.j0]
  rw [wrap_pred h]
  by_cases h0 : kd = 0
  · subst h0; cases inB a 0 (n - 1) <;> simp
  by_cases h4 : kd = 4
  · subst h4; cases inB a 0 (n - 1) <;> simp
  by_cases hb : b = 0
  · subst hb
    by_cases h1 : kd = 1
    · subst h1; simp
    by_cases h2 : kd = 2
    · subst h2; simp
    by_cases h3 : kd = 3
    · subst h3; simp
    by_cases h5 : kd = 5
    · subst h5; simp
    simp [h0, h1, h2, h3, h4, h5]
  · simp [h0, h4, hb]
theorem IsClue_eq {k : Nat} (hk : 0 < k) (n kd a b : Int) : impl_IsClue.f k n kd a b = some (inB n 1 4 && clueT n kd a b) := by
  obtain ⟨k, rfl⟩ := k_succ hk
  unfold impl_IsClue.f impl_isPeople.f clueT
  simp only [in_eq, Option.bind_some, impl_IsClue.j0]
  cases h : inB n 1 4
  · simp
  · rw [wrap_pred h]
    by_cases h0 : kd = 0
    · subst h0; cases inB a 0 (n - 1) <;> simp
    by_cases h4 : kd = 4
    · subst h4; cases inB a 0 (n - 1) <;> simp
    by_cases h1 : kd = 1
    · subst h1; cases inB a 1 24 <;> simp <;> rfl
    by_cases h2 : kd = 2
    · subst h2; cases inB a 1 100 <;> simp <;> rfl
    by_cases h3 : kd = 3
    · subst h3; cases inB a 1 100 <;> simp <;> rfl
    by_cases h5 : kd = 5
    · subst h5; cases inB a 0 n <;> simp <;> rfl
    simp [h0, h1, h2, h3, h4, h5]
/-- The numbers of a row from place i on do not fall; up to place i. -/
def upB (l : List Int) (i j : Nat) : Prop := ∀ m, i ≤ m → m < j → rd l ((m : Int) - 1) ≤ rd l (m : Int)
theorem pzHidden_l0 {l : List Int} (hn : l.length ≤ 1048576) : ∀ (d k i : Nat), 1 ≤ i → i + d = l.length ∨ (d = 0 ∧ l.length ≤ i ∧ i ≤ 1) → d < k → ∃ b, spec_pzHidden.l0 k l (i : Int) = some b ∧ (b = true ↔ upB l i l.length) := by
  intro d
  induction d with
  | zero =>
    intro k i h1 hi hk
    obtain ⟨k, rfl⟩ := k_succ hk
    refine ⟨true, ?_, ?_⟩
    · simp only [spec_pzHidden.l0]
      rw [if_neg (by omega)]
    · simp only [true_iff]
      intro m h2 h3
      omega
  | succ d ih =>
    intro k i h1 hi hk
    obtain ⟨k, rfl⟩ := k_succ hk
    have hlt : i < l.length := by omega
    have hw : wrap64 ((i : Int) - 1) = (i : Int) - 1 := wrap_id (by omega) (by omega)
    simp only [spec_pzHidden.l0]
    rw [if_pos (by omega), hw, if_pos (by omega), if_pos (by omega), if_pos (by omega), wrap_succ hlt (by omega)]
    by_cases hgt : rd l ((i : Int) - 1) > rd l (i : Int)
    · rw [if_pos hgt]
      refine ⟨false, rfl, ?_⟩
      simp only [Bool.false_eq_true, false_iff]
      intro h
      have := h i (Nat.le_refl _) hlt
      omega
    · rw [if_neg hgt]
      obtain ⟨b, hb, hiff⟩ := ih k (i + 1) (by omega) (by omega) (by omega)
      refine ⟨b, hb, hiff.trans ⟨fun h m h2 h3 => ?_, fun h m h2 h3 => h m (by omega) h3⟩⟩
      by_cases e : m = i
      · subst e; omega
      · exact h m (by omega) h3
theorem isSorted_l0 {l : List Int} (hn : l.length ≤ 1048576) : ∀ (i k : Nat), i < l.length ∨ i = 0 → i < k → ∃ b, slices_IsSorted_int_int.l0 k l (i : Int) = some b ∧ (b = true ↔ upB l 1 (i + 1)) := by
  intro i
  induction i with
  | zero =>
    intro k _ hk
    obtain ⟨k, rfl⟩ := k_succ hk
    refine ⟨true, ?_, ?_⟩
    · simp only [slices_IsSorted_int_int.l0]
      rw [if_neg (by omega)]
    · simp only [true_iff]
      intro m h2 h3
      omega
  | succ i ih =>
    intro k hi hk
    obtain ⟨k, rfl⟩ := k_succ hk
    have hw : wrap64 (((i + 1 : Nat) : Int) - 1) = (i : Int) := by rw [wrap_id (by omega) (by omega)]; omega
    simp only [slices_IsSorted_int_int.l0]
    rw [if_pos (by omega), if_pos (by omega), if_pos (by omega), hw, if_pos (by omega), if_pos (by omega)]
    have hl : cmp_Less_int.f (rd l ((i + 1 : Nat) : Int)) (rd l (i : Int)) = some (decide (rd l ((i + 1 : Nat) : Int) < rd l (i : Int))) := by
      unfold cmp_Less_int.f cmp_isNaN_int.f
      simp
    rw [hl, Option.bind_some]
    by_cases hgt : rd l ((i + 1 : Nat) : Int) < rd l (i : Int)
    · rw [if_pos (by simpa using hgt)]
      refine ⟨false, rfl, ?_⟩
      simp only [Bool.false_eq_true, false_iff]
      intro h
      have := h (i + 1) (by omega) (by omega)
      rw [show ((i + 1 : Nat) : Int) - 1 = (i : Int) by omega] at this
      omega
    · rw [if_neg (by simpa using hgt)]
      obtain ⟨b, hb, hiff⟩ := ih k (by omega) (by omega)
      refine ⟨b, hb, hiff.trans ⟨fun h m h2 h3 => ?_, fun h m h2 h3 => h m h2 (by omega)⟩⟩
      by_cases e : m = i + 1
      · subst e
        rw [show ((i + 1 : Nat) : Int) - 1 = (i : Int) by omega]
        omega
      · exact h m h2 (by omega)
/-- Hidden times. -/
theorem hid_both {l : List Int} (hn : l.length ≤ 1048576) {k : Nat} (hk : l.length + 1 < k) : ∃ b, spec_pzHidden.f k l = some b ∧ impl_IsHidden.f k l = some b ∧ (b = true → (1 ≤ l.length ∧ l.length ≤ 4) ∧ (l.all fun x => inB x 1 6) = true ∧ upB l 1 l.length) := by
  unfold spec_pzHidden.f spec_pzPeople.f impl_IsHidden.f
  rw [l1In_eq, areIn_eq, l1All_eq (by omega) 1 6 (by omega)]
  simp only [Option.bind_some]
  obtain ⟨m, rfl⟩ := k_succ hk
  cases h1 : inB (l.length : Int) 1 4
  · exact ⟨false, by simp [spec_pzHidden.j0], by simp, by simp⟩
  · cases h2 : l.all fun x => inB x 1 6
    · exact ⟨false, by simp [spec_pzHidden.j0], by simp, by simp⟩
    · rw [inB_true] at h1
      obtain ⟨b, hb, hbi⟩ := pzHidden_l0 hn (l.length - 1) m 1 (by omega) (by omega) (by omega)
      obtain ⟨c, hc, hci⟩ := isSorted_l0 hn (l.length - 1) (m + 1) (by omega) (by omega)
      have e : b = c := by
        rw [Bool.eq_iff_iff, hbi, hci, show l.length - 1 + 1 = l.length by omega]
      subst e
      refine ⟨b, ?_, ?_, fun hb2 => ⟨by omega, rfl, hbi.1 hb2⟩⟩
      · simp only [if_true, Bool.not_true, spec_pzHidden.j0, Bool.false_eq_true, if_false]
        rw [show ((1 : Nat) : Int) = 1 by rfl] at hb
        rw [hb]
      · simp only [Bool.and_self, if_true]
        unfold slices_IsSorted_int_int.f
        rw [show wrap64 ((l.length : Int) - 1) = ((l.length - 1 : Nat) : Int) by rw [wrap_id (by omega) (by omega)]; omega, hc]
        rfl
/-- The model's value of a kind is what the program tells. -/
def chkK (l : List Int) (kd : Int) : Bool := match spec_pzValue.f 40 kd 0 l with
  | some v => decide (impl_told.f 40 kd 0 l = some (kd, v, 0))
  | none => false
def chkP (l : List Int) (kd : Int) (i : Nat) : Bool := match spec_pzValue.f 40 kd (i : Int) l with
  | some v => decide (impl_told.f 40 kd (i : Int) l = some (kd, (i : Int), v))
  | none => false
def chk (l : List Int) : Bool := (chkK l 1 && (chkK l 2 && (chkK l 3 && chkK l 5))) && (List.range l.length).all fun i => chkP l 0 i && chkP l 4 i
def six : List Int := [1, 2, 3, 4, 5, 6]
theorem mem6 {a : Int} (h : inB a 1 6 = true) : a ∈ six := by
  rw [inB_true] at h
  simp [six]
  omega
theorem all1 : (six.all fun a => chk [a]) = true := by decide +kernel
theorem all2 : (six.all fun a => six.all fun b => decide (b < a) || chk [a, b]) = true := by decide +kernel
theorem all3 : (six.all fun a => six.all fun b => decide (b < a) || six.all fun c => decide (c < b) || chk [a, b, c]) = true := by decide +kernel
theorem all4 : (six.all fun a => six.all fun b => decide (b < a) || six.all fun c => decide (c < b) || six.all fun d => decide (d < c) || chk [a, b, c, d]) = true := by decide +kernel
theorem chk_of {l : List Int} (h : 1 ≤ l.length ∧ l.length ≤ 4) (hx : (l.all fun x => inB x 1 6) = true) (hu : upB l 1 l.length) : chk l = true := by
  match l, h with
  | [a], _ =>
    simp only [List.all_cons, List.all_nil, Bool.and_true] at hx
    exact List.all_eq_true.1 all1 a (mem6 hx)
  | [a, b], _ =>
    simp only [List.all_cons, List.all_nil, Bool.and_true, Bool.and_eq_true] at hx
    have u1 : a ≤ b := hu 1 (by decide) (by simp)
    have h1 := List.all_eq_true.1 (List.all_eq_true.1 all2 a (mem6 hx.1)) b (mem6 hx.2)
    rw [decide_eq_false (by omega), Bool.false_or] at h1
    exact h1
  | [a, b, c], _ =>
    simp only [List.all_cons, List.all_nil, Bool.and_true, Bool.and_eq_true] at hx
    have u1 : a ≤ b := hu 1 (by decide) (by simp)
    have u2 : b ≤ c := hu 2 (by decide) (by simp)
    have h1 := List.all_eq_true.1 (List.all_eq_true.1 all3 a (mem6 hx.1)) b (mem6 hx.2.1)
    rw [decide_eq_false (by omega), Bool.false_or] at h1
    have h2 := List.all_eq_true.1 h1 c (mem6 hx.2.2)
    rw [decide_eq_false (by omega), Bool.false_or] at h2
    exact h2
  | [a, b, c, d], _ =>
    simp only [List.all_cons, List.all_nil, Bool.and_true, Bool.and_eq_true] at hx
    have u1 : a ≤ b := hu 1 (by decide) (by simp)
    have u2 : b ≤ c := hu 2 (by decide) (by simp)
    have u3 : c ≤ d := hu 3 (by decide) (by simp)
    have h1 := List.all_eq_true.1 (List.all_eq_true.1 all4 a (mem6 hx.1)) b (mem6 hx.2.1)
    rw [decide_eq_false (by omega), Bool.false_or] at h1
    have h2 := List.all_eq_true.1 h1 c (mem6 hx.2.2.1)
    rw [decide_eq_false (by omega), Bool.false_or] at h2
    have h3 := List.all_eq_true.1 h2 d (mem6 hx.2.2.2)
    rw [decide_eq_false (by omega), Bool.false_or] at h3
    exact h3
theorem val_K {l : List Int} {kd : Int} (h : chkK l kd = true) : ∃ v, ∀ k, 40 ≤ k → spec_pzValue.f k kd 0 l = some v ∧ impl_told.f k kd 0 l = some (kd, v, 0) := by
  unfold chkK at h
  cases hv : spec_pzValue.f 40 kd 0 l with
  | none => rw [hv] at h; cases h
  | some v =>
    rw [hv] at h
    exact ⟨v, fun k hk => ⟨at_rounds (fun k => spec_pzValue.mono kd 0 l k) hk hv, at_rounds (fun k => impl_told.mono kd 0 l k) hk (of_decide_eq_true h)⟩⟩
theorem val_P {l : List Int} {kd : Int} {i : Nat} (h : chkP l kd i = true) : ∃ v, ∀ k, 40 ≤ k → spec_pzValue.f k kd (i : Int) l = some v ∧ impl_told.f k kd (i : Int) l = some (kd, (i : Int), v) := by
  unfold chkP at h
  cases hv : spec_pzValue.f 40 kd (i : Int) l with
  | none => rw [hv] at h; cases h
  | some v =>
    rw [hv] at h
    exact ⟨v, fun k hk => ⟨at_rounds (fun k => spec_pzValue.mono kd (i : Int) l k) hk hv, at_rounds (fun k => impl_told.mono kd (i : Int) l k) hk (of_decide_eq_true h)⟩⟩
theorem told_any {k : Nat} {kd : Int} (h0 : kd ≠ 0) (h4 : kd ≠ 4) (x y : Int) (l : List Int) : impl_told.f k kd x l = impl_told.f k kd y l := by
  unfold impl_told.f
  simp [h0, h4]
theorem fits_K {l : List Int} {kd a : Int} (h0 : kd ≠ 0) (h4 : kd ≠ 4) (h : chkK l kd = true) {k : Nat} (hk : 41 < k) : ∃ r, spec_pzFits.f k kd a 0 l = some r ∧ impl_Clue_fits.f k kd a 0 l = some r := by
  obtain ⟨k, rfl⟩ := k_succ hk
  obtain ⟨v, hv⟩ := val_K h
  unfold spec_pzFits.f impl_Clue_fits.f
  rw [if_neg h0, told_any h0 h4 _ 0, (hv (k + 1) (by omega)).2, Option.bind_some]
  have e4 : (kd == 4) = false := by rw [beq_eq_false_iff_ne]; exact h4
  simp only [spec_pzFits.j0]
  rw [e4, if_neg (by simp), (hv k (by omega)).1, Option.bind_some]
  exact ⟨_, rfl, by simp⟩
theorem fits_P {l : List Int} (hn : 1 ≤ l.length ∧ l.length ≤ 4) {kd a b : Int} (hkd : kd = 0 ∨ kd = 4) (ha : 0 ≤ a ∧ a ≤ (l.length : Int) - 1) (h : chk l = true) {k : Nat} (hk : 41 < k) : ∃ r, spec_pzFits.f k kd a b l = some r ∧ impl_Clue_fits.f k kd a b l = some r := by
  obtain ⟨k, rfl⟩ := k_succ hk
  obtain ⟨i, rfl⟩ : ∃ i : Nat, a = (i : Int) := ⟨a.toNat, by omega⟩
  unfold chk at h
  simp only [Bool.and_eq_true] at h
  have hp := List.all_eq_true.1 h.2 i (by rw [List.mem_range]; omega)
  simp only [Bool.and_eq_true] at hp
  have hpk : chkP l kd i = true := by rcases hkd with rfl | rfl; exact hp.1; exact hp.2
  obtain ⟨v, hv⟩ := val_P hpk
  have em : mn (i : Int) (wrap64 ((l.length : Int) - 1)) = (i : Int) := by
    rw [wrap_id (by omega) (by omega)]
    unfold mn
    split <;> omega
  have ej : spec_pzFits.f (k + 1) kd (i : Int) b l = some (v == b) := by
    unfold spec_pzFits.f
    rcases hkd with rfl | rfl
    · rw [if_pos rfl]
      simp only [spec_pzFits.j0]
      rw [if_pos trivial, (hv k (by omega)).1, Option.bind_some]
    · rw [if_neg (by decide)]
      simp only [spec_pzFits.j0]
      rw [if_pos (by rfl), (hv k (by omega)).1, Option.bind_some]
  refine ⟨_, ej, ?_⟩
  unfold impl_Clue_fits.f
  rw [em, (hv (k + 1) (by omega)).2, Option.bind_some]
  simp
theorem fits_both {l : List Int} (h1 : 1 ≤ l.length ∧ l.length ≤ 4) (hc : chk l = true) {kd a b : Int} (ht : clueT (l.length : Int) kd a b = true) {k : Nat} (hk : 41 < k) : ∃ r, spec_pzFits.f k kd a b l = some r ∧ impl_Clue_fits.f k kd a b l = some r := by
  have hc2 := hc
  unfold chk at hc2
  simp only [Bool.and_eq_true] at hc2
  obtain ⟨⟨c1, c2, c3, c5⟩, -⟩ := hc2
  unfold clueT at ht
  by_cases k0 : kd = 0
  · rw [if_pos k0] at ht
    simp only [Bool.and_eq_true, inB_true] at ht
    exact fits_P h1 (Or.inl k0) ht.1 hc hk
  · rw [if_neg k0] at ht
    by_cases k4 : kd = 4
    · rw [if_pos k4] at ht
      simp only [Bool.and_eq_true, inB_true] at ht
      exact fits_P h1 (Or.inr k4) ht.1 hc hk
    · rw [if_neg k4] at ht
      by_cases k1 : kd = 1
      · rw [if_pos k1] at ht
        simp only [Bool.and_eq_true, decide_eq_true_eq] at ht
        rw [ht.2, k1]
        exact fits_K (by decide) (by decide) c1 hk
      · rw [if_neg k1] at ht
        by_cases k2 : kd = 2 ∨ kd = 3
        · rw [if_pos k2] at ht
          simp only [Bool.and_eq_true, decide_eq_true_eq] at ht
          rw [ht.2]
          rcases k2 with rfl | rfl
          · exact fits_K (by decide) (by decide) c2 hk
          · exact fits_K (by decide) (by decide) c3 hk
        · rw [if_neg k2] at ht
          by_cases k5 : kd = 5
          · rw [if_pos k5] at ht
            simp only [Bool.and_eq_true, decide_eq_true_eq] at ht
            rw [ht.2, k5]
            exact fits_K (by decide) (by decide) c5 hk
          · rw [if_neg k5] at ht
            cases ht
theorem both (kd a b : Int) {l : List Int} (hn : l.length ≤ 1048576) {k : Nat} (hk : l.length + 60 < k) : ∃ r, spec_DoesFit.f k kd a b l = some r ∧ impl_DoesFit.f k kd a b l = some r := by
  unfold spec_DoesFit.f impl_DoesFit.f
  obtain ⟨h, e1, e2, e3⟩ := hid_both hn (k := k) (by omega)
  rw [e1, e2, Option.bind_some, Option.bind_some]
  cases h
  · exact ⟨_, by rw [if_neg (by simp)], by rw [if_neg (by simp)]⟩
  · obtain ⟨h1, h2, h3⟩ := e3 rfl
    have hc := chk_of h1 h2 h3
    have hin : inB (l.length : Int) 1 4 = true := inB_true.2 (by omega)
    rw [if_pos rfl, if_pos rfl, pzClue_eq hin (by omega), IsClue_eq (by omega), hin, Bool.true_and, Option.bind_some, Option.bind_some]
    cases ht : clueT (l.length : Int) kd a b
    · exact ⟨_, by rw [if_neg (by simp)], by rw [if_neg (by simp)]⟩
    · obtain ⟨r, f1, f2⟩ := fits_both h1 hc ht (k := k) (by omega)
      rw [if_pos rfl, if_pos rfl, f1, f2]
      exact ⟨_, rfl, rfl⟩
theorem pure : ∀ (a0_0 : Int) (a0_1 : Int) (a0_2 : Int) (l1 : List Int), Opn.okI a0_0 → Opn.okI a0_1 → Opn.okI a0_2 → (∀ y0 ∈ l1, Opn.okI y0) → l1.length ≤ 9223372036854775807 → ∃ k, laws_FnExactDoesFit.f k a0_0 a0_1 a0_2 l1 = some true := by
  intro kd a b l _ _ _ _ hn
  refine ⟨l.length + 101, ?_⟩
  unfold laws_FnExactDoesFit.f
  by_cases hg : (l.length : Int) > 1048576
  · rw [if_pos hg]
  · rw [if_neg hg]
    obtain ⟨r, e1, e2⟩ := both kd a b (l := l) (by omega) (k := l.length + 101) (by omega)
    unfold laws_toClue.f
    rw [toIntS_eq (by omega) (by omega)]
    simp only [Option.bind_some, e1, e2]
    rw [if_neg (by simp)]
    simp only [laws_FnExactDoesFit.j0]
    rw [if_neg (by simp), toIntS_eq (by omega) (by omega), Option.bind_some, eqIntS_eq hn (by omega), Option.bind_some, if_pos rfl]

end Go.Proofs.Ytkgbahokhifojaa.fnExactDoesFit
