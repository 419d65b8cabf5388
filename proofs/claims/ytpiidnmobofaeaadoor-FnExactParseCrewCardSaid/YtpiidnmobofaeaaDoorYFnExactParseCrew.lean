/- FnExactParseCrew, the plain statement: what the printed functions compute makes the law's function return true. Conditions: the numbers are of their kind. -/
import Derived.Test.YtpiidnmobofaeaaDoorOpn
import Derived.Test.YtpiidnmobofaeaaDoorQFnExactParseCrewx7
namespace Go.Proofs.YtpiidnmobofaeaaDoor.fnExactParseCrew
open Go.RowKit Go.Proofs.YtpiidnmobofaeaaDoorW.PrintWords Go.Proofs.YtpiidnmobofaeaaDoorW.PrintLast Go.Proofs.YtpiidnmobofaeaaDoorW.PrintMore Go.Proofs.YtpiidnmobofaeaaDoor.QFnExactParseCrew
set_option linter.unusedVariables false
set_option linter.unusedSimpArgs false

/-- x lies between a and b. -/
def inB (x a b : Int) : Bool := decide (a ≤ x) && decide (x ≤ b)
theorem inB_true {x a b : Int} : inB x a b = true ↔ a ≤ x ∧ x ≤ b := by simp [inB]
theorem wrap_id {n : Int} (h0 : -9223372036854775808 ≤ n) (h1 : n ≤ 9223372036854775807) : wrap64 n = n := by
  unfold wrap64
  omega
theorem wrap_succ {i n : Nat} (h : i < n) (hn : n ≤ 9223372036854775807) : wrap64 ((i : Int) + 1) = ((i + 1 : Nat) : Int) := by
  unfold wrap64
  omega
theorem getD_take {α : Type} (l : List α) (i : Nat) (h : i < l.length) (z : α) : l.take (i + 1) = l.take i ++ [l.getD i z] := by
  rw [List.take_succ_eq_append_getElem h, List.getD_eq_getElem?_getD, List.getElem?_eq_getElem h]
  rfl
theorem getD_drop {α : Type} (l : List α) (i : Nat) (h : i < l.length) (z : α) : l.drop i = l.getD i z :: l.drop (i + 1) := by
  rw [List.drop_eq_getElem_cons h, List.getD_eq_getElem?_getD, List.getElem?_eq_getElem h]
  rfl
theorem set_take {α : Type} (l : List α) (i : Nat) (h : i < l.length) (v : α) : (l.set i v).take (i + 1) = l.take i ++ [v] := by
  rw [List.take_succ_eq_append_getElem (by rw [List.length_set]; exact h), List.take_set_of_le (Nat.le_refl i), List.getElem_set_self]
theorem k_succ {k d : Nat} (h : d < k) : ∃ m, k = m + 1 := ⟨k - 1, by omega⟩
theorem getD_map_at {α β : Type} (f : α → β) (l : List α) (i : Nat) (h : i < l.length) (z : α) (y : β) : (l.map f).getD i y = f (l.getD i z) := by
  rw [List.getD_eq_getElem?_getD, List.getD_eq_getElem?_getD, List.getElem?_map, List.getElem?_eq_getElem h]
  rfl
/-- A text by its bytes. -/
def bs (l : List UInt8) : ByteArray := ⟨l.toArray⟩
theorem bs_app (l m : List UInt8) : bs l ++ bs m = bs (l ++ m) := by
  apply ByteArray.ext
  simp [bs, ByteArray.data_append]
theorem bs_size (l : List UInt8) : (bs l).size = l.length := by simp [bs, ByteArray.size]
theorem bs_nums (xs : List Int) : strOfNums xs = bs (xs.map fun n => UInt8.ofNat n.toNat) := rfl
theorem l1In_eq (x a b : Int) : spec_l1In.f x a b = some (inB x a b) := by
  unfold spec_l1In.f inB
  by_cases h : a ≤ x <;> simp [h]
theorem in_eq (x a b : Int) : impl_in.f x a b = some (inB x a b) := by
  unfold impl_in.f inB
  by_cases h : a ≤ x <;> simp [h]
theorem eqIntS_l0 {l : List Int} (hn : l.length ≤ 9223372036854775807) : ∀ (d k i : Nat), i + d = l.length → d < k → laws_eqIntS.l0 k l l (i : Int) = some true := by
  intro d
  induction d with
  | zero =>
    intro k i hi hk
    obtain ⟨k, rfl⟩ := k_succ hk
    simp only [laws_eqIntS.l0]
    rw [if_neg (by omega)]
  | succ d ih =>
    intro k i hi hk
    obtain ⟨k, rfl⟩ := k_succ hk
    have hlt : i < l.length := by omega
    simp only [laws_eqIntS.l0]
    rw [if_pos (by omega), if_pos (by omega), if_pos (by omega), if_pos trivial, wrap_succ hlt hn]
    exact ih k (i + 1) (by omega) (by omega)
theorem eqIntS_eq {l : List Int} (hn : l.length ≤ 9223372036854775807) {k : Nat} (hk : l.length < k) : laws_eqIntS.f k l l = some true := by
  unfold laws_eqIntS.f
  rw [if_pos rfl]
  exact eqIntS_l0 hn l.length k 0 (by omega) hk
theorem eqBoolS_l0 {l : List Bool} (hn : l.length ≤ 9223372036854775807) : ∀ (d k i : Nat), i + d = l.length → d < k → laws_eqBoolS.l0 k l l (i : Int) = some true := by
  intro d
  induction d with
  | zero =>
    intro k i hi hk
    obtain ⟨k, rfl⟩ := k_succ hk
    simp only [laws_eqBoolS.l0]
    rw [if_neg (by omega)]
  | succ d ih =>
    intro k i hi hk
    obtain ⟨k, rfl⟩ := k_succ hk
    have hlt : i < l.length := by omega
    simp only [laws_eqBoolS.l0]
    rw [if_pos (by omega), if_pos (by omega), if_pos (by omega), if_neg (by simp), wrap_succ hlt hn]
    exact ih k (i + 1) (by omega) (by omega)
theorem eqBoolS_eq {l : List Bool} (hn : l.length ≤ 9223372036854775807) {k : Nat} (hk : l.length < k) : laws_eqBoolS.f k l l = some true := by
  unfold laws_eqBoolS.f
  rw [if_pos rfl]
  exact eqBoolS_l0 hn l.length k 0 (by omega) hk
theorem l1All_l0 {l : List Int} (hn : l.length ≤ 9223372036854775807) (a b : Int) : ∀ (d k i : Nat), i + d = l.length → d < k → spec_l1All.l0 k a b l (l.length : Int) (i : Int) = some ((l.drop i).all fun x => inB x a b) := by
  intro d
  induction d with
  | zero =>
    intro k i hi hk
    obtain ⟨k, rfl⟩ := k_succ hk
    simp only [spec_l1All.l0]
    rw [if_neg (by omega), show i = l.length by omega, List.drop_length]
    rfl
  | succ d ih =>
    intro k i hi hk
    obtain ⟨k, rfl⟩ := k_succ hk
    have hlt : i < l.length := by omega
    simp only [spec_l1All.l0]
    rw [if_pos (by omega), if_pos (by omega), if_pos (by omega), l1In_eq, Option.bind_some, wrap_succ hlt hn, ih k (i + 1) (by omega) (by omega), getD_drop l i hlt 0, List.all_cons]
    show (if inB (l.getD i 0) a b = true then _ else _) = _
    cases inB (l.getD i 0) a b <;> simp
theorem l1All_eq {l : List Int} (hn : l.length ≤ 9223372036854775807) (a b : Int) {k : Nat} (hk : l.length < k) : spec_l1All.f k l a b = some (l.all fun x => inB x a b) := by
  unfold spec_l1All.f
  exact l1All_l0 hn a b l.length k 0 (by omega) hk
theorem areIn_eq (l : List Int) (a b c d : Int) : impl_areIn.f l a b c d = some (inB (l.length : Int) c d && l.all fun x => inB x a b) := by
  unfold impl_areIn.f inB
  simp [List.not_any_eq_all_not]
/-- A number's text. -/
def numT (n : Int) : List UInt8 := Lib.decDigits n.toNat
theorem itoa_eq {n : Int} (h0 : 0 ≤ n) (h1 : n ≤ 9223372036854775807) : strconv_Itoa.f n = some (bs (numT n)) := by
  unfold strconv_Itoa.f Lib.itoa
  rw [if_pos (by omega), if_pos h1, if_neg (by omega)]
  rfl
theorem numT_small {n : Int} (h0 : 0 ≤ n) (h : n < 10) : numT n = [UInt8.ofNat (48 + n.toNat)] := by
  unfold numT
  rw [Lib.decDigits_one (by omega)]
theorem numT_step {n : Int} (h0 : 0 ≤ n) (h : ¬ n < 10) : numT n = numT (n / 10) ++ [UInt8.ofNat (48 + n % 10).toNat] := by
  unfold numT
  rw [Lib.decDigits, dif_neg (by omega)]
  have e1 : n.toNat / 10 = (n / 10).toNat := by omega
  have e2 : 48 + n.toNat % 10 = (48 + n % 10).toNat := by omega
  rw [e1, e2]
theorem dec_len : ∀ (d n : Nat), n < 10 ^ (d + 1) → (Lib.decDigits n).length ≤ d + 1 := by
  intro d
  induction d with
  | zero =>
    intro n h
    rw [Lib.decDigits_one (by simpa using h)]
    simp
  | succ d ih =>
    intro n h
    by_cases h10 : n < 10
    · rw [Lib.decDigits_one h10]
      simp
    · rw [Lib.decDigits, dif_neg h10, List.length_append]
      have hp : 10 ^ (d + 1 + 1) = 10 ^ (d + 1) * 10 := Nat.pow_succ ..
      have := ih (n / 10) (by omega)
      simp only [List.length_cons, List.length_nil]
      omega
theorem numT_4 {n : Int} (h0 : 0 ≤ n) (h1 : n < 10000) : (numT n).length ≤ 4 := dec_len 3 n.toNat (by omega)
theorem numT_6 {n : Int} (h0 : 0 ≤ n) (h1 : n < 1000000) : (numT n).length ≤ 6 := dec_len 5 n.toNat (by omega)
/-- Numbers with commas between. -/
def numsT : List Int → List UInt8
  | [] => []
  | x :: r => numT x ++ Lib.joinTail [44] (r.map numT)
theorem joinTail_cons (sep : List UInt8) (x : List UInt8) (r : List (List UInt8)) : Lib.joinTail sep (x :: r) = sep ++ x ++ Lib.joinTail sep r := by simp [Lib.joinTail]
theorem joinTail_len (r : List Int) (h : ∀ x ∈ r, 0 ≤ x ∧ x < 10000) : (Lib.joinTail [44] (r.map numT)).length ≤ 5 * r.length := by
  induction r with
  | nil => simp [Lib.joinTail]
  | cons x r ih =>
    have := ih (fun y hy => h y (List.mem_cons_of_mem _ hy))
    have h4 := numT_4 (h x List.mem_cons_self).1 (h x List.mem_cons_self).2
    rw [List.map_cons, joinTail_cons]
    simp only [List.length_append, List.length_cons, List.length_nil]
    omega
theorem numsT_len (r : List Int) (h : ∀ x ∈ r, 0 ≤ x ∧ x < 10000) : (numsT r).length ≤ 5 * r.length := by
  cases r with
  | nil => simp [numsT]
  | cons x r =>
    have := joinTail_len r (fun y hy => h y (List.mem_cons_of_mem _ hy))
    have h4 := numT_4 (h x List.mem_cons_self).1 (h x List.mem_cons_self).2
    simp only [numsT, List.length_append, List.length_cons]
    omega
theorem all_in {l : List Int} {a b : Int} (h : (l.all fun x => inB x a b) = true) (ha : 0 ≤ a) (hb : b < 10000) : ∀ x ∈ l, 0 ≤ x ∧ x < 10000 := by
  intro x hx
  have := inB_true.1 (List.all_eq_true.1 h x hx)
  omega
theorem mem_getD {α : Type} {l : List α} {i : Nat} (h : i < l.length) (z : α) : l.getD i z ∈ l := by
  rw [List.getD_eq_getElem?_getD, List.getElem?_eq_getElem h]
  exact List.getElem_mem h
/-- A member's text: the weight, and a letter for one who rows. -/
def crT (p : Int × Bool) : List UInt8 := numT p.1 ++ (if p.2 = true then [114] else [])
theorem crT_len {p : Int × Bool} (h0 : 0 ≤ p.1) (h1 : p.1 < 10000) : (crT p).length ≤ 5 := by
  have := numT_4 h0 h1
  unfold crT
  split <;> simp <;> omega
theorem zip_getD {l : List Int} {o : List Bool} {i : Nat} (h : i < l.length) (h2 : i < o.length) : (l.zip o).getD i (0, false) = (l.getD i 0, o.getD i false) := by
  have hz : i < (l.zip o).length := by rw [List.length_zip]; omega
  rw [List.getD_eq_getElem?_getD, List.getD_eq_getElem?_getD, List.getD_eq_getElem?_getD, List.getElem?_eq_getElem hz, List.getElem?_eq_getElem h, List.getElem?_eq_getElem h2]
  simp
/-- Members with commas between. -/
def crewsT (z : List (Int × Bool)) : List UInt8 := Lib.join (z.map crT) [44]
theorem crTail_len (r : List (Int × Bool)) (h : ∀ c ∈ r, 0 ≤ c.1 ∧ c.1 < 10000) : (Lib.joinTail [44] (r.map crT)).length ≤ 6 * r.length := by
  induction r with
  | nil => simp [Lib.joinTail]
  | cons x r ih =>
    have := ih (fun y hy => h y (List.mem_cons_of_mem _ hy))
    have h4 := crT_len (h x List.mem_cons_self).1 (h x List.mem_cons_self).2
    rw [List.map_cons, joinTail_cons]
    simp only [List.length_append, List.length_cons, List.length_nil]
    omega
theorem crewsT_len (r : List (Int × Bool)) (h : ∀ c ∈ r, 0 ≤ c.1 ∧ c.1 < 10000) : (crewsT r).length ≤ 6 * r.length := by
  cases r with
  | nil => simp [crewsT, Lib.join_nil]
  | cons x r =>
    have := crTail_len r (fun y hy => h y (List.mem_cons_of_mem _ hy))
    have h4 := crT_len (h x List.mem_cons_self).1 (h x List.mem_cons_self).2
    rw [crewsT, List.map_cons, Lib.join_cons]
    simp only [List.length_append, List.length_cons]
    omega
/-- The text of a crew. -/
def crewT (l : List Int) (o : List Bool) (s : Int) : List UInt8 := numT s ++ [61] ++ crewsT (l.zip o)
theorem zip_small {l : List Int} {o : List Bool} (h : ∀ x ∈ l, 0 ≤ x ∧ x < 10000) : ∀ c ∈ l.zip o, 0 ≤ c.1 ∧ c.1 < 10000 := by
  rintro ⟨a, b⟩ hc
  exact h _ (List.of_mem_zip hc).1
theorem repeat_eq (b : Bool) : (impl_bit.f b).bind (fun t => strings_Repeat.f (⟨#[114]⟩ : ByteArray) t) = some (bs (if b = true then [114] else [])) := by
  cases b
  · simp [impl_bit.f, strings_Repeat.f, bs]
  · simp [impl_bit.f, strings_Repeat.f, bs]
theorem crew_l0 {l : List Int} {o : List Bool} (ho : o.length = l.length) (hn : l.length ≤ 1000) (h : ∀ x ∈ l, 0 ≤ x ∧ x < 10000) {s : Int} (h0 : 0 ≤ s) (h1 : s < 10000) : ∀ (d k i : Nat), i + d = l.length → d < k →
    impl_Crew_text.l0 k (((l.zip o).take i).map fun c => bs (crT c)) l (l.length : Int) (i : Int) l o s = some (bs (crewT l o s)) := by
  intro d
  have hzl : (l.zip o).length = l.length := by rw [List.length_zip]; omega
  induction d with
  | zero =>
    intro k i hi hk
    obtain ⟨k, rfl⟩ := k_succ hk
    simp only [impl_Crew_text.l0]
    rw [if_neg (by omega), List.take_of_length_le (by omega), itoa_eq h0 (by omega)]
    unfold strings_Join.f
    have e : (((l.zip o).map fun c => bs (crT c)).map (·.data.toList)) = (l.zip o).map crT := by
      rw [List.map_map]
      apply List.map_congr_left
      intro x _
      simp [bs]
    have e2 : (⟨#[44]⟩ : ByteArray).data.toList = [44] := rfl
    have hl := crewsT_len (l.zip o) (zip_small h)
    have h4 := numT_4 h0 h1
    rw [e, e2, show Lib.join ((l.zip o).map crT) [44] = crewsT (l.zip o) from rfl, if_pos (c := ((l.zip o).map fun c => bs (crT c)).length ≤ 140737488355328) (by rw [List.length_map]; omega), if_pos (c := (crewsT (l.zip o)).length ≤ 140737488355328) (by omega)]
    simp only [Option.bind_some]
    rw [show (⟨#[61]⟩ : ByteArray) = bs [61] from rfl, show (⟨(crewsT (l.zip o)).toArray⟩ : ByteArray) = bs (crewsT (l.zip o)) from rfl]
    simp only [bs_app, bs_size, List.length_append, List.length_cons, List.length_nil]
    rw [if_pos (by omega), if_pos (by omega)]
    rfl
  | succ d ih =>
    intro k i hi hk
    obtain ⟨k, rfl⟩ := k_succ hk
    have hlt : i < l.length := by omega
    have hb := h _ (mem_getD hlt 0)
    have h4 := numT_4 hb.1 hb.2
    have hstep := ih k (i + 1) (by omega) (by omega)
    rw [getD_take (l.zip o) i (by omega) (0, false), zip_getD hlt (by omega), List.map_append] at hstep
    simp only [impl_Crew_text.l0, rd, rdOf, Int.toNat_natCast]
    have hl2 : (((l.zip o).take i).map fun c => bs (crT c)).length = i := by rw [List.length_map, List.length_take]; omega
    rw [wrap_succ hlt (by omega), hl2, itoa_eq hb.1 (by omega)]
    simp only [Option.bind_some]
    rw [if_pos (by omega), if_pos (by omega), if_pos (by omega), if_pos (by omega)]
    have hr := repeat_eq (o.getD i false)
    obtain ⟨t, ht, hr2⟩ := Option.bind_eq_some_iff.mp hr
    rw [ht, Option.bind_some, hr2, Option.bind_some]
    simp only [bs_app, bs_size]
    rw [if_pos (by split <;> (simp only [List.length_cons, List.length_nil]; omega)), if_pos (by omega)]
    exact hstep
theorem crew_eq {l : List Int} {o : List Bool} (ho : o.length = l.length) (hn : l.length ≤ 1000) (h : ∀ x ∈ l, 0 ≤ x ∧ x < 10000) {s : Int} (h0 : 0 ≤ s) (h1 : s < 10000) {k : Nat} (hk : l.length < k) : impl_Crew_text.f k l o s = some (bs (crewT l o s)) := by
  unfold impl_Crew_text.f
  exact crew_l0 ho hn h h0 h1 l.length k 0 (by omega) hk
/-- A crew. -/
def crewB (l : List Int) (o : List Bool) (s : Int) : Bool := inB (l.length : Int) 1 7 && (decide (o.length = l.length) && ((l.all fun x => inB x 1 500) && inB s 0 2000))
theorem loGood_eq {l : List Int} (hn : l.length ≤ 9223372036854775807) (o : List Bool) (s : Int) {k : Nat} (hk : l.length < k) : spec_loGood.f k l o s = some (crewB l o s) := by
  unfold spec_loGood.f crewB
  rw [l1In_eq, l1All_eq hn 1 500 hk, l1In_eq]
  simp only [Option.bind_some]
  by_cases he : o.length = l.length
  · have : (o.length : Int) = (l.length : Int) := by omega
    rw [if_pos this]
    cases inB (l.length : Int) 1 7 <;> cases (l.all fun x => inB x 1 500) <;> simp [he]
  · have : ¬ (o.length : Int) = (l.length : Int) := by omega
    rw [if_neg this]
    cases inB (l.length : Int) 1 7 <;> simp [he]
theorem IsCrew_eq (l : List Int) (o : List Bool) (s : Int) : impl_IsCrew.f l o s = some (crewB l o s) := by
  unfold impl_IsCrew.f crewB
  rw [areIn_eq, in_eq]
  simp only [Option.bind_some]
  by_cases he : o.length = l.length
  · have : (o.length : Int) = (l.length : Int) := by omega
    rw [if_pos this]
    cases inB (l.length : Int) 1 7 <;> cases (l.all fun x => inB x 1 500) <;> simp [he]
  · have : ¬ (o.length : Int) = (l.length : Int) := by omega
    rw [if_neg this]
    cases inB (l.length : Int) 1 7 <;> cases (l.all fun x => inB x 1 500) <;> simp [he]
theorem eqCrew_eq {l : List Int} (hn : l.length ≤ 9223372036854775807) {o : List Bool} (hm : o.length ≤ 9223372036854775807) (s : Int) {k : Nat} (hk : l.length < k) (hk2 : o.length < k) : laws_eqCrew.f k l o s l o s = some true := by
  unfold laws_eqCrew.f
  rw [eqIntS_eq hn hk, Option.bind_some, if_pos rfl, eqBoolS_eq hm hk2]
  simp
/-- A text taken apart at a sign. -/
def splitL (c : UInt8) : List UInt8 → List (List UInt8)
  | [] => [[]]
  | b :: r => if b = c then [] :: splitL c r else (b :: (splitL c r).headD []) :: (splitL c r).tail
theorem splitL_ne (c : UInt8) : ∀ l, splitL c l ≠ []
  | [] => by simp [splitL]
  | b :: r => by unfold splitL; split <;> simp
theorem splitL_cons_head (c : UInt8) (l : List UInt8) : ∃ x xs, splitL c l = x :: xs := by
  cases h : splitL c l with
  | nil => exact absurd h (splitL_ne c l)
  | cons x xs => exact ⟨x, xs, rfl⟩
theorem splitL_hit (c : UInt8) (r : List UInt8) : splitL c (c :: r) = [] :: splitL c r := by
  rw [splitL, if_pos rfl]
theorem splitL_miss {c b : UInt8} (h : b ≠ c) {r x : List UInt8} {xs : List (List UInt8)} (hr : splitL c r = x :: xs) : splitL c (b :: r) = (b :: x) :: xs := by
  rw [splitL, if_neg h, hr]
  rfl
theorem splitL_append (c : UInt8) : ∀ (a l : List UInt8) {x : List UInt8} {xs : List (List UInt8)}, (∀ b ∈ a, b ≠ c) → splitL c l = x :: xs → splitL c (a ++ l) = (a ++ x) :: xs
  | [], _, _, _, _, h => h
  | b :: a, l, x, xs, ha, h => by
    rw [List.cons_append, List.cons_append]
    exact splitL_miss (ha b List.mem_cons_self) (splitL_append c a l (fun q hq => ha q (List.mem_cons_of_mem _ hq)) h)
theorem splitL_none (c : UInt8) {a : List UInt8} (h : ∀ b ∈ a, b ≠ c) : splitL c a = [a] := by
  have := splitL_append c a [] (x := []) (xs := []) h rfl
  simpa using this
theorem splitL_two (c : UInt8) {a : List UInt8} (h : ∀ b ∈ a, b ≠ c) (l : List UInt8) : splitL c (a ++ c :: l) = a :: splitL c l := by
  have := splitL_append c a (c :: l) h (splitL_hit c l)
  simpa using this
/-- Put together again. -/
theorem join_splitL (c : UInt8) : ∀ l, Lib.join (splitL c l) [c] = l
  | [] => by simp [splitL, Lib.join_one]
  | b :: r => by
    have ih := join_splitL c r
    obtain ⟨x, xs, hx⟩ := splitL_cons_head c r
    by_cases h : b = c
    · subst h
      rw [splitL_hit, Lib.join_cons]
      rw [hx, Lib.join_cons] at ih
      rw [hx]
      simp only [Lib.joinTail, List.map_cons, List.flatten_cons, List.nil_append] at ih ⊢
      rw [List.append_assoc, ih]
      rfl
    · rw [splitL_miss h hx, Lib.join_cons]
      rw [hx, Lib.join_cons] at ih
      rw [List.cons_append, ih]
theorem splitL_join (c : UInt8) : ∀ (ps : List (List UInt8)), ps ≠ [] → (∀ p ∈ ps, ∀ b ∈ p, b ≠ c) → splitL c (Lib.join ps [c]) = ps
  | [], h, _ => absurd rfl h
  | [p], _, h => by rw [Lib.join_one]; exact splitL_none c (h p List.mem_cons_self)
  | p :: q :: r, _, h => by
    have ih := splitL_join c (q :: r) (by simp) (fun x hx => h x (List.mem_cons_of_mem _ hx))
    have e : Lib.join (p :: q :: r) [c] = p ++ c :: Lib.join (q :: r) [c] := by
      rw [Lib.join_cons, Lib.join_cons]
      simp [Lib.joinTail]
    rw [e, splitL_two c (h p List.mem_cons_self), ih]
theorem splitL_len (c : UInt8) : ∀ l, (splitL c l).length ≤ l.length + 1
  | [] => by simp [splitL]
  | b :: r => by
    have := splitL_len c r
    obtain ⟨x, xs, hx⟩ := splitL_cons_head c r
    rw [hx] at this
    by_cases h : b = c
    · subst h; rw [splitL_hit, hx]; simp at this ⊢; omega
    · rw [splitL_miss h hx]; simp at this ⊢; omega
theorem splitL_mem_len (c : UInt8) : ∀ l, ∀ p ∈ splitL c l, p.length ≤ l.length
  | [], p, hp => by simp [splitL] at hp; simp [hp]
  | b :: r, p, hp => by
    have ih := splitL_mem_len c r
    obtain ⟨x, xs, hx⟩ := splitL_cons_head c r
    by_cases h : b = c
    · subst h
      rw [splitL_hit] at hp
      rcases List.mem_cons.1 hp with rfl | hp
      · simp
      · have := ih p hp; simp; omega
    · rw [splitL_miss h hx] at hp
      rcases List.mem_cons.1 hp with rfl | hp
      · have := ih x (by rw [hx]; exact List.mem_cons_self); simp; omega
      · have := ih p (by rw [hx]; exact List.mem_cons_of_mem _ hp); simp; omega
theorem index_hit (c : UInt8) : ∀ (a r : List UInt8), (∀ b ∈ a, b ≠ c) → Lib.index (a ++ c :: r) [c] = (a.length : Int)
  | [], r, _ => by simp [Lib.index, List.isPrefixOf]
  | b :: a, r, h => by
    have hb : b ≠ c := h b List.mem_cons_self
    have ih := index_hit c a r (fun q hq => h q (List.mem_cons_of_mem _ hq))
    have hp : ([c] : List UInt8).isPrefixOf (b :: (a ++ c :: r)) = false := by simp [List.isPrefixOf, Ne.symm hb]
    have hq : ((a.length : Int) == -1) = false := by simp
    rw [List.cons_append, Lib.index, hp, ih, hq]
    simp
theorem index_miss (c : UInt8) : ∀ (a : List UInt8), (∀ b ∈ a, b ≠ c) → Lib.index a [c] = -1
  | [], _ => by simp [Lib.index]
  | b :: a, h => by
    have hb : b ≠ c := h b List.mem_cons_self
    have ih := index_miss c a (fun q hq => h q (List.mem_cons_of_mem _ hq))
    have hp : ([c] : List UInt8).isPrefixOf (b :: a) = false := by simp [List.isPrefixOf, Ne.symm hb]
    rw [Lib.index, hp, ih]
    simp
theorem at_sign (c : UInt8) : ∀ l : List UInt8, (∀ b ∈ l, b ≠ c) ∨ ∃ a r, l = a ++ c :: r ∧ ∀ b ∈ a, b ≠ c
  | [] => Or.inl (by simp)
  | b :: l => by
    by_cases hb : b = c
    · exact Or.inr ⟨[], l, by rw [hb]; rfl, by simp⟩
    · rcases at_sign c l with h | ⟨a, r, rfl, h⟩
      · exact Or.inl (by intro q hq; rcases List.mem_cons.1 hq with rfl | hq; exact hb; exact h q hq)
      · exact Or.inr ⟨b :: a, r, rfl, by intro q hq; rcases List.mem_cons.1 hq with rfl | hq; exact hb; exact h q hq⟩
theorem splitK_splitL (c : UInt8) : ∀ (n : Nat) (l : List UInt8), l.length ≤ n → Lib.splitK [c] 0 (Lib.count l [c]) l = splitL c l := by
  intro n
  induction n with
  | zero =>
    intro l hl
    have : l = [] := by cases l with | nil => rfl | cons _ _ => simp at hl
    subst this
    rfl
  | succ n ih =>
    intro l hl
    rcases at_sign c l with h | ⟨a, r, rfl, h⟩
    · rw [Lib.count_one, List.count_eq_zero_of_not_mem (fun hc => h c hc rfl), splitL_none c h]
      rfl
    · have e : Lib.count (a ++ c :: r) [c] = Lib.count r [c] + 1 := by
        rw [Lib.count_one, Lib.count_one, List.count_append, List.count_eq_zero_of_not_mem (fun hc => h c hc rfl), List.count_cons_self]
        omega
      have hn : ((a.length : Int) == -1) = false := by simp
      rw [e, Lib.splitK, index_hit c a r h, hn, splitL_two c h]
      have e1 : (a ++ c :: r).take ((a.length : Int).toNat + 0) = a := by simp
      have e2 : (a ++ c :: r).drop ((a.length : Int).toNat + [c].length) = r := by simp
      rw [e1, e2, ih r (by simp at hl; omega)]
      simp
theorem bs_data (s : ByteArray) : bs s.data.toList = s := Lib.mk_data s
theorem data_bs (l : List UInt8) : (bs l).data.toList = l := by simp [bs]
theorem splitB_eq (c : UInt8) (l : List UInt8) : Lib.splitB ⟨#[c]⟩ 0 (Lib.countB (bs l) ⟨#[c]⟩) (bs l) = (splitL c l).map bs := by
  have h := Lib.splitB_data ⟨#[c]⟩ 0 (Lib.countB (bs l) ⟨#[c]⟩) (bs l)
  have e : ∀ xs : List ByteArray, (xs.map (·.data.toList)).map bs = xs := by
    intro xs
    rw [List.map_map]
    conv => rhs; rw [← List.map_id xs]
    apply List.map_congr_left
    intro x _
    exact bs_data x
  rw [← e (Lib.splitB ⟨#[c]⟩ 0 (Lib.countB (bs l) ⟨#[c]⟩) (bs l)), h]
  have hc : Lib.countB (bs l) ⟨#[c]⟩ = Lib.count l [c] := by
    unfold Lib.countB
    rw [data_bs]
  rw [hc, data_bs]
  exact congrArg (List.map bs) (splitK_splitL c l.length l (Nat.le_refl _))
theorem cut_hit (c : UInt8) {a : List UInt8} (r : List UInt8) (h : ∀ b ∈ a, b ≠ c) : Lib.cut (a ++ c :: r) [c] = (a, r, true) := by
  unfold Lib.cut
  rw [index_hit c a r h, if_pos (by omega)]
  simp
theorem cut_miss (c : UInt8) {a : List UInt8} (h : ∀ b ∈ a, b ≠ c) : Lib.cut a [c] = (a, [], false) := by
  unfold Lib.cut
  rw [index_miss c a h, if_neg (by omega)]
/-- A digit. -/
def isD (b : UInt8) : Bool := decide (48 ≤ b.toNat) && decide (b.toNat ≤ 57)
theorem isD_true {b : UInt8} : isD b = true ↔ 48 ≤ b.toNat ∧ b.toNat ≤ 57 := by simp [isD]
def digN (b : UInt8) : Nat := b.toNat - 48
/-- What digits spell behind others. -/
def spellN (a : Nat) (l : List UInt8) : Nat := l.foldl (fun n b => 10 * n + digN b) a
theorem spellN_nil (a : Nat) : spellN a [] = a := rfl
theorem spellN_cons (a : Nat) (b : UInt8) (r : List UInt8) : spellN a (b :: r) = spellN (10 * a + digN b) r := by
  unfold spellN
  rw [List.foldl_cons]
theorem spellN_append (l m : List UInt8) (a : Nat) : spellN a (l ++ m) = spellN (spellN a l) m := List.foldl_append
theorem spellN_ge : ∀ (l : List UInt8) (a : Nat), a ≤ spellN a l := by
  intro l
  induction l with
  | nil => intro a; exact Nat.le_refl a
  | cons b l ih =>
    intro a
    rw [spellN_cons]
    have h := ih (10 * a + digN b)
    exact Nat.le_trans (by omega) h
theorem byte_nat {d : Nat} (h : d < 256) : (UInt8.ofNat d).toNat = d := by
  rw [UInt8.toNat_ofNat']
  omega
theorem byte_of (b : UInt8) {d : Nat} (h : b.toNat = d) : UInt8.ofNat d = b := by
  rw [← h]
  exact UInt8.ofNat_toNat
theorem dec_small {n : Nat} (h : n < 10) : Lib.decDigits n = [UInt8.ofNat (48 + n)] := by rw [Lib.decDigits, dif_pos h]
theorem dec_step {n : Nat} (h : ¬ n < 10) : Lib.decDigits n = Lib.decDigits (n / 10) ++ [UInt8.ofNat (48 + n % 10)] := by rw [Lib.decDigits, dif_neg h]
theorem dec_digits (n : Nat) : (∀ b ∈ Lib.decDigits n, isD b = true) ∧ spellN 0 (Lib.decDigits n) = n ∧ Lib.decDigits n ≠ [] ∧ ∀ r, Lib.decDigits n = 48 :: r → r = [] := by
  induction n using Nat.strongRecOn with
  | ind n ih =>
    by_cases h : n < 10
    · rw [dec_small h]
      refine ⟨?_, ?_, by simp, ?_⟩
      · intro b hb
        rw [List.mem_singleton.1 hb, isD_true, byte_nat (by omega)]
        omega
      · simp only [spellN_cons, spellN_nil, digN]
        rw [byte_nat (by omega)]
        omega
      · intro r hr
        exact (List.cons.inj hr).2.symm
    · obtain ⟨i1, i2, i3, i4⟩ := ih (n / 10) (by omega)
      rw [dec_step h]
      refine ⟨?_, ?_, by simp, ?_⟩
      · intro b hb
        rcases List.mem_append.1 hb with hb | hb
        · exact i1 b hb
        · rw [List.mem_singleton.1 hb, isD_true, byte_nat (by omega)]
          omega
      · rw [spellN_append, i2]
        simp only [spellN_cons, spellN_nil, digN]
        rw [byte_nat (by omega)]
        omega
      · intro r hr
        cases hd : Lib.decDigits (n / 10) with
        | nil => exact absurd hd i3
        | cons c q =>
          rw [hd, List.cons_append] at hr
          obtain ⟨rfl, -⟩ := List.cons.inj hr
          have hq := i4 q hd
          subst hq
          rw [hd] at i2
          have e0 : spellN 0 [48] = 0 := by decide
          omega
theorem dec_behind : ∀ (l : List UInt8) (a : Nat), 0 < a → (∀ b ∈ l, isD b = true) → Lib.decDigits (spellN a l) = Lib.decDigits a ++ l
  | [], a, _, _ => by simp [spellN_nil]
  | b :: l, a, ha, h => by
    have hb := isD_true.1 (h b List.mem_cons_self)
    rw [spellN_cons, dec_behind l _ (by unfold digN; omega) (fun q hq => h q (List.mem_cons_of_mem _ hq)), dec_step (by unfold digN; omega)]
    have e1 : (10 * a + digN b) / 10 = a := by unfold digN; omega
    have e2 : UInt8.ofNat (48 + (10 * a + digN b) % 10) = b := byte_of b (by unfold digN; omega)
    rw [e1, e2, List.append_assoc]
    rfl
/-- Digits without a useless 0 are the text of what they spell. -/
theorem dec_val {t : List UInt8} (h0 : t ≠ []) (hd : ∀ b ∈ t, isD b = true) (hz : ∀ r, t = 48 :: r → r = []) : Lib.decDigits (spellN 0 t) = t := by
  cases t with
  | nil => exact absurd rfl h0
  | cons b r =>
    have hb := isD_true.1 (hd b List.mem_cons_self)
    by_cases h48 : b = 48
    · subst h48
      have hr := hz r rfl
      subst hr
      have e0 : spellN 0 [48] = 0 := by decide
      rw [e0, dec_small (by decide)]
      rfl
    · have hp : b.toNat ≠ 48 := fun e => h48 (UInt8.toNat_inj.1 e)
      rw [spellN_cons, dec_behind r _ (by unfold digN; omega) (fun q hq => hd q (List.mem_cons_of_mem _ hq)), dec_small (by unfold digN; omega)]
      have e2 : UInt8.ofNat (48 + (10 * 0 + digN b)) = b := byte_of b (by unfold digN; omega)
      rw [e2]
      rfl
theorem parse_val : ∀ (l : List UInt8) (a : Nat), (∀ b ∈ l, isD b = true) → spellN a l < 9223372036854775808 → Lib.parseUint10 a l = .ok (spellN a l)
  | [], _, _, _ => rfl
  | b :: l, a, h, hv => by
    have hb := isD_true.1 (h b List.mem_cons_self)
    have hg := spellN_ge l (10 * a + digN b)
    rw [spellN_cons] at hv ⊢
    have e : a * 10 + (b.toNat - 48) = 10 * a + digN b := by unfold digN; omega
    rw [Lib.parseUint10, if_pos hb, if_neg (by omega), if_neg (by omega), e]
    exact parse_val l _ (fun q hq => h q (List.mem_cons_of_mem _ hq)) hv
theorem atoi_dec {n : Nat} (h : n < 9223372036854775808) : Lib.atoiAll (Lib.decDigits n) = .ok (n : Int) := by
  obtain ⟨d1, d2, d3, -⟩ := dec_digits n
  cases hd : Lib.decDigits n with
  | nil => exact absurd hd d3
  | cons c r =>
    have hc := isD_true.1 (d1 c (by rw [hd]; exact List.mem_cons_self))
    have hp := parse_val (Lib.decDigits n) 0 d1 (by omega)
    rw [d2, hd] at hp
    rw [Lib.atoiAll_plain c r (by omega) (by omega), Lib.parseMag, if_neg (by simp), hp]
    simp only [Lib.signless]
    rw [if_neg (by omega)]
theorem numT_digits (n : Int) : ∀ b ∈ numT n, isD b = true := (dec_digits n.toNat).1
theorem numT_val {n : Int} (h : 0 ≤ n) : (spellN 0 (numT n) : Int) = n := by
  have := (dec_digits n.toNat).2.1
  unfold numT
  omega
theorem numT_free (n : Int) {c : UInt8} (h : isD c = false) : ∀ b ∈ numT n, b ≠ c := by
  intro b hb e
  subst e
  rw [numT_digits n b hb] at h
  cases h
theorem bt_at (l : List UInt8) (i : Nat) (h : i < l.length) : bt (bs l) (i : Int) = ((l[i]).toNat : Int) := by
  unfold bt
  have hs : (i : Int).toNat < (bs l).size := by rw [bs_size]; omega
  rw [dif_pos hs]
  rfl
theorem bs_extract (l : List UInt8) (a b : Nat) : (bs l).extract a b = bs ((l.drop a).take (b - a)) := by
  rw [Lib.extract_eq, data_bs]
  rfl
theorem byte_eq {a b : UInt8} : ((a.toNat : Int) = (b.toNat : Int)) ↔ a = b := by
  constructor
  · intro h
    exact UInt8.toNat_inj.1 (by omega)
  · intro h
    rw [h]
theorem l1Split_l0 {t : List UInt8} (hn : t.length ≤ 1048576) {c : UInt8} : ∀ (d k i j : Nat) (ps : List ByteArray), i + d = t.length → j ≤ i → (∀ b ∈ (t.drop j).take (i - j), b ≠ c) → ps.length ≤ i → d < k →
    spec_l1Split.l0 k (bs t) (c.toNat : Int) ps (j : Int) (i : Int) = some (ps ++ (splitL c (t.drop j)).map bs) := by
  intro d
  induction d with
  | zero =>
    intro k i j ps hi hj hf hp hk
    obtain ⟨k, rfl⟩ := k_succ hk
    have hs := bs_size t
    simp only [spec_l1Split.l0]
    have e : (t.drop j).take (i - j) = t.drop j := List.take_of_length_le (by rw [List.length_drop]; omega)
    rw [e] at hf
    rw [if_neg (by omega), if_pos (by omega), if_pos (by omega), if_pos (by omega), splitL_none c hf, bs_extract, hs, List.take_of_length_le (by rw [List.length_drop]; omega)]
    rfl
  | succ d ih =>
    intro k i j ps hi hj hf hp hk
    obtain ⟨k, rfl⟩ := k_succ hk
    have hs := bs_size t
    have hlt : i < t.length := by omega
    simp only [spec_l1Split.l0]
    rw [if_pos (by omega), if_pos (by omega), bt_at t i hlt]
    by_cases hc : t[i] = c
    · rw [if_pos (byte_eq.2 hc), if_pos (by omega), if_pos (by omega), if_pos (by omega), if_pos (by omega), wrap_succ hlt (by omega), bs_extract]
      rw [ih k (i + 1) (i + 1) _ (by omega) (Nat.le_refl _) (by simp) (by rw [List.length_append]; simp; omega) (by omega)]
      have e : t.drop j = (t.drop j).take (i - j) ++ c :: t.drop (i + 1) := by
        have e1 := List.take_append_drop (i - j) (t.drop j)
        rw [List.drop_drop] at e1
        have e2 : j + (i - j) = i := by omega
        rw [e2, List.drop_eq_getElem_cons hlt, hc] at e1
        exact e1.symm
      have e3 : splitL c (t.drop j) = (t.drop j).take (i - j) :: splitL c (t.drop (i + 1)) := by
        conv => lhs; rw [e]
        exact splitL_two c hf _
      have e4 : ((i : Int)).toNat - ((j : Int)).toNat = i - j := by omega
      rw [e3, e4]
      simp
    · rw [if_neg (fun h => hc (byte_eq.1 h)), wrap_succ hlt (by omega)]
      refine ih k (i + 1) j ps (by omega) (by omega) ?_ (by omega) (by omega)
      have e : i + 1 - j = (i - j) + 1 := by omega
      have hl : i - j < (t.drop j).length := by rw [List.length_drop]; omega
      rw [e, List.take_succ_eq_append_getElem hl]
      intro b hb
      rcases List.mem_append.1 hb with hb | hb
      · exact hf b hb
      · rw [List.mem_singleton.1 hb, List.getElem_drop]
        have e2 : j + (i - j) = i := by omega
        simp only [e2]
        exact hc
theorem l1Split_eq {t : List UInt8} (hn : t.length ≤ 1048576) (c : UInt8) {k : Nat} (hk : t.length < k) : spec_l1Split.f k (bs t) (c.toNat : Int) = some ((splitL c t).map bs) := by
  unfold spec_l1Split.f
  have h := l1Split_l0 hn (c := c) t.length k 0 0 [] (by omega) (Nat.le_refl _) (by simp) (Nat.zero_le _) hk
  simpa using h
theorem rdOf_map (ps : List (List UInt8)) (i : Nat) (h : i < ps.length) : rdOf ByteArray.empty (ps.map bs) (i : Int) = bs ps[i] := by
  unfold rdOf
  rw [List.getD_eq_getElem?_getD, List.getElem?_map]
  have e : ((i : Int)).toNat = i := by omega
  rw [e, List.getElem?_eq_getElem h]
  rfl
/-- A numeral of at most six digits, else -1. -/
def readL (t : List UInt8) : Int := if 1 ≤ t.length ∧ t.length ≤ 6 then (if t.head? = some 48 ∧ 1 < t.length then -1 else if t.all isD = true then (spellN 0 t : Int) else -1) else -1
theorem l1Read_l0 {t : List UInt8} (hn : t.length ≤ 6) : ∀ (d k i v : Nat), i + d = t.length → v = spellN 0 (t.take i) → v < 10 ^ i → d < k → spec_l1Read.l0 k (bs t) (v : Int) (i : Int) = some (if (t.drop i).all isD = true then (spellN 0 t : Int) else -1) := by
  intro d
  induction d with
  | zero =>
    intro k i v hi hv hb hk
    obtain ⟨k, rfl⟩ := k_succ hk
    have hs := bs_size t
    simp only [spec_l1Read.l0]
    rw [if_neg (by omega), show i = t.length by omega, List.drop_length, hv, show i = t.length by omega, List.take_length]
    rfl
  | succ d ih =>
    intro k i v hi hv hb hk
    obtain ⟨k, rfl⟩ := k_succ hk
    have hs := bs_size t
    have hlt : i < t.length := by omega
    have hp : 10 ^ i ≤ 10 ^ 5 := Nat.pow_le_pow_right (by decide) (by omega)
    have hp2 : 10 ^ (i + 1) = 10 ^ i * 10 := Nat.pow_succ ..
    simp only [spec_l1Read.l0]
    rw [if_pos (by omega), if_pos (by omega), bt_at t i hlt, List.drop_eq_getElem_cons hlt, List.all_cons]
    have hb8 := UInt8.toNat_lt t[i]
    by_cases h1 : (t[i].toNat : Int) < 48
    · have e : isD t[i] = false := by
        unfold isD
        rw [decide_eq_false (by omega)]
        rfl
      rw [if_pos h1, e]
      rfl
    · rw [if_neg h1]
      by_cases h2 : (t[i].toNat : Int) > 57
      · have e : isD t[i] = false := by
          unfold isD
          rw [decide_eq_false (p := t[i].toNat ≤ 57) (by omega), Bool.and_false]
        rw [if_pos h2, e]
        rfl
      · have e : isD t[i] = true := isD_true.2 (by omega)
        have hg : digN t[i] = t[i].toNat - 48 := rfl
        have ev : wrap64 (wrap64 (10 * (v : Int)) + ((t[i].toNat : Int) - 48) % 256) = ((10 * v + digN t[i] : Nat) : Int) := by
          rw [wrap_id (n := 10 * (v : Int)) (by omega) (by omega), wrap_id (by omega) (by omega)]
          omega
        rw [if_neg h2, ev, wrap_succ hlt (by omega), e, Bool.true_and]
        have hb3 : ∀ P B : Nat, v < P → B ≤ 57 → 10 * v + (B - 48) < P * 10 := by intro P B h h'; omega
        have hb4 : 10 * v + digN t[i] < 10 ^ (i + 1) := by
          rw [hg, hp2]
          exact hb3 _ _ hb (by omega)
        clear hb3 hp hp2
        refine ih k (i + 1) _ (by omega) ?_ hb4 (by omega)
        rw [List.take_succ_eq_append_getElem hlt, spellN_append, ← hv, spellN_cons, spellN_nil]
theorem l1Read_eq (t : List UInt8) (hn : t.length ≤ 1048576) {k : Nat} (hk : 8 < k) : spec_l1Read.f k (bs t) = some (readL t) := by
  unfold spec_l1Read.f readL
  have hs := bs_size t
  obtain ⟨k, rfl⟩ := k_succ hk
  rw [l1In_eq, Option.bind_some]
  cases hin : inB ((bs t).size : Int) 1 6
  · have hne : ¬ (1 ≤ t.length ∧ t.length ≤ 6) := by
      intro h
      have : inB ((bs t).size : Int) 1 6 = true := inB_true.2 (by omega)
      rw [hin] at this
      cases this
    rw [if_neg (by simp), if_neg hne]
    simp only [spec_l1Read.j0]
    rw [if_pos trivial]
  · have h := inB_true.1 hin
    have h0 : 0 < t.length := by omega
    rw [if_pos rfl, if_pos (by omega), if_pos (show 1 ≤ t.length ∧ t.length ≤ 6 by omega), show bt (bs t) 0 = ((t[0]).toNat : Int) from bt_at t 0 h0]
    have hl : ∀ q, q = k → spec_l1Read.l0 q (bs t) 0 0 = some (if t.all isD = true then (spellN 0 t : Int) else -1) := by
      intro q hq
      have := l1Read_l0 (t := t) (by omega) t.length q 0 0 (by omega) rfl (by decide) (by omega)
      simpa using this
    have hh : t.head? = some t[0] := by
      cases t with
      | nil => simp at h0
      | cons b r => rfl
    by_cases h48 : t[0] = 48
    · rw [if_pos (by rw [h48]; rfl)]
      simp only [spec_l1Read.j0]
      by_cases h1 : 1 < t.length
      · rw [if_pos (by rw [decide_eq_true_iff]; omega), if_pos ⟨by rw [hh, h48], h1⟩]
      · rw [if_neg (by rw [decide_eq_true_iff]; omega), if_neg (fun q => h1 q.2), hl k rfl]
    · have hz : ¬ ((t[0].toNat : Int) = 48) := fun q => h48 (byte_eq.1 (by rw [q]; rfl))
      have hw : ¬ (t.head? = some 48 ∧ 1 < t.length) := fun q => h48 (by have := q.1; rw [hh] at this; exact Option.some.inj this)
      rw [if_neg hz, if_neg hw]
      simp only [spec_l1Read.j0]
      rw [if_neg (by simp), hl k rfl]
theorem readL_num {n : Int} (h0 : 0 ≤ n) (h1 : n < 1000000) : readL (numT n) = n := by
  have h6 := numT_6 h0 h1
  obtain ⟨d1, d2, d3, d4⟩ := dec_digits n.toNat
  have hl : 1 ≤ (numT n).length := List.length_pos_iff.2 d3
  unfold readL
  rw [if_pos ⟨hl, h6⟩, if_neg, if_pos (List.all_eq_true.2 (numT_digits n))]
  · exact numT_val h0
  · rintro ⟨q1, q2⟩
    cases hd : numT n with
    | nil => rw [hd] at q1; cases q1
    | cons b r =>
      rw [hd] at q1 q2
      obtain rfl : b = 48 := Option.some.inj q1
      have := d4 r hd
      rw [this] at q2
      simp at q2
theorem spellN_lt : ∀ (l : List UInt8) (a : Nat), (∀ b ∈ l, isD b = true) → spellN a l < (a + 1) * 10 ^ l.length := by
  intro l
  induction l with
  | nil => intro a _; rw [spellN_nil]; simp
  | cons b l ih =>
    intro a h
    have hb := isD_true.1 (h b List.mem_cons_self)
    have hd : digN b = b.toNat - 48 := rfl
    have hi := ih (10 * a + digN b) (fun q hq => h q (List.mem_cons_of_mem _ hq))
    rw [spellN_cons, List.length_cons, Nat.pow_succ]
    have hm : (10 * a + digN b + 1) * 10 ^ l.length ≤ ((a + 1) * 10) * 10 ^ l.length := Nat.mul_le_mul_right _ (by omega)
    have e : (a + 1) * (10 ^ l.length * 10) = ((a + 1) * 10) * 10 ^ l.length := by
      rw [Nat.mul_comm (10 ^ l.length) 10, Nat.mul_assoc]
    omega
theorem readL_sound {t : List UInt8} (h : 0 ≤ readL t) : numT (readL t) = t ∧ readL t < 1000000 := by
  unfold readL at h ⊢
  by_cases h1 : 1 ≤ t.length ∧ t.length ≤ 6
  · rw [if_pos h1] at h ⊢
    by_cases h2 : t.head? = some 48 ∧ 1 < t.length
    · rw [if_pos h2] at h
      omega
    · rw [if_neg h2] at h ⊢
      by_cases h3 : t.all isD = true
      · rw [if_pos h3]
        have hd : ∀ b ∈ t, isD b = true := List.all_eq_true.1 h3
        have hv := spellN_lt t 0 hd
        have hp : 10 ^ t.length ≤ 10 ^ 6 := Nat.pow_le_pow_right (by decide) h1.2
        refine ⟨?_, by omega⟩
        unfold numT
        have e : ((spellN 0 t : Nat) : Int).toNat = spellN 0 t := by omega
        rw [e]
        refine dec_val (by intro e; rw [e] at h1; simp at h1) hd ?_
        intro r hr
        cases r with
        | nil => rfl
        | cons x y => exact absurd ⟨by rw [hr]; rfl, by rw [hr]; simp⟩ h2
      · rw [if_neg h3] at h
        omega
  · rw [if_neg h1] at h
    omega
theorem toList_bs (l : List UInt8) : (bs l).toList = l := by rw [ByteArray.toList_eq, data_bs]
theorem itoa_dec {n : Int} (h : 0 ≤ n) : Lib.itoa n = numT n := by
  unfold Lib.itoa numT
  rw [if_neg (by omega)]
/-- What readNumber answers. -/
def rn (t : List UInt8) : Int × Bool := match Lib.atoiAll t with
  | .ok v => (v, decide (0 ≤ v) && (Lib.itoa v == t))
  | .range => (Lib.atoiSat t, false)
  | _ => (0, false)
theorem readNumber_eq {t : List UInt8} (hn : t.length ≤ 1048576) : impl_readNumber.f (bs t) = some (rn t) := by
  unfold impl_readNumber.f rn
  rw [if_pos (by rw [bs_size]; exact hn), data_bs]
  cases Lib.atoiAll t with
  | ok v => simp only [toList_bs]; rw [show ((⟨(Lib.itoa v).toArray⟩ : ByteArray)) = bs (Lib.itoa v) from rfl, toList_bs]
  | range => rfl
  | _ => rfl
theorem rn_num {n : Int} (h0 : 0 ≤ n) (h1 : n < 1000000) : rn (numT n) = (n, true) := by
  have h := atoi_dec (n := n.toNat) (by omega)
  unfold rn
  have e : Lib.atoiAll (numT n) = .ok n := by
    unfold numT
    rw [h]
    congr 1
    omega
  rw [e]
  simp only [itoa_dec h0]
  simp [h0]
theorem split_eq {t : List UInt8} (hn : t.length ≤ 1048576) (c : UInt8) : strings_Split.f (bs t) ⟨#[c]⟩ = some ((splitL c t).map bs) := by
  unfold strings_Split.f
  have hs := bs_size t
  have hl := splitL_len c t
  rw [if_pos (by omega), if_pos (show (1 : Nat) ≤ (⟨#[c]⟩ : ByteArray).size from Nat.le_refl 1), splitB_eq, if_pos (by rw [List.length_map]; omega)]
theorem cut_eq {t : List UInt8} (hn : t.length ≤ 1048576) (c : UInt8) : strings_Cut.f (bs t) ⟨#[c]⟩ = some (bs (Lib.cut t [c]).1, bs (Lib.cut t [c]).2.1, (Lib.cut t [c]).2.2) := by
  unfold strings_Cut.f
  rw [if_pos (by rw [bs_size]; omega), data_bs]
  rfl
theorem cut_len (t : List UInt8) (c : UInt8) : (Lib.cut t [c]).1.length ≤ t.length ∧ (Lib.cut t [c]).2.1.length ≤ t.length := by
  unfold Lib.cut
  split
  · exact ⟨by rw [List.length_take]; omega, by rw [List.length_drop]; omega⟩
  · exact ⟨Nat.le_refl _, Nat.zero_le _⟩
theorem two_or (ps : List (List UInt8)) : ps.length ≠ 2 ∨ ∃ a b, ps = [a, b] := by
  match ps with
  | [] => exact Or.inl (by simp)
  | [_] => exact Or.inl (by simp)
  | [a, b] => exact Or.inr ⟨a, b, rfl⟩
  | _ :: _ :: _ :: _ => exact Or.inl (by simp)
theorem three_or (ps : List (List UInt8)) : ps.length ≠ 3 ∨ ∃ a b c, ps = [a, b, c] := by
  match ps with
  | [] => exact Or.inl (by simp)
  | [_] => exact Or.inl (by simp)
  | [_, _] => exact Or.inl (by simp)
  | [a, b, c] => exact Or.inr ⟨a, b, c, rfl⟩
  | _ :: _ :: _ :: _ :: _ => exact Or.inl (by simp)
theorem two_back {c : UInt8} {t a b : List UInt8} (h : splitL c t = [a, b]) : t = a ++ c :: b := by
  have e := join_splitL c t
  rw [h, Lib.join_cons] at e
  simp [Lib.joinTail] at e
  exact e.symm
theorem join_free {c s : UInt8} (h44 : s ≠ c) : ∀ ps : List (List UInt8), (∀ p ∈ ps, ∀ b ∈ p, b ≠ c) → ∀ b ∈ Lib.join ps [s], b ≠ c
  | [], _, b, hb => by simp [Lib.join_nil] at hb
  | [p], h, b, hb => by rw [Lib.join_one] at hb; exact h p List.mem_cons_self b hb
  | p :: q :: r, h, b, hb => by
    have e : Lib.join (p :: q :: r) [s] = p ++ s :: Lib.join (q :: r) [s] := by
      rw [Lib.join_cons, Lib.join_cons]
      simp [Lib.joinTail]
    rw [e] at hb
    rcases List.mem_append.1 hb with hb | hb
    · exact h p List.mem_cons_self b hb
    · rcases List.mem_cons.1 hb with rfl | hb
      · exact h44
      · exact join_free h44 (q :: r) (fun x hx => h x (List.mem_cons_of_mem _ hx)) b hb
theorem markIntS_l0 : ∀ (d k i : Nat) (l : List Int), i + d = l.length → l.length ≤ 1048576 → (∀ j, j < i → l.getD j 0 = ((1 + j : Nat) : Int)) → d < k →
    ∃ l', laws_markIntS.l0 k l ((1 + i : Nat) : Int) (i : Int) = some (((1 + l.length : Nat) : Int), l') ∧ l'.length = l.length ∧ ∀ j, j < l.length → l'.getD j 0 = ((1 + j : Nat) : Int) := by
  intro d
  induction d with
  | zero =>
    intro k i l hi hn hp hk
    obtain ⟨k, rfl⟩ := k_succ hk
    simp only [laws_markIntS.l0]
    refine ⟨l, ?_, rfl, fun j hj => hp j (by omega)⟩
    rw [if_neg (by omega), show 1 + i = 1 + l.length by omega]
  | succ d ih =>
    intro k i l hi hn hp hk
    obtain ⟨k, rfl⟩ := k_succ hk
    have hlt : i < l.length := by omega
    have e1 : wrap64 (((1 + i : Nat) : Int) + 1) = ((1 + (i + 1) : Nat) : Int) := by unfold wrap64; omega
    have e2 : ((i : Int)).toNat = i := by omega
    simp only [laws_markIntS.l0]
    rw [if_pos (by omega), if_pos (by omega), wrap_succ hlt (by omega), e1, e2]
    obtain ⟨l', h1, h2, h3⟩ := ih k (i + 1) (l.set i ((1 + i : Nat) : Int)) (by rw [List.length_set]; omega) (by rw [List.length_set]; exact hn) (by
      intro j hj
      by_cases h : j = i
      · subst h
        rw [List.getD_eq_getElem?_getD, List.getElem?_set_self hlt]
        rfl
      · rw [List.getD_eq_getElem?_getD, List.getElem?_set_ne (Ne.symm h), ← List.getD_eq_getElem?_getD]
        exact hp j (by omega)) (by omega)
    rw [List.length_set] at h1 h2 h3
    exact ⟨l', h1, h2, h3⟩
theorem markIntS_eq {l : List Int} (hn : l.length ≤ 1048576) {k : Nat} (hk : l.length < k) :
    ∃ l', laws_markIntS.f k l 1 = some (((1 + l.length : Nat) : Int), l') ∧ l'.length = l.length ∧ ∀ j, j < l.length → l'.getD j 0 = ((1 + j : Nat) : Int) := by
  unfold laws_markIntS.f
  exact markIntS_l0 l.length k 0 l (by omega) hn (fun j hj => absurd hj (Nat.not_lt_zero j)) hk
theorem heldIntS_l0 {l : List Int} (hn : l.length ≤ 1048576) (h : ∀ j, j < l.length → l.getD j 0 = ((1 + j : Nat) : Int)) : ∀ (d k i : Nat), i + d = l.length → d < k →
    laws_heldIntS.l0 k l ((1 + i : Nat) : Int) (i : Int) = some ((1 + l.length : Nat) : Int) := by
  intro d
  induction d with
  | zero =>
    intro k i hi hk
    obtain ⟨k, rfl⟩ := k_succ hk
    simp only [laws_heldIntS.l0]
    rw [if_neg (by omega), show 1 + i = 1 + l.length by omega]
  | succ d ih =>
    intro k i hi hk
    obtain ⟨k, rfl⟩ := k_succ hk
    have hlt : i < l.length := by omega
    have e1 : wrap64 (((1 + i : Nat) : Int) + 1) = ((1 + (i + 1) : Nat) : Int) := by unfold wrap64; omega
    simp only [laws_heldIntS.l0]
    rw [if_pos (by omega), if_pos (by omega), if_pos (show rd l (i : Int) = _ from h i hlt), wrap_succ hlt (by omega), e1]
    exact ih k (i + 1) (by omega) (by omega)
theorem heldIntS_eq {l : List Int} (hn : l.length ≤ 1048576) (h : ∀ j, j < l.length → l.getD j 0 = ((1 + j : Nat) : Int)) {k : Nat} (hk : l.length < k) : laws_heldIntS.f k l 1 = some ((1 + l.length : Nat) : Int) := by
  unfold laws_heldIntS.f
  exact heldIntS_l0 hn h l.length k 0 (by omega) hk
theorem markBoolS_l0 {m : Nat} (hm : m ≤ 100000000) : ∀ (d k i : Nat) (l : List Bool), i + d = l.length → l.length ≤ 1048576 → (∀ j, j < i → l.getD j false = (Int.tmod ((m + j : Nat) : Int) 3 == 0)) → d < k →
    ∃ l', laws_markBoolS.l0 k l ((m + i : Nat) : Int) (i : Int) = some (((m + l.length : Nat) : Int), l') ∧ l'.length = l.length ∧ ∀ j, j < l.length → l'.getD j false = (Int.tmod ((m + j : Nat) : Int) 3 == 0) := by
  intro d
  induction d with
  | zero =>
    intro k i l hi hn hp hk
    obtain ⟨k, rfl⟩ := k_succ hk
    simp only [laws_markBoolS.l0]
    refine ⟨l, ?_, rfl, fun j hj => hp j (by omega)⟩
    rw [if_neg (by omega), show m + i = m + l.length by omega]
  | succ d ih =>
    intro k i l hi hn hp hk
    obtain ⟨k, rfl⟩ := k_succ hk
    have hlt : i < l.length := by omega
    have e1 : wrap64 (((m + i : Nat) : Int) + 1) = ((m + (i + 1) : Nat) : Int) := by unfold wrap64; omega
    have e2 : ((i : Int)).toNat = i := by omega
    simp only [laws_markBoolS.l0]
    rw [if_pos (by omega), if_pos (by omega), wrap_succ hlt (by omega), e1, e2]
    obtain ⟨l', h1, h2, h3⟩ := ih k (i + 1) (l.set i (Int.tmod ((m + i : Nat) : Int) 3 == 0)) (by rw [List.length_set]; omega) (by rw [List.length_set]; exact hn) (by
      intro j hj
      by_cases h : j = i
      · subst h
        rw [List.getD_eq_getElem?_getD, List.getElem?_set_self hlt]
        rfl
      · rw [List.getD_eq_getElem?_getD, List.getElem?_set_ne (Ne.symm h), ← List.getD_eq_getElem?_getD]
        exact hp j (by omega)) (by omega)
    rw [List.length_set] at h1 h2 h3
    exact ⟨l', h1, h2, h3⟩
theorem markBoolS_eq {m : Nat} (hm : m ≤ 100000000) {l : List Bool} (hn : l.length ≤ 1048576) {k : Nat} (hk : l.length < k) :
    ∃ l', laws_markBoolS.f k l (m : Int) = some (((m + l.length : Nat) : Int), l') ∧ l'.length = l.length ∧ ∀ j, j < l.length → l'.getD j false = (Int.tmod ((m + j : Nat) : Int) 3 == 0) := by
  unfold laws_markBoolS.f
  exact markBoolS_l0 hm l.length k 0 l (by omega) hn (fun j hj => absurd hj (Nat.not_lt_zero j)) hk
theorem heldBoolS_l0 {m : Nat} (hm : m ≤ 100000000) {l : List Bool} (hn : l.length ≤ 1048576) (h : ∀ j, j < l.length → l.getD j false = (Int.tmod ((m + j : Nat) : Int) 3 == 0)) : ∀ (d k i : Nat), i + d = l.length → d < k →
    laws_heldBoolS.l0 k l ((m + i : Nat) : Int) (i : Int) = some ((m + l.length : Nat) : Int) := by
  intro d
  induction d with
  | zero =>
    intro k i hi hk
    obtain ⟨k, rfl⟩ := k_succ hk
    simp only [laws_heldBoolS.l0]
    rw [if_neg (by omega), show m + i = m + l.length by omega]
  | succ d ih =>
    intro k i hi hk
    obtain ⟨k, rfl⟩ := k_succ hk
    have hlt : i < l.length := by omega
    have e1 : wrap64 (((m + i : Nat) : Int) + 1) = ((m + (i + 1) : Nat) : Int) := by unfold wrap64; omega
    have e3 : rdOf false l (i : Int) = (Int.tmod ((m + i : Nat) : Int) 3 == 0) := h i hlt
    simp only [laws_heldBoolS.l0]
    rw [if_pos (by omega), if_pos (by omega), e3, if_neg (by simp), wrap_succ hlt (by omega), e1]
    exact ih k (i + 1) (by omega) (by omega)
theorem heldBoolS_eq {m : Nat} (hm : m ≤ 100000000) {l : List Bool} (hn : l.length ≤ 1048576) (h : ∀ j, j < l.length → l.getD j false = (Int.tmod ((m + j : Nat) : Int) 3 == 0)) {k : Nat} (hk : l.length < k) : laws_heldBoolS.f k l (m : Int) = some ((m + l.length : Nat) : Int) := by
  unfold laws_heldBoolS.f
  exact heldBoolS_l0 hm hn h l.length k 0 (by omega) hk
/-- What the model reads of a piece. -/
def rdC (p : List UInt8) : Int × Bool := if p.getLast? = some 114 then (readL p.dropLast, true) else (readL p, false)
theorem rdC_back {p : List UInt8} (h : 0 ≤ (rdC p).1) : crT (rdC p) = p := by
  unfold rdC at h ⊢
  unfold crT
  by_cases hl : p.getLast? = some 114
  · rw [if_pos hl] at h ⊢
    simp only [if_pos] at h ⊢
    rw [(readL_sound h).1]
    rcases List.eq_nil_or_concat p with rfl | ⟨q, c, rfl⟩
    · simp at hl
    · rw [List.concat_eq_append] at hl ⊢
      have hc : c = 114 := by simpa using hl
      rw [List.dropLast_concat, hc]
  · rw [if_neg hl] at h ⊢
    simp only [Bool.false_eq_true, if_false, List.append_nil] at h ⊢
    exact (readL_sound h).1
theorem numT_last (n : Int) : (numT n).getLast? ≠ some 114 := by
  intro h
  have := numT_digits n 114 (List.mem_of_getLast? h)
  exact absurd this (by decide)
theorem rdC_hit {w : Int} (h0 : 0 ≤ w) (h1 : w < 10000) (b : Bool) : rdC (crT (w, b)) = (w, b) := by
  unfold rdC crT
  cases b
  · simp only [Bool.false_eq_true, if_false, List.append_nil]
    rw [if_neg (numT_last w), readL_num h0 (by omega)]
  · simp only [if_true]
    rw [if_pos (by simp), List.dropLast_concat, readL_num h0 (by omega)]
theorem loParse_l0 {ps : List (List UInt8)} (hp : ps.length ≤ 200) (hl : ∀ p ∈ ps, p.length ≤ 200) (s : Int) : ∀ (d k i : Nat) (a : List Int) (o : List Bool), i + d = ps.length → a.length = i → o.length = i → ps.length + d + 20 < k →
    spec_loParse.l0 k (ps.map bs) (ps.length : Int) (i : Int) a o s = some (if crewB (a ++ (ps.drop i).map fun p => (rdC p).1) (o ++ (ps.drop i).map fun p => (rdC p).2) s = true then (a ++ (ps.drop i).map fun p => (rdC p).1, o ++ (ps.drop i).map fun p => (rdC p).2, s, true) else ([], [], 0, false)) := by
  intro d
  induction d with
  | zero =>
    intro k i a o hi ha ho hk
    obtain ⟨k, rfl⟩ := k_succ hk
    simp only [spec_loParse.l0]
    rw [if_neg (by omega), List.drop_of_length_le (by omega), loGood_eq (by omega) o s (by omega), Option.bind_some, List.map_nil, List.append_nil, List.map_nil, List.append_nil]
    cases crewB a o s <;> rfl
  | succ d ih =>
    intro k i a o hi ha ho hk
    obtain ⟨k, rfl⟩ := k_succ hk
    have hlt : i < ps.length := by omega
    have hpl := hl _ (List.getElem_mem hlt)
    have hnext := fun (x : Int) (y : Bool) => ih k (i + 1) (a ++ [x]) (o ++ [y]) (by omega) (by rw [List.length_append]; simp; omega) (by rw [List.length_append]; simp; omega) (by omega)
    simp only [spec_loParse.l0]
    rw [if_pos (by omega), if_pos (by omega), if_pos (by rw [List.length_map]; omega), rdOf_map ps i hlt, wrap_succ hlt (by omega), List.drop_eq_getElem_cons hlt, List.map_cons, List.map_cons]
    obtain ⟨p, hpe⟩ : ∃ p, p = ps[i] := ⟨_, rfl⟩
    rw [← hpe] at hpl ⊢
    clear hpe
    have hs := bs_size p
    rcases List.eq_nil_or_concat p with rfl | ⟨q, c, hqc⟩
    · have h0 : (bs []).size = 0 := rfl
      rw [if_neg (by omega), l1Read_eq [] (by simp) (by omega), Option.bind_some, if_pos (by omega), if_pos (by omega), hnext]
      have e : rdC [] = (readL [], false) := rfl
      rw [e]
      simp
    · rw [List.concat_eq_append] at hqc
      subst hqc
      have hq : (q ++ [c]).length = q.length + 1 := by simp
      have hw : wrap64 (((bs (q ++ [c])).size : Int) - 1) = (q.length : Int) := by rw [hs, hq]; unfold wrap64; omega
      have hb : bt (bs (q ++ [c])) (q.length : Int) = (c.toNat : Int) := by
        rw [bt_at (q ++ [c]) q.length (by omega)]
        simp
      have he : (bs (q ++ [c])).extract 0 ((q.length : Int)).toNat = bs q := by
        rw [bs_extract]
        have : ((q.length : Int)).toNat - 0 = q.length := by omega
        rw [this]
        simp
      rw [if_pos (by omega), hw, if_pos (by omega), if_pos (by omega), hb]
      by_cases hc : c = 114
      · subst hc
        have e : rdC (q ++ [114]) = (readL q, true) := by
          unfold rdC
          rw [if_pos (by simp), List.dropLast_concat]
        rw [if_pos (by rfl), if_pos (by omega), he, l1Read_eq q (by omega) (by omega), Option.bind_some, if_pos (by omega), if_pos (by omega), hnext, e]
        simp
      · have hc2 : ¬ ((c.toNat : Int) = 114) := fun h => hc (byte_eq.1 (by rw [h]; rfl))
        have e : rdC (q ++ [c]) = (readL (q ++ [c]), false) := by
          unfold rdC
          rw [if_neg (by simp [hc])]
        rw [if_neg hc2, l1Read_eq (q ++ [c]) (by omega) (by omega), Option.bind_some, if_pos (by omega), if_pos (by omega), hnext, e]
        simp
/-- What the model answers at two parts. -/
theorem loParse_two {t a b : List UInt8} (hn : t.length ≤ 60) (h : splitL 61 t = [a, b]) {k : Nat} (hk : 300 < k) :
    spec_loParse.f k (bs t) = some (if crewB ((splitL 44 b).map fun p => (rdC p).1) ((splitL 44 b).map fun p => (rdC p).2) (readL a) = true then ((splitL 44 b).map fun p => (rdC p).1, (splitL 44 b).map fun p => (rdC p).2, readL a, true) else ([], [], 0, false)) := by
  obtain ⟨k, rfl⟩ := k_succ hk
  have hs := bs_size t
  have ha : a.length ≤ t.length := splitL_mem_len 61 t a (by rw [h]; simp)
  have hb : b.length ≤ t.length := splitL_mem_len 61 t b (by rw [h]; simp)
  have hq := splitL_len 44 b
  unfold spec_loParse.f
  rw [show (61 : Int) = ((61 : UInt8).toNat : Int) from rfl, l1Split_eq (by omega) 61 (by omega), Option.bind_some, if_neg (by omega), h]
  simp only [spec_loParse.j0]
  have r0 : rdOf ByteArray.empty ([a, b].map bs) 0 = bs a := rdOf_map [a, b] 0 (by simp)
  have r1 : rdOf ByteArray.empty ([a, b].map bs) 1 = bs b := rdOf_map [a, b] 1 (by simp)
  rw [if_neg (by simp), if_pos (by simp), r0, l1Read_eq a (by omega) (by omega), Option.bind_some, if_pos (by simp), r1, show (44 : Int) = ((44 : UInt8).toNat : Int) from rfl, l1Split_eq (by omega) 44 (by omega), Option.bind_some, List.length_map]
  have := loParse_l0 (ps := splitL 44 b) (by omega) (fun p hp => by have := splitL_mem_len 44 b p hp; omega) (readL a) (splitL 44 b).length k 0 [] [] (by omega) rfl rfl (by omega)
  simpa using this
theorem spec_no {t : List UInt8} (hn : t.length ≤ 1048576) (h : 60 < t.length ∨ (splitL 61 t).length ≠ 2) {k : Nat} (hk : t.length + 200 < k) : spec_loParse.f k (bs t) = some ([], [], 0, false) := by
  obtain ⟨k, rfl⟩ := k_succ hk
  have hs := bs_size t
  unfold spec_loParse.f
  rw [show (61 : Int) = ((61 : UInt8).toNat : Int) from rfl, l1Split_eq (by omega) 61 (by omega), Option.bind_some]
  simp only [spec_loParse.j0]
  by_cases h60 : 60 < t.length
  · rw [if_pos (by omega), if_pos trivial]
  · have h2 : (splitL 61 t).length ≠ 2 := by rcases h with h | h; exact absurd h h60; exact h
    rw [if_neg (by omega), if_pos (by rw [List.length_map]; simp; omega)]
theorem crew_all {l : List Int} {o : List Bool} {s : Int} (hg : crewB l o s = true) : (∀ x ∈ l, 0 ≤ x ∧ x < 10000) ∧ o.length = l.length ∧ 1 ≤ l.length ∧ l.length ≤ 7 ∧ 0 ≤ s ∧ s ≤ 2000 := by
  unfold crewB at hg
  simp only [Bool.and_eq_true, decide_eq_true_eq] at hg
  obtain ⟨g1, g0, g2, g3⟩ := hg
  have hx := all_in g2 (by decide) (by decide)
  rw [inB_true] at g1 g3
  exact ⟨hx, g0, by omega⟩
theorem crewT_cons (l : List Int) (o : List Bool) (s : Int) : crewT l o s = numT s ++ 61 :: crewsT (l.zip o) := by
  unfold crewT
  rw [List.append_assoc]
  rfl
theorem crewT_len {l : List Int} {o : List Bool} {s : Int} (hg : crewB l o s = true) : (crewT l o s).length ≤ 60 := by
  obtain ⟨hx, h0, h1, h2, h3, h4⟩ := crew_all hg
  have a1 := numT_4 (n := s) (by omega) (by omega)
  have a2 := crewsT_len (l.zip o) (zip_small hx)
  have a3 : (l.zip o).length ≤ l.length := by rw [List.length_zip]; omega
  rw [crewT_cons]
  simp only [List.length_append, List.length_cons]
  omega
theorem zip_fst_snd {α β γ : Type} (f : α → β × γ) : ∀ l : List α, (l.map fun x => (f x).1).zip (l.map fun x => (f x).2) = l.map f
  | [] => rfl
  | x :: r => by
    rw [List.map_cons, List.map_cons, List.map_cons, List.zip_cons_cons, zip_fst_snd f r]
theorem map_id_of {α : Type} (f : α → α) : ∀ l : List α, (∀ x ∈ l, f x = x) → l.map f = l
  | [], _ => rfl
  | x :: r, h => by rw [List.map_cons, h x List.mem_cons_self, map_id_of f r (fun y hy => h y (List.mem_cons_of_mem _ hy))]
theorem spec_or {t : List UInt8} (hn : t.length ≤ 1048576) {k : Nat} (hk : t.length + 300 < k) : spec_loParse.f k (bs t) = some ([], [], 0, false) ∨ ∃ l o s, crewB l o s = true ∧ t = crewT l o s := by
  by_cases h60 : 60 < t.length
  · exact Or.inl (spec_no hn (Or.inl h60) (by omega))
  rcases two_or (splitL 61 t) with h | ⟨a, b, h⟩
  · exact Or.inl (spec_no hn (Or.inr h) (by omega))
  · rw [loParse_two (by omega) h (by omega)]
    by_cases hg : crewB ((splitL 44 b).map fun p => (rdC p).1) ((splitL 44 b).map fun p => (rdC p).2) (readL a) = true
    · refine Or.inr ⟨_, _, _, hg, ?_⟩
      obtain ⟨hx, h0, h1, h2, h3, h4⟩ := crew_all hg
      rw [crewT_cons, (readL_sound (t := a) (by omega)).1, zip_fst_snd rdC]
      have e : crewsT ((splitL 44 b).map rdC) = b := by
        unfold crewsT
        rw [List.map_map, map_id_of (crT ∘ rdC) (splitL 44 b), join_splitL]
        intro p hp
        exact rdC_back (hx _ (List.mem_map.2 ⟨p, hp, rfl⟩)).1
      rw [e]
      exact two_back h
    · rw [if_neg hg]
      exact Or.inl rfl
theorem crT_free {c : UInt8} (hd : isD c = false) (h : (114 : UInt8) ≠ c) (p : Int × Bool) : ∀ b ∈ crT p, b ≠ c := by
  intro b hb
  unfold crT at hb
  rcases List.mem_append.1 hb with hb | hb
  · exact numT_free _ hd b hb
  · split at hb
    · rw [List.mem_singleton.1 hb]
      exact h
    · simp at hb
theorem crewsT_free {c : UInt8} (hd : isD c = false) (h : (114 : UInt8) ≠ c) (h44 : (44 : UInt8) ≠ c) (z : List (Int × Bool)) : ∀ b ∈ crewsT z, b ≠ c := by
  refine join_free h44 _ ?_
  intro p hp
  obtain ⟨q, -, rfl⟩ := List.mem_map.1 hp
  exact crT_free hd h q
theorem crewsT_split {z : List (Int × Bool)} (h : z ≠ []) : splitL 44 (crewsT z) = z.map crT := by
  unfold crewsT
  refine splitL_join 44 _ (by simpa using h) ?_
  intro p hp
  obtain ⟨x, -, rfl⟩ := List.mem_map.1 hp
  exact crT_free (by decide) (by decide) x
theorem zip_ne {l : List Int} {o : List Bool} (h0 : o.length = l.length) (h1 : 1 ≤ l.length) : l.zip o ≠ [] := by
  intro e
  have : (l.zip o).length = 0 := by rw [e]; rfl
  rw [List.length_zip] at this
  omega
theorem spec_hit {l : List Int} {o : List Bool} {s : Int} (hg : crewB l o s = true) {k : Nat} (hk : 300 < k) : spec_loParse.f k (bs (crewT l o s)) = some (l, o, s, true) := by
  obtain ⟨hx, h0, h1, h2, h3, h4⟩ := crew_all hg
  have hz := zip_small (o := o) hx
  have e1 : splitL 61 (crewT l o s) = [numT s, crewsT (l.zip o)] := by
    rw [crewT_cons, splitL_two 61 (numT_free s (by decide)), splitL_none 61 (crewsT_free (by decide) (by decide) (by decide) _)]
  have e2 : ((l.zip o).map crT).map rdC = l.zip o := by
    rw [List.map_map]
    refine map_id_of _ _ ?_
    rintro ⟨w, b⟩ hw
    exact rdC_hit (hz _ hw).1 (hz _ hw).2 b
  have e3 : (((l.zip o).map crT).map fun p => (rdC p).1) = l := by
    have : (((l.zip o).map crT).map fun p => (rdC p).1) = (((l.zip o).map crT).map rdC).map Prod.fst := by simp only [List.map_map]; rfl
    rw [this, e2]
    exact List.map_fst_zip (by omega)
  have e4 : (((l.zip o).map crT).map fun p => (rdC p).2) = o := by
    have : (((l.zip o).map crT).map fun p => (rdC p).2) = (((l.zip o).map crT).map rdC).map Prod.snd := by simp only [List.map_map]; rfl
    rw [this, e2]
    exact List.map_snd_zip (by omega)
  rw [loParse_two (crewT_len hg) e1 hk, crewsT_split (zip_ne h0 h1), e3, e4, readL_num (by omega) (by omega), if_pos hg]
theorem suffix_eq {p : List UInt8} (hn : p.length ≤ 1048576) : strings_CutSuffix.f (bs p) ⟨#[114]⟩ = some (bs (Lib.trimSuffix p [114]), Lib.hasSuffix p [114]) := by
  unfold strings_CutSuffix.f
  rw [if_pos (by rw [bs_size]; omega), data_bs]
  rfl
theorem trim_len (p : List UInt8) : (Lib.trimSuffix p [114]).length ≤ p.length := by
  unfold Lib.trimSuffix
  split
  · rw [List.length_take]; omega
  · exact Nat.le_refl _
theorem suffix_hit {w : Int} (b : Bool) : Lib.hasSuffix (crT (w, b)) [114] = b ∧ Lib.trimSuffix (crT (w, b)) [114] = numT w := by
  cases b
  · have e : crT (w, false) = numT w := by simp [crT]
    have h : Lib.hasSuffix (numT w) [114] = false := by
      cases hh : Lib.hasSuffix (numT w) [114]
      · rfl
      · unfold Lib.hasSuffix at hh
        obtain ⟨q, hq⟩ := List.isSuffixOf_iff_suffix.1 hh
        exact absurd (by rw [← hq]; simp) (numT_last w)
    rw [e]
    refine ⟨h, ?_⟩
    unfold Lib.trimSuffix
    rw [h]
    rfl
  · have e : crT (w, true) = numT w ++ [114] := by simp [crT]
    have h : Lib.hasSuffix (numT w ++ [114]) [114] = true := by
      unfold Lib.hasSuffix
      exact List.isSuffixOf_iff_suffix.2 ⟨numT w, rfl⟩
    rw [e]
    refine ⟨h, ?_⟩
    unfold Lib.trimSuffix
    rw [h, if_pos rfl]
    simp
theorem impl_end (x : List UInt8) (f : Bool) (l : List Int) (o : List Bool) (s : Int) {k : Nat} (hk : 20 < k) :
    (if f = true then ((impl_IsCrew.f l o s).bind fun t255 => (if t255 = true then ((impl_Crew_text.f k l o s).bind fun t256 => (if t256.toList = (bs x).toList then (some (l, o, s, true)) else (some (([] : List Int), ([] : List Bool), 0, false)))) else (some (([] : List Int), ([] : List Bool), 0, false)))) else (some (([] : List Int), ([] : List Bool), 0, false)))
      = some (if f = true ∧ crewB l o s = true ∧ crewT l o s = x then (l, o, s, true) else ([], [], 0, false)) := by
  cases f
  · rw [if_neg (by simp), if_neg (by simp)]
  · rw [if_pos rfl, IsCrew_eq, Option.bind_some]
    cases hg : crewB l o s
    · rw [if_neg (by simp), if_neg (by simp)]
    · obtain ⟨hx, h0, h1, h2, h3, h4⟩ := crew_all hg
      rw [if_pos rfl, crew_eq h0 (by omega) hx (by omega) (by omega) (by omega), Option.bind_some, toList_bs, toList_bs]
      by_cases he : crewT l o s = x
      · rw [if_pos he, if_pos ⟨rfl, rfl, he⟩]
      · rw [if_neg he, if_neg (fun h => he h.2.2)]
theorem impl_l0_or (x : List UInt8) (s : Int) {ps : List (List UInt8)} (hp : ps.length ≤ 1048577) (hl : ∀ p ∈ ps, p.length ≤ 1048576) : ∀ (d k i : Nat) (f : Bool) (a : List Int) (o : List Bool), i + d = ps.length → a.length ≤ i → o.length ≤ i → d + 400 < k →
    impl_ParseCrew.l0 k (bs x) f (ps.map bs) (ps.length : Int) (i : Int) a o s = some ([], [], 0, false) ∨ ∃ l o s, crewB l o s = true ∧ x = crewT l o s := by
  intro d
  induction d with
  | zero =>
    intro k i f a o hi ha ho hk
    obtain ⟨k, rfl⟩ := k_succ hk
    simp only [impl_ParseCrew.l0]
    rw [if_neg (by omega), impl_end x f a o s (by omega)]
    by_cases h : f = true ∧ crewB a o s = true ∧ crewT a o s = x
    · exact Or.inr ⟨a, o, s, h.2.1, h.2.2.symm⟩
    · rw [if_neg h]
      exact Or.inl rfl
  | succ d ih =>
    intro k i f a o hi ha ho hk
    obtain ⟨k, rfl⟩ := k_succ hk
    have hlt : i < ps.length := by omega
    have hpl := hl _ (List.getElem_mem hlt)
    have htl := trim_len ps[i]
    have hnext := fun (g : Bool) (x : Int) (y : Bool) => ih k (i + 1) g (a ++ [x]) (o ++ [y]) (by omega) (by rw [List.length_append]; simp; omega) (by rw [List.length_append]; simp; omega) (by omega)
    simp only [impl_ParseCrew.l0]
    rw [if_pos (by omega), if_pos (by omega), if_pos (by rw [List.length_map]; omega), rdOf_map ps i hlt, suffix_eq hpl, Option.bind_some]
    dsimp only
    rw [readNumber_eq (by omega), Option.bind_some, Option.bind_some, Option.bind_some, Option.bind_some, Option.bind_some, wrap_succ hlt (by omega)]
    cases f
    · rw [if_neg (by simp), if_pos (by simp; omega), if_pos (by simp; omega)]
      exact hnext _ _ _
    · rw [if_pos rfl, if_pos (by simp; omega), if_pos (by simp; omega)]
      exact hnext _ _ _
theorem impl_or {x : List UInt8} (hn : x.length ≤ 1048576) {k : Nat} (hk : x.length + 800 < k) : impl_ParseCrew.f k (bs x) = some ([], [], 0, false) ∨ ∃ l o s, crewB l o s = true ∧ x = crewT l o s := by
  have hc := cut_len x 61
  have hq := splitL_len 44 (Lib.cut x [61]).2.1
  unfold impl_ParseCrew.f
  rw [cut_eq hn 61, Option.bind_some]
  dsimp only
  rw [readNumber_eq (by omega), Option.bind_some, split_eq (by omega) 44, Option.bind_some, List.length_map]
  exact impl_l0_or x _ (by omega) (fun p hp => by have := splitL_mem_len 44 _ p hp; omega) (splitL 44 (Lib.cut x [61]).2.1).length k 0 _ [] [] (by omega) (Nat.zero_le _) (Nat.zero_le _) (by omega)
theorem take_fst {z : List (Int × Bool)} {i : Nat} (h : i < z.length) : (z.map Prod.fst).take i ++ [z[i].1] = (z.map Prod.fst).take (i + 1) := by
  rw [List.take_succ_eq_append_getElem (by rw [List.length_map]; exact h), List.getElem_map]
theorem take_snd {z : List (Int × Bool)} {i : Nat} (h : i < z.length) : (z.map Prod.snd).take i ++ [z[i].2] = (z.map Prod.snd).take (i + 1) := by
  rw [List.take_succ_eq_append_getElem (by rw [List.length_map]; exact h), List.getElem_map]
theorem impl_l0_hit (x : List UInt8) (s : Int) {z : List (Int × Bool)} (hp : z.length ≤ 7) (hl : ∀ c ∈ z, 0 ≤ c.1 ∧ c.1 < 10000) : ∀ (d k i : Nat) (f : Bool), f = true → i + d = z.length → d + 400 < k →
    impl_ParseCrew.l0 k (bs x) f ((z.map crT).map bs) ((z.map crT).length : Int) (i : Int) ((z.map Prod.fst).take i) ((z.map Prod.snd).take i) s = some (if crewB (z.map Prod.fst) (z.map Prod.snd) s = true ∧ crewT (z.map Prod.fst) (z.map Prod.snd) s = x then (z.map Prod.fst, z.map Prod.snd, s, true) else ([], [], 0, false)) := by
  intro d
  induction d with
  | zero =>
    intro k i f hf hi hk
    obtain ⟨k, rfl⟩ := k_succ hk
    simp only [impl_ParseCrew.l0]
    rw [if_neg (by rw [List.length_map]; omega), List.take_of_length_le (by rw [List.length_map]; omega), List.take_of_length_le (by rw [List.length_map]; omega), impl_end x f _ _ s (by omega)]
    simp [hf]
  | succ d ih =>
    intro k i f hf hi hk
    obtain ⟨k, rfl⟩ := k_succ hk
    have hlt : i < z.length := by omega
    have hm : i < (z.map crT).length := by rw [List.length_map]; exact hlt
    have hc := hl _ (List.getElem_mem hlt)
    have h4 := numT_4 hc.1 hc.2
    have hcl := crT_len hc.1 hc.2
    obtain ⟨s1, s2⟩ := suffix_hit (w := z[i].1) z[i].2
    simp only [impl_ParseCrew.l0]
    rw [if_pos (by omega), if_pos (by omega), if_pos (by rw [List.length_map]; omega), rdOf_map (z.map crT) i hm, List.getElem_map, suffix_eq (by omega), Option.bind_some]
    dsimp only
    rw [s1, s2, readNumber_eq (by omega), rn_num hc.1 (by omega), Option.bind_some, Option.bind_some, Option.bind_some, Option.bind_some, Option.bind_some, wrap_succ hm (by rw [List.length_map]; omega), if_pos hf, if_pos (by simp; omega), if_pos (by simp; omega), take_fst hlt, take_snd hlt]
    exact ih k (i + 1) true rfl (by omega) (by omega)
theorem impl_hit {l : List Int} {o : List Bool} {s : Int} (hg : crewB l o s = true) {k : Nat} (hk : 800 < k) : impl_ParseCrew.f k (bs (crewT l o s)) = some (l, o, s, true) := by
  obtain ⟨hx, h0, h1, h2, h3, h4⟩ := crew_all hg
  have hz := zip_small (o := o) hx
  have hn := crewT_len hg
  have a1 := numT_4 (n := s) (by omega) (by omega)
  have a2 := crewsT_len (l.zip o) hz
  have a3 : (l.zip o).length = l.length := by rw [List.length_zip]; omega
  have e1 : Lib.cut (crewT l o s) [61] = (numT s, crewsT (l.zip o), true) := by rw [crewT_cons]; exact cut_hit 61 _ (numT_free s (by decide))
  have f1 : (l.zip o).map Prod.fst = l := List.map_fst_zip (by omega)
  have f2 : (l.zip o).map Prod.snd = o := List.map_snd_zip (by omega)
  unfold impl_ParseCrew.f
  rw [cut_eq (by omega) 61, Option.bind_some, e1]
  dsimp only
  rw [readNumber_eq (by omega), Option.bind_some, rn_num (by omega) (by omega), split_eq (by omega) 44, Option.bind_some, crewsT_split (zip_ne h0 h1), List.length_map]
  have := impl_l0_hit (crewT l o s) s (z := l.zip o) (by omega) hz (l.zip o).length k 0 true rfl (by omega) (by omega)
  rw [f1, f2, List.take_zero, List.take_zero] at this
  dsimp only
  rw [show (0 : Int) = ((0 : Nat) : Int) from rfl, this, if_pos ⟨hg, rfl⟩]
theorem both {x : List UInt8} (hn : x.length ≤ 1048576) : ∃ l o s ok, l.length ≤ 1048576 ∧ o.length ≤ 1048576 ∧ (∀ k, x.length + 800 < k → spec_ParseCrew.f k (bs x) = some (l, o, s, ok)) ∧ (∀ k, x.length + 800 < k → impl_ParseCrew.f k (bs x) = some (l, o, s, ok)) := by
  by_cases h : ∃ l o s, crewB l o s = true ∧ x = crewT l o s
  · obtain ⟨l, o, s, hg, rfl⟩ := h
    have := crew_all hg
    refine ⟨l, o, s, true, by omega, by omega, fun k hk => ?_, fun k hk => impl_hit hg (by omega)⟩
    unfold spec_ParseCrew.f
    rw [spec_hit hg (by omega)]
    rfl
  · refine ⟨[], [], 0, false, by simp, by simp, fun k hk => ?_, fun k hk => ?_⟩
    · unfold spec_ParseCrew.f
      rcases spec_or hn (k := k) (by omega) with e | e
      · rw [e]
        rfl
      · exact absurd e h
    · rcases impl_or hn (k := k) (by omega) with e | e
      · exact e
      · exact absurd e h
theorem heldCrew_eq {l : List Int} {o : List Bool} (hn : l.length ≤ 1048576) (hm : o.length ≤ 1048576) (s : Int) (h : ∀ j, j < l.length → l.getD j 0 = ((1 + j : Nat) : Int)) (h2 : ∀ j, j < o.length → o.getD j false = (Int.tmod ((1 + l.length + j : Nat) : Int) 3 == 0)) {k : Nat} (hk : l.length < k) (hk2 : o.length < k) :
    laws_heldCrew.f k l o s 1 = some ((1 + l.length + o.length : Nat) : Int) := by
  unfold laws_heldCrew.f
  rw [heldIntS_eq hn h hk, Option.bind_some, if_neg (by omega), heldBoolS_eq (by omega) hm h2 hk2, Option.bind_some, if_neg (by omega)]
theorem pure : ∀ (a0 : ByteArray), a0.size ≤ 9223372036854775807 → ∃ k, laws_FnExactParseCrew.f k a0 = some true := by
  intro a0 _
  obtain ⟨x, rfl⟩ : ∃ x, a0 = bs x := ⟨a0.data.toList, (bs_data a0).symm⟩
  have hs := bs_size x
  by_cases h1 : x.length ≤ 1048576
  · obtain ⟨l, o, s, ok, hl, ho, e1, e2⟩ := both h1
    obtain ⟨K, hK⟩ : ∃ K, K = x.length + l.length + o.length + 2000 := ⟨_, rfl⟩
    obtain ⟨l', m1, m2, m3⟩ := markIntS_eq hl (k := K + 1) (by omega)
    obtain ⟨o', n1, n2, n3⟩ := markBoolS_eq (m := 1 + l.length) (by omega) ho (k := K + 1) (by omega)
    have hm : laws_markCrew.f (K + 1) l o s 1 = some (((1 + l.length + o.length : Nat) : Int), l', o') := by
      unfold laws_markCrew.f
      rw [m1, Option.bind_some]
      dsimp only
      rw [n1, Option.bind_some]
    have hh : ∀ k, K ≤ k → laws_heldCrew.f k l' o' s 1 = some ((1 + l.length + o.length : Nat) : Int) := by
      intro k hk
      have := heldCrew_eq (l := l') (o := o') (by omega) (by omega) s (by rw [m2]; exact m3) (by rw [m2, n2]; exact n3) (k := k) (by omega) (by omega)
      rw [this, m2, n2]
    refine ⟨K + 2, ?_⟩
    unfold laws_FnExactParseCrew.f
    rw [if_neg (by omega), e1 _ (by omega), Option.bind_some, e2 _ (by omega), Option.bind_some]
    dsimp only
    rw [eqCrew_eq (by omega) (by omega) s (by omega) (by omega), Option.bind_some, if_pos rfl]
    simp only [laws_FnExactParseCrew.j0]
    rw [if_neg (by simp), hm, Option.bind_some]
    dsimp only
    rw [hh _ (by omega), Option.bind_some, if_neg (by omega), if_pos rfl, e2 _ (by omega), Option.bind_some]
    dsimp only
    rw [eqCrew_eq (by omega) (by omega) s (by omega) (by omega), Option.bind_some, if_pos rfl]
    simp only [laws_FnExactParseCrew.j1]
    rw [if_neg (by simp), hh _ (by omega), Option.bind_some, if_neg (by omega), if_pos rfl]
  · refine ⟨1, ?_⟩
    unfold laws_FnExactParseCrew.f
    rw [if_pos (by omega)]

end Go.Proofs.YtpiidnmobofaeaaDoor.fnExactParseCrew
