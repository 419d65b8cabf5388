/- FnExactCountRows: what both sides compute at given companies, told by the kernel's own computation. Conditions: those that stand at each theorem. -/
import Derived.Test.YthkchdfkeieabaaOpn
import Derived.Test.YthkchdfkeieabaaQGrx13
namespace Go.Proofs.Ythkchdfkeieabaa.fnExactCountRows
open Go.RowKit Go.Proofs.YthkchdfkeieabaaW.PrintWords Go.Proofs.YthkchdfkeieabaaW.PrintLast Go.Proofs.YthkchdfkeieabaaW.PrintMore Go.Proofs.Ythkchdfkeieabaa.QGr
set_option linter.unusedVariables false
set_option linter.unusedSimpArgs false
set_option maxRecDepth 100000

/-- x lies between a and b. -/
def inB (x a b : Int) : Bool := decide (a ≤ x) && decide (x ≤ b)
theorem inB_true {x a b : Int} : inB x a b = true ↔ a ≤ x ∧ x ≤ b := by simp [inB]
theorem wrap_id {n : Int} (h0 : -9223372036854775808 ≤ n) (h1 : n ≤ 9223372036854775807) : wrap64 n = n := by
  unfold wrap64
  omega
theorem wrap_succ {i n : Nat} (h : i < n) (hn : n ≤ 9223372036854775807) : wrap64 ((i : Int) + 1) = ((i + 1 : Nat) : Int) := by
  unfold wrap64
  omega
theorem getD_take {α : Type} (l : List α) (i : Nat) (h : i < l.length) (z : α) : l.take (i + 1) = l.take i ++ [l.getD i z] := by
  rw [List.take_succ_eq_append_getElem h, List.getD_eq_getElem?_getD, List.getElem?_eq_getElem h]
  rfl
theorem getD_drop {α : Type} (l : List α) (i : Nat) (h : i < l.length) (z : α) : l.drop i = l.getD i z :: l.drop (i + 1) := by
  rw [List.drop_eq_getElem_cons h, List.getD_eq_getElem?_getD, List.getElem?_eq_getElem h]
  rfl
theorem set_take {α : Type} (l : List α) (i : Nat) (h : i < l.length) (v : α) : (l.set i v).take (i + 1) = l.take i ++ [v] := by
  rw [List.take_succ_eq_append_getElem (by rw [List.length_set]; exact h), List.take_set_of_le (Nat.le_refl i), List.getElem_set_self]
theorem k_succ {k d : Nat} (h : d < k) : ∃ m, k = m + 1 := ⟨k - 1, by omega⟩
theorem getD_map_at {α β : Type} (f : α → β) (l : List α) (i : Nat) (h : i < l.length) (z : α) (y : β) : (l.map f).getD i y = f (l.getD i z) := by
  rw [List.getD_eq_getElem?_getD, List.getD_eq_getElem?_getD, List.getElem?_map, List.getElem?_eq_getElem h]
  rfl
theorem at_mem {α : Type} {l : List α} {i : Nat} (h : i < l.length) (z : α) : l.getD i z ∈ l := by
  rw [List.getD_eq_getElem?_getD, List.getElem?_eq_getElem h]
  exact List.getElem_mem h
/-- All lists that go on from l with some of P, in order. -/
def subs : List Int → List Int → List (List Int)
  | [], _ => []
  | x :: P, l => (l ++ [x]) :: (subs P (l ++ [x]) ++ subs P l)
theorem mem_subs {g : List Int} : ∀ (P l : List Int), g ∈ subs P l ↔ ∃ s, s ≠ [] ∧ s.Sublist P ∧ g = l ++ s
  | [], l => by
    simp only [subs, List.not_mem_nil, List.sublist_nil, false_iff]
    rintro ⟨s, h1, h2, -⟩
    exact h1 h2
  | x :: P, l => by
    simp only [subs, List.mem_cons, List.mem_append, mem_subs P]
    constructor
    · rintro (h | ⟨s, h1, h2, h3⟩ | ⟨s, h1, h2, h3⟩)
      · exact ⟨[x], by simp, List.Sublist.cons_cons x (List.nil_sublist P), h⟩
      · exact ⟨x :: s, by simp, List.Sublist.cons_cons x h2, by rw [h3, List.append_assoc]; rfl⟩
      · exact ⟨s, h1, List.Sublist.cons x h2, h3⟩
    · rintro ⟨s, h1, h2, h3⟩
      cases h2 with
      | cons _ h => exact .inr (.inr ⟨s, h1, h, h3⟩)
      | cons_cons _ h =>
        rename_i s'
        by_cases e : s' = []
        · left; rw [h3, e]
        · right; left
          exact ⟨s', e, h, by rw [h3, List.append_assoc]; rfl⟩
theorem subs_len : ∀ (P l : List Int), (subs P l).length + 1 = 2 ^ P.length
  | [], _ => rfl
  | x :: P, l => by
    have h1 := subs_len P (l ++ [x])
    have h2 := subs_len P l
    simp only [subs, List.length_cons, List.length_append, Nat.pow_succ]
    omega
/-- The people on side t, by number. -/
def hereF (o : List Bool) (t : Bool) : List Int := ((List.range o.length).filter fun i => o.getD i false == t).map fun i : Nat => (i : Int)
theorem hereF_len (o : List Bool) (t : Bool) : (hereF o t).length ≤ o.length := by
  unfold hereF
  rw [List.length_map]
  have := List.length_filter_le (fun i => o.getD i false == t) (List.range o.length)
  rwa [List.length_range] at this
theorem mem_hereF {o : List Bool} {t : Bool} {x : Int} : x ∈ hereF o t ↔ 0 ≤ x ∧ x < (o.length : Int) ∧ o.getD x.toNat false = t := by
  unfold hereF
  simp only [List.mem_map, List.mem_filter, List.mem_range, beq_iff_eq]
  constructor
  · rintro ⟨i, ⟨h1, h2⟩, rfl⟩
    exact ⟨by omega, by omega, h2⟩
  · rintro ⟨h1, h2, h3⟩
    exact ⟨x.toNat, ⟨by omega, h3⟩, by omega⟩
/-- Those of a group change sides. -/
def mvO (o : List Bool) (t : Bool) (g : List Int) : List Bool := g.foldl (fun o x => o.set x.toNat (!t)) o
theorem mvO_len (t : Bool) : ∀ (g : List Int) (o : List Bool), (mvO o t g).length = o.length
  | [], _ => rfl
  | x :: g, o => by
    show (mvO (o.set x.toNat (!t)) t g).length = _
    rw [mvO_len t g, List.length_set]
def hereD (o : List Bool) (t : Bool) (i d : Nat) : List Int := ((List.range' i d).filter fun j => o.getD j false == t).map fun j : Nat => (j : Int)
theorem hereD_0 (o : List Bool) (t : Bool) : hereD o t 0 o.length = hereF o t := by
  unfold hereD hereF
  rw [List.range_eq_range']
theorem hereD_succ (o : List Bool) (t : Bool) (i d : Nat) : hereD o t i (d + 1) = (if (o.getD i false == t) = true then [(i : Int)] else []) ++ hereD o t (i + 1) d := by
  unfold hereD
  rw [List.range'_succ, List.filter_cons]
  split <;> simp
theorem side_l0 {o : List Bool} (t : Bool) (hn : o.length ≤ 8) : ∀ (d k i : Nat) (acc : List Int), i + d = o.length → d < k → acc.length ≤ i → impl_State_side.l0 k t acc o (o.length : Int) (i : Int) = some (acc ++ hereD o t i d) := by
  intro d
  induction d with
  | zero =>
    intro k i acc hi hk _
    obtain ⟨k, rfl⟩ := k_succ hk
    simp only [impl_State_side.l0]
    rw [if_neg (by omega)]
    simp [hereD]
  | succ d ih =>
    intro k i acc hi hk ha
    obtain ⟨k, rfl⟩ := k_succ hk
    have hlt : i < o.length := by omega
    simp only [impl_State_side.l0]
    rw [if_pos (by omega), if_pos (by omega), if_pos (by omega), wrap_succ hlt (by omega), hereD_succ, if_pos (by omega : acc.length < 17592186044416)]
    show (if (o.getD i false == t) = true then _ else _) = _
    by_cases e : (o.getD i false == t) = true
    · rw [if_pos e, if_pos e, ih k (i + 1) _ (by omega) (by omega) (by rw [List.length_append, List.length_singleton]; omega), List.append_assoc]
    · rw [if_neg e, if_neg e, ih k (i + 1) _ (by omega) (by omega) (by omega)]
      rfl
theorem side_eq {o : List Bool} (b t : Bool) (hn : o.length ≤ 8) {k : Nat} (hk : 20 ≤ k) : impl_State_side.f k o b t = some (hereF o t) := by
  unfold impl_State_side.f
  rw [show (0 : Int) = ((0 : Nat) : Int) by rfl, side_l0 t hn o.length k 0 _ (by omega) (by omega) (Nat.le_refl _), hereD_0]
  rfl
def InN (n : Nat) (g : List Int) : Prop := ∀ x ∈ g, 0 ≤ x ∧ x < (n : Int)
theorem hereF_in (o : List Bool) (t : Bool) : InN o.length (hereF o t) := fun x hx => ⟨(mem_hereF.1 hx).1, (mem_hereF.1 hx).2.1⟩
/-- A ride's end. -/
def mv (s : List Bool × Bool) (g : List Int) : List Bool × Bool := (mvO s.1 s.2 g, !s.2)
theorem moved_l0 {g : List Int} {n : Nat} (hg : InN n g) (hn : g.length ≤ 1000000) (b : Bool) : ∀ (d k i : Nat) (o : List Bool), o.length = n → i + d = g.length → d < k → impl_State_moved.l0 k g (g.length : Int) (i : Int) o (!b) = some (mvO o b (g.drop i), !b) := by
  intro d
  induction d with
  | zero =>
    intro k i o ho hi hk
    obtain ⟨k, rfl⟩ := k_succ hk
    simp only [impl_State_moved.l0]
    rw [if_neg (by omega), show i = g.length by omega, List.drop_length]
    rfl
  | succ d ih =>
    intro k i o ho hi hk
    obtain ⟨k, rfl⟩ := k_succ hk
    have hlt : i < g.length := by omega
    have hx : 0 ≤ rd g (i : Int) ∧ rd g (i : Int) < (n : Int) := hg _ (at_mem hlt 0)
    simp only [impl_State_moved.l0]
    rw [if_pos (by omega), if_pos (by omega), if_pos (by omega), if_pos hx.1, if_pos (by omega), wrap_succ hlt (by omega), getD_drop g i hlt 0, ih k (i + 1) _ (by rw [List.length_set]; exact ho) (by omega) (by omega)]
    rfl
theorem moved_eq {s : List Bool × Bool} (hn : s.1.length ≤ 8) {g : List Int} (hg : g.Sublist (hereF s.1 s.2)) {k : Nat} (hk : 20 ≤ k) : impl_State_moved.f k s.1 s.2 g = some (mv s g) := by
  have hlen := hg.length_le
  have hl2 := hereF_len s.1 s.2
  unfold impl_State_moved.f slices_Clone_bool_bool.f
  rw [if_pos (by omega), Option.bind_some]
  exact moved_l0 (n := s.1.length) (fun x hx => hereF_in s.1 s.2 x (hg.subset hx)) (by omega) s.2 g.length k 0 s.1 rfl (by omega) (by omega)
/-- All rows of n marks. -/
def allB : Nat → List (List Bool)
  | 0 => [[]]
  | n + 1 => (allB n).flatMap fun l => [true :: l, false :: l]
theorem mem_allB : ∀ o : List Bool, o ∈ allB o.length
  | [] => by simp [allB]
  | b :: o => by
    simp only [List.length_cons, allB, List.mem_flatMap]
    exact ⟨o, mem_allB o, by cases b <;> simp⟩
theorem both_b (t : Bool) : t ∈ [true, false] := by cases t <;> simp
/-- More steps change nothing. -/
theorem mono_le {α : Type} {f : Nat → Option α} (h : ∀ k, LeO (f k) (f (k + 1))) {k k' : Nat} (hk : k ≤ k') {r : α} (hr : f k = some r) : f k' = some r := by
  induction hk with
  | refl => exact hr
  | step _ ih => exact h _ _ ih
/-- The number of a group, a bit for each. -/
def bitG (g : List Int) : Nat := g.foldl (fun a x => a + 2 ^ x.toNat) 0
def bitO (o : List Bool) : Nat := o.foldr (fun b a => 2 * a + if b = true then 1 else 0) 0
/-- No kept one is without its keeper, or there is no keeper: of a group's number. -/
def calmN (b : Nat) : Bool := (b &&& 85) == 0 || ((b >>> 1) &&& (85 ^^^ (b &&& 85)) &&& 85) == 0
def quietF (o : List Bool) : Bool := calmN (bitO o) && calmN (2 ^ o.length - 1 - bitO o)
def codeF (o : List Bool) (t : Bool) : Nat := bitO o + if t = true then 2 ^ o.length else 0
def stF (n s : Nat) : List Bool × Bool := ((List.range n).map fun i => (s >>> i) % 2 == 1, (s >>> n) % 2 == 1)
def rngI (n : Nat) : List Int := (List.range n).map fun i : Nat => (i : Int)
def chkCalm (n : Nat) : Bool := (subs (rngI n) []).all fun g => impl_calm.f 30 g == some (calmN (bitG g))
def chkQuiet (n : Nat) : Bool := (allB n).all fun o => [true, false].all fun t => impl_State_isCalm.f 30 o t == some (quietF o)
def chkCode (n : Nat) : Bool := (allB n).all fun o => [true, false].all fun t => impl_State_code.f 30 o t == some (codeF o t : Int) && decide (codeF o t < 2 ^ (n + 1))
def chkSt (n : Nat) : Bool := (List.range (2 ^ (n + 1))).all fun s => impl_stateOf.f 30 (n : Int) (s : Int) == some (stF n s)
set_option maxRecDepth 100000 in
theorem chkFast : ([2, 4, 6, 8].all fun n => chkCalm n && (chkQuiet n && (chkCode n && chkSt n))) = true := by decide +kernel
theorem chkFast_n {n : Nat} (h : n ∈ [2, 4, 6, 8]) : chkCalm n = true ∧ chkQuiet n = true ∧ chkCode n = true ∧ chkSt n = true := by
  have := List.all_eq_true.1 chkFast n h
  simpa only [Bool.and_eq_true] using this
theorem le8 {n : Nat} (h : n ∈ [2, 4, 6, 8]) : n ≤ 8 := by
  simp only [List.mem_cons, List.not_mem_nil, or_false] at h
  omega
theorem hereF_sub (o : List Bool) (t : Bool) : (hereF o t).Sublist (rngI o.length) := List.Sublist.map _ List.filter_sublist
theorem calmF_eq {n : Nat} (h : n ∈ [2, 4, 6, 8]) {g : List Int} (h0 : g ≠ []) (hg : g.Sublist (rngI n)) : impl_calm.f 30 g = some (calmN (bitG g)) :=
  eq_of_beq (List.all_eq_true.1 (chkFast_n h).1 g ((mem_subs _ _).2 ⟨g, h0, hg, rfl⟩))
theorem quietF_eq {o : List Bool} (h : o.length ∈ [2, 4, 6, 8]) (t : Bool) : impl_State_isCalm.f 30 o t = some (quietF o) :=
  eq_of_beq (List.all_eq_true.1 (List.all_eq_true.1 (chkFast_n h).2.1 o (mem_allB o)) t (both_b t))
theorem codeF_eq {o : List Bool} (h : o.length ∈ [2, 4, 6, 8]) (t : Bool) : impl_State_code.f 30 o t = some (codeF o t : Int) ∧ codeF o t < 2 ^ (o.length + 1) := by
  have h1 := List.all_eq_true.1 (List.all_eq_true.1 (chkFast_n h).2.2.1 o (mem_allB o)) t (both_b t)
  rw [Bool.and_eq_true] at h1
  exact ⟨eq_of_beq h1.1, of_decide_eq_true h1.2⟩
theorem stF_eq {n : Nat} (h : n ∈ [2, 4, 6, 8]) {s : Nat} (hs : s < 2 ^ (n + 1)) : impl_stateOf.f 30 (n : Int) (s : Int) = some (stF n s) :=
  eq_of_beq (List.all_eq_true.1 (chkFast_n h).2.2.2 s (List.mem_range.2 hs))
/-- Those lists of subs that have at most m in them. -/
def subsM (m : Nat) : List Int → List Int → List (List Int)
  | [], _ => []
  | x :: P, l => if l.length < m then (l ++ [x]) :: (subsM m P (l ++ [x]) ++ subsM m P l) else []
theorem subsM_sub (m : Nat) : ∀ (P l : List Int), (subsM m P l).Sublist (subs P l)
  | [], _ => List.Sublist.refl _
  | x :: P, l => by
    unfold subsM subs
    split
    · exact List.Sublist.cons_cons _ (List.Sublist.append (subsM_sub m P _) (subsM_sub m P _))
    · exact List.nil_sublist _
theorem gOn_of {st : List Int → List (List Int) → Option (List (List Int))} {ok : List Int → Bool} (m : Nat) : ∀ (P l : List Int) (acc : List (List Int)), (∀ g ∈ subs P l, ∀ a : List (List Int), a.length < 1000000 → st g a = some (a ++ if ok g = true then [g] else [])) → acc.length + 2 ^ P.length ≤ 1000000 →
    gOn st (m : Int) P l acc = some (acc ++ (subsM m P l).filter ok)
  | [], l, acc, _, _ => by simp [gOn, subsM]
  | x :: P, l, acc, H, hacc => by
    rw [List.length_cons, Nat.pow_succ] at hacc
    have hpos : 0 < 2 ^ P.length := Nat.pow_pos (by omega)
    unfold gOn subsM
    by_cases hm : l.length < m
    · rw [if_pos (by omega), if_pos hm, H (l ++ [x]) (by simp [subs]) acc (by omega), Option.bind_some]
      have hq : (if ok (l ++ [x]) = true then [l ++ [x]] else ([] : List (List Int))).length ≤ 1 := by split <;> simp
      have h1 := subs_len P (l ++ [x])
      have h2 := Nat.le_trans (List.length_filter_le ok (subsM m P (l ++ [x]))) (subsM_sub m P (l ++ [x])).length_le
      rw [gOn_of m P (l ++ [x]) _ (fun g hg => H g (by simp [subs, hg])) (by rw [List.length_append]; omega), Option.bind_some,
        gOn_of m P l _ (fun g hg => H g (by simp [subs, hg])) (by rw [List.length_append, List.length_append]; omega), List.filter_cons, List.filter_append]
      cases ok (l ++ [x]) <;> simp
    · rw [if_neg (by omega), if_neg hm]
      simp
/-- The edges from a state's number, told fast. -/
def rowOk (s : List Bool × Bool) (g : List Int) : Bool := calmN (bitG g) && quietF (mv s g).1
def edC (n m c : Nat) : List S110 := ((subsM m (hereF (stF n c).1 (stF n c).2) []).filter (rowOk (stF n c))).map fun g => ⟨(codeF (mv (stF n c) g).1 (mv (stF n c) g).2 : Int), 1, g⟩
theorem cmEd_eq {s : List Bool × Bool} (hn : s.1.length ∈ [2, 4, 6, 8]) : ∀ (L : List (List Int)) (acc : List S110), (∀ g ∈ L, g.Sublist (hereF s.1 s.2)) → acc.length + L.length ≤ 1000000 → cmEd 30 s.1 s.2 L acc = some (acc ++ L.map fun g => ⟨(codeF (mv s g).1 (mv s g).2 : Int), 1, g⟩)
  | [], acc, _, _ => by simp [cmEd]
  | g :: L, acc, h, ha => by
    rw [List.length_cons] at ha
    have hl : (mv s g).1.length = s.1.length := mvO_len _ _ _
    unfold cmEd
    rw [moved_eq (le8 hn) (h g (by simp)) (by omega), Option.bind_some, (codeF_eq (o := (mv s g).1) (by rw [hl]; exact hn) _).1, Option.bind_some, if_pos (by omega), cmEd_eq hn L _ (fun x hx => h x (by simp [hx])) (by rw [List.length_append, List.length_singleton]; omega)]
    simp
theorem cmG_eq {n : Nat} (hn : n ∈ [2, 4, 6, 8]) (m : Nat) {c : Nat} (hc : c < 2 ^ (n + 1)) : cmG 30 n (m : Int) (c : Int) = some (edC n m c) := by
  have hl : (stF n c).1.length = n := by simp [stF]
  have h8 := le8 hn
  have hP := hereF_len (stF n c).1 (stF n c).2
  have hp : 2 ^ (hereF (stF n c).1 (stF n c).2).length ≤ 2 ^ 8 := Nat.pow_le_pow_right (by decide) (by omega)
  have hsl := subs_len (hereF (stF n c).1 (stF n c).2) []
  have hlen := Nat.le_trans (List.length_filter_le (rowOk (stF n c)) (subsM m (hereF (stF n c).1 (stF n c).2) [])) (subsM_sub m (hereF (stF n c).1 (stF n c).2) []).length_le
  have hmem : ∀ g, g ∈ subs (hereF (stF n c).1 (stF n c).2) [] → g ≠ [] ∧ g.Sublist (hereF (stF n c).1 (stF n c).2) := by
    intro g hg
    obtain ⟨s, h1, h2, h3⟩ := (mem_subs _ _).1 hg
    rw [List.nil_append] at h3
    rw [h3]
    exact ⟨h1, h2⟩
  unfold cmG
  rw [stF_eq hn hc, Option.bind_some]
  unfold impl_Company_rows.f
  rw [side_eq _ _ (by omega) (by omega), Option.bind_some, if_pos (by omega), gOn_of (ok := rowOk (stF n c)) m _ _ _ ?_ (by simp only [List.length_nil]; omega), Option.bind_some, List.nil_append, if_pos (by omega),
    cmEd_eq (by rw [hl]; exact hn) _ _ (fun g hg => (hmem g ((subsM_sub m _ _).subset (List.mem_filter.1 hg).1)).2) (by simp only [List.length_nil]; omega), List.nil_append]
  · rfl
  · intro g hg a ha
    obtain ⟨h1, h2⟩ := hmem g hg
    have hm : (mv (stF n c) g).1.length = n := by rw [show (mv (stF n c) g).1.length = (stF n c).1.length from mvO_len _ _ _, hl]
    unfold cmSt rowOk
    rw [calmF_eq hn h1 (by have := h2.trans (hereF_sub _ _); rwa [hl] at this), Option.bind_some]
    cases calmN (bitG g)
    · simp
    · rw [if_pos rfl, moved_eq (by omega) h2 (by omega), Option.bind_some, quietF_eq (by rw [hm]; exact hn), Option.bind_some, Bool.true_and]
      cases quietF (mv (stF n c) g).1
      · simp
      · rw [if_pos rfl, if_pos ha, if_pos rfl]
def gT (n m : Nat) (s : Int) : Option (List S110) := if 0 ≤ s ∧ s < ((2 ^ (n + 1) : Nat) : Int) then some (edC n m s.toNat) else none
theorem gT_le {n : Nat} (hn : n ∈ [2, 4, 6, 8]) (m : Nat) {k : Nat} (hk : 30 ≤ k) (s : Int) : LeO (gT n m s) (cmG k n (m : Int) s) := by
  intro r h
  unfold gT at h
  split at h
  · next h0 =>
    obtain rfl := Option.some.inj h
    have h1 := cmG_eq hn m (c := s.toNat) (by omega)
    rw [Int.toNat_of_nonneg h0.1] at h1
    exact mono_le (fun k => cmG_mono k n (m : Int) s) hk h1
  · exact absurd h (by simp)
/-- What is told of the least ways, checked at a list that tells it. -/
def certW (E : Int → List S110) (N : Nat) (D W : List Int) : Bool := (List.range N).all fun s => decide (rdOf 0 D (s : Int) < 0) ||
  (if rdOf 0 D (s : Int) = 0 then rdOf 0 W (s : Int) == 1 else (tlBest E D (s : Int)).all (fun e => decide (0 ≤ e.f0) && (decide (e.f0 < (N : Int)) && (decide (0 ≤ rdOf 0 D e.f0) && decide (rdOf 0 D e.f0 < rdOf 0 D (s : Int))))) &&
    rdOf 0 W (s : Int) == tlFold (fun a b _ => wrap64 (a + b)) (fun v => rdOf 0 W v) (tlBest E D (s : Int)) 0 0)
theorem certW_tl {E : Int → List S110} {N : Nat} {D W : List Int} (h : certW E N D W = true) : ∀ (k : Nat) (s : Int), 0 ≤ s → s < (N : Int) → 0 ≤ rdOf 0 D s → rdOf 0 D s < (k : Int) → tlV E D (fun a b _ => wrap64 (a + b)) 1 k s = rdOf 0 W s
  | 0, s, _, _, h2, h3 => by omega
  | k + 1, s, h0, h1, h2, h3 => by
    have hc := List.all_eq_true.1 h s.toNat (List.mem_range.2 (by omega))
    rw [Int.toNat_of_nonneg h0, decide_eq_false (by omega), Bool.false_or] at hc
    unfold tlV
    by_cases e : rdOf 0 D s = 0
    · rw [if_pos e] at hc ⊢
      exact (eq_of_beq hc).symm
    · rw [if_neg e, Bool.and_eq_true] at hc
      rw [if_neg e, eq_of_beq hc.2]
      refine tlFold_same _ _ _ fun x hx => ?_
      have hb := List.all_eq_true.1 hc.1 x hx
      simp only [Bool.and_eq_true, decide_eq_true_eq] at hb
      exact certW_tl h k x.f0 hb.1 hb.2.1 hb.2.2.1 (by omega)
theorem implRows_yes {co : Nat} {m : Nat} (hco : 1 ≤ co ∧ co ≤ 4) (hm : 1 ≤ m ∧ m ≤ 4) {D W : List Int} {q : Int} (hq : impl_last.f ((2 * co : Nat) : Int) = some q) (hN : grN (2 * co) = ((2 ^ (2 * co + 1) : Nat) : Int))
    (h1 : frG (gT (2 * co) m) 1000 (grN (2 * co)) [q] = some D) (h2 : 0 < D.length) (h3 : 0 ≤ rdOf 0 D 0) (h4 : grOk (grE (gT (2 * co) m)) (grN (2 * co)) 0 D = true) (h5 : certW (grE (gT (2 * co) m)) (2 ^ (2 * co + 1)) D W = true) :
    impl_CountRows.f 1001 (co : Int) (m : Int) = some (rdOf 0 W 0, true) := by
  have hn : 2 * co ∈ [2, 4, 6, 8] := by simp only [List.mem_cons, List.not_mem_nil, or_false]; omega
  have ha : grAll (gT (2 * co) m) (grN (2 * co)) = true := by
    unfold frG at h1
    by_cases c : grAll (gT (2 * co) m) (grN (2 * co)) = true
    · exact c
    · rw [if_neg c] at h1; cases h1
  have hz : impl_IsCompany.f (co : Int) (m : Int) = some true := by
    unfold impl_IsCompany.f impl_in.f
    rw [if_pos (by omega), Option.bind_some, decide_eq_true (by omega), if_pos rfl, if_pos (by omega), Option.bind_some, decide_eq_true (by omega)]
  have hf := frG_mono (gT_le hn m (k := 1001) (by omega)) 1000 (grN (2 * co)) [q] D h1
  have hct : coG (gT (2 * co) m) (grN (2 * co)) 0 D = some (rdOf 0 W 0) := by
    unfold coG
    rw [if_pos ha]
    unfold impl_graph_int_count.f
    rw [if_pos h4]
    unfold tlT
    rw [certW_tl h5 _ 0 (by omega) (by have : 0 < 2 ^ (2 * co + 1) := Nat.pow_pos (by omega); omega) h3 (by omega)]
  have hcg := coG_mono (gT_le hn m (k := 1001) (by omega)) (grN (2 * co)) 0 D _ hct
  unfold impl_CountRows.f impl_Company_costs.f
  rw [hz, Option.bind_some, if_pos rfl, Int.toNat_natCast, hq, Option.bind_some, hf, Option.bind_some, if_pos h2, Option.bind_some]
  simp only
  rw [decide_eq_true h3, if_pos rfl, hcg, Option.bind_some]
theorem implRows_no {co : Nat} {m : Nat} (hco : 1 ≤ co ∧ co ≤ 4) (hm : 1 ≤ m ∧ m ≤ 4) {D : List Int} {q : Int} (hq : impl_last.f ((2 * co : Nat) : Int) = some q)
    (h1 : frG (gT (2 * co) m) 1000 (grN (2 * co)) [q] = some D) (h2 : 0 < D.length) (h3 : rdOf 0 D 0 < 0) :
    impl_CountRows.f 1001 (co : Int) (m : Int) = some (0, true) := by
  have hn : 2 * co ∈ [2, 4, 6, 8] := by simp only [List.mem_cons, List.not_mem_nil, or_false]; omega
  have hz : impl_IsCompany.f (co : Int) (m : Int) = some true := by
    unfold impl_IsCompany.f impl_in.f
    rw [if_pos (by omega), Option.bind_some, decide_eq_true (by omega), if_pos rfl, if_pos (by omega), Option.bind_some, decide_eq_true (by omega)]
  have hf := frG_mono (gT_le hn m (k := 1001) (by omega)) 1000 (grN (2 * co)) [q] D h1
  unfold impl_CountRows.f impl_Company_costs.f
  rw [hz, Option.bind_some, if_pos rfl, Int.toNat_natCast, hq, Option.bind_some, hf, Option.bind_some, if_pos h2, Option.bind_some]
  simp only
  rw [decide_eq_false (by omega), if_neg (by decide)]
theorem far_l0 {x7 : List Int} (c m : Int) {n : Nat} (hn : n ≤ 1000000) : ∀ (d k i : Nat) (x6 : List Int), i + d = n → x6.length = n → spec_cuFar.l0 (k + d) 0 x6 x7 (n : Int) (i : Int) c m = spec_cuFar.l0 k 0 (x6.take i ++ List.replicate d (-1)) x7 (n : Int) (n : Int) c m := by
  intro d
  induction d with
  | zero =>
    intro k i x6 hi hl
    rw [List.replicate_zero, List.append_nil, show i = n by omega, ← hl, List.take_length]
    rfl
  | succ d ih =>
    intro k i x6 hi hl
    have e : spec_cuFar.l0 (k + (d + 1)) 0 x6 x7 (n : Int) (i : Int) c m = spec_cuFar.l0 (k + d) 0 (x6.set i (-1)) x7 (n : Int) ((i + 1 : Nat) : Int) c m := by
      rw [show k + (d + 1) = (k + d) + 1 from rfl]
      simp only [spec_cuFar.l0]
      rw [if_pos (by omega), if_pos (by omega), if_pos (by omega), wrap_succ (by omega : i < n) (by omega), Int.toNat_natCast]
    rw [e, ih k (i + 1) _ (by omega) (by rw [List.length_set]; exact hl), set_take _ _ (by omega), List.append_assoc]
    rfl
/-- What is read of the model's lists. -/
def spTail (p : List Int × List Int) : Option (Int × Bool) := (if 0 ≤ (wrap64 ((p.1.length : Int) - 1)) then (if (wrap64 ((p.1.length : Int) - 1)) < (p.1.length : Int) then (if 0 ≤ (wrap64 ((p.2.length : Int) - 1)) then (if (wrap64 ((p.2.length : Int) - 1)) < (p.2.length : Int) then (some (rd p.1 (wrap64 ((p.1.length : Int) - 1)), rd p.2 (wrap64 ((p.2.length : Int) - 1)))) else (none)) else (none)) else (none)) else (none)).bind fun (q : Int × Int) => if q.1 < 0 then some (0, true) else some (q.2, true)
theorem specRows_4 {m : Int} (hm : 1 ≤ m ∧ m ≤ 4) {r : Int × Bool} {k : Nat} (h : (spec_cuFar.l1 k ((List.replicate 512 (-1)).set 0 0) ((List.replicate 512 0).set 0 1) [0] 0 4 m).bind spTail = some r) : spec_CountRows.f (k + 1 + 512) 4 m = some r := by
  have hz : spec_cuGood.f 4 m = some true := by
    unfold spec_cuGood.f spec_l1In.f
    rw [if_pos (by omega), Option.bind_some, decide_eq_true (by omega), if_pos rfl, if_pos (by omega), Option.bind_some, decide_eq_true (by omega)]
  have hs : spec_cuSize.f 4 m = some 256 := by
    unfold spec_cuSize.f
    decide +kernel
  have hf : spec_cuFar.f (k + 1 + 512) 4 m 0 = spec_cuFar.l1 k ((List.replicate 512 (-1)).set 0 0) ((List.replicate 512 0).set 0 1) [0] 0 4 m := by
    have hw : wrap64 (2 * 256) = 512 := by decide +kernel
    unfold spec_cuFar.f
    simp only [hs, Option.bind_some, hw]
    rw [if_pos (by decide), if_pos (by decide), show ((512 : Int).toNat) = 512 from rfl, List.length_replicate]
    rw [if_pos (by decide), if_pos (by decide)]
    refine (far_l0 (x7 := List.replicate 512 0) (n := 512) 4 m (by omega) 512 (k + 1) 0 (List.replicate 512 0) (by omega) List.length_replicate).trans ?_
    rw [List.take_zero, List.nil_append]
    simp only [spec_cuFar.l0]
    rw [if_neg (by omega), if_pos (by omega), if_pos (by rw [List.length_replicate]; omega), if_pos (by rw [List.length_replicate]; omega)]
    rfl
  unfold spec_CountRows.f spec_cuFewest.f
  rw [hz, Option.bind_some, if_pos rfl, hf, Option.bind_assoc]
  exact h

end Go.Proofs.Ythkchdfkeieabaa.fnExactCountRows
