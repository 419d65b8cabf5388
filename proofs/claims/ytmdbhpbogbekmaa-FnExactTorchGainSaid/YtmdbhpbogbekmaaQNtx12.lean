/- Contracts of functions of the given program, walked. Conditions: those at each theorem. -/
import Derived.Test.YtmdbhpbogbekmaaQNtx0
import Derived.Test.YtmdbhpbogbekmaaQNtx10
namespace Go.Proofs.Ytmdbhpbogbekmaa.QNt
open Go.RowKit Go.Proofs.YtmdbhpbogbekmaaW.PrintWords Go.Proofs.YtmdbhpbogbekmaaW.PrintLast Go.Proofs.YtmdbhpbogbekmaaW.PrintMore
open List (setIfInBounds_toArray set_cons_zero set_cons_succ map_toArray map_cons map_nil)
attribute [local go_sem] max2_int min2_int max_two min_two max_three min_three max_four min_four
set_option linter.unusedVariables false
set_option maxHeartbeats 8000000
set_option maxRecDepth 100000
set_option linter.unusedSimpArgs false
theorem gp_lit0 {α : Type} (d : Kd α) (e : Nat) (W : World) {base : Nat} (hb : base ≤ W.heap.size) : Kd.S d e (W.alloc (.cells #[] e)) base (fun _ => True) (.slice (some ⟨W.heap.size, 0, none⟩) 0 0) [] := by
 refine ⟨fun _ => 0, fun _ _ => trivial, [], ?_, Reps.none _ _⟩
 have h2 := World.ownsRow_lit (base := base) (e := e) (size := d.sz) W #[] 0 hb (by simp [maxLen]) (by simp)
 have h3 : (W.alloc (.cells #[] e)).ownsRow base e d.sz (.slice (some ⟨W.heap.size, 0, none⟩) 0 0) 0 [] := by simpa using h2
 exact h3
theorem gp_new2 (W : World) (o o2 : Obj) : ((W.alloc o).alloc o2).heap[W.heap.size + 1]? = some o2 := by
 have h := blk_new (W.alloc o) o2
 have e : (W.alloc o).heap.size = W.heap.size + 1 := Array.size_push ..
 rw [e] at h
 exact h
def grSt (l : List Int) (acc : List (List Int)) : Option (List (List Int)) := if acc.length < 1000000 then some (acc ++ [l]) else none
theorem gr_each (g : Nat) (w0 : World) : GpEach (Kd.slice 3 (Kd.int .i64)) 22 57 grSt g 90 #[.pointer (some ⟨g, 0, none⟩)] w0 := by
 intro W v vL l acc a1 hst hl hs
 unfold grSt at hs
 by_cases hlen : acc.length < 1000000
 rotate_left
 ·rw [if_neg hlen] at hs; exact absurd hs (by simp)
 rw [if_pos hlen] at hs
 obtain rfl := Option.some.inj hs
 obtain ⟨A1, c1, rfl, hle, hl1⟩ := gp_row hl
 obtain ⟨A, c, rfl⟩ := Kd.S_slice hst.row
 have ST := ak_ hst
 have RL := ak_ hl
 have FR := ak_ (GpFr.below (g := g) (v := .slice A acc.length c) (Below.refl W.heap.size W))
 have HLEN := ak_ hlen
 clear hs hst hl hl1 hle hlen
 have hy5 := (blk_cell ST.out.out 0)
 have hf5 := (blk_frozen ST.out.out 0)
 simp at hy5
 go_enter Try.func90, Try.ntmps90
 go_wp2_with (first | ((with_reducible refine gate_builtin (b := .append) (xs := #[.tmp 3, .tmp 5]) rfl ?_); at_builtin; refine Kd.S_append (Kd.slice 3 (Kd.int .i64)) (w0 := w0) w0.heap.size rfl (.tmp 3) (.tmp 5) 57 22 (.slice none 0 0) 24 rfl Try.underlying57 info22 rfl (by decide) (by omega) (.slice A acc.length c) acc l [.slice A1 l.length c1] (fun _ => True) (fun k_ => some k_ = (Value.slice A1 l.length c1).ownBlock) rfl rfl ?aP ?aK (fun _ _ => trivial) ?aO ?aB ?aS ?aL ?_; (case aP => exact ⟨_, rfl, Kd.R_tight rfl (Kd.pR RL.out)⟩); (case aK => (intro k_ hk_; exact ⟨trivial, (RL.out.1 k_ hk_.symm).2⟩)); (case aO => exact Kd.S_mono (Kd.pS ST.out.row) (fun k_ hk_ => ⟨trivial, hk_⟩)); (case aB => exact (ST.out.up be_).bel); (case aS => exact bz_ (ST.out.up be_).bel); (case aL => have := HLEN.out; omega); intro v9 w9 ho hb hg hat; obtain ⟨Ao, co, rfl⟩ := Kd.S_slice ho; have HO := ak_ ho; have HB9 := ak_ hb; have HG := ak_ hg; have HAT := ak_ hat; have n0_ := ak_ (blk_grown (pk ST.out.out) hg (Kd.S_ne ST.out.row ST.out.out (by decide))); have hf9 := (blk_frozen n0_.out 0); have hy9 := (blk_cell n0_.out 0); simp at hy9; clear ho hb hg hat))
 go_end0
 refine ⟨rfl, .slice Ao (acc.length + 1) co, ⟨?_, ?_, ?_, ST.out.ge⟩, ?_⟩
 rotate_left
 ·exact (by (with_reducible repeat (first | apply Kd.S_alloc | apply Kd.S_drewN | apply Kd.S_drew)); have h_ := Kd.S_set HO.out n0_.out (by decide) 0 (.slice Ao (acc.length + 1) co); rw [List.length_append, List.length_singleton] at h_; exact h_)
 ·exact (by repeat (first | (with_reducible first | exact HB9.out | apply ba_ | apply bN_ | apply b1_ | refine below_set ?_ ST.out.ge) | exact HB9.out))
 ·refine FR.out.trans ⟨?_, fun k_ hk_ hg_ ht_ => ?_, ?_⟩
  ·have h2_ := HG.out.size
   first | (simp; omega) | (simp at h2_ ⊢; omega)
  ·have e2_ : w9.heap[k_]? = W.heap[k_]? := HG.out.block k_ hk_ ht_
   exact (Below.heap_setCell w9 ⟨g, 0, none⟩ _ k_ hg_).trans e2_
  ·rcases HAT.out with e_ | ⟨b_, e_, h_⟩
   ·left
    rw [List.length_append, List.length_singleton] at e_
    exact e_
   ·right
    intro b2_ h2_
    rw [List.length_append, List.length_singleton] at e_
    rw [e_] at h2_
    injection h2_ with h2_
    omega
 ·exact (by (with_reducible repeat (first | refine kN_ ?_ _ | refine k1_ ?_ | refine ka_ ?_ _)); exact blk_put n0_.out 0 _ rfl)
def impl_Night_groups.T6 : Bool × List (List Nat × List Nat) := (true, [([], []), ([0], [0]), ([], []), ([1, 2], [1, 2]), ([], []), ([3, 4], [3, 4]), ([], []), ([6], [6]), ([], []), ([5, 7, 8, 5], [5, 7, 8])])
def impl_Night_groups.B6 : List Nat := [0, 1, 0, 7, 0, 31, 0, 64, 0, 511]
theorem impl_Night_groups.T6_ : rtab .any (opsOf Try.f69 6) = impl_Night_groups.T6 := by kernel_rfl
theorem impl_Night_groups.B6_ : waitsOk impl_Night_groups.T6.2 impl_Night_groups.B6 = true := by kernel_rfl
def grPart (k : Nat) (ts : List Int) (se tq : Int) (ov : List Bool) (t : Int) (over : Bool) (acc : List (List Int)) : Option (List (List Int)) :=
 (impl_Night_torches.f ts se tq ov t over).bind fun m => if m > 0 then (impl_State_side.f k ov over over).bind fun P => if P.length ≤ 100 then gOn grSt se P [] acc else none else some acc
def rsW {n : Nat} [Inhabited (Fin n)] (val : Fin n → Value) (w : World) (g m : Nat) (dk : Array (Fin n)) (os : Array Obj) : World := Go.Sort.grow (Go.Sort.putRow val (Go.Sort.ahead w m) g 0 dk) os
theorem rsW_heap {n : Nat} [Inhabited (Fin n)] (val : Fin n → Value) (w : World) (g m : Nat) (dk : Array (Fin n)) (os : Array Obj) (k : Nat) (hk : k ≠ g) (hl : k < w.heap.size) : (rsW val w g m dk os).heap[k]? = w.heap[k]? := by
 have hs : (Go.Sort.putRow val (Go.Sort.ahead w m) g 0 dk).heap.size = w.heap.size := by simp [Go.Sort.putRow, Go.Sort.mapBlock, Go.Sort.ahead]
 unfold rsW Go.Sort.grow
 show ((Go.Sort.putRow val (Go.Sort.ahead w m) g 0 dk).heap ++ os)[k]? = _
 rw [Array.getElem?_append_left (by omega)]
 simp [Go.Sort.putRow, Go.Sort.mapBlock, Go.Sort.ahead, Array.getElem?_modify, show g ≠ k by omega]
theorem S_rows {α : Type} (d : Kd α) (hd : d.sz = 1) {e : Nat} {w : World} {base g cap : Nat} {ok : Nat → Prop} {xs : List α} (h : Kd.S d e w base ok (.slice (some ⟨g, 0, none⟩) xs.length cap) xs) (hn : 0 < xs.length) [Inhabited (Fin xs.length)] :
  ∃ val : Fin xs.length → Value, (∀ i, (val i).oneCell' = true) ∧ Go.Sort.Holds val w g 0 (List.finRange xs.length).toArray ∧ base ≤ g ∧ g < w.heap.size ∧
   ∀ (m : Nat) (os : Array Obj) (dk : Array (Fin xs.length)), dk.size = xs.length →
    (∀ i : Fin xs.length, d.K (rsW val w g m dk os) xs[i] [val i]) ∧ (dk.toList.Nodup → Kd.S d e (rsW val w g m dk os) base ok (.slice (some ⟨g, 0, none⟩) xs.length cap) (dk.toList.map fun i => xs[i])) := by
 obtain ⟨f, h0, inner, ho, hr⟩ := h
 have hsz : (Kd.tag f d).sz = 1 := hd
 rw [List.length_zipIdx, hsz] at ho
 have hlen : inner.length = xs.length := by
  have := hr.1
  rw [List.length_zipIdx, hsz] at this
  omega
 obtain ⟨val, hval⟩ : ∃ val : Fin xs.length → Value, val = fun i => inner[i.1]'(by rw [hlen]; exact i.2) := ⟨_, rfl⟩
 have hM : ∀ i : Fin xs.length, d.M w base (fun k => (ok k ∧ some k ≠ (Value.slice (some ⟨g, 0, none⟩) xs.length cap).ownBlock) ∧ f k = i.1) xs[i] [val i] := by
  intro i
  have h1 := hr.2 i.1 (xs[i], i.1) (Kd.zip_at (by simp))
  rw [hsz, Nat.mul_one] at h1
  have e1 : (inner.drop i.1).take 1 = [val i] := by
   rw [hval, List.drop_eq_getElem_cons (by rw [hlen]; exact i.2)]
   rfl
  rw [e1] at h1
  exact h1
 have hz : (List.finRange xs.length).map val = inner := by
  apply List.ext_getElem
  ·simp [hlen]
  ·intro j h1 h2
   simp [hval]
 have ho' : w.ownsRow base e 1 (.slice (some ⟨g, 0, none⟩) xs.length cap) xs.length ((List.finRange xs.length).map val) := by rw [hz]; exact ho
 obtain ⟨g', cap', e1, hb, hg, hc, -, -, hH⟩ := Lib.holds_of_ownsRow ho' (by simp)
 injection e1 with e1 _ _
 injection e1 with e1
 injection e1 with e1
 subst e1
 refine ⟨val, fun i => d.K_one (d.K_of_M (hM i)) _ (by simp), hH, hb, hg, fun m os dk hdk => ?_⟩
 have hM' : ∀ i : Fin xs.length, d.M (rsW val w g m dk os) base (fun k => (ok k ∧ some k ≠ (Value.slice (some ⟨g, 0, none⟩) xs.length cap).ownBlock) ∧ f k = i.1) xs[i] [val i] := fun i =>
  Kd.M_step (hM i) fun k hk hlt => rsW_heap val w g m dk os k (fun e => hk.1.2 (by rw [e]; rfl)) hlt
 refine ⟨fun i => d.K_of_M (hM' i), fun hnd => ?_⟩
 have hown : (rsW val w g m dk os).ownsRow base e 1 (.slice (some ⟨g, 0, none⟩) xs.length cap) xs.length (dk.toList.map val) := by
  have h1 := Lib.ownsRow_putRow (q := m) (k := xs.length) (ys := dk.toList) ho' (by simpa using hdk) (Nat.le_refl _)
  rw [List.take_of_length_le (by simp [hdk])] at h1
  have h2 := Lib.ownsRow_grow h1 0 os
  exact h2
 obtain ⟨f', hf'⟩ := Kd.reps_tag (d := d) (w := rsW val w g m dk os) (base := base) (ok := fun k => ok k ∧ some k ≠ (Value.slice (some ⟨g, 0, none⟩) xs.length cap).ownBlock) (xs := dk.toList.map fun i => xs[i]) (inner := dk.toList.map val)
  (fun j k => (ok k ∧ some k ≠ (Value.slice (some ⟨g, 0, none⟩) xs.length cap).ownBlock) ∧ ∃ i : Fin xs.length, dk.toList[j]? = some i ∧ f k = i.1)
  (fun i j k hi hj => by
   obtain ⟨-, a, ha, ea⟩ := hi
   obtain ⟨-, b, hb, eb⟩ := hj
   have hab : a = b := Fin.ext (by omega)
   subst hab
   obtain ⟨h1, h2⟩ := List.getElem?_eq_some_iff.1 ha
   obtain ⟨h3, h4⟩ := List.getElem?_eq_some_iff.1 hb
   rcases Nat.lt_trichotomy i j with q | q | q
   ·exact absurd (h2.trans h4.symm) (List.pairwise_iff_getElem.1 hnd i j h1 h3 q)
   ·exact q
   ·exact absurd (h4.trans h2.symm) (List.pairwise_iff_getElem.1 hnd j i h3 h1 q))
  (fun j k hk => hk.1) (by rw [List.length_map, List.length_map, hd, Nat.mul_one]) (fun j x hj => by
   obtain ⟨i, hi, rfl⟩ := Option.map_eq_some_iff.1 (by rw [← List.getElem?_map]; exact hj)
   obtain ⟨h1, h2⟩ := List.getElem?_eq_some_iff.1 hi
   have e2 : ((dk.toList.map val).drop (j * d.sz)).take d.sz = [val i] := by
    rw [hd, Nat.mul_one, List.drop_eq_getElem_cons (by simpa using h1), List.getElem_map, h2]
    rfl
   rw [e2]
   exact d.M_mono (fun k hk => ⟨hk.1, i, hi, hk.2⟩) (hM' i))
 refine ⟨f', h0, dk.toList.map val, ?_, hf'⟩
 rw [List.length_zipIdx, List.length_map]
 show (rsW val w g m dk os).ownsRow base e d.sz _ dk.toList.length _
 rw [hd, show dk.toList.length = xs.length by simpa using hdk]
 exact hown
def cmpL : List Int → List Int → Int
 | [], [] => 0
 | [], _ :: _ => -1
 | _ :: _, [] => 1
 | a :: s, b :: t => if a < b then -1 else if b < a then 1 else cmpL s t
theorem cmpL_flip : ∀ a b, cmpL b a = - cmpL a b
 | [], [] => rfl
 | [], _ :: _ => rfl
 | _ :: _, [] => rfl
 | a :: s, b :: t => by
  have ih := cmpL_flip s t
  simp only [cmpL]
  by_cases h1 : a < b
  ·rw [if_neg (by omega), if_pos h1, if_pos h1]; rfl
  ·by_cases h2 : b < a
   ·rw [if_pos h2, if_neg h1, if_pos h2]
   ·rw [if_neg h2, if_neg h1, if_neg h1, if_neg h2, ih]
theorem cmpL_zero : ∀ a b, cmpL a b = 0 → a = b
 | [], [], _ => rfl
 | [], _ :: _, h => by simp [cmpL] at h
 | _ :: _, [], h => by simp [cmpL] at h
 | a :: s, b :: t, h => by
  simp only [cmpL] at h
  by_cases h1 : a < b
  ·rw [if_pos h1] at h; omega
  ·rw [if_neg h1] at h
   by_cases h2 : b < a
   ·rw [if_pos h2] at h; omega
   ·rw [if_neg h2] at h
    rw [cmpL_zero s t h, show a = b by omega]
theorem cmpL_refl (a : List Int) : cmpL a a = 0 := by
 have := cmpL_flip a a
 omega
theorem cmpL_trans : ∀ a b c, cmpL a b ≤ 0 → cmpL b c ≤ 0 → cmpL a c ≤ 0
 | [], _, [], _, _ => by simp [cmpL]
 | [], _, _ :: _, _, _ => by simp [cmpL]
 | _ :: _, [], _, h, _ => by simp [cmpL] at h
 | _ :: _, _ :: _, [], _, h => by simp [cmpL] at h
 | a :: s, b :: t, c :: u, h, k => by
  have ih := cmpL_trans s t u
  simp only [cmpL] at h k ⊢
  by_cases h1 : a < b
  ·by_cases k1 : b < c
   ·rw [if_pos (by omega)]; omega
   ·rw [if_neg k1] at k
    by_cases k2 : c < b
    ·rw [if_pos k2] at k; omega
    ·rw [if_pos (by omega)]; omega
  ·rw [if_neg h1] at h
   by_cases h2 : b < a
   ·rw [if_pos h2] at h; omega
   ·rw [if_neg h2] at h
    by_cases k1 : b < c
    ·rw [if_pos (by omega)]; omega
    ·rw [if_neg k1] at k
     by_cases k2 : c < b
     ·rw [if_pos k2] at k; omega
     ·rw [if_neg k2] at k
      rw [if_neg (by omega), if_neg (by omega)]
      exact ih h k
theorem compare_l0 {a b : List Int} (ha : a.length ≤ 1000000) (hb : b.length ≤ 1000000) : ∀ (d k i : Nat), i + d = a.length → i ≤ b.length → d < k → slices_Compare_int_int.l0 k a b a (a.length : Int) (i : Int) = some (cmpL (a.drop i) (b.drop i)) := by
 intro d
 induction d with
 | zero =>
  intro k i hi hib hk
  obtain ⟨k, rfl⟩ : ∃ m, k = m + 1 := ⟨k - 1, by omega⟩
  rw [slices_Compare_int_int.l0.eq_2, if_neg (by omega), List.drop_of_length_le (by omega : a.length ≤ i)]
  by_cases h : a.length < b.length
  ·rw [if_pos (by omega), List.drop_eq_getElem_cons (by omega : i < b.length)]
   rfl
  ·rw [if_neg (by omega), List.drop_of_length_le (by omega : b.length ≤ i)]
   rfl
 | succ d ih =>
  intro k i hi hib hk
  obtain ⟨k, rfl⟩ : ∃ m, k = m + 1 := ⟨k - 1, by omega⟩
  have hlt : i < a.length := by omega
  rw [slices_Compare_int_int.l0.eq_2, if_pos (by omega), if_pos (by omega), if_pos (by omega), List.drop_eq_getElem_cons hlt]
  by_cases h : i < b.length
  ·have ea : rd a (i : Int) = a[i] := by unfold rd; rw [Int.toNat_natCast, List.getD_eq_getElem?_getD, List.getElem?_eq_getElem hlt]; rfl
   have eb : rd b (i : Int) = b[i] := by unfold rd; rw [Int.toNat_natCast, List.getD_eq_getElem?_getD, List.getElem?_eq_getElem h]; rfl
   have ew : wrap64 ((i : Int) + 1) = ((i + 1 : Nat) : Int) := by unfold wrap64; omega
   rw [if_neg (by omega), if_pos (by omega), ea, eb, ew, ih k (i + 1) (by omega) (by omega) (by omega), List.drop_eq_getElem_cons h]
   generalize a[i] = x
   generalize b[i] = y
   unfold cmp_Compare_int.f cmp_isNaN_int.f
   simp only [bne_self_eq_false, Option.bind_some, Bool.false_eq_true, if_false, cmpL]
   by_cases c1 : x < y
   ·rw [if_pos c1, if_pos c1, Option.bind_some, if_neg (by decide)]
   ·rw [if_neg c1, if_neg c1]
    by_cases c2 : x > y
    ·rw [if_pos c2, if_pos c2, Option.bind_some, if_neg (by decide)]
    ·rw [if_neg c2, if_neg c2, Option.bind_some, if_pos rfl]
  ·rw [if_pos (by omega), List.drop_of_length_le (by omega : b.length ≤ i)]
   rfl
theorem compare_eq {a b : List Int} (ha : a.length ≤ 1000000) (hb : b.length ≤ 1000000) {k : Nat} (hk : a.length < k) : slices_Compare_int_int.f k a b = some (cmpL a b) := compare_l0 ha hb a.length k 0 (by omega) (by omega) hk
def leL (a b : List Int) : Bool := decide (cmpL a b ≤ 0)
theorem cmpL_swo {n : Nat} (xs : Fin n → List Int) : Go.Sort.SWO (fun x y => decide (cmpL (xs x) (xs y) < 0)) where
 irrefl := fun x => by
  have := cmpL_refl (xs x)
  exact decide_eq_false (by omega)
 trans := fun x y z h k => by
  have h := odt_ h
  have k := odt_ k
  have h1 := cmpL_trans _ _ _ (Int.le_of_lt h) (Int.le_of_lt k)
  refine decide_eq_true ?_
  apply Classical.byContradiction
  intro hn
  have h2 := cmpL_zero (xs x) (xs z) (by omega)
  rw [← h2, cmpL_flip (xs x)] at k
  omega
 ntrans := fun x y z h k => by
  have h := of_decide_eq_false h
  have k := of_decide_eq_false k
  have e1 := cmpL_flip (xs x) (xs y)
  have e2 := cmpL_flip (xs y) (xs z)
  have e3 := cmpL_flip (xs x) (xs z)
  have := cmpL_trans (xs z) (xs y) (xs x) (by omega) (by omega)
  exact decide_eq_false (by omega)
theorem sorted_rows {xs : List (List Int)} [Inhabited (Fin xs.length)] {dk : Array (Fin xs.length)} (hp : Go.Sort.PermIn 0 xs.length (List.finRange xs.length).toArray dk) (hs : Go.Sort.SortedIn (fun x y : Fin xs.length => decide (cmpL xs[x] xs[y] < 0)) 0 xs.length dk) :
  dk.size = xs.length ∧ dk.toList.Nodup ∧ (dk.toList.map fun i => xs[i]) = xs.mergeSort leL := by
 have hsz : dk.size = xs.length := by
  have := hp.1
  simpa using this
 have hperm : dk.toList.Perm (List.finRange xs.length) := by
  have := hp.2.2
  simp only [Array.toList_extract, List.extract, Nat.sub_zero, List.drop_zero] at this
  rwa [List.take_of_length_le (by simp [hsz]), List.take_of_length_le (by simp)] at this
 refine ⟨hsz, hperm.nodup_iff.2 (List.nodup_finRange _), ?_⟩
 have hmap : (List.finRange xs.length).map (fun i => xs[i]) = xs := by
  apply List.ext_getElem
  ·simp
  ·intro i h1 h2
   simp
 have hp2 : (dk.toList.map fun i => xs[i]).Perm (xs.mergeSort leL) := by
  have h1 := hperm.map (fun i : Fin xs.length => xs[i])
  rw [hmap] at h1
  exact h1.trans (List.mergeSort_perm _ _).symm
 have hpw : (xs.mergeSort leL).Pairwise (fun a b => cmpL a b ≤ 0) := (List.pairwise_mergeSort (le := leL) (fun a b c h1 h2 => decide_eq_true (cmpL_trans a b c (odt_ h1) (odt_ h2))) (fun a b => by
  have := cmpL_flip a b
  unfold leL
  simp only [Bool.or_eq_true, decide_eq_true_eq]
  omega) xs).imp fun h => odt_ h
 have hpw2 : (dk.toList.map fun i => xs[i]).Pairwise (fun a b => cmpL a b ≤ 0) := by
  rw [List.pairwise_iff_getElem]
  intro i j hi hj hij
  rw [List.length_map] at hi hj
  have h1 := of_decide_eq_false (hs i j (by omega) hij (by simpa [hsz] using hj))
  have ei : dk[i]! = dk[i]'(by simpa using hi) := getElem!_pos dk i _
  have ej : dk[j]! = dk[j]'(by simpa using hj) := getElem!_pos dk j _
  rw [ei, ej] at h1
  rw [List.getElem_map, List.getElem_map]
  have e := cmpL_flip xs[dk[j]'(by simpa using hj)] xs[dk[i]'(by simpa using hi)]
  have e2 : dk.toList[i]'(by simpa using hi) = dk[i]'(by simpa using hi) := by simp
  have e3 : dk.toList[j]'(by simpa using hj) = dk[j]'(by simpa using hj) := by simp
  rw [e2, e3]
  omega
 exact List.Perm.eq_of_pairwise (le := fun a b => cmpL a b ≤ 0) (fun a b _ _ h1 h2 => cmpL_zero a b (by have := cmpL_flip a b; omega)) hpw2 hpw hp2
def grSort (k : Nat) (l : List (List Int)) : Option (List (List Int)) := if l.length = 0 then some [] else if l.length ≤ 1000 ∧ (l.all fun x => decide (x.length ≤ 1000)) = true then some (l.mergeSort leL) else none
def impl_Night_groups.f (k : Nat) (ts : List Int) (se tq : Int) (ov : List Bool) (t : Int) : Option (List (List Int)) := (grPart k ts se tq ov t false []).bind fun a => (grPart k ts se tq ov t true a).bind fun b => grSort k b
def grRest (k : Nat) (ts : List Int) (se tq : Int) (ov : List Bool) (t : Int) : Nat → List (List Int) → Option (List (List Int))
 | 0, acc => (grPart k ts se tq ov t false acc).bind fun a => grPart k ts se tq ov t true a
 | 1, acc => grPart k ts se tq ov t true acc
 | _ + 2, acc => some acc
theorem rsW_below {n : Nat} [Inhabited (Fin n)] (val : Fin n → Value) {w0 w : World} {B g : Nat} (m : Nat) (dk : Array (Fin n)) (os : Array Obj) (h : Below B w0 w) (hg : B ≤ g) (hgw : g < w.heap.size) : Below B w0 (rsW val w g m dk os) := by
 have h1 : Below B w0 (Go.Sort.putRow val (Go.Sort.ahead w m) g 0 dk) := Lib.below_putRow h hg
 have hs : (Go.Sort.putRow val (Go.Sort.ahead w m) g 0 dk).heap.size = w.heap.size := by simp [Go.Sort.putRow, Go.Sort.mapBlock, Go.Sort.ahead]
 refine ⟨h1.os, h1.tape, h1.output, ?_, fun k hk => ?_⟩
 ·have h2 := h1.size
  show w0.heap.size ≤ ((Go.Sort.putRow val (Go.Sort.ahead w m) g 0 dk).heap ++ os).size
  rw [Array.size_append]
  omega
 ·rw [← h1.block k hk]
  show ((Go.Sort.putRow val (Go.Sort.ahead w m) g 0 dk).heap ++ os)[k]? = _
  rw [Array.getElem?_append_left (by omega)]
set_option maxHeartbeats 1000000 in
theorem rs_sort (b cap base : Nat) (ok : Nat → Prop) (xs : List (List Int)) (W : World) (HS : Kd.S (Kd.slice 3 (Kd.int .i64)) 22 W base ok (.slice (some ⟨b, 0, none⟩) xs.length cap) xs) (h0 : 0 < xs.length) (hn : xs.length ≤ 1000) (hl : ∀ x ∈ xs, x.length ≤ 1000) :
  Calls Try.prog 91 #[.slice (some ⟨b, 0, none⟩) xs.length cap, .func (.func 92) #[] #[]] W fun e w' => e = .returned (.tuple #[]) ∧ Kd.S (Kd.slice 3 (Kd.int .i64)) 22 w' base ok (.slice (some ⟨b, 0, none⟩) xs.length cap) (xs.mergeSort leL) ∧ (∀ k, k ≠ b → k < W.heap.size → w'.heap[k]? = W.heap[k]?) ∧ ∀ B w0, Below B w0 W → B ≤ b → Below B w0 w' := by
 haveI : Inhabited (Fin xs.length) := ⟨⟨0, h0⟩⟩
 obtain ⟨val, hone, hH, hbase, hlt, hall⟩ := S_rows (Kd.slice 3 (Kd.int .i64)) rfl HS h0
 have hsz : ((List.finRange xs.length).toArray).size = xs.length := by simp
 have hcmp : CmpReads Try.prog 92 #[] val (fun x y : Fin xs.length => cmpL xs[x] xs[y]) b 0 ((List.finRange xs.length).toArray).size W := by
  intro m os dk hdk x y
  obtain ⟨A1, c1, ex, lx, cx⟩ := (hall m os dk (by omega)).1 x
  obtain ⟨A2, c2, ey, ly, cy⟩ := (hall m os dk (by omega)).1 y
  have ex' : val x = .slice A1 xs[x].length c1 := by injection ex
  have ey' : val y = .slice A2 xs[y].length c2 := by injection ey
  have h := slices_Compare_int_int.calls 1001 A1 c1 xs[x] A2 c2 xs[y] (cmpL xs[x] xs[y]) (rsW val W b m dk os) cx lx cy ly (compare_eq (by have := hl xs[x] (List.getElem_mem _); omega) (by have := hl xs[y] (List.getElem_mem _); omega) (by have := hl xs[x] (List.getElem_mem _); omega))
  rw [← ex', ← ey'] at h
  exact h.mono fun e w' hh => ⟨hh.1, by obtain ⟨nd, e_⟩ := hh.2; exact ⟨nd, e_⟩⟩
 have h := Try.slices_SortFunc val hone (fun x y : Fin xs.length => cmpL xs[x] xs[y]) (cmpL_swo (fun i => xs[i])) 92 #[] b 0 cap (List.finRange xs.length).toArray W (enters_of Try.func92 (by kernel_rfl) rfl) hcmp.lays hH hlt (by omega)
 rw [hsz] at h
 refine h.mono ?_
 rintro e w' ⟨rfl, dk, m, os, hp, hs, rfl⟩
 obtain ⟨h1, h2, h3⟩ := sorted_rows hp hs
 have h4 := (hall m os dk h1).2 h2
 rw [h3] at h4
 exact ⟨rfl, h4, fun k hk hlk => rsW_heap val W b m dk os k hk hlk, fun B w0 hB hb => rsW_below val m dk os hB hb hlt⟩
theorem ty_ne {W : World} {a b t u : Nat} {cs ds : Array Value} (h : W.heap[a]? = some (.cells cs t (0, 0))) (h2 : W.heap[b]? = some (.cells ds u (0, 0))) (ht : t ≠ u) : a ≠ b := by
 rintro rfl
 rw [h] at h2
 injection h2 with h2
 injection h2 with _ h2
 exact ht h2
theorem impl_Night_groups.calls (k : Nat) (At : Option Addr) (ct : Nat) (ts : List Int) (se tq : Int) (Ao : Option Addr) (co : Nat) (ov : List Bool) (t : Int) (r : List (List Int)) (w : World)
  (ht : Kd.C (Kd.int .i64) w At ts.length ts) (hct : ts.length ≤ ct) (ho : Kd.C Kd.bool w Ao ov.length ov) (hco : ov.length ≤ co) (h : impl_Night_groups.f k ts se tq ov t = some r) :
  Calls Try.prog 69 #[.agg #[.slice At ts.length ct, .int .i64 se, .int .i64 tq], .agg #[.slice Ao ov.length co, .int .i64 t]] w fun e w' => ∃ v0_ : Value, e = .returned v0_ ∧ Kd.N (Kd.slice 3 (Kd.int .i64)) 22 w' w.heap.size (fun k_ => (w.heap.size ≤ k_)) v0_ r ∧ Below w.heap.size w w' := by
 have hu := Try.underlying33
 have hu2 := Try.underlying35
 have hu3 := Try.underlying94
 unfold impl_Night_groups.f at h
 obtain ⟨a0, h1, h⟩ := Option.bind_eq_some_iff.mp h
 obtain ⟨b, h2, h3⟩ := Option.bind_eq_some_iff.mp h
 have h4 : grRest k ts se tq ov t 0 [] = some b := by
  show (grPart k ts se tq ov t false []).bind (fun a => grPart k ts se tq ov t true a) = some b
  rw [h1, Option.bind_some, h2]
 have AT := ak_ fun (over : Bool) (m : Int) (hm : impl_Night_torches.f ts se tq ov t over = some m) (W : World) (hb : Below w.heap.size w W) => impl_Night_torches.calls At ct ts se tq Ao co ov t over m W (Kd.C_below ht hb) hct (Kd.C_below ho hb) hco hm
 have A1 := ak_ fun (over : Bool) (P : List Int) (hp : impl_State_side.f k ov over over = some P) (W : World) (hb : Below w.heap.size w W) => impl_State_side.calls k Ao co ov over over P W (Kd.C_below ho hb) hco hp
 have A2 := ak_ fun (P : List Int) (acc a1 : List (List Int)) (hP : P.length ≤ 100) (hg : gOn grSt se P [] acc = some a1) (g : Nat) (w0 W : World) (Ap : Option Addr) (cp : Nat) (v : Value) (hst : GpSt (Kd.slice 3 (Kd.int .i64)) 22 57 g w0 W v (fun _ => True) acc) (hp : (Kd.int .i64).R 3 W w0.heap.size (fun k => k ≠ g ∧ some k ≠ v.ownBlock) (.slice Ap P.length cp) P) =>
  groups_calls (Kd.slice 3 (Kd.int .i64)) 22 57 grSt g 90 #[.pointer (some ⟨g, 0, none⟩)] w0 Ap cp P se (enters_of Try.func90 (by kernel_rfl) rfl) (gr_each g w0) hP v a1 W hst hp hg
 have H := ak_ h4
 have H3 := ak_ h3
 have HB := ak_ (Below.refl w.heap.size w)
 clear h h1 h2 h3 h4 ht hct ho hco
 go_enter Try.func69, Try.ntmps69
 go_upto_region 2 with (first | ((with_reducible refine gate_dst (N := 2) rfl ?_); refine bx_ 2 #[.slice At ts.length ct, .int .i64 se, .int .i64 tq] 33 ?_; intro gb2 hg w2 hbox hb; have nb_ := ak_ (bs_ (bb_ HB.out) hb); have nc_ := ak_ hbox; have nd_ := ak_ ((by rw [hg]; exact (bz_ (bb_ HB.out)) : w.heap.size ≤ gb2)); clear HB hb hbox hg; have HB := nb_; have BK2 := nc_; have GE2 := nd_; clear nb_ nc_ nd_; have hz2_0 := (blk_cell BK2.out 0); have hf2_0 := (blk_frozen BK2.out 0); simp at hz2_0; have hz2_1 := (blk_cell BK2.out 1); have hf2_1 := (blk_frozen BK2.out 1); simp at hz2_1; have hz2_2 := (blk_cell BK2.out 2); have hf2_2 := (blk_frozen BK2.out 2); simp at hz2_2; skip) | ((with_reducible refine gate_dst (N := 3) rfl ?_); refine bx_ 3 #[.slice Ao ov.length co, .int .i64 t] 35 ?_; intro gb3 hg w3 hbox hb; have n0_ := ak_ (blk_below (pk BK2.out) hb); have m0_ := ak_ ((by rw [hg]; exact Nat.ne_of_lt (blk_lt (pk BK2.out)) : gb2 ≠ gb3)); have nb_ := ak_ (bs_ (bb_ HB.out) hb); have nc_ := ak_ hbox; have nd_ := ak_ ((by rw [hg]; exact (bz_ (bb_ HB.out)) : w.heap.size ≤ gb3)); clear HB hb hbox hg; clear BK2; have BK2 := n0_; have NE2_3 := m0_; have HB := nb_; have BK3 := nc_; have GE3 := nd_; clear nb_ nc_ nd_ n0_ m0_; have hz3_0 := (blk_cell BK3.out 0); have hf3_0 := (blk_frozen BK3.out 0); simp at hz3_0; have hz3_1 := (blk_cell BK3.out 1); have hf3_1 := (blk_frozen BK3.out 1); simp at hz3_1; skip))
 have HB3 := ak_ HB.out
 have hst := (show GpSt (Kd.slice 3 (Kd.int .i64)) 22 57 (w3.heap.size + 1) w3 ((w3.alloc (.cells #[] 22)).alloc (.cells #[.slice (some ⟨w3.heap.size, 0, none⟩) 0 0] 57)) (.slice (some ⟨w3.heap.size, 0, none⟩) 0 0) (fun _ => True) [] from ⟨gp_new2 w3 _ _, Kd.S_alloc (gp_lit0 _ _ w3 (Nat.le_refl _)) _, ba_ (ba_ (Below.refl _ _) _) _, Nat.le_succ _⟩)
 have n0_ := ak_ (ka_ (ka_ BK2.out (.cells #[] 22)) (.cells #[.slice (some ⟨w3.heap.size, 0, none⟩) 0 0] 57))
 have n1_ := ak_ (ka_ (ka_ BK3.out (.cells #[] 22)) (.cells #[.slice (some ⟨w3.heap.size, 0, none⟩) 0 0] 57))
 have HL2 := ak_ (blk_lt BK2.out)
 have HL3 := ak_ (blk_lt BK3.out)
 have ST := ak_ hst
 clear BK2 BK3 HB hst hz2_0 hz2_1 hz2_2 hf2_0 hf2_1 hf2_2 hz3_0 hz3_1 hf3_0 hf3_1
 have BK2 := n0_; have BK3 := n1_; clear n0_ n1_
 generalize (w3.alloc (.cells #[] 22)).alloc (.cells #[.slice (some ⟨w3.heap.size, 0, none⟩) 0 0] 57) = w5 at BK2 BK3 ST ⊢
 generalize Value.slice (some ⟨w3.heap.size, 0, none⟩) 0 0 = v5 at ST ⊢
 generalize w3.heap.size + 1 = gb5 at ST ⊢
 go_wp2
 obtain ⟨w6, hw6⟩ : ∃ W, W = w5.alloc (.cells #[.bool false, .bool true] 4) := ⟨_, rfl⟩
 have hb6 : Below w5.heap.size w5 w6 := by rw [hw6]; exact ba_ (Below.refl _ _) _
 have hbk : w6.heap[w5.heap.size]? = some (.cells #[.bool false, .bool true] 4 (0, 0)) := by rw [hw6]; exact blk_new w5 _
 rw [← hw6]
 clear hw6
 replace BK2 := ak_ (blk_below BK2.out hb6); replace BK3 := ak_ (blk_below BK3.out hb6); replace ST := ak_ (ST.out.up hb6); clear hb6
 obtain ⟨gbL, hgL⟩ : ∃ g, g = w5.heap.size := ⟨_, rfl⟩
 rw [← hgL] at hbk ⊢
 have BKL := ak_ hbk
 clear hbk hgL
 go_loopg [11] 3 (fun gg v11 wr => ∃ (i : Nat) (acc : List (List Int)) (v : Value), v11 = .int .i64 (i : Int) ∧ i ≤ 2 ∧ 3 - i ≤ gg ∧ Aside0 (grRest k ts se tq ov t i acc = some b) ∧ Aside0 (GpSt (Kd.slice 3 (Kd.int .i64)) 22 57 gb5 w3 wr v (fun _ => True) acc) ∧ Aside0 (wr.heap[gb2]? = some (.cells #[.slice At ts.length ct, .int .i64 se, .int .i64 tq] 33 (0, 0))) ∧ Aside0 (wr.heap[gb3]? = some (.cells #[.slice Ao ov.length co, .int .i64 t] 35 (0, 0))) ∧ Aside0 (wr.heap[gbL]? = some (.cells #[.bool false, .bool true] 4 (0, 0))))
 case atStart => exact ⟨0, [], v5, rfl, by omega, by omega, H, ⟨ST.out.up be_⟩, ⟨pk BK2.out⟩, ⟨pk BK3.out⟩, ⟨pk BKL.out⟩⟩
 case round =>
  clear H BK2 BK3 BKL ST
  obtain ⟨i, acc, v, rfl, hi2, hgg, H, ST, BK2, BK3, BKL⟩ := hrel
  cases gk with
  | zero => exact absurd hgg (by omega)
  | succ m =>
   have h := H.out
   have hl0 := blk_cell BKL.out 0
   have hl1 := blk_cell BKL.out 1
   have hq2_0 := blk_cell BK2.out 0
   simp at hq2_0
   have hq2_1 := blk_cell BK2.out 1
   simp at hq2_1
   have hq2_2 := blk_cell BK2.out 2
   simp at hq2_2
   have hq3_0 := blk_cell BK3.out 0
   simp at hq3_0
   have hq3_1 := blk_cell BK3.out 1
   simp at hq3_1
   simp at hl0
   simp at hl1
   rcases i with _ | _ | i
   ·obtain ⟨a, hp, hr⟩ : ∃ a, grPart k ts se tq ov t false acc = some a ∧ grRest k ts se tq ov t 1 a = some b := by
      obtain ⟨a, h1, h2⟩ := Option.bind_eq_some_iff.mp (show (grPart k ts se tq ov t false acc).bind (fun a => grPart k ts se tq ov t true a) = some b from h)
      exact ⟨a, h1, h2⟩
    unfold grPart at hp
    obtain ⟨mm, hm, hp⟩ := Option.bind_eq_some_iff.mp hp
    have AT2 := ak_ (AT.out false mm hm)
    by_cases hm0 : mm > 0
    ·rw [if_pos hm0] at hp
     obtain ⟨P, hP, hp⟩ := Option.bind_eq_some_iff.mp hp
     by_cases hPl : P.length ≤ 100
     rotate_left
     ·rw [if_neg hPl] at hp; exact absurd hp (by simp)
     rw [if_pos hPl] at hp
     have A12 := ak_ (A1.out false P hP)
     have A22 := ak_ (A2.out P acc a hPl hp)
     have v3 : decide (mm > 0) = true := decide_eq_true hm0
     have v4 : decide (0 < mm) = true := decide_eq_true hm0
     have HR := ak_ hr
     clear h H AT A1 A2 hm hp hP hPl hm0 hr H3
     go_upto_region 6 with (go_at_call 87; refine (AT2.out _ (below_then HB3.out HB3.out.size (ST.out.up be_).bel)).mono ?_; rintro e w7 ⟨rfl, hb⟩; clear hq2_0 hq2_1 hq2_2 hq3_0 hq3_1 hl0 hl1 AT2; replace BK2 := ak_ (blk_below (pk BK2.out) hb); replace BK3 := ak_ (blk_below (pk BK3.out) hb); replace BKL := ak_ (blk_below (pk BKL.out) hb); replace ST := ak_ ((ST.out.up be_).up hb); clear hb)
     try go_wp2
     replace BK2 := ak_ (k1_ BK2.out); replace BK3 := ak_ (k1_ BK3.out); replace BKL := ak_ (k1_ BKL.out); replace ST := ak_ (ST.out.up (below_drew (Below.refl _ _)))
     refine start_ (n := 10) (S := fun w' => w'.cell? ⟨gb3, 0, none⟩ = some (.slice Ao ov.length co) ∧ w'.cell? ⟨gb2, 1, none⟩ = some (.int .i64 se)) (ds := []) (mb_ 10 0) (by kernel_rfl) rfl rfl ⟨(blk_cell BK3.out 0).trans rfl, (blk_cell BK2.out 1).trans rfl⟩ (fun hHeld => ?_); refine with_tabW impl_Night_groups.T6_ impl_Night_groups.B6_ (fun HT_ HW_ => ?_)
     generalize w7.drew = w9 at BK2 BK3 BKL ST hHeld ⊢
     refine pu_ 0 20 10 1 ?_
     refine tk_ 1 21 10 3 ?_ (hy := by rintro w' ⟨s0, s1⟩; go_simp; with_reducible rfl)
     refine pu_ 2 22 10 7 ?_
     refine pu_ 3 23 10 15 ?_
     refine pu_ 4 24 10 31 ?_
     refine pu_ 6 26 10 95 ?_
     refine tk_ 7 27 10 223 ?_ (hy := by rintro w' ⟨s0, s1⟩; go_simp; with_reducible rfl)
     refine pu_ 8 28 10 479 ?_
     refine on_ 5 25 10 511 (fun K hK => ?_)
     refine goes_ Try.func89 (by kernel_rfl) rfl #[.agg #[.slice Ao ov.length co, .bool false], .bool false] (by rfl) rfl rfl rs_ ?_
     refine (A12.out _ (below_then HB3.out HB3.out.size ST.out.bel)).mono ?_
     rintro e_ w10 ⟨v12, rfl, hp, hb⟩
     obtain ⟨Ap, cp, rfl⟩ := Kd.R_slice hp
     refine ⟨_, rfl, ?_⟩
     have PL := ak_ (Kd.R_lower (ST.out.new (Nat.le_refl _) hp) (bz_ ST.out.bel))
     replace BK2 := ak_ (blk_below BK2.out hb); replace BK3 := ak_ (blk_below BK3.out hb); replace BKL := ak_ (blk_below BKL.out hb); replace ST := ak_ (ST.out.up hb); clear hb hp
     refine hK.out _ _ ⟨(blk_cell BK3.out 0).trans rfl, (blk_cell BK2.out 1).trans rfl⟩ (fun hHeld => ?_)
     clear hK K
     refine nm_ ?_
     refine on_ 9 29 10 1023 (fun K hK => ?_)
     refine goes_ Try.func88 (by kernel_rfl) rfl #[.slice Ap P.length cp, .int .i64 se, .func (.func 90) #[] #[.pointer (some ⟨gb5, 0, none⟩)]] (by rfl) rfl rfl rs_ ?_
     refine (A22.out gb5 w3 _ Ap cp v ST.out PL.out).mono ?_
     rintro e_ w11 ⟨rfl, v11, hst, hfr⟩
     refine ⟨_, rfl, ?_⟩
     replace BK2 := ak_ ((hfr.at_ (blk_lt BK2.out) (ty_ne BK2.out ST.out.out (by decide)) (Kd.S_ne ST.out.row BK2.out (by decide))).trans BK2.out); replace BK3 := ak_ ((hfr.at_ (blk_lt BK3.out) (ty_ne BK3.out ST.out.out (by decide)) (Kd.S_ne ST.out.row BK3.out (by decide))).trans BK3.out); replace BKL := ak_ ((hfr.at_ (blk_lt BKL.out) (ty_ne BKL.out ST.out.out (by decide)) (Kd.S_ne ST.out.row BKL.out (by decide))).trans BKL.out); replace ST := ak_ hst; clear hst hfr
     refine hK.out _ _ ⟨(blk_cell BK3.out 0).trans rfl, (blk_cell BK2.out 1).trans rfl⟩ (fun hHeld => ?_)
     clear hK K
     refine nm_ ?_
     refine done_ (done_of HT_.out (by kernel_rfl)) ?_
     try go_wp2
     go_roundg m
     case measure => omega
     case rel => exact ⟨1, a, v11, rfl, by omega, by omega, HR, ⟨ST.out.up be_⟩, ⟨pk BK2.out⟩, ⟨pk BK3.out⟩, ⟨pk BKL.out⟩⟩
    ·rw [if_neg hm0] at hp
     obtain rfl : acc = a := Option.some.inj hp
     have v3 : decide (mm > 0) = false := decide_eq_false hm0
     have v4 : decide (0 < mm) = false := decide_eq_false hm0
     have HR := ak_ hr
     clear h H AT A1 A2 hm hp hm0 hr H3
     go_wp2_with (go_at_call 87; refine (AT2.out _ (below_then HB3.out HB3.out.size (ST.out.up be_).bel)).mono ?_; rintro e w7 ⟨rfl, hb⟩; clear hq2_0 hq2_1 hq2_2 hq3_0 hq3_1 hl0 hl1 AT2; replace BK2 := ak_ (blk_below (pk BK2.out) hb); replace BK3 := ak_ (blk_below (pk BK3.out) hb); replace BKL := ak_ (blk_below (pk BKL.out) hb); replace ST := ak_ ((ST.out.up be_).up hb); clear hb)
     go_roundg m
     case measure => omega
     case rel => exact ⟨1, acc, v, rfl, by omega, by omega, HR, ⟨ST.out.up be_⟩, ⟨pk BK2.out⟩, ⟨pk BK3.out⟩, ⟨pk BKL.out⟩⟩
   ·obtain ⟨a, hp, hr⟩ : ∃ a, grPart k ts se tq ov t true acc = some a ∧ grRest k ts se tq ov t 2 a = some b := ⟨b, h, rfl⟩
    unfold grPart at hp
    obtain ⟨mm, hm, hp⟩ := Option.bind_eq_some_iff.mp hp
    have AT2 := ak_ (AT.out true mm hm)
    by_cases hm0 : mm > 0
    ·rw [if_pos hm0] at hp
     obtain ⟨P, hP, hp⟩ := Option.bind_eq_some_iff.mp hp
     by_cases hPl : P.length ≤ 100
     rotate_left
     ·rw [if_neg hPl] at hp; exact absurd hp (by simp)
     rw [if_pos hPl] at hp
     have A12 := ak_ (A1.out true P hP)
     have A22 := ak_ (A2.out P acc a hPl hp)
     have v3 : decide (mm > 0) = true := decide_eq_true hm0
     have v4 : decide (0 < mm) = true := decide_eq_true hm0
     have HR := ak_ hr
     clear h H AT A1 A2 hm hp hP hPl hm0 hr H3
     go_upto_region 6 with (go_at_call 87; refine (AT2.out _ (below_then HB3.out HB3.out.size (ST.out.up be_).bel)).mono ?_; rintro e w7 ⟨rfl, hb⟩; clear hq2_0 hq2_1 hq2_2 hq3_0 hq3_1 hl0 hl1 AT2; replace BK2 := ak_ (blk_below (pk BK2.out) hb); replace BK3 := ak_ (blk_below (pk BK3.out) hb); replace BKL := ak_ (blk_below (pk BKL.out) hb); replace ST := ak_ ((ST.out.up be_).up hb); clear hb)
     try go_wp2
     replace BK2 := ak_ (k1_ BK2.out); replace BK3 := ak_ (k1_ BK3.out); replace BKL := ak_ (k1_ BKL.out); replace ST := ak_ (ST.out.up (below_drew (Below.refl _ _)))
     refine start_ (n := 10) (S := fun w' => w'.cell? ⟨gb3, 0, none⟩ = some (.slice Ao ov.length co) ∧ w'.cell? ⟨gb2, 1, none⟩ = some (.int .i64 se)) (ds := []) (mb_ 10 0) (by kernel_rfl) rfl rfl ⟨(blk_cell BK3.out 0).trans rfl, (blk_cell BK2.out 1).trans rfl⟩ (fun hHeld => ?_); refine with_tabW impl_Night_groups.T6_ impl_Night_groups.B6_ (fun HT_ HW_ => ?_)
     generalize w7.drew = w9 at BK2 BK3 BKL ST hHeld ⊢
     refine pu_ 0 20 10 1 ?_
     refine tk_ 1 21 10 3 ?_ (hy := by rintro w' ⟨s0, s1⟩; go_simp; with_reducible rfl)
     refine pu_ 2 22 10 7 ?_
     refine pu_ 3 23 10 15 ?_
     refine pu_ 4 24 10 31 ?_
     refine pu_ 6 26 10 95 ?_
     refine tk_ 7 27 10 223 ?_ (hy := by rintro w' ⟨s0, s1⟩; go_simp; with_reducible rfl)
     refine pu_ 8 28 10 479 ?_
     refine on_ 5 25 10 511 (fun K hK => ?_)
     refine goes_ Try.func89 (by kernel_rfl) rfl #[.agg #[.slice Ao ov.length co, .bool true], .bool true] (by rfl) rfl rfl rs_ ?_
     refine (A12.out _ (below_then HB3.out HB3.out.size ST.out.bel)).mono ?_
     rintro e_ w10 ⟨v12, rfl, hp, hb⟩
     obtain ⟨Ap, cp, rfl⟩ := Kd.R_slice hp
     refine ⟨_, rfl, ?_⟩
     have PL := ak_ (Kd.R_lower (ST.out.new (Nat.le_refl _) hp) (bz_ ST.out.bel))
     replace BK2 := ak_ (blk_below BK2.out hb); replace BK3 := ak_ (blk_below BK3.out hb); replace BKL := ak_ (blk_below BKL.out hb); replace ST := ak_ (ST.out.up hb); clear hb hp
     refine hK.out _ _ ⟨(blk_cell BK3.out 0).trans rfl, (blk_cell BK2.out 1).trans rfl⟩ (fun hHeld => ?_)
     clear hK K
     refine nm_ ?_
     refine on_ 9 29 10 1023 (fun K hK => ?_)
     refine goes_ Try.func88 (by kernel_rfl) rfl #[.slice Ap P.length cp, .int .i64 se, .func (.func 90) #[] #[.pointer (some ⟨gb5, 0, none⟩)]] (by rfl) rfl rfl rs_ ?_
     refine (A22.out gb5 w3 _ Ap cp v ST.out PL.out).mono ?_
     rintro e_ w11 ⟨rfl, v11, hst, hfr⟩
     refine ⟨_, rfl, ?_⟩
     replace BK2 := ak_ ((hfr.at_ (blk_lt BK2.out) (ty_ne BK2.out ST.out.out (by decide)) (Kd.S_ne ST.out.row BK2.out (by decide))).trans BK2.out); replace BK3 := ak_ ((hfr.at_ (blk_lt BK3.out) (ty_ne BK3.out ST.out.out (by decide)) (Kd.S_ne ST.out.row BK3.out (by decide))).trans BK3.out); replace BKL := ak_ ((hfr.at_ (blk_lt BKL.out) (ty_ne BKL.out ST.out.out (by decide)) (Kd.S_ne ST.out.row BKL.out (by decide))).trans BKL.out); replace ST := ak_ hst; clear hst hfr
     refine hK.out _ _ ⟨(blk_cell BK3.out 0).trans rfl, (blk_cell BK2.out 1).trans rfl⟩ (fun hHeld => ?_)
     clear hK K
     refine nm_ ?_
     refine done_ (done_of HT_.out (by kernel_rfl)) ?_
     try go_wp2
     go_roundg m
     case measure => omega
     case rel => exact ⟨2, a, v11, rfl, by omega, by omega, HR, ⟨ST.out.up be_⟩, ⟨pk BK2.out⟩, ⟨pk BK3.out⟩, ⟨pk BKL.out⟩⟩
    ·rw [if_neg hm0] at hp
     obtain rfl : acc = a := Option.some.inj hp
     have v3 : decide (mm > 0) = false := decide_eq_false hm0
     have v4 : decide (0 < mm) = false := decide_eq_false hm0
     have HR := ak_ hr
     clear h H AT A1 A2 hm hp hm0 hr H3
     go_wp2_with (go_at_call 87; refine (AT2.out _ (below_then HB3.out HB3.out.size (ST.out.up be_).bel)).mono ?_; rintro e w7 ⟨rfl, hb⟩; clear hq2_0 hq2_1 hq2_2 hq3_0 hq3_1 hl0 hl1 AT2; replace BK2 := ak_ (blk_below (pk BK2.out) hb); replace BK3 := ak_ (blk_below (pk BK3.out) hb); replace BKL := ak_ (blk_below (pk BKL.out) hb); replace ST := ak_ ((ST.out.up be_).up hb); clear hb)
     go_roundg m
     case measure => omega
     case rel => exact ⟨2, acc, v, rfl, by omega, by omega, HR, ⟨ST.out.up be_⟩, ⟨pk BK2.out⟩, ⟨pk BK3.out⟩, ⟨pk BKL.out⟩⟩
   ·obtain rfl : acc = b := Option.some.inj h
    have h3 := H3.out
    unfold grSort at h3
    clear h H AT A1 A2 hl0 hl1 H3
    have hy5 := blk_cell ST.out.out 0
    simp at hy5
    by_cases h0 : acc.length = 0
    ·rw [if_pos h0] at h3
     obtain rfl := Option.some.inj h3
     obtain rfl : acc = [] := List.length_eq_zero_iff.1 h0
     obtain ⟨A, cL, rfl⟩ := Kd.S_slice ST.out.row
     have SN := ak_ fun (W : World) => AnyF.slices_SortFunc_none (P := Try.prog) (ρ := Try.laysSlF6_f91_ren) { Try.laysSlF6_f91 with } A cL (.func (.func 92) #[] #[]) W
     clear h3 h0
     go_wp2_with (go_at_call 91; refine (SN.out _).mono ?_; rintro e w8 ⟨rfl, rfl⟩)
     first | go_ret | go_ret2
     exact ⟨_, rfl, Kd.R_N (Kd.R_mono (Kd.R_bound (Kd.S_R (Kd.S_lower (Kd.S_below ST.out.row be_) (bz_ HB3.out)))) (fun _ hk_ => hk_.2.1)), below_then HB3.out HB3.out.size (ST.out.up be_).bel⟩
    ·rw [if_neg h0] at h3
     by_cases hc : acc.length ≤ 1000 ∧ (acc.all fun x => decide (x.length ≤ 1000)) = true
     rotate_left
     ·rw [if_neg hc] at h3; exact absurd h3 (by simp)
     rw [if_pos hc] at h3
     obtain rfl := Option.some.inj h3
     obtain ⟨bL, cL, ev, hbL, -⟩ := Kd.S_form ST.out.row (by omega)
     subst ev
     have HNE := ak_ (Kd.S_ne ST.out.row ST.out.out (by decide))
     have SO := ak_ fun (W : World) (HP : Kd.S (Kd.slice 3 (Kd.int .i64)) 22 W w3.heap.size (fun _ => True) (.slice (some ⟨bL, 0, none⟩) acc.length cL) acc) => rs_sort bL cL w3.heap.size (fun _ => True) acc W HP (by omega) hc.1 (fun x hx => odt_ (List.all_eq_true.1 hc.2 x hx))
     have HBL := ak_ hbL
     clear h3 h0 hc hbL
     go_wp2_with (go_at_call 91; refine (SO.out _ (Kd.pS ST.out.row)).mono ?_; rintro e w8 ⟨rfl, hs, hk, hbw⟩; have HS := ak_ hs; have BG := ak_ ((hk gb5 (fun e_ => HNE.out (by rw [e_]; rfl)) (blk_lt (pk ST.out.out))).trans (pk ST.out.out)); have HW := ak_ (hbw w.heap.size w (below_then HB3.out HB3.out.size (ST.out.up be_).bel) (Nat.le_trans HB3.out.size HBL.out)); clear hs hk hbw hy5 ST SO; have hy5 := blk_cell BG.out 0; simp at hy5)
     first | go_ret | go_ret2
     exact ⟨_, rfl, Kd.R_N (Kd.R_mono (Kd.R_bound (Kd.S_R (Kd.S_lower (Kd.S_below HS.out be_) (bz_ HB3.out)))) (fun _ hk_ => hk_.2.1)), below_then HW.out HW.out.size be_⟩
def slices_Index_int_int.l0 : Nat → List Int → Int → Int → Int → Option (Int)
 | 0, _, _, _, _ => none
 | k + 1, x0, x1, x7, x8 => if x8 < x7 then (if 0 ≤ x8 then (if x8 < (x0.length : Int) then (if x1 = (rd x0 x8) then (some x8) else (slices_Index_int_int.l0 k x0 x1 x7 (wrap64 (x8 + 1)))) else (none)) else (none)) else (some (-1))
def slices_Index_int_int.f (k : Nat) (l0 : List Int) (a1 : Int) : Option (Int) := slices_Index_int_int.l0 k l0 a1 (l0.length : Int) 0
theorem slices_Index_int_int.calls (k : Nat) (A0 : Option Addr) (c0 : Nat) (l0 : List Int) (a1 : Int) (r : Int) (w : World) (hr0 : Kd.C (Kd.int .i64) w A0 l0.length l0) (hc0 : l0.length ≤ c0) (h : slices_Index_int_int.f k l0 a1 = some r) :
  Calls Try.prog 124 #[.slice A0 l0.length c0, .int .i64 a1] w fun e w' => e = .returned (.int .i64 r) ∧ Drawn0 w w' := by
 have HR0 := ak_ hr0
 have HC0 := ak_ hc0
 clear hr0 hc0
 have H : (slices_Index_int_int.l0 k l0 a1 (l0.length : Int) 0) = some r := h
 clear h
 have H' := ak_ H
 clear H
 go_enter Try.func124, Try.ntmps124
 go_wp2
 go_loopg [8] k (fun kq v8 w' => ∃ (x8_1 : Int), v8 = .int .i64 x8_1 ∧ Aside0 (slices_Index_int_int.l0 kq l0 a1 (l0.length : Int) x8_1 = some r) ∧ Aside0 (kq ≤ k) ∧ Drawn0 w w')
 case atStart => exact ⟨(0), (ry_), H', ⟨Nat.le_refl _⟩, by repeat (first | exact Drawn0.refl _ | apply Drawn0.step)⟩
 case round =>
  clear H'
  try clear c1
  try clear p2
  obtain ⟨x8_1, rfl, HA, HK1, ⟨m1, rfl⟩⟩ := hrel
  cases gk with
  | zero => exact absurd HA.out (by simp [slices_Index_int_int.l0])
  | succ k1 =>
   have H := HA.out
   clear HA
   simp only [slices_Index_int_int.l0] at H
   by_cases c3 : x8_1 < (l0.length : Int)
   ·
    rw [if_pos c3] at H
    have c3b0 := decide_eq_true c3
    clear c3
    by_cases c4 : 0 ≤ x8_1
    ·
     rw [if_pos c4] at H
     have c4b0 := decide_eq_true c4
     clear c4
     by_cases c5 : x8_1 < (l0.length : Int)
     ·
      rw [if_pos c5] at H
      have c5b0 := decide_eq_true c5
      clear c5
      by_cases c6 : a1 = (rd l0 x8_1)
      ·
       rw [if_pos c6] at H
       have c6b0 : (a1 == (rd l0 x8_1)) = true := beq_iff_eq.mpr c6
       have c6b1 : (a1 != (rd l0 x8_1)) = false := bne_eq_false_iff_eq.mpr c6
       clear c6
       obtain rfl := Option.some.inj H
       have p433 : 0 ≤ (x8_1 : Int) := od_
       have q433 : x8_1 < (l0.length : Int) := od_
       obtain ⟨ad433, e433, hx433_0⟩ := Kd.at_int HR0.out x8_1 p433 q433
       cases e433
       replace p433 := eq_true p433
       replace q433 := eq_true q433
       go_wp2
       go_ret
       exact ⟨ry_, by repeat (first | exact Drawn0.refl _ | apply Drawn0.step)⟩
      ·
       rw [if_neg c6] at H
       have c6b0 : (a1 == (rd l0 x8_1)) = false := beq_eq_false_iff_ne.mpr c6
       have c6b1 : (a1 != (rd l0 x8_1)) = true := bne_iff_ne.mpr c6
       have H' := ak_ H
       clear H
       have p433 : 0 ≤ (x8_1 : Int) := od_
       have q433 : x8_1 < (l0.length : Int) := od_
       obtain ⟨ad433, e433, hx433_0⟩ := Kd.at_int HR0.out x8_1 p433 q433
       cases e433
       replace p433 := eq_true p433
       replace q433 := eq_true q433
       go_wp2
       go_roundg k1
       case measure => have := HK1.out; omega
       case rel => exact ⟨(wrap64 (x8_1 + 1)), (ry_), H', ⟨by have := HK1.out; omega⟩, by repeat (first | exact Drawn0.refl _ | apply Drawn0.step)⟩
     ·
      rw [if_neg c5] at H
      exact absurd H (by simp)
    ·
     rw [if_neg c4] at H
     exact absurd H (by simp)
   ·
    rw [if_neg c3] at H
    have c3b0 := decide_eq_false c3
    clear c3
    obtain rfl := Option.some.inj H
    go_wp2
    go_ret
    exact ⟨ry_, by repeat (first | exact Drawn0.refl _ | apply Drawn0.step)⟩
def slices_Contains_int_int.f (k : Nat) (l0 : List Int) (a1 : Int) : Option (Bool) := (slices_Index_int_int.f k l0 a1).bind fun t434 => (some (decide (t434 ≥ 0)))
theorem slices_Contains_int_int.calls (k : Nat) (A0 : Option Addr) (c0 : Nat) (l0 : List Int) (a1 : Int) (r : Bool) (w : World) (hr0 : Kd.C (Kd.int .i64) w A0 l0.length l0) (hc0 : l0.length ≤ c0) (h : slices_Contains_int_int.f k l0 a1 = some r) :
  Calls Try.prog 109 #[.slice A0 l0.length c0, .int .i64 a1] w fun e w' => e = .returned (.bool r) ∧ Drawn0 w w' := by
 have HR0 := ak_ hr0
 have HC0 := ak_ hc0
 clear hr0 hc0
 have H : ((slices_Index_int_int.f k l0 a1).bind fun t434 => (some (decide (t434 ≥ 0)))) = some r := h
 clear h
 replace H := Option.bind_eq_some_iff.mp H
 obtain ⟨t434, A30, H⟩ := H
 replace H : (some (decide (t434 ≥ 0))) = some r := H
 have A3 := ak_ A30
 clear A30
 obtain rfl := Option.some.inj H
 go_enter Try.func109, Try.ntmps109
 go_wp2_with (first | ((with_reducible refine gate_callee (f := 124) rfl ?_); refine goesL_ (some 7) rfl rfl Try.func124 (by kernel_rfl) rfl #[.slice A0 l0.length c0, .int .i64 a1] rfl rs_ ?_; (with_reducible refine (slices_Index_int_int.calls k _ _ l0 a1 t434 _ ?side1 ?side2 A3.out).mono ?_); (case side1 => exact cs_ (HR0.out)); (case side2 => exact HC0.out); rintro e w' ⟨rfl, ⟨nd, rfl⟩⟩; refine ⟨_, rfl, ?_⟩))
 go_ret
 exact ⟨ry_, by repeat (first | exact Drawn0.refl _ | apply Drawn0.step)⟩
def impl_share.f (k : Nat) (a b : List Int) : Option Bool := anyO (fun x => slices_Contains_int_int.f k b x) a
theorem impl_share.calls_1 (k : Nat) (B : Nat) (Ab : Option Addr) (cb : Nat) (b : List Int) (x : Int) (r : Bool) (W : World) (h1 : W.cell? ⟨B, 0, none⟩ = some (.slice Ab b.length cb)) (hb : (Kd.int .i64).C W Ab b.length b) (hcb : b.length ≤ cb) (h : slices_Contains_int_int.f k b x = some r) :
  Calls Try.prog 108 #[.int .i64 x, .pointer (some ⟨B, 0, none⟩)] W fun e w' => e = .returned (.bool r) ∧ Below W.heap.size W w' := by
 have A1 := ak_ fun (W' : World) (hb' : Below W.heap.size W W') => slices_Contains_int_int.calls k Ab cb b x r W' (Kd.C_below hb hb') hcb h
 have HB := ak_ (Below.refl W.heap.size W)
 clear h hb hcb
 go_enter Try.func108, Try.ntmps108
 go_wp2_with (go_at_call 109; refine (A1.out _ (bb_ HB.out)).mono ?_; rintro e w6 ⟨rfl, hd⟩; replace HB := ak_ (bs_ (bb_ HB.out) hd.below); clear hd)
 first | go_ret | go_ret2
 exact ⟨rfl, (bb_ HB.out)⟩
theorem impl_share.calls (k : Nat) (Aa : Option Addr) (ca : Nat) (a : List Int) (Ab : Option Addr) (cb : Nat) (b : List Int) (r : Bool) (w : World)
  (ha : Kd.C (Kd.int .i64) w Aa a.length a) (hca : a.length ≤ ca) (hb0 : Kd.C (Kd.int .i64) w Ab b.length b) (hcb : b.length ≤ cb) (h : impl_share.f k a b = some r) :
  Calls Try.prog 93 #[.slice Aa a.length ca, .slice Ab b.length cb] w fun e w' => e = .returned (.bool r) ∧ Below w.heap.size w w' := by
 unfold impl_share.f at h
 have A2 := ak_ fun (g : Nat) (W : World) (hb : Below w.heap.size w W) (hg : ∀ W', Below W.heap.size W W' → W'.cell? ⟨g, 0, none⟩ = some (.slice Ab b.length cb)) =>
  slices_ContainsFunc_int_int.calls_fn 108 #[.pointer (some ⟨g, 0, none⟩)] (enters_of Try.func108 (by kernel_rfl) rfl) (fun x => slices_Contains_int_int.f k b x) Aa ca a W (Kd.C_below ha hb) (fun W' x r' hb' hx => impl_share.calls_1 k g Ab cb b x r' W' (hg W' hb') (Kd.C_below hb0 (bs_ hb hb')) hcb hx) r h
 have HB := ak_ (Below.refl w.heap.size w)
 clear h ha hca hb0 hcb
 go_enter Try.func93, Try.ntmps93
 go_wp2_with (first | ((with_reducible refine gate_dst (N := 3) rfl ?_); refine bx_ 3 #[.slice Ab b.length cb] 22 ?_; intro gb3 hg w3 hbox hb; have nb_ := ak_ (bs_ (bb_ HB.out) hb); have nc_ := ak_ hbox; have nd_ := ak_ ((by rw [hg]; exact (bz_ (bb_ HB.out)) : w.heap.size ≤ gb3)); clear HB hb hbox hg; have HB := nb_; have BK3 := nc_; have GE3 := nd_; clear nb_ nc_ nd_; have hz3_0 := (blk_cell BK3.out 0); have hf3_0 := (blk_frozen BK3.out 0); simp at hz3_0; skip) | (go_at_call 94; refine (A2.out gb3 _ (bb_ HB.out) (fun W' hb' => (blk_cell (blk_below (pk BK3.out) hb') 0).trans rfl)).mono ?_; rintro e w7 ⟨rfl, hb⟩; replace HB := ak_ (bs_ (bb_ HB.out) hb); clear hb))
 first | go_ret | go_ret2
 exact ⟨rfl, (bb_ HB.out)⟩
def impl_Night_together.f (k : Nat) (l0_0 : List Int) (a0_1 : Int) (a0_2 : Int) (l1_0 : List Bool) (a1_1 : Int) (l2 : List Int) (l3 : List Int) : Option (Bool) := if 0 < (l2.length : Int) then (if 0 ≤ (rd l2 0) then (if (rd l2 0) < (l1_0.length : Int) then ((impl_share.f k l2 l3).bind fun t447 => (if t447 = true then (some false) else (if 0 < (l3.length : Int) then (if 0 ≤ (rd l3 0) then (if (rd l3 0) < (l1_0.length : Int) then (if ((rdOf false l1_0 (rd l2 0)) != (rdOf false l1_0 (rd l3 0))) = true then (some true) else ((impl_Night_torches.f l0_0 a0_1 a0_2 l1_0 a1_1 (rdOf false l1_0 (rd l2 0))).bind fun t450 => (some (decide (t450 > 1))))) else (none)) else (none)) else (none)))) else (none)) else (none)) else (none)
def impl_Night_together.T1 : Bool × List (List Nat × List Nat) := (true, [([], []), ([0], [0]), ([], []), ([2], [2]), ([3], [3]), ([1, 4], [1, 4]), ([5], [5]), ([6, 0, 1, 2, 3, 4, 5, 6], [6])])
def impl_Night_together.B1 : List Nat := [0, 1, 0, 4, 12, 31, 63, 127]
theorem impl_Night_together.tab1 : rtab .any (opsOf Try.f71 1) = impl_Night_together.T1 := by kernel_rfl
theorem impl_Night_together.bits1 : waitsOk impl_Night_together.T1.2 impl_Night_together.B1 = true := by kernel_rfl
def impl_Night_together.T2 : Bool × List (List Nat × List Nat) := (true, [([], []), ([], []), ([0, 1], [0, 1]), ([2], [2]), ([3, 2], [3]), ([4], [4]), ([4], [4]), ([6, 4], [4, 6]), ([4], [4]), ([8, 4], [4, 8]), ([9, 4], [4, 9]), ([7, 10, 4], [4, 7, 10]), ([11, 4], [4, 11]), ([5, 12, 4], [4, 5, 12]), ([13, 4, 4], [4, 13]), ([14], [14]), ([14], [14]), ([14], [14]), ([15, 16, 17, 14, 14], [14, 15, 16, 17]), ([18, 14], [14, 18]), ([14, 19, 4], [4, 14, 19]), ([4, 20], [4, 20]), ([21, 18, 0, 1, 2, 3, 4, 5, 6, 7, 8, 9, 10, 11, 12, 13, 14, 15, 16, 17, 18, 19, 20, 21], [21])])
def impl_Night_together.B2 : List Nat := [0, 0, 3, 7, 15, 31, 31, 95, 31, 287, 799, 2015, 4063, 8191, 16383, 32767, 32767, 32767, 262143, 524287, 1048575, 2097151, 4194303]
theorem impl_Night_together.tab2 : rtab .any (opsOf Try.f71 2) = impl_Night_together.T2 := by kernel_rfl
theorem impl_Night_together.bits2 : waitsOk impl_Night_together.T2.2 impl_Night_together.B2 = true := by kernel_rfl
theorem impl_Night_together.calls (k : Nat) (A0_0 : Option Addr) (c0_0 : Nat) (l0_0 : List Int) (a0_1 : Int) (a0_2 : Int) (A1_0 : Option Addr) (c1_0 : Nat) (l1_0 : List Bool) (a1_1 : Int) (A2 : Option Addr) (c2 : Nat) (l2 : List Int) (A3 : Option Addr) (c3 : Nat) (l3 : List Int) (r : Bool) (w : World) (hr0_0 : Kd.C (Kd.int .i64) w A0_0 l0_0.length l0_0) (hc0_0 : l0_0.length ≤ c0_0) (hr1_0 : Kd.C Kd.bool w A1_0 l1_0.length l1_0) (hc1_0 : l1_0.length ≤ c1_0) (hr2 : Kd.C (Kd.int .i64) w A2 l2.length l2) (hc2 : l2.length ≤ c2) (hr3 : Kd.C (Kd.int .i64) w A3 l3.length l3) (hc3 : l3.length ≤ c3) (h : impl_Night_together.f k l0_0 a0_1 a0_2 l1_0 a1_1 l2 l3 = some r) :
  Calls Try.prog 71 #[.agg #[.slice A0_0 l0_0.length c0_0, .int .i64 a0_1, .int .i64 a0_2], .agg #[.slice A1_0 l1_0.length c1_0, .int .i64 a1_1], .slice A2 l2.length c2, .slice A3 l3.length c3] w fun e w' => e = .returned (.bool r) ∧ Below w.heap.size w w' := by
 have hu33 := Try.underlying33
 have hu35 := Try.underlying35
 have HR0_0 := ak_ hr0_0
 have HC0_0 := ak_ hc0_0
 clear hr0_0 hc0_0
 have HR1_0 := ak_ hr1_0
 have HC1_0 := ak_ hc1_0
 clear hr1_0 hc1_0
 have HR2 := ak_ hr2
 have HC2 := ak_ hc2
 clear hr2 hc2
 have HR3 := ak_ hr3
 have HC3 := ak_ hc3
 clear hr3 hc3
 have HB := ak_ (Below.refl w.heap.size w)
 have H : (if 0 < (l2.length : Int) then (if 0 ≤ (rd l2 0) then (if (rd l2 0) < (l1_0.length : Int) then ((impl_share.f k l2 l3).bind fun t447 => (if t447 = true then (some false) else (if 0 < (l3.length : Int) then (if 0 ≤ (rd l3 0) then (if (rd l3 0) < (l1_0.length : Int) then (if ((rdOf false l1_0 (rd l2 0)) != (rdOf false l1_0 (rd l3 0))) = true then (some true) else ((impl_Night_torches.f l0_0 a0_1 a0_2 l1_0 a1_1 (rdOf false l1_0 (rd l2 0))).bind fun t450 => (some (decide (t450 > 1))))) else (none)) else (none)) else (none)))) else (none)) else (none)) else (none)) = some r := h
 clear h
 by_cases c5 : 0 < (l2.length : Int)
 ·
  rw [if_pos c5] at H
  have c5b0 := decide_eq_true c5
  have c5b1 : decide (0 < l2.length) = true := decide_eq_true (by omega)
  clear c5
  by_cases c6 : 0 ≤ (rd l2 0)
  ·
   rw [if_pos c6] at H
   have c6b0 := decide_eq_true c6
   clear c6
   by_cases c7 : (rd l2 0) < (l1_0.length : Int)
   ·
    rw [if_pos c7] at H
    have c7b0 := decide_eq_true c7
    clear c7
    have HC8 := ak_ H
    clear H
    go_enter Try.func71, Try.ntmps71
    try go_wp2_with (first | ((with_reducible refine gate_dst (N := 4) rfl ?_); refine bx_ 4 #[.slice A0_0 l0_0.length c0_0, .int .i64 a0_1, .int .i64 a0_2] 33 ?_; intro gb443 hg w9 hbox hb; have BK443 := ak_ (hbox); have GW443 := ak_ ((by rw [hg]; exact (bz_ (bb_ HB.out)) : w.heap.size ≤ gb443)); replace HB := ak_ (bs_ (bb_ HB.out) hb); have GE443 := GW443; clear hb hbox hg) | ((with_reducible refine gate_dst (N := 5) rfl ?_); refine bx_ 5 #[.slice A1_0 l1_0.length c1_0, .int .i64 a1_1] 35 ?_; intro gb444 hg w10 hbox hb; have BK444 := ak_ (hbox); have GW444 := ak_ ((by rw [hg]; exact (bz_ bl_) : w.heap.size ≤ gb444)); replace HB := ak_ (bs_ bl_ hb); have GE444 := GW444; have NB443_444 := ak_ ((by rw [hg]; exact Nat.ne_of_lt (blk_lt (pk BK443.out)) : gb443 ≠ gb444)); replace BK443 := ak_ (blk_below (pk BK443.out) hb); have NB444_443 := ak_ NB443_444.out.symm; clear hb hbox hg))
    have n0_ := ak_ (k1_ BK443.out)
    have n1_ := ak_ (k1_ BK444.out)
    have n2_ := ak_ (b1_ HB.out)
    clear BK443 BK444 HB
    have BK443 := n0_; have BK444 := n1_; have HB := n2_
    clear n0_ n1_ n2_
    have p445 : 0 ≤ (0 : Int) := (by omega)
    have q445 : 0 < (l2.length : Int) := od_
    obtain ⟨ad445, e445, hx445_0⟩ := Kd.at_int HR2.out 0 p445 q445
    have hw445_0 := hx445_0
    (try rw [show ((0 : Int)).toNat = 0 from rfl] at hw445_0)
    (try rw [show 0 * 1 = 0 from rfl] at hw445_0)
    (try rw [Addr.add_zero'] at hw445_0)
    cases e445
    have qi445 : (0 < l2.length) = True := eq_true (by omega)
    (try rw [show ((0 : Int)).toNat = 0 from rfl] at hx445_0)
    (try rw [Addr.add_zero'] at hx445_0)
    try replace hx445_0 := (HB.out.cell (World.block_lt_of_cell? w _ hx445_0)).trans hx445_0
    replace p445 := eq_true p445
    replace q445 := eq_true q445
    have p446 : 0 ≤ ((rd l2 0) : Int) := od_
    have q446 : (rd l2 0) < (l1_0.length : Int) := od_
    obtain ⟨ad446, e446, hx446_0⟩ := Kd.at_bool HR1_0.out (rd l2 0) p446 q446
    have hw446_0 := hx446_0
    cases e446
    try replace hx446_0 := (HB.out.cell (World.block_lt_of_cell? w _ hx446_0)).trans hx446_0
    replace p446 := eq_true p446
    replace q446 := eq_true q446
    refine start_ (n := 8) (S := fun w' => w'.cell? ⟨gb444, 0, none⟩ = some (.slice (some ad446) l1_0.length c1_0) ∧ w'.cell? ⟨gb444, 1, none⟩ = some (.int .i64 a1_1) ∧ w'.cell? ad445 = some (.int .i64 (rd l2 0)) ∧ w'.cell? (ad446.add ((rd l2 0)).toNat) = some (.bool (rdOf false l1_0 (rd l2 0)))) (ds := []) (mb_ 8 0) (by kernel_rfl) rfl rfl ⟨(blk_cell BK444.out 0).trans rfl, (blk_cell BK444.out 1).trans rfl, ((HB.out.cell (World.block_lt_of_cell? w _ hw445_0)).trans hw445_0), ((HB.out.cell (World.block_lt_of_cell? w _ hw446_0)).trans hw446_0)⟩ (fun hHeld => ?_); refine with_tabW impl_Night_together.tab1 impl_Night_together.bits1 (fun HT_ HW_ => ?_)
    generalize w10.drew = w11 at BK443 BK444 HB hx445_0 hx446_0 hHeld ⊢
    refine pu_ 0 10 8 1 ?_
    refine pu_ 2 12 8 5 ?_
    refine pu_ 3 13 8 13 ?_
    refine tk_ 1 11 8 15 ?_ (hy := by rintro w' ⟨s0, s1, s2, s3⟩; go_simp; with_reducible rfl)
    refine tk_ 4 14 8 31 ?_ (hy := by rintro w' ⟨s0, s1, s2, s3⟩; go_simp; with_reducible rfl)
    refine pu_ 5 15 8 63 ?_
    refine tk_ 6 16 8 127 ?_ (hy := by rintro w' ⟨s0, s1, s2, s3⟩; go_simp; with_reducible rfl)
    refine pu_ 7 9 8 255 ?_
    refine done_ (done_of HT_.out (by kernel_rfl)) ?_
    go_upto_region 2 with (fail)
    have H := HC8.out
    clear HC8
    replace H := Option.bind_eq_some_iff.mp H
    obtain ⟨t447, A120, H⟩ := H
    replace H : (if t447 = true then (some false) else (if 0 < (l3.length : Int) then (if 0 ≤ (rd l3 0) then (if (rd l3 0) < (l1_0.length : Int) then (if ((rdOf false l1_0 (rd l2 0)) != (rdOf false l1_0 (rd l3 0))) = true then (some true) else ((impl_Night_torches.f l0_0 a0_1 a0_2 l1_0 a1_1 (rdOf false l1_0 (rd l2 0))).bind fun t450 => (some (decide (t450 > 1))))) else (none)) else (none)) else (none))) = some r := H
    have A12 := ak_ A120
    clear A120
    by_cases c13 : t447 = true
    ·
     subst c13
     have H1 : (some false) = some r := by rw [if_pos rfl] at H; exact H
     clear H
     have H := H1
     clear H1
     obtain rfl := Option.some.inj H
     try go_wp2
     have n0_ := ak_ (k1_ BK443.out)
     have n1_ := ak_ (k1_ BK444.out)
     have n2_ := ak_ (b1_ HB.out)
     clear BK443 BK444 HB
     have BK443 := n0_; have BK444 := n1_; have HB := n2_
     clear n0_ n1_ n2_
     refine start_ (n := 23) (S := fun w' => True) (ds := []) (mb_ 23 0) (by kernel_rfl) rfl rfl trivial (fun hHeld => ?_); refine with_tabW impl_Night_together.tab2 impl_Night_together.bits2 (fun HT_ HW_ => ?_)
     generalize w11.drew = w14 at BK443 BK444 HB hHeld ⊢
     refine pu_ 0 17 23 1 ?_
     refine pu_ 1 18 23 3 ?_
     refine on_ 2 19 23 7 (fun K hK => ?_)
     refine goes_ Try.func93 (by kernel_rfl) rfl #[.slice (some ad445) l2.length c2, .slice A3 l3.length c3] (by rfl) rfl rfl rs_ ?_
     with_reducible refine (impl_share.calls k _ _ l2 _ _ l3 true _ ?side1 ?side2 ?side3 ?side4 A12.out).mono ?_
     (case side1 => exact cs_ (Kd.C_below HR2.out HB.out))
     (case side2 => exact HC2.out)
     (case side3 => exact cs_ (Kd.C_below HR3.out HB.out))
     (case side4 => exact HC3.out)
     rintro e w15 ⟨rfl, hb⟩
     refine ⟨_, rfl, ?_⟩
     have n0_ := ak_ (blk_below (pk BK443.out) hb)
     have n1_ := ak_ (blk_below (pk BK444.out) hb)
     have n2_ := ak_ (bs_ bl_ hb)
     clear BK443 BK444 HB
     have BK443 := n0_; have BK444 := n1_; have HB := n2_
     clear n0_ n1_ n2_
     (try clear hb)
     (try clear hb2)
     (try clear hk)
     (try clear hi)
     refine hK.out _ _ trivial (fun hHeld => ?_)
     clear hK K
     refine nm_ ?_
     refine pu_ 3 20 23 15 ?_
     refine pu_ 4 21 23 31 ?_
     refine pure_ (i := 5) (N := some 22) (v := undef) (a' := ?_) (mb_ 23 63) rfl rfl (any_of HT_.out (by kernel_rfl)) (fun _ _ _ h => h) (Or.inr ⟨by rfl, rfl⟩) ?_ ?_
     rotate_left
     ·
      simp only [Act.put, setIfInBounds_toArray, set_cons_zero, set_cons_succ, i64_w, i32_w]
      rfl
     refine pure_ (i := 6) (N := some 23) (v := undef) (a' := ?_) (mb_ 23 127) rfl rfl (any_of HT_.out (by kernel_rfl)) (fun _ _ _ h => h) (Or.inr ⟨by rfl, rfl⟩) ?_ ?_
     rotate_left
     ·
      simp only [Act.put, setIfInBounds_toArray, set_cons_zero, set_cons_succ, i64_w, i32_w]
      rfl
     refine pure_ (i := 7) (N := some 24) (v := undef) (a' := ?_) (mb_ 23 255) rfl rfl (any_of HT_.out (by kernel_rfl)) (fun _ _ _ h => h) (Or.inr ⟨by rfl, rfl⟩) ?_ ?_
     rotate_left
     ·
      simp only [Act.put, setIfInBounds_toArray, set_cons_zero, set_cons_succ, i64_w, i32_w]
      rfl
     refine pure_ (i := 8) (N := some 25) (v := undef) (a' := ?_) (mb_ 23 511) rfl rfl (any_of HT_.out (by kernel_rfl)) (fun _ _ _ h => h) (Or.inr ⟨by rfl, rfl⟩) ?_ ?_
     rotate_left
     ·
      simp only [Act.put, setIfInBounds_toArray, set_cons_zero, set_cons_succ, i64_w, i32_w]
      rfl
     refine pure_ (i := 9) (N := some 26) (v := undef) (a' := ?_) (mb_ 23 1023) rfl rfl (any_of HT_.out (by kernel_rfl)) (fun _ _ _ h => h) (Or.inr ⟨by rfl, rfl⟩) ?_ ?_
     rotate_left
     ·
      simp only [Act.put, setIfInBounds_toArray, set_cons_zero, set_cons_succ, i64_w, i32_w]
      rfl
     refine pure_ (i := 10) (N := some 27) (v := undef) (a' := ?_) (mb_ 23 2047) rfl rfl (any_of HT_.out (by kernel_rfl)) (fun _ _ _ h => h) (Or.inr ⟨by rfl, rfl⟩) ?_ ?_
     rotate_left
     ·
      simp only [Act.put, setIfInBounds_toArray, set_cons_zero, set_cons_succ, i64_w, i32_w]
      rfl
     refine pure_ (i := 11) (N := some 28) (v := undef) (a' := ?_) (mb_ 23 4095) rfl rfl (any_of HT_.out (by kernel_rfl)) (fun _ _ _ h => h) (Or.inr ⟨by rfl, rfl⟩) ?_ ?_
     rotate_left
     ·
      simp only [Act.put, setIfInBounds_toArray, set_cons_zero, set_cons_succ, i64_w, i32_w]
      rfl
     refine pure_ (i := 12) (N := some 29) (v := undef) (a' := ?_) (mb_ 23 8191) rfl rfl (any_of HT_.out (by kernel_rfl)) (fun _ _ _ h => h) (Or.inr ⟨by rfl, rfl⟩) ?_ ?_
     rotate_left
     ·
      simp only [Act.put, setIfInBounds_toArray, set_cons_zero, set_cons_succ, i64_w, i32_w]
      rfl
     refine pure_ (i := 13) (N := some 30) (v := undef) (a' := ?_) (mb_ 23 16383) rfl rfl (any_of HT_.out (by kernel_rfl)) (fun _ _ _ h => h) (Or.inr ⟨by rfl, rfl⟩) ?_ ?_
     rotate_left
     ·
      simp only [Act.put, setIfInBounds_toArray, set_cons_zero, set_cons_succ, i64_w, i32_w]
      rfl
     refine pure_ (i := 14) (N := some 31) (v := undef) (a' := ?_) (mb_ 23 32767) rfl rfl (any_of HT_.out (by kernel_rfl)) (fun _ _ _ h => h) (Or.inr ⟨by rfl, rfl⟩) ?_ ?_
     rotate_left
     ·
      simp only [Act.put, setIfInBounds_toArray, set_cons_zero, set_cons_succ, i64_w, i32_w]
      rfl
     refine pure_ (i := 15) (N := some 32) (v := undef) (a' := ?_) (mb_ 23 65535) rfl rfl (any_of HT_.out (by kernel_rfl)) (fun _ _ _ h => h) (Or.inr ⟨by rfl, rfl⟩) ?_ ?_
     rotate_left
     ·
      simp only [Act.put, setIfInBounds_toArray, set_cons_zero, set_cons_succ, i64_w, i32_w]
      rfl
     refine pure_ (i := 16) (N := some 33) (v := undef) (a' := ?_) (mb_ 23 131071) rfl rfl (any_of HT_.out (by kernel_rfl)) (fun _ _ _ h => h) (Or.inr ⟨by rfl, rfl⟩) ?_ ?_
     rotate_left
     ·
      simp only [Act.put, setIfInBounds_toArray, set_cons_zero, set_cons_succ, i64_w, i32_w]
      rfl
     refine pure_ (i := 17) (N := some 34) (v := undef) (a' := ?_) (mb_ 23 262143) rfl rfl (any_of HT_.out (by kernel_rfl)) (fun _ _ _ h => h) (Or.inr ⟨by rfl, rfl⟩) ?_ ?_
     rotate_left
     ·
      simp only [Act.put, setIfInBounds_toArray, set_cons_zero, set_cons_succ, i64_w, i32_w]
      rfl
     refine pure_ (i := 18) (N := some 35) (v := undef) (a' := ?_) (mb_ 23 524287) rfl rfl (any_of HT_.out (by kernel_rfl)) (fun _ _ _ h => h) (Or.inr ⟨by rfl, rfl⟩) ?_ ?_
     rotate_left
     ·
      simp only [Act.put, setIfInBounds_toArray, set_cons_zero, set_cons_succ, i64_w, i32_w]
      rfl
     refine pure_ (i := 19) (N := some 36) (v := undef) (a' := ?_) (mb_ 23 1048575) rfl rfl (any_of HT_.out (by kernel_rfl)) (fun _ _ _ h => h) (Or.inr ⟨by rfl, rfl⟩) ?_ ?_
     rotate_left
     ·
      simp only [Act.put, setIfInBounds_toArray, set_cons_zero, set_cons_succ, i64_w, i32_w]
      rfl
     refine pure_ (i := 20) (N := some 37) (v := undef) (a' := ?_) (mb_ 23 2097151) rfl rfl (any_of HT_.out (by kernel_rfl)) (fun _ _ _ h => h) (Or.inr ⟨by rfl, rfl⟩) ?_ ?_
     rotate_left
     ·
      simp only [Act.put, setIfInBounds_toArray, set_cons_zero, set_cons_succ, i64_w, i32_w]
      rfl
     refine pu_ 21 38 23 4194303 ?_
     refine pu_ 22 8 23 8388607 ?_
     refine done_ (done_of HT_.out (by kernel_rfl)) ?_
     try go_wp2
     go_ret
     exact ⟨rx_, bl_⟩
    ·
     replace c13 := Bool.eq_false_iff.mpr c13
     subst c13
     have H1 : (if 0 < (l3.length : Int) then (if 0 ≤ (rd l3 0) then (if (rd l3 0) < (l1_0.length : Int) then (if ((rdOf false l1_0 (rd l2 0)) != (rdOf false l1_0 (rd l3 0))) = true then (some true) else ((impl_Night_torches.f l0_0 a0_1 a0_2 l1_0 a1_1 (rdOf false l1_0 (rd l2 0))).bind fun t450 => (some (decide (t450 > 1))))) else (none)) else (none)) else (none)) = some r := by rw [if_neg (show ¬ (false = true) by decide)] at H; exact H
     clear H
     have H := H1
     clear H1
     by_cases c16 : 0 < (l3.length : Int)
     ·
      rw [if_pos c16] at H
      have c16b0 := decide_eq_true c16
      have c16b1 : decide (0 < l3.length) = true := decide_eq_true (by omega)
      clear c16
      by_cases c17 : 0 ≤ (rd l3 0)
      ·
       rw [if_pos c17] at H
       have c17b0 := decide_eq_true c17
       clear c17
       by_cases c18 : (rd l3 0) < (l1_0.length : Int)
       ·
        rw [if_pos c18] at H
        have c18b0 := decide_eq_true c18
        clear c18
        by_cases c19 : ((rdOf false l1_0 (rd l2 0)) != (rdOf false l1_0 (rd l3 0))) = true
        ·
         rw [if_pos c19] at H
         have c19b0 : ((rdOf false l1_0 (rd l2 0)) != (rdOf false l1_0 (rd l3 0))) = true := c19
         (try (have c19b1 : decide ((rdOf false l1_0 (rd l2 0)) = (rdOf false l1_0 (rd l3 0))) = false := by simpa using c19))
         (try (have c19b2 : ((rdOf false l1_0 (rd l2 0)) == (rdOf false l1_0 (rd l3 0))) = false := by simpa using c19))
         (try (have c19b7 : (!((rdOf false l1_0 (rd l2 0)) == (rdOf false l1_0 (rd l3 0)))) = true := by simp only [c19b2, Bool.not_true, Bool.not_false]))
         (try (have c19b3 : ¬ ((rdOf false l1_0 (rd l2 0)) = (rdOf false l1_0 (rd l3 0))) := by simpa using c19))
         clear c19
         obtain rfl := Option.some.inj H
         try go_wp2
         have n0_ := ak_ (k1_ BK443.out)
         have n1_ := ak_ (k1_ BK444.out)
         have n2_ := ak_ (b1_ HB.out)
         clear BK443 BK444 HB
         have BK443 := n0_; have BK444 := n1_; have HB := n2_
         clear n0_ n1_ n2_
         have p448 : 0 ≤ (0 : Int) := (by omega)
         have q448 : 0 < (l3.length : Int) := od_
         obtain ⟨ad448, e448, hx448_0⟩ := Kd.at_int HR3.out 0 p448 q448
         have hw448_0 := hx448_0
         (try rw [show ((0 : Int)).toNat = 0 from rfl] at hw448_0)
         (try rw [show 0 * 1 = 0 from rfl] at hw448_0)
         (try rw [Addr.add_zero'] at hw448_0)
         cases e448
         have qi448 : (0 < l3.length) = True := eq_true (by omega)
         (try rw [show ((0 : Int)).toNat = 0 from rfl] at hx448_0)
         (try rw [Addr.add_zero'] at hx448_0)
         try replace hx448_0 := (HB.out.cell (World.block_lt_of_cell? w _ hx448_0)).trans hx448_0
         replace p448 := eq_true p448
         replace q448 := eq_true q448
         have p449 : 0 ≤ ((rd l3 0) : Int) := od_
         have q449 : (rd l3 0) < (l1_0.length : Int) := od_
         obtain ⟨ad449, e449, hx449_0⟩ := Kd.at_bool HR1_0.out (rd l3 0) p449 q449
         have hw449_0 := hx449_0
         obtain rfl : ad446 = ad449 := (by injection e449)
         try replace hx449_0 := (HB.out.cell (World.block_lt_of_cell? w _ hx449_0)).trans hx449_0
         replace p449 := eq_true p449
         replace q449 := eq_true q449
         refine start_ (n := 23) (S := fun w' => w'.cell? ⟨gb444, 0, none⟩ = some (.slice (some ad446) l1_0.length c1_0) ∧ w'.cell? ⟨gb444, 1, none⟩ = some (.int .i64 a1_1) ∧ w'.cell? ad448 = some (.int .i64 (rd l3 0)) ∧ w'.cell? (ad446.add ((rd l3 0)).toNat) = some (.bool (rdOf false l1_0 (rd l3 0)))) (ds := []) (mb_ 23 0) (by kernel_rfl) rfl rfl ⟨(blk_cell BK444.out 0).trans rfl, (blk_cell BK444.out 1).trans rfl, ((HB.out.cell (World.block_lt_of_cell? w _ hw448_0)).trans hw448_0), ((HB.out.cell (World.block_lt_of_cell? w _ hw449_0)).trans hw449_0)⟩ (fun hHeld => ?_); refine with_tabW impl_Night_together.tab2 impl_Night_together.bits2 (fun HT_ HW_ => ?_)
         generalize w11.drew = w20 at BK443 BK444 HB hx448_0 hx449_0 hHeld ⊢
         refine pu_ 0 17 23 1 ?_
         refine pu_ 1 18 23 3 ?_
         refine on_ 2 19 23 7 (fun K hK => ?_)
         refine goes_ Try.func93 (by kernel_rfl) rfl #[.slice (some ad445) l2.length c2, .slice (some ad448) l3.length c3] (by rfl) rfl rfl rs_ ?_
         with_reducible refine (impl_share.calls k _ _ l2 _ _ l3 false _ ?side1 ?side2 ?side3 ?side4 A12.out).mono ?_
         (case side1 => exact cs_ (Kd.C_below HR2.out HB.out))
         (case side2 => exact HC2.out)
         (case side3 => exact cs_ (Kd.C_below HR3.out HB.out))
         (case side4 => exact HC3.out)
         rintro e w21 ⟨rfl, hb⟩
         refine ⟨_, rfl, ?_⟩
         have n0_ := ak_ (blk_below (pk BK443.out) hb)
         have n1_ := ak_ (blk_below (pk BK444.out) hb)
         have n2_ := ak_ (bs_ bl_ hb)
         clear BK443 BK444 HB
         have BK443 := n0_; have BK444 := n1_; have HB := n2_
         clear n0_ n1_ n2_
         (try clear hb)
         (try clear hb2)
         (try clear hk)
         (try clear hi)
         refine hK.out _ _ ⟨(blk_cell BK444.out 0).trans rfl, (blk_cell BK444.out 1).trans rfl, ((HB.out.cell (World.block_lt_of_cell? w _ hw448_0)).trans hw448_0), ((HB.out.cell (World.block_lt_of_cell? w _ hw449_0)).trans hw449_0)⟩ (fun hHeld => ?_)
         clear hK K
         refine nm_ ?_
         refine pu_ 3 20 23 15 ?_
         refine pu_ 4 21 23 31 ?_
         refine pu_ 5 22 23 63 ?_
         refine pu_ 6 23 23 127 ?_
         refine pu_ 8 25 23 383 ?_
         refine pu_ 9 26 23 895 ?_
         refine tk_ 7 24 23 1023 ?_ (hy := by rintro w' ⟨s0, s1, s2, s3⟩; go_simp; with_reducible rfl)
         refine tk_ 10 27 23 2047 ?_ (hy := by rintro w' ⟨s0, s1, s2, s3⟩; go_simp; with_reducible rfl)
         refine pu_ 11 28 23 4095 ?_
         refine tk_ 12 29 23 8191 ?_ (hy := by rintro w' ⟨s0, s1, s2, s3⟩; go_simp; with_reducible rfl)
         refine pu_ 13 30 23 16383 ?_
         refine pu_ 14 31 23 32767 ?_
         refine pure_ (i := 15) (N := some 32) (v := undef) (a' := ?_) (mb_ 23 65535) rfl rfl (any_of HT_.out (by kernel_rfl)) (fun _ _ _ h => h) (Or.inr ⟨by rfl, rfl⟩) ?_ ?_
         rotate_left
         ·
          simp only [Act.put, setIfInBounds_toArray, set_cons_zero, set_cons_succ, i64_w, i32_w]
          rfl
         refine pure_ (i := 16) (N := some 33) (v := undef) (a' := ?_) (mb_ 23 131071) rfl rfl (any_of HT_.out (by kernel_rfl)) (fun _ _ _ h => h) (Or.inr ⟨by rfl, rfl⟩) ?_ ?_
         rotate_left
         ·
          simp only [Act.put, setIfInBounds_toArray, set_cons_zero, set_cons_succ, i64_w, i32_w]
          rfl
         refine pure_ (i := 17) (N := some 34) (v := undef) (a' := ?_) (mb_ 23 262143) rfl rfl (any_of HT_.out (by kernel_rfl)) (fun _ _ _ h => h) (Or.inr ⟨by rfl, rfl⟩) ?_ ?_
         rotate_left
         ·
          simp only [Act.put, setIfInBounds_toArray, set_cons_zero, set_cons_succ, i64_w, i32_w]
          rfl
         refine pure_ (i := 18) (N := some 35) (v := undef) (a' := ?_) (mb_ 23 524287) rfl rfl (any_of HT_.out (by kernel_rfl)) (fun _ _ _ h => h) (Or.inr ⟨by rfl, rfl⟩) ?_ ?_
         rotate_left
         ·
          simp only [Act.put, setIfInBounds_toArray, set_cons_zero, set_cons_succ, i64_w, i32_w]
          rfl
         refine pure_ (i := 19) (N := some 36) (v := undef) (a' := ?_) (mb_ 23 1048575) rfl rfl (any_of HT_.out (by kernel_rfl)) (fun _ _ _ h => h) (Or.inr ⟨by rfl, rfl⟩) ?_ ?_
         rotate_left
         ·
          simp only [Act.put, setIfInBounds_toArray, set_cons_zero, set_cons_succ, i64_w, i32_w]
          rfl
         refine pu_ 20 37 23 2097151 ?_
         refine pu_ 21 38 23 4194303 ?_
         refine pu_ 22 8 23 8388607 ?_
         refine done_ (done_of HT_.out (by kernel_rfl)) ?_
         try go_wp2
         go_ret
         exact ⟨rx_, bl_⟩
        ·
         rw [if_neg c19] at H
         have c19b0 : ((rdOf false l1_0 (rd l2 0)) != (rdOf false l1_0 (rd l3 0))) = false := by simpa using c19
         (try (have c19b1 : decide ((rdOf false l1_0 (rd l2 0)) = (rdOf false l1_0 (rd l3 0))) = true := by simpa using c19))
         (try (have c19b2 : ((rdOf false l1_0 (rd l2 0)) == (rdOf false l1_0 (rd l3 0))) = true := by simpa using c19))
         (try (have c19b7 : (!((rdOf false l1_0 (rd l2 0)) == (rdOf false l1_0 (rd l3 0)))) = false := by simp only [c19b2, Bool.not_true, Bool.not_false]))
         clear c19
         replace H := Option.bind_eq_some_iff.mp H
         obtain ⟨t450, A220, H⟩ := H
         replace H : (some (decide (t450 > 1))) = some r := H
         have A22 := ak_ A220
         clear A220
         obtain rfl := Option.some.inj H
         try go_wp2
         have n0_ := ak_ (k1_ BK443.out)
         have n1_ := ak_ (k1_ BK444.out)
         have n2_ := ak_ (b1_ HB.out)
         clear BK443 BK444 HB
         have BK443 := n0_; have BK444 := n1_; have HB := n2_
         clear n0_ n1_ n2_
         have p448 : 0 ≤ (0 : Int) := (by omega)
         have q448 : 0 < (l3.length : Int) := od_
         obtain ⟨ad448, e448, hx448_0⟩ := Kd.at_int HR3.out 0 p448 q448
         have hw448_0 := hx448_0
         (try rw [show ((0 : Int)).toNat = 0 from rfl] at hw448_0)
         (try rw [show 0 * 1 = 0 from rfl] at hw448_0)
         (try rw [Addr.add_zero'] at hw448_0)
         cases e448
         have qi448 : (0 < l3.length) = True := eq_true (by omega)
         (try rw [show ((0 : Int)).toNat = 0 from rfl] at hx448_0)
         (try rw [Addr.add_zero'] at hx448_0)
         try replace hx448_0 := (HB.out.cell (World.block_lt_of_cell? w _ hx448_0)).trans hx448_0
         replace p448 := eq_true p448
         replace q448 := eq_true q448
         have p449 : 0 ≤ ((rd l3 0) : Int) := od_
         have q449 : (rd l3 0) < (l1_0.length : Int) := od_
         obtain ⟨ad449, e449, hx449_0⟩ := Kd.at_bool HR1_0.out (rd l3 0) p449 q449
         have hw449_0 := hx449_0
         obtain rfl : ad446 = ad449 := (by injection e449)
         try replace hx449_0 := (HB.out.cell (World.block_lt_of_cell? w _ hx449_0)).trans hx449_0
         replace p449 := eq_true p449
         replace q449 := eq_true q449
         refine start_ (n := 23) (S := fun w' => w'.cell? ⟨gb444, 0, none⟩ = some (.slice (some ad446) l1_0.length c1_0) ∧ w'.cell? ⟨gb444, 1, none⟩ = some (.int .i64 a1_1) ∧ w'.cell? ⟨gb443, 0, none⟩ = some (.slice A0_0 l0_0.length c0_0) ∧ w'.cell? ⟨gb443, 1, none⟩ = some (.int .i64 a0_1) ∧ w'.cell? ⟨gb443, 2, none⟩ = some (.int .i64 a0_2) ∧ w'.cell? ad448 = some (.int .i64 (rd l3 0)) ∧ w'.cell? (ad446.add ((rd l3 0)).toNat) = some (.bool (rdOf false l1_0 (rd l3 0)))) (ds := []) (mb_ 23 0) (by kernel_rfl) rfl rfl ⟨(blk_cell BK444.out 0).trans rfl, (blk_cell BK444.out 1).trans rfl, (blk_cell BK443.out 0).trans rfl, (blk_cell BK443.out 1).trans rfl, (blk_cell BK443.out 2).trans rfl, ((HB.out.cell (World.block_lt_of_cell? w _ hw448_0)).trans hw448_0), ((HB.out.cell (World.block_lt_of_cell? w _ hw449_0)).trans hw449_0)⟩ (fun hHeld => ?_); refine with_tabW impl_Night_together.tab2 impl_Night_together.bits2 (fun HT_ HW_ => ?_)
         generalize w11.drew = w23 at BK443 BK444 HB hx448_0 hx449_0 hHeld ⊢
         refine pu_ 0 17 23 1 ?_
         refine pu_ 1 18 23 3 ?_
         refine on_ 2 19 23 7 (fun K hK => ?_)
         refine goes_ Try.func93 (by kernel_rfl) rfl #[.slice (some ad445) l2.length c2, .slice (some ad448) l3.length c3] (by rfl) rfl rfl rs_ ?_
         with_reducible refine (impl_share.calls k _ _ l2 _ _ l3 false _ ?side1 ?side2 ?side3 ?side4 A12.out).mono ?_
         (case side1 => exact cs_ (Kd.C_below HR2.out HB.out))
         (case side2 => exact HC2.out)
         (case side3 => exact cs_ (Kd.C_below HR3.out HB.out))
         (case side4 => exact HC3.out)
         rintro e w24 ⟨rfl, hb⟩
         refine ⟨_, rfl, ?_⟩
         have n0_ := ak_ (blk_below (pk BK443.out) hb)
         have n1_ := ak_ (blk_below (pk BK444.out) hb)
         have n2_ := ak_ (bs_ bl_ hb)
         clear BK443 BK444 HB
         have BK443 := n0_; have BK444 := n1_; have HB := n2_
         clear n0_ n1_ n2_
         (try clear hb)
         (try clear hb2)
         (try clear hk)
         (try clear hi)
         refine hK.out _ _ ⟨(blk_cell BK444.out 0).trans rfl, (blk_cell BK444.out 1).trans rfl, (blk_cell BK443.out 0).trans rfl, (blk_cell BK443.out 1).trans rfl, (blk_cell BK443.out 2).trans rfl, ((HB.out.cell (World.block_lt_of_cell? w _ hw448_0)).trans hw448_0), ((HB.out.cell (World.block_lt_of_cell? w _ hw449_0)).trans hw449_0)⟩ (fun hHeld => ?_)
         clear hK K
         refine nm_ ?_
         refine pu_ 3 20 23 15 ?_
         refine pu_ 4 21 23 31 ?_
         refine pu_ 5 22 23 63 ?_
         refine pu_ 6 23 23 127 ?_
         refine pu_ 8 25 23 383 ?_
         refine pu_ 9 26 23 895 ?_
         refine tk_ 7 24 23 1023 ?_ (hy := by rintro w' ⟨s0, s1, s2, s3, s4, s5, s6⟩; go_simp; with_reducible rfl)
         refine tk_ 10 27 23 2047 ?_ (hy := by rintro w' ⟨s0, s1, s2, s3, s4, s5, s6⟩; go_simp; with_reducible rfl)
         refine pu_ 11 28 23 4095 ?_
         refine tk_ 12 29 23 8191 ?_ (hy := by rintro w' ⟨s0, s1, s2, s3, s4, s5, s6⟩; go_simp; with_reducible rfl)
         refine pu_ 13 30 23 16383 ?_
         refine pu_ 14 31 23 32767 ?_
         refine pu_ 17 34 23 163839 ?_
         refine tk_ 15 32 23 196607 ?_ (hy := by rintro w' ⟨s0, s1, s2, s3, s4, s5, s6⟩; go_simp; with_reducible rfl)
         refine tk_ 16 33 23 262143 ?_ (hy := by rintro w' ⟨s0, s1, s2, s3, s4, s5, s6⟩; go_simp; with_reducible rfl)
         refine on_ 18 35 23 524287 (fun K hK => ?_)
         refine goes_ Try.func87 (by kernel_rfl) rfl #[.agg #[.slice A0_0 l0_0.length c0_0, .int .i64 a0_1, .int .i64 a0_2], .agg #[.slice (some ad446) l1_0.length c1_0, .int .i64 a1_1], .bool (rdOf false l1_0 (rd l2 0))] (by rfl) rfl rfl rs_ ?_
         with_reducible refine (impl_Night_torches.calls _ _ l0_0 a0_1 a0_2 _ _ l1_0 a1_1 (rdOf false l1_0 (rd l2 0)) t450 _ ?side1 ?side2 ?side3 ?side4 A22.out).mono ?_
         (case side1 => exact cs_ (Kd.C_below HR0_0.out HB.out))
         (case side2 => exact HC0_0.out)
         (case side3 => exact cs_ (Kd.C_below HR1_0.out HB.out))
         (case side4 => exact HC1_0.out)
         rintro e w25 ⟨rfl, hb⟩
         refine ⟨_, rfl, ?_⟩
         have n0_ := ak_ (blk_below (pk BK443.out) hb)
         have n1_ := ak_ (blk_below (pk BK444.out) hb)
         have n2_ := ak_ (bs_ bl_ hb)
         clear BK443 BK444 HB
         have BK443 := n0_; have BK444 := n1_; have HB := n2_
         clear n0_ n1_ n2_
         (try clear hb)
         (try clear hb2)
         (try clear hk)
         (try clear hi)
         refine hK.out _ _ ⟨(blk_cell BK444.out 0).trans rfl, (blk_cell BK444.out 1).trans rfl, (blk_cell BK443.out 0).trans rfl, (blk_cell BK443.out 1).trans rfl, (blk_cell BK443.out 2).trans rfl, ((HB.out.cell (World.block_lt_of_cell? w _ hw448_0)).trans hw448_0), ((HB.out.cell (World.block_lt_of_cell? w _ hw449_0)).trans hw449_0)⟩ (fun hHeld => ?_)
         clear hK K
         refine nm_ ?_
         refine pu_ 19 36 23 1048575 ?_
         refine pu_ 20 37 23 2097151 ?_
         refine pu_ 21 38 23 4194303 ?_
         refine pu_ 22 8 23 8388607 ?_
         refine done_ (done_of HT_.out (by kernel_rfl)) ?_
         try go_wp2
         go_ret
         exact ⟨rx_, bl_⟩
       ·
        rw [if_neg c18] at H
        exact absurd H (by simp)
      ·
       rw [if_neg c17] at H
       exact absurd H (by simp)
     ·
      rw [if_neg c16] at H
      exact absurd H (by simp)
   ·
    rw [if_neg c7] at H
    exact absurd H (by simp)
  ·
   rw [if_neg c6] at H
   exact absurd H (by simp)
 ·
  rw [if_neg c5] at H
  exact absurd H (by simp)
def sepK {α : Type} (e : Nat) (d : Kd α) : Kd (List α) where
 sz := 1
 E := e :: d.E
 K := (Kd.slice e d).K
 M := fun w base ok xs cs => ∃ v, cs = [v] ∧ Kd.S d e w base ok v xs
 K_len := (Kd.slice e d).K_len
 K_one := (Kd.slice e d).K_one
 K_below := (Kd.slice e d).K_below
 K_of_M := by
  rintro w base ok x cs ⟨v, rfl, h⟩
  exact (Kd.slice e d).K_of_M (base := base) (ok := ok) ⟨v, rfl, Kd.S_R h⟩
 M_mono := by
  rintro w base ok ok' x cs hok ⟨v, rfl, h⟩
  exact ⟨v, rfl, Kd.S_mono h hok⟩
 M_bound := by
  rintro w base ok x cs ⟨v, rfl, h⟩
  exact ⟨v, rfl, Kd.S_bound h⟩
 M_move := by
  rintro w w1 base ok x cs hm ⟨v, rfl, h⟩
  exact ⟨v, rfl, Kd.S_move h hm⟩
 M_lower := by
  rintro w base base' ok x cs hb ⟨v, rfl, h⟩
  exact ⟨v, rfl, Kd.S_lower h hb⟩
theorem sep_S {α : Type} {d : Kd α} {e e' base : Nat} {W : World} {ok : Nat → Prop} {v : Value} {xs : List (List α)} (h : Kd.S (sepK e d) e' W base ok v xs) : Kd.S (Kd.slice e d) e' W base ok v xs := by
 obtain ⟨f, h0, inner, ho, hr⟩ := h
 refine ⟨f, h0, inner, ho, hr.imp_ (fun p c hp => ?_)⟩
 obtain ⟨v, e_, hS⟩ := hp
 exact ⟨v, e_, Kd.S_R hS⟩
theorem row_lits {α : Type} (d : Kd α) {e base : Nat} {ok : Nat → Prop} {W : World} {xs : List α} {inner : List Value} (okj : Nat → Nat → Prop) (hl : inner.length = xs.length * d.sz) (hrep : ∀ j x, xs[j]? = some x → d.M W base (okj j) x ((inner.drop (j * d.sz)).take d.sz)) (hap : ∀ i j k, okj i k → okj j k → i = j) (hok : ∀ j k, okj j k → ok k) (hf : ok W.heap.size) (hb : base ≤ W.heap.size) (hm : xs.length ≤ 1000000) :
  Kd.S d e (W.alloc (.cells inner.toArray e)) base ok (.slice (some ⟨W.heap.size, 0, none⟩) xs.length xs.length) xs := by
 obtain ⟨f, hr⟩ := Kd.reps_tag (d := d) (w := W) (base := base) (ok := fun k => ok k ∧ k < W.heap.size) (fun j k => okj j k ∧ k < W.heap.size) (fun i j k h1 h2 => hap i j k h1.1 h2.1) (fun j k h => ⟨hok j k h.1, h.2⟩) hl (fun j x hx => d.M_mono (fun k hk => ⟨hk.1, hk.2.2.1⟩) (d.M_bound (hrep j x hx)))
 refine ⟨f, fun k hk => ?_, inner, ?_, hr.imp_ (fun p c hp => ?_)⟩
 ·have : W.heap.size = k := by simpa [Value.ownBlock] using hk
  rw [← this]; exact hf
 ·have h2 := World.ownsRow_lit (base := base) (e := e) (size := d.sz) W inner.toArray xs.length hb (by simp [maxLen]; omega) (by simpa using hl)
  rw [List.length_zipIdx]
  have h3 : (W.alloc (.cells inner.toArray e)).ownsRow base e d.sz (.slice (some ⟨W.heap.size, 0, none⟩) xs.length xs.length) xs.length inner := by simpa using h2
  exact h3
 ·refine (Kd.tag f d).M_mono (fun k hk => ⟨hk.1, fun e_ => ?_⟩) ((Kd.tag f d).M_move (fun k hk => (ba_ (Below.refl W.heap.size W) (.cells inner.toArray e)).block k hk.2) hp)
  have h3 : k = W.heap.size := by simpa [Value.ownBlock] using e_
  have := hk.2
  omega
theorem row_lit1 {α : Type} {d : Kd α} {e e' base z n c : Nat} {A : Option Addr} {W : World} {a : List α} (h : d.R e W base (fun k => z ≤ k) (.slice A n c) a) (hz : z ≤ W.heap.size) (hb : base ≤ W.heap.size) :
  Kd.S (Kd.slice e d) e' (W.alloc (.cells #[.slice A n c] e')) base (fun k => z ≤ k) (.slice (some ⟨W.heap.size, 0, none⟩) 1 1) [a] := by
 refine row_lits (Kd.slice e d) (xs := [a]) (inner := [.slice A n c]) (fun j k => j = 0 ∧ z ≤ k) rfl (fun j x hx => ?_) (fun i j k h1 h2 => h1.1.trans h2.1.symm) (fun j k h => h.2) hz hb (by simp)
 cases j with
 | zero =>
  obtain rfl : a = x := by simpa using hx
  exact ⟨_, rfl, Kd.R_mono h (fun k hk => ⟨rfl, hk⟩)⟩
 | succ j => simp at hx
theorem row_lit2 {α : Type} {d : Kd α} {e e' base z z2 n1 c1 n2 c2 : Nat} {A1 A2 : Option Addr} {W : World} {a b : List α} (h1 : d.R e W base (fun k => z ≤ k ∧ k < z2) (.slice A1 n1 c1) a) (h2 : d.R e W base (fun k => z2 ≤ k) (.slice A2 n2 c2) b) (hz : z ≤ z2) (hz2 : z2 ≤ W.heap.size) (hb : base ≤ W.heap.size) :
  Kd.S (Kd.slice e d) e' (W.alloc (.cells #[.slice A1 n1 c1, .slice A2 n2 c2] e')) base (fun k => z ≤ k) (.slice (some ⟨W.heap.size, 0, none⟩) 2 2) [a, b] := by
 refine row_lits (Kd.slice e d) (xs := [a, b]) (inner := [.slice A1 n1 c1, .slice A2 n2 c2]) (fun j k => (j = 0 ∧ z ≤ k ∧ k < z2) ∨ (j = 1 ∧ z2 ≤ k)) rfl (fun j x hx => ?_) (fun i j k h1 h2 => by omega) (fun j k h => by omega) (by omega) hb (by simp)
 match j with
 | 0 =>
  obtain rfl : a = x := by simpa using hx
  exact ⟨_, rfl, Kd.R_mono h1 (fun k hk => .inl ⟨rfl, hk⟩)⟩
 | 1 =>
  obtain rfl : b = x := by simpa using hx
  exact ⟨_, rfl, Kd.R_mono h2 (fun k hk => .inr ⟨rfl, hk⟩)⟩
 | j + 2 => simp at hx
structure AgW (s1 : Nat) (ws W : World) : Prop where
 sz : ws.heap.size ≤ W.heap.size
 at_ : ∀ k, s1 ≤ k → k < ws.heap.size → W.heap[k]? = ws.heap[k]?
theorem AgW.below {s1 : Nat} {ws W W1 : World} (h : AgW s1 ws W) (hb : Below W.heap.size W W1) : AgW s1 ws W1 := ⟨Nat.le_trans h.sz hb.size, fun k h1 h2 => (hb.block k (Nat.lt_of_lt_of_le h2 h.sz)).trans (h.at_ k h1 h2)⟩
theorem AgW.alloc {s1 : Nat} {ws W : World} (h : AgW s1 ws W) (o : Obj) : AgW s1 ws (W.alloc o) := h.below (ba_ (Below.refl _ _) o)
theorem AgW.grown {s1 : Nat} {ws W W1 : World} (h : AgW s1 ws W) {row : Option Nat} (hg : W.grownBy W1 row) (hr : ∀ k, row = some k → k < s1 ∨ ws.heap.size ≤ k) : AgW s1 ws W1 := by
 refine ⟨Nat.le_trans h.sz hg.size, fun k h1 h2 => (hg.block k (Nat.lt_of_lt_of_le h2 h.sz) (fun e => ?_)).trans (h.at_ k h1 h2)⟩
 have := hr k e.symm
 omega
theorem ro_get {ti ts s1 base gl cL : Nat} {ws : World} {ls : List (List Int)} (h : Kd.N (Kd.slice ti (Kd.int .i64)) ts ws base (fun k => s1 ≤ k) (.slice (some ⟨gl, 0, none⟩) ls.length cL) ls) (j : Nat) (hj : j < ls.length) :
  ∃ (Aj : Option Addr) (cj : Nat), (∀ W : World, AgW s1 ws W → W.cell? ⟨gl, j, none⟩ = some (.slice Aj (ls.getD j []).length cj) ∧ Kd.C (Kd.int .i64) W Aj (ls.getD j []).length (ls.getD j [])) ∧ (ls.getD j []).length ≤ cj := by
 obtain ⟨c, -, hFK, hcc, -⟩ := Kd.N_elem h [] (j : Int) (by omega) (by omega)
 rw [Int.toNat_natCast] at hFK hcc
 obtain ⟨Aj, cj, rfl, hle, hF⟩ := Kd.FK_slice_open hFK
 have h0 := hcc 0 _ rfl
 rw [show (Kd.slice ti (Kd.int .i64)).sz = 1 from rfl, Nat.mul_one, Nat.add_zero] at h0
 have hg1 : s1 ≤ gl := h.1 gl (by simp [Value.ownBlock])
 have hg2 : gl < ws.heap.size := Kd.N_lt h gl (by simp [Value.ownBlock])
 refine ⟨Aj, cj, fun W hW => ⟨?_, hF W (fun k hk hlt => hW.at_ k hk.1 hlt)⟩, hle⟩
 rw [← h0]
 simp [World.cell?, hW.at_ gl hg1 hg2]
def nrIn (k : Nat) (ts : List Int) (se tq : Int) (ov : List Bool) (t : Int) (a : List Int) : List (List Int) → List (List (List Int)) → Option (List (List (List Int)))
 | [], acc => some acc
 | b :: bs, acc => if 1 < tq then (impl_Night_together.f k ts se tq ov t a b).bind fun q => if q = true then (if acc.length < 1000000 ∧ b.length < 1000000 then nrIn k ts se tq ov t a bs (acc ++ [[a, b]]) else none) else nrIn k ts se tq ov t a bs acc else nrIn k ts se tq ov t a bs acc
def nrOut (k : Nat) (ts : List Int) (se tq : Int) (ov : List Bool) (t : Int) : List (List Int) → List (List (List Int)) → Option (List (List (List Int)))
 | [], acc => some acc
 | a :: ls, acc => if acc.length < 1000000 ∧ a.length < 1000000 then (nrIn k ts se tq ov t a ls (acc ++ [[a]])).bind (nrOut k ts se tq ov t ls) else none
def impl_Night_rounds.f (k : Nat) (ts : List Int) (se tq : Int) (ov : List Bool) (t : Int) : Option (List (List (List Int))) := (impl_Night_groups.f k ts se tq ov t).bind fun ls => if ls.length < 1000000 then nrOut k ts se tq ov t ls [] else none
theorem impl_Night_rounds.calls (k : Nat) (At : Option Addr) (ct : Nat) (ts : List Int) (se tq : Int) (Ao : Option Addr) (co : Nat) (ov : List Bool) (t : Int) (r : List (List (List Int))) (w : World)
  (ht : Kd.C (Kd.int .i64) w At ts.length ts) (hct : ts.length ≤ ct) (ho : Kd.C Kd.bool w Ao ov.length ov) (hco : ov.length ≤ co) (h : impl_Night_rounds.f k ts se tq ov t = some r) :
  Calls Try.prog 42 #[.agg #[.slice At ts.length ct, .int .i64 se, .int .i64 tq], .agg #[.slice Ao ov.length co, .int .i64 t]] w fun e w' => ∃ v0_ : Value, e = .returned v0_ ∧ Kd.S (sepK 22 (Kd.slice 3 (Kd.int .i64))) 57 w' w.heap.size (fun _ => True) v0_ r ∧ Below w.heap.size w w' := by
 have hu := Try.underlying33
 have hu2 := Try.underlying35
 unfold impl_Night_rounds.f at h
 obtain ⟨ls, h1, h⟩ := Option.bind_eq_some_iff.mp h
 by_cases hls : ls.length < 1000000
 rotate_left
 ·rw [if_neg hls] at h; exact absurd h (by simp)
 rw [if_pos hls] at h
 have AG1 := ak_ fun (W : World) (hb : Below w.heap.size w W) => impl_Night_groups.calls k At ct ts se tq Ao co ov t ls W (Kd.C_below ht hb) hct (Kd.C_below ho hb) hco h1
 have ATO := ak_ fun (a b : List Int) (q : Bool) (hq : impl_Night_together.f k ts se tq ov t a b = some q) (W : World) (hb : Below w.heap.size w W) (Aa : Option Addr) (ca : Nat) (Ab : Option Addr) (cb : Nat) (hA : Kd.C (Kd.int .i64) W Aa a.length a) (hca : a.length ≤ ca) (hB : Kd.C (Kd.int .i64) W Ab b.length b) (hcb : b.length ≤ cb) => impl_Night_together.calls k At ct ts se tq Ao co ov t Aa ca a Ab cb b q W (Kd.C_below ht hb) hct (Kd.C_below ho hb) hco hA hca hB hcb hq
 have HLS := ak_ hls
 have H := ak_ h
 have HB := ak_ (Below.refl w.heap.size w)
 clear h h1 hls ht hct ho hco
 go_enter Try.func42, Try.ntmps42
 go_wp2_with (first | ((with_reducible refine gate_dst (N := 2) rfl ?_); refine bx_ 2 #[.slice At ts.length ct, .int .i64 se, .int .i64 tq] 33 ?_; intro gb2 hg w2 hbox hb; have nb_ := ak_ (bs_ (bb_ HB.out) hb); have nc_ := ak_ hbox; have nd_ := ak_ ((by rw [hg]; exact (bz_ (bb_ HB.out)) : w.heap.size ≤ gb2)); clear HB hb hbox hg; have HB := nb_; have BK2 := nc_; have GE2 := nd_; clear nb_ nc_ nd_; have hz2_0 := (blk_cell BK2.out 0); have hf2_0 := (blk_frozen BK2.out 0); simp at hz2_0; have hz2_1 := (blk_cell BK2.out 1); have hf2_1 := (blk_frozen BK2.out 1); simp at hz2_1; have hz2_2 := (blk_cell BK2.out 2); have hf2_2 := (blk_frozen BK2.out 2); simp at hz2_2; skip) | ((with_reducible refine gate_dst (N := 3) rfl ?_); refine bx_ 3 #[.slice Ao ov.length co, .int .i64 t] 35 ?_; intro gb3 hg w3 hbox hb; have n0_ := ak_ (blk_below (pk BK2.out) hb); have m0_ := ak_ ((by rw [hg]; exact Nat.ne_of_lt (blk_lt (pk BK2.out)) : gb2 ≠ gb3)); have nb_ := ak_ (bs_ (bb_ HB.out) hb); have nc_ := ak_ hbox; have nd_ := ak_ ((by rw [hg]; exact (bz_ (bb_ HB.out)) : w.heap.size ≤ gb3)); clear HB hb hbox hg; clear BK2; have BK2 := n0_; have NE2_3 := m0_; have HB := nb_; have BK3 := nc_; have GE3 := nd_; clear nb_ nc_ nd_ n0_ m0_; have hz3_0 := (blk_cell BK3.out 0); have hf3_0 := (blk_frozen BK3.out 0); simp at hz3_0; have hz3_1 := (blk_cell BK3.out 1); have hf3_1 := (blk_frozen BK3.out 1); simp at hz3_1; have hq2_0 := blk_cell (ka_ BK2.out (.cells #[] 57)) 0; simp at hq2_0; have hq2_1 := blk_cell (ka_ BK2.out (.cells #[] 57)) 1; simp at hq2_1; have hq2_2 := blk_cell (ka_ BK2.out (.cells #[] 57)) 2; simp at hq2_2; have hq3_0 := blk_cell (ka_ BK3.out (.cells #[] 57)) 0; simp at hq3_0; have hq3_1 := blk_cell (ka_ BK3.out (.cells #[] 57)) 1; simp at hq3_1; skip) | (go_at_call 69; refine (AG1.out _ (bb_ HB.out)).mono ?_; rintro e ws ⟨v14, rfl, hn, hb⟩; obtain ⟨Al, cL, rfl⟩ := Kd.N_slice hn; obtain ⟨s1, hs1⟩ : ∃ s, s = (w3.alloc (.cells #[] 57)).heap.size := ⟨_, rfl⟩; rw [← hs1] at hn; have HL := ak_ hn; have AG := ak_ (AgW.mk (s1 := s1) (ws := ws) (W := ws) (Nat.le_refl _) (fun _ _ _ => rfl)); replace BK2 := ak_ (blk_below (pk BK2.out) hb); replace BK3 := ak_ (blk_below (pk BK3.out) hb); have OUT := ak_ (Kd.S_mono (ok' := fun k_ => k_ < s1 ∨ ws.heap.size ≤ k_) (Kd.S_below (Kd.S_bound (gp_lit0 (sepK 22 (Kd.slice 3 (Kd.int .i64))) 57 w3 (bz_ HB.out))) hb) (fun k_ hk_ => .inl (by rw [hs1]; exact hk_.2.2.1))); replace HB := ak_ (bs_ (bb_ HB.out) hb); clear hb hn hs1; clear AG1 hq2_0 hq2_1 hq2_2 hq3_0 hq3_1 hz2_0 hz2_1 hz2_2 hf2_0 hf2_1 hf2_2 hz3_0 hz3_1 hf3_0 hf3_1; generalize Value.slice (some ⟨w3.heap.size, 0, none⟩) 0 0 = v5 at OUT ⊢))
 go_loopg [5, 17] ls.length (fun gg v5 v17 wr => ∃ (j : Nat) (acc : List (List (List Int))), v17 = .int .i64 (j : Int) ∧ Aside0 (j ≤ ls.length ∧ ls.length - j ≤ gg) ∧ Aside0 (nrOut k ts se tq ov t (ls.drop j) acc = some r) ∧ Aside0 (Kd.S (sepK 22 (Kd.slice 3 (Kd.int .i64))) 57 wr w.heap.size (fun k_ => k_ < s1 ∨ ws.heap.size ≤ k_) v5 acc) ∧ Aside0 (AgW s1 ws wr) ∧ Aside0 (wr.heap[gb2]? = some (.cells #[.slice At ts.length ct, .int .i64 se, .int .i64 tq] 33 (0, 0))) ∧ Aside0 (wr.heap[gb3]? = some (.cells #[.slice Ao ov.length co, .int .i64 t] 35 (0, 0))) ∧ Aside0 (Below w.heap.size w wr))
 case atStart => exact ⟨0, [], rfl, ⟨⟨Nat.zero_le _, Nat.le_refl _⟩⟩, H, ⟨Kd.pS OUT.out⟩, ⟨(by repeat (first | exact AG.out | refine AgW.alloc ?_ _))⟩, ⟨pk BK2.out⟩, ⟨pk BK3.out⟩, ⟨(bb_ HB.out)⟩⟩
 case round =>
  clear H OUT AG BK2 BK3 HB
  obtain ⟨j, acc, rfl, HJ, H, OUT, AG, BK2, BK3, HB⟩ := hrel
  by_cases hj : j < ls.length
  ·have j1 : decide ((j : Int) < (ls.length : Int)) = true := decide_eq_true (by omega)
   have j1n : decide (j < ls.length) = true := decide_eq_true hj
   have j0p : ((0 : Int) ≤ (j : Int)) = True := eq_true (by omega)
   have j1p : ((j : Int) < (ls.length : Int)) = True := eq_true (by omega)
   obtain ⟨jn, hjn⟩ : ∃ x : Int, x = ((j + 1 : Nat) : Int) := ⟨_, rfl⟩
   have c19 : ((0 : Int) ≤ jn) = True := eq_true (by omega)
   have c20 : (jn ≤ (ls.length : Int)) = True := eq_true (by omega)
   have c19b : decide ((0 : Int) ≤ jn) = true := decide_eq_true (by omega)
   have c20b : decide (jn ≤ (ls.length : Int)) = true := decide_eq_true (by omega)
   obtain ⟨gl, cl2, eAl, -⟩ := Kd.N_form HL.out (by omega)
   injection eAl with eAl _ ecl
   subst eAl
   subst ecl
   obtain ⟨Aa, ca, hcA, hla⟩ := ro_get HL.out j hj
   obtain ⟨a, ha⟩ : ∃ a, a = ls.getD j [] := ⟨_, rfl⟩
   rw [← ha] at hcA hla
   have hlj : ls[j] = a := by rw [ha, List.getD_eq_getElem?_getD, List.getElem?_eq_getElem hj]; rfl
   have h := H.out
   rw [List.drop_eq_getElem_cons hj, hlj] at h
   simp only [nrOut] at h
   by_cases hac : acc.length < 1000000 ∧ a.length < 1000000
   rotate_left
   ·rw [if_neg hac] at h; exact absurd h (by simp)
   rw [if_pos hac] at h
   have hcell := (hcA wr AG.out).1
   have ACA := ak_ fun (W : World) (hw : AgW s1 ws W) => slices_Clone_int_int.calls Aa ca a a W (hcA W hw).2 hla (by unfold slices_Clone_int_int.f; rw [if_pos (by omega)])
   have HCA := ak_ hcA
   have HLA := ak_ hla
   have HH := ak_ h
   have HACC := ak_ hac
   have HJJ := ak_ hj
   have hw19 : IntKind.i64.wrap ((j : Int) + 1) = jn := by have := HLS.out; rw [IntWalk.i64_in _ ⟨by omega, by omega⟩]; omega
   obtain ⟨i27, hi27, _, hsz27, _⟩ := info_parts info22
   have hcut0 := cut_from (P := Try.prog) 57 22 .i64 Try.underlying57 hi27 1 hsz27 (some ⟨gl, 0, none⟩) ls.length cL jn (by omega) (by omega)
   obtain ⟨A31, hA31⟩ : ∃ A1, A1 = (if cL = jn.toNat then (some ⟨gl, 0, none⟩ : Option Addr) else (some (⟨gl, 0, none⟩ : Addr)).map (·.add (jn.toNat * 1))) := ⟨_, rfl⟩
   obtain ⟨c31, hc31⟩ : ∃ c1, c1 = cL - jn.toNat := ⟨_, rfl⟩
   obtain ⟨m31, hm31⟩ : ∃ m1, m1 = ls.length - (j + 1) := ⟨_, rfl⟩
   have hcut : ∀ W : World, (Instr.slice 57 (.slice (some ⟨gl, 0, none⟩) ls.length cL) (some (.int .i64 jn)) none none).run Try.prog W = .ok (.slice A31 m31 c31) W := by
    intro W
    rw [hcut0 W, ← hA31, ← hc31, hm31, show jn.toNat = j + 1 from by omega]
   have HA31 := ak_ (show m31 = 0 ∨ A31 = some ⟨gl, j + 1, none⟩ from by
    rcases Nat.eq_zero_or_pos m31 with h0 | h0
    ·exact .inl h0
    ·right
     have h2 := (Kd.N_reads' HL.out).2.1
     rw [hA31, if_neg (by omega), show jn.toNat = j + 1 from by omega]
     simp [Addr.add])
   have HM31 := ak_ hm31
   have HJN := ak_ hjn
   have HAS := ak_ (Kd.S_mono (Kd.S_bound OUT.out) (fun k_ hk_ => (⟨hk_.1, hk_.2.2.1⟩ : (k_ < s1 ∨ ws.heap.size ≤ k_) ∧ k_ < wr.heap.size)))
   obtain ⟨z, hz⟩ : ∃ z, z = wr.heap.size := ⟨_, rfl⟩
   have HZ := ak_ (show ws.heap.size ≤ z ∧ w.heap.size ≤ z from by rw [hz]; exact ⟨AG.out.sz, bz_ HB.out⟩)
   rw [← hz] at HAS
   have HZE := ak_ hz
   clear h H hac hj hlj ha hcA hla OUT hcut0 hA31 hc31 hm31 hsz27 hi27 hz hjn
   have OUT := HAS
   clear HAS
   go_wp2_with (first | (go_at_call 70; refine (ACA.out _ (by repeat (first | exact AG.out | refine AgW.alloc ?_ _))).mono ?_; rintro e w24 ⟨v24, rfl, ho, hb⟩; obtain ⟨Aw24, cw24, rfl⟩ := Kd.R_slice ho; have CL1 := ak_ (Kd.R_mono (ok' := fun k_ => z ≤ k_) (Kd.R_lower (Kd.R_bound ho) (bz_ (bb_ HB.out))) (fun k_ hk_ => by rw [HZE.out]; exact hk_.2.1)); have HZ24 := ak_ (show z ≤ w24.heap.size from by rw [HZE.out]; exact hb.size); clear hcell; replace BK2 := ak_ (blk_below (pk BK2.out) hb); replace BK3 := ak_ (blk_below (pk BK3.out) hb); replace AG := ak_ (AgW.below (by repeat (first | exact AG.out | refine AgW.alloc ?_ _)) hb); replace OUT := ak_ (Kd.S_below (Kd.pS OUT.out) hb); replace HB := ak_ (bs_ (bb_ HB.out) hb); clear hb ho) | ((with_reducible refine gate_builtin (b := .append) (xs := #[.tmp 22, .tmp 26]) rfl ?_); at_builtin; refine Kd.S_append (sepK 22 (Kd.slice 3 (Kd.int .i64))) (w0 := w) w.heap.size rfl (.tmp 22) (.tmp 26) 30 57 (.slice none 0 0) 24 rfl Try.underlying30 info57 rfl (by decide) (by omega) u5 acc [a] [.slice (some ⟨w24.heap.size, 0, none⟩) 1 1] (fun k_ => k_ < s1 ∨ ws.heap.size ≤ k_) (fun k_ => z ≤ k_) rfl (congrArg (fun z_ => Value.slice (some ⟨z_, 0, none⟩) 1 1) (Array.size_push ..).symm) ?aP ?aK ?aF ?aO ?aB ?aS ?aL ?_; (case aP => exact ⟨_, rfl, row_lit1 CL1.out HZ24.out (Nat.le_trans HZ.out.2 HZ24.out)⟩); (case aK => (intro k_ hk_; exact ⟨.inr (Nat.le_trans HZ.out.1 hk_), fun e_ => Nat.not_le.2 ((Kd.S_R OUT.out).1 k_ e_.symm).2 hk_⟩)); (case aF => (intro k_ hk_; exact .inr (Nat.le_trans (AgW.sz (AgW.alloc AG.out _)) hk_))); (case aO => exact Kd.S_mono (Kd.pS OUT.out) (fun k_ hk_ => ⟨hk_.1, Nat.not_le.2 hk_.2⟩)); (case aB => exact (bb_ HB.out)); (case aS => exact bz_ (bb_ HB.out)); (case aL => have := HACC.out; omega); intro v36 w36 ho hb hg hat; replace BK2 := ak_ (blk_grown (pk BK2.out) hg (Kd.S_ne OUT.out BK2.out (by decide))); replace BK3 := ak_ (blk_grown (pk BK3.out) hg (Kd.S_ne OUT.out BK3.out (by decide))); replace AG := ak_ (AgW.grown (AgW.alloc AG.out _) hg (fun k_ hk_ => ((Kd.S_R OUT.out).1 k_ hk_).1)); replace HB := ak_ (hb); replace OUT := ak_ (ho); clear hg hat hb ho CL1 HZ24))
   go_loopg [5, 33] m31 (fun gg v5 v33 wr => ∃ (i : Nat) (acc : List (List (List Int))), v33 = .int .i64 (i : Int) ∧ Aside0 (i ≤ m31 ∧ m31 - i ≤ gg) ∧ Aside0 ((nrIn k ts se tq ov t a (ls.drop (j + 1 + i)) acc).bind (nrOut k ts se tq ov t (ls.drop (j + 1))) = some r) ∧ Aside0 (Kd.S (sepK 22 (Kd.slice 3 (Kd.int .i64))) 57 wr w.heap.size (fun k_ => k_ < s1 ∨ ws.heap.size ≤ k_) v5 acc) ∧ Aside0 (AgW s1 ws wr) ∧ Aside0 (wr.heap[gb2]? = some (.cells #[.slice At ts.length ct, .int .i64 se, .int .i64 tq] 33 (0, 0))) ∧ Aside0 (wr.heap[gb3]? = some (.cells #[.slice Ao ov.length co, .int .i64 t] 35 (0, 0))) ∧ Aside0 (Below w.heap.size w wr))
   case atStart => exact ⟨0, acc ++ [[a]], rfl, ⟨⟨Nat.zero_le _, Nat.le_refl _⟩⟩, HH, ⟨Kd.pS OUT.out⟩, ⟨(by repeat (first | exact AG.out | refine AgW.alloc ?_ _))⟩, ⟨pk BK2.out⟩, ⟨pk BK3.out⟩, ⟨(bb_ HB.out)⟩⟩
   case round =>
    clear HH OUT AG BK2 BK3 HB HZ HZE HACC hcut
    clear j1 j1n j0p j1p c19 c20 c19b c20b
    obtain ⟨i, acc, rfl, HI, H, OUT, AG, BK2, BK3, HB⟩ := hrel
    by_cases hi : i < m31
    ·have i1 : decide ((i : Int) < (m31 : Int)) = true := decide_eq_true (by omega)
     have i1n : decide (i < m31) = true := decide_eq_true hi
     have i0p : ((0 : Int) ≤ (i : Int)) = True := eq_true (by omega)
     have i1p : ((i : Int) < (m31 : Int)) = True := eq_true (by omega)
     obtain rfl : A31 = some ⟨gl, j + 1, none⟩ := HA31.out.resolve_left (by omega)
     have hjl : j + 1 + i < ls.length := by have := HM31.out; omega
     obtain ⟨Ab, cb, hcB, hlb⟩ := ro_get HL.out (j + 1 + i) hjl
     obtain ⟨b, hb⟩ : ∃ b, b = ls.getD (j + 1 + i) [] := ⟨_, rfl⟩
     rw [← hb] at hcB hlb
     have hlj : ls[j + 1 + i] = b := by rw [hb, List.getD_eq_getElem?_getD, List.getElem?_eq_getElem hjl]; rfl
     have h := H.out
     rw [List.drop_eq_getElem_cons hjl, hlj] at h
     simp only [nrIn] at h
     have hcell := (hcB wr AG.out).1
     have hw33 : IntKind.i64.wrap ((i : Int) + 1) = ((i + 1 : Nat) : Int) := by have := HLS.out; rw [IntWalk.i64_in _ ⟨by omega, by omega⟩]; omega
     have HCB := ak_ hcB
     have HLB := ak_ hlb
     have HII := ak_ hi
     have hq2_2 := blk_cell BK2.out 2
     simp at hq2_2
     by_cases ht1 : 1 < tq
     ·rw [if_pos ht1] at h
      have c31b0 : decide (1 < tq) = true := decide_eq_true ht1
      obtain ⟨b1, h, h2⟩ := Option.bind_eq_some_iff.mp h
      obtain ⟨q, hq, h⟩ := Option.bind_eq_some_iff.mp h
      have AT2 := ak_ (ATO.out a b q hq)
      have hq2_0 := blk_cell BK2.out 0
      have hq2_1 := blk_cell BK2.out 1
      have hq3_0 := blk_cell BK3.out 0
      have hq3_1 := blk_cell BK3.out 1
      simp at hq2_0
      simp at hq2_1
      simp at hq3_0
      simp at hq3_1
      cases q with
      | false =>
       have HH := ak_ (show (nrIn k ts se tq ov t a (ls.drop (j + 1 + (i + 1))) acc).bind (nrOut k ts se tq ov t (ls.drop (j + 1))) = some r from Option.bind_eq_some_iff.mpr ⟨b1, h, h2⟩)
       clear h h2 hq H hcB hlb hi hjl hlj hb ht1
       go_wp2_with (first | (go_at_call 71; refine (AT2.out _ (bb_ HB.out) Aa ca Ab cb (HCA.out _ (by repeat (first | exact AG.out | refine AgW.alloc ?_ _))).2 HLA.out (HCB.out _ (by repeat (first | exact AG.out | refine AgW.alloc ?_ _))).2 HLB.out).mono ?_; rintro e w45 ⟨rfl, hb⟩; clear hq2_0 hq2_1 hq2_2 hq3_0 hq3_1 hcell AT2; replace BK2 := ak_ (blk_below (pk BK2.out) hb); replace BK3 := ak_ (blk_below (pk BK3.out) hb); replace AG := ak_ (AgW.below (by repeat (first | exact AG.out | refine AgW.alloc ?_ _)) hb); replace OUT := ak_ (Kd.S_below (Kd.pS OUT.out) hb); replace HB := ak_ (bs_ (bb_ HB.out) hb); clear hb))
       go_roundg (m31 - (i + 1))
       case measure => have := HI.out; have := HII.out; omega
       case rel => exact ⟨i + 1, acc, (by first | rfl | (simp; done)), ⟨⟨by have := HII.out; omega, Nat.le_refl _⟩⟩, HH, ⟨Kd.pS OUT.out⟩, ⟨(by repeat (first | exact AG.out | refine AgW.alloc ?_ _))⟩, ⟨pk BK2.out⟩, ⟨pk BK3.out⟩, ⟨(bb_ HB.out)⟩⟩
      | true =>
       rw [if_pos rfl] at h
       by_cases hac : acc.length < 1000000 ∧ b.length < 1000000
       rotate_left
       ·rw [if_neg hac] at h; exact absurd h (by simp)
       rw [if_pos hac] at h
       have HH := ak_ (show (nrIn k ts se tq ov t a (ls.drop (j + 1 + (i + 1))) (acc ++ [[a, b]])).bind (nrOut k ts se tq ov t (ls.drop (j + 1))) = some r from Option.bind_eq_some_iff.mpr ⟨b1, h, h2⟩)
       have ACB := ak_ fun (W : World) (hw : AgW s1 ws W) => slices_Clone_int_int.calls Ab cb b b W (hcB W hw).2 hlb (by unfold slices_Clone_int_int.f; rw [if_pos (by omega)])
       have HACC := ak_ hac
       clear h h2 hq H hcB hlb hi hjl hlj hb ht1 hac
       go_upto_region 10 with (first | (go_at_call 71; refine (AT2.out _ (bb_ HB.out) Aa ca Ab cb (HCA.out _ (by repeat (first | exact AG.out | refine AgW.alloc ?_ _))).2 HLA.out (HCB.out _ (by repeat (first | exact AG.out | refine AgW.alloc ?_ _))).2 HLB.out).mono ?_; rintro e w45 ⟨rfl, hb⟩; clear hq2_0 hq2_1 hq2_2 hq3_0 hq3_1 hcell AT2; replace BK2 := ak_ (blk_below (pk BK2.out) hb); replace BK3 := ak_ (blk_below (pk BK3.out) hb); replace AG := ak_ (AgW.below (by repeat (first | exact AG.out | refine AgW.alloc ?_ _)) hb); replace OUT := ak_ (Kd.S_below (Kd.pS OUT.out) hb); replace HB := ak_ (bs_ (bb_ HB.out) hb); clear hb))
       have HAS := ak_ (Kd.S_mono (Kd.S_bound OUT.out) (fun k_ hk_ => (⟨hk_.1, hk_.2.2.1⟩ : (k_ < s1 ∨ ws.heap.size ≤ k_) ∧ k_ < w45.heap.size)))
       obtain ⟨z, hz⟩ : ∃ z, z = w45.heap.size := ⟨_, rfl⟩
       have HZ := ak_ (show ws.heap.size ≤ z ∧ w.heap.size ≤ z from by rw [hz]; exact ⟨AG.out.sz, bz_ HB.out⟩)
       rw [← hz] at HAS
       have HZE := ak_ hz
       clear OUT hz
       have OUT := HAS
       clear HAS
       go_wp2_with (first | (go_at_call 70; refine (ACA.out _ (by repeat (first | exact AG.out | refine AgW.alloc ?_ _))).mono ?_; rintro e w49 ⟨v49, rfl, ho, hb⟩; obtain ⟨Aw49, cw49, rfl⟩ := Kd.R_slice ho; have CL1 := ak_ (Kd.R_mono (ok' := fun k_ => z ≤ k_ ∧ k_ < w49.heap.size) (Kd.R_lower (Kd.R_bound ho) (bz_ (bb_ HB.out))) (fun k_ hk_ => ⟨by rw [HZE.out]; exact hk_.2.1, hk_.2.2.1⟩)); have HZ49 := ak_ (show z ≤ w49.heap.size from by rw [HZE.out]; exact hb.size); replace BK2 := ak_ (blk_below (pk BK2.out) hb); replace BK3 := ak_ (blk_below (pk BK3.out) hb); replace AG := ak_ (AgW.below (by repeat (first | exact AG.out | refine AgW.alloc ?_ _)) hb); replace OUT := ak_ (Kd.S_below (Kd.pS OUT.out) hb); replace HB := ak_ (bs_ (bb_ HB.out) hb); clear hb ho ACA) | (go_at_call 70; refine (ACB.out _ (by repeat (first | exact AG.out | refine AgW.alloc ?_ _))).mono ?_; rintro e w51 ⟨v51, rfl, ho, hb⟩; obtain ⟨Aw51, cw51, rfl⟩ := Kd.R_slice ho; have CL2 := ak_ (Kd.R_mono (ok' := fun k_ => w49.heap.size ≤ k_) (Kd.R_lower (Kd.R_bound ho) (bz_ (bb_ HB.out))) (fun k_ hk_ => hk_.2.1)); have HZ51 := ak_ (show w49.heap.size ≤ w51.heap.size from hb.size); replace BK2 := ak_ (blk_below (pk BK2.out) hb); replace BK3 := ak_ (blk_below (pk BK3.out) hb); replace AG := ak_ (AgW.below (by repeat (first | exact AG.out | refine AgW.alloc ?_ _)) hb); replace OUT := ak_ (Kd.S_below (Kd.pS OUT.out) hb); replace HB := ak_ (bs_ (bb_ HB.out) hb); replace CL1 := ak_ (Kd.R_below CL1.out hb); clear hb ho ACB) | ((with_reducible refine gate_builtin (b := .append) (xs := #[.tmp 47, .tmp 53]) rfl ?_); at_builtin; refine Kd.S_append (sepK 22 (Kd.slice 3 (Kd.int .i64))) (w0 := w) w.heap.size rfl (.tmp 47) (.tmp 53) 30 57 (.slice none 0 0) 24 rfl Try.underlying30 info57 rfl (by decide) (by omega) u5 acc [a, b] [.slice (some ⟨w51.heap.size, 0, none⟩) 2 2] (fun k_ => k_ < s1 ∨ ws.heap.size ≤ k_) (fun k_ => z ≤ k_) rfl (congrArg (fun z_ => Value.slice (some ⟨z_, 0, none⟩) 1 1) (Array.size_push ..).symm) ?aP ?aK ?aF ?aO ?aB ?aS ?aL ?_; (case aP => exact ⟨_, rfl, row_lit2 CL1.out CL2.out HZ49.out HZ51.out (Nat.le_trans HZ.out.2 (Nat.le_trans HZ49.out HZ51.out))⟩); (case aK => (intro k_ hk_; exact ⟨.inr (Nat.le_trans HZ.out.1 hk_), fun e_ => Nat.not_le.2 ((Kd.S_R OUT.out).1 k_ e_.symm).2 hk_⟩)); (case aF => (intro k_ hk_; exact .inr (Nat.le_trans (AgW.sz (AgW.alloc AG.out _)) hk_))); (case aO => exact Kd.S_mono (Kd.pS OUT.out) (fun k_ hk_ => ⟨hk_.1, Nat.not_le.2 hk_.2⟩)); (case aB => exact (bb_ HB.out)); (case aS => exact bz_ (bb_ HB.out)); (case aL => have := HACC.out; omega); intro v36 w36 ho hb hg hat; replace BK2 := ak_ (blk_grown (pk BK2.out) hg (Kd.S_ne OUT.out BK2.out (by decide))); replace BK3 := ak_ (blk_grown (pk BK3.out) hg (Kd.S_ne OUT.out BK3.out (by decide))); replace AG := ak_ (AgW.grown (AgW.alloc AG.out _) hg (fun k_ hk_ => ((Kd.S_R OUT.out).1 k_ hk_).1)); replace HB := ak_ (hb); replace OUT := ak_ (ho); clear hg hat hb ho CL1 CL2 HZ49 HZ51))
       go_roundg (m31 - (i + 1))
       case measure => have := HI.out; have := HII.out; omega
       case rel => exact ⟨i + 1, acc ++ [[a, b]], (by first | rfl | (simp; done)), ⟨⟨by have := HII.out; omega, Nat.le_refl _⟩⟩, HH, ⟨Kd.pS OUT.out⟩, ⟨(by repeat (first | exact AG.out | refine AgW.alloc ?_ _))⟩, ⟨pk BK2.out⟩, ⟨pk BK3.out⟩, ⟨(bb_ HB.out)⟩⟩
     ·rw [if_neg ht1] at h
      have c31b0 : decide (1 < tq) = false := decide_eq_false ht1
      have HH := ak_ (show (nrIn k ts se tq ov t a (ls.drop (j + 1 + (i + 1))) acc).bind (nrOut k ts se tq ov t (ls.drop (j + 1))) = some r from h)
      clear h H hcB hlb hi hjl hlj hb ht1
      go_wp2
      go_roundg (m31 - (i + 1))
      case measure => have := HI.out; have := HII.out; omega
      case rel => exact ⟨i + 1, acc, (by first | rfl | (simp; done)), ⟨⟨by have := HII.out; omega, Nat.le_refl _⟩⟩, HH, ⟨Kd.pS OUT.out⟩, ⟨(by repeat (first | exact AG.out | refine AgW.alloc ?_ _))⟩, ⟨pk BK2.out⟩, ⟨pk BK3.out⟩, ⟨(bb_ HB.out)⟩⟩
    ·have i1 : decide ((i : Int) < (m31 : Int)) = false := decide_eq_false (by omega)
     have i1n : decide (i < m31) = false := decide_eq_false hi
     have h := H.out
     rw [List.drop_of_length_le (by have := HM31.out; omega)] at h
     have HH := ak_ (show nrOut k ts se tq ov t (ls.drop (j + 1)) acc = some r from h)
     clear h H hi
     go_wp2
     go_roundg (ls.length - (j + 1))
     case measure => have := HJ.out; have := HJJ.out; omega
     case rel => exact ⟨j + 1, acc, (by rw [HJN.out]), ⟨⟨by have := HJJ.out; omega, Nat.le_refl _⟩⟩, HH, ⟨Kd.pS OUT.out⟩, ⟨(by repeat (first | exact AG.out | refine AgW.alloc ?_ _))⟩, ⟨pk BK2.out⟩, ⟨pk BK3.out⟩, ⟨(bb_ HB.out)⟩⟩
  ·have j1 : decide ((j : Int) < (ls.length : Int)) = false := decide_eq_false (by omega)
   have j1n : decide (j < ls.length) = false := decide_eq_false hj
   have h := H.out
   rw [List.drop_of_length_le (by omega)] at h
   obtain rfl : acc = r := Option.some.inj h
   clear h H hj
   go_wp2
   first | go_ret | go_ret2
   exact ⟨_, rfl, Kd.S_mono (Kd.pS OUT.out) (fun _ _ => trivial), (bb_ HB.out)⟩
def impl_bit.f (a0 : Bool) : Option (Int) := if a0 = true then (some 1) else (some 0)
theorem impl_bit.calls (a0 : Bool) (r : Int) (w : World) (h : impl_bit.f a0 = some r) :
  Calls Try.prog 81 #[.bool a0] w fun e w' => e = .returned (.int .i64 r) ∧ Drawn0 w w' := by
 have H : (if a0 = true then (some 1) else (some 0)) = some r := h
 clear h
 by_cases c2 : a0 = true
 ·subst c2
  have H1 : (some 1) = some r := by rw [if_pos rfl] at H; exact H
  clear H
  have H := H1
  clear H1
  obtain rfl := Option.some.inj H
  go_enter Try.func81, Try.ntmps81
  go_wp2
  go_ret
  exact ⟨ry_, by repeat (first | exact Drawn0.refl _ | apply Drawn0.step)⟩
 ·replace c2 := Bool.eq_false_iff.mpr c2
  subst c2
  have H1 : (some 0) = some r := by rw [if_neg (show ¬ (false = true) by decide)] at H; exact H
  clear H
  have H := H1
  clear H1
  obtain rfl := Option.some.inj H
  go_enter Try.func81, Try.ntmps81
  go_wp2
  go_ret
  exact ⟨ry_, by repeat (first | exact Drawn0.refl _ | apply Drawn0.step)⟩
def impl_State_code.l0 : Nat → Int → List Bool → Int → Int → Option (Int)
 | 0, _, _, _, _ => none
 | k + 1, x3, x14, x15, x16 => if x16 < x15 then (if 0 ≤ x16 then (if x16 < (x14.length : Int) then ((impl_bit.f (rdOf false x14 x16)).bind fun t454 => (impl_State_code.l0 k (Go.bits .or .i64 x3 (shl .i64 t454 x16)) x14 x15 (wrap64 (x16 + 1)))) else (none)) else (none)) else (some x3)
def impl_State_code.f (k : Nat) (l0_0 : List Bool) (a0_1 : Bool) : Option (Int) := (impl_bit.f a0_1).bind fun t452 => (impl_State_code.l0 k (shl .i64 t452 (l0_0.length : Int)) l0_0 (l0_0.length : Int) 0)
theorem impl_State_code.mono_l : ∀ k, (∀ y0 y1 y2 y3, LeO (impl_State_code.l0 k y0 y1 y2 y3) (impl_State_code.l0 (k + 1) y0 y1 y2 y3))
 | 0 => fun _ _ _ _ r h => by simp [impl_State_code.l0] at h
 | k + 1 => by
  have ih0 := impl_State_code.mono_l k
  ·intro y0 y1 y2 y3
   unfold impl_State_code.l0
   repeat' first
   | (with_reducible first | exact ih0 _ _ _ _ | exact LeO.refl _ | exact LeO.none _ | refine LeO.ite ?_ ?_ | refine LeO.bind ?_ (fun _ => ?_))
theorem impl_State_code.mono : ∀ a0 a1 k, LeO (impl_State_code.f k a0 a1) (impl_State_code.f (k + 1) a0 a1) := by
 intro a0 a1 k
 have ih0 := impl_State_code.mono_l k
 unfold impl_State_code.f
 repeat' first
  | (with_reducible first | exact ih0 _ _ _ _ | exact LeO.refl _ | exact LeO.none _ | refine LeO.ite ?_ ?_ | refine LeO.bind ?_ (fun _ => ?_))
theorem impl_State_code.calls (k : Nat) (A0_0 : Option Addr) (c0_0 : Nat) (l0_0 : List Bool) (a0_1 : Bool) (r : Int) (w : World) (hr0_0 : Kd.C Kd.bool w A0_0 l0_0.length l0_0) (hc0_0 : l0_0.length ≤ c0_0) (h : impl_State_code.f k l0_0 a0_1 = some r) :
  Calls Try.prog 82 #[.agg #[.slice A0_0 l0_0.length c0_0, .bool a0_1]] w fun e w' => e = .returned (.int .i64 r) ∧ Below w.heap.size w w' := by
 have hu94 := Try.underlying94
 have HR0_0 := ak_ hr0_0
 have HC0_0 := ak_ hc0_0
 clear hr0_0 hc0_0
 have HB := ak_ (Below.refl w.heap.size w)
 have H : ((impl_bit.f a0_1).bind fun t452 => (impl_State_code.l0 k (shl .i64 t452 (l0_0.length : Int)) l0_0 (l0_0.length : Int) 0)) = some r := h
 clear h
 replace H := Option.bind_eq_some_iff.mp H
 obtain ⟨t452, A20, H⟩ := H
 replace H : (impl_State_code.l0 k (shl .i64 t452 (l0_0.length : Int)) l0_0 (l0_0.length : Int) 0) = some r := H
 have A2 := ak_ A20
 clear A20
 obtain ⟨ji3, hji3⟩ : ∃ j_ : Int, (shl .i64 t452 (l0_0.length : Int)) = j_ := ⟨_, rfl⟩
 replace H : (impl_State_code.l0 k ji3 l0_0 (l0_0.length : Int) 0) = some r := by first | (rw [hji3] at H; exact H) | (simp only [hji3] at H ⊢; exact H)
 (try rw [hji3] at A2)
 have hji3_ : (IntKind.i64.wrap (t452 * 2 ^ min (l0_0.length : Int).toNat 64)) = ji3 := hji3
 have hji3z : (l0_0.length : Int) ≤ 64 → (IntKind.i64.wrap (t452 * 2 ^ (l0_0.length : Int).toNat)) = ji3 := shl_small hji3
 have hji3p : (IntKind.i64.wrap (t452 * 2 ^ min l0_0.length 64)) = ji3 := hji3_
 have hji3q : (l0_0.length : Int) ≤ 64 → (IntKind.i64.wrap (t452 * 2 ^ l0_0.length)) = ji3 := hji3z
 have hji3y : (wrap64 (t452 * 2 ^ min (l0_0.length : Int).toNat 64)) = ji3 := (i64_w _).symm.trans hji3_
 have hji3x : (l0_0.length : Int) ≤ 64 → (wrap64 (t452 * 2 ^ (l0_0.length : Int).toNat)) = ji3 := fun h_ => (i64_w _).symm.trans (hji3z h_)
 have H' := ak_ H
 clear H
 go_enter Try.func82, Try.ntmps82
 go_wp2_with (first | ((with_reducible refine gate_dst (N := 1) rfl ?_); refine bx_ 1 #[.slice A0_0 l0_0.length c0_0, .bool a0_1] 94 ?_; intro gb451 hg w4 hbox hb; have BK451 := ak_ (hbox); have GW451 := ak_ ((by rw [hg]; exact (bz_ (bb_ HB.out)) : w.heap.size ≤ gb451)); replace HB := ak_ (bs_ (bb_ HB.out) hb); have GE451 := GW451; clear hb hbox hg; obtain ⟨hcz5_0, hcz5_1, hfz5_0, hfz5_1⟩ := c2_ BK451.out) | (go_at_call 81; (with_reducible refine (impl_bit.calls a0_1 t452 _ A2.out).mono ?_); rintro e w' ⟨rfl, ⟨nd, rfl⟩⟩; (try first | exact ⟨rfl, _, World.drewN_drewN _ _ _⟩ | exact ⟨rfl, _, Eq.trans (World.drewN_drewN _ _ _) (congrArg (World.drewN _) (Nat.add_assoc _ _ _))⟩)))
 repeat (go_quiet (first | ((with_reducible refine gate_dst (N := 1) rfl ?_); refine bx_ 1 #[.slice A0_0 l0_0.length c0_0, .bool a0_1] 94 ?_; intro gb451 hg w4 hbox hb; have BK451 := ak_ (hbox); have GW451 := ak_ ((by rw [hg]; exact (bz_ (bb_ HB.out)) : w.heap.size ≤ gb451)); replace HB := ak_ (bs_ (bb_ HB.out) hb); have GE451 := GW451; clear hb hbox hg; obtain ⟨hcz5_0, hcz5_1, hfz5_0, hfz5_1⟩ := c2_ BK451.out) | (go_at_call 81; (with_reducible refine (impl_bit.calls a0_1 t452 _ A2.out).mono ?_); rintro e w' ⟨rfl, ⟨nd, rfl⟩⟩; (try first | exact ⟨rfl, _, World.drewN_drewN _ _ _⟩ | exact ⟨rfl, _, Eq.trans (World.drewN_drewN _ _ _) (congrArg (World.drewN _) (Nat.add_assoc _ _ _))⟩))); try go_wp2_with (first | ((with_reducible refine gate_dst (N := 1) rfl ?_); refine bx_ 1 #[.slice A0_0 l0_0.length c0_0, .bool a0_1] 94 ?_; intro gb451 hg w4 hbox hb; have BK451 := ak_ (hbox); have GW451 := ak_ ((by rw [hg]; exact (bz_ (bb_ HB.out)) : w.heap.size ≤ gb451)); replace HB := ak_ (bs_ (bb_ HB.out) hb); have GE451 := GW451; clear hb hbox hg; obtain ⟨hcz5_0, hcz5_1, hfz5_0, hfz5_1⟩ := c2_ BK451.out) | (go_at_call 81; (with_reducible refine (impl_bit.calls a0_1 t452 _ A2.out).mono ?_); rintro e w' ⟨rfl, ⟨nd, rfl⟩⟩; (try first | exact ⟨rfl, _, World.drewN_drewN _ _ _⟩ | exact ⟨rfl, _, Eq.trans (World.drewN_drewN _ _ _) (congrArg (World.drewN _) (Nat.add_assoc _ _ _))⟩))))
 go_loopg [3, 16] k (fun kq v3 v16 w' => ∃ (x3_1 : Int) (x16_1 : Int), v3 = .int .i64 x3_1 ∧ v16 = .int .i64 x16_1 ∧ Aside0 (impl_State_code.l0 kq x3_1 l0_0 (l0_0.length : Int) x16_1 = some r) ∧ Aside0 (kq ≤ k) ∧ Aside0 (w'.heap[gb451]? = some (.cells #[(.slice A0_0 l0_0.length c0_0), .bool a0_1] 94 (0, 0))) ∧ Aside0 (Below w.heap.size w w'))
 case atStart => exact ⟨(ji3), (0), (by first | rfl | (simp; done) | (simp only [← hji3] <;> (first | rfl | simp)) | (simp [*]; done)), (ry_), H', ⟨Nat.le_refl _⟩, ⟨pk BK451.out⟩, ⟨bl_⟩⟩
 case round =>
  clear H'
  try clear p2
  try clear hcz5_0
  try clear hcz5_1
  try clear hfz5_0
  try clear hfz5_1
  obtain ⟨x3_1, x16_1, rfl, rfl, HA, HK1, BK451, HB⟩ := hrel
  cases gk with
  | zero => exact absurd HA.out (by simp [impl_State_code.l0])
  | succ k1 =>
   have H := HA.out
   clear HA
   simp only [impl_State_code.l0] at H
   by_cases c6 : x16_1 < (l0_0.length : Int)
   ·
    rw [if_pos c6] at H
    have c6b0 := decide_eq_true c6
    clear c6
    by_cases c7 : 0 ≤ x16_1
    ·
     rw [if_pos c7] at H
     have c7b0 := decide_eq_true c7
     clear c7
     by_cases c8 : x16_1 < (l0_0.length : Int)
     ·
      rw [if_pos c8] at H
      have c8b0 := decide_eq_true c8
      clear c8
      replace H := Option.bind_eq_some_iff.mp H
      obtain ⟨t454, A90, H⟩ := H
      replace H : (impl_State_code.l0 k1 (Go.bits .or .i64 x3_1 (shl .i64 t454 x16_1)) l0_0 (l0_0.length : Int) (wrap64 (x16_1 + 1))) = some r := H
      have A9 := ak_ A90
      clear A90
      have c10b0 := eq_true (odt_ (by assumption) : 0 ≤ x16_1)
      obtain ⟨ji11, hji11⟩ : ∃ j_ : Int, (shl .i64 t454 x16_1) = j_ := ⟨_, rfl⟩
      replace H : (impl_State_code.l0 k1 (Go.bits .or .i64 x3_1 (ji11)) l0_0 (l0_0.length : Int) (wrap64 (x16_1 + 1))) = some r := by first | (rw [hji11] at H; exact H) | (simp only [hji11] at H ⊢; exact H)
      (try rw [hji11] at A9)
      have hji11_ : (IntKind.i64.wrap (t454 * 2 ^ min x16_1.toNat 64)) = ji11 := hji11
      have hji11z : x16_1 ≤ 64 → (IntKind.i64.wrap (t454 * 2 ^ x16_1.toNat)) = ji11 := shl_small hji11
      have hji11y : (wrap64 (t454 * 2 ^ min x16_1.toNat 64)) = ji11 := (i64_w _).symm.trans hji11_
      have hji11x : x16_1 ≤ 64 → (wrap64 (t454 * 2 ^ x16_1.toNat)) = ji11 := fun h_ => (i64_w _).symm.trans (hji11z h_)
      have H' := ak_ H
      clear H
      have p453 : 0 ≤ (x16_1 : Int) := od_
      have q453 : x16_1 < (l0_0.length : Int) := od_
      obtain ⟨ad453, e453, hx453_0⟩ := Kd.at_bool HR0_0.out x16_1 p453 q453
      cases e453
      try replace hx453_0 := (HB.out.cell (World.block_lt_of_cell? w _ hx453_0)).trans hx453_0
      replace p453 := eq_true p453
      replace q453 := eq_true q453
      go_wp2_with (first | (go_at_call 81; (with_reducible refine (impl_bit.calls (rdOf false l0_0 x16_1) t454 _ A9.out).mono ?_); rintro e w' ⟨rfl, ⟨nd, rfl⟩⟩; (try first | exact ⟨rfl, _, World.drewN_drewN _ _ _⟩ | exact ⟨rfl, _, Eq.trans (World.drewN_drewN _ _ _) (congrArg (World.drewN _) (Nat.add_assoc _ _ _))⟩)))
      repeat (go_quiet (first | (go_at_call 81; (with_reducible refine (impl_bit.calls (rdOf false l0_0 x16_1) t454 _ A9.out).mono ?_); rintro e w' ⟨rfl, ⟨nd, rfl⟩⟩; (try first | exact ⟨rfl, _, World.drewN_drewN _ _ _⟩ | exact ⟨rfl, _, Eq.trans (World.drewN_drewN _ _ _) (congrArg (World.drewN _) (Nat.add_assoc _ _ _))⟩))); try go_wp2_with (first | (go_at_call 81; (with_reducible refine (impl_bit.calls (rdOf false l0_0 x16_1) t454 _ A9.out).mono ?_); rintro e w' ⟨rfl, ⟨nd, rfl⟩⟩; (try first | exact ⟨rfl, _, World.drewN_drewN _ _ _⟩ | exact ⟨rfl, _, Eq.trans (World.drewN_drewN _ _ _) (congrArg (World.drewN _) (Nat.add_assoc _ _ _))⟩))))
      go_roundg k1
      case measure => have := HK1.out; omega
      case rel => exact ⟨(Go.bits .or .i64 x3_1 (ji11)), (wrap64 (x16_1 + 1)), (by first | rfl | (simp; done) | (simp only [← hji11] <;> (first | rfl | simp)) | (simp [*]; done)), (ry_), H', ⟨by have := HK1.out; omega⟩, ⟨pk BK451.out⟩, ⟨bl_⟩⟩
     ·
      rw [if_neg c8] at H
      exact absurd H (by simp)
    ·
     rw [if_neg c7] at H
     exact absurd H (by simp)
   ·
    rw [if_neg c6] at H
    have c6b0 := decide_eq_false c6
    clear c6
    obtain rfl := Option.some.inj H
    go_wp2
    repeat (go_quiet (fail); try go_wp2)
    go_ret
    exact ⟨by first | rfl | (simp [errW_none, errW_some] <;> rfl) | (simp only [← hji3]; first | rfl | (simp [errW_none, errW_some] <;> rfl)) | (simp [*, errW_none, errW_some] <;> rfl), bl_⟩
def impl_Camp_code.f (k : Nat) (l0_0 : List Bool) (a0_1 : Int) : Option (Int) := (impl_State_code.f k l0_0 false).bind fun t456 => (some (Go.bits .or .i64 (shl .i64 a0_1 (l0_0.length : Int)) t456))
theorem impl_Camp_code.mono : ∀ a0 a1 k, LeO (impl_Camp_code.f k a0 a1) (impl_Camp_code.f (k + 1) a0 a1) := by
 intro a0 a1 k
 unfold impl_Camp_code.f
 repeat' first
  | (with_reducible first | exact impl_State_code.mono _ _ _ | exact LeO.refl _ | exact LeO.none _ | refine LeO.ite ?_ ?_ | refine LeO.bind ?_ (fun _ => ?_))
def impl_Camp_code.T1 : Bool × List (List Nat × List Nat) := (true, [([], []), ([0], [0]), ([], []), ([2], [2]), ([3], [3]), ([1, 4], [1, 4]), ([], []), ([6], [6]), ([7], [7]), ([8], [8]), ([5, 9], [5, 9]), ([10, 9, 0, 1, 2, 3, 4, 5, 6, 7, 8, 9, 10], [10])])
def impl_Camp_code.B1 : List Nat := [0, 1, 0, 4, 12, 31, 0, 64, 192, 448, 1023, 2047]
theorem impl_Camp_code.tab1 : rtab .any (opsOf Try.f60 1) = impl_Camp_code.T1 := by kernel_rfl
theorem impl_Camp_code.bits1 : waitsOk impl_Camp_code.T1.2 impl_Camp_code.B1 = true := by kernel_rfl
theorem impl_Camp_code.calls (k : Nat) (A0_0 : Option Addr) (c0_0 : Nat) (l0_0 : List Bool) (a0_1 : Int) (r : Int) (w : World) (hr0_0 : Kd.C Kd.bool w A0_0 l0_0.length l0_0) (hc0_0 : l0_0.length ≤ c0_0) (h : impl_Camp_code.f k l0_0 a0_1 = some r) :
  Calls Try.prog 60 #[.agg #[.slice A0_0 l0_0.length c0_0, .int .i64 a0_1]] w fun e w' => e = .returned (.int .i64 r) ∧ Below w.heap.size w w' := by
 have hu35 := Try.underlying35
 have hu94 := Try.underlying94
 have HR0_0 := ak_ hr0_0
 have HC0_0 := ak_ hc0_0
 clear hr0_0 hc0_0
 have HB := ak_ (Below.refl w.heap.size w)
 have H : ((impl_State_code.f k l0_0 false).bind fun t456 => (some (Go.bits .or .i64 (shl .i64 a0_1 (l0_0.length : Int)) t456))) = some r := h
 clear h
 obtain ⟨ji2, hji2⟩ : ∃ j_ : Int, (shl .i64 a0_1 (l0_0.length : Int)) = j_ := ⟨_, rfl⟩
 replace H : ((impl_State_code.f k l0_0 false).bind fun t456 => (some (Go.bits .or .i64 (ji2) t456))) = some r := by first | (rw [hji2] at H; exact H) | (simp only [hji2] at H ⊢; exact H)
 have hji2_ : (IntKind.i64.wrap (a0_1 * 2 ^ min (l0_0.length : Int).toNat 64)) = ji2 := hji2
 have hji2z : (l0_0.length : Int) ≤ 64 → (IntKind.i64.wrap (a0_1 * 2 ^ (l0_0.length : Int).toNat)) = ji2 := shl_small hji2
 have hji2p : (IntKind.i64.wrap (a0_1 * 2 ^ min l0_0.length 64)) = ji2 := hji2_
 have hji2q : (l0_0.length : Int) ≤ 64 → (IntKind.i64.wrap (a0_1 * 2 ^ l0_0.length)) = ji2 := hji2z
 have hji2y : (wrap64 (a0_1 * 2 ^ min (l0_0.length : Int).toNat 64)) = ji2 := (i64_w _).symm.trans hji2_
 have hji2x : (l0_0.length : Int) ≤ 64 → (wrap64 (a0_1 * 2 ^ (l0_0.length : Int).toNat)) = ji2 := fun h_ => (i64_w _).symm.trans (hji2z h_)
 replace H := Option.bind_eq_some_iff.mp H
 obtain ⟨t456, A30, H⟩ := H
 replace H : (some (Go.bits .or .i64 (ji2) t456)) = some r := H
 have A3 := ak_ A30
 clear A30
 obtain rfl := Option.some.inj H
 go_enter Try.func60, Try.ntmps60
 try go_wp2_with (first | ((with_reducible refine gate_dst (N := 1) rfl ?_); refine bx_ 1 #[.slice A0_0 l0_0.length c0_0, .int .i64 a0_1] 35 ?_; intro gb455 hg w4 hbox hb; have BK455 := ak_ (hbox); have GW455 := ak_ ((by rw [hg]; exact (bz_ (bb_ HB.out)) : w.heap.size ≤ gb455)); replace HB := ak_ (bs_ (bb_ HB.out) hb); have GE455 := GW455; clear hb hbox hg))
 have n0_ := ak_ (k1_ BK455.out)
 have n1_ := ak_ (b1_ HB.out)
 clear BK455 HB
 have BK455 := n0_; have HB := n1_
 clear n0_ n1_
 refine start_ (n := 12) (S := fun w' => w'.cell? ⟨gb455, 0, none⟩ = some (.slice A0_0 l0_0.length c0_0) ∧ w'.cell? ⟨gb455, 1, none⟩ = some (.int .i64 a0_1)) (ds := []) (mb_ 12 0) (by kernel_rfl) rfl rfl ⟨(blk_cell BK455.out 0).trans rfl, (blk_cell BK455.out 1).trans rfl⟩ (fun hHeld => ?_); refine with_tabW impl_Camp_code.tab1 impl_Camp_code.bits1 (fun HT_ HW_ => ?_)
 generalize w4.drew = w5 at BK455 HB hHeld ⊢
 refine pu_ 0 3 12 1 ?_
 refine pu_ 2 5 12 5 ?_
 refine pu_ 6 9 12 69 ?_
 refine tk_ 1 4 12 71 ?_ (hy := by rintro w' ⟨s0, s1⟩; go_simp; with_reducible rfl)
 refine tk_ 3 6 12 79 ?_ (hy := by rintro w' ⟨s0, s1⟩; go_simp; with_reducible rfl)
 refine pu_ 4 7 12 95 ?_
 refine pu_ 5 8 12 127 ?_
 refine tk_ 7 10 12 255 ?_ (hy := by rintro w' ⟨s0, s1⟩; go_simp; with_reducible rfl)
 refine pu_ 8 11 12 511 ?_
 refine on_ 9 12 12 1023 (fun K hK => ?_)
 refine goes_ Try.func82 (by kernel_rfl) rfl #[.agg #[.slice A0_0 l0_0.length c0_0, .bool false]] (by rfl) rfl rfl rs_ ?_
 with_reducible refine (impl_State_code.calls k _ _ l0_0 false t456 _ ?side1 ?side2 A3.out).mono ?_
 (case side1 => exact cs_ (Kd.C_below HR0_0.out HB.out))
 (case side2 => exact HC0_0.out)
 rintro e w6 ⟨rfl, hb⟩
 refine ⟨_, rfl, ?_⟩
 have n0_ := ak_ (blk_below (pk BK455.out) hb)
 have n1_ := ak_ (bs_ bl_ hb)
 clear BK455 HB
 have BK455 := n0_; have HB := n1_
 clear n0_ n1_
 (try clear hb)
 (try clear hb2)
 (try clear hk)
 (try clear hi)
 refine hK.out _ _ ⟨(blk_cell BK455.out 0).trans rfl, (blk_cell BK455.out 1).trans rfl⟩ (fun hHeld => ?_)
 clear hK K
 refine nm_ ?_
 refine pu_ 10 13 12 2047 ?_
 refine pu_ 11 2 12 4095 ?_
 refine done_ (done_of HT_.out (by kernel_rfl)) ?_
 try go_wp2
 go_ret
 exact ⟨by first | rfl | (simp [errW_none, errW_some] <;> rfl) | (simp only [← hji2]; first | rfl | (simp [errW_none, errW_some] <;> rfl)) | (simp [*, errW_none, errW_some] <;> rfl), bl_⟩
end Go.Proofs.Ytmdbhpbogbekmaa.QNt
